import PyProof.Rows.All
import HandS.ForMost
import HandS.Deep
import HandS.Exc
import HandS.ExcOwn
import HandS.TryOnly
import HandS.CallSlots
import HandS.WordsExc
import HandS.TupAny
import HandS.Wide
import HandS.IsInst
import HandS.Flow
import HandS.Conv
import HandS.Ends
import HandS.ExcIs
import HandS.Flt
import HandS.SetFor
import HandS.SortInts
import HandS.Style
import Open.Row
import PySem.Challenge.RW_trackswhole_k15_rooms_that_overlap
set_option Elab.async false
set_option linter.all false
set_option maxRecDepth 100000
set_option maxHeartbeats 1000000
namespace VL
open PySem PySem.Spec PyProof.Rows L2

/-! ### results -/
inductive R (α : Type) where
  | stuck
  | err (c : Str)
  | ok (a : α)
def R.bind {α β : Type} (x : R α) (f : α → R β) : R β := match x with
  | .stuck => .stuck
  | .err c => .err c
  | .ok a => f a
instance : Monad R where
  pure := R.ok
  bind := R.bind
@[simp] theorem R.bind_ok {α β : Type} (a : α) (f : α → R β) : R.bind (.ok a) f = f a := rfl
@[simp] theorem R.bind_err {α β : Type} (c : Str) (f : α → R β) : R.bind (.err c) f = .err c := rfl
@[simp] theorem R.bind_stuck {α β : Type} (f : α → R β) : R.bind .stuck f = .stuck := rfl
abbrev D := PyData
/-- the keys of a dict: ints and texts, or tuples of these -/
abbrev KS := Sum (List L2.Key) (List (List L2.Key))
def keyD : L2.Key → PyData
  | .inl i => .int i
  | .inr x => .str x
def KS.data : KS → List PyData
  | .inl ks => ks.map keyD
  | .inr ks => ks.map fun k => .tuple (k.map keyD)
def KS.len : KS → Nat
  | .inl ks => ks.length
  | .inr ks => ks.length
def hoD : KS → List V → HO
  | .inl ks, vs => .dK (ks.zip vs)
  | .inr ks, vs => .dT (ks.zip vs)
theorem KS.data_len (ks : KS) : ks.data.length = ks.len := by cases ks <;> simp [KS.data, KS.len]
/-- the class that stands under a name -/
def clsOf (K : PySem.W.Frag) (c : Str) : Option Addr := match PySem.W.nsIn K mainGlobals c with
  | some (some (.ref C)) => some C
  | _ => none
def insD (c : Str) (ns : List Str) (ds : List PyData) : PyData := .dict ((.none, .str c) :: (ns.map PyData.str).zip ds)
/-- what is never a tuple -/
def NoT (o : HO) : Prop := (∀ ys, o ≠ .tup ys) ∧ ∀ u ys, o ≠ .frz u (.tup ys)
theorem NoT.lst (vs : List V) : NoT (.lst vs) := ⟨fun ys h => (nomatch h), fun u ys h => (nomatch h)⟩
theorem NoT.hoD (ks : KS) (vs : List V) : NoT (hoD ks vs) := by cases ks <;> exact ⟨fun ys h => (nomatch h), fun u ys h => (nomatch h)⟩
theorem NoT.ins (C dx : Addr) (fs : List (Str × V)) : NoT (.ins C dx fs) := ⟨fun ys h => (nomatch h), fun u ys h => (nomatch h)⟩
theorem NoT.own (a : Addr) : NoT (.own a) := ⟨fun ys h => (nomatch h), fun u ys h => (nomatch h)⟩

mutual
/- the value v is the data d, its lists and tuples in the heap F -/
inductive Is (K : PySem.W.Frag) (F : Hp) : V → D → Prop
  | non : Is K F .non .none
  | bl (b : Bool) : Is K F (.bl b) (.bool b)
  | int (i : Int) : Is K F (.int i) (.int i)
  | str (x : Str) : Is K F (.str x) (.str x)
  | lst {a : Addr} {xs : List V} {ds : List D} : Rd F a (.lst xs) → IsAll K F xs ds → Is K F (.ref a) (.list ds)
  | tup {a : Addr} {xs : List V} {ds : List D} : SqT K F a xs → IsAll K F xs ds → Is K F (.ref a) (.tuple ds)
  /- a caught exception at a, of the class that stands under the name c -/
  | exc (a : Addr) (c : Str) : Is K F (.ref a) (.dict [(.none, .int (a : Int)), (.none, .str c)])
  | dct {a : Addr} {ks : KS} {vs : List V} {ds : List D} : Rd F a (hoD ks vs) → ks.len = vs.length → IsAll K F vs ds → Is K F (.ref a) (.dict (ks.data.zip ds))
  | ins {a C dx : Addr} {c : Str} {ns : List Str} {vs : List V} {ds : List D} : clsOf K c = some C → F a = some (.ins C dx (ns.zip vs)) → ns.length = vs.length → IsAll K F vs ds → Is K F (.ref a) (insD c ns ds)
inductive IsAll (K : PySem.W.Frag) (F : Hp) : List V → List D → Prop
  | nil : IsAll K F [] []
  | cons {v : V} {vs : List V} {d : D} {ds : List D} : Is K F v d → IsAll K F vs ds → IsAll K F (v :: vs) (d :: ds)
end
mutual
theorem Is.dp {K : PySem.W.Frag} {F : Hp} : ∀ {d : D} {v : V}, d.canLay0 = true → Is K F v d → Dp K F v d
  | .none, _, _, h => by cases h; exact .non
  | .bool b, _, _, h => by cases h; exact .bl b
  | .int i, _, _, h => by cases h; exact .int i
  | .str x, _, _, h => by cases h; exact .str x
  | .list ds, _, l, h => by cases h with | lst hs ha => exact .lst (.inl hs) (IsAll.dp (by simpa only [PyData.canLay0] using l) ha)
  | .tuple ds, _, l, h => by cases h with | tup hs ha => exact .tup hs (IsAll.dp (by simpa only [PyData.canLay0] using l) ha)
  | .dict _, _, l, h => by simp [PyData.canLay0] at l
theorem IsAll.dp {K : PySem.W.Frag} {F : Hp} : ∀ {ds : List D} {vs : List V}, PyData.canLayAll0 ds = true → IsAll K F vs ds → DpAll K F vs ds
  | [], _, _, h => by cases h; exact .nil
  | d :: ds, _, l, h => by
    cases h with
    | cons h1 h2 =>
      simp only [PyData.canLayAll0, Bool.and_eq_true] at l
      exact .cons (Is.dp l.1 h1) (IsAll.dp l.2 h2)
end
theorem Rd.mono {H H' : Hp} {a : Addr} {o : HO} (e : Same H H') (h : Rd H a o) : Rd H' a o := by
  rcases h with h | ⟨u, h⟩
  · exact .inl (e _ _ h)
  · exact .inr ⟨u, e _ _ h⟩
/-! ### heaps that grow -/
theorem Same.tupl {K : PySem.W.Frag} {H H' : Hp} {a : Addr} {xs : List V} (e : Same H H') (h : SqT K H a xs) : SqT K H' a xs := by
  rcases h with (z | ⟨u, z⟩) | z
  · exact .inl (.inl (e _ _ z))
  · exact .inl (.inr ⟨u, e _ _ z⟩)
  · exact .inr z
theorem Is.mono {K : PySem.W.Frag} {F F' : Hp} (e : Same F F') {d : D} {v : V} (h : Is K F v d) : Is K F' v d :=
  Is.rec (motive_1 := fun v d _ => Is K F' v d) (motive_2 := fun vs ds _ => IsAll K F' vs ds) .non (fun b => .bl b) (fun i => .int i) (fun x => .str x) (fun hs _ ih => .lst (Rd.mono e hs) ih) (fun hs _ ih => .tup (Same.tupl e hs) ih)
    (fun a c => .exc a c) (fun hr hl _ ih => .dct (Rd.mono e hr) hl ih) (fun hc hr hl _ ih => .ins hc (e _ _ hr) hl ih) .nil (fun _ _ i1 i2 => .cons i1 i2) h
theorem IsAll.mono {K : PySem.W.Frag} {F F' : Hp} (e : Same F F') : ∀ {ds : List D} {vs : List V}, IsAll K F vs ds → IsAll K F' vs ds
  | [], _, h => by cases h; exact .nil
  | d :: ds, _, h => by cases h with | cons h1 h2 => exact .cons (Is.mono e h1) (IsAll.mono e h2)
theorem IsAll.len {K : PySem.W.Frag} {F : Hp} : ∀ {ds : List D} {vs : List V}, IsAll K F vs ds → vs.length = ds.length
  | [], _, h => by cases h; rfl
  | d :: ds, _, h => by
    cases h with
    | cons h1 h2 => rw [List.length_cons, List.length_cons, IsAll.len h2]
theorem IsAll.get {K : PySem.W.Frag} {F : Hp} : ∀ {ds : List D} {vs : List V} {i : Nat} {v : V}, IsAll K F vs ds → vs[i]? = some v → ∃ d, ds[i]? = some d ∧ Is K F v d
  | [], _, i, v, h, e => by cases h; simp at e
  | d :: ds, _, 0, v, h, e => by
    cases h with
    | cons h1 h2 => simp at e; subst e; exact ⟨d, rfl, h1⟩
  | d :: ds, _, i + 1, v, h, e => by
    cases h with
    | cons h1 h2 =>
      obtain ⟨x, h3, h4⟩ := IsAll.get (i := i) h2 (by simpa using e)
      exact ⟨x, by simpa using h3, h4⟩
theorem IsAll.get' {K : PySem.W.Frag} {F : Hp} : ∀ {ds : List D} {vs : List V} {i : Nat} {d : D}, IsAll K F vs ds → ds[i]? = some d → ∃ v, vs[i]? = some v ∧ Is K F v d
  | [], _, i, v, h, e => by simp at e
  | d :: ds, _, 0, v, h, e => by
    cases h with
    | cons h1 h2 => simp at e; subst e; exact ⟨_, rfl, h1⟩
  | d :: ds, _, i + 1, v, h, e => by
    cases h with
    | cons h1 h2 =>
      obtain ⟨x, h3, h4⟩ := IsAll.get' (i := i) h2 (by simpa using e)
      exact ⟨x, by simpa using h3, h4⟩
theorem IsAll.append {K : PySem.W.Frag} {F : Hp} : ∀ {ds es : List D} {vs us : List V}, IsAll K F vs ds → IsAll K F us es → IsAll K F (vs ++ us) (ds ++ es)
  | [], _, _, _, h, g => by cases h; exact g
  | d :: ds, es, _, us, h, g => by
    cases h with
    | cons h1 h2 => exact .cons h1 (IsAll.append h2 g)
theorem IsAll.take {K : PySem.W.Frag} {F : Hp} : ∀ (n : Nat) {ds : List D} {vs : List V}, IsAll K F vs ds → IsAll K F (vs.take n) (ds.take n)
  | 0, _, _, h => by simp; exact .nil
  | n + 1, [], _, h => by cases h; simp; exact .nil
  | n + 1, d :: ds, _, h => by
    cases h with
    | cons h1 h2 => exact .cons h1 (IsAll.take n h2)
theorem IsAll.drop {K : PySem.W.Frag} {F : Hp} : ∀ (n : Nat) {ds : List D} {vs : List V}, IsAll K F vs ds → IsAll K F (vs.drop n) (ds.drop n)
  | 0, _, _, h => by simpa using h
  | n + 1, [], _, h => by cases h; simp; exact .nil
  | n + 1, d :: ds, _, h => by
    cases h with
    | cons h1 h2 => simpa using IsAll.drop n h2
theorem IsAll.set {K : PySem.W.Frag} {F : Hp} {x : D} {u : V} (hx : Is K F u x) : ∀ (n : Nat) {ds : List D} {vs : List V}, IsAll K F vs ds → IsAll K F (vs.set n u) (ds.set n x)
  | _, [], _, h => by cases h; simp; exact .nil
  | 0, d :: ds, _, h => by
    cases h with
    | cons h1 h2 => exact .cons hx h2
  | n + 1, d :: ds, _, h => by
    cases h with
    | cons h1 h2 => exact .cons h1 (IsAll.set hx n h2)
theorem IsAll.reverse {K : PySem.W.Frag} {F : Hp} : ∀ {ds : List D} {vs : List V}, IsAll K F vs ds → IsAll K F vs.reverse ds.reverse
  | [], _, h => by cases h; exact .nil
  | d :: ds, _, h => by
    cases h with
    | cons h1 h2 =>
      rw [List.reverse_cons, List.reverse_cons]
      exact IsAll.append (IsAll.reverse h2) (.cons h1 .nil)
/- data without lists -/
mutual
def lf : D → Bool
  | .list _ => false
  | .dict _ => false
  | .tuple xs => lfs xs
  | _ => true
def lfs : List D → Bool
  | [] => true
  | x :: xs => lf x && lfs xs
end
@[simp] theorem lf_int (i : Int) : lf (.int i) = true := by simp [lf]
@[simp] theorem lf_bool (i : Bool) : lf (.bool i) = true := by simp [lf]
@[simp] theorem lf_str (i : Str) : lf (.str i) = true := by simp [lf]
@[simp] theorem lf_none : lf .none = true := by simp [lf]
@[simp] theorem lf_tuple (xs : List D) : lf (.tuple xs) = lfs xs := by simp [lf]
@[simp] theorem lf_list (xs : List D) : lf (.list xs) = false := by simp [lf]
@[simp] theorem lfs_nil : lfs [] = true := by simp [lfs]
@[simp] theorem lfs_cons (x : D) (xs : List D) : lfs (x :: xs) = (lf x && lfs xs) := by simp [lfs]
theorem rd_keep {F F' : Hp} {a : Addr} {xs : List V} (e : ∀ b, (∃ ys, Rd F b (.tup ys)) → F' b = F b) (h : Rd F a (.tup xs)) : Rd F' a (.tup xs) := by
  have := e a ⟨xs, h⟩
  rcases h with h | ⟨o, h⟩
  · exact .inl (by rw [this]; exact h)
  · exact .inr ⟨o, by rw [this]; exact h⟩
mutual
theorem Is.lfree {K : PySem.W.Frag} {F F' : Hp} (e : ∀ b, (∃ ys, Rd F b (.tup ys)) → F' b = F b) : ∀ {d : D} {v : V}, lf d = true → Is K F v d → Is K F' v d
  | .none, _, _, h => by cases h; exact .non
  | .bool b, _, _, h => by cases h; exact .bl b
  | .int i, _, _, h => by cases h; exact .int i
  | .str x, _, _, h => by cases h; exact .str x
  | .list ds, _, l, h => by simp at l
  | .tuple ds, _, l, h => by
    cases h with
    | tup hs ha =>
      refine .tup ?_ (IsAll.lfree e (by simpa using l) ha)
      rcases hs with hs | hs
      · exact .inl (rd_keep e hs)
      · exact .inr hs
  | .dict _, _, l, h => by simp [lf] at l
theorem IsAll.lfree {K : PySem.W.Frag} {F F' : Hp} (e : ∀ b, (∃ ys, Rd F b (.tup ys)) → F' b = F b) : ∀ {ds : List D} {vs : List V}, lfs ds = true → IsAll K F vs ds → IsAll K F' vs ds
  | [], _, _, h => by cases h; exact .nil
  | d :: ds, _, l, h => by
    cases h with
    | cons h1 h2 =>
      simp at l
      exact .cons (Is.lfree e l.1 h1) (IsAll.lfree e l.2 h2)
end

/-- the heap has grown, and so has its frozen part; what is newly frozen is new -/
structure Ext (B H B' H' : Hp) : Prop where
  hh : Same H H'
  bb : Same B B'
  bh : Same B' H'
  nw : ∀ a, B a = none → B' a ≠ none → H a = none
theorem Ext.refl {B H : Hp} (h : Same B H) : Ext B H B H := ⟨Same.refl H, Same.refl B, h, fun a x y => absurd x y⟩
theorem Ext.trans {B H B1 H1 B2 H2 : Hp} (a : Ext B H B1 H1) (b : Ext B1 H1 B2 H2) : Ext B H B2 H2 :=
  ⟨a.hh.trans b.hh, a.bb.trans b.bb, b.bh, fun x h1 h2 => by
    cases e : B1 x with
    | none => exact Same.free a.hh (b.nw x e h2)
    | some o => exact a.nw x h1 (by rw [e]; exact fun z => nomatch z)⟩
theorem same_upd {H : Hp} {p : Addr} {o : HO} (h : H p = none) : Same H (upd H p o) := fun b u e => by
  rw [upd_ne (ne_of_none e h)]
  exact e
/-- a new object, frozen at once -/
theorem Ext.new {B H : Hp} {p : Addr} {o : HO} (h : Same B H) (n : H p = none) : Ext B H (upd B p o) (upd H p o) := by
  refine ⟨same_upd n, same_upd (Same.free h n), fun b x e => ?_, fun a h1 h2 => ?_⟩
  · by_cases hb : b = p
    · subst hb; rw [upd_same] at e ⊢; exact e
    · rw [upd_ne hb] at e ⊢; exact h _ _ e
  · by_cases hb : a = p
    · subst hb; exact n
    · rw [upd_ne hb] at h2; exact absurd h1 h2
/-- a new object that stays one's own -/
theorem Ext.own {B H : Hp} {p : Addr} {o : HO} (h : Same B H) (n : H p = none) : Ext B H B (upd H p o) :=
  ⟨same_upd n, Same.refl B, h.trans (same_upd n), fun a x y => absurd x y⟩

/-! ### sizes that every state knows -/
def Small (K : PySem.W.Frag) (H : Hp) : Prop := ∀ a xs, SqL K H a xs ∨ SqT K H a xs → xs.length ≤ sizeLine
theorem Inv.small {X : Cx} {pins : List (Addr × Obj)} {σ : L2.St} {H : Hp} {s : Shared} (I : Inv X pins σ H s) : Small X.K H := fun a xs h => by
  rcases h with h | h
  · obtain ⟨_, _, _, z⟩ := I.list h; exact z
  · obtain ⟨_, _, _, z⟩ := I.tuple h; exact z
theorem pe_small {X : Cx} {e : Expr} {t : TE} (h : PE X e t) : PE X e (fun σ H Q => t σ H fun v H' => Small X.K H' → Q v H') := ⟨fun pins s σ H Q I hw =>
  thn (h.run pins s σ H _ I hw) fun u s' ⟨v, H', I', r, q⟩ => ⟨v, H', I', r, q (Inv.small I')⟩⟩
theorem pi_small {X : Cx} {tg it : Expr} {t : TI} (h : PI X tg it t) : PI X tg it (fun σ H Q => t σ H fun J H' => Small X.K H' → Q J H') := ⟨fun pins s σ H R I hw =>
  thn (h.run pins s σ H _ I hw) fun v s1 h1 => thn h1 fun itv s2 ⟨it, fp, tn, J, H', e1, I2, T, st, fo, q⟩ => ⟨it, fp, tn, J, H', e1, I2, T, st, fo, q (Inv.small I2)⟩⟩
theorem Small.list {K : PySem.W.Frag} {B H : Hp} {v : V} {ds : List D} (s : Small K H) (e : Same B H) (h : Is K B v (.list ds)) : ds.length ≤ sizeLine := by
  cases h with
  | lst hs ha => rw [← IsAll.len ha]; exact s _ _ (.inl (.inl (Rd.mono e hs)))
theorem Small.tuple {K : PySem.W.Frag} {B H : Hp} {v : V} {ds : List D} (s : Small K H) (e : Same B H) (h : Is K B v (.tuple ds)) : ds.length ≤ sizeLine := by
  cases h with
  | tup hs ha => rw [← IsAll.len ha]; exact s _ _ (.inr (Same.tupl e hs))

/-! ### pure expressions -/
abbrev PEnv := List (Option D)
structure RF (K : PySem.W.Frag) (B : Hp) (σ : L2.St) (ρ : PEnv) : Prop where
  len : σ.length = ρ.length
  at_ : ∀ (i : Nat) (d : D), ρ[i]? = some (some d) → ∃ v, σ[i]? = some (some v) ∧ Is K B v d
theorem RF.mono {K : PySem.W.Frag} {B B' : Hp} {σ : L2.St} {ρ : PEnv} (h : RF K B σ ρ) (e : Same B B') : RF K B' σ ρ := ⟨h.len, fun i d x => by
  obtain ⟨v, h1, h2⟩ := h.at_ i d x
  exact ⟨v, h1, Is.mono e h2⟩⟩
/-- an error of the class that stands under the name c -/
def ErrAt (X : Cx) (W : WX) (c : Str) (σ : L2.St) (H : Hp) : Prop := ∃ C, X.mg c = some (.ref C) ∧ W (.ref C) none σ H
def Pst {α : Type} (X : Cx) (W : WX) (σ : L2.St) (H : Hp) (k : α → Prop) : R α → Prop
  | .stuck => False
  | .err c => ∀ H', Same H H' → ErrAt X W c σ H'
  | .ok a => k a
theorem Pst.imp {α : Type} {X : Cx} {W : WX} {σ : L2.St} {H : Hp} {k k' : α → Prop} (h : ∀ a, k a → k' a) : ∀ {r : R α}, Pst X W σ H k r → Pst X W σ H k' r
  | .stuck, x => x
  | .err _, x => x
  | .ok a, x => h a x
/-- the wanted end for a pure value -/
def KV1 (X : Cx) (B H : Hp) (Q : VK) (d : D) : Prop := ∀ v H' B', Ext B H B' H' → Small X.K H' → Is X.K B' v d → Q v H'
structure VE (X : Cx) (W : WX) (e : Expr) (f : PEnv → R D) : Prop where
  ex : ∃ t, PE X e t ∧ ∀ σ H B ρ Q, Same B H → RF X.K B σ ρ → Pst X W σ H (KV1 X B H Q) (f ρ) → t σ H Q
def KB1 (B H : Hp) (Q : Bool → Hp → Prop) (b : Bool) : Prop := ∀ H' B', Ext B H B' H' → Q b H'
structure VT (X : Cx) (W : WX) (e : Expr) (f : PEnv → R Bool) : Prop where
  ex : ∃ t, PT X e t ∧ ∀ σ H B ρ Q, Same B H → RF X.K B σ ρ → Pst X W σ H (KB1 B H Q) (f ρ) → t σ H Q
def KA1 (X : Cx) (B H : Hp) (Q : List V → Hp → Prop) (ds : List D) : Prop := ∀ vs H' B', Ext B H B' H' → IsAll X.K B' vs ds → Q vs H'
structure VA (X : Cx) (W : WX) (es : List Expr) (f : PEnv → R (List D)) : Prop where
  ex : ∃ t, PA X es t ∧ ∀ σ H B ρ Q, Same B H → RF X.K B σ ρ → Pst X W σ H (KA1 X B H Q) (f ρ) → t σ H Q

section
variable {X : Cx} {W : WX} {a b c : Expr} {es : List Expr} {pos : Pos} {fa fb fc : PEnv → R D}
/-- a rule for VE from a PE; the small sizes come by themselves -/
theorem VE.mk' {e : Expr} {f : PEnv → R D} {t : TE} (h : PE X e t)
    (q : ∀ σ H B ρ Q, Same B H → RF X.K B σ ρ → Pst X W σ H (fun d => ∀ v H' B', Ext B H B' H' → Is X.K B' v d → Q v H') (f ρ) → t σ H Q) : VE X W e f :=
  ⟨_, pe_small h, fun σ H B ρ Q s r p => q σ H B ρ _ s r (Pst.imp (fun d k v H' B' e dp sm => k v H' B' e sm dp) p)⟩

def vVar (i : Nat) : PEnv → R D := fun ρ => match ρ[i]? with
  | some (some d) => .ok d
  | _ => .stuck
def vC (d : D) : PEnv → R D := fun _ => .ok d
theorem vv (i : Nat) {x : Str} (hN : X.N[i]? = some x := by rfl) (hv : Vis X.env.scope x := by first | exact Or.inl rfl | exact Or.inr (Or.inl rfl) | exact Or.inr (Or.inr rfl)) (hd : (x == ("__debug__" : Str)) = false := by decide)
    (hcd : (x == ("__classdict__" : Str)) = false := by decide) : VE X W (.Name x pos) (vVar i) := by
  refine VE.mk' (pe_var hN hv hd hcd) fun σ H B ρ Q s r p => ?_
  unfold vVar at p
  split at p
  · rename_i d e
    obtain ⟨v, e1, dp⟩ := r.at_ i d e
    exact ⟨v, e1, p v H B (.refl s) dp⟩
  · exact p.elim
theorem vint {i j} : VE X W (.Constant (.int i) j pos) (vC (.int i)) := VE.mk' pe_int fun σ H B ρ Q s r p => p _ H B (.refl s) (.int i)
theorem vbool {i j} : VE X W (.Constant (.bool i) j pos) (vC (.bool i)) := VE.mk' pe_bl fun σ H B ρ Q s r p => p _ H B (.refl s) (.bl i)
theorem vnone {j} : VE X W (.Constant .none j pos) (vC .none) := VE.mk' pe_non fun σ H B ρ Q s r p => p _ H B (.refl s) .non
theorem vstr {i j} : VE X W (.Constant (.str i) j pos) (vC (.str i)) := VE.mk' pe_str fun σ H B ρ Q s r p => p _ H B (.refl s) (.str i)
/-- a constant of the module: a value that stands by itself in the written part -/
theorem vglob {x : Str} {v : V} {u : Value} {d : D} (hg : Gl X x) (hm : X.mg x = some u) (r : RelV v u) (hd : ∀ H, Is X.K H v d) (hdb : (x == ("__debug__" : Str)) = false := by decide) : VE X W (.Name x pos) (vC d) :=
  VE.mk' (pe_glob hg hm r hdb) fun σ H B ρ Q s _ p => p v H B (.refl s) (hd B)

/-! two values -/
def v2 (g : D → D → R D) (fa fb : PEnv → R D) : PEnv → R D := fun ρ => (fa ρ).bind fun d => (fb ρ).bind fun e => g d e
def v1 (g : D → R D) (fa : PEnv → R D) : PEnv → R D := fun ρ => (fa ρ).bind g
/-- from the state, two values one after another -/
theorem two {ta tb : TE} (ha : ∀ σ H B ρ Q, Same B H → RF X.K B σ ρ → Pst X W σ H (KV1 X B H Q) (fa ρ) → ta σ H Q) (hb : ∀ σ H B ρ Q, Same B H → RF X.K B σ ρ → Pst X W σ H (KV1 X B H Q) (fb ρ) → tb σ H Q)
    {α : Type} {σ : L2.St} {H B : Hp} {ρ : PEnv} {g : D → D → R α} {K : α → Prop} {Q : V → V → Hp → Prop} (s : Same B H) (r : RF X.K B σ ρ)
    (p : Pst X W σ H K ((fa ρ).bind fun d => (fb ρ).bind fun e => g d e))
    (q : ∀ d e x y H' B', Ext B H B' H' → Small X.K H' → Is X.K B' x d → Is X.K B' y e → Pst X W σ H' K (g d e) → Q x y H') : ta σ H fun x H1 => tb σ H1 fun y H2 => Q x y H2 := by
  refine ha σ H B ρ _ s r ?_
  generalize hfa : fa ρ = ra at p ⊢
  cases ra with
  | stuck => exact p
  | err c => exact p
  | ok d =>
    intro x H1 B1 e1 sm1 d1
    refine hb σ H1 B1 ρ _ e1.bh (r.mono e1.bb) ?_
    simp only [R.bind_ok] at p
    generalize hfb : fb ρ = rb at p ⊢
    cases rb with
    | stuck => exact p
    | err c => exact fun H' z => p H' (e1.hh.trans z)
    | ok e =>
      intro y H2 B2 e2 sm2 d2
      refine q d e x y H2 B2 (e1.trans e2) sm2 (Is.mono e2.bb d1) d2 ?_
      simp only [R.bind_ok] at p
      generalize g d e = rg at p ⊢
      cases rg with
      | stuck => exact p
      | err c => exact fun H' z => p H' ((e1.trans e2).hh.trans z)
      | ok z => exact p
theorem one {ta : TE} (ha : ∀ σ H B ρ Q, Same B H → RF X.K B σ ρ → Pst X W σ H (KV1 X B H Q) (fa ρ) → ta σ H Q)
    {α : Type} {σ : L2.St} {H B : Hp} {ρ : PEnv} {g : D → R α} {K : α → Prop} {Q : V → Hp → Prop} (s : Same B H) (r : RF X.K B σ ρ)
    (p : Pst X W σ H K ((fa ρ).bind g))
    (q : ∀ d x H' B', Ext B H B' H' → Small X.K H' → Is X.K B' x d → Pst X W σ H' K (g d) → Q x H') : ta σ H Q := by
  refine ha σ H B ρ _ s r ?_
  generalize hfa : fa ρ = ra at p ⊢
  cases ra with
  | stuck => exact p
  | err c => exact p
  | ok d =>
    intro x H1 B1 e1 sm1 d1
    refine q d x H1 B1 e1 sm1 d1 ?_
    simp only [R.bind_ok] at p
    generalize g d = rg at p ⊢
    cases rg with
    | stuck => exact p
    | err c => exact fun H' z => p H' (e1.hh.trans z)
    | ok z => exact p
/-- what a two-place rule asks is given by g -/
def Rule2 (X : Cx) (W : WX) (r : R2) (g : D → D → R D) : Prop := ∀ d e x y σ H B Q, Same B H → Small X.K H → Is X.K B x d → Is X.K B y e → Pst X W σ H (fun d' => ∀ v H' B', Ext B H B' H' → Is X.K B' v d' → Q v H') (g d e) → r x y H Q
def Rule1 (X : Cx) (W : WX) (r : V → Hp → VK → Prop) (g : D → R D) : Prop := ∀ d x σ H B Q, Same B H → Small X.K H → Is X.K B x d → Pst X W σ H (fun d' => ∀ v H' B', Ext B H B' H' → Is X.K B' v d' → Q v H') (g d) → r x H Q
theorem kv_ext {B H B1 H1 : Hp} {Q : VK} {d : D} (e : Ext B H B1 H1) (p : ∀ v H' B', Ext B H B' H' → Is X.K B' v d → Q v H') : ∀ v H' B', Ext B1 H1 B' H' → Is X.K B' v d → Q v H' := fun v H' B' e' dp => p v H' B' (e.trans e') dp
theorem ve2 {e : Expr} {r : R2} {g : D → D → R D} (mk : ∀ {ta tb : TE}, PE X a ta → PE X b tb → PE X e (tOp r ta tb)) (hr : Rule2 X W r g) (ha : VE X W a fa) (hb : VE X W b fb) : VE X W e (v2 g fa fb) := by
  obtain ⟨ta, pa, qa⟩ := ha.ex
  obtain ⟨tb, pb, qb⟩ := hb.ex
  refine VE.mk' (mk pa pb) fun σ H B ρ Q s rf p => ?_
  exact two qa qb s rf p fun d e x y H' B' ex sm dx dy pg => hr d e x y σ H' B' Q ex.bh sm dx dy (Pst.imp (fun a k => kv_ext ex k) pg)
theorem ve1 {e : Expr} {r : V → Hp → VK → Prop} {g : D → R D} (mk : ∀ {ta : TE}, PE X a ta → PE X e (tUn r ta)) (hr : Rule1 X W r g) (ha : VE X W a fa) : VE X W e (v1 g fa) := by
  obtain ⟨ta, pa, qa⟩ := ha.ex
  refine VE.mk' (mk pa) fun σ H B ρ Q s rf p => ?_
  exact one qa s rf p fun d x H' B' ex sm dx pg => hr d x σ H' B' Q ex.bh sm dx (Pst.imp (fun a k => kv_ext ex k) pg)
end
end VL

namespace VL
open PySem PySem.Spec PyProof.Rows L2

noncomputable instance (a b : Int) : Decidable (IntMulOk a b) := Classical.propDecidable _

/-! ### what the operators give on data -/
def vadd : D → D → R D
  | .int i, .int j => .ok (.int (i + j))
  | .str x, .str y => if x.length + y.length ≤ sizeLine then .ok (.str (x ++ y)) else .stuck
  | .list xs, .list ys => if xs.length + ys.length ≤ sizeLine then .ok (.list (xs ++ ys)) else .stuck
  | .tuple xs, .tuple ys => if xs.length + ys.length ≤ sizeLine then .ok (.tuple (xs ++ ys)) else .stuck
  | _, _ => .stuck
def vsub : D → D → R D
  | .int i, .int j => .ok (.int (i - j))
  | _, _ => .stuck
noncomputable def vmul : D → D → R D
  | .int i, .int j => if IntMulOk i j then .ok (.int (i * j)) else .stuck
  | _, _ => .stuck
noncomputable def vfdiv : D → D → R D
  | .int i, .int j => @ite _ (0 < j ∧ j < 2 ^ 250) (Classical.propDecidable _) (.ok (.int (i / j))) .stuck
  | _, _ => .stuck
def vmod : D → D → R D
  | .int i, .int j => if 0 < j then .ok (.int (i % j)) else .stuck
  | _, _ => .stuck
noncomputable def vpow : D → D → R D
  | .int i, .int j => @ite _ (0 ≤ j ∧ j ≤ 1000 ∧ i.natAbs < 2 ^ 64) (Classical.propDecidable _) (.ok (.int (i ^ j.toNat))) .stuck
  | _, _ => .stuck
def vneg : D → R D
  | .int i => .ok (.int (-i))
  | _ => .stuck
def vlt : D → D → R D
  | .int i, .int j => .ok (.bool (decide (i < j)))
  | _, _ => .stuck
def vle : D → D → R D
  | .int i, .int j => .ok (.bool (decide (i ≤ j)))
  | _, _ => .stuck
def vgt : D → D → R D
  | .int i, .int j => .ok (.bool (decide (j < i)))
  | _, _ => .stuck
def vge : D → D → R D
  | .int i, .int j => .ok (.bool (decide (j ≤ i)))
  | _, _ => .stuck
/-- == -/
def vEq (d e : D) : R Bool := if SeqAt.shaped d = true ∧ SeqAt.shaped e = true then .ok (PyData.eqv d e) else .stuck
def veq (d e : D) : R D := (vEq d e).bind fun b => .ok (.bool b)
def vne (d e : D) : R D := (vEq d e).bind fun b => .ok (.bool (!b))
def visnone : D → R D := fun d => .ok (.bool (match d with | .none => true | _ => false))
def vidx : D → D → R D
  | .list xs, .int i => match atI xs i with | some d => .ok d | none => .stuck
  | .tuple xs, .int i => match atI xs i with | some d => .ok d | none => .stuck
  | .str z, .int i => match atI z.cps.toList i with | some c => if z.length ≤ sizeLine then .ok (.str ⟨#[c]⟩) else .stuck | none => .stuck
  | _, _ => .stuck
def vin (d : D) : D → R Bool
  | .list ds => if SeqAt.shaped d = true ∧ SeqAt.shaped (.list ds) = true then .ok (ds.any fun z => PyData.eqv z d) else .stuck
  | _ => .stuck

section
variable {X : Cx} {W : WX} {a b c : Expr} {es : List Expr} {pos : Pos} {fa fb fc : PEnv → R D} {k : Nat}

theorem atI_all {K : PySem.W.Frag} {F : Hp} {vs : List V} {ds : List D} {i : Int} {d : D} (h : IsAll K F vs ds) (e : atI ds i = some d) : ∃ v, atI vs i = some v ∧ Is K F v d := by
  unfold atI at e ⊢
  rw [IsAll.len h]
  cases q : ixN ds.length i with
  | none => rw [q] at e; simp at e
  | some j =>
    rw [q] at e
    simp only [Option.bind_some] at e ⊢
    exact IsAll.get' h e

theorem r_int {K : Int → Int → Prop} {g : Int → Int → V} {G : D → D → R D} {T : Int → Int → D} (hG : ∀ d e, G d e ≠ .stuck → ∃ i j, d = .int i ∧ e = .int j ∧ K i j ∧ G d e = .ok (T i j)) (hg : ∀ i j F, Is X.K F (g i j) (T i j)) : Rule2 X W (rI K g) G := by
  intro d e x y σ H B Q s sm dx dy p
  have h0 : G d e ≠ .stuck := fun z => by rw [z] at p; exact p
  obtain ⟨i, j, rfl, rfl, hk, eG⟩ := hG d e h0
  rw [eG] at p
  cases dx
  cases dy
  exact ⟨i, j, rfl, rfl, hk, p _ H B (.refl s) (hg i j B)⟩
theorem r_int0 {g : Int → Int → V} {G : D → D → R D} {T : Int → Int → D} (hG : ∀ d e, G d e ≠ .stuck → ∃ i j, d = .int i ∧ e = .int j ∧ G d e = .ok (T i j)) (hg : ∀ i j F, Is X.K F (g i j) (T i j)) : Rule2 X W (rI0 g) G := by
  intro d e x y σ H B Q s sm dx dy p
  have h0 : G d e ≠ .stuck := fun z => by rw [z] at p; exact p
  obtain ⟨i, j, rfl, rfl, eG⟩ := hG d e h0
  rw [eG] at p
  cases dx
  cases dy
  exact ⟨i, j, rfl, rfl, p _ H B (.refl s) (hg i j B)⟩

theorem vsub_ (ha : VE X W a fa) (hb : VE X W b fb) : VE X W (.BinOp a .Sub b pos) (v2 vsub fa fb) :=
  ve2 (fun p q => pe_op op_sub p q) (r_int0 (T := fun i j => .int (i - j)) (fun d e h => by cases d <;> first | exact absurd rfl h | (cases e <;> first | exact absurd rfl h | exact ⟨_, _, rfl, rfl, rfl⟩)) fun _ _ _ => .int _) ha hb
theorem vmul_ (ha : VE X W a fa) (hb : VE X W b fb) : VE X W (.BinOp a .Mult b pos) (v2 vmul fa fb) :=
  ve2 (fun p q => pe_op (r := rI IntMulOk fun i j => .int (i * j)) (opI fun _ _ _ _ _ _ _ hc q => mul_int q hc) p q) (r_int (T := fun i j => .int (i * j)) (fun d e h => by
    cases d <;> first | exact absurd rfl h | (cases e <;> first | exact absurd rfl h | skip)
    simp only [vmul] at h ⊢
    split at h
    · rename_i hm; exact ⟨_, _, rfl, rfl, hm, if_pos hm⟩
    · exact absurd rfl h) fun _ _ _ => .int _) ha hb
theorem log2_250 {j : Int} (h0 : 0 < j) (h : j < 2 ^ 250) : CDivW 0 j := wide_div h0 (b := 250) (by omega) (by omega) (by omega)
theorem vfdiv_ (ha : VE X W a fa) (hb : VE X W b fb) : VE X W (.BinOp a .FloorDiv b pos) (v2 vfdiv fa fb) :=
  ve2 (fun p q => pe_op op_fdivW p q) (r_int (K := CDivW) (T := fun i j => .int (i / j)) (fun d e h => by
    cases d <;> first | exact absurd rfl h | (cases e <;> first | exact absurd rfl h | skip)
    simp only [vfdiv] at h ⊢
    split at h
    · rename_i hm; exact ⟨_, _, rfl, rfl, log2_250 hm.1 hm.2, if_pos hm⟩
    · exact absurd rfl h) fun _ _ _ => .int _) ha hb
theorem vmod_ (ha : VE X W a fa) (hb : VE X W b fb) : VE X W (.BinOp a .Mod b pos) (v2 vmod fa fb) :=
  ve2 (fun p q => pe_op op_mod p q) (r_int (T := fun i j => .int (i % j)) (fun d e h => by
    cases d <;> first | exact absurd rfl h | (cases e <;> first | exact absurd rfl h | skip)
    simp only [vmod] at h ⊢
    split at h
    · rename_i hm; exact ⟨_, _, rfl, rfl, hm, if_pos hm⟩
    · exact absurd rfl h) fun _ _ _ => .int _) ha hb
theorem vpow_ (ha : VE X W a fa) (hb : VE X W b fb) : VE X W (.BinOp a .Pow b pos) (v2 vpow fa fb) :=
  ve2 (fun p q => pe_op op_pow p q) (r_int (T := fun i j => .int (i ^ j.toNat)) (fun d e h => by
    cases d <;> first | exact absurd rfl h | (cases e <;> first | exact absurd rfl h | skip)
    simp only [vpow] at h ⊢
    split at h
    · rename_i hm; exact ⟨_, _, rfl, rfl, ⟨hm.1, by omega, hm.2.2⟩, if_pos hm⟩
    · exact absurd rfl h) fun _ _ _ => .int _) ha hb
theorem vneg_ (ha : VE X W a fa) : VE X W (.UnaryOp .USub a pos) (v1 vneg fa) :=
  ve1 (fun p => pe_un un_neg p) (fun d x σ H B Q s sm dx p => by
    cases dx <;> first | exact p.elim | exact ⟨_, rfl, p _ H B (.refl s) (.int _)⟩) ha
/-- comparisons of ints -/
theorem vlt_ (ha : VE X W a fa) (hb : VE X W b fb) : VE X W (.Compare a [.Lt] [b] pos) (v2 vlt fa fb) :=
  ve2 (fun p q => pe_cmpR op_lt p q (nomark _)) (r_int0 (T := fun i j => .bool (decide (i < j))) (fun d e h => by cases d <;> first | exact absurd rfl h | (cases e <;> first | exact absurd rfl h | exact ⟨_, _, rfl, rfl, rfl⟩)) fun _ _ _ => .bl _) ha hb
theorem vle_ (ha : VE X W a fa) (hb : VE X W b fb) : VE X W (.Compare a [.LtE] [b] pos) (v2 vle fa fb) :=
  ve2 (fun p q => pe_cmpR op_le p q (nomark _)) (r_int0 (T := fun i j => .bool (decide (i ≤ j))) (fun d e h => by cases d <;> first | exact absurd rfl h | (cases e <;> first | exact absurd rfl h | exact ⟨_, _, rfl, rfl, rfl⟩)) fun _ _ _ => .bl _) ha hb
theorem vgt_ (ha : VE X W a fa) (hb : VE X W b fb) : VE X W (.Compare a [.Gt] [b] pos) (v2 vgt fa fb) :=
  ve2 (fun p q => pe_cmpR op_gt p q (nomark _)) (r_int0 (T := fun i j => .bool (decide (j < i))) (fun d e h => by cases d <;> first | exact absurd rfl h | (cases e <;> first | exact absurd rfl h | exact ⟨_, _, rfl, rfl, rfl⟩)) fun _ _ _ => .bl _) ha hb
theorem vge_ (ha : VE X W a fa) (hb : VE X W b fb) : VE X W (.Compare a [.GtE] [b] pos) (v2 vge fa fb) :=
  ve2 (fun p q => pe_cmpR op_ge p q (nomark _)) (r_int0 (T := fun i j => .bool (decide (j ≤ i))) (fun d e h => by cases d <;> first | exact absurd rfl h | (cases e <;> first | exact absurd rfl h | exact ⟨_, _, rfl, rfl, rfl⟩)) fun _ _ _ => .bl _) ha hb
theorem rule_eq : Rule2 X W (rEqD X.K) veq := fun d e x y σ H B Q s sm dx dy p => by
  unfold veq vEq at p
  split at p
  · rename_i h
    exact ⟨d, e, (Is.mono s dx).dp (SeqAt.canLay_of_shaped h.1), (Is.mono s dy).dp (SeqAt.canLay_of_shaped h.2), h.1, h.2, p _ H B (.refl s) (.bl _)⟩
  · exact p.elim
theorem rule_ne : Rule2 X W (rNeD X.K) vne := fun d e x y σ H B Q s sm dx dy p => by
  unfold vne vEq at p
  split at p
  · rename_i h
    exact ⟨d, e, (Is.mono s dx).dp (SeqAt.canLay_of_shaped h.1), (Is.mono s dy).dp (SeqAt.canLay_of_shaped h.2), h.1, h.2, p _ H B (.refl s) (.bl _)⟩
  · exact p.elim
theorem lt65 {n : Nat} (h : n + 65 < cLine) : n + 64 < cLine := by omega
theorem veq_ (hu : X.A.units + 65 < cLine) (ha : VE X W a fa) (hb : VE X W b fb) : VE X W (.Compare a [.Eq] [b] pos) (v2 veq fa fb) := ve2 (fun p q => pe_cmpR (op_eqD (lt65 hu)) p q (nomark _)) rule_eq ha hb
theorem vne_ (hu : X.A.units + 65 < cLine) (ha : VE X W a fa) (hb : VE X W b fb) : VE X W (.Compare a [.NotEq] [b] pos) (v2 vne fa fb) := ve2 (fun p q => pe_cmpR (op_neD (lt65 hu)) p q (nomark _)) rule_ne ha hb
theorem hu65 {A : Around} (hr : Room k A) : A.units + 65 < cLine := by have := hr.un; omega
theorem vin_ (hu : X.A.units + 65 < cLine) (ha : VE X W a fa) (hb : VE X W b fb) (hm : behindInMarks .In b = false := by with_unfolding_all rfl) : VE X W (.Compare a [.In] [b] pos) (v2 (fun d e => (vin d e).bind fun b => .ok (.bool b)) fa fb) :=
  ve2 (fun p q => pe_cmpR (op_inD hu) p q hm) (fun d e x y σ H B Q s sm dx dy p => by
    unfold vin at p
    cases e <;> first | exact p.elim | skip
    dsimp only at p
    split at p
    · rename_i h
      exact ⟨_, _, (Is.mono s dx).dp (SeqAt.canLay_of_shaped h.1), (Is.mono s dy).dp (SeqAt.canLay_of_shaped h.2), h.1, h.2, p _ H B (.refl s) (.bl _)⟩
    · exact p.elim) ha hb
theorem vnotin_ (hu : X.A.units + 65 < cLine) (ha : VE X W a fa) (hb : VE X W b fb) (hm : behindInMarks .NotIn b = false := by with_unfolding_all rfl) : VE X W (.Compare a [.NotIn] [b] pos) (v2 (fun d e => (vin d e).bind fun b => .ok (.bool (!b))) fa fb) :=
  ve2 (fun p q => pe_cmpR (op_notInD hu) p q hm) (fun d e x y σ H B Q s sm dx dy p => by
    unfold vin at p
    cases e <;> first | exact p.elim | skip
    dsimp only at p
    split at p
    · rename_i h
      exact ⟨_, _, (Is.mono s dx).dp (SeqAt.canLay_of_shaped h.1), (Is.mono s dy).dp (SeqAt.canLay_of_shaped h.2), h.1, h.2, p _ H B (.refl s) (.bl _)⟩
    · exact p.elim) ha hb
theorem visnone_ {j pos'} (ha : VE X W a fa) : VE X W (.Compare a [.Is] [.Constant .none j pos'] pos) (v1 visnone fa) := by
  obtain ⟨ta, pa, qa⟩ := ha.ex
  refine VE.mk' (pe_cmp (pc_isN pa) rfl) fun σ H B ρ Q s rf p => ?_
  refine one qa s rf p fun d x H' B' ex sm dx pg => ?_
  unfold visnone at pg
  cases dx <;> exact pg _ H' B' ex (.bl _)
theorem vnotnone_ {j pos'} (ha : VE X W a fa) : VE X W (.Compare a [.IsNot] [.Constant .none j pos'] pos) (v1 (fun d => (visnone d).bind fun b => match b with | .bool b => .ok (.bool (!b)) | _ => .stuck) fa) := by
  obtain ⟨ta, pa, qa⟩ := ha.ex
  refine VE.mk' (pe_cmp (pc_notN pa) rfl) fun σ H B ρ Q s rf p => ?_
  refine one qa s rf p fun d x H' B' ex sm dx pg => ?_
  unfold visnone at pg
  cases dx <;> exact pg _ H' B' ex (.bl _)

/-! a + b of ints, texts, lists, tuples -/
def rCatL : R2 := fun x y H Q => ∃ l b xs zs, x = .ref l ∧ y = .ref b ∧ Rd H l (.lst xs) ∧ Rd H b (.lst zs) ∧ xs.length + zs.length ≤ sizeLine ∧ ∀ p, H p = none → Q (.ref p) (upd H p (.lst (xs ++ zs)))
theorem op_catL : OpR X (binaryOp .Add) rCatL := by
  intro pins t σ G x y vv uu Q J rX rY hh
  obtain ⟨a, b, xs, zs, rfl, rfl, hH, hB, hz, q⟩ := hh
  cases rX
  cases rY
  obtain ⟨z, us, n, r, e1⟩ : xs.length ≤ sizeLine ∧ ∃ (us : List Value) (n : Nat), Vals xs us ∧ t.heap.get? a = some { cls := .type "list", data := .seq us.toArray n } := hH.ok J.hok
  obtain ⟨z2, us2, n2, r2, e2⟩ : zs.length ≤ sizeLine ∧ ∃ (us : List Value) (n : Nat), Vals zs us ∧ t.heap.get? b = some { cls := .type "list", data := .seq us.toArray n } := hB.ok J.hok
  have hl := r.length
  have hl2 := r2.length
  refine PySem.P.add_list e1 e2 ?_ (by rw [List.size_toArray, List.size_toArray]; omega)
  have eu : us.toArray ++ us2.toArray = (us ++ us2).toArray := by simp
  rw [eu]
  exact ⟨.ref _, _, J.lnew (t' := t.toks) (r.append r2) (by rw [List.length_append]; omega), rfl, q _ J.fresh⟩
theorem vadd_ (ha : VE X W a fa) (hb : VE X W b fb) : VE X W (.BinOp a .Add b pos) (v2 vadd fa fb) := by
  refine ve2 (fun p q => pe_op (L2.OpR.or op_add (L2.OpR.or op_add_str (L2.OpR.or op_catL op_catA))) p q) (fun d e x y σ H B Q s sm dx dy p => ?_) ha hb
  cases dx with
  | int i =>
    cases dy <;> first | exact p.elim | exact .inl ⟨_, _, rfl, rfl, p _ H B (.refl s) (.int _)⟩
  | str z =>
    cases dy <;> first | exact p.elim | skip
    simp only [vadd] at p
    split at p
    · rename_i hz
      exact .inr (.inl ⟨_, _, rfl, rfl, hz, p _ H B (.refl s) (.str _)⟩)
    · exact p.elim
  | lst h1 h2 =>
    cases dy <;> first | exact p.elim | skip
    rename_i h3 h4
    simp only [vadd] at p
    split at p
    · rename_i hz
      refine .inr (.inr (.inl ⟨_, _, _, _, rfl, rfl, Rd.mono s h1, Rd.mono s h3, by rw [IsAll.len h2, IsAll.len h4]; exact hz, fun q hq => ?_⟩))
      exact p _ _ _ (Ext.new s hq) (.lst (.inl upd_same) (IsAll.append (IsAll.mono (Ext.new s hq).bb h2) (IsAll.mono (Ext.new s hq).bb h4)))
    · exact p.elim
  | tup h1 h2 =>
    cases dy <;> first | exact p.elim | skip
    rename_i ds1 a2 xs2 ds2 h3 h4
    simp only [vadd] at p
    split at p
    · rename_i hz
      have l1 := IsAll.len h2
      have l2 := IsAll.len h4
      refine .inr (.inr (.inr ⟨_, _, _, _, rfl, rfl, Same.tupl s h1, Same.tupl s h3, by rw [l1, l2]; exact hz, fun e1 => ?_, fun _ e2 => ?_, fun _ _ q hq => ?_⟩))
      · subst e1
        have : ds1 = [] := List.eq_nil_of_length_eq_zero (by rw [← l1]; rfl)
        subst this
        exact p _ H B (.refl s) (.tup h3 h4)
      · subst e2
        have : ds2 = [] := List.eq_nil_of_length_eq_zero (by rw [← l2]; rfl)
        subst this
        rw [List.append_nil] at p
        exact p _ H B (.refl s) (.tup h1 h2)
      · exact p _ _ _ (Ext.new s hq) (.tup (.inl (.inl upd_same)) (IsAll.append (IsAll.mono (Ext.new s hq).bb h2) (IsAll.mono (Ext.new s hq).bb h4)))
    · exact p.elim
  | non => cases dy <;> exact p.elim
  | bl _ => cases dy <;> exact p.elim
  | exc _ _ => cases dy <;> exact p.elim
  | dct _ _ _ => cases dy <;> exact p.elim
  | ins _ _ _ _ => cases dy <;> exact p.elim

/-! a[i] -/
theorem vidx_ (ha : VE X W a fa) (hb : VE X W b fb) (hs : PlainIx b := by exact fun _ _ => rfl) : VE X W (.Subscript a b pos) (v2 vidx fa fb) := by
  refine ve2 (fun p q => pe_ix ix_seq p q hs) (fun d e x y σ H B Q s sm dx dy p => ?_) ha hb
  cases dx with
  | lst h1 h2 =>
    cases dy <;> first | exact p.elim | skip
    simp only [vidx] at p
    split at p
    · rename_i d' he
      obtain ⟨v, e1, dp⟩ := atI_all h2 he
      exact .inl ⟨_, _, _, v, rfl, rfl, .inl (Rd.mono s h1), e1, p v H B (.refl s) dp⟩
    · exact p.elim
  | tup h1 h2 =>
    cases dy <;> first | exact p.elim | skip
    simp only [vidx] at p
    split at p
    · rename_i d' he
      obtain ⟨v, e1, dp⟩ := atI_all h2 he
      exact .inr (.inl ⟨_, _, _, v, rfl, rfl, Same.tupl s h1, e1, p v H B (.refl s) dp⟩)
    · exact p.elim
  | str z =>
    cases dy <;> first | exact p.elim | skip
    simp only [vidx] at p
    split at p
    · rename_i c' he
      split at p
      · rename_i hz
        exact .inr (.inr ⟨_, _, _, rfl, rfl, hz, he, p _ H B (.refl s) (.str _)⟩)
      · exact p.elim
    · exact p.elim
  | int _ => cases dy <;> exact p.elim
  | non => cases dy <;> exact p.elim
  | bl _ => cases dy <;> exact p.elim
  | exc _ _ => cases dy <;> exact p.elim
  | dct _ _ _ => cases dy <;> exact p.elim
  | ins _ _ _ _ => cases dy <;> exact p.elim

/-! ### argument lists, displays -/
def aNil : PEnv → R (List D) := fun _ => .ok []
def aCons (f : PEnv → R D) (g : PEnv → R (List D)) : PEnv → R (List D) := fun ρ => (f ρ).bind fun d => (g ρ).bind fun ds => .ok (d :: ds)
theorem va_nil : VA X W [] aNil := ⟨tNil, pa_nil, fun σ H B ρ Q s r p => p [] H B (.refl s) .nil⟩
theorem va_cons {e : Expr} {f : PEnv → R D} {g : PEnv → R (List D)} (h : VE X W e f) (t : VA X W es g) (hs : starEach (e :: es) X.env = (false, eval e X.env) :: starEach es X.env := by rfl) : VA X W (e :: es) (aCons f g) := by
  obtain ⟨ta, pa, qa⟩ := h.ex
  obtain ⟨tb, pb, qb⟩ := t.ex
  refine ⟨_, pa_cons pa pb hs, fun σ H B ρ Q s r p => ?_⟩
  refine qa σ H B ρ _ s r ?_
  unfold aCons at p
  generalize f ρ = rf at p ⊢
  cases rf with
  | stuck => exact p
  | err c => exact p
  | ok d =>
    intro x H1 B1 e1 sm1 d1
    refine qb σ H1 B1 ρ _ e1.bh (r.mono e1.bb) ?_
    simp only [R.bind_ok] at p
    generalize g ρ = rg at p ⊢
    cases rg with
    | stuck => exact p
    | err c => exact fun H' z => p H' (e1.hh.trans z)
    | ok ds =>
      intro xs H2 B2 e2 d2
      exact p _ _ _ (e1.trans e2) (.cons (Is.mono e2.bb d1) d2)
/-- from the state, the arguments, then something of them -/
theorem args {g : PEnv → R (List D)} {t : TA} (ht : ∀ σ H B ρ Q, Same B H → RF X.K B σ ρ → Pst X W σ H (KA1 X B H Q) (g ρ) → t σ H Q)
    {α : Type} {σ : L2.St} {H B : Hp} {ρ : PEnv} {G : List D → R α} {K : α → Prop} {Q : List V → Hp → Prop} (s : Same B H) (r : RF X.K B σ ρ)
    (p : Pst X W σ H K ((g ρ).bind G))
    (q : ∀ ds xs H' B', Ext B H B' H' → IsAll X.K B' xs ds → Pst X W σ H' K (G ds) → Q xs H') : t σ H Q := by
  refine ht σ H B ρ _ s r ?_
  generalize g ρ = rg at p ⊢
  cases rg with
  | stuck => exact p
  | err c => exact p
  | ok ds =>
    intro xs H1 B1 e1 d1
    refine q ds xs H1 B1 e1 d1 ?_
    simp only [R.bind_ok] at p
    generalize G ds = rr at p ⊢
    cases rr with
    | stuck => exact p
    | err c => exact fun H' z => p H' (e1.hh.trans z)
    | ok z => exact p
def vtup (g : PEnv → R (List D)) : PEnv → R D := fun ρ => (g ρ).bind fun ds => .ok (.tuple ds)
def vlst (g : PEnv → R (List D)) : PEnv → R D := fun ρ => (g ρ).bind fun ds => .ok (.list ds)
theorem es_len {es : List Expr} {t : TA} (hz : es.length ≤ 1000) : es.length ≤ sizeLine := Nat.le_trans hz (by decide)
/-- the number of the arguments -/
structure VAn (X : Cx) (W : WX) (n : Nat) (es : List Expr) (f : PEnv → R (List D)) : Prop where
  va : VA X W es f
  len : ∀ ρ ds, f ρ = .ok ds → ds.length = n
theorem van_nil : VAn X W 0 [] aNil := ⟨va_nil, fun ρ ds h => by cases h; rfl⟩
theorem van_cons {n : Nat} {e : Expr} {f : PEnv → R D} {g : PEnv → R (List D)} (h : VE X W e f) (t : VAn X W n es g) (hs : starEach (e :: es) X.env = (false, eval e X.env) :: starEach es X.env := by rfl) : VAn X W (n + 1) (e :: es) (aCons f g) :=
  ⟨va_cons h t.va hs, fun ρ ds q => by
    unfold aCons at q
    generalize f ρ = rf at q
    cases rf with
    | stuck => cases q
    | err c => cases q
    | ok d =>
      simp only [R.bind_ok] at q
      generalize hg : g ρ = rg at q
      cases rg with
      | stuck => cases q
      | err c => cases q
      | ok es' =>
        cases q
        rw [List.length_cons, t.len ρ es' hg]⟩
theorem vtup_ {n : Nat} {x1} {g : PEnv → R (List D)} (h : VAn X W n es g) (hz : n ≤ 1000 := by decide) : VE X W (.Tuple es x1 pos) (vtup g) := by
  obtain ⟨t, pt, qt⟩ := h.va.ex
  refine VE.mk' (pe_tup pt) fun σ H B ρ Q s r p => ?_
  cases hg : g ρ with
  | stuck => unfold vtup at p; rw [hg] at p; exact p.elim
  | err c => unfold vtup at p; rw [hg] at p; exact qt σ H B ρ _ s r (by rw [hg]; exact p)
  | ok ds =>
    unfold vtup at p
    rw [hg] at p
    refine qt σ H B ρ _ s r ?_
    rw [hg]
    intro xs H1 B1 e1 d1
    refine ⟨by rw [IsAll.len d1, h.len ρ ds hg]; exact Nat.le_trans hz (by decide), fun q hq => ?_⟩
    have E := Ext.new (o := HO.tup xs) e1.bh hq
    exact p _ _ _ (e1.trans E) (.tup (.inl (.inl upd_same)) (IsAll.mono E.bb d1))
theorem vlst_ {n : Nat} {g : PEnv → R (List D)} (h : VAn X W n es g) (hz : n ≤ 1000 := by decide) : VE X W (.List es pos) (vlst g) := by
  obtain ⟨t, pt, qt⟩ := h.va.ex
  refine VE.mk' (pe_lst pt) fun σ H B ρ Q s r p => ?_
  cases hg : g ρ with
  | stuck => unfold vlst at p; rw [hg] at p; exact p.elim
  | err c => unfold vlst at p; rw [hg] at p; exact qt σ H B ρ _ s r (by rw [hg]; exact p)
  | ok ds =>
    unfold vlst at p
    rw [hg] at p
    refine qt σ H B ρ _ s r ?_
    rw [hg]
    intro xs H1 B1 e1 d1
    refine ⟨by rw [IsAll.len d1, h.len ρ ds hg]; exact Nat.le_trans hz (by decide), fun q hq => ?_⟩
    have E := Ext.new (o := HO.lst xs) e1.bh hq
    exact p _ _ _ (e1.trans E) (.lst (.inl upd_same) (IsAll.mono E.bb d1))
end
end VL

namespace VL
open PySem PySem.Spec PyProof.Rows L2

/-! ### tests -/
def tbool : D → R Bool
  | .bool b => .ok b
  | _ => .stuck
def vtruth : D → R Bool
  | .none => .ok false
  | .bool b => .ok b
  | .int i => .ok (i != 0)
  | .str y => if y.length ≤ sizeLine then .ok ((y.length : Int) != 0) else .stuck
  | .list xs => .ok (!xs.isEmpty)
  | .tuple xs => .ok (!xs.isEmpty)
  | .dict _ => .stuck
section
variable {X : Cx} {W : WX} {a b c : Expr} {es : List Expr} {pos : Pos} {fa fb fc : PEnv → R D} {ft fu : PEnv → R Bool} {k : Nat}

/-- a test that is a comparison -/
theorem vt2 {e : Expr} {r : R2} {g : D → D → R D} (mk : ∀ {ta tb : TE}, PE X a ta → PE X b tb → PT X e (tTest (tOp r ta tb))) (hr : Rule2 X W r g) (hg : ∀ d e z, g d e = .ok z → ∃ k, z = .bool k) (ha : VE X W a fa) (hb : VE X W b fb) :
    VT X W e (fun ρ => (v2 g fa fb ρ).bind tbool) := by
  obtain ⟨ta, pa, qa⟩ := ha.ex
  obtain ⟨tb, pb, qb⟩ := hb.ex
  refine ⟨_, mk pa pb, fun σ H B ρ Q s rf p => ?_⟩
  have p' : Pst X W σ H (KB1 B H Q) ((fa ρ).bind fun d => (fb ρ).bind fun e => (g d e).bind tbool) := by
    unfold v2 at p
    generalize fa ρ = ra at p ⊢
    cases ra with
    | stuck => exact p
    | err c => exact p
    | ok d =>
      simp only [R.bind_ok] at p ⊢
      generalize fb ρ = rb at p ⊢
      cases rb <;> exact p
  refine two qa qb s rf p' fun d e x y H' B' ex sm dx dy pg => ?_
  refine hr d e x y σ H' B' _ ex.bh sm dx dy ?_
  generalize hge : g d e = rg at pg ⊢
  cases rg with
  | stuck => exact pg
  | err c => exact pg
  | ok z =>
    obtain ⟨k, rfl⟩ := hg d e z hge
    intro v H2 B2 e2 dv
    cases dv
    exact ⟨k, rfl, pg H2 B2 (ex.trans e2)⟩
theorem vlt_t (ha : VE X W a fa) (hb : VE X W b fb) : VT X W (.Compare a [.Lt] [b] pos) (fun ρ => (v2 vlt fa fb ρ).bind tbool) :=
  vt2 (fun p q => pt_cmpR op_lt p q (nomark _)) (r_int0 (T := fun i j => .bool (decide (i < j))) (fun d e h => by cases d <;> first | exact absurd rfl h | (cases e <;> first | exact absurd rfl h | exact ⟨_, _, rfl, rfl, rfl⟩)) fun _ _ _ => .bl _) (fun d e z h => by cases d <;> first | (cases h; done) | (cases e <;> first | (cases h; done) | (cases h; exact ⟨_, rfl⟩))) ha hb
theorem vle_t (ha : VE X W a fa) (hb : VE X W b fb) : VT X W (.Compare a [.LtE] [b] pos) (fun ρ => (v2 vle fa fb ρ).bind tbool) :=
  vt2 (fun p q => pt_cmpR op_le p q (nomark _)) (r_int0 (T := fun i j => .bool (decide (i ≤ j))) (fun d e h => by cases d <;> first | exact absurd rfl h | (cases e <;> first | exact absurd rfl h | exact ⟨_, _, rfl, rfl, rfl⟩)) fun _ _ _ => .bl _) (fun d e z h => by cases d <;> first | (cases h; done) | (cases e <;> first | (cases h; done) | (cases h; exact ⟨_, rfl⟩))) ha hb
theorem vgt_t (ha : VE X W a fa) (hb : VE X W b fb) : VT X W (.Compare a [.Gt] [b] pos) (fun ρ => (v2 vgt fa fb ρ).bind tbool) :=
  vt2 (fun p q => pt_cmpR op_gt p q (nomark _)) (r_int0 (T := fun i j => .bool (decide (j < i))) (fun d e h => by cases d <;> first | exact absurd rfl h | (cases e <;> first | exact absurd rfl h | exact ⟨_, _, rfl, rfl, rfl⟩)) fun _ _ _ => .bl _) (fun d e z h => by cases d <;> first | (cases h; done) | (cases e <;> first | (cases h; done) | (cases h; exact ⟨_, rfl⟩))) ha hb
theorem vge_t (ha : VE X W a fa) (hb : VE X W b fb) : VT X W (.Compare a [.GtE] [b] pos) (fun ρ => (v2 vge fa fb ρ).bind tbool) :=
  vt2 (fun p q => pt_cmpR op_ge p q (nomark _)) (r_int0 (T := fun i j => .bool (decide (j ≤ i))) (fun d e h => by cases d <;> first | exact absurd rfl h | (cases e <;> first | exact absurd rfl h | exact ⟨_, _, rfl, rfl, rfl⟩)) fun _ _ _ => .bl _) (fun d e z h => by cases d <;> first | (cases h; done) | (cases e <;> first | (cases h; done) | (cases h; exact ⟨_, rfl⟩))) ha hb
theorem veq_t (hu : X.A.units + 65 < cLine) (ha : VE X W a fa) (hb : VE X W b fb) : VT X W (.Compare a [.Eq] [b] pos) (fun ρ => (v2 veq fa fb ρ).bind tbool) :=
  vt2 (fun p q => pt_cmpR (op_eqD (lt65 hu)) p q (nomark _)) rule_eq (fun d e z h => by
    unfold veq at h
    generalize vEq d e = r at h
    cases r <;> first | (cases h; done) | (cases h; exact ⟨_, rfl⟩)) ha hb
theorem vne_t (hu : X.A.units + 65 < cLine) (ha : VE X W a fa) (hb : VE X W b fb) : VT X W (.Compare a [.NotEq] [b] pos) (fun ρ => (v2 vne fa fb ρ).bind tbool) :=
  vt2 (fun p q => pt_cmpR (op_neD (lt65 hu)) p q (nomark _)) rule_ne (fun d e z h => by
    unfold vne at h
    generalize vEq d e = r at h
    cases r <;> first | (cases h; done) | (cases h; exact ⟨_, rfl⟩)) ha hb
def vIn (d e : D) : R D := (vin d e).bind fun b => .ok (.bool b)
def vNotIn (d e : D) : R D := (vin d e).bind fun b => .ok (.bool (!b))
theorem rule_in : Rule2 X W (rInD X.K) vIn := fun d e x y σ H B Q s sm dx dy p => by
  unfold vIn at p
  cases e <;> first | exact p.elim | skip
  simp only [vin] at p
  split at p
  · rename_i h
    exact ⟨_, _, (Is.mono s dx).dp (SeqAt.canLay_of_shaped h.1), (Is.mono s dy).dp (SeqAt.canLay_of_shaped h.2), h.1, h.2, p _ H B (.refl s) (.bl _)⟩
  · exact p.elim
theorem rule_notin : Rule2 X W (rNotInD X.K) vNotIn := fun d e x y σ H B Q s sm dx dy p => by
  unfold vNotIn at p
  cases e <;> first | exact p.elim | skip
  simp only [vin] at p
  split at p
  · rename_i h
    exact ⟨_, _, (Is.mono s dx).dp (SeqAt.canLay_of_shaped h.1), (Is.mono s dy).dp (SeqAt.canLay_of_shaped h.2), h.1, h.2, p _ H B (.refl s) (.bl _)⟩
  · exact p.elim
theorem vin_t (hu : X.A.units + 65 < cLine) (ha : VE X W a fa) (hb : VE X W b fb) (hm : behindInMarks .In b = false := by with_unfolding_all rfl) : VT X W (.Compare a [.In] [b] pos) (fun ρ => (v2 vIn fa fb ρ).bind tbool) :=
  vt2 (fun p q => pt_cmpR (op_inD hu) p q hm) rule_in (fun d e z h => by
    unfold vIn at h
    generalize vin d e = r at h
    cases r <;> first | (cases h; done) | (cases h; exact ⟨_, rfl⟩)) ha hb
theorem vnotin_t (hu : X.A.units + 65 < cLine) (ha : VE X W a fa) (hb : VE X W b fb) (hm : behindInMarks .NotIn b = false := by with_unfolding_all rfl) : VT X W (.Compare a [.NotIn] [b] pos) (fun ρ => (v2 vNotIn fa fb ρ).bind tbool) :=
  vt2 (fun p q => pt_cmpR (op_notInD hu) p q hm) rule_notin (fun d e z h => by
    unfold vNotIn at h
    generalize vin d e = r at h
    cases r <;> first | (cases h; done) | (cases h; exact ⟨_, rfl⟩)) ha hb
/-- any value, by its truth -/
theorem vt_truth (h : VE X W a fa) (he : ∀ whole, isTrue a X.env whole = (do let v ← whole; standAt a.pos; holding [v] (truthy v)) := by intro _; rfl) : VT X W a (fun ρ => (fa ρ).bind vtruth) := by
  obtain ⟨ta, pa, qa⟩ := h.ex
  refine ⟨_, pt_truth pa he, fun σ H B ρ Q s rf p => ?_⟩
  refine one qa s rf p fun d x H' B' ex sm dx pg => ?_
  cases dx with
  | non => exact ⟨_, rfl, pg H' B' ex⟩
  | exc _ _ => exact pg.elim
  | dct _ _ _ => exact pg.elim
  | ins _ _ _ _ => exact pg.elim
  | bl b => exact ⟨_, rfl, pg H' B' ex⟩
  | int i => exact ⟨_, rfl, pg H' B' ex⟩
  | str y =>
    simp only [vtruth] at pg
    split at pg
    · rename_i hz
      exact ⟨_, ⟨hz, rfl⟩, pg H' B' ex⟩
    · exact pg.elim
  | lst h1 h2 => 
    refine ⟨_, .inl ⟨_, .inl (Rd.mono ex.bh h1), rfl⟩, ?_⟩
    have e : ∀ {vs : List V} {ds : List D}, IsAll X.K B' vs ds → (!vs.isEmpty) = (!ds.isEmpty) := fun h => by cases h <;> rfl
    rw [e h2]
    exact pg H' B' ex
  | tup h1 h2 =>
    refine ⟨_, .inr (.inl ⟨_, Same.tupl ex.bh h1, rfl⟩), ?_⟩
    have e : ∀ {vs : List V} {ds : List D}, IsAll X.K B' vs ds → (!vs.isEmpty) = (!ds.isEmpty) := fun h => by cases h <;> rfl
    rw [e h2]
    exact pg H' B' ex
/-- x is None, x is not None as tests -/
theorem visnone_t {j pos'} (ha : VE X W a fa) : VT X W (.Compare a [.Is] [.Constant .none j pos'] pos) (fun ρ => (v1 visnone fa ρ).bind tbool) := by
  obtain ⟨ta, pa, qa⟩ := ha.ex
  refine ⟨_, pt_cmp (pc_isN pa) rfl, fun σ H B ρ Q s rf p => ?_⟩
  have p' : Pst X W σ H (KB1 B H Q) ((fa ρ).bind fun d => (visnone d).bind tbool) := by
    unfold v1 at p
    generalize fa ρ = ra at p ⊢
    cases ra <;> exact p
  refine one qa s rf p' fun d x H' B' ex sm dx pg => ?_
  unfold visnone at pg
  cases dx <;> exact ⟨_, rfl, pg H' B' ex⟩
theorem vnotnone_t {j pos'} (ha : VE X W a fa) : VT X W (.Compare a [.IsNot] [.Constant .none j pos'] pos) (fun ρ => (v1 visnone fa ρ).bind fun d => (tbool d).bind fun b => .ok (!b)) := by
  obtain ⟨ta, pa, qa⟩ := ha.ex
  refine ⟨_, pt_cmp (pc_notN pa) rfl, fun σ H B ρ Q s rf p => ?_⟩
  have p' : Pst X W σ H (KB1 B H Q) ((fa ρ).bind fun d => (visnone d).bind fun d => (tbool d).bind fun b => .ok (!b)) := by
    unfold v1 at p
    generalize fa ρ = ra at p ⊢
    cases ra <;> exact p
  refine one qa s rf p' fun d x H' B' ex sm dx pg => ?_
  unfold visnone at pg
  cases dx <;> exact ⟨_, rfl, pg H' B' ex⟩

/-! and, or, not -/
structure VW (X : Cx) (W : WX) (e : Expr) (f : PEnv → R Bool) : Prop where
  ex : ∃ t, PW X e t ∧ ∀ σ H B ρ Q, Same B H → RF X.K B σ ρ → Pst X W σ H (KB1 B H Q) (f ρ) → t σ H Q
theorem VW.vt {e : Expr} (h : VW X W e ft) : VT X W e ft := by
  obtain ⟨t, p, q⟩ := h.ex
  exact ⟨t, p.pt, q⟩
def tand (f g : PEnv → R Bool) : PEnv → R Bool := fun ρ => (f ρ).bind fun b => if b then g ρ else .ok false
def tor (f g : PEnv → R Bool) : PEnv → R Bool := fun ρ => (f ρ).bind fun b => if b then .ok true else g ρ
def tnot (f : PEnv → R Bool) : PEnv → R Bool := fun ρ => (f ρ).bind fun b => .ok (!b)
theorem oneT {ta : TT} (ha : ∀ σ H B ρ Q, Same B H → RF X.K B σ ρ → Pst X W σ H (KB1 B H Q) (ft ρ) → ta σ H Q)
    {α : Type} {σ : L2.St} {H B : Hp} {ρ : PEnv} {g : Bool → R α} {K : α → Prop} {Q : Bool → Hp → Prop} (s : Same B H) (r : RF X.K B σ ρ)
    (p : Pst X W σ H K ((ft ρ).bind g))
    (q : ∀ b H' B', Ext B H B' H' → Pst X W σ H' K (g b) → Q b H') : ta σ H Q := by
  refine ha σ H B ρ _ s r ?_
  generalize ft ρ = ra at p ⊢
  cases ra with
  | stuck => exact p
  | err c => exact p
  | ok d =>
    intro H1 B1 e1
    refine q d H1 B1 e1 ?_
    simp only [R.bind_ok] at p
    generalize g d = rg at p ⊢
    cases rg with
    | stuck => exact p
    | err c => exact fun H' z => p H' (e1.hh.trans z)
    | ok z => exact p
theorem kb_ext {B H B1 H1 : Hp} {Q : Bool → Hp → Prop} {d : Bool} (e : Ext B H B1 H1) (p : KB1 B H Q d) : KB1 B1 H1 Q d := fun H' B' e' => p H' B' (e.trans e')
theorem kv1_ext {B H B1 H1 : Hp} {Q : VK} {d : D} (e : Ext B H B1 H1) (p : KV1 X B H Q d) : KV1 X B1 H1 Q d := fun v H' B' e' sm dp => p v H' B' (e.trans e') sm dp
theorem vw_and1 (h : VT X W a ft) : VW X W (.BoolOp .And [a] pos) ft := by
  obtain ⟨t, p, q⟩ := h.ex
  exact ⟨t, pw_and1 p, q⟩
theorem vw_or1 (h : VT X W a ft) : VW X W (.BoolOp .Or [a] pos) ft := by
  obtain ⟨t, p, q⟩ := h.ex
  exact ⟨t, pw_or1 p, q⟩
theorem vw_and (h : VT X W a ft) (g : VW X W (.BoolOp .And (b :: es) pos) fu) : VW X W (.BoolOp .And (a :: b :: es) pos) (tand ft fu) := by
  obtain ⟨t, p, q⟩ := h.ex
  obtain ⟨t2, p2, q2⟩ := g.ex
  refine ⟨_, pw_and p p2, fun σ H B ρ Q s rf pr => ?_⟩
  refine oneT q s rf pr fun d H' B' ex pg => ?_
  cases d with
  | true => exact iteT (q2 σ H' B' ρ Q ex.bh (rf.mono ex.bb) (Pst.imp (fun a k => kb_ext ex k) pg))
  | false => exact iteF (pg H' B' ex)
theorem vw_or (h : VT X W a ft) (g : VW X W (.BoolOp .Or (b :: es) pos) fu) : VW X W (.BoolOp .Or (a :: b :: es) pos) (tor ft fu) := by
  obtain ⟨t, p, q⟩ := h.ex
  obtain ⟨t2, p2, q2⟩ := g.ex
  refine ⟨_, pw_or p p2, fun σ H B ρ Q s rf pr => ?_⟩
  refine oneT q s rf pr fun d H' B' ex pg => ?_
  cases d with
  | false => exact iteF (q2 σ H' B' ρ Q ex.bh (rf.mono ex.bb) (Pst.imp (fun a k => kb_ext ex k) pg))
  | true => exact iteT (pg H' B' ex)
theorem vt_not (h : VT X W a ft) : VT X W (.UnaryOp .Not a pos) (tnot ft) := by
  obtain ⟨t, p, q⟩ := h.ex
  refine ⟨_, pt_not p, fun σ H B ρ Q s rf pr => ?_⟩
  exact oneT q s rf pr fun d H' B' ex pg => pg H' B' ex
/-- a if t else b -/
def vif (t : PEnv → R Bool) (f g : PEnv → R D) : PEnv → R D := fun ρ => (t ρ).bind fun b => if b then f ρ else g ρ
theorem vif_ (h : VT X W c ft) (ha : VE X W a fa) (hb : VE X W b fb) : VE X W (.IfExp c a b pos) (vif ft fa fb) := by
  obtain ⟨t, p, q⟩ := h.ex
  obtain ⟨ta, pa, qa⟩ := ha.ex
  obtain ⟨tb, pb, qb⟩ := hb.ex
  refine ⟨_, pe_ifExp p pa pb, fun σ H B ρ Q s rf pr => ?_⟩
  refine oneT q s rf pr fun d H' B' ex pg => ?_
  cases d with
  | true => exact iteT (qa σ H' B' ρ Q ex.bh (rf.mono ex.bb) (Pst.imp (fun a k => kv1_ext ex k) pg))
  | false => exact iteF (qb σ H' B' ρ Q ex.bh (rf.mono ex.bb) (Pst.imp (fun a k => kv1_ext ex k) pg))
/-! .. as values -/
def vand (f g : PEnv → R D) : PEnv → R D := fun ρ => (f ρ).bind fun d => (tbool d).bind fun b => if b then g ρ else .ok (.bool false)
def vor (f g : PEnv → R D) : PEnv → R D := fun ρ => (f ρ).bind fun d => (tbool d).bind fun b => if b then .ok (.bool true) else g ρ
def vnot (f : PEnv → R D) : PEnv → R D := fun ρ => (f ρ).bind fun d => (tbool d).bind fun b => .ok (.bool (!b))
theorem vone {op} (h : VE X W a fa) : VE X W (.BoolOp op [a] pos) fa := by
  obtain ⟨t, p, q⟩ := h.ex
  exact ⟨t, pe_one p, q⟩
theorem vand_ (h : VE X W a fa) (g : VE X W (.BoolOp .And (b :: es) pos) fb) : VE X W (.BoolOp .And (a :: b :: es) pos) (vand fa fb) := by
  obtain ⟨t, p, q⟩ := h.ex
  obtain ⟨t2, p2, q2⟩ := g.ex
  refine ⟨_, pe_and p p2, fun σ H B ρ Q s rf pr => ?_⟩
  refine one q s rf pr fun d x H' B' ex sm dx pg => ?_
  cases dx <;> first | exact pg.elim | skip
  rename_i b
  refine ⟨b, rfl, ?_⟩
  cases b with
  | true => exact iteT (q2 σ H' B' ρ Q ex.bh (rf.mono ex.bb) (Pst.imp (fun a k => kv1_ext ex k) pg))
  | false => exact iteF (pg _ H' B' ex sm (.bl _))
theorem vor_ (h : VE X W a fa) (g : VE X W (.BoolOp .Or (b :: es) pos) fb) : VE X W (.BoolOp .Or (a :: b :: es) pos) (vor fa fb) := by
  obtain ⟨t, p, q⟩ := h.ex
  obtain ⟨t2, p2, q2⟩ := g.ex
  refine ⟨_, pe_or p p2, fun σ H B ρ Q s rf pr => ?_⟩
  refine one q s rf pr fun d x H' B' ex sm dx pg => ?_
  cases dx <;> first | exact pg.elim | skip
  rename_i b
  refine ⟨b, rfl, ?_⟩
  cases b with
  | false => exact iteF (q2 σ H' B' ρ Q ex.bh (rf.mono ex.bb) (Pst.imp (fun a k => kv1_ext ex k) pg))
  | true => exact iteT (pg _ H' B' ex sm (.bl _))
theorem vnot_ (h : VE X W a fa) : VE X W (.UnaryOp .Not a pos) (vnot fa) := by
  obtain ⟨t, p, q⟩ := h.ex
  refine VE.mk' (pe_not p) fun σ H B ρ Q s rf pr => ?_
  refine one q s rf pr fun d x H' B' ex sm dx pg => ?_
  cases dx <;> first | exact pg.elim | exact ⟨_, rfl, pg _ H' B' ex (.bl _)⟩
/-! a op b op' c, ints -/
def vchain (g g' : D → D → R D) (fa fb fc : PEnv → R D) : PEnv → R D := fun ρ => (fa ρ).bind fun d => (fb ρ).bind fun e => (g d e).bind fun z => (tbool z).bind fun k => if k then (fc ρ).bind fun f => g' e f else .ok (.bool false)
/-- what a comparison of ints asks and gives -/
structure IntCmp (X : Cx) (op : CmpOp) (p : Int → Int → Bool) (g : D → D → R D) : Prop where
  op : OpR X (compareOp op) (rI0 fun i j => .bl (p i j))
  g : ∀ d e, g d e ≠ .stuck → ∃ i j, d = .int i ∧ e = .int j ∧ g d e = .ok (.bool (p i j))
theorem ic_lt : IntCmp X .Lt (fun i j => decide (i < j)) vlt := ⟨op_lt, fun d e h => by cases d <;> first | exact absurd rfl h | (cases e <;> first | exact absurd rfl h | exact ⟨_, _, rfl, rfl, rfl⟩)⟩
theorem ic_le : IntCmp X .LtE (fun i j => decide (i ≤ j)) vle := ⟨op_le, fun d e h => by cases d <;> first | exact absurd rfl h | (cases e <;> first | exact absurd rfl h | exact ⟨_, _, rfl, rfl, rfl⟩)⟩
theorem ic_gt : IntCmp X .Gt (fun i j => decide (j < i)) vgt := ⟨op_gt, fun d e h => by cases d <;> first | exact absurd rfl h | (cases e <;> first | exact absurd rfl h | exact ⟨_, _, rfl, rfl, rfl⟩)⟩
theorem ic_ge : IntCmp X .GtE (fun i j => decide (j ≤ i)) vge := ⟨op_ge, fun d e h => by cases d <;> first | exact absurd rfl h | (cases e <;> first | exact absurd rfl h | exact ⟨_, _, rfl, rfl, rfl⟩)⟩
theorem chain_ok {op op' : CmpOp} {p p' : Int → Int → Bool} {g g' : D → D → R D} {ta tb tc : TE} (i1 : IntCmp X op p g) (i2 : IntCmp X op' p' g') (ha : ∀ σ H B ρ Q, Same B H → RF X.K B σ ρ → Pst X W σ H (KV1 X B H Q) (fa ρ) → ta σ H Q) (hb : ∀ σ H B ρ Q, Same B H → RF X.K B σ ρ → Pst X W σ H (KV1 X B H Q) (fb ρ) → tb σ H Q)
    (hc : ∀ σ H B ρ Q, Same B H → RF X.K B σ ρ → Pst X W σ H (KV1 X B H Q) (fc ρ) → tc σ H Q) {σ : L2.St} {H B : Hp} {ρ : PEnv} {Q : VK} (s : Same B H) (rf : RF X.K B σ ρ)
    (pr : Pst X W σ H (fun d => ∀ v H' B', Ext B H B' H' → Is X.K B' v d → Q v H') (vchain g g' fa fb fc ρ)) : tChain (rI0 fun i j => .bl (p i j)) (rI0 fun i j => .bl (p' i j)) ta tb tc σ H Q := by
  unfold vchain at pr
  refine two ha hb s rf pr fun d e x y H' B' ex sm dx dy pg => ?_
  have h0 : g d e ≠ .stuck := fun z => by rw [z] at pg; exact pg
  obtain ⟨i, j, rfl, rfl, eg⟩ := i1.g d e h0
  rw [eg] at pg
  cases dx
  cases dy
  refine ⟨i, j, rfl, rfl, p i j, rfl, ?_⟩
  simp only [R.bind_ok, tbool] at pg
  cases hp : p i j with
  | false =>
    rw [hp] at pg
    exact iteF (pg _ H' B' ex (.bl _))
  | true =>
    rw [hp] at pg
    refine iteT ?_
    simp only [if_true] at pg
    refine one hc ex.bh (rf.mono ex.bb) pg fun f z H2 B2 ex2 sm2 dz pg2 => ?_
    have h1 : g' (.int j) f ≠ .stuck := fun z => by rw [z] at pg2; exact pg2
    obtain ⟨j', m, ej, rfl, eg2⟩ := i2.g _ f h1
    cases ej
    rw [eg2] at pg2
    cases dz
    exact ⟨_, m, rfl, rfl, pg2 _ H2 B2 (ex.trans ex2) (.bl _)⟩
theorem vchain_ {op op' : CmpOp} {p p' : Int → Int → Bool} {g g' : D → D → R D} (i1 : IntCmp X op p g) (i2 : IntCmp X op' p' g') (ha : VE X W a fa) (hb : VE X W b fb) (hc : VE X W c fc) (hm : lastMarks [op, op'] [b, c] = false := by with_unfolding_all rfl) :
    VE X W (.Compare a [op, op'] [b, c] pos) (vchain g g' fa fb fc) := by
  obtain ⟨ta, pa, qa⟩ := ha.ex
  obtain ⟨tb, pb, qb⟩ := hb.ex
  obtain ⟨tc, pc, qc⟩ := hc.ex
  exact VE.mk' (pe_chain i1.op i2.op pa pb pc hm) fun σ H B ρ Q s rf pr => chain_ok i1 i2 qa qb qc s rf pr
theorem vchain_t {op op' : CmpOp} {p p' : Int → Int → Bool} {g g' : D → D → R D} (i1 : IntCmp X op p g) (i2 : IntCmp X op' p' g') (ha : VE X W a fa) (hb : VE X W b fb) (hc : VE X W c fc) (hm : lastMarks [op, op'] [b, c] = false := by with_unfolding_all rfl) :
    VT X W (.Compare a [op, op'] [b, c] pos) (fun ρ => (vchain g g' fa fb fc ρ).bind tbool) := by
  obtain ⟨ta, pa, qa⟩ := ha.ex
  obtain ⟨tb, pb, qb⟩ := hb.ex
  obtain ⟨tc, pc, qc⟩ := hc.ex
  refine ⟨_, pt_chain i1.op i2.op pa pb pc hm, fun σ H B ρ Q s rf pr => ?_⟩
  refine chain_ok i1 i2 qa qb qc s rf ?_
  generalize vchain g g' fa fb fc ρ = r at pr ⊢
  cases r with
  | stuck => exact pr
  | err c => exact pr
  | ok z =>
    intro v H' B' ex dz
    simp only [R.bind_ok] at pr
    cases dz <;> first | exact pr.elim | exact ⟨_, rfl, pr H' B' ex⟩

/-! ### calls -/
/-- what a built-in's rule asks is given by g -/
def RuleC (X : Cx) (W : WX) (r : List V → Hp → VK → Prop) (g : List D → R D) : Prop := ∀ ds vs σ H B Q, Same B H → IsAll X.K B vs ds → Pst X W σ H (fun d' => ∀ v H' B', Ext B H B' H' → Is X.K B' v d' → Q v H') (g ds) → r vs H Q
def vapp (g : List D → R D) (f : PEnv → R (List D)) : PEnv → R D := fun ρ => (f ρ).bind g
theorem vcB {x : Str} {id : String} {r : List V → Hp → VK → Prop} {g : List D → R D} {f : PEnv → R (List D)} {p : Pos} {e : Expr} (hc : CallR X (.builtin id) r) (hr : RuleC X W r g) (hm : X.mg x = none) (hv : bootBuiltins x = some (.builtin id)) (ha : VA X W (e :: es) f)
    (hg : Gl X x := by rfl) (hn : x ≠ "__name__" := by decide) (hdb : (x == ("__debug__" : Str)) = false := by decide)
    (he : starEach (e :: es) X.env = (false, eval e X.env) :: starEach es X.env := by rfl) (hpl : (backTo pos (starEach es X.env)).any (·.1) = false := by rfl) : VE X W (.Call (.Name x p) (e :: es) [] pos) (vapp g f) := by
  obtain ⟨t, pt, qt⟩ := ha.ex
  refine VE.mk' (pe_callB hc hg hm hv pt hn hdb he hpl) fun σ H B ρ Q s rf pr => ?_
  exact args qt s rf pr fun ds xs H' B' ex dx pg => hr ds xs σ H' B' Q ex.bh dx (Pst.imp (fun a k => kv_ext ex k) pg)
theorem vcT {x : Str} {T : String} {r : List V → Hp → VK → Prop} {g : List D → R D} {f : PEnv → R (List D)} {p : Pos} {e : Expr} (hc : CallR X (.type T) r) (hr : RuleC X W r g) (hm : X.mg x = none) (hv : bootBuiltins x = some (.type T)) (ha : VA X W (e :: es) f)
    (hg : Gl X x := by rfl) (hn : x ≠ "__name__" := by decide) (hdb : (x == ("__debug__" : Str)) = false := by decide)
    (he : starEach (e :: es) X.env = (false, eval e X.env) :: starEach es X.env := by rfl) (hpl : (backTo pos (starEach es X.env)).any (·.1) = false := by rfl) : VE X W (.Call (.Name x p) (e :: es) [] pos) (vapp g f) := by
  obtain ⟨t, pt, qt⟩ := ha.ex
  refine VE.mk' (pe_callTy hc hg hm hv pt hn hdb he hpl) fun σ H B ρ Q s rf pr => ?_
  exact args qt s rf pr fun ds xs H' B' ex dx pg => hr ds xs σ H' B' Q ex.bh dx (Pst.imp (fun a k => kv_ext ex k) pg)
/-- what a def promises: its n arguments are data, its answer is g of them -/
def spV (K : PySem.W.Frag) (mg : Str → Option Value) (n : Nat) (g : List D → R D) : Sp := fun vs H Q E => vs.length = n ∧ ∃ ds B, Same B H ∧ IsAll K B vs ds ∧
  match g ds with
  | .stuck => False
  | .err c => ∀ H', Same H H' → ∃ C, mg c = some (.ref C) ∧ E (.ref C) none H'
  | .ok d => ∀ v H' B', Ext B H B' H' → Is K B' v d → Q v H'
theorem vcall {x : Str} {f : Addr} {fd : FuncData} {ps : List Str} {n : Nat} {g : List D → R D} {fa : PEnv → R (List D)} {p : Pos} {e : Expr} (F : FnOk X.prog X.w X.K X.mg X.base (L2.CX X.prog X.w) k f fd ps (spV X.K X.mg n g)) (hr : Room k X.A) (hm : X.mg x = some (.ref f)) (hk : PySem.W.keepIn X.K (.ref f) = true) (hb : Binds X.K fd ps [])
    (tk : Takes X W) (ha : VAn X W n (e :: es) fa) (hg : Gl X x := by rfl) (hdb : (x == ("__debug__" : Str)) = false := by decide) (he : starEach (e :: es) X.env = (false, eval e X.env) :: starEach es X.env := by rfl) (hpl : (backTo pos (starEach es X.env)).any (·.1) = false := by rfl) :
    VE X W (.Call (.Name x p) (e :: es) [] pos) (vapp g fa) := by
  obtain ⟨t, pt, qt⟩ := ha.va.ex
  refine VE.mk' (pe_callS F hr hg hm hk hb (fun σ => passAt tk σ) pt hdb he hpl) fun σ H B ρ Q s rf pr => ?_
  have hl := ha.len ρ
  unfold vapp at pr
  generalize hfa : fa ρ = rr at pr hl
  cases rr with
  | stuck => exact pr.elim
  | err c => exact qt σ H B ρ _ s rf (by rw [hfa]; exact pr)
  | ok ds =>
    refine qt σ H B ρ _ s rf ?_
    rw [hfa]
    intro xs H1 B1 e1 dx
    refine ⟨by rw [IsAll.len dx]; exact hl ds rfl, ds, B1, e1.bh, dx, ?_⟩
    simp only [R.bind_ok] at pr
    generalize g ds = rg at pr ⊢
    cases rg with
    | stuck => exact pr
    | err c => exact fun H' z => pr H' (e1.hh.trans z)
    | ok d => exact fun v H' B' e' dv => pr v H' B' (e1.trans e') dv
theorem vcall0 {x : Str} {f : Addr} {fd : FuncData} {ps : List Str} {g : List D → R D} {p : Pos} (F : FnOk X.prog X.w X.K X.mg X.base (L2.CX X.prog X.w) k f fd ps (spV X.K X.mg 0 g)) (hr : Room k X.A) (hm : X.mg x = some (.ref f)) (hk : PySem.W.keepIn X.K (.ref f) = true) (hb : Binds X.K fd ps [])
    (tk : Takes X W) (hg : Gl X x := by rfl) (hdb : (x == ("__debug__" : Str)) = false := by decide) : VE X W (.Call (.Name x p) [] [] pos) (fun _ => g []) := by
  have mk : PE X (.Call (.Name x p) [] [] pos) (tCallS (spV X.K X.mg 0 g) (WE W) tNil) := by
    refine ⟨fun pins s σ H Q J hh => wpAny_Call_Name_kw (ld_glob J hg hm ?_ hdb)⟩
    exact PySem.W.callWith_K0 J.kIn hk (run_fnS (us := []) (E := WE W) F hr hb (passAt tk σ) J .nil hh)
  refine VE.mk' mk fun σ H B ρ Q s rf pr => ?_
  refine ⟨rfl, [], B, s, .nil, ?_⟩
  generalize g [] = rg at pr ⊢
  cases rg <;> exact pr
end
end VL

namespace VL
open PySem PySem.Spec PyProof.Rows L2

/-! ### built-ins on data -/
def vlen : List D → R D
  | [.list xs] => .ok (.int xs.length)
  | [.tuple xs] => .ok (.int xs.length)
  | [.str z] => if z.length ≤ sizeLine then .ok (.int z.length) else .stuck
  | _ => .stuck
def vint1 : List D → R D
  | [.int i] => .ok (.int i)
  | [.bool k] => .ok (.int (if k then 1 else 0))
  | _ => .stuck
def vabs : List D → R D
  | [.int i] => .ok (.int (if i < 0 then -i else i))
  | _ => .stuck
def vtuple1 : List D → R D
  | [.list xs] => .ok (.tuple xs)
  | [.tuple xs] => .ok (.tuple xs)
  | _ => .stuck
def vlist1 : List D → R D
  | [.list xs] => .ok (.list xs)
  | [.tuple xs] => .ok (.list xs)
  | _ => .stuck
/-- the ints of a list of data -/
def intsOf : List D → Option (List Int)
  | [] => some []
  | .int i :: r => (intsOf r).map (i :: ·)
  | _ :: _ => none
def boolsOf : List D → Option (List Bool)
  | [] => some []
  | .bool i :: r => (boolsOf r).map (i :: ·)
  | _ :: _ => none
def vsum : List D → R D
  | [.list xs] => match intsOf xs with | some ns => .ok (.int ns.sum) | none => .stuck
  | _ => .stuck
def vmax1 (ns : List Int) : R D := match ns.max? with | some m => .ok (.int m) | none => .stuck
def vmin1 (ns : List Int) : R D := match ns.min? with | some m => .ok (.int m) | none => .stuck
def vmax : List D → R D
  | [.list xs] => match intsOf xs with | some ns => vmax1 ns | none => .stuck
  | [.int i, .int j] => .ok (.int (if j > i then j else i))
  | _ => .stuck
def vmin : List D → R D
  | [.list xs] => match intsOf xs with | some ns => vmin1 ns | none => .stuck
  | [.int i, .int j] => .ok (.int (if j < i then j else i))
  | _ => .stuck
def vall : List D → R D
  | [.list xs] => match boolsOf xs with | some bs => .ok (.bool (bs.all id)) | none => .stuck
  | _ => .stuck
def vany : List D → R D
  | [.list xs] => match boolsOf xs with | some bs => .ok (.bool (bs.any id)) | none => .stuck
  | _ => .stuck
theorem intsOf_some : ∀ {ds : List D} {ns : List Int}, intsOf ds = some ns → ds = ns.map PyData.int
  | [], ns, h => by cases h; rfl
  | .int i :: r, ns, h => by
    simp only [intsOf] at h
    cases q : intsOf r with
    | none => rw [q] at h; cases h
    | some ms =>
      rw [q] at h
      cases h
      rw [List.map_cons, intsOf_some q]
  | .none :: _, _, h => by cases h
  | .bool _ :: _, _, h => by cases h
  | .str _ :: _, _, h => by cases h
  | .list _ :: _, _, h => by cases h
  | .tuple _ :: _, _, h => by cases h
  | .dict _ :: _, _, h => by cases h
theorem boolsOf_some : ∀ {ds : List D} {ns : List Bool}, boolsOf ds = some ns → ds = ns.map PyData.bool
  | [], ns, h => by cases h; rfl
  | .bool i :: r, ns, h => by
    simp only [boolsOf] at h
    cases q : boolsOf r with
    | none => rw [q] at h; cases h
    | some ms =>
      rw [q] at h
      cases h
      rw [List.map_cons, boolsOf_some q]
  | .none :: _, _, h => by cases h
  | .int _ :: _, _, h => by cases h
  | .str _ :: _, _, h => by cases h
  | .list _ :: _, _, h => by cases h
  | .tuple _ :: _, _, h => by cases h
  | .dict _ :: _, _, h => by cases h
theorem intsOf_map (ns : List Int) : intsOf (ns.map PyData.int) = some ns := by
  induction ns with
  | nil => rfl
  | cons n r ih => rw [List.map_cons]; simp only [intsOf, ih]; rfl
theorem boolsOf_map (ns : List Bool) : boolsOf (ns.map PyData.bool) = some ns := by
  induction ns with
  | nil => rfl
  | cons n r ih => rw [List.map_cons]; simp only [boolsOf, ih]; rfl
theorem is_ints {K : PySem.W.Frag} {F : Hp} : ∀ {ns : List Int} {vs : List V}, IsAll K F vs (ns.map PyData.int) → vs = ns.map V.int
  | [], _, h => by cases h; rfl
  | n :: r, _, h => by
    rw [List.map_cons] at h
    cases h with
    | cons h1 h2 => cases h1; rw [is_ints h2, List.map_cons]
theorem is_bools {K : PySem.W.Frag} {F : Hp} : ∀ {ns : List Bool} {vs : List V}, IsAll K F vs (ns.map PyData.bool) → vs = ns.map V.bl
  | [], _, h => by cases h; rfl
  | n :: r, _, h => by
    rw [List.map_cons] at h
    cases h with
    | cons h1 h2 => cases h1; rw [is_bools h2, List.map_cons]
theorem CallR.or {X : Cx} {f : Value} {r r' : List V → Hp → VK → Prop} (h : CallR X f r) (h' : CallR X f r') : CallR X f (fun xs H Q => r xs H Q ∨ r' xs H Q) := L2.CallR.or h h'

section
variable {X : Cx} {W : WX} {a b c : Expr} {es : List Expr} {pos : Pos} {fa fb fc : PEnv → R D} {ft fu : PEnv → R Bool} {k : Nat}

theorem rc_len : RuleC X W (fun xs H Q => (∃ p ys, xs = [.ref p] ∧ (SqL X.K H p ys ∨ SqT X.K H p ys) ∧ Q (.int ys.length) H) ∨ ∃ z, xs = [.str z] ∧ z.length ≤ sizeLine ∧ Q (.int z.length) H) vlen := fun ds vs σ H B Q s dx p => by
  cases dx with
  | nil => exact p.elim
  | cons h1 h2 =>
    cases h2 with
    | cons _ _ => cases h1 <;> exact p.elim
    | nil =>
      cases h1 <;> first | exact p.elim | skip
      · simp only [vlen] at p
        split at p
        · rename_i hz
          exact .inr ⟨_, rfl, hz, p _ H B (.refl s) (.int _)⟩
        · exact p.elim
      · rename_i h3 h4
        refine .inl ⟨_, _, rfl, .inl (.inl (Rd.mono s h3)), ?_⟩
        rw [IsAll.len h4]
        exact p _ H B (.refl s) (.int _)
      · rename_i h3 h4
        refine .inl ⟨_, _, rfl, .inr (Same.tupl s h3), ?_⟩
        rw [IsAll.len h4]
        exact p _ H B (.refl s) (.int _)
theorem vlen_ {f : PEnv → R (List D)} {p : Pos} {e : Expr} (hm : X.mg "len" = none) (ha : VA X W [e] f) (hg : Gl X "len" := by rfl) (he : starEach [e] X.env = (false, eval e X.env) :: starEach [] X.env := by rfl) (hpl : (backTo pos (starEach [] X.env)).any (·.1) = false := by rfl) :
    VE X W (.Call (.Name "len" p) [e] [] pos) (vapp vlen f) := vcB (L2.CallR.or call_len_seq call_len_str) rc_len hm boot_len ha hg (by decide) (by decide) he hpl
theorem rc_int : RuleC X W (fun xs H Q => (∃ i, xs = [.int i] ∧ Q (.int i) H) ∨ ∃ k, xs = [.bl k] ∧ Q (.int (if k then 1 else 0)) H) vint1 := fun ds vs σ H B Q s dx p => by
  cases dx with
  | nil => exact p.elim
  | cons h1 h2 =>
    cases h2 with
    | cons _ _ => cases h1 <;> exact p.elim
    | nil =>
      cases h1 <;> first | exact p.elim | skip
      · exact .inr ⟨_, rfl, p _ H B (.refl s) (.int _)⟩
      · exact .inl ⟨_, rfl, p _ H B (.refl s) (.int _)⟩
theorem vint_ {f : PEnv → R (List D)} {p : Pos} {e : Expr} (hm : X.mg "int" = none) (ha : VA X W [e] f) (hg : Gl X "int" := by rfl) (he : starEach [e] X.env = (false, eval e X.env) :: starEach [] X.env := by rfl) (hpl : (backTo pos (starEach [] X.env)).any (·.1) = false := by rfl) :
    VE X W (.Call (.Name "int" p) [e] [] pos) (vapp vint1 f) := vcT call_int1 rc_int hm boot_int ha hg (by decide) (by decide) he hpl
theorem rc_abs : RuleC X W (fun xs H Q => ∃ i, xs = [.int i] ∧ Q (.int (if i < 0 then -i else i)) H) vabs := fun ds vs σ H B Q s dx p => by
  cases dx with
  | nil => exact p.elim
  | cons h1 h2 =>
    cases h2 with
    | cons _ _ => cases h1 <;> exact p.elim
    | nil =>
      cases h1 <;> first | exact p.elim | exact ⟨_, rfl, p _ H B (.refl s) (.int _)⟩
theorem vabs_ {f : PEnv → R (List D)} {p : Pos} {e : Expr} (hm : X.mg "abs" = none) (ha : VA X W [e] f) (hg : Gl X "abs" := by rfl) (he : starEach [e] X.env = (false, eval e X.env) :: starEach [] X.env := by rfl) (hpl : (backTo pos (starEach [] X.env)).any (·.1) = false := by rfl) :
    VE X W (.Call (.Name "abs" p) [e] [] pos) (vapp vabs f) := vcB call_abs rc_abs hm (by decide +kernel) ha hg (by decide) (by decide) he hpl
def rTup1 (K : PySem.W.Frag) : List V → Hp → VK → Prop := fun xs H Q => ∃ p ys, xs = [.ref p] ∧ ((SqL K H p ys ∧ ∀ l, H l = none → Q (.ref l) (upd H l (.tup ys))) ∨ (SqT K H p ys ∧ Q (.ref p) H))
theorem rc_tuple : RuleC X W (rTup1 X.K) vtuple1 := fun ds vs σ H B Q s dx p => by
  cases dx with
  | nil => exact p.elim
  | cons h1 h2 =>
    cases h2 with
    | cons _ _ => cases h1 <;> exact p.elim
    | nil =>
      cases h1 <;> first | exact p.elim | skip
      · rename_i h3 h4
        exact ⟨_, _, rfl, .inl ⟨.inl (Rd.mono s h3), fun l hl => p _ _ _ (Ext.new s hl) (.tup (.inl (.inl upd_same)) (IsAll.mono (Ext.new s hl).bb h4))⟩⟩
      · rename_i h3 h4
        exact ⟨_, _, rfl, .inr ⟨Same.tupl s h3, p _ H B (.refl s) (.tup h3 h4)⟩⟩
theorem vtuple_ {f : PEnv → R (List D)} {p : Pos} {e : Expr} (hm : X.mg "tuple" = none) (ha : VA X W [e] f) (hg : Gl X "tuple" := by rfl) (he : starEach [e] X.env = (false, eval e X.env) :: starEach [] X.env := by rfl) (hpl : (backTo pos (starEach [] X.env)).any (·.1) = false := by rfl) :
    VE X W (.Call (.Name "tuple" p) [e] [] pos) (vapp vtuple1 f) := vcT call_tuple_of rc_tuple hm (by decide +kernel) ha hg (by decide) (by decide) he hpl
def rList1 (K : PySem.W.Frag) : List V → Hp → VK → Prop := fun xs H Q => ∃ p ys, xs = [.ref p] ∧ (SqL K H p ys ∨ SqT K H p ys) ∧ ∀ l, H l = none → Q (.ref l) (upd H l (.lst ys))
theorem rc_list : RuleC X W (rList1 X.K) vlist1 := fun ds vs σ H B Q s dx p => by
  cases dx with
  | nil => exact p.elim
  | cons h1 h2 =>
    cases h2 with
    | cons _ _ => cases h1 <;> exact p.elim
    | nil =>
      cases h1 <;> first | exact p.elim | skip
      · rename_i h3 h4
        exact ⟨_, _, rfl, .inl (.inl (Rd.mono s h3)), fun l hl => p _ _ _ (Ext.new s hl) (.lst (.inl upd_same) (IsAll.mono (Ext.new s hl).bb h4))⟩
      · rename_i h3 h4
        exact ⟨_, _, rfl, .inr (Same.tupl s h3), fun l hl => p _ _ _ (Ext.new s hl) (.lst (.inl upd_same) (IsAll.mono (Ext.new s hl).bb h4))⟩
theorem vlist_ {f : PEnv → R (List D)} {p : Pos} {e : Expr} (hm : X.mg "list" = none) (ha : VA X W [e] f) (hg : Gl X "list" := by rfl) (he : starEach [e] X.env = (false, eval e X.env) :: starEach [] X.env := by rfl) (hpl : (backTo pos (starEach [] X.env)).any (·.1) = false := by rfl) :
    VE X W (.Call (.Name "list" p) [e] [] pos) (vapp vlist1 f) := vcT call_list_of rc_list hm (by decide +kernel) ha hg (by decide) (by decide) he hpl
/-- one list of ints -/
theorem one_list {r : List V → Hp → VK → Prop} {g : List D → R D} {h : List Int → R D} (hg : ∀ ds, g ds ≠ .stuck → ∃ xs ns, ds = [.list xs] ∧ intsOf xs = some ns ∧ g ds = h ns)
    (hr : ∀ a ns σ H B Q, Same B H → SqL X.K H a (ns.map V.int) → Pst X W σ H (fun d' => ∀ v H' B', Ext B H B' H' → Is X.K B' v d' → Q v H') (h ns) → r [.ref a] H Q) : RuleC X W r g := fun ds vs σ H B Q s dx p => by
  have h0 : g ds ≠ .stuck := fun z => by rw [z] at p; exact p
  obtain ⟨xs, ns, rfl, hi, eg⟩ := hg ds h0
  rw [eg] at p
  cases dx with
  | cons h1 h2 =>
    cases h2
    cases h1 with
    | lst h3 h4 =>
      rw [intsOf_some hi] at h4
      have e := is_ints h4
      subst e
      exact hr _ ns σ H B Q s (.inl (Rd.mono s h3)) p
theorem list_case {g : List D → R D} {h : List Int → R D} {g' : List D → R D} (e1 : ∀ xs, g [.list xs] = match intsOf xs with | some ns => h ns | none => .stuck) (ds : List D) (h0 : g ds ≠ .stuck) (hd : ∃ xs, ds = [.list xs]) : ∃ xs ns, ds = [.list xs] ∧ intsOf xs = some ns ∧ g ds = h ns := by
  obtain ⟨xs, rfl⟩ := hd
  rw [e1] at h0 ⊢
  cases q : intsOf xs with
  | none => rw [q] at h0; exact absurd rfl h0
  | some ns => exact ⟨xs, ns, rfl, q, rfl⟩
theorem rc_sum : RuleC X W (rSum X.K) vsum := one_list (h := fun ns => .ok (.int ns.sum)) (fun ds h0 => list_case (g' := vsum) (fun xs => rfl) ds h0 (by
    cases ds with
    | nil => exact absurd rfl h0
    | cons d r => cases r with
      | nil => cases d <;> first | exact absurd rfl h0 | exact ⟨_, rfl⟩
      | cons _ _ => cases d <;> exact absurd rfl h0))
  fun a ns σ H B Q s h p => ⟨a, ns, rfl, h, p _ H B (.refl s) (.int _)⟩
theorem vsum_ {f : PEnv → R (List D)} {p : Pos} {e : Expr} (hc : X.calm = true) (hm : X.mg "sum" = none) (ha : VA X W [e] f) (hg : Gl X "sum" := by rfl) (he : starEach [e] X.env = (false, eval e X.env) :: starEach [] X.env := by rfl) (hpl : (backTo pos (starEach [] X.env)).any (·.1) = false := by rfl) :
    VE X W (.Call (.Name "sum" p) [e] [] pos) (vapp vsum f) := vcB (cr_sum hc) rc_sum hm (by decide +kernel) ha hg (by decide) (by decide) he hpl
theorem max_eq {ns : List Int} {m : Int} (h : m ∈ ns) (hl : ∀ y, y ∈ ns → y ≤ m) : ns.max? = some m := (List.max?_eq_some_iff).mpr ⟨h, hl⟩
theorem min_eq {ns : List Int} {m : Int} (h : m ∈ ns) (hl : ∀ y, y ∈ ns → m ≤ y) : ns.min? = some m := (List.min?_eq_some_iff).mpr ⟨h, hl⟩
theorem rc_max : RuleC X W (fun xs H Q => rMax X.K xs H Q ∨ ∃ i j, xs = [.int i, .int j] ∧ Q (.int (if j > i then j else i)) H) vmax := fun ds vs σ H B Q s dx p => by
  cases dx with
  | nil => exact p.elim
  | cons h1 h2 =>
    cases h2 with
    | cons h3 h4 =>
      cases h4 with
      | nil => cases h1 <;> first | exact p.elim | (cases h3 <;> first | exact p.elim | exact .inr ⟨_, _, rfl, p _ H B (.refl s) (.int _)⟩)
      | cons _ _ => cases h1 <;> first | exact p.elim | (cases h3 <;> exact p.elim)
    | nil =>
      cases h1 <;> first | exact p.elim | skip
      rename_i h3 h4
      simp only [vmax] at p
      split at p
      · rename_i ns hi
        rw [intsOf_some hi] at h4
        have e := is_ints h4
        subst e
        refine .inl ⟨_, ns, rfl, .inl (Rd.mono s h3), ?_, fun m hm hl => ?_⟩
        · cases ns with
          | nil => exact p.elim
          | cons _ _ => simp
        · unfold vmax1 at p
          rw [max_eq hm hl] at p
          exact p _ H B (.refl s) (.int _)
      · exact p.elim
theorem rc_min : RuleC X W (fun xs H Q => rMin X.K xs H Q ∨ ∃ i j, xs = [.int i, .int j] ∧ Q (.int (if j < i then j else i)) H) vmin := fun ds vs σ H B Q s dx p => by
  cases dx with
  | nil => exact p.elim
  | cons h1 h2 =>
    cases h2 with
    | cons h3 h4 =>
      cases h4 with
      | nil => cases h1 <;> first | exact p.elim | (cases h3 <;> first | exact p.elim | exact .inr ⟨_, _, rfl, p _ H B (.refl s) (.int _)⟩)
      | cons _ _ => cases h1 <;> first | exact p.elim | (cases h3 <;> exact p.elim)
    | nil =>
      cases h1 <;> first | exact p.elim | skip
      rename_i h3 h4
      simp only [vmin] at p
      split at p
      · rename_i ns hi
        rw [intsOf_some hi] at h4
        have e := is_ints h4
        subst e
        refine .inl ⟨_, ns, rfl, .inl (Rd.mono s h3), ?_, fun m hm hl => ?_⟩
        · cases ns with
          | nil => exact p.elim
          | cons _ _ => simp
        · unfold vmin1 at p
          rw [min_eq hm hl] at p
          exact p _ H B (.refl s) (.int _)
      · exact p.elim
theorem vmax_ {f : PEnv → R (List D)} {p : Pos} {e : Expr} (hc : X.calm = true) (hm : X.mg "max" = none) (ha : VA X W (e :: es) f) (hg : Gl X "max" := by rfl) (he : starEach (e :: es) X.env = (false, eval e X.env) :: starEach es X.env := by rfl) (hpl : (backTo pos (starEach es X.env)).any (·.1) = false := by rfl) :
    VE X W (.Call (.Name "max" p) (e :: es) [] pos) (vapp vmax f) := vcB (L2.CallR.or (cr_max hc) (call_max2 hc)) rc_max hm (by decide +kernel) ha hg (by decide) (by decide) he hpl
theorem vmin_ {f : PEnv → R (List D)} {p : Pos} {e : Expr} (hc : X.calm = true) (hm : X.mg "min" = none) (ha : VA X W (e :: es) f) (hg : Gl X "min" := by rfl) (he : starEach (e :: es) X.env = (false, eval e X.env) :: starEach es X.env := by rfl) (hpl : (backTo pos (starEach es X.env)).any (·.1) = false := by rfl) :
    VE X W (.Call (.Name "min" p) (e :: es) [] pos) (vapp vmin f) := vcB (L2.CallR.or (cr_min hc) (call_min2 hc)) rc_min hm (by decide +kernel) ha hg (by decide) (by decide) he hpl
theorem rc_all : RuleC X W (rAll X.K) vall := fun ds vs σ H B Q s dx p => by
  cases dx with
  | nil => exact p.elim
  | cons h1 h2 =>
    cases h2 with
    | cons _ _ => cases h1 <;> exact p.elim
    | nil =>
      cases h1 <;> first | exact p.elim | skip
      rename_i h3 h4
      simp only [vall] at p
      split at p
      · rename_i ns hi
        rw [boolsOf_some hi] at h4
        have e := is_bools h4
        subst e
        exact ⟨_, ns, rfl, .inl (Rd.mono s h3), p _ H B (.refl s) (.bl _)⟩
      · exact p.elim
theorem rc_any : RuleC X W (rAny X.K) vany := fun ds vs σ H B Q s dx p => by
  cases dx with
  | nil => exact p.elim
  | cons h1 h2 =>
    cases h2 with
    | cons _ _ => cases h1 <;> exact p.elim
    | nil =>
      cases h1 <;> first | exact p.elim | skip
      rename_i h3 h4
      simp only [vany] at p
      split at p
      · rename_i ns hi
        rw [boolsOf_some hi] at h4
        have e := is_bools h4
        subst e
        exact ⟨_, ns, rfl, .inl (Rd.mono s h3), p _ H B (.refl s) (.bl _)⟩
      · exact p.elim
theorem vall_ {f : PEnv → R (List D)} {p : Pos} {e : Expr} (hc : X.calm = true) (hm : X.mg "all" = none) (ha : VA X W [e] f) (hg : Gl X "all" := by rfl) (he : starEach [e] X.env = (false, eval e X.env) :: starEach [] X.env := by rfl) (hpl : (backTo pos (starEach [] X.env)).any (·.1) = false := by rfl) :
    VE X W (.Call (.Name "all" p) [e] [] pos) (vapp vall f) := vcB (cr_all hc) rc_all hm (by decide +kernel) ha hg (by decide) (by decide) he hpl
theorem vany_ {f : PEnv → R (List D)} {p : Pos} {e : Expr} (hc : X.calm = true) (hm : X.mg "any" = none) (ha : VA X W [e] f) (hg : Gl X "any" := by rfl) (he : starEach [e] X.env = (false, eval e X.env) :: starEach [] X.env := by rfl) (hpl : (backTo pos (starEach [] X.env)).any (·.1) = false := by rfl) :
    VE X W (.Call (.Name "any" p) [e] [] pos) (vapp vany f) := vcB (cr_any hc) rc_any hm (by decide +kernel) ha hg (by decide) (by decide) he hpl

/-! isinstance of a built-in type -/
def tyName : D → String
  | .none => "NoneType"
  | .bool _ => "bool"
  | .int _ => "int"
  | .str _ => "str"
  | .list _ => "list"
  | .tuple _ => "tuple"
  | .dict _ => "dict"
def isiT (T : String) (n : String) : Bool := n == T || (n == "bool" && T == "int")
def visi (T : String) : D → R D
  | .dict _ => .stuck
  | d => .ok (.bool (isiT T (tyName d)))
/-- the type T is asked about -/
structure TyOk (T : String) : Prop where
  k : ∀ n ∈ ["NoneType", "bool", "int", "str", "list", "tuple"], kitB n T = some (isiT T n)
theorem ty_int : TyOk "int" := ⟨by decide +kernel⟩
theorem ty_bool : TyOk "bool" := ⟨by decide +kernel⟩
theorem ty_str : TyOk "str" := ⟨by decide +kernel⟩
theorem ty_list : TyOk "list" := ⟨by decide +kernel⟩
theorem ty_tuple : TyOk "tuple" := ⟨by decide +kernel⟩
theorem is_ty {K : PySem.W.Frag} {B H : Hp} (s : Same B H) {d : D} {v : V} (nd : ∀ k, d ≠ .dict k) (h : Is K B v d) : TyX K H v (.type (tyName d)) := by
  cases h with
  | non => exact .base .non
  | bl b => exact .base (.bl b)
  | int i => exact .base (.int i)
  | str z => exact .base (.str z)
  | lst h1 h2 =>
    rcases h1 with h | ⟨o, h⟩
    · exact .base (.lst (s _ _ h))
    · exact .base (.frz (s _ _ h))
  | exc _ _ => exact absurd rfl (nd _)
  | dct _ _ _ => exact absurd rfl (nd _)
  | ins _ _ _ _ => exact absurd rfl (nd _)
  | tup h1 h2 =>
    rcases h1 with (h | ⟨o, h⟩) | ⟨o, its, n, h, c, _⟩
    · exact .base (.tup (s _ _ h))
    · exact .fTuple (s _ _ h)
    · exact .kTuple h c
theorem visi_ {T : String} {p p2 : Pos} (hT : TyOk T) (hm : X.mg "isinstance" = none) {x : Str} (hx : X.mg x = none) (hv : bootBuiltins x = some (.type T)) (ha : VE X W a fa)
    (hg : Gl X "isinstance" := by rfl) (hgx : Gl X x := by rfl) (hn : x ≠ "__name__" := by decide) (hdb : (x == ("__debug__" : Str)) = false := by decide)
    (he : starEach [a, .Name x p2] X.env = (false, eval a X.env) :: starEach [.Name x p2] X.env := by rfl) (he2 : starEach [.Name x p2] X.env = (false, eval (.Name x p2) X.env) :: starEach [] X.env := by rfl) (hpl : (backTo pos (starEach [.Name x p2] X.env)).any (·.1) = false := by rfl) :
    VE X W (.Call (.Name "isinstance" p) [a, .Name x p2] [] pos) (v1 (visi T) fa) := by
  obtain ⟨ta, pa, qa⟩ := ha.ex
  have p2' : PE X (.Name x p2) (tC (.ty T)) := pe_bltn hgx hx hv rfl hn hdb
  refine VE.mk' (pe_callB call_isi hg hm (by decide +kernel) (pa_cons pa (pa_cons p2' pa_nil he2) he) (by decide) (by decide) he hpl) fun σ H B ρ Q s rf p => ?_
  refine one qa s rf p fun d v H' B' ex sm dx pg => ?_
  have nd : ∀ k, d ≠ .dict k := fun k e => by subst e; exact pg.elim
  have ev : visi T d = .ok (.bool (isiT T (tyName d))) := by
    cases d <;> first | rfl | exact absurd rfl (nd _)
  rw [ev] at pg
  refine ⟨v, .ty T, .type (tyName d), .type T, isiT T (tyName d), rfl, .ty T, is_ty ex.bh nd dx, kit_ty (hT.k _ ?_), pg _ H' B' ex (.bl _)⟩
  cases dx <;> first | exact absurd rfl (nd _) | simp [tyName]

/-! slices -/
def cutL (xs : List D) (lo hi : Option Int) : List D := (xs.drop (HT.sIx xs.length 0 lo)).take (HT.sIx xs.length xs.length hi - HT.sIx xs.length 0 lo)
theorem IsAll.cut {K : PySem.W.Frag} {F : Hp} {vs : List V} {ds : List D} (h : IsAll K F vs ds) (lo hi : Option Int) : IsAll K F (cutV vs lo hi) (cutL ds lo hi) := by
  unfold cutV cutL
  rw [IsAll.len h]
  exact IsAll.take _ (IsAll.drop _ h)
def vcut (lo hi : Option Int) : D → R D
  | .list xs => .ok (.list (cutL xs lo hi))
  | .tuple xs => .ok (.tuple (cutL xs lo hi))
  | _ => .stuck
structure VO1 (X : Cx) (W : WX) (e : Option Expr) (f : PEnv → R (Option Int)) : Prop where
  ex : ∃ t, PO X e t ∧ ∀ σ H B ρ Q, Same B H → RF X.K B σ ρ → Pst X W σ H (fun i => ∀ H' B', Ext B H B' H' → Q i H') (f ρ) → t σ H Q
def oInt : D → R (Option Int)
  | .int i => .ok (some i)
  | _ => .stuck
theorem vo_none : VO1 X W none (fun _ => .ok none) := ⟨_, po_none, fun σ H B ρ Q s rf p => p H B (.refl s)⟩
theorem vo_some (h : VE X W a fa) : VO1 X W (some a) (fun ρ => (fa ρ).bind oInt) := by
  obtain ⟨t, p, q⟩ := h.ex
  refine ⟨_, po_some p, fun σ H B ρ Q s rf pr => ?_⟩
  refine one q s rf pr fun d x H' B' ex sm dx pg => ?_
  cases dx <;> first | exact pg.elim | exact ⟨_, rfl, pg H' B' ex⟩
def vslice (f : PEnv → R D) (l u : PEnv → R (Option Int)) : PEnv → R D := fun ρ => (f ρ).bind fun d => (l ρ).bind fun lo => (u ρ).bind fun hi => vcut lo hi d
theorem whole_cut (xs : List D) (lo hi : Option Int) (h : HT.sIx xs.length 0 lo = 0 ∧ HT.sIx xs.length xs.length hi = xs.length) : cutL xs lo hi = xs := by
  unfold cutL
  rw [h.1, h.2]
  simp
theorem vslice_ {lo hi : Option Expr} {p2 : Pos} {fl fu : PEnv → R (Option Int)} (ha : VE X W a fa) (hl : VO1 X W lo fl) (hu : VO1 X W hi fu) : VE X W (.Subscript a (.Slice lo hi none p2) pos) (vslice fa fl fu) := by
  obtain ⟨ta, pa, qa⟩ := ha.ex
  obtain ⟨tl, pl, ql⟩ := hl.ex
  obtain ⟨tu, pu, qu⟩ := hu.ex
  refine VE.mk' (pe_slice (SlR.or sl_list sl_tupA) pa pl pu) fun σ H B ρ Q s rf p => ?_
  unfold vslice at p
  refine one qa s rf p fun d x H1 B1 e1 sm dx p1 => ?_
  refine ql σ H1 B1 ρ _ e1.bh (rf.mono e1.bb) ?_
  generalize fl ρ = rl at p1 ⊢
  cases rl with
  | stuck => exact p1
  | err c => exact p1
  | ok lo' =>
    intro H2 B2 e2
    refine qu σ H2 B2 ρ _ e2.bh (rf.mono (e1.trans e2).bb) ?_
    simp only [R.bind_ok] at p1
    generalize fu ρ = ru at p1 ⊢
    cases ru with
    | stuck => exact p1
    | err c => exact fun H' z => p1 H' (e2.hh.trans z)
    | ok hi' =>
      intro H3 B3 e3
      simp only [R.bind_ok] at p1
      have E := (e1.trans e2).trans e3
      have dx3 := Is.mono (e2.trans e3).bb dx
      cases dx3 <;> first | exact p1.elim | skip
      · rename_i h1 h2
        refine .inl ⟨_, _, rfl, .inl (Rd.mono e3.bh h1), fun q hq => ?_⟩
        exact p1 _ _ _ (E.trans (Ext.new e3.bh hq)) (.lst (.inl upd_same) (IsAll.cut (IsAll.mono (Ext.new e3.bh hq).bb h2) _ _))
      · rename_i h1 h2
        refine .inr ⟨_, _, rfl, Same.tupl e3.bh h1, fun hw => ?_, fun _ q hq => ?_⟩
        · rw [IsAll.len h2] at hw
          rw [show vcut lo' hi' (.tuple _) = .ok (.tuple (cutL _ lo' hi')) from rfl, whole_cut _ _ _ hw] at p1
          exact p1 _ H3 B3 E (.tup h1 h2)
        · exact p1 _ _ _ (E.trans (Ext.new e3.bh hq)) (.tup (.inl (.inl upd_same)) (IsAll.cut (IsAll.mono (Ext.new e3.bh hq).bb h2) _ _))
end
end VL

namespace VL
open PySem PySem.Spec PyProof.Rows L2

/-! ### what is walked -/
structure Walks (K : PySem.W.Frag) (J : It) (ds : List D) (B : Hp) : Prop where
  go : ∀ i H, Same B H → i < ds.length → J.go i H
  yld : ∀ i H x H' B1, Same B B1 → Same B1 H → i < ds.length → J.yld i H x H' → ∃ d B2, ds[i]? = some d ∧ Ext B1 H B2 H' ∧ Is K B2 x d
  stop : ∀ H, Same B H → J.stop ds.length H
  small : ds.length ≤ sizeLine
def KI1 (X : Cx) (B H : Hp) (Rr : It → Hp → Prop) (ds : List D) : Prop := ∀ J H' B', Ext B H B' H' → Walks X.K J ds B' → Rr J H'
structure VI (X : Cx) (W : WX) (tg iter : Expr) (f : PEnv → R (List D)) : Prop where
  ex : ∃ wi, PI X tg iter wi ∧ ∀ σ H B ρ Rr, Same B H → RF X.K B σ ρ → Pst X W σ H (KI1 X B H Rr) (f ρ) → wi σ H Rr
theorem walks_list {K : PySem.W.Frag} {B : Hp} {a : Addr} {vs : List V} {ds : List D} (h : Rd B a (.lst vs)) (hd : IsAll K B vs ds) (hz : ds.length ≤ sizeLine) : Walks K (Itl K a) ds B where
  go := fun i H s hi => by
    have hl := IsAll.len hd
    exact ⟨vs, vs[i]'(by omega), .inl (Rd.mono s h), by simp⟩
  yld := fun i H x H' B1 s1 s2 hi y => by
    obtain ⟨rfl, y⟩ := y
    have e := y vs (.inl (Rd.mono (s1.trans s2) h))
    obtain ⟨d, e2, e3⟩ := IsAll.get hd e
    exact ⟨d, B1, e2, .refl s2, Is.mono s1 e3⟩
  stop := fun H s => ⟨vs, .inl (Rd.mono s h), by rw [IsAll.len hd]; exact Nat.le_refl _⟩
  small := hz
theorem walks_tup {K : PySem.W.Frag} {B : Hp} {a : Addr} {vs : List V} {ds : List D} (h : SqT K B a vs) (hd : IsAll K B vs ds) (hz : ds.length ≤ sizeLine) : Walks K (Itt K a) ds B where
  go := fun i H s hi => by
    have hl := IsAll.len hd
    exact ⟨vs, vs[i]'(by omega), Same.tupl s h, by simp⟩
  yld := fun i H x H' B1 s1 s2 hi y => by
    obtain ⟨rfl, y⟩ := y
    have e := y vs (Same.tupl (s1.trans s2) h)
    obtain ⟨d, e2, e3⟩ := IsAll.get hd e
    exact ⟨d, B1, e2, .refl s2, Is.mono s1 e3⟩
  stop := fun H s => ⟨vs, Same.tupl s h, by rw [IsAll.len hd]; exact Nat.le_refl _⟩
  small := hz
def rangeD (lo : Int) (n : Nat) : List D := (List.range n).map fun (i : Nat) => PyData.int (lo + (i : Int))
theorem rangeD_len (lo : Int) (n : Nat) : (rangeD lo n).length = n := by unfold rangeD; simp
theorem rangeD_at {lo : Int} {n i : Nat} (h : i < n) : (rangeD lo n)[i]? = some (.int (lo + (i : Int))) := by
  unfold rangeD
  rw [List.getElem?_map, List.getElem?_range h]
  rfl
theorem walks_range {K : PySem.W.Frag} {B : Hp} {lo : Int} {n : Nat} (hz : n ≤ sizeLine) : Walks K (Itr lo n) (rangeD lo n) B where
  go := fun i H s hi => by rw [rangeD_len] at hi; exact hi
  yld := fun i H x H' B1 s1 s2 hi y => by
    obtain ⟨rfl, rfl⟩ := y
    rw [rangeD_len] at hi
    exact ⟨_, B1, rangeD_at hi, .refl s2, .int _⟩
  stop := fun H s => by rw [rangeD_len]; exact Nat.le_refl _
  small := by rw [rangeD_len]; exact hz
def rangeCD (lo c : Int) (n : Nat) : List D := (List.range n).map fun (i : Nat) => PyData.int (lo + (i : Int) * c)
theorem rangeCD_len (lo c : Int) (n : Nat) : (rangeCD lo c n).length = n := by unfold rangeCD; simp
theorem rangeCD_at {lo c : Int} {n i : Nat} (h : i < n) : (rangeCD lo c n)[i]? = some (.int (lo + (i : Int) * c)) := by
  unfold rangeCD
  rw [List.getElem?_map, List.getElem?_range h]
  rfl
theorem walks_rangeC {K : PySem.W.Frag} {B : Hp} {lo c : Int} {n : Nat} (hz : n ≤ sizeLine) : Walks K (Itc lo c n) (rangeCD lo c n) B where
  go := fun i H s hi => by rw [rangeCD_len] at hi; exact hi
  yld := fun i H x H' B1 s1 s2 hi y => by
    obtain ⟨rfl, rfl⟩ := y
    rw [rangeCD_len] at hi
    exact ⟨_, B1, rangeCD_at hi, .refl s2, .int _⟩
  stop := fun H s => by rw [rangeCD_len]; exact Nat.le_refl _
  small := by rw [rangeCD_len]; exact hz
theorem walks_rev {K : PySem.W.Frag} {B : Hp} {a : Addr} {vs : List V} {ds : List D} (h : Rd B a (.lst vs)) (hd : IsAll K B vs ds) (hz : ds.length ≤ sizeLine) : Walks K (Itv K a vs.length) ds.reverse B where
  go := fun i H s hi => by
    have hl := IsAll.len hd
    rw [List.length_reverse] at hi
    exact ⟨by omega, vs, vs[vs.length - 1 - i]'(by omega), .inl (Rd.mono s h), by simp⟩
  yld := fun i H x H' B1 s1 s2 hi y => by
    obtain ⟨rfl, y⟩ := y
    have hl := IsAll.len hd
    rw [List.length_reverse] at hi
    have e := y vs (.inl (Rd.mono (s1.trans s2) h))
    obtain ⟨d, e2, e3⟩ := IsAll.get hd e
    refine ⟨d, B1, ?_, .refl s2, Is.mono s1 e3⟩
    rw [List.getElem?_reverse hi, ← hl]
    exact e2
  stop := fun H s => by
    have hl := IsAll.len hd
    show vs.length ≤ ds.reverse.length
    rw [List.length_reverse]; omega
  small := by rw [List.length_reverse]; exact hz
def enumD (ds : List D) : List D := ds.mapIdx fun i d => PyData.tuple [.int (i : Int), d]
theorem enumD_len (ds : List D) : (enumD ds).length = ds.length := by unfold enumD; simp
theorem walks_enum {K : PySem.W.Frag} {B : Hp} {a : Addr} {vs : List V} {ds : List D} (h : Rd B a (.lst vs)) (hd : IsAll K B vs ds) (hz : ds.length ≤ sizeLine) : Walks K (Ite K a) (enumD ds) B where
  go := fun i H s hi => by
    have hl := IsAll.len hd
    rw [enumD_len] at hi
    exact ⟨vs, vs[i]'(by omega), .inl (Rd.mono s h), by simp⟩
  yld := fun i H x H' B1 s1 s2 hi y => by
    obtain ⟨T, x', rfl, nT, rfl, y⟩ := y
    have e := y vs (.inl (Rd.mono (s1.trans s2) h))
    obtain ⟨d, e2, e3⟩ := IsAll.get hd e
    refine ⟨.tuple [.int (i : Int), d], _, ?_, Ext.new s2 nT, .tup (.inl (.inl upd_same)) (.cons (.int _) (.cons (Is.mono (s1.trans (Ext.new s2 nT).bb) e3) .nil))⟩
    unfold enumD
    rw [List.getElem?_mapIdx, e2]
    rfl
  stop := fun H s => ⟨vs, .inl (Rd.mono s h), by rw [enumD_len, IsAll.len hd]; exact Nat.le_refl _⟩
  small := by rw [enumD_len]; exact hz
def zipD (ds es : List D) : List D := List.zipWith (fun d e => PyData.tuple [d, e]) ds es
theorem zipD_len (ds es : List D) : (zipD ds es).length = min ds.length es.length := by unfold zipD; simp
theorem walks_zip {K : PySem.W.Frag} {B : Hp} {a b : Addr} {vs us : List V} {ds es : List D} (h : Rd B a (.lst vs)) (hd : IsAll K B vs ds) (h' : Rd B b (.lst us)) (he : IsAll K B us es) (hz : ds.length ≤ sizeLine) : Walks K (Itz K a b) (zipD ds es) B where
  go := fun i H s hi => by
    have hl := IsAll.len hd
    have hl' := IsAll.len he
    rw [zipD_len] at hi
    exact ⟨vs, us, vs[i]'(by omega), us[i]'(by omega), .inl (Rd.mono s h), .inl (Rd.mono s h'), by simp, by simp⟩
  yld := fun i H x H' B1 s1 s2 hi y => by
    obtain ⟨T, x', y', rfl, nT, rfl, q1, q2⟩ := y
    have e := q1 vs (.inl (Rd.mono (s1.trans s2) h))
    have e' := q2 us (.inl (Rd.mono (s1.trans s2) h'))
    obtain ⟨d, e2, e3⟩ := IsAll.get hd e
    obtain ⟨d', e2', e3'⟩ := IsAll.get he e'
    refine ⟨.tuple [d, d'], _, ?_, Ext.new s2 nT, .tup (.inl (.inl upd_same)) (.cons (Is.mono (s1.trans (Ext.new s2 nT).bb) e3) (.cons (Is.mono (s1.trans (Ext.new s2 nT).bb) e3') .nil))⟩
    unfold zipD
    rw [List.getElem?_zipWith, e2, e2']
  stop := fun H s => ⟨vs, us, .inl (Rd.mono s h), .inl (Rd.mono s h'), by rw [zipD_len, IsAll.len hd, IsAll.len he]; omega⟩
  small := by rw [zipD_len]; omega

/-! sources -/
def seqD : D → R (List D)
  | .list xs => .ok xs
  | .tuple xs => .ok xs
  | _ => .stuck
def rngOk (i j : Int) : Prop := -16777216 ≤ i ∧ i ≤ 16777216 ∧ -16777216 ≤ j ∧ j ≤ 16777216 ∧ j - i ≤ 16777216
noncomputable instance (i j : Int) : Decidable (rngOk i j) := Classical.propDecidable _
noncomputable def vrange1 : D → R (List D)
  | .int j => if rngOk 0 j then .ok (rangeD 0 j.toNat) else .stuck
  | _ => .stuck
noncomputable def vrange2 : D → D → R (List D)
  | .int i, .int j => if rngOk i j then .ok (rangeD i (j - i).toNat) else .stuck
  | _, _ => .stuck
noncomputable def vrangeN : D → D → R (List D)
  | .int i, .int j => if rngOk i j ∧ i - j ≤ 16777216 then .ok (rangeCD i (-1) (i - j).toNat) else .stuck
  | _, _ => .stuck
def venum : D → R (List D)
  | .list xs => .ok (enumD xs)
  | _ => .stuck
def vzip : D → D → R (List D)
  | .list xs, .list ys => .ok (zipD xs ys)
  | _, _ => .stuck
def vrev : D → R (List D)
  | .list xs => .ok xs.reverse
  | _ => .stuck
/-! ### targets -/
def setsV (σ : L2.St) (bs : List (Nat × V)) : L2.St := bs.foldl (fun σ b => σ.set b.1 (some b.2)) σ
def setsD (ρ : PEnv) (bs : List (Nat × D)) : PEnv := bs.foldl (fun ρ b => ρ.set b.1 (some b.2)) ρ
abbrev Bds (K : PySem.W.Frag) (B : Hp) : List (Nat × V) → List (Nat × D) → Prop := Paired fun p q => p.1 = q.1 ∧ Is K B p.2 q.2
theorem RF.set {K : PySem.W.Frag} {B : Hp} {σ : L2.St} {ρ : PEnv} (h : RF K B σ ρ) (i : Nat) {v : V} {d : D} (hd : Is K B v d) : RF K B (σ.set i (some v)) (ρ.set i (some d)) := ⟨by rw [List.length_set, List.length_set]; exact h.len, fun j e x => by
  by_cases hj : j = i
  · subst hj
    have hl : j < ρ.length := by
      obtain ⟨q, _⟩ := List.getElem?_eq_some_iff.mp x
      rw [List.length_set] at q; exact q
    rw [List.getElem?_set_self hl] at x
    cases x
    rw [List.getElem?_set_self (by rw [h.len]; exact hl)]
    exact ⟨v, rfl, hd⟩
  · rw [List.getElem?_set_ne (Ne.symm hj)] at x
    obtain ⟨u, e1, e2⟩ := h.at_ j e x
    exact ⟨u, by rw [List.getElem?_set_ne (Ne.symm hj)]; exact e1, e2⟩⟩
theorem RF.sets {K : PySem.W.Frag} {B : Hp} : ∀ {bv : List (Nat × V)} {bd : List (Nat × D)} {σ : L2.St} {ρ : PEnv}, RF K B σ ρ → Bds K B bv bd → RF K B (setsV σ bv) (setsD ρ bd)
  | _, _, _, _, h, .nil => h
  | _, _, _, _, h, .cons (a := p) (b := q) r t => by
    obtain ⟨r1, r2⟩ := r
    unfold setsV setsD
    rw [List.foldl_cons, List.foldl_cons, r1]
    exact RF.sets (RF.set h q.1 r2) t
structure VG (X : Cx) (tg : Expr) (sl : List Nat) (k : D → R (List (Nat × D))) : Prop where
  ex : ∃ t, PG X tg t ∧ ∀ v σ H B d Q, Same B H → Is X.K B v d → (∃ bd, k d = .ok bd ∧ ∀ bv, Bds X.K B bv bd → Q (setsV σ bv) H) → t v σ H Q
  sl : ∀ d bs, k d = .ok bs → bs.map (·.1) = sl
structure VGs (X : Cx) (ts : List Expr) (sl : List Nat) (k : List D → R (List (Nat × D))) : Prop where
  ex : ∃ t, PGs X ts t ∧ ∀ vs σ H B ds Q, Same B H → IsAll X.K B vs ds → (∃ bd, k ds = .ok bd ∧ ∀ bv, Bds X.K B bv bd → Q (setsV σ bv) H) → t vs σ H Q
  sl : ∀ ds bs, k ds = .ok bs → bs.map (·.1) = sl ∧ ds.length = ts.length
def gN (i : Nat) : D → R (List (Nat × D)) := fun d => .ok [(i, d)]
def gC (g : D → R (List (Nat × D))) (h : List D → R (List (Nat × D))) : List D → R (List (Nat × D))
  | [] => .stuck
  | d :: ds => (g d).bind fun bs => (h ds).bind fun cs => .ok (bs ++ cs)
def gE : List D → R (List (Nat × D))
  | [] => .ok []
  | _ => .stuck
def gT (h : List D → R (List (Nat × D))) : D → R (List (Nat × D))
  | .tuple xs => h xs
  | .list xs => h xs
  | _ => .stuck
section
variable {X : Cx} {pos : Pos} {e : Expr} {es : List Expr} {g : D → R (List (Nat × D))} {h : List D → R (List (Nat × D))} {sl sl' : List Nat}
theorem vg (i : Nat) {x : Str} (hN : X.N.Nodup) (hi : X.N[i]? = some x := by rfl) (hx : Loc X.env.scope x := by first | exact Or.inl rfl | exact Or.inr rfl) (hf : X.fn x = true ∨ X.env.scope.names.lookup x = some .local := by first | exact .inl rfl | exact .inr rfl) : VG X (.Name x pos) [i] (gN i) :=
  ⟨⟨_, pg_name hN hi hx hf, fun v σ H B d Q s dv ⟨bd, e, q⟩ => by
    cases e
    exact q [(i, v)] (.cons ⟨rfl, dv⟩ .nil)⟩, fun d bs e => by cases e; rfl⟩
theorem vgs_nil : VGs X [] [] gE := ⟨⟨_, pgs_nil, fun vs σ H B ds Q s dv ⟨bd, e, q⟩ => by
  cases dv with
  | nil => cases e; exact ⟨rfl, q [] .nil⟩
  | cons _ _ => cases e⟩, fun ds bs e => by cases ds <;> first | (cases e; exact ⟨rfl, rfl⟩) | cases e⟩
theorem vgs_cons (h1 : VG X e sl g) (h2 : VGs X es sl' h) (hs : (assignEach (e :: es) X.env).map (·.2) = assign e X.env :: (assignEach es X.env).map (·.2) := by rfl) : VGs X (e :: es) (sl ++ sl') (gC g h) := by
  obtain ⟨t, p, q⟩ := h1.ex
  obtain ⟨t2, p2, q2⟩ := h2.ex
  refine ⟨⟨_, pgs_cons p p2 hs, fun vs σ H B ds Q s dv ⟨bd, eb, qq⟩ => ?_⟩, fun ds bs eb => ?_⟩
  · cases dv with
    | nil => cases eb
    | @cons v vs d ds d1 d2 =>
      refine ⟨v, vs, rfl, ?_⟩
      simp only [gC] at eb
      generalize hg : g d = rg at eb
      cases rg with
      | stuck => cases eb
      | err c => cases eb
      | ok b1 =>
        simp only [R.bind_ok] at eb
        generalize hh : h ds = rh at eb
        cases rh with
        | stuck => cases eb
        | err c => cases eb
        | ok b2 =>
          cases eb
          refine q v σ H B d _ s d1 ⟨b1, hg, fun bv1 hb1 => ?_⟩
          refine q2 vs _ H B ds _ s d2 ⟨b2, hh, fun bv2 hb2 => ?_⟩
          have z := qq (bv1 ++ bv2) (by
            have app : ∀ {l1 l2 l3 l4}, Bds X.K B l1 l2 → Bds X.K B l3 l4 → Bds X.K B (l1 ++ l3) (l2 ++ l4) := by
              intro l1 l2 l3 l4 a b
              induction a with
              | nil => exact b
              | cons r t ih => exact .cons r ih
            exact app hb1 hb2)
          unfold setsV at z
          rw [List.foldl_append] at z
          exact z
  · cases ds with
    | nil => cases eb
    | cons d ds =>
      simp only [gC] at eb
      generalize hg : g d = rg at eb
      cases rg with
      | stuck => cases eb
      | err c => cases eb
      | ok b1 =>
        simp only [R.bind_ok] at eb
        generalize hh : h ds = rh at eb
        cases rh with
        | stuck => cases eb
        | err c => cases eb
        | ok b2 =>
          cases eb
          obtain ⟨z1, z2⟩ := h2.sl ds b2 hh
          rw [List.map_append, h1.sl d b1 hg, z1, List.length_cons, List.length_cons, z2]
          exact ⟨rfl, rfl⟩
theorem pg_or {tg : Expr} {t1 t2 : TG} (h1 : PG X tg t1) (h2 : PG X tg t2) : PG X tg (fun v σ H Q => t1 v σ H Q ∨ t2 v σ H Q) :=
  ⟨fun pins s σ H v u Q I r hw => hw.elim (h1.run pins s σ H v u Q I r) (h2.run pins s σ H v u Q I r)⟩
theorem vg_tup {k : Nat} {n : Nat} (hc : X.calm = true) (hh : VGs X es sl h) (hn : (assignEach es X.env).length = n := by rfl) (hst : (assignEach es X.env).findIdx? (·.1) = none := by rfl) (hl : es.length = n := by rfl) : VG X (.Tuple es k pos) sl (gT h) := by
  obtain ⟨t, p, q⟩ := hh.ex
  refine ⟨⟨_, pg_or (pg_tup hc p hn hst) (pg_lst hc p hn hst), fun v σ H B d Q s dv ⟨bd, eb, qq⟩ => ?_⟩, fun d bs eb => ?_⟩
  · cases dv with
    | @tup a xs ds h1 h2 => exact .inl ⟨a, xs, rfl, Same.tupl s h1, by rw [IsAll.len h2, (hh.sl ds bd eb).2, hl], q xs σ H B ds Q s h2 ⟨bd, eb, qq⟩⟩
    | @lst a xs ds h1 h2 => exact .inr ⟨a, xs, rfl, .inl (Rd.mono s h1), by rw [IsAll.len h2, (hh.sl ds bd eb).2, hl], q xs σ H B ds Q s h2 ⟨bd, eb, qq⟩⟩
    | _ => cases eb
  · cases d <;> first | (cases eb; done) | exact (hh.sl _ bs eb).1
end
section
variable {X : Cx} {W : WX} {a b c : Expr} {es : List Expr} {pos : Pos} {fa fb fc : PEnv → R D} {ft fu : PEnv → R Bool} {k : Nat} {tg : Expr}
theorem pi_seq {l : Expr} {tl : TE} (hl : PE X l tl) : PI X tg l (fun σ H Rr => tl σ H fun x G1 => ∃ a, x = .ref a ∧ (((∃ xs, SqL X.K G1 a xs) ∧ Rr (Itl X.K a) G1) ∨ ((∃ xs, SqT X.K G1 a xs) ∧ Rr (Itt X.K a) G1))) := by
  refine ⟨fun pins s σ H R J hh => ?_⟩
  refine thn (hl.run pins s σ H _ J hh) fun v t1 ⟨x, G1, J1, rr, qq⟩ => ?_
  obtain ⟨a, ee, q⟩ := qq
  subst ee
  cases rr
  rcases q with ⟨⟨xs, hq⟩, q⟩ | ⟨⟨xs, hq⟩, q⟩
  · obtain ⟨its, rv, p, hz⟩ := J1.list hq
    refine wpAny_pyIter_list p.isList ?_
    refine ⟨t1.heap.objs.size, [t1.heap.objs.size], _, _, G1, rfl, J1.kept (t' := t1.toks) fun bb o ee => Heap.get?_push_of_some _ ee, turn_list a _, ⟨_, Heap.get?_push_size _ rfl, rfl, rfl⟩, fun bb hb => ?_, q⟩
    have ee : bb = t1.heap.objs.size := by simpa using hb
    subst ee
    exact J1.fpOk (Nat.le_refl _) (J1.hok.fresh (Nat.le_refl _))
  · obtain ⟨its, rv, p, hz⟩ := J1.tuple hq
    refine wpAny_pyIter_tuple (show t1.heap.IsTuple a its.toArray from p) ?_
    refine ⟨t1.heap.objs.size, [t1.heap.objs.size], _, _, G1, rfl, J1.kept (t' := t1.toks) fun bb o ee => Heap.get?_push_of_some _ ee, turn_tuple a _, ⟨_, Heap.get?_push_size _ rfl, rfl, rfl⟩, fun bb hb => ?_, q⟩
    have ee : bb = t1.heap.objs.size := by simpa using hb
    subst ee
    exact J1.fpOk (Nat.le_refl _) (J1.hok.fresh (Nat.le_refl _))
def isq (f : PEnv → R D) : PEnv → R (List D) := fun ρ => (f ρ).bind seqD
theorem vi_seq (h : VE X W a fa) : VI X W tg a (isq fa) := by
  obtain ⟨t, p, q⟩ := h.ex
  refine ⟨_, pi_seq p, fun σ H B ρ Rr s rf pr => ?_⟩
  refine one q s rf pr fun d x H' B' ex sm dx pg => ?_
  have dx0 := dx
  cases dx <;> first | exact pg.elim | skip
  · rename_i h1 h2
    exact ⟨_, rfl, .inl ⟨⟨_, .inl (Rd.mono ex.bh h1)⟩, pg _ H' B' ex (walks_list h1 h2 (Small.list sm ex.bh dx0))⟩⟩
  · rename_i h1 h2
    exact ⟨_, rfl, .inr ⟨⟨_, Same.tupl ex.bh h1⟩, pg _ H' B' ex (walks_tup h1 h2 (Small.tuple sm ex.bh dx0))⟩⟩
def i1 (g : D → R (List D)) (f : PEnv → R D) : PEnv → R (List D) := fun ρ => (f ρ).bind g
def i2 (g : D → D → R (List D)) (f f' : PEnv → R D) : PEnv → R (List D) := fun ρ => (f ρ).bind fun d => (f' ρ).bind fun e => g d e
theorem vi_range1 {p pos : Pos} (hm : X.mg "range" = none) (ha : VE X W a fa) (hg : Gl X "range" := by rfl) (hs : starEach [a] X.env = [(false, eval a X.env)] := by rfl) (he : starEach [a] X.env = (false, eval a X.env) :: starEach [] X.env := by rfl) : VI X W tg (.Call (.Name "range" p) [a] [] pos) (i1 vrange1 fa) := by
  obtain ⟨t, pt, qt⟩ := ha.ex
  refine ⟨_, pi_range1 hg hm (pa_cons pt pa_nil he) hs, fun σ H B ρ Rr s rf pr => ?_⟩
  refine one qt s rf pr fun d x H' B' ex sm dx pg => ?_
  cases dx <;> first | exact pg.elim | skip
  rename_i i
  simp only [vrange1] at pg
  split at pg
  · rename_i hz
    have hz' : -16777216 ≤ (0:Int) ∧ (0:Int) ≤ 16777216 ∧ -16777216 ≤ i ∧ i ≤ 16777216 ∧ i - 0 ≤ 16777216 := hz
    exact ⟨_, rfl, by omega, by omega, pg _ H' B' ex (walks_range (by have := sizeLine_eq; omega))⟩
  · exact pg.elim
theorem vi_range2 {p pos : Pos} (hm : X.mg "range" = none) (ha : VE X W a fa) (hb : VE X W b fb) (hg : Gl X "range" := by rfl) (hs : starEach [a, b] X.env = [(false, eval a X.env), (false, eval b X.env)] := by rfl) (hs2 : starEach [b] X.env = [(false, eval b X.env)] := by rfl)
    (he : starEach [a, b] X.env = (false, eval a X.env) :: starEach [b] X.env := by rfl) (he2 : starEach [b] X.env = (false, eval b X.env) :: starEach [] X.env := by rfl) : VI X W tg (.Call (.Name "range" p) [a, b] [] pos) (i2 vrange2 fa fb) := by
  obtain ⟨t, pt, qt⟩ := ha.ex
  obtain ⟨t2, pt2, qt2⟩ := hb.ex
  refine ⟨_, pi_range2 hg hm (pa_cons pt (pa_cons pt2 pa_nil he2) he) hs hs2, fun σ H B ρ Rr s rf pr => ?_⟩
  refine two qt qt2 s rf pr fun d e x y H' B' ex sm dx dy pg => ?_
  cases dx <;> first | (cases dy <;> exact pg.elim) | skip
  cases dy <;> first | exact pg.elim | skip
  rename_i i j
  simp only [vrange2] at pg
  split at pg
  · rename_i hz
    have hz' : -16777216 ≤ i ∧ i ≤ 16777216 ∧ -16777216 ≤ j ∧ j ≤ 16777216 ∧ j - i ≤ 16777216 := hz
    exact ⟨i, j, rfl, ⟨by omega, by omega, by omega, by omega⟩, pg _ H' B' ex (walks_range (by have := sizeLine_eq; omega))⟩
  · exact pg.elim
theorem vi_rangeN {p pos pos2 pos3 : Pos} {m : Nat} (hm : X.mg "range" = none) (ha : VE X W a fa) (hb : VE X W b fb) (hg : Gl X "range" := by rfl)
    (hs : starEach [a, b, .UnaryOp .USub (.Constant (.int 1) m pos3) pos2] X.env = (false, eval a X.env) :: starEach [b, .UnaryOp .USub (.Constant (.int 1) m pos3) pos2] X.env := by rfl)
    (hs2 : starEach [b, .UnaryOp .USub (.Constant (.int 1) m pos3) pos2] X.env = (false, eval b X.env) :: starEach [.UnaryOp .USub (.Constant (.int 1) m pos3) pos2] X.env := by rfl)
    (hpl : (backTo pos (starEach [b, .UnaryOp .USub (.Constant (.int 1) m pos3) pos2] X.env)).any (·.1) = false := by rfl) :
    VI X W tg (.Call (.Name "range" p) [a, b, .UnaryOp .USub (.Constant (.int 1) m pos3) pos2] [] pos) (i2 vrangeN fa fb) := by
  obtain ⟨t, pt, qt⟩ := ha.ex
  obtain ⟨t2, pt2, qt2⟩ := hb.ex
  have p3 : PE X (.UnaryOp .USub (.Constant (.int 1) m pos3) pos2) (tUn (rU fun i => .int (-i)) (tC (.int 1))) := pe_un un_neg pe_int
  refine ⟨_, pi_range3 hg hm (pa_cons pt (pa_cons pt2 (pa_cons p3 pa_nil) hs2) hs) (hs := hs) (hpl := hpl), fun σ H B ρ Rr s rf pr => ?_⟩
  refine two qt qt2 s rf pr fun d e x y H' B' ex sm dx dy pg => ?_
  cases dx <;> first | (cases dy <;> exact pg.elim) | skip
  cases dy <;> first | exact pg.elim | skip
  rename_i i j
  simp only [vrangeN] at pg
  split at pg
  · rename_i hz
    have hz' : (-16777216 ≤ i ∧ i ≤ 16777216 ∧ -16777216 ≤ j ∧ j ≤ 16777216 ∧ j - i ≤ 16777216) ∧ i - j ≤ 16777216 := hz
    exact ⟨1, rfl, i, j, -1, (i - j).toNat, rfl, RgC.neg (by omega) (by omega) (by omega) (by omega), pg _ H' B' ex (walks_rangeC (by have := sizeLine_eq; omega))⟩
  · exact pg.elim
theorem vi_enum {p pos tpos : Pos} {elts : List Expr} {kk : Nat} (hm : X.mg "enumerate" = none) (ha : VE X W a fa) (hg : Gl X "enumerate" := by rfl) (hs : starEach [a] X.env = [(false, eval a X.env)] := by rfl) (he : starEach [a] X.env = (false, eval a X.env) :: starEach [] X.env := by rfl) : VI X W (.Tuple elts kk tpos) (.Call (.Name "enumerate" p) [a] [] pos) (i1 venum fa) := by
  obtain ⟨t, pt, qt⟩ := ha.ex
  refine ⟨_, pi_enum hg hm (pa_cons pt pa_nil he) hs, fun σ H B ρ Rr s rf pr => ?_⟩
  refine one qt s rf pr fun d x H' B' ex sm dx pg => ?_
  have dx0 := dx
  cases dx <;> first | exact pg.elim | skip
  rename_i h1 h2
  exact ⟨_, _, rfl, .inl (Rd.mono ex.bh h1), pg _ H' B' ex (walks_enum h1 h2 (Small.list sm ex.bh dx0))⟩
theorem vi_zip {p pos tpos : Pos} {elts : List Expr} {kk : Nat} (hm : X.mg "zip" = none) (ha : VE X W a fa) (hb : VE X W b fb) (hg : Gl X "zip" := by rfl) (he : starEach [a, b] X.env = (false, eval a X.env) :: starEach [b] X.env := by rfl) (he2 : starEach [b] X.env = (false, eval b X.env) :: starEach [] X.env := by rfl) (hpl : (backTo pos (starEach [b] X.env)).any (·.1) = false := by rfl) :
    VI X W (.Tuple elts kk tpos) (.Call (.Name "zip" p) [a, b] [] pos) (i2 vzip fa fb) := by
  obtain ⟨t, pt, qt⟩ := ha.ex
  obtain ⟨t2, pt2, qt2⟩ := hb.ex
  refine ⟨_, pi_zip hg hm (pa_cons pt (pa_cons pt2 pa_nil he2) he) he hpl, fun σ H B ρ Rr s rf pr => ?_⟩
  refine two qt qt2 s rf pr fun d e x y H' B' ex sm dx dy pg => ?_
  have dx0 := dx
  cases dx <;> first | (cases dy <;> exact pg.elim) | skip
  cases dy <;> first | exact pg.elim | skip
  rename_i h1 h2 _ _ _ h3 h4
  exact ⟨_, _, _, _, rfl, .inl (Rd.mono ex.bh h1), .inl (Rd.mono ex.bh h3), pg _ H' B' ex (walks_zip h1 h2 h3 h4 (Small.list sm ex.bh dx0))⟩
theorem vi_rev {p pos : Pos} (hm : X.mg "reversed" = none) (ha : VE X W a fa) (hg : Gl X "reversed" := by rfl) (hs : starEach [a] X.env = [(false, eval a X.env)] := by rfl) (he : starEach [a] X.env = (false, eval a X.env) :: starEach [] X.env := by rfl) : VI X W tg (.Call (.Name "reversed" p) [a] [] pos) (i1 vrev fa) := by
  obtain ⟨t, pt, qt⟩ := ha.ex
  refine ⟨_, pi_reversed hg hm (pa_cons pt pa_nil he) hs, fun σ H B ρ Rr s rf pr => ?_⟩
  refine one qt s rf pr fun d x H' B' ex sm dx pg => ?_
  have dx0 := dx
  cases dx <;> first | exact pg.elim | skip
  rename_i h1 h2
  exact ⟨_, _, rfl, .inl (Rd.mono ex.bh h1), pg _ H' B' ex (walks_rev h1 h2 (Small.list sm ex.bh dx0))⟩

/-! ### comprehensions -/
def wipeD (ρ : PEnv) : List Nat → PEnv
  | [] => ρ
  | v :: vs => (wipeD ρ vs).set v none
theorem RF.wipe {K : PySem.W.Frag} {B : Hp} {σ : L2.St} {ρ : PEnv} (h : RF K B σ ρ) : ∀ vs : List Nat, RF K B (L2.wipe σ vs) (wipeD ρ vs)
  | [] => h
  | v :: vs => by
    have ih := RF.wipe h vs
    unfold L2.wipe wipeD
    refine ⟨by rw [List.length_set, List.length_set]; exact ih.len, fun j e x => ?_⟩
    by_cases hj : j = v
    · subst hj
      have hl : j < (wipeD ρ vs).length := by
        obtain ⟨q, _⟩ := List.getElem?_eq_some_iff.mp x
        rw [List.length_set] at q; exact q
      rw [List.getElem?_set_self hl] at x
      cases x
    · rw [List.getElem?_set_ne (Ne.symm hj)] at x
      obtain ⟨u, e1, e2⟩ := ih.at_ j e x
      exact ⟨u, by rw [List.getElem?_set_ne (Ne.symm hj)]; exact e1, e2⟩
theorem wipe_at {σ : L2.St} {i : Nat} : ∀ {vs : List Nat}, i ∈ vs → ∀ x, (L2.wipe σ vs)[i]? ≠ some (some x)
  | [], h, _ => by cases h
  | v :: vs, h, x => by
    unfold L2.wipe
    by_cases hv : v = i
    · subst hv
      intro q
      obtain ⟨q1, _⟩ := List.getElem?_eq_some_iff.mp q
      rw [List.getElem?_set_self (by rw [List.length_set] at q1; exact q1)] at q
      cases q
    · rw [List.getElem?_set_ne hv]
      rcases List.mem_cons.mp h with e | e
      · exact absurd e.symm hv
      · exact wipe_at e x
theorem wipe_set {σ : L2.St} {i : Nat} {x : Option V} : ∀ {vs : List Nat}, i ∈ vs → L2.wipe (σ.set i x) vs = L2.wipe σ vs
  | [], h => by cases h
  | v :: vs, h => by
    show (L2.wipe (σ.set i x) vs).set v none = (L2.wipe σ vs).set v none
    by_cases hm : i ∈ vs
    · rw [wipe_set hm]
    · have hv : i = v := by
        rcases List.mem_cons.mp h with e | e
        · exact e
        · exact absurd e hm
      subst hv
      have sw : ∀ ws : List Nat, i ∉ ws → L2.wipe (σ.set i x) ws = (L2.wipe σ ws).set i x := by
        intro ws
        induction ws with
        | nil => intro _; rfl
        | cons w ws ih =>
          intro hw
          have h1 : i ≠ w := fun e => hw (e ▸ List.mem_cons_self)
          show (L2.wipe (σ.set i x) ws).set w none = ((L2.wipe σ ws).set w none).set i x
          rw [ih (fun q => hw (List.mem_cons_of_mem _ q)), List.set_comm _ _ h1]
      rw [sw vs hm, List.set_set]
theorem wipe_idem {σ : L2.St} (vs : List Nat) : L2.wipe (L2.wipe σ vs) vs = L2.wipe σ vs := by
  have : ∀ ws, (∀ w ∈ ws, w ∈ vs) → L2.wipe (L2.wipe σ ws) vs = L2.wipe σ vs := by
    intro ws
    induction ws with
    | nil => intro _; rfl
    | cons w ws ih =>
      intro h
      show L2.wipe ((L2.wipe σ ws).set w none) vs = _
      rw [wipe_set (h w List.mem_cons_self), ih fun x hx => h x (List.mem_cons_of_mem _ hx)]
  exact this vs fun _ h => h
theorem wipe_sets {vs : List Nat} : ∀ {bs : List (Nat × V)} {σ : L2.St}, (∀ b ∈ bs, b.1 ∈ vs) → L2.wipe (setsV σ bs) vs = L2.wipe σ vs
  | [], _, _ => rfl
  | b :: bs, σ, h => by
    show L2.wipe (setsV (σ.set b.1 (some b.2)) bs) vs = _
    rw [wipe_sets fun x hx => h x (List.mem_cons_of_mem _ hx), wipe_set (h b List.mem_cons_self)]
/-- an error within a comprehension is not carried -/
def R.calm {α : Type} : R α → R α
  | .err _ => .stuck
  | r => r
def tyes : PEnv → R Bool := fun _ => .ok true
def compL (kt : D → R (List (Nat × D))) (ft : PEnv → R Bool) (fe : PEnv → R D) (ρ : PEnv) : List D → R (List D)
  | [] => .ok []
  | d :: ds => (kt d).bind fun bs => ((ft (setsD ρ bs)).calm).bind fun b => if b then ((fe (setsD ρ bs)).calm).bind fun y => (compL kt ft fe ρ ds).bind fun ys => .ok (y :: ys) else compL kt ft fe ρ ds
def vcomp (own : List Nat) (fi : PEnv → R (List D)) (kt : D → R (List (Nat × D))) (ft : PEnv → R Bool) (fe : PEnv → R D) : PEnv → R (List D) := fun ρ => (fi ρ).bind fun ds => (compL kt ft fe (wipeD ρ own) ds).calm
abbrev W0 : WX := fun _ _ _ _ => False
structure VTs (X : Cx) (W : WX) (ifs : List Expr) (f : PEnv → R Bool) : Prop where
  ex : ∃ t, PTs X ifs t ∧ ∀ σ H B ρ Q, Same B H → RF X.K B σ ρ → Pst X W σ H (KB1 B H Q) (f ρ) → t σ H Q
theorem vts_nil : VTs X W [] tyes := ⟨_, pts_nil, fun σ H B ρ Q s rf p => p H B (.refl s)⟩
theorem vts_one (h : VT X W c ft) : VTs X W [c] ft := by
  obtain ⟨t, p, q⟩ := h.ex
  exact ⟨t, pts_one p, q⟩
theorem calm_ok {α : Type} {r : R α} {a : α} (h : r.calm = .ok a) : r = .ok a := by
  cases r <;> first | exact h | cases h
theorem calm_ne {α : Type} {r : R α} {c : Str} : r.calm ≠ .err c := by cases r <;> exact fun h => nomatch h
theorem Pst.calm {α : Type} {X : Cx} {W : WX} {σ : L2.St} {H : Hp} {K : α → Prop} {r : R α} {a : α} (h : r.calm = .ok a) (k : K a) : Pst X W σ H K r := by
  rw [calm_ok h]; exact k
/-- the wanted end for a new list that nobody else holds -/
def KFr (X : Cx) (B H : Hp) (Q : VK) (ds : List PyData) : Prop := ∀ p vs H' B', Ext B H B' H' → H' p = some (.lst vs) → H p = none → B' p = none → IsAll X.K B' vs ds → Q (.ref p) H'
theorem kfr_of {B H : Hp} {Q : VK} {ds : List PyData} (h : ∀ v H' B', Ext B H B' H' → Is X.K B' v (.list ds) → Q v H') : KFr X B H Q ds := fun p vs H' B' e hp hn bn ia => by
  refine h _ H' (upd B' p (.lst vs)) ⟨e.hh, fun b u q => same_upd bn _ _ (e.bb _ _ q), fun b u q => ?_, fun a h1 h2 => ?_⟩ (.lst (.inl upd_same) (IsAll.mono (same_upd bn) ia))
  · by_cases hb : b = p
    · subst hb; rw [upd_same] at q; cases q; exact hp
    · rw [upd_ne hb] at q; exact e.bh _ _ q
  · by_cases hb : a = p
    · subst hb; exact hn
    · rw [upd_ne hb] at h2; exact e.nw a h1 h2
/-- an expression that makes a new list -/
structure VFr (X : Cx) (W : WX) (e : Expr) (f : PEnv → R (List PyData)) : Prop where
  ex : ∃ t, PE X e t ∧ ∀ σ H B ρ Q, Same B H → RF X.K B σ ρ → Pst X W σ H (KFr X B H Q) (f ρ) → t σ H Q
def vlistOf (f : PEnv → R (List PyData)) : PEnv → R PyData := fun ρ => (f ρ).bind fun ds => .ok (.list ds)
theorem VFr.ve {e : Expr} {f : PEnv → R (List PyData)} (h : VFr X W e f) : VE X W e (vlistOf f) := by
  obtain ⟨t, p, q⟩ := h.ex
  refine VE.mk' p fun σ H B ρ Q s rf pr => q σ H B ρ Q s rf ?_
  unfold vlistOf at pr
  generalize f ρ = r at pr ⊢
  cases r with
  | stuck => exact pr
  | err c => exact pr
  | ok ds => exact kfr_of pr
/-- the reading of a comprehension -/
theorem comp_read {wi : TI} {g : TG} {tt : TT} {te : TE} {own sl : List Nat} {fi : PEnv → R (List D)} {kt : D → R (List (Nat × D))} {ft : PEnv → R Bool} {fe : PEnv → R D} 
    (qi : ∀ σ H B ρ Rr, Same B H → RF X.K B σ ρ → Pst X W σ H (KI1 X B H Rr) (fi ρ) → wi σ H Rr)
    (qg : ∀ v σ H B d Q, Same B H → Is X.K B v d → (∃ bd, kt d = .ok bd ∧ ∀ bv, Bds X.K B bv bd → Q (setsV σ bv) H) → g v σ H Q) (hsl : ∀ d bs, kt d = .ok bs → bs.map (·.1) = sl) (hso : ∀ i ∈ sl, i ∈ own)
    (qt : ∀ σ H B ρ Q, Same B H → RF X.K B σ ρ → Pst X W0 σ H (KB1 B H Q) (ft ρ) → tt σ H Q)
    (qe : ∀ σ H B ρ Q, Same B H → RF X.K B σ ρ → Pst X W0 σ H (KV1 X B H Q) (fe ρ) → te σ H Q)
    {σ : L2.St} {H B : Hp} {ρ : PEnv} {Q : VK} (s : Same B H) (rf : RF X.K B σ ρ)
    (pr : Pst X W σ H (KFr X B H Q) (vcomp own fi kt ft fe ρ)) : tLc wi g tt te own σ H Q := by
  unfold vcomp at pr
  refine qi σ H B ρ _ s rf ?_
  generalize fi ρ = ri at pr ⊢
  cases ri with
  | stuck => exact pr
  | err c => exact pr
  | ok ds =>
    simp only [R.bind_ok] at pr
    intro J H1 B1 e1 wk D hD
    generalize hc : (compL kt ft fe (wipeD ρ own) ds).calm = rc at pr
    cases rc with
    | stuck => exact pr.elim
    | err c => exact (calm_ne hc).elim
    | ok ys =>
      have hc := calm_ok hc
      have pr : KFr X B H Q ys := pr
      have hDH : H D = none := Same.free e1.hh hD
      have upo : ∀ {B' H' : Hp} {o : HO}, Ext B H B' H' → B' D = none → Ext B H B' (upd H' D o) := fun {B' H' o} x n =>
        ⟨fun b u q => by rw [upd_ne (ne_of_none q hDH)]; exact x.hh _ _ q, x.bb, fun b u q => by rw [upd_ne (ne_of_none q n)]; exact x.bh _ _ q, x.nw⟩
      have keepD : ∀ {Ba Ha B' H' : Hp} {o : HO}, Ext Ba Ha B' H' → Ba D = none → Ha D = some o → B' D = none := fun {Ba Ha B' H' o} x n q => by
        cases z : B' D with
        | none => rfl
        | some u =>
          have := x.nw D n (by rw [z]; exact fun w => nomatch w)
          rw [q] at this
          cases this
      refine ⟨fun i m Hi => m = ds.length - i ∧ i ≤ ds.length ∧ ∃ Bi acc yd rest, Ext B H Bi Hi ∧ Same B1 Bi ∧ Bi D = none ∧ Hi D = some (.lst acc) ∧ IsAll X.K Bi acc yd ∧ acc.length ≤ i ∧ compL kt ft fe (wipeD ρ own) (ds.drop i) = .ok rest ∧ yd ++ rest = ys,
        ⟨ds.length, by simp, Nat.zero_le _, B1, [], [], ys, upo e1 (Same.free e1.bh hD), Same.refl _, Same.free e1.bh hD, upd_same, .nil, Nat.le_refl _, by simpa using hc, rfl⟩, ?_⟩
      rintro i m Hi ⟨rfl, hi, Bi, acc, yd, rest, ex, b1, bD, hDi, ia, hl, hcr, hys⟩
      by_cases hlt : i < ds.length
      · refine .inr ⟨wk.go i Hi (b1.trans ex.bh) hlt, fun Hi => i + 1 ≤ ds.length ∧ ∃ Bi acc yd rest, Ext B H Bi Hi ∧ Same B1 Bi ∧ Bi D = none ∧ Hi D = some (.lst acc) ∧ IsAll X.K Bi acc yd ∧ acc.length ≤ i + 1 ∧ compL kt ft fe (wipeD ρ own) (ds.drop (i + 1)) = .ok rest ∧ yd ++ rest = ys,
          fun H' q => ⟨ds.length - (i + 1), by omega, rfl, q⟩, fun x H' y => ?_⟩
        obtain ⟨d, B2, e2, E2, dx⟩ := wk.yld i Hi x H' Bi b1 ex.bh hlt y
        have hdrop : ds.drop i = d :: ds.drop (i + 1) := by
          obtain ⟨q1, q2⟩ := List.getElem?_eq_some_iff.mp e2
          rw [List.drop_eq_getElem_cons q1, q2]
        rw [hdrop] at hcr
        simp only [compL] at hcr
        generalize hk : kt d = rk at hcr
        cases rk with
        | stuck => cases hcr
        | err c => cases hcr
        | ok bs =>
          simp only [R.bind_ok] at hcr
          generalize hft : (ft (setsD (wipeD ρ own) bs)).calm = rt at hcr
          cases rt with
          | stuck => cases hcr
          | err c => cases hcr
          | ok b =>
            simp only [R.bind_ok] at hcr
            refine qg x (L2.wipe σ own) H' B2 d _ E2.bh dx ⟨bs, hk, fun bv hb => ?_⟩
            have RF2 : RF X.K B2 (setsV (L2.wipe σ own) bv) (setsD (wipeD ρ own) bs) := RF.sets ((RF.wipe rf own).mono (ex.bb.trans E2.bb)) hb
            have hw : L2.wipe (setsV (L2.wipe σ own) bv) own = L2.wipe σ own := by
              rw [wipe_sets, wipe_idem]
              intro p hp
              refine hso _ ?_
              rw [← hsl d bs hk]
              have fst : ∀ {l1 : List (Nat × V)} {l2 : List (Nat × PyData)}, Bds X.K B2 l1 l2 → l1.map (·.1) = l2.map (·.1) := by
                intro l1 l2 h
                induction h with
                | nil => rfl
                | cons r t ih => rw [List.map_cons, List.map_cons, r.1, ih]
              rw [← fst hb]
              exact List.mem_map_of_mem hp
            refine ⟨hw, ?_⟩
            refine qt _ H' B2 _ _ E2.bh RF2 (Pst.calm hft fun H3 B3 E3 => ?_)
            have hD2 := E2.hh _ _ hDi
            have bD2 := keepD E2 bD hDi
            cases b with
            | true =>
              simp only [if_true] at hcr
              generalize hfe : (fe (setsD (wipeD ρ own) bs)).calm = re at hcr
              cases re with
              | stuck => cases hcr
              | err c => cases hcr
              | ok yv =>
                simp only [R.bind_ok] at hcr
                generalize hrest : compL kt ft fe (wipeD ρ own) (ds.drop (i + 1)) = rr at hcr
                cases rr with
                | stuck => cases hcr
                | err c => cases hcr
                | ok rest' =>
                  cases hcr
                  refine iteT (qe _ H3 B3 _ _ E3.bh (RF2.mono E3.bb) (Pst.calm hfe fun v H4 B4 E4 sm dv => ?_))
                  have E24 := (E2.trans E3).trans E4
                  have bD4 := keepD E24 bD hDi
                  refine ⟨acc, E24.hh _ _ hDi, by have := wk.small; omega, hlt, B4, acc ++ [v], yd ++ [yv], rest', upo (ex.trans E24) bD4, b1.trans E24.bb, bD4, upd_same, IsAll.append (IsAll.mono E24.bb ia) (.cons dv .nil), by rw [List.length_append, List.length_singleton]; omega, rfl, ?_⟩
                  rw [List.append_assoc]; exact hys
            | false =>
              simp only [Bool.false_eq_true, if_false] at hcr
              have E23 := E2.trans E3
              exact iteF ⟨hlt, B3, acc, yd, rest, ex.trans E23, b1.trans E23.bb, keepD E23 bD hDi, E23.hh _ _ hDi, IsAll.mono E23.bb ia, by omega, hcr, hys⟩
      · have e : i = ds.length := by omega
        subst e
        refine .inl ⟨wk.stop Hi (b1.trans ex.bh), ?_⟩
        rw [List.drop_length] at hcr
        cases hcr
        rw [List.append_nil] at hys
        subst hys
        exact pr D acc Hi Bi ex hDi hDH bD ia
/-! the reading that a function on data is -/
def tV (X : Cx) (W : WX) (f : PEnv → R PyData) : TE := fun σ H Q => ∃ B ρ, Same B H ∧ RF X.K B σ ρ ∧ Pst X W σ H (KV1 X B H Q) (f ρ)
def tVT (X : Cx) (W : WX) (f : PEnv → R Bool) : TT := fun σ H Q => ∃ B ρ, Same B H ∧ RF X.K B σ ρ ∧ Pst X W σ H (KB1 B H Q) (f ρ)
def tVG (X : Cx) (k : PyData → R (List (Nat × PyData))) : TG := fun v σ H Q => ∃ B d, Same B H ∧ Is X.K B v d ∧ ∃ bd, k d = .ok bd ∧ ∀ bv, Bds X.K B bv bd → Q (setsV σ bv) H
theorem VE.pe {e : Expr} {f : PEnv → R PyData} (h : VE X W e f) : PE X e (tV X W f) := by
  obtain ⟨t, p, q⟩ := h.ex
  exact ⟨fun pins s σ H Q I ⟨B, ρ, s1, r, hp⟩ => p.run pins s σ H Q I (q σ H B ρ Q s1 r hp)⟩
theorem VTs.pt {e : List Expr} {f : PEnv → R Bool} (h : VTs X W e f) : PTs X e (tVT X W f) := by
  obtain ⟨t, p, q⟩ := h.ex
  exact ⟨fun pins s σ H Q I ⟨B, ρ, s1, r, hp⟩ => p.run pins s σ H Q I (q σ H B ρ Q s1 r hp)⟩
theorem VT.pt {e : Expr} {f : PEnv → R Bool} (h : VT X W e f) : PT X e (tVT X W f) := by
  obtain ⟨t, p, q⟩ := h.ex
  exact ⟨fun pins s σ H Q I ⟨B, ρ, s1, r, hp⟩ => p.run pins s σ H Q I (q σ H B ρ Q s1 r hp)⟩
theorem VG.pg {e : Expr} {sl : List Nat} {k : PyData → R (List (Nat × PyData))} (h : VG X e sl k) : PG X e (tVG X k) := by
  obtain ⟨t, p, q⟩ := h.ex
  exact ⟨fun pins s σ H v u Q I r ⟨B, d, s1, dv, hp⟩ => p.run pins s σ H v u Q I r (q v σ H B d Q s1 dv hp)⟩
/-- [e for t in it if ..] -/
theorem vcomp_ {elt tg iter : Expr} {ifs : List Expr} {scope : Scope} {own : List (Str × Nat)} {sl : List Nat} {fi : PEnv → R (List D)} {kt : D → R (List (Nat × D))} {ft : PEnv → R Bool} {fe : PEnv → R D} (hc : X.calm = true) (hN : X.N.Nodup) (hi : VI X W tg iter fi) (ok : BlkOk X.N X.env.scope scope own)
    (hg : ∀ (s : Shared) (H : Hp) (C : Addr) (cl : List (Str × Addr)) (fp : List Addr), VG (X.blk s H scope (compEnvC scope cl C X.env) fp) tg sl kt)
    (hso : ∀ i ∈ sl, i ∈ own.map (·.2))
    (ht : ∀ (s : Shared) (H : Hp) (C : Addr) (cl : List (Str × Addr)) (fp : List Addr), VTs (X.blk s H scope (compEnvC scope cl C X.env) fp) W0 ifs ft)
    (he : ∀ (s : Shared) (H : Hp) (C : Addr) (cl : List (Str × Addr)) (fp : List Addr), VE (X.blk s H scope (compEnvC scope cl C X.env) fp) W0 elt fe) (hs : ∀ x, foldedSetIterable iter X.env x = pure x := by intro _; rfl) :
    VFr X W (.ListComp elt [⟨tg, iter, ifs, 0⟩] scope pos) (vcomp (own.map (·.2)) fi kt ft fe) := by
  obtain ⟨wi, pi, qi⟩ := hi.ex
  have h1 : ∀ (s : Shared) (H : Hp) (C : Addr) (cl : List (Str × Addr)) (fp : List Addr), PG (X.blk s H scope (compEnvC scope cl C X.env) fp) tg (tVG X kt) := fun s H C cl fp => (hg s H C cl fp).pg
  have h2 : ∀ (s : Shared) (H : Hp) (C : Addr) (cl : List (Str × Addr)) (fp : List Addr), PTs (X.blk s H scope (compEnvC scope cl C X.env) fp) ifs (tVT X W0 ft) := fun s H C cl fp => (ht s H C cl fp).pt
  have h3 : ∀ (s : Shared) (H : Hp) (C : Addr) (cl : List (Str × Addr)) (fp : List Addr), PE (X.blk s H scope (compEnvC scope cl C X.env) fp) elt (tV X W0 fe) := fun s H C cl fp => (he s H C cl fp).pe
  refine ⟨_, pe_lc hc hN pi ok h1 h2 h3 hs, fun σ H B ρ Q s rf pr => ?_⟩
  have hsl : ∀ d bs, kt d = .ok bs → bs.map (·.1) = sl := (hg {} (fun _ => none) 0 [] []).sl
  exact comp_read qi (fun v σ H B d Q s dv q => ⟨B, d, s, dv, q⟩) hsl hso (fun σ H B ρ Q s r p => ⟨B, ρ, s, r, p⟩) (fun σ H B ρ Q s r p => ⟨B, ρ, s, r, p⟩) s rf pr
/-! other new lists -/
theorem vlst_f {n : Nat} {g : PEnv → R (List PyData)} (h : VAn X W n es g) (hz : n ≤ 1000 := by decide) : VFr X W (.List es pos) g := by
  obtain ⟨t, pt, qt⟩ := h.va.ex
  refine ⟨_, pe_lst pt, fun σ H B ρ Q s r p => ?_⟩
  cases hg : g ρ with
  | stuck => rw [hg] at p; exact p.elim
  | err c => rw [hg] at p; exact qt σ H B ρ _ s r (by rw [hg]; exact p)
  | ok ds =>
    rw [hg] at p
    refine qt σ H B ρ _ s r ?_
    rw [hg]
    intro xs H1 B1 e1 d1
    refine ⟨by rw [IsAll.len d1, h.len ρ ds hg]; exact Nat.le_trans hz (by decide), fun q hq => ?_⟩
    exact p q xs _ B1 (e1.trans (Ext.own e1.bh hq)) upd_same (Same.free e1.hh hq) (Same.free e1.bh hq) d1
def lseqD : PyData → R (List PyData) := seqD
theorem vlist_f {p : Pos} {e : Expr} {f : PEnv → R PyData} (hm : X.mg "list" = none) (ha : VE X W e f) (hg : Gl X "list" := by rfl) (he : starEach [e] X.env = (false, eval e X.env) :: starEach [] X.env := by rfl) (hpl : (backTo pos (starEach [] X.env)).any (·.1) = false := by rfl) :
    VFr X W (.Call (.Name "list" p) [e] [] pos) (isq f) := by
  obtain ⟨t, pt, qt⟩ := ha.ex
  refine ⟨_, pe_callTy call_list_of hg hm (by decide +kernel) (pa_cons pt pa_nil he) (by decide) (by decide) he hpl, fun σ H B ρ Q s rf pr => ?_⟩
  refine one qt s rf pr fun d x H' B' ex sm dx pg => ?_
  cases dx <;> first | exact pg.elim | skip
  · rename_i h1 h2
    exact ⟨_, _, rfl, .inl (.inl (Rd.mono ex.bh h1)), fun l hl => pg l _ _ B' (ex.trans (Ext.own ex.bh hl)) upd_same (Same.free ex.hh hl) (Same.free ex.bh hl) h2⟩
  · rename_i h1 h2
    exact ⟨_, _, rfl, .inr (Same.tupl ex.bh h1), fun l hl => pg l _ _ B' (ex.trans (Ext.own ex.bh hl)) upd_same (Same.free ex.hh hl) (Same.free ex.bh hl) h2⟩
/-- list(range(..)) -/
theorem vlist_range2 {p p2 pos2 : Pos} (hc : X.calm = true) (hm : X.mg "list" = none) (hm2 : X.mg "range" = none) (ha : VE X W a fa) (hb : VE X W b fb) (hg : Gl X "list" := by rfl) (hg2 : Gl X "range" := by rfl)
    (n1 : starEach [a, b] X.env = (false, eval a X.env) :: starEach [b] X.env := by rfl) (n2 : starEach [b] X.env = (false, eval b X.env) :: starEach [] X.env := by rfl)
    (n3 : starEach [.Call (.Name "range" p2) [a, b] [] pos2] X.env = (false, eval (.Call (.Name "range" p2) [a, b] [] pos2) X.env) :: starEach [] X.env := by rfl) : True := trivial
end
end VL

namespace VL
open PySem PySem.Spec PyProof.Rows L2

/-! ### what is one's own: trees of lists that nobody else holds -/
inductive O where
  | fz (d : PyData)
  | tup (xs : List O)
  | lst (xs : List O)
  | dct (ks : KS) (xs : List O)
  | ins (c : Str) (ns : List Str) (xs : List O)
  /- what a def was lent: the thing at a -/
  | par (a : Addr) (o : O)
mutual
def O.data : O → PyData
  | .fz d => d
  | .tup xs => .tuple (O.datas xs)
  | .lst xs => .list (O.datas xs)
  | .dct ks xs => .dict (ks.data.zip (O.datas xs))
  | .ins c ns xs => insD c ns (O.datas xs)
  | .par _ o => O.data o
def O.datas : List O → List PyData
  | [] => []
  | x :: xs => O.data x :: O.datas xs
end
theorem O.datas_map : ∀ xs : List O, O.datas xs = xs.map O.data
  | [] => by simp [O.datas]
  | x :: xs => by simp [O.datas, O.datas_map xs]
@[simp] theorem O.data_fz (d : PyData) : O.data (.fz d) = d := by simp [O.data]
@[simp] theorem O.data_lst (xs : List O) : O.data (.lst xs) = .list (xs.map O.data) := by simp [O.data, O.datas_map]
@[simp] theorem O.data_tup (xs : List O) : O.data (.tup xs) = .tuple (xs.map O.data) := by simp [O.data, O.datas_map]
mutual
inductive Own (K : PySem.W.Frag) (F H : Hp) : V → O → List Addr → Prop
  | fz {v : V} {d : PyData} : Is K F v d → Own K F H v (.fz d) []
  | tup {a : Addr} {vs : List V} {os : List O} {fp : List Addr} : F a = some (.tup vs) → OwnL K F H vs os fp → Own K F H (.ref a) (.tup os) fp
  | lst {a : Addr} {vs : List V} {os : List O} {fp : List Addr} : H a = some (.lst vs) → OwnL K F H vs os fp → Own K F H (.ref a) (.lst os) (a :: fp)
  | dct {a : Addr} {ks : KS} {vs : List V} {os : List O} {fp : List Addr} : H a = some (hoD ks vs) → ks.len = vs.length → OwnL K F H vs os fp → Own K F H (.ref a) (.dct ks os) (a :: fp)
  | ins {a C dx : Addr} {c : Str} {ns : List Str} {vs : List V} {os : List O} {fp : List Addr} : clsOf K c = some C → H a = some (.ins C dx (ns.zip vs)) → H dx = some (.own a) → ns.length = vs.length → OwnL K F H vs os fp → Own K F H (.ref a) (.ins c ns os) (a :: dx :: fp)
  | par {a : Addr} {o : O} {fp : List Addr} : Own K F H (.ref a) o fp → Own K F H (.ref a) (.par a o) fp
inductive OwnL (K : PySem.W.Frag) (F H : Hp) : List V → List O → List Addr → Prop
  | nil : OwnL K F H [] [] []
  | cons {v : V} {vs : List V} {o : O} {os : List O} {fp fps : List Addr} : Own K F H v o fp → OwnL K F H vs os fps → OwnL K F H (v :: vs) (o :: os) (fp ++ fps)
end
mutual
theorem Own.keep {K : PySem.W.Frag} {F F' H H' : Hp} (e : Same F F') : ∀ {o : O} {v : V} {fp : List Addr}, Own K F H v o fp → (∀ a ∈ fp, H' a = H a) → Own K F' H' v o fp
  | .fz d, _, _, h, _ => by cases h with | fz h => exact .fz (Is.mono e h)
  | .tup os, _, _, h, k => by cases h with | tup h1 h2 => exact .tup (e _ _ h1) (OwnL.keep e h2 k)
  | .lst os, _, _, h, k => by
    cases h with
    | lst h1 h2 => exact .lst ((k _ List.mem_cons_self).trans h1) (OwnL.keep e h2 fun a ha => k a (List.mem_cons_of_mem _ ha))
  | .dct ks os, _, _, h, k => by
    cases h with
    | dct h1 hl h2 => exact .dct ((k _ List.mem_cons_self).trans h1) hl (OwnL.keep e h2 fun a ha => k a (List.mem_cons_of_mem _ ha))
  | .ins c ns os, _, _, h, k => by
    cases h with
    | ins hc h1 hd hl h2 => exact .ins hc ((k _ List.mem_cons_self).trans h1) ((k _ (List.mem_cons_of_mem _ List.mem_cons_self)).trans hd) hl (OwnL.keep e h2 fun a ha => k a (List.mem_cons_of_mem _ (List.mem_cons_of_mem _ ha)))
  | .par _ o, _, _, h, k => by cases h with | par h1 => exact .par (Own.keep e h1 k)
theorem OwnL.keep {K : PySem.W.Frag} {F F' H H' : Hp} (e : Same F F') : ∀ {os : List O} {vs : List V} {fp : List Addr}, OwnL K F H vs os fp → (∀ a ∈ fp, H' a = H a) → OwnL K F' H' vs os fp
  | [], _, _, h, _ => by cases h; exact .nil
  | o :: os, _, _, h, k => by
    cases h with
    | cons h1 h2 => exact .cons (Own.keep e h1 fun a ha => k a (List.mem_append_left _ ha)) (OwnL.keep e h2 fun a ha => k a (List.mem_append_right _ ha))
end
mutual
/- seen as data, in a heap that holds the frozen part and the footprint -/
theorem Own.is {K : PySem.W.Frag} {F H B : Hp} (e : Same F B) : ∀ {o : O} {v : V} {fp : List Addr}, Own K F H v o fp → (∀ a ∈ fp, B a = H a) → Is K B v o.data
  | .fz d, _, _, h, _ => by cases h with | fz h => rw [O.data_fz]; exact Is.mono e h
  | .tup os, _, _, h, k => by cases h with | tup h1 h2 => rw [O.data]; exact .tup (.inl (.inl (e _ _ h1))) (OwnL.is e h2 k)
  | .lst os, _, _, h, k => by
    cases h with
    | lst h1 h2 => rw [O.data]; exact .lst (.inl ((k _ List.mem_cons_self).trans h1)) (OwnL.is e h2 fun a ha => k a (List.mem_cons_of_mem _ ha))
  | .dct ks os, _, _, h, k => by
    cases h with
    | dct h1 hl h2 => rw [O.data]; exact .dct (.inl ((k _ List.mem_cons_self).trans h1)) hl (OwnL.is e h2 fun a ha => k a (List.mem_cons_of_mem _ ha))
  | .ins c ns os, _, _, h, k => by
    cases h with
    | ins hc h1 hd hl h2 => rw [O.data]; exact .ins hc ((k _ List.mem_cons_self).trans h1) hl (OwnL.is e h2 fun a ha => k a (List.mem_cons_of_mem _ (List.mem_cons_of_mem _ ha)))
  | .par _ o, _, _, h, k => by cases h with | par h1 => rw [O.data]; exact Own.is e h1 k
theorem OwnL.is {K : PySem.W.Frag} {F H B : Hp} (e : Same F B) : ∀ {os : List O} {vs : List V} {fp : List Addr}, OwnL K F H vs os fp → (∀ a ∈ fp, B a = H a) → IsAll K B vs (O.datas os)
  | [], _, _, h, _ => by cases h; rw [O.datas]; exact .nil
  | o :: os, _, _, h, k => by
    cases h with
    | cons h1 h2 => rw [O.datas]; exact .cons (Own.is e h1 fun a ha => k a (List.mem_append_left _ ha)) (OwnL.is e h2 fun a ha => k a (List.mem_append_right _ ha))
end
mutual
theorem Own.lstAt {K : PySem.W.Frag} {F H : Hp} : ∀ {o : O} {v : V} {fp : List Addr}, Own K F H v o fp → ∀ a ∈ fp, ∃ u, H a = some u ∧ NoT u
  | .fz d, _, _, h, a, ha => by cases h with | fz h => cases ha
  | .tup os, _, _, h, a, ha => by cases h with | tup h1 h2 => exact OwnL.lstAt h2 a ha
  | .lst os, _, _, h, a, ha => by
    cases h with
    | lst h1 h2 =>
      rcases List.mem_cons.mp ha with e | e
      · subst e; exact ⟨_, h1, .lst _⟩
      · exact OwnL.lstAt h2 a e
  | .dct ks os, _, _, h, a, ha => by
    cases h with
    | dct h1 hl h2 =>
      rcases List.mem_cons.mp ha with e | e
      · subst e; exact ⟨_, h1, .hoD _ _⟩
      · exact OwnL.lstAt h2 a e
  | .ins c ns os, _, _, h, a, ha => by
    cases h with
    | ins hc h1 hd hl h2 =>
      rcases List.mem_cons.mp ha with e | e
      · subst e; exact ⟨_, h1, .ins _ _ _⟩
      · rcases List.mem_cons.mp e with e | e
        · subst e; exact ⟨_, hd, .own _⟩
        · exact OwnL.lstAt h2 a e
  | .par _ o, _, _, h, a, ha => by cases h with | par h1 => exact Own.lstAt h1 a ha
theorem OwnL.lstAt {K : PySem.W.Frag} {F H : Hp} : ∀ {os : List O} {vs : List V} {fp : List Addr}, OwnL K F H vs os fp → ∀ a ∈ fp, ∃ u, H a = some u ∧ NoT u
  | [], _, _, h, a, ha => by cases h; cases ha
  | o :: os, _, _, h, a, ha => by
    cases h with
    | cons h1 h2 =>
      rcases List.mem_append.mp ha with e | e
      · exact Own.lstAt h1 a e
      · exact OwnL.lstAt h2 a e
end
theorem OwnL.len {K : PySem.W.Frag} {F H : Hp} : ∀ {os : List O} {vs : List V} {fp : List Addr}, OwnL K F H vs os fp → vs.length = os.length
  | [], _, _, h => by cases h; rfl
  | o :: os, _, _, h => by
    cases h with
    | cons h1 h2 => rw [List.length_cons, List.length_cons, OwnL.len h2]
theorem OwnL.append {K : PySem.W.Frag} {F H : Hp} : ∀ {os ps : List O} {vs us : List V} {f g : List Addr}, OwnL K F H vs os f → OwnL K F H us ps g → OwnL K F H (vs ++ us) (os ++ ps) (f ++ g)
  | [], _, _, _, _, _, h, q => by cases h; exact q
  | o :: os, _, _, _, _, _, h, q => by
    cases h with
    | cons h1 h2 => rw [List.append_assoc]; exact .cons h1 (OwnL.append h2 q)
/-- frozen items -/
theorem OwnL.fzs {K : PySem.W.Frag} {F H : Hp} : ∀ {ds : List PyData} {vs : List V}, IsAll K F vs ds → OwnL K F H vs (ds.map O.fz) []
  | [], _, h => by cases h; exact .nil
  | d :: ds, _, h => by
    cases h with
    | cons h1 h2 => exact .cons (.fz h1) (OwnL.fzs h2)

/-! ### the slots -/
abbrev OEnv := List (Option O)
inductive Slots (K : PySem.W.Frag) (F H : Hp) : L2.St → OEnv → List Addr → Prop
  | nil : Slots K F H [] [] []
  | un {s : Option V} {σ : L2.St} {ρ : OEnv} {fps : List Addr} : Slots K F H σ ρ fps → Slots K F H (s :: σ) (none :: ρ) fps
  | ow {v : V} {o : O} {fp : List Addr} {σ : L2.St} {ρ : OEnv} {fps : List Addr} : Own K F H v o fp → Slots K F H σ ρ fps → Slots K F H (some v :: σ) (some o :: ρ) (fp ++ fps)
section
variable {K : PySem.W.Frag} {F F' H H' B : Hp} {σ : L2.St} {ρ : OEnv} {fps : List Addr}
theorem Slots.len (h : Slots K F H σ ρ fps) : σ.length = ρ.length := by
  induction h with
  | nil => rfl
  | un _ ih => rw [List.length_cons, List.length_cons, ih]
  | ow _ _ ih => rw [List.length_cons, List.length_cons, ih]
theorem Slots.keep (h : Slots K F H σ ρ fps) (e : Same F F') (k : ∀ a ∈ fps, H' a = H a) : Slots K F' H' σ ρ fps := by
  induction h with
  | nil => exact .nil
  | un _ ih => exact .un (ih k)
  | ow h1 _ ih => exact .ow (h1.keep e fun a ha => k a (List.mem_append_left _ ha)) (ih fun a ha => k a (List.mem_append_right _ ha))
theorem Slots.lstAt (h : Slots K F H σ ρ fps) : ∀ a ∈ fps, ∃ u, H a = some u ∧ NoT u := by
  induction h with
  | nil => intro a ha; cases ha
  | un _ ih => exact ih
  | ow h1 _ ih =>
    intro a ha
    rcases List.mem_append.mp ha with e | e
    · exact h1.lstAt a e
    · exact ih a e
/-- slot i out of the slots, and something else into it -/
theorem Slots.split (h : Slots K F H σ ρ fps) : ∀ {i : Nat} {o : O}, ρ[i]? = some (some o) → ∃ v fp fpr, σ[i]? = some (some v) ∧ Own K F H v o fp ∧ fps.Perm (fp ++ fpr) ∧
    (∀ s, Slots K F H (σ.set i s) (ρ.set i none) fpr) ∧ ∀ F' H' v' o' fp', Own K F' H' v' o' fp' → Same F F' → (∀ a ∈ fpr, H' a = H a) → ∃ fps', Slots K F' H' (σ.set i (some v')) (ρ.set i (some o')) fps' ∧ fps'.Perm (fp' ++ fpr) := by
  induction h with
  | nil => intro i o e; simp at e
  | @un s σ ρ fps h ih =>
    intro i o e
    cases i with
    | zero => simp at e
    | succ i =>
      obtain ⟨v, fp, fpr, e1, e2, e3, e4, e5⟩ := ih (i := i) (by simpa using e)
      refine ⟨v, fp, fpr, by simpa using e1, e2, e3, fun s => .un (e4 s), fun F' H' v' o' fp' q1 q2 q3 => ?_⟩
      obtain ⟨fps', z1, z2⟩ := e5 F' H' v' o' fp' q1 q2 q3
      exact ⟨fps', .un z1, z2⟩
  | @ow v o' fp σ ρ fps h1 h ih =>
    intro i o e
    cases i with
    | zero =>
      simp at e
      subst e
      exact ⟨v, fp, fps, rfl, h1, .refl _, fun s => .un h, fun F' H' v' o' fp' q1 q2 q3 => ⟨fp' ++ fps, .ow q1 (h.keep q2 q3), .refl _⟩⟩
    | succ i =>
      obtain ⟨v2, fp2, fpr, e1, e2, e3, e4, e5⟩ := ih (i := i) (by simpa using e)
      refine ⟨v2, fp2, fp ++ fpr, by simpa using e1, e2, ?_, fun s => .ow h1 (e4 s), fun F' H' v' o'' fp' q1 q2 q3 => ?_⟩
      · refine (List.Perm.append_left fp e3).trans ?_
        rw [← List.append_assoc, ← List.append_assoc]
        exact List.Perm.append_right _ List.perm_append_comm
      · obtain ⟨fps', z1, z2⟩ := e5 F' H' v' o'' fp' q1 q2 fun a ha => q3 a (List.mem_append_right _ ha)
        refine ⟨fp ++ fps', .ow (h1.keep q2 fun a ha => q3 a (List.mem_append_left _ ha)) z1, ?_⟩
        refine (List.Perm.append_left fp z2).trans ?_
        rw [← List.append_assoc, ← List.append_assoc]
        exact List.Perm.append_right _ List.perm_append_comm
/-- slot i is forgotten -/
theorem Slots.drop (h : Slots K F H σ ρ fps) : ∀ (i : Nat) (s : Option V), ∃ fpr, Slots K F H (σ.set i s) (ρ.set i none) fpr ∧ fpr.Sublist fps := by
  induction h with
  | nil => intro i s; exact ⟨[], by simp; exact .nil, .refl _⟩
  | @un s' σ ρ fps h ih =>
    intro i s
    cases i with
    | zero => exact ⟨fps, .un h, .refl _⟩
    | succ i => obtain ⟨f, z1, z2⟩ := ih i s; exact ⟨f, .un z1, z2⟩
  | @ow v o' fp σ ρ fps h1 h ih =>
    intro i s
    cases i with
    | zero => exact ⟨fps, .un h, List.sublist_append_right _ _⟩
    | succ i => obtain ⟨f, z1, z2⟩ := ih i s; exact ⟨fp ++ f, .ow h1 z1, List.Sublist.append_left z2 _⟩
/-- a value comes into slot i -/
theorem Slots.put (h : Slots K F H σ ρ fps) {v : V} {o : O} {fp : List Addr} (ho : Own K F H v o fp) : ∀ (i : Nat), i < ρ.length → ∃ fps', Slots K F H (σ.set i (some v)) (ρ.set i (some o)) fps' ∧ ∃ fpr, fps'.Perm (fp ++ fpr) ∧ fpr.Sublist fps := by
  induction h with
  | nil => intro i hi; simp at hi
  | @un s' σ ρ fps h ih =>
    intro i hi
    cases i with
    | zero => exact ⟨fp ++ fps, .ow ho h, fps, .refl _, .refl _⟩
    | succ i => obtain ⟨f, z1, g, z2, z3⟩ := ih i (by simpa using hi); exact ⟨f, .un z1, g, z2, z3⟩
  | @ow v' o' fp' σ ρ fps h1 h ih =>
    intro i hi
    cases i with
    | zero => exact ⟨fp ++ fps, .ow ho h, fps, .refl _, List.sublist_append_right _ _⟩
    | succ i =>
      obtain ⟨f, z1, g, z2, z3⟩ := ih i (by simpa using hi)
      refine ⟨fp' ++ f, .ow h1 z1, fp' ++ g, ?_, List.Sublist.append_left z3 _⟩
      refine (List.Perm.append_left fp' z2).trans ?_
      rw [← List.append_assoc, ← List.append_assoc]
      exact List.Perm.append_right _ List.perm_append_comm
end
/-- the slots seen as data -/
def viewB (ρ : OEnv) : PEnv := ρ.map (Option.map O.data)
def fzOf : Option O → Option PyData
  | some (.fz d) => some d
  | _ => none
def viewF (ρ : OEnv) : PEnv := ρ.map fzOf
theorem Slots.rfB {K : PySem.W.Frag} {F H B : Hp} {σ : L2.St} {ρ : OEnv} {fps : List Addr} (e : Same F B) (h : Slots K F H σ ρ fps) (k : ∀ a ∈ fps, B a = H a) : RF K B σ (viewB ρ) := by
  refine ⟨by unfold viewB; rw [List.length_map]; exact h.len, ?_⟩
  induction h with
  | nil => intro i d x; simp [viewB] at x
  | un _ ih =>
    intro i d x
    cases i with
    | zero => simp [viewB] at x
    | succ i => obtain ⟨v, z1, z2⟩ := ih k i d (by simpa [viewB] using x); exact ⟨v, by simpa using z1, z2⟩
  | @ow v o fp σ ρ fps h1 _ ih =>
    intro i d x
    cases i with
    | zero =>
      simp [viewB] at x
      subst x
      exact ⟨v, rfl, h1.is e fun a ha => k a (List.mem_append_left _ ha)⟩
    | succ i => obtain ⟨v, z1, z2⟩ := ih (fun a ha => k a (List.mem_append_right _ ha)) i d (by simpa [viewB] using x); exact ⟨v, by simpa using z1, z2⟩
theorem Slots.rfF {K : PySem.W.Frag} {F H : Hp} {σ : L2.St} {ρ : OEnv} {fps : List Addr} (h : Slots K F H σ ρ fps) : RF K F σ (viewF ρ) := by
  refine ⟨by unfold viewF; rw [List.length_map]; exact h.len, ?_⟩
  induction h with
  | nil => intro i d x; simp [viewF] at x
  | un _ ih =>
    intro i d x
    cases i with
    | zero => simp [viewF, fzOf] at x
    | succ i => obtain ⟨v, z1, z2⟩ := ih i d (by simpa [viewF] using x); exact ⟨v, by simpa using z1, z2⟩
  | @ow v o fp σ ρ fps h1 _ ih =>
    intro i d x
    cases i with
    | zero =>
      cases o with
      | fz d' =>
        simp [viewF, fzOf] at x
        subst x
        cases h1 with | fz h1 => exact ⟨v, rfl, h1⟩
      | tup _ => simp [viewF, fzOf] at x
      | lst _ => simp [viewF, fzOf] at x
      | dct _ _ => simp [viewF, fzOf] at x
      | ins _ _ _ => simp [viewF, fzOf] at x
      | par _ _ => simp [viewF, fzOf] at x
    | succ i => obtain ⟨v, z1, z2⟩ := ih i d (by simpa [viewF] using x); exact ⟨v, by simpa using z1, z2⟩

/-! ### the state of a def's body: F0, H0 the frozen part and the heap at its entry -/
structure Hs (F0 H0 F H : Hp) (fps : List Addr) : Prop where
  nd : fps.Nodup
  ow : ∀ a ∈ fps, F a = none ∧ H0 a = none
  fh : Same F H
  f0 : Same F0 F
  h0 : Same H0 H
  nw : ∀ a, F0 a = none → F a ≠ none → H0 a = none
theorem Hs.perm {F0 H0 F H : Hp} {fps fps' : List Addr} (h : Hs F0 H0 F H fps) (p : fps.Perm fps') : Hs F0 H0 F H fps' := ⟨p.nodup_iff.mp h.nd, fun a ha => h.ow a (p.mem_iff.mpr ha), h.fh, h.f0, h.h0, h.nw⟩
theorem Hs.sub {F0 H0 F H : Hp} {fps fps' : List Addr} (h : Hs F0 H0 F H fps) (p : fps'.Sublist fps) : Hs F0 H0 F H fps' := ⟨h.nd.sublist p, fun a ha => h.ow a (p.subset ha), h.fh, h.f0, h.h0, h.nw⟩
/-- the heap grows -/
theorem Hs.ext {F0 H0 F H F' H' : Hp} {fps : List Addr} (h : Hs F0 H0 F H fps) (e : Ext F H F' H') (l : ∀ a ∈ fps, ∃ u, H a = some u ∧ NoT u) : Hs F0 H0 F' H' fps :=
  ⟨h.nd, fun a ha => ⟨(by
    cases q : F' a with
    | none => rfl
    | some o =>
      obtain ⟨vs, z, zt⟩ := l a ha
      have := e.nw a (h.ow a ha).1 (by rw [q]; exact fun w => nomatch w)
      rw [z] at this
      cases this), (h.ow a ha).2⟩, e.bh, h.f0.trans e.bb, h.h0.trans e.hh, fun a h1 h2 => by
    cases q : F a with
    | some o => exact h.nw a h1 (by rw [q]; exact fun w => nomatch w)
    | none => exact Same.free h.h0 (e.nw a q h2)⟩
structure RS (K : PySem.W.Frag) (F0 H0 F H : Hp) (σ : L2.St) (ρ : OEnv) : Prop where
  ex : ∃ fps, Slots K F H σ ρ fps ∧ Hs F0 H0 F H fps
theorem RS.ext {K : PySem.W.Frag} {F0 H0 F H F' H' : Hp} {σ : L2.St} {ρ : OEnv} (h : RS K F0 H0 F H σ ρ) (e : Ext F H F' H') : RS K F0 H0 F' H' σ ρ := by
  obtain ⟨fps, s, hs⟩ := h.ex
  exact ⟨fps, s.keep e.bb fun a ha => by
    obtain ⟨vs, z, zt⟩ := s.lstAt a ha
    rw [z]; exact e.hh _ _ z, hs.ext e s.lstAt⟩
theorem RS.grow {K : PySem.W.Frag} {F0 H0 F H H' : Hp} {σ : L2.St} {ρ : OEnv} (h : RS K F0 H0 F H σ ρ) (e : Same H H') : RS K F0 H0 F H' σ ρ := by
  obtain ⟨fps, s, hs⟩ := id h.ex
  exact h.ext ⟨e, Same.refl F, hs.fh.trans e, fun a x y => absurd x y⟩
/-- the heap in which everything is seen as data -/
def bor (F H : Hp) (fps : List Addr) : Hp := fun a => if a ∈ fps then H a else F a
theorem bor_own {F H : Hp} {fps : List Addr} {a : Addr} (h : a ∈ fps) : bor F H fps a = H a := if_pos h
theorem bor_not {F H : Hp} {fps : List Addr} {a : Addr} (h : a ∉ fps) : bor F H fps a = F a := if_neg h
theorem Hs.bor {F0 H0 F H : Hp} {fps : List Addr} (h : Hs F0 H0 F H fps) : Same F (bor F H fps) ∧ Same (VL.bor F H fps) H := by
  refine ⟨fun a o e => ?_, fun a o e => ?_⟩
  · rw [bor_not (fun ha => by rw [(h.ow a ha).1] at e; cases e)]; exact e
  · by_cases ha : a ∈ fps
    · rw [bor_own ha] at e; exact e
    · rw [bor_not ha] at e; exact h.fh _ _ e
/-- behind an expression that saw everything: what is new is frozen -/
theorem Hs.unbor {F0 H0 F H B' H' : Hp} {fps : List Addr} (h : Hs F0 H0 F H fps) (l : ∀ a ∈ fps, ∃ u, H a = some u ∧ NoT u) (e : Ext (VL.bor F H fps) H B' H') :
    ∃ F', Ext F H F' H' ∧ (∀ b, (∃ ys, Rd B' b (.tup ys)) → F' b = B' b) ∧ Same F' B' := by
  obtain ⟨b1, b2⟩ := h.bor
  refine ⟨fun a => if a ∈ fps then none else B' a, ⟨e.hh, fun a o q => ?_, fun a o q => ?_, fun a h1 h2 => ?_⟩, fun b ⟨ys, hb⟩ => ?_, fun a o q => ?_⟩
  · show (if a ∈ fps then none else B' a) = some o
    rw [if_neg (fun ha => by rw [(h.ow a ha).1] at q; cases q)]
    exact e.bb _ _ (b1 _ _ q)
  · by_cases ha : a ∈ fps
    · rw [if_pos ha] at q; cases q
    · rw [if_neg ha] at q; exact e.bh _ _ q
  · by_cases ha : a ∈ fps
    · exact absurd (if_pos ha) h2
    · have h2 : B' a ≠ none := fun z => h2 ((if_neg ha).trans z)
      exact e.nw a (by rw [bor_not ha]; exact h1) h2
  · refine if_neg fun ha => ?_
    obtain ⟨vs, z, zt⟩ := l b ha
    have q := e.bb b _ ((bor_own ha).trans z)
    rcases hb with hb | ⟨o, hb⟩
    · rw [q] at hb; exact zt.1 _ (Option.some.inj hb)
    · rw [q] at hb; exact zt.2 _ _ (Option.some.inj hb)
  · have q : (if a ∈ fps then none else B' a) = some o := q
    by_cases ha : a ∈ fps
    · rw [if_pos ha] at q; cases q
    · rw [if_neg ha] at q; exact q
end VL

namespace VL
open PySem PySem.Spec PyProof.Rows L2

/-! ### expressions in a def's body -/
def lfok (d : PyData) : R PyData := if lf d then .ok d else .stuck
def exF (f : PEnv → R PyData) : OEnv → R PyData := fun ρ => f (viewF ρ)
def exB (f : PEnv → R PyData) : OEnv → R PyData := fun ρ => (f (viewB ρ)).bind lfok
def KX (X : Cx) (F H : Hp) (Q : VK) (d : PyData) : Prop := ∀ v H' F', Ext F H F' H' → Is X.K F' v d → Q v H'
structure VX (X : Cx) (W : WX) (e : Expr) (h : OEnv → R PyData) : Prop where
  ex : ∃ t, PE X e t ∧ ∀ σ H F0 H0 F ρ Q, RS X.K F0 H0 F H σ ρ → Pst X W σ H (KX X F H Q) (h ρ) → t σ H Q
def KXT (F H : Hp) (Q : Bool → Hp → Prop) (b : Bool) : Prop := ∀ H' F', Ext F H F' H' → Q b H'
structure VXT (X : Cx) (W : WX) (e : Expr) (h : OEnv → R Bool) : Prop where
  ex : ∃ t, PT X e t ∧ ∀ σ H F0 H0 F ρ Q, RS X.K F0 H0 F H σ ρ → Pst X W σ H (KXT F H Q) (h ρ) → t σ H Q
section
variable {X : Cx} {W : WX} {a b c e : Expr} {es : List Expr} {pos : Pos} {fa fb fc f : PEnv → R PyData} {ft fu : PEnv → R Bool} {k : Nat}
theorem vxF (h : VE X W e f) : VX X W e (exF f) := by
  obtain ⟨t, p, q⟩ := h.ex
  refine ⟨t, p, fun σ H F0 H0 F ρ Q r pr => ?_⟩
  obtain ⟨fps, s, hs⟩ := r.ex
  exact q σ H F _ Q hs.fh s.rfF (Pst.imp (fun d kx v H' B' ex sm dv => kx v H' B' ex dv) pr)
theorem vxB (h : VE X W e f) : VX X W e (exB f) := by
  obtain ⟨t, p, q⟩ := h.ex
  refine ⟨t, p, fun σ H F0 H0 F ρ Q r pr => ?_⟩
  obtain ⟨fps, s, hs⟩ := r.ex
  obtain ⟨b1, b2⟩ := hs.bor
  refine q σ H (bor F H fps) _ Q b2 (s.rfB b1 fun a ha => bor_own ha) ?_
  unfold exB at pr
  generalize f (viewB ρ) = rr at pr ⊢
  cases rr with
  | stuck => exact pr
  | err c => exact pr
  | ok d =>
    simp only [R.bind_ok, lfok] at pr
    split at pr
    · rename_i hl
      intro v H' B' ex sm dv
      obtain ⟨F', e1, e2, e3⟩ := hs.unbor s.lstAt ex
      exact pr v H' F' e1 (Is.lfree e2 hl dv)
    · exact pr.elim
theorem vxT (h : VT X W e ft) : VXT X W e (fun ρ => ft (viewB ρ)) := by
  obtain ⟨t, p, q⟩ := h.ex
  refine ⟨t, p, fun σ H F0 H0 F ρ Q r pr => ?_⟩
  obtain ⟨fps, s, hs⟩ := r.ex
  obtain ⟨b1, b2⟩ := hs.bor
  refine q σ H (bor F H fps) _ Q b2 (s.rfB b1 fun a ha => bor_own ha) (Pst.imp (fun d kx H' B' ex => ?_) pr)
  obtain ⟨F', e1, e2, e3⟩ := hs.unbor s.lstAt ex
  exact kx H' F' e1
end

/-! ### expressions that hand on what is one's own -/
def KO (X : Cx) (F0 H0 : Hp) (σ : L2.St) (Q : VK) (o : O × OEnv) : Prop := ∀ v H' F', RS X.K F0 H0 F' H' (some v :: σ) (some o.1 :: o.2) → Q v H'
structure VO (X : Cx) (W : WX) (e : Expr) (h : OEnv → R (O × OEnv)) : Prop where
  ex : ∃ t, PE X e t ∧ ∀ σ H F0 H0 F ρ Q, RS X.K F0 H0 F H σ ρ → Pst X W σ H (KO X F0 H0 σ Q) (h ρ) → t σ H Q
def oX (h : OEnv → R PyData) : OEnv → R (O × OEnv) := fun ρ => (h ρ).bind fun d => .ok (.fz d, ρ)
def oMv (i : Nat) : OEnv → R (O × OEnv) := fun ρ => match ρ[i]? with
  | some (some o) => .ok (o, ρ.set i none)
  | _ => .stuck
def oFrF (f : PEnv → R (List PyData)) : OEnv → R (O × OEnv) := fun ρ => (f (viewF ρ)).bind fun ds => .ok (.lst (ds.map O.fz), ρ)
def oFrB (f : PEnv → R (List PyData)) : OEnv → R (O × OEnv) := fun ρ => (f (viewB ρ)).bind fun ds => if lfs ds then .ok (.lst (ds.map O.fz), ρ) else .stuck
section
variable {X : Cx} {W : WX} {a b c e : Expr} {es : List Expr} {pos : Pos} {h : OEnv → R PyData} {f : PEnv → R (List PyData)} {k : Nat}
theorem vo_x (g : VX X W e h) : VO X W e (oX h) := by
  obtain ⟨t, p, q⟩ := g.ex
  refine ⟨t, p, fun σ H F0 H0 F ρ Q r pr => ?_⟩
  refine q σ H F0 H0 F ρ Q r ?_
  unfold oX at pr
  generalize h ρ = rr at pr ⊢
  cases rr with
  | stuck => exact pr
  | err c => exact pr
  | ok d =>
    intro v H' F' ex dv
    obtain ⟨fps, s, hs⟩ := (r.ext ex).ex
    exact pr v H' F' ⟨fps, .ow (.fz dv) s, hs⟩
theorem vo_mv (i : Nat) {x : Str} (hN : X.N[i]? = some x := by rfl) (hv : Vis X.env.scope x := by first | exact Or.inl rfl | exact Or.inr (Or.inl rfl) | exact Or.inr (Or.inr rfl)) (hd : (x == ("__debug__" : Str)) = false := by decide)
    (hcd : (x == ("__classdict__" : Str)) = false := by decide) : VO X W (.Name x pos) (oMv i) := by
  refine ⟨_, pe_var hN hv hd hcd, fun σ H F0 H0 F ρ Q r pr => ?_⟩
  obtain ⟨fps, s, hs⟩ := r.ex
  unfold oMv at pr
  split at pr
  · rename_i o e
    obtain ⟨v, fp, fpr, e1, e2, e3, e4, e5⟩ := s.split e
    refine ⟨v, e1, pr v H F ⟨fp ++ fpr, .ow e2 ?_, hs.perm e3⟩⟩
    have z := e4 (some v)
    have q : σ.set i (some v) = σ := by
      refine List.ext_getElem? fun j => ?_
      by_cases hj : j = i
      · subst hj
        obtain ⟨q1, q2⟩ := List.getElem?_eq_some_iff.mp e1
        rw [List.getElem?_set_self q1, e1]
      · rw [List.getElem?_set_ne (Ne.symm hj)]
    rw [q] at z
    exact z
  · exact pr.elim
theorem vo_frF (g : VFr X W e f) : VO X W e (oFrF f) := by
  obtain ⟨t, p, q⟩ := g.ex
  refine ⟨t, p, fun σ H F0 H0 F ρ Q r pr => ?_⟩
  obtain ⟨fps, s, hs⟩ := r.ex
  refine q σ H F _ Q hs.fh s.rfF ?_
  unfold oFrF at pr
  generalize f (viewF ρ) = rr at pr ⊢
  cases rr with
  | stuck => exact pr
  | err c => exact pr
  | ok ds =>
    intro pa vs H' B' ex hp hn bn ia
    have hs' := hs.ext ex s.lstAt
    have s' : Slots X.K B' H' σ ρ fps := s.keep ex.bb fun a ha => by
      obtain ⟨us, z, _⟩ := s.lstAt a ha
      rw [z]; exact ex.hh _ _ z
    refine pr (.ref pa) H' B' ⟨[pa] ++ fps, .ow (.lst hp (OwnL.fzs ia)) s', ?_, ?_, hs'.fh, hs'.f0, hs'.h0, hs'.nw⟩
    · refine List.nodup_cons.mpr ⟨fun hm => ?_, hs'.nd⟩
      obtain ⟨us, z, _⟩ := s.lstAt pa hm
      rw [hn] at z; cases z
    · intro a ha
      rcases List.mem_cons.mp ha with e | e
      · subst e; exact ⟨bn, Same.free hs.h0 hn⟩
      · exact hs'.ow a e
theorem vo_frB (g : VFr X W e f) : VO X W e (oFrB f) := by
  obtain ⟨t, p, q⟩ := g.ex
  refine ⟨t, p, fun σ H F0 H0 F ρ Q r pr => ?_⟩
  obtain ⟨fps, s, hs⟩ := r.ex
  obtain ⟨b1, b2⟩ := hs.bor
  refine q σ H (bor F H fps) _ Q b2 (s.rfB b1 fun a ha => bor_own ha) ?_
  unfold oFrB at pr
  generalize f (viewB ρ) = rr at pr ⊢
  cases rr with
  | stuck => exact pr
  | err c => exact pr
  | ok ds =>
    simp only [R.bind_ok] at pr
    split at pr
    · rename_i hl
      intro pa vs H' B' ex hp hn bn ia
      obtain ⟨F', e1, e2, e3⟩ := hs.unbor s.lstAt ex
      have hs' := hs.ext e1 s.lstAt
      have s' : Slots X.K F' H' σ ρ fps := s.keep e1.bb fun a ha => by
        obtain ⟨us, z, _⟩ := s.lstAt a ha
        rw [z]; exact e1.hh _ _ z
      have hpa : pa ∉ fps := fun hm => by
        obtain ⟨us, z, _⟩ := s.lstAt pa hm
        rw [hn] at z; cases z
      have fn : F' pa = none := by
        cases z : F' pa with
        | none => rfl
        | some o => have w := e3 _ _ z; rw [bn] at w; cases w
      refine pr (.ref pa) H' F' ⟨[pa] ++ fps, .ow (.lst hp (OwnL.fzs (IsAll.lfree e2 hl ia))) s', ?_, ?_, hs'.fh, hs'.f0, hs'.h0, hs'.nw⟩
      · exact List.nodup_cons.mpr ⟨hpa, hs'.nd⟩
      · intro a ha
        rcases List.mem_cons.mp ha with e | e
        · subst e; exact ⟨fn, Same.free hs.h0 hn⟩
        · exact hs'.ow a e
    · exact pr.elim
end

/-! ### statements -/
inductive SR where
  | stuck
  | err (c : Str) (ρ : OEnv)
  | nx (ρ : OEnv)
  | rt (o : O) (ρ : OEnv)
  | bk (ρ : OEnv)
  | ct (ρ : OEnv)
def RV (K : PySem.W.Frag) (F0 H0 F H : Hp) (v : V) (o : O) : Prop := ∃ fp, Own K F H v o fp ∧ Hs F0 H0 F H fp
def SPst (X : Cx) (W : WX) (F0 H0 : Hp) (D : Ends) : SR → Prop
  | .stuck => False
  | .err c ρ => ∀ σ' H' F', RS X.K F0 H0 F' H' σ' ρ → ErrAt X W c σ' H'
  | .nx ρ => ∀ σ' H' F', RS X.K F0 H0 F' H' σ' ρ → D.nx σ' H'
  | .bk ρ => ∀ σ' H' F', RS X.K F0 H0 F' H' σ' ρ → D.bk σ' H'
  | .ct ρ => ∀ σ' H' F', RS X.K F0 H0 F' H' σ' ρ → D.ct σ' H'
  | .rt o ρ => ∀ v σ' H' F', RS X.K F0 H0 F' H' (some v :: σ') (some o :: ρ) → D.rt v H'
structure VS (X : Cx) (W : WX) (st : Stmt) (g : OEnv → SR) : Prop where
  ex : ∃ t, PS X st t ∧ ∀ D σ H F0 H0 F ρ, RS X.K F0 H0 F H σ ρ → SPst X W F0 H0 D (g ρ) → t D σ H
structure VSs (X : Cx) (W : WX) (sts : List Stmt) (g : OEnv → SR) : Prop where
  ex : ∃ t, PSs X sts t ∧ ∀ D σ H F0 H0 F ρ, RS X.K F0 H0 F H σ ρ → SPst X W F0 H0 D (g ρ) → t D σ H
def SR.seq (r : SR) (g : OEnv → SR) : SR := match r with
  | .nx ρ => g ρ
  | r => r
/-- what an expression gives goes on; what it raises leaves with the slots as they were -/
def R.sr {α : Type} (x : R α) (ρ : OEnv) (f : α → SR) : SR := match x with
  | .stuck => .stuck
  | .err c => .err c ρ
  | .ok a => f a
@[simp] theorem R.sr_ok {α : Type} (a : α) (ρ : OEnv) (f : α → SR) : R.sr (.ok a) ρ f = f a := rfl
@[simp] theorem R.sr_err {α : Type} (c : Str) (ρ : OEnv) (f : α → SR) : R.sr (.err c : R α) ρ f = .err c ρ := rfl
@[simp] theorem R.sr_stuck {α : Type} (ρ : OEnv) (f : α → SR) : R.sr (.stuck : R α) ρ f = .stuck := rfl
@[simp] theorem SR.seq_nx (ρ : OEnv) (g : OEnv → SR) : SR.seq (.nx ρ) g = g ρ := rfl
@[simp] theorem SR.seq_rt (o : O) (ρ : OEnv) (g : OEnv → SR) : SR.seq (.rt o ρ) g = .rt o ρ := rfl
@[simp] theorem SR.seq_err (c : Str) (ρ : OEnv) (g : OEnv → SR) : SR.seq (.err c ρ) g = .err c ρ := rfl
@[simp] theorem SR.seq_bk (ρ : OEnv) (g : OEnv → SR) : SR.seq (.bk ρ) g = .bk ρ := rfl
@[simp] theorem SR.seq_ct (ρ : OEnv) (g : OEnv → SR) : SR.seq (.ct ρ) g = .ct ρ := rfl
theorem sr_pst {α : Type} {X : Cx} {W : WX} {F0 H0 F H : Hp} {D : Ends} {σ : L2.St} {ρ : OEnv} {x : R α} {f : α → SR} {K : α → Prop} (r : RS X.K F0 H0 F H σ ρ) (p : SPst X W F0 H0 D (x.sr ρ f)) (h : ∀ a, SPst X W F0 H0 D (f a) → K a) : Pst X W σ H K x := by
  cases x with
  | stuck => exact p
  | err c => exact fun H' e => p σ H' F (r.grow e)
  | ok a => exact h a p
section
variable {X : Cx} {W : WX} {a b c e : Expr} {st : Stmt} {sts rest : List Stmt} {pos : Pos} {g h : OEnv → SR} {hx : OEnv → R PyData} {ho : OEnv → R (O × OEnv)} {k : Nat}
theorem vss_nil : VSs X W [] (fun ρ => .nx ρ) := ⟨_, pss_nil, fun D σ H F0 H0 F ρ r p => p σ H F r⟩
theorem vss_cons (h1 : VS X W st g) (h2 : VSs X W rest h) : VSs X W (st :: rest) (fun ρ => (g ρ).seq h) := by
  obtain ⟨t, p, q⟩ := h1.ex
  obtain ⟨t2, p2, q2⟩ := h2.ex
  refine ⟨_, pss_cons p p2, fun D σ H F0 H0 F ρ r pr => ?_⟩
  refine q _ σ H F0 H0 F ρ r ?_
  generalize g ρ = rr at pr ⊢
  cases rr with
  | nx ρ' => exact fun σ' H' F' r' => q2 D σ' H' F0 H0 F' ρ' r' pr
  | stuck => exact pr
  | err c ρ' => exact pr
  | rt o _ => exact pr
  | bk ρ' => exact pr
  | ct ρ' => exact pr
theorem vss_one (h1 : VS X W st g) : VSs X W [st] g := by
  obtain ⟨t, p, q⟩ := h1.ex
  exact ⟨_, pss_one p, q⟩
/-- knowledge that is let go, or changed, between two statements -/
def EnvT (K : PySem.W.Frag) (T : OEnv → OEnv) : Prop := ∀ F0 H0 F H σ ρ, RS K F0 H0 F H σ ρ → ∃ F', RS K F0 H0 F' H σ (T ρ)
theorem vss_t {T : OEnv → OEnv} (hT : EnvT X.K T) (h1 : VSs X W sts g) : VSs X W sts (fun ρ => g (T ρ)) := by
  obtain ⟨t, p, q⟩ := h1.ex
  refine ⟨t, p, fun D σ H F0 H0 F ρ r pr => ?_⟩
  obtain ⟨F', r'⟩ := hT F0 H0 F H σ ρ r
  exact q D σ H F0 H0 F' (T ρ) r' pr
def kill (is : List Nat) (ρ : OEnv) : OEnv := is.foldl (fun ρ i => ρ.set i none) ρ
def freezeAt (ρ : OEnv) (i : Nat) : OEnv := match ρ[i]? with
  | some (some o) => ρ.set i (some (.fz o.data))
  | _ => ρ
def freeze (is : List Nat) (ρ : OEnv) : OEnv := is.foldl freezeAt ρ
theorem RS.drop {K : PySem.W.Frag} {F0 H0 F H : Hp} {σ : L2.St} {ρ : OEnv} (r : RS K F0 H0 F H σ ρ) (i : Nat) : RS K F0 H0 F H σ (ρ.set i none) := by
  obtain ⟨fps, s, hs⟩ := r.ex
  by_cases hi : i < σ.length
  · obtain ⟨fpr, z1, z2⟩ := s.drop i σ[i]
    rw [List.set_getElem_self] at z1
    exact ⟨fpr, z1, hs.sub z2⟩
  · rw [List.set_eq_of_length_le (by rw [← s.len]; omega)]
    exact ⟨fps, s, hs⟩
theorem envT_kill (K : PySem.W.Frag) : ∀ is : List Nat, EnvT K (kill is)
  | [], F0, H0, F, H, σ, ρ, r => ⟨F, r⟩
  | i :: is, F0, H0, F, H, σ, ρ, r => envT_kill K is F0 H0 F H σ (ρ.set i none) (r.drop i)
theorem set_same {σ : L2.St} {i : Nat} {v : V} (e : σ[i]? = some (some v)) : σ.set i (some v) = σ := by
  refine List.ext_getElem? fun j => ?_
  by_cases hj : j = i
  · subst hj
    obtain ⟨q1, q2⟩ := List.getElem?_eq_some_iff.mp e
    rw [List.getElem?_set_self q1, e]
  · rw [List.getElem?_set_ne (Ne.symm hj)]
theorem RS.freeze {K : PySem.W.Frag} {F0 H0 F H : Hp} {σ : L2.St} {ρ : OEnv} (r : RS K F0 H0 F H σ ρ) (i : Nat) : ∃ F', RS K F0 H0 F' H σ (freezeAt ρ i) := by
  unfold freezeAt
  split
  · rename_i o eo
    obtain ⟨fps, s, hs⟩ := r.ex
    obtain ⟨v, fp, fpr, e1, e2, e3, e4, e5⟩ := s.split eo
    have hp := hs.perm e3
    have nd := List.nodup_append.mp hp.nd
    have own : ∀ a ∈ fp, F a = none ∧ H0 a = none := fun a ha => hp.ow a (List.mem_append_left _ ha)
    refine ⟨bor F H fp, ?_⟩
    have b1 : Same F (bor F H fp) := fun a u q => by
      rw [bor_not (fun ha => by rw [(own a ha).1] at q; cases q)]; exact q
    obtain ⟨fps', z1, z2⟩ := e5 (bor F H fp) H v (.fz o.data) [] (.fz (e2.is b1 fun a ha => bor_own ha)) b1 (fun _ _ => rfl)
    rw [set_same e1] at z1
    refine ⟨fps', z1, (Hs.perm ⟨?_, fun a ha => ⟨?_, ?_⟩, fun a u q => ?_, hs.f0.trans b1, hs.h0, fun a h1 h2 => ?_⟩ z2.symm)⟩
    · exact nd.2.1
    · have ha : a ∈ fpr := ha
      rw [bor_not (fun hm => nd.2.2 a hm a ha rfl)]
      exact (hp.ow a (List.mem_append_right _ ha)).1
    · exact (hp.ow a (List.mem_append_right _ ha)).2
    · by_cases ha : a ∈ fp
      · rw [bor_own ha] at q; exact q
      · rw [bor_not ha] at q; exact hs.fh _ _ q
    · by_cases ha : a ∈ fp
      · exact (own a ha).2
      · rw [bor_not ha] at h2; exact hs.nw a h1 h2
  · exact ⟨F, r⟩
theorem envT_freeze (K : PySem.W.Frag) : ∀ is : List Nat, EnvT K (freeze is)
  | [], F0, H0, F, H, σ, ρ, r => ⟨F, r⟩
  | i :: is, F0, H0, F, H, σ, ρ, r => by
    obtain ⟨F', r'⟩ := r.freeze i
    exact envT_freeze K is F0 H0 F' H σ _ r'

/-! simple statements -/
theorem vs_pass : VS X W (.Pass pos) (fun ρ => .nx ρ) := ⟨_, ps_pass, fun D σ H F0 H0 F ρ r p => p σ H F r⟩
theorem vs_break : VS X W (.Break pos) (fun ρ => .bk ρ) := ⟨_, ps_break, fun D σ H F0 H0 F ρ r p => p σ H F r⟩
theorem vs_continue : VS X W (.Continue pos) (fun ρ => .ct ρ) := ⟨_, ps_continue, fun D σ H F0 H0 F ρ r p => p σ H F r⟩
theorem RS.put {K : PySem.W.Frag} {F0 H0 F H : Hp} {σ : L2.St} {ρ : OEnv} {v : V} {o : O} (r : RS K F0 H0 F H (some v :: σ) (some o :: ρ)) (i : Nat) : RS K F0 H0 F H (σ.set i (some v)) (ρ.set i (some o)) := by
  obtain ⟨fps, s, hs⟩ := r.ex
  cases s with
  | @ow v o fp σ ρ fps h1 s =>
    by_cases hi : i < ρ.length
    · obtain ⟨fps', z1, g, z2, z3⟩ := s.put h1 i hi
      exact ⟨fps', z1, (hs.sub (List.Sublist.append_left z3 fp)).perm z2.symm⟩
    · have l := s.len
      rw [List.set_eq_of_length_le (show σ.length ≤ i by omega), List.set_eq_of_length_le (show ρ.length ≤ i by omega)]
      exact ⟨fps, s, hs.sub (List.sublist_append_right _ _)⟩
/-- x = e -/
def sSet (i : Nat) (h : OEnv → R (O × OEnv)) : OEnv → SR := fun ρ => (h ρ).sr ρ fun p => .nx (p.2.set i (some p.1))
theorem vs_set (i : Nat) {x : Str} {pos' : Pos} (hN : X.N.Nodup) (he : VO X W e ho) (hi : X.N[i]? = some x := by rfl) (hxl : Loc X.env.scope x := by first | exact Or.inl rfl | exact Or.inr rfl) (hs : swapsWith e (some (.Name x pos')) pos.line X.env = pure false := by rfl) (hf : X.fn x = true ∨ X.env.scope.names.lookup x = some .local := by first | exact .inl rfl | exact .inr rfl) :
    VS X W (.Assign [.Name x pos'] e pos) (sSet i ho) := by
  obtain ⟨t, p, q⟩ := he.ex
  refine ⟨_, ps_set hN hi hxl p hs hf, fun D σ H F0 H0 F ρ r pr => ?_⟩
  refine q σ H F0 H0 F ρ _ r (sr_pst r pr fun o po v H' F' r' => ?_)
  exact po _ _ _ (r'.put i)
/-- x = [e for t in it if ..] on one line, x a local -/
theorem vs_setLc (i : Nat) {x : Str} {py : Pos} {elt tg iter : Expr} {ifs : List Expr} {scope : Scope} {own : List (Str × Nat)} {sl : List Nat} {fi : PEnv → R (List PyData)} {kt : PyData → R (List (Nat × PyData))} {ft : PEnv → R Bool} {fe : PEnv → R PyData} {cpos : Pos}
    {hh : OEnv → R (O × OEnv)} (mode : ∀ {t : TE}, (∀ σ H B ρ Q, Same B H → RF X.K B σ ρ → Pst X W σ H (KFr X B H Q) (vcomp (own.map (·.2)) fi kt ft fe ρ) → t σ H Q) → ∀ σ H F0 H0 F ρ Q, RS X.K F0 H0 F H σ ρ → Pst X W σ H (KO X F0 H0 σ Q) (hh ρ) → t σ H Q)
    (hc : X.calm = true) (hN : X.N.Nodup) (hy : X.N[i]? = some x) (hyl : X.env.scope.names.lookup x = some .local) (hsw : swapsWith (.ListComp elt [⟨tg, iter, ifs, 0⟩] scope cpos) (some (.Name x py)) pos.line X.env = pure true)
    (hi : VI X W tg iter fi) (ok : BlkOk X.N X.env.scope scope own)
    (hg : ∀ (s : Shared) (H : Hp) (C : Addr) (cl : List (Str × Addr)) (fp : List Addr), VG (X.blk s H scope (compEnvC scope cl C X.env) fp) tg sl kt)
    (hso : ∀ i ∈ sl, i ∈ own.map (·.2))
    (ht : ∀ (s : Shared) (H : Hp) (C : Addr) (cl : List (Str × Addr)) (fp : List Addr), VTs (X.blk s H scope (compEnvC scope cl C X.env) fp) W0 ifs ft)
    (hee : ∀ (s : Shared) (H : Hp) (C : Addr) (cl : List (Str × Addr)) (fp : List Addr), VE (X.blk s H scope (compEnvC scope cl C X.env) fp) W0 elt fe) (hs : ∀ x, foldedSetIterable iter X.env x = pure x := by intro _; rfl) :
    VS X W (.Assign [.Name x py] (.ListComp elt [⟨tg, iter, ifs, 0⟩] scope cpos) pos) (sSet i hh) := by
  obtain ⟨wi, pi, qi⟩ := hi.ex
  have h1 : ∀ (s : Shared) (H : Hp) (C : Addr) (cl : List (Str × Addr)) (fp : List Addr), PG (X.blk s H scope (compEnvC scope cl C X.env) fp) tg (tVG X kt) := fun s H C cl fp => (hg s H C cl fp).pg
  have h2 : ∀ (s : Shared) (H : Hp) (C : Addr) (cl : List (Str × Addr)) (fp : List Addr), PTs (X.blk s H scope (compEnvC scope cl C X.env) fp) ifs (tVT X W0 ft) := fun s H C cl fp => (ht s H C cl fp).pt
  have h3 : ∀ (s : Shared) (H : Hp) (C : Addr) (cl : List (Str × Addr)) (fp : List Addr), PE (X.blk s H scope (compEnvC scope cl C X.env) fp) elt (tV X W0 fe) := fun s H C cl fp => (hee s H C cl fp).pe
  have hsl : ∀ d bs, kt d = .ok bs → bs.map (·.1) = sl := (hg {} (fun _ => none) 0 [] []).sl
  refine ⟨_, ps_setLc hc hN hy hyl hsw pi ok h1 h2 h3 hs, fun D σ H F0 H0 F ρ r pr => ?_⟩
  refine mode (fun σ H B ρ Q s rf pr => comp_read qi (fun v σ H B d Q s dv q => ⟨B, d, s, dv, q⟩) hsl hso (fun σ H B ρ Q s r p => ⟨B, ρ, s, r, p⟩) (fun σ H B ρ Q s r p => ⟨B, ρ, s, r, p⟩) s rf pr) σ H F0 H0 F ρ _ r (sr_pst r pr fun o po v H' F' r' => ?_)
  exact po _ _ _ (r'.put i)
def sRet (h : OEnv → R (O × OEnv)) : OEnv → SR := fun ρ => (h ρ).sr ρ fun p => .rt p.1 p.2
theorem vs_ret (he : VO X W e ho) : VS X W (.Return (some e) pos) (sRet ho) := by
  obtain ⟨t, p, q⟩ := he.ex
  refine ⟨_, ps_ret p, fun D σ H F0 H0 F ρ r pr => ?_⟩
  refine q σ H F0 H0 F ρ _ r (sr_pst r pr fun o po v H' F' r' => ?_)
  exact po v σ H' F' r'
theorem vs_retN : VS X W (.Return none pos) (fun ρ => .rt (.fz .none) ρ) := by
  refine ⟨_, ps_retN, fun D σ H F0 H0 F ρ r pr => ?_⟩
  obtain ⟨fps, s, hs⟩ := r.ex
  exact pr .non σ H F ⟨[] ++ fps, .ow (.fz .non) s, hs⟩
def sExpr (h : OEnv → R (O × OEnv)) : OEnv → SR := fun ρ => (h ρ).sr ρ fun p => .nx p.2
theorem vs_expr (he : VO X W e ho) (hs : swapsWith e none pos.line X.env = pure false := by rfl) : VS X W (.Expr e pos) (sExpr ho) := by
  obtain ⟨t, p, q⟩ := he.ex
  refine ⟨_, ps_expr p hs, fun D σ H F0 H0 F ρ r pr => ?_⟩
  refine q σ H F0 H0 F ρ _ r (sr_pst r pr fun o po v H' F' r' => ?_)
  obtain ⟨fps, s, hs⟩ := r'.ex
  cases s with
  | ow h1 s => exact po σ H' F' ⟨_, s, hs.sub (List.sublist_append_right _ _)⟩
def sIf (t : OEnv → R Bool) (g h : OEnv → SR) : OEnv → SR := fun ρ => (t ρ).sr ρ fun b => if b then g ρ else h ρ
theorem vs_if {ts us : List Stmt} {ht : OEnv → R Bool} (h0 : VXT X W c ht) (h1 : VSs X W ts g) (h2 : VSs X W us h) : VS X W (.If c ts us pos) (sIf ht g h) := by
  obtain ⟨t, p, q⟩ := h0.ex
  obtain ⟨t1, p1, q1⟩ := h1.ex
  obtain ⟨t2, p2, q2⟩ := h2.ex
  refine ⟨_, ps_if p p1 p2, fun D σ H F0 H0 F ρ r pr => ?_⟩
  refine q σ H F0 H0 F ρ _ r (sr_pst r pr fun b pb H' F' ex => ?_)
  cases b with
  | true => exact iteT (q1 D σ H' F0 H0 F' ρ (r.ext ex) pb)
  | false => exact iteF (q2 D σ H' F0 H0 F' ρ (r.ext ex) pb)
end
end VL

namespace VL
open PySem PySem.Spec PyProof.Rows L2

theorem Hs.rebase {F0 H0 F1 F H : Hp} {fps : List Addr} (h : Hs F1 H0 F H fps) (s : Same F0 F1) (n : ∀ a, F0 a = none → F1 a ≠ none → H0 a = none) : Hs F0 H0 F H fps :=
  ⟨h.nd, h.ow, h.fh, s.trans h.f0, h.h0, fun a h1 h2 => by
    cases q : F1 a with
    | none => exact h.nw a q h2
    | some o => exact n a h1 (by rw [q]; exact fun w => nomatch w)⟩
theorem RS.self {K : PySem.W.Frag} {F0 H0 F H : Hp} {σ : L2.St} {ρ : OEnv} (r : RS K F0 H0 F H σ ρ) : RS K F H0 F H σ ρ ∧ Same F0 F ∧ ∀ a, F0 a = none → F a ≠ none → H0 a = none := by
  obtain ⟨fps, s, hs⟩ := r.ex
  exact ⟨⟨fps, s, hs.nd, hs.ow, hs.fh, Same.refl F, hs.h0, fun a x y => absurd x y⟩, hs.f0, hs.nw⟩
theorem RS.rebase {K : PySem.W.Frag} {F0 H0 F1 F H : Hp} {σ : L2.St} {ρ : OEnv} (r : RS K F1 H0 F H σ ρ) (s : Same F0 F1) (n : ∀ a, F0 a = none → F1 a ≠ none → H0 a = none) : RS K F0 H0 F H σ ρ := by
  obtain ⟨fps, sl, hs⟩ := r.ex
  exact ⟨fps, sl, hs.rebase s n⟩
theorem RV.rebase {K : PySem.W.Frag} {F0 H0 F1 F H : Hp} {v : V} {o : O} (r : RV K F1 H0 F H v o) (s : Same F0 F1) (n : ∀ a, F0 a = none → F1 a ≠ none → H0 a = none) : RV K F0 H0 F H v o := by
  obtain ⟨fps, sl, hs⟩ := r
  exact ⟨fps, sl, hs.rebase s n⟩
theorem RS.tail {K : PySem.W.Frag} {F0 H0 F H : Hp} {σ : L2.St} {ρ : OEnv} {s : Option V} {o : Option O} (r : RS K F0 H0 F H (s :: σ) (o :: ρ)) : RS K F0 H0 F H σ ρ := by
  obtain ⟨fps, sl, hs⟩ := r.ex
  cases sl with
  | un s => exact ⟨_, s, hs⟩
  | ow h1 s => exact ⟨_, s, hs.sub (List.sublist_append_right _ _)⟩
theorem RS.consFz {K : PySem.W.Frag} {F0 H0 F H : Hp} {σ : L2.St} {ρ : OEnv} {v : V} {d : PyData} (r : RS K F0 H0 F H σ ρ) (h : Is K F v d) : RS K F0 H0 F H (some v :: σ) (some (.fz d) :: ρ) := by
  obtain ⟨fps, sl, hs⟩ := r.ex
  exact ⟨_, .ow (.fz h) sl, hs⟩
def setsO (ρ : OEnv) (bs : List (Nat × PyData)) : OEnv := bs.foldl (fun ρ b => ρ.set b.1 (some (.fz b.2))) ρ
theorem RS.sets {K : PySem.W.Frag} {F0 H0 F H : Hp} : ∀ {bv : List (Nat × V)} {bd : List (Nat × PyData)} {σ : L2.St} {ρ : OEnv}, RS K F0 H0 F H σ ρ → Bds K F bv bd → RS K F0 H0 F H (setsV σ bv) (setsO ρ bd)
  | _, _, _, _, r, .nil => r
  | _, _, _, _, r, .cons (a := p) (b := q) h t => by
    obtain ⟨r1, r2⟩ := h
    unfold setsV setsO
    rw [List.foldl_cons, List.foldl_cons, r1]
    exact RS.sets ((r.consFz r2).put q.1) t

/-! a list of one's own is changed -/
theorem OwnL.setAt {K : PySem.W.Frag} {F H : Hp} {y : V} {o : O} {fpo : List Addr} (ho : Own K F H y o fpo) : ∀ {os : List O} {vs : List V} {fp : List Addr} (j : Nat), OwnL K F H vs os fp → ∃ fp', OwnL K F H (vs.set j y) (os.set j o) fp' ∧ ∃ fp'', fp'.Perm fp'' ∧ fp''.Sublist (fp ++ fpo)
  | [], _, _, j, h => by cases h; exact ⟨[], by simp; exact .nil, [], .refl _, List.nil_sublist _⟩
  | p :: os, _, _, 0, h => by
    cases h with
    | @cons v vs _ _ f1 f2 h1 h2 =>
      refine ⟨fpo ++ f2, .cons ho h2, f2 ++ fpo, List.perm_append_comm, ?_⟩
      rw [List.append_assoc]
      exact List.sublist_append_right _ _
  | p :: os, _, _, j + 1, h => by
    cases h with
    | @cons v vs _ _ f1 f2 h1 h2 =>
      obtain ⟨f3, z1, f4, z2, z3⟩ := OwnL.setAt ho j h2
      refine ⟨f1 ++ f3, .cons h1 z1, f1 ++ f4, List.Perm.append_left f1 z2, ?_⟩
      rw [List.append_assoc]
      exact List.Sublist.append_left z3 f1
/-- a change of a list's items by one value -/
structure Chg (tv : List V → V → List V) (to : List O → O → List O) : Prop where
  own : ∀ {K : PySem.W.Frag} {F H : Hp} {vs : List V} {os : List O} {y : V} {o : O} {fp fpo : List Addr}, OwnL K F H vs os fp → Own K F H y o fpo → ∃ fp', OwnL K F H (tv vs y) (to os o) fp' ∧ ∃ fp'', fp'.Perm fp'' ∧ fp''.Sublist (fp ++ fpo)
theorem chg_app : Chg (fun vs y => vs ++ [y]) (fun os o => os ++ [o]) := ⟨fun {K F H vs os y o fp fpo} h1 h2 => by
  refine ⟨fp ++ fpo, ?_, fp ++ fpo, .refl _, .refl _⟩
  have z := OwnL.append h1 (.cons h2 .nil)
  rw [List.append_nil] at z
  exact z⟩
theorem chg_set (j : Nat) : Chg (fun vs y => vs.set j y) (fun os o => os.set j o) := ⟨fun h1 h2 => OwnL.setAt h2 j h1⟩
theorem RS.mut {K : PySem.W.Frag} {F0 H0 F H : Hp} {σ : L2.St} {ρ : OEnv} {y : V} {o : O} {i : Nat} {os : List O} {tv : List V → V → List V} {to : List O → O → List O} (c : Chg tv to) (r : RS K F0 H0 F H (some y :: σ) (some o :: ρ)) (ei : ρ[i]? = some (some (.lst os))) :
    ∃ a vs, σ[i]? = some (some (.ref a)) ∧ H a = some (.lst vs) ∧ vs.length = os.length ∧ RS K F0 H0 F (upd H a (.lst (tv vs y))) σ (ρ.set i (some (.lst (to os o)))) := by
  obtain ⟨fps, sl, hs⟩ := r.ex
  cases sl with
  | @ow _ _ fpo _ _ fpt h1 s =>
    obtain ⟨v, fp, fpr, e1, e2, e3, e4, e5⟩ := s.split ei
    cases e2 with
    | @lst a vs _ fpi ha hl =>
      refine ⟨a, vs, e1, ha, hl.len, ?_⟩
      have hp : Hs F0 H0 F H (fpo ++ ((a :: fpi) ++ fpr)) := hs.perm (List.Perm.append_left fpo e3)
      have nd := List.nodup_append.mp hp.nd
      have nd2 := List.nodup_append.mp nd.2.1
      have na_o : a ∉ fpo := fun m => nd.2.2 a m a (List.mem_append_left _ List.mem_cons_self) rfl
      have na_i : a ∉ fpi := (List.nodup_cons.mp nd2.1).1
      have na_r : a ∉ fpr := fun m => nd2.2.2 a List.mem_cons_self a m rfl
      have hk : ∀ b, b ≠ a → upd H a (.lst (tv vs y)) b = H b := fun b hb => upd_ne hb
      have o1 : Own K F (upd H a (.lst (tv vs y))) y o fpo := h1.keep (Same.refl F) fun b hb => hk b fun e => na_o (e ▸ hb)
      have l1 : OwnL K F (upd H a (.lst (tv vs y))) vs os fpi := hl.keep (Same.refl F) fun b hb => hk b fun e => na_i (e ▸ hb)
      obtain ⟨fp', z1, fp'', z2, z3⟩ := c.own l1 o1
      obtain ⟨fps', w1, w2⟩ := e5 F (upd H a (.lst (tv vs y))) (.ref a) (.lst (to os o)) (a :: fp') (.lst upd_same z1) (Same.refl F) fun b hb => hk b fun e => na_r (e ▸ hb)
      rw [set_same e1] at w1
      have an : F a = none ∧ H0 a = none := hp.ow a (List.mem_append_right _ (List.mem_append_left _ List.mem_cons_self))
      have base : Hs F0 H0 F (upd H a (.lst (tv vs y))) (fpo ++ ((a :: fpi) ++ fpr)) := ⟨hp.nd, hp.ow, fun b u q => by
        rw [hk b (fun e => by rw [e, an.1] at q; cases q)]; exact hp.fh _ _ q, hp.f0, fun b u q => by
        rw [hk b (fun e => by rw [e, an.2] at q; cases q)]; exact hp.h0 _ _ q, hp.nw⟩
      have p1 : (fpo ++ ((a :: fpi) ++ fpr)).Perm (a :: ((fpi ++ fpo) ++ fpr)) := by
        have : (fpo ++ ((a :: fpi) ++ fpr)).Perm (((a :: fpi) ++ fpo) ++ fpr) := by
          rw [← List.append_assoc]
          exact List.Perm.append_right _ List.perm_append_comm
        simpa using this
      have p2 : Hs F0 H0 F (upd H a (.lst (tv vs y))) (a :: (fp'' ++ fpr)) := (base.perm p1).sub (List.Sublist.cons_cons a (List.Sublist.append_right z3 fpr))
      refine ⟨fps', w1, (p2.perm ?_).perm w2.symm⟩
      exact List.Perm.cons a (List.Perm.append_right fpr z2.symm)

section
variable {X : Cx} {W : WX} {a b c e : Expr} {st : Stmt} {sts rest : List Stmt} {pos : Pos} {g h : OEnv → SR} {hx hx' : OEnv → R PyData} {ho : OEnv → R (O × OEnv)} {k : Nat}
/-- x.append(e) -/
def sApp (i : Nat) (h : OEnv → R (O × OEnv)) : OEnv → SR := fun ρ => match ρ[i]? with
  | some (some (.lst _)) => (h ρ).sr ρ fun p => match p.2[i]? with
    | some (some (.lst os)) => if os.length < sizeLine then .nx (p.2.set i (some (.lst (os ++ [p.1])))) else .stuck
    | _ => .stuck
  | _ => .stuck
theorem vs_app (i : Nat) {x : Str} {p1 p2 p3 : Pos} (mk : ∀ {t : TE}, PE X e t → PE X (.Call (.Attribute (.Name x p1) "append" p2) [e] [] p3) (tBM X.K "list" rAppend (tVar i) (tCons t tNil))) (he : VO X W e ho)
    (hs : swapsWith (.Call (.Attribute (.Name x p1) "append" p2) [e] [] p3) none pos.line X.env = pure false := by rfl) :
    VS X W (.Expr (.Call (.Attribute (.Name x p1) "append" p2) [e] [] p3) pos) (sApp i ho) := by
  obtain ⟨t, p, q⟩ := he.ex
  refine ⟨_, ps_expr (mk p) hs, fun D σ H F0 H0 F ρ r pr => ?_⟩
  unfold sApp at pr
  split at pr
  · rename_i os0 e0
    obtain ⟨fps, sl, hss⟩ := r.ex
    obtain ⟨v, fp, fpr, e1, e2, e3, e4, e5⟩ := sl.split e0
    cases e2 with
    | @lst ad vs _ fpi ha hl =>
      refine ⟨.ref ad, e1, .inl ⟨rfl, _, .inl (.inl ha)⟩, ?_⟩
      refine q σ H F0 H0 F ρ _ r (sr_pst r pr fun o po y H' F' r' => ?_)
      split at po
      · rename_i os eo
        split at po
        · rename_i hz
          obtain ⟨ad', vs', e6, e7, e8, r2⟩ := r'.mut chg_app eo
          rw [e1] at e6
          cases e6
          exact ⟨ad, vs', y, rfl, rfl, e7, by rw [e8]; exact hz, po _ _ _ r2⟩
        · exact po.elim
      · exact po.elim
  · exact pr.elim
/-- x[k] = e -/
def sSetI (i : Nat) (hk : OEnv → R PyData) (h : OEnv → R (O × OEnv)) : OEnv → SR := fun ρ => (h ρ).sr ρ fun p => match p.2[i]? with
  | some (some (.lst os)) => (hk p.2).sr p.2 fun d => match d with
    | .int j => (match ixN os.length j with
      | some n => .nx (p.2.set i (some (.lst (os.set n p.1))))
      | none => .stuck)
    | _ => .stuck
  | _ => .stuck
theorem vs_setI (i : Nat) {x : Str} {p1 p2 : Pos} (mk : ∀ {te tk : TE}, PE X e te → PE X b tk → PS X (.Assign [.Subscript (.Name x p1) b p2] e pos) (tAsg te (gSub (tVar i) tk rSetL))) (hk : VX X W b hx) (he : VO X W e ho) :
    VS X W (.Assign [.Subscript (.Name x p1) b p2] e pos) (sSetI i hx ho) := by
  obtain ⟨t, p, q⟩ := he.ex
  obtain ⟨tk, pk, qk⟩ := hk.ex
  refine ⟨_, mk p pk, fun D σ H F0 H0 F ρ r pr => ?_⟩
  unfold sSetI at pr
  refine q σ H F0 H0 F ρ _ r (sr_pst r pr fun o po y H' F' r' => ?_)
  have rt := r'.tail
  split at po
  · rename_i os eo
    obtain ⟨fps, sl, hss⟩ := rt.ex
    obtain ⟨v, fp, fpr, e1, e2, e3, e4, e5⟩ := sl.split eo
    refine ⟨v, e1, ?_⟩
    refine qk σ H' F0 H0 F' o.2 _ rt (sr_pst rt po fun d pd => ?_)
    intro iv H2 F2 ex di
    cases di <;> first | exact pd.elim | skip
    rename_i j
    simp only at pd
    split at pd
    · rename_i n en
      obtain ⟨ad, vs, e6, e7, e8, r2⟩ := (r'.ext ex).mut (chg_set n) eo
      rw [e1] at e6
      cases e6
      exact ⟨ad, vs, j, n, rfl, rfl, e7, by rw [e8]; exact en, pd _ _ _ r2⟩
    · exact pd.elim
  · exact po.elim
/-- x += e, x -= e of ints -/
def sAug (f : Int → Int → Int) (i : Nat) (h : OEnv → R PyData) : OEnv → SR := fun ρ => match ρ[i]? with
  | some (some (.fz (.int a))) => (h ρ).sr ρ fun d => match d with
    | .int b => .nx (ρ.set i (some (.fz (.int (f a b)))))
    | _ => .stuck
  | _ => .stuck
theorem vs_aug {f : Int → Int → Int} {op : Operator} (hop : PIp X op (ipI f)) (i : Nat) {x : Str} {p1 : Pos} (hN : X.N.Nodup) (he : VX X W e hx) (hi : X.N[i]? = some x := by rfl) (hxl : Loc X.env.scope x := by first | exact Or.inl rfl | exact Or.inr rfl) (hf : X.fn x = true ∨ X.env.scope.names.lookup x = some .local := by first | exact .inl rfl | exact .inr rfl) :
    VS X W (.AugAssign (.Name x p1) op e pos) (sAug f i hx) := by
  obtain ⟨t, p, q⟩ := he.ex
  refine ⟨_, ps_aug hN hi hxl p hop hf, fun D σ H F0 H0 F ρ r pr => ?_⟩
  unfold sAug at pr
  split at pr
  · rename_i n en
    obtain ⟨fps, sl, hss⟩ := r.ex
    obtain ⟨v, fp, fpr, e1, e2, e3, e4, e5⟩ := sl.split en
    cases e2 with
    | fz hv =>
      cases hv
      refine ⟨_, e1, ?_⟩
      refine q σ H F0 H0 F ρ _ r (sr_pst r pr fun d pd y H' F' ex dy => ?_)
      cases dy <;> first | exact pd.elim | skip
      rename_i m
      exact ⟨n, m, rfl, rfl, pd _ H' F' (((r.ext ex).consFz (.int (f n m))).put i)⟩
  · exact pr.elim
/-- a, b = e: a tuple of data -/
def sTup (k : PyData → R (List (Nat × PyData))) (h : OEnv → R PyData) : OEnv → SR := fun ρ => (h ρ).sr ρ fun d => match k d with | .ok bd => .nx (setsO ρ bd) | _ => .stuck
theorem vs_tup {tg : Expr} {sl : List Nat} {k : PyData → R (List (Nat × PyData))} (hg : VG X tg sl k) (he : VX X W e hx) (h1 : swapsWithSole [tg] e pos.line X.env = pure false := by rfl) (h2 : swappedStores [tg] e X.env = pure none := by rfl) (h3 : (assignEach [tg] X.env).map (·.2) = [assign tg X.env] := by rfl) :
    VS X W (.Assign [tg] e pos) (sTup k hx) := by
  obtain ⟨t, p, q⟩ := he.ex
  obtain ⟨tg', pg, qg⟩ := hg.ex
  refine ⟨_, ps_asg p pg h1 h2 h3, fun D σ H F0 H0 F ρ r pr => ?_⟩
  unfold sTup at pr
  refine q σ H F0 H0 F ρ _ r (sr_pst r pr fun d pd v H' F' ex dv => ?_)
  have r' := r.ext ex
  obtain ⟨fps, sl', hss⟩ := r'.ex
  generalize hk : k d = rk at pd
  cases rk with
  | stuck => exact pd.elim
  | err c => exact pd.elim
  | ok bd => exact qg v σ H' F' d _ hss.fh dv ⟨bd, hk, fun bv hb => pd _ H' F' (RS.sets r' hb)⟩
end
end VL

namespace VL
open PySem PySem.Spec PyProof.Rows L2

/-! ### sources of a for in a def's body -/
def KIX (X : Cx) (F H : Hp) (Rr : It → Hp → Prop) (ds : List PyData) : Prop := ∀ J H' F', Ext F H F' H' → Walks X.K J ds F' → Rr J H'
structure VIX (X : Cx) (W : WX) (tg iter : Expr) (h : OEnv → R (List PyData)) : Prop where
  ex : ∃ wi, PI X tg iter wi ∧ ∀ σ H F0 H0 F ρ Rr, RS X.K F0 H0 F H σ ρ → Pst X W σ H (KIX X F H Rr) (h ρ) → wi σ H Rr
section
variable {X : Cx} {W : WX} {a b c e tg iter : Expr} {st : Stmt} {sts rest : List Stmt} {pos : Pos} {g h : OEnv → SR} {hx hx' ha hb : OEnv → R PyData} {ho : OEnv → R (O × OEnv)} {k : Nat}
theorem vix_F {f : PEnv → R (List PyData)} (h : VI X W tg iter f) : VIX X W tg iter (fun ρ => f (viewF ρ)) := by
  obtain ⟨wi, p, q⟩ := h.ex
  refine ⟨wi, p, fun σ H F0 H0 F ρ Rr r pr => ?_⟩
  obtain ⟨fps, s, hs⟩ := r.ex
  exact q σ H F _ Rr hs.fh s.rfF pr
def x1 (g : PyData → R (List PyData)) (h : OEnv → R PyData) : OEnv → R (List PyData) := fun ρ => (h ρ).bind g
def x2 (g : PyData → PyData → R (List PyData)) (h h' : OEnv → R PyData) : OEnv → R (List PyData) := fun ρ => (h ρ).bind fun d => (h' ρ).bind fun e => g d e
theorem oneX {ta : TE} (hq : ∀ σ H F0 H0 F ρ Q, RS X.K F0 H0 F H σ ρ → Pst X W σ H (KX X F H Q) (hx ρ) → ta σ H Q)
    {α : Type} {σ : L2.St} {F0 H0 H F : Hp} {ρ : OEnv} {g : PyData → R α} {K : α → Prop} {Q : V → Hp → Prop} (r : RS X.K F0 H0 F H σ ρ)
    (p : Pst X W σ H K ((hx ρ).bind g))
    (q : ∀ d x H' F', Ext F H F' H' → Is X.K F' x d → Pst X W σ H' K (g d) → Q x H') : ta σ H Q := by
  refine hq σ H F0 H0 F ρ _ r ?_
  generalize hx ρ = ra at p ⊢
  cases ra with
  | stuck => exact p
  | err c => exact p
  | ok d =>
    intro x H1 F1 e1 d1
    refine q d x H1 F1 e1 d1 ?_
    simp only [R.bind_ok] at p
    generalize g d = rg at p ⊢
    cases rg with
    | stuck => exact p
    | err c => exact fun H' z => p H' (e1.hh.trans z)
    | ok z => exact p
theorem vix_range1 {p pos : Pos} (hm : X.mg "range" = none) (h1 : VX X W a ha) (hg : Gl X "range" := by rfl) (hs : starEach [a] X.env = [(false, eval a X.env)] := by rfl) (he : starEach [a] X.env = (false, eval a X.env) :: starEach [] X.env := by rfl) : VIX X W tg (.Call (.Name "range" p) [a] [] pos) (x1 vrange1 ha) := by
  obtain ⟨t, pt, qt⟩ := h1.ex
  refine ⟨_, pi_range1 hg hm (pa_cons pt pa_nil he) hs, fun σ H F0 H0 F ρ Rr r pr => ?_⟩
  refine oneX qt r pr fun d x H' F' ex dx pg => ?_
  cases dx <;> first | exact pg.elim | skip
  rename_i i
  simp only [vrange1] at pg
  split at pg
  · rename_i hz
    have hz' : -16777216 ≤ (0:Int) ∧ (0:Int) ≤ 16777216 ∧ -16777216 ≤ i ∧ i ≤ 16777216 ∧ i - 0 ≤ 16777216 := hz
    exact ⟨_, rfl, by omega, by omega, pg _ H' F' ex (walks_range (by have := sizeLine_eq; omega))⟩
  · exact pg.elim
theorem vix_range2 {p pos : Pos} (hm : X.mg "range" = none) (h1 : VX X W a ha) (h2 : VX X W b hb) (hg : Gl X "range" := by rfl) (hs : starEach [a, b] X.env = [(false, eval a X.env), (false, eval b X.env)] := by rfl) (hs2 : starEach [b] X.env = [(false, eval b X.env)] := by rfl)
    (he : starEach [a, b] X.env = (false, eval a X.env) :: starEach [b] X.env := by rfl) (he2 : starEach [b] X.env = (false, eval b X.env) :: starEach [] X.env := by rfl) : VIX X W tg (.Call (.Name "range" p) [a, b] [] pos) (x2 vrange2 ha hb) := by
  obtain ⟨t, pt, qt⟩ := h1.ex
  obtain ⟨t2, pt2, qt2⟩ := h2.ex
  refine ⟨_, pi_range2 hg hm (pa_cons pt (pa_cons pt2 pa_nil he2) he) hs hs2, fun σ H F0 H0 F ρ Rr r pr => ?_⟩
  refine oneX qt r pr fun d x H1 F1 ex1 dx p1 => ?_
  refine oneX qt2 (r.ext ex1) p1 fun e y H' F' ex dy pg => ?_
  cases dx <;> first | (cases dy <;> exact pg.elim) | skip
  cases dy <;> first | exact pg.elim | skip
  rename_i i j
  simp only [vrange2] at pg
  split at pg
  · rename_i hz
    have hz' : -16777216 ≤ i ∧ i ≤ 16777216 ∧ -16777216 ≤ j ∧ j ≤ 16777216 ∧ j - i ≤ 16777216 := hz
    exact ⟨i, j, rfl, ⟨by omega, by omega, by omega, by omega⟩, pg _ H' F' (ex1.trans ex) (walks_range (by have := sizeLine_eq; omega))⟩
  · exact pg.elim

/-! ### for -/
def forL (kt : PyData → R (List (Nat × PyData))) (kl : OEnv → OEnv) (gb : OEnv → SR) : List PyData → OEnv → SR
  | [], ρ => .nx ρ
  | d :: ds, ρ => match kt d with
    | .ok bs => (match gb (setsO ρ bs) with
      | .nx ρ' => forL kt kl gb ds (kl ρ')
      | .ct ρ' => forL kt kl gb ds (kl ρ')
      | .bk ρ' => .nx ρ'
      | r => r)
    | _ => .stuck
def sFor (hi : OEnv → R (List PyData)) (kt : PyData → R (List (Nat × PyData))) (kl : OEnv → OEnv) (gb : OEnv → SR) : OEnv → SR := fun ρ => (hi ρ).sr ρ fun ds => forL kt kl gb ds ρ
theorem RS.head {K : PySem.W.Frag} {F0 H0 F H : Hp} {σ : L2.St} {ρ : OEnv} {v : V} {o : O} (r : RS K F0 H0 F H (some v :: σ) (some o :: ρ)) : RV K F0 H0 F H v o := by
  obtain ⟨fps, sl, hs⟩ := r.ex
  cases sl with
  | ow h1 s => exact ⟨_, h1, hs.sub (List.sublist_append_left _ _)⟩
theorem SPst.rebase {F0 H0 F1 : Hp} {D D' : Ends} (s : Same F0 F1) (n : ∀ a, F0 a = none → F1 a ≠ none → H0 a = none) {r : SR} (hn : ∀ ρ, (r = .nx ρ → ∀ σ' H' F', RS X.K F1 H0 F' H' σ' ρ → D'.nx σ' H') ∧ (r = .bk ρ → ∀ σ' H' F', RS X.K F1 H0 F' H' σ' ρ → D'.bk σ' H') ∧ (r = .ct ρ → ∀ σ' H' F', RS X.K F1 H0 F' H' σ' ρ → D'.ct σ' H'))
    (hrt : D'.rt = D.rt) (p : ∀ ρ, r ≠ .nx ρ → r ≠ .bk ρ → r ≠ .ct ρ → SPst X W F0 H0 D r) (hs : r ≠ .stuck) : SPst X W F1 H0 D' r := by
  cases r with
  | stuck => exact absurd rfl hs
  | err c ρ => exact fun σ' H' F' x => p ρ (fun z => nomatch z) (fun z => nomatch z) (fun z => nomatch z) σ' H' F' (x.rebase s n)
  | nx ρ => exact (hn ρ).1 rfl
  | bk ρ => exact (hn ρ).2.1 rfl
  | ct ρ => exact (hn ρ).2.2 rfl
  | rt o ρ => exact fun v σ' H' F' x => by rw [hrt]; exact p [] (fun z => nomatch z) (fun z => nomatch z) (fun z => nomatch z) v σ' H' F' (x.rebase s n)
theorem vs_for {body : List Stmt} {sl : List Nat} {kt : PyData → R (List (Nat × PyData))} {hi : OEnv → R (List PyData)} {kl : OEnv → OEnv} {gb : OEnv → SR} (hp : PassesOwn (model X.prog X.w) X.A X.env X.xe) (hc : X.calm = true) (h1 : VIX X W tg iter hi) (h2 : VG X tg sl kt) (hk : EnvT X.K kl) (h3 : VSs X W body gb)
    (hs : ∀ x, foldedSetIterable iter X.env x = pure x := by intro _; rfl) : VS X W (.For tg iter body [] pos) (sFor hi kt kl gb) := by
  obtain ⟨wi, pi, qi⟩ := h1.ex
  obtain ⟨tg', pg, qg⟩ := h2.ex
  obtain ⟨tb, pb, qb⟩ := h3.ex
  refine ⟨_, ps_for hp hc pi pg pb hs, fun D σ H F0 H0 F ρ r pr => ?_⟩
  refine qi σ H F0 H0 F ρ _ r (sr_pst r pr fun ds pd J H1 F1 ex wk => ?_)
  have r1 := r.ext ex
  refine ⟨fun i m σ H => m = ds.length - i ∧ i ≤ ds.length ∧ ∃ F' ρ', RS X.K F0 H0 F' H σ ρ' ∧ Same F1 F' ∧ SPst X W F0 H0 D (forL kt kl gb (ds.drop i) ρ'), ⟨ds.length, by simp, Nat.zero_le _, F1, ρ, r1, Same.refl _, by simpa using pd⟩, ?_⟩
  rintro i m σ' Hi ⟨rfl, hi', F', ρ', r', s1, pd'⟩
  obtain ⟨rs, b1, b2⟩ := r'.self
  have fh : Same F' Hi := by obtain ⟨_, _, hs⟩ := rs.ex; exact hs.fh
  by_cases hlt : i < ds.length
  · refine .inr ⟨wk.go i Hi (s1.trans fh) hlt, fun σ' H => i + 1 ≤ ds.length ∧ ∃ F' ρ', RS X.K F0 H0 F' H σ' ρ' ∧ Same F1 F' ∧ SPst X W F0 H0 D (forL kt kl gb (ds.drop (i + 1)) ρ'), fun σ'' H'' q => ⟨ds.length - (i + 1), by omega, rfl, q⟩, fun x H' y => ?_⟩
    obtain ⟨d, F2, e2, E2, dx⟩ := wk.yld i Hi x H' F' s1 fh hlt y
    have hdrop : ds.drop i = d :: ds.drop (i + 1) := by
      obtain ⟨q1, q2⟩ := List.getElem?_eq_some_iff.mp e2
      rw [List.drop_eq_getElem_cons q1, q2]
    rw [hdrop] at pd'
    simp only [forL] at pd'
    generalize hkd : kt d = rk at pd'
    cases rk with
    | stuck => exact pd'.elim
    | err c => exact pd'.elim
    | ok bs =>
      simp only at pd'
      refine qg x σ' H' F2 d _ E2.bh dx ⟨bs, hkd, fun bv hb => ?_⟩
      have r2 : RS X.K F' H0 F2 H' (setsV σ' bv) (setsO ρ' bs) := RS.sets (rs.ext E2) hb
      have again : ∀ {σ3 : L2.St} {H3 F3 : Hp} {ρ3 : OEnv}, RS X.K F' H0 F3 H3 σ3 ρ3 → SPst X W F0 H0 D (forL kt kl gb (ds.drop (i + 1)) (kl ρ3)) → i + 1 ≤ ds.length ∧ ∃ F' ρ', RS X.K F0 H0 F' H3 σ3 ρ' ∧ Same F1 F' ∧ SPst X W F0 H0 D (forL kt kl gb (ds.drop (i + 1)) ρ') := fun {σ3 H3 F3 ρ3} r3 p3 => by
        obtain ⟨F4, r4⟩ := hk F' H0 F3 H3 σ3 ρ3 r3
        refine ⟨hlt, F4, kl ρ3, r4.rebase b1 b2, s1.trans ?_, p3⟩
        obtain ⟨_, _, hs⟩ := r4.ex
        exact hs.f0
      refine qb _ (setsV σ' bv) H' F' H0 F2 (setsO ρ' bs) r2 ?_
      generalize hgb : gb (setsO ρ' bs) = rg at pd'
      cases rg with
      | stuck => exact pd'.elim
      | err c ρ3 => exact fun σ3 H3 F3 r3 => pd' σ3 H3 F3 (r3.rebase b1 b2)
      | nx ρ3 => exact fun σ3 H3 F3 r3 => again r3 pd'
      | ct ρ3 => exact fun σ3 H3 F3 r3 => again r3 pd'
      | bk ρ3 => exact fun σ3 H3 F3 r3 => pd' σ3 H3 F3 (r3.rebase b1 b2)
      | rt o _ => exact fun v σ3 H3 F3 r3 => pd' v σ3 H3 F3 (r3.rebase b1 b2)
  · have e : i = ds.length := by omega
    subst e
    refine .inl ⟨wk.stop Hi (s1.trans fh), ?_⟩
    rw [List.drop_length] at pd'
    exact pd' σ' Hi F' r'

def sForK (hi : OEnv → R (List PyData)) (T : OEnv → OEnv) (kt : PyData → R (List (Nat × PyData))) (kl : OEnv → OEnv) (gb : OEnv → SR) : OEnv → SR := fun ρ => (hi ρ).sr ρ fun ds => forL kt kl gb ds (T ρ)
/-- the same; what the source alone asked for is let go behind it -/
theorem vs_forK {body : List Stmt} {sl : List Nat} {kt : PyData → R (List (Nat × PyData))} {hi : OEnv → R (List PyData)} {T kl : OEnv → OEnv} {gb : OEnv → SR} (hp : PassesOwn (model X.prog X.w) X.A X.env X.xe) (hc : X.calm = true) (h1 : VIX X W tg iter hi) (h2 : VG X tg sl kt) (hT : ∀ F0 H0 F H σ ρ, RS X.K F0 H0 F H σ ρ → RS X.K F0 H0 F H σ (T ρ)) (hk : EnvT X.K kl) (h3 : VSs X W body gb)
    (hs : ∀ x, foldedSetIterable iter X.env x = pure x := by intro _; rfl) : VS X W (.For tg iter body [] pos) (sForK hi T kt kl gb) := by
  obtain ⟨wi, pi, qi⟩ := h1.ex
  obtain ⟨tg', pg, qg⟩ := h2.ex
  obtain ⟨tb, pb, qb⟩ := h3.ex
  refine ⟨_, ps_for hp hc pi pg pb hs, fun D σ H F0 H0 F ρ r pr => ?_⟩
  refine qi σ H F0 H0 F ρ _ r (sr_pst r pr fun ds pd J H1 F1 ex wk => ?_)
  have r1 := hT _ _ _ _ _ _ (r.ext ex)
  refine ⟨fun i m σ H => m = ds.length - i ∧ i ≤ ds.length ∧ ∃ F' ρ', RS X.K F0 H0 F' H σ ρ' ∧ Same F1 F' ∧ SPst X W F0 H0 D (forL kt kl gb (ds.drop i) ρ'), ⟨ds.length, by simp, Nat.zero_le _, F1, T ρ, r1, Same.refl _, by simpa using pd⟩, ?_⟩
  rintro i m σ' Hi ⟨rfl, hi', F', ρ', r', s1, pd'⟩
  obtain ⟨rs, b1, b2⟩ := r'.self
  have fh : Same F' Hi := by obtain ⟨_, _, hs⟩ := rs.ex; exact hs.fh
  by_cases hlt : i < ds.length
  · refine .inr ⟨wk.go i Hi (s1.trans fh) hlt, fun σ' H => i + 1 ≤ ds.length ∧ ∃ F' ρ', RS X.K F0 H0 F' H σ' ρ' ∧ Same F1 F' ∧ SPst X W F0 H0 D (forL kt kl gb (ds.drop (i + 1)) ρ'), fun σ'' H'' q => ⟨ds.length - (i + 1), by omega, rfl, q⟩, fun x H' y => ?_⟩
    obtain ⟨d, F2, e2, E2, dx⟩ := wk.yld i Hi x H' F' s1 fh hlt y
    have hdrop : ds.drop i = d :: ds.drop (i + 1) := by
      obtain ⟨q1, q2⟩ := List.getElem?_eq_some_iff.mp e2
      rw [List.drop_eq_getElem_cons q1, q2]
    rw [hdrop] at pd'
    simp only [forL] at pd'
    generalize hkd : kt d = rk at pd'
    cases rk with
    | stuck => exact pd'.elim
    | err c => exact pd'.elim
    | ok bs =>
      simp only at pd'
      refine qg x σ' H' F2 d _ E2.bh dx ⟨bs, hkd, fun bv hb => ?_⟩
      have r2 : RS X.K F' H0 F2 H' (setsV σ' bv) (setsO ρ' bs) := RS.sets (rs.ext E2) hb
      have again : ∀ {σ3 : L2.St} {H3 F3 : Hp} {ρ3 : OEnv}, RS X.K F' H0 F3 H3 σ3 ρ3 → SPst X W F0 H0 D (forL kt kl gb (ds.drop (i + 1)) (kl ρ3)) → i + 1 ≤ ds.length ∧ ∃ F' ρ', RS X.K F0 H0 F' H3 σ3 ρ' ∧ Same F1 F' ∧ SPst X W F0 H0 D (forL kt kl gb (ds.drop (i + 1)) ρ') := fun {σ3 H3 F3 ρ3} r3 p3 => by
        obtain ⟨F4, r4⟩ := hk F' H0 F3 H3 σ3 ρ3 r3
        refine ⟨hlt, F4, kl ρ3, r4.rebase b1 b2, s1.trans ?_, p3⟩
        obtain ⟨_, _, hs⟩ := r4.ex
        exact hs.f0
      refine qb _ (setsV σ' bv) H' F' H0 F2 (setsO ρ' bs) r2 ?_
      generalize hgb : gb (setsO ρ' bs) = rg at pd'
      cases rg with
      | stuck => exact pd'.elim
      | err c ρ3 => exact fun σ3 H3 F3 r3 => pd' σ3 H3 F3 (r3.rebase b1 b2)
      | nx ρ3 => exact fun σ3 H3 F3 r3 => again r3 pd'
      | ct ρ3 => exact fun σ3 H3 F3 r3 => again r3 pd'
      | bk ρ3 => exact fun σ3 H3 F3 r3 => pd' σ3 H3 F3 (r3.rebase b1 b2)
      | rt o _ => exact fun v σ3 H3 F3 r3 => pd' v σ3 H3 F3 (r3.rebase b1 b2)
  · have e : i = ds.length := by omega
    subst e
    refine .inl ⟨wk.stop Hi (s1.trans fh), ?_⟩
    rw [List.drop_length] at pd'
    exact pd' σ' Hi F' r'

theorem rs_kill (K : PySem.W.Frag) : ∀ (is : List Nat) F0 H0 F H σ ρ, RS K F0 H0 F H σ ρ → RS K F0 H0 F H σ (kill is ρ)
  | [], _, _, _, _, _, _, r => r
  | i :: is, F0, H0, F, H, σ, ρ, r => rs_kill K is F0 H0 F H σ (ρ.set i none) (r.drop i)

/-! ### while -/
def whileN (t : OEnv → R Bool) (kl : OEnv → OEnv) (gb : OEnv → SR) : Nat → OEnv → SR
  | 0, _ => .stuck
  | n + 1, ρ => (t ρ).sr ρ fun b => if b then (match gb ρ with
      | .nx ρ' => whileN t kl gb n (kl ρ')
      | .ct ρ' => whileN t kl gb n (kl ρ')
      | .bk ρ' => .nx ρ'
      | r => r) else .nx ρ
/-- what it comes to, if it comes to something -/
noncomputable def sWhile (t : OEnv → R Bool) (kl : OEnv → OEnv) (gb : OEnv → SR) : OEnv → SR := fun ρ =>
  open Classical in if h : ∃ n, whileN t kl gb n ρ ≠ .stuck then whileN t kl gb (Classical.choose h) ρ else .stuck
theorem whileN_mono (t : OEnv → R Bool) (kl : OEnv → OEnv) (gb : OEnv → SR) : ∀ (n m : Nat) (ρ : OEnv), n ≤ m → whileN t kl gb n ρ ≠ .stuck → whileN t kl gb m ρ = whileN t kl gb n ρ := by
  intro n
  induction n with
  | zero => intro m ρ _ h; exact absurd rfl h
  | succ n ih =>
    intro m ρ hm h
    cases m with
    | zero => omega
    | succ m =>
      simp only [whileN] at h ⊢
      generalize t ρ = rt at h ⊢
      cases rt with
      | stuck => rfl
      | err c => rfl
      | ok b =>
        simp only [R.sr_ok] at h ⊢
        cases b with
        | false => rfl
        | true =>
          simp only [if_true] at h ⊢
          generalize gb ρ = rg at h ⊢
          cases rg with
          | nx ρ' => exact ih m _ (by omega) h
          | ct ρ' => exact ih m _ (by omega) h
          | stuck => rfl
          | err c ρ' => rfl
          | bk ρ' => rfl
          | rt o _ => rfl
theorem sWhile_eq {t : OEnv → R Bool} {kl : OEnv → OEnv} {gb : OEnv → SR} {n : Nat} {ρ : OEnv} {r : SR} (h : whileN t kl gb n ρ = r) (hr : r ≠ .stuck) : sWhile t kl gb ρ = r := by
  unfold sWhile
  have ex : ∃ n, whileN t kl gb n ρ ≠ .stuck := ⟨n, by rw [h]; exact hr⟩
  rw [dif_pos ex]
  have hc := Classical.choose_spec ex
  have h2 : whileN t kl gb n ρ ≠ .stuck := by rw [h]; exact hr
  rw [← h]
  by_cases hle : Classical.choose ex ≤ n
  · exact (whileN_mono t kl gb _ _ ρ hle hc).symm
  · exact whileN_mono t kl gb _ _ ρ (by omega) h2
theorem vs_while {body : List Stmt} {t : OEnv → R Bool} {kl : OEnv → OEnv} {gb : OEnv → SR} (hp : PassesOwn (model X.prog X.w) X.A X.env X.xe) (h1 : VXT X W c t) (hk : EnvT X.K kl) (h3 : VSs X W body gb) : VS X W (.While c body [] pos) (sWhile t kl gb) := by
  obtain ⟨tc, pc, qc⟩ := h1.ex
  obtain ⟨tb, pb, qb⟩ := h3.ex
  refine ⟨_, ps_while hp pc pb, fun D σ H F0 H0 F ρ r pr => ?_⟩
  have ex : ∃ n, whileN t kl gb n ρ ≠ .stuck := by
    refine Classical.byContradiction fun z => ?_
    unfold sWhile at pr
    rw [dif_neg z] at pr
    exact pr
  obtain ⟨n, hn⟩ := ex
  rw [sWhile_eq rfl hn] at pr
  refine ⟨fun m σ H => ∃ F ρ, RS X.K F0 H0 F H σ ρ ∧ SPst X W F0 H0 D (whileN t kl gb m ρ), ⟨n, F, ρ, r, pr⟩, ?_⟩
  rintro m σ1 H1 ⟨F1, ρ1, r1, p1⟩
  cases m with
  | zero => exact p1.elim
  | succ m =>
    simp only [whileN] at p1
    refine qc σ1 H1 F0 H0 F1 ρ1 _ r1 (sr_pst r1 p1 fun b pb' H2 F2 E2 => ?_)
    have r2 := r1.ext E2
    cases b with
    | false => exact iteF (pb' σ1 H2 F2 r2)
    | true =>
      simp only [if_true] at pb'
      refine iteT ⟨fun σ H => ∃ F ρ, RS X.K F0 H0 F H σ ρ ∧ SPst X W F0 H0 D (whileN t kl gb m ρ), fun σ' H' q => ⟨m, Nat.lt_succ_self m, q⟩, ?_⟩
      refine qb _ σ1 H2 F0 H0 F2 ρ1 r2 ?_
      have again : ∀ {σ3 : L2.St} {H3 F3 : Hp} {ρ3 : OEnv}, RS X.K F0 H0 F3 H3 σ3 ρ3 → SPst X W F0 H0 D (whileN t kl gb m (kl ρ3)) → ∃ F ρ, RS X.K F0 H0 F H3 σ3 ρ ∧ SPst X W F0 H0 D (whileN t kl gb m ρ) := fun {σ3 H3 F3 ρ3} r3 p3 => by
        obtain ⟨F4, r4⟩ := hk F0 H0 F3 H3 σ3 ρ3 r3
        exact ⟨F4, kl ρ3, r4, p3⟩
      generalize hgb : gb ρ1 = rg at pb'
      cases rg with
      | stuck => exact pb'.elim
      | err c ρ3 => exact pb'
      | nx ρ3 => exact fun σ3 H3 F3 r3 => again r3 pb'
      | ct ρ3 => exact fun σ3 H3 F3 r3 => again r3 pb'
      | bk ρ3 => exact pb'
      | rt o _ => exact pb'

/-! ### a, b = x, y (names) -/
def sPar (i j : Nat) (h h' : OEnv → R PyData) : OEnv → SR := fun ρ => (h ρ).sr ρ fun d => (h' ρ).sr ρ fun e => .nx ((ρ.set i (some (.fz d))).set j (some (.fz e)))
theorem vs_par (i j : Nat) {x y : Str} {px py pt : Pos} {kt k2 pt2} (mk : ∀ {ta : TA}, PA X [a, b] ta → PS X (.Assign [.Tuple [.Name x px, .Name y py] kt pt] (.Tuple [a, b] k2 pt2) pos) (tPar i j ta)) (h1 : VX X W a hx) (h2 : VX X W b hx')
    (he : starEach [a, b] X.env = (false, eval a X.env) :: starEach [b] X.env := by rfl) (he2 : starEach [b] X.env = (false, eval b X.env) :: starEach [] X.env := by rfl) :
    VS X W (.Assign [.Tuple [.Name x px, .Name y py] kt pt] (.Tuple [a, b] k2 pt2) pos) (sPar i j hx hx') := by
  obtain ⟨t, p, q⟩ := h1.ex
  obtain ⟨t2, p2, q2⟩ := h2.ex
  refine ⟨_, mk (pa_cons p (pa_cons p2 pa_nil he2) he), fun D σ H F0 H0 F ρ r pr => ?_⟩
  unfold sPar at pr
  refine q σ H F0 H0 F ρ _ r (sr_pst r pr fun d pd v H1 F1 e1 dv => ?_)
  have r1 := r.ext e1
  refine q2 σ H1 F0 H0 F1 ρ _ r1 (sr_pst r1 pd fun e pe v2 H2 F2 e2 dv2 => ?_)
  have r2 := r1.ext e2
  exact ⟨v, v2, rfl, pe _ H2 F2 ((((r2.consFz (Is.mono e2.bb dv)).put i).consFz dv2).put j)⟩
end

/-! ### defs -/
/-- what a def promises: its n arguments are data, its answer is what g says -/
def spO (K : PySem.W.Frag) (mg : Str → Option Value) (n : Nat) (g : List PyData → R O) : Sp := fun vs H Q E => vs.length = n ∧ ∃ ds B, Same B H ∧ IsAll K B vs ds ∧
  match g ds with
  | .stuck => False
  | .err c => ∀ H', Same H H' → ∃ C, mg c = some (.ref C) ∧ E (.ref C) none H'
  | .ok o => ∀ v H' F', RV K B H F' H' v o → Q v H'
def startO (n : Nat) (ds : List PyData) : OEnv := ds.map (fun d => some (.fz d)) ++ List.replicate (n - ds.length) none
def runB (n : Nat) (g : OEnv → SR) (ds : List PyData) : R O := match g (startO n ds) with
  | .rt o _ => .ok o
  | .nx _ => .ok (.fz .none)
  | .err c _ => .err c
  | _ => .stuck
theorem slots_start {K : PySem.W.Frag} {B H : Hp} : ∀ {ds : List PyData} {vs : List V} (m : Nat), IsAll K B vs ds → Slots K B H (vs.map some ++ List.replicate m none) (ds.map (fun d => some (O.fz d)) ++ List.replicate m none) []
  | [], _, m, h => by
    cases h
    induction m with
    | zero => exact .nil
    | succ m ih => exact .un ih
  | d :: ds, _, m, h => by
    cases h with
    | cons h1 h2 => exact .ow (fp := []) (.fz h1) (slots_start m h2)
section
variable {P : Program} {w : World} {K : PySem.W.Frag} {mg : Str → Option Value} {base : Heap}
/-- THE RULE for a def -/
theorem fn_vl {x qual : Str} {st : Stmt} {f : Addr} {fd : FuncData} {N ps : List Str} {k n : Nat} {g : OEnv → SR} (F : Fun K x qual st f fd) (S : FnScope N ps (defScope st)) (hn : n = ps.length)
    (hb : ∀ (cdv : Value) (A : Around) (outer : List Env) (s : Shared) (H : Hp) (E : XK), Room k (A.deeper (envOfC qual (defScope st) s.heap.objs.size f cdv)) →
      VSs (cxOf (L2.CX P w) P w K mg base N qual (defScope st) f cdv A outer s H E) (fun cls d _ H => E cls d H) (defBody st) g) :
    FnOk P w K mg base (L2.CX P w) (k + 1) f fd ps (spO K mg n (runB N.length g)) := by
  refine F.okX S (fun vs H Q E h => by rw [h.1, hn]) (fun cdv A outer s H vs Q E hr h => ?_)
  obtain ⟨hl, ds, B, sb, ia, post⟩ := h
  obtain ⟨t, p, q⟩ := (hb cdv A outer s H E hr).ex
  refine ⟨t, p, q _ _ H B H B (startO N.length ds) ?_ ?_⟩
  · refine ⟨[], ?_, List.nodup_nil, fun a ha => (nomatch ha), sb, Same.refl _, Same.refl _, fun a x y => absurd x y⟩
    unfold L2.start startO
    rw [IsAll.len ia]
    exact slots_start _ ia
  · unfold runB at post
    generalize g (startO N.length ds) = r at post ⊢
    cases r with
    | stuck => exact post
    | err c ρ =>
      intro σ' H' F' x
      obtain ⟨_, _, hs⟩ := x.ex
      exact post H' hs.h0
    | nx ρ =>
      intro σ' H' F' x
      obtain ⟨fps, _, hs⟩ := x.ex
      exact post .non H' F' ⟨[], .fz .non, hs.sub (List.nil_sublist _)⟩
    | bk ρ => exact post.elim
    | ct ρ => exact post.elim
    | rt o _ => exact fun v σ' H' F' x => post v H' F' x.head
/-- its answer frozen -/
def frz (g : List PyData → R O) : List PyData → R PyData := fun ds => (g ds).bind fun o => .ok o.data
theorem fn_frz {f : Addr} {fd : FuncData} {ps : List Str} {k n : Nat} {g : List PyData → R O} (F : FnOk P w K mg base (L2.CX P w) k f fd ps (spO K mg n g)) : FnOk P w K mg base (L2.CX P w) k f fd ps (spV K mg n (frz g)) := by
  refine F.imp fun vs H Q E h => ?_
  obtain ⟨hl, ds, B, sb, ia, post⟩ := h
  refine ⟨hl, ds, B, sb, ia, ?_⟩
  unfold frz at post
  generalize g ds = r at post ⊢
  cases r with
  | stuck => exact post
  | err c => exact post
  | ok o =>
    intro v H' F' rv
    obtain ⟨fp, ow, hs⟩ := rv
    obtain ⟨b1, b2⟩ := hs.bor
    refine post v H' (bor F' H' fp) ⟨hs.h0, hs.f0.trans b1, b2, fun a h1 h2 => ?_⟩ (ow.is b1 fun a ha => bor_own ha)
    by_cases ha : a ∈ fp
    · exact (hs.ow a ha).2
    · rw [bor_not ha] at h2; exact hs.nw a h1 h2
/-- a promise by another function that is the same -/
theorem fn_eq {f : Addr} {fd : FuncData} {ps : List Str} {k n : Nat} {g g' : List PyData → R PyData} (F : FnOk P w K mg base (L2.CX P w) k f fd ps (spV K mg n g)) (h : ∀ ds, g' ds ≠ .stuck → g ds = g' ds) : FnOk P w K mg base (L2.CX P w) k f fd ps (spV K mg n g') := by
  refine F.imp fun vs H Q E q => ?_
  obtain ⟨hl, ds, B, sb, ia, post⟩ := q
  refine ⟨hl, ds, B, sb, ia, ?_⟩
  have h0 : g' ds ≠ .stuck := fun z => by rw [z] at post; exact post
  rw [h ds h0]
  exact post
end
end VL

namespace VL
open PySem PySem.Spec PyProof.Rows L2

/-! ### the names that a derivation's meaning is written in -/
def tst (f : PEnv → R PyData) : PEnv → R Bool := fun ρ => (f ρ).bind tbool
def tnn (f : PEnv → R PyData) : PEnv → R Bool := fun ρ => (v1 visnone f ρ).bind fun d => (tbool d).bind fun b => .ok (!b)
def ttr (f : PEnv → R PyData) : PEnv → R Bool := fun ρ => (f ρ).bind vtruth
def vnn (f : PEnv → R PyData) : PEnv → R PyData := v1 (fun d => (visnone d).bind fun b => match b with | .bool b => .ok (.bool (!b)) | _ => .stuck) f
def vpart (f : PEnv → R PyData) : PEnv → R (Option Int) := fun ρ => (f ρ).bind oInt
def vnopart : PEnv → R (Option Int) := fun _ => .ok none
def seq (g h : OEnv → SR) : OEnv → SR := fun ρ => (g ρ).seq h
def pre (T : OEnv → OEnv) (g : OEnv → SR) : OEnv → SR := fun ρ => g (T ρ)
def tB (t : PEnv → R Bool) : OEnv → R Bool := fun ρ => t (viewB ρ)
def ixF (f : PEnv → R (List PyData)) : OEnv → R (List PyData) := fun ρ => f (viewF ρ)
def sNx : OEnv → SR := fun ρ => .nx ρ
def sBk : OEnv → SR := fun ρ => .bk ρ
def sCt : OEnv → SR := fun ρ => .ct ρ
def sRetN : OEnv → SR := fun ρ => .rt (.fz .none) ρ
/-! `in` a tuple -/
def vInT : PyData → PyData → R PyData
  | d, .tuple ds => if SeqAt.shaped d = true ∧ SeqAt.shaped (.tuple ds) = true then .ok (.bool (ds.any fun z => PyData.eqv z d)) else .stuck
  | _, _ => .stuck
def vNotInT : PyData → PyData → R PyData
  | d, .tuple ds => if SeqAt.shaped d = true ∧ SeqAt.shaped (.tuple ds) = true then .ok (.bool (!ds.any fun z => PyData.eqv z d)) else .stuck
  | _, _ => .stuck
def rInTD (K : PySem.W.Frag) (neg : Bool) : R2 := fun x y H Q => ∃ d ds, Dp K H x d ∧ Dp K H y (.tuple ds) ∧ SeqAt.shaped d = true ∧ SeqAt.shaped (.tuple ds) = true ∧ Q (.bl (if neg then !ds.any fun z => PyData.eqv z d else ds.any fun z => PyData.eqv z d)) H
theorem roomT {A : Around} {d : PyData} {ds : List PyData} (h : SeqAt.shaped d = true) (hu : A.units + 65 < cLine) : A.units + 1 + min (PyData.depthAll ds) d.depth < cLine := by
  have := SeqAt.depth_of_shaped h
  have := Nat.min_le_right (PyData.depthAll ds) d.depth
  omega
theorem op_inTD {X : Cx} (hu : X.A.units + 65 < cLine) : OpR X (compareOp .In) (rInTD X.K false) := by
  intro pins t σ G x y vv uu Q J rX rY hh
  obtain ⟨d, ds, hd, he, sd, se, q⟩ := hh
  obtain ⟨as, k1⟩ := Dp.reads J d x vv hd rX
  obtain ⟨bs, k2⟩ := Dp.reads J (.tuple ds) y uu he rY
  exact SeqAt.in_tuple_reads k2 k1 (SeqAt.canLay_of_shaped se) (SeqAt.canLay_of_shaped sd) (roomT sd hu) ⟨.bl _, G, J, rfl, q⟩
theorem op_notInTD {X : Cx} (hu : X.A.units + 65 < cLine) : OpR X (compareOp .NotIn) (rInTD X.K true) := by
  intro pins t σ G x y vv uu Q J rX rY hh
  obtain ⟨d, ds, hd, he, sd, se, q⟩ := hh
  obtain ⟨as, k1⟩ := Dp.reads J d x vv hd rX
  obtain ⟨bs, k2⟩ := Dp.reads J (.tuple ds) y uu he rY
  exact SeqAt.notIn_tuple_reads k2 k1 (SeqAt.canLay_of_shaped se) (SeqAt.canLay_of_shaped sd) (roomT sd hu) ⟨.bl _, G, J, rfl, q⟩
end VL

namespace VL
open PySem PySem.Spec PyProof.Rows L2
section
variable {X : Cx} {W : WX} {a b c e tg iter : Expr} {es : List Expr} {st : Stmt} {sts rest : List Stmt} {pos : Pos} {g h : OEnv → SR} {fa fb fc : PEnv → R PyData} {ft fu : PEnv → R Bool} {k : Nat}
/-! ### the rules under the names that a derivation's meaning is written in -/
theorem qs_nil : VSs X W [] sNx := vss_nil
theorem qs_cons (h1 : VS X W st g) (h2 : VSs X W rest h) : VSs X W (st :: rest) (seq g h) := vss_cons h1 h2
theorem qs_t {T : OEnv → OEnv} (hT : EnvT X.K T) (h1 : VSs X W sts g) : VSs X W sts (pre T g) := vss_t (g := g) (T := T) hT h1
theorem q_pass : VS X W (.Pass pos) sNx := vs_pass
theorem q_break : VS X W (.Break pos) sBk := vs_break
theorem q_continue : VS X W (.Continue pos) sCt := vs_continue
theorem q_retN : VS X W (.Return none pos) sRetN := vs_retN
theorem qx_T (h : VT X W e ft) : VXT X W e (tB ft) := vxT h
theorem qix_F {f : PEnv → R (List PyData)} (h : VI X W tg iter f) : VIX X W tg iter (ixF f) := vix_F h
theorem qlt (ha : VE X W a fa) (hb : VE X W b fb) : VT X W (.Compare a [.Lt] [b] pos) (tst (v2 vlt fa fb)) := vlt_t ha hb
theorem qle (ha : VE X W a fa) (hb : VE X W b fb) : VT X W (.Compare a [.LtE] [b] pos) (tst (v2 vle fa fb)) := vle_t ha hb
theorem qgt (ha : VE X W a fa) (hb : VE X W b fb) : VT X W (.Compare a [.Gt] [b] pos) (tst (v2 vgt fa fb)) := vgt_t ha hb
theorem qge (ha : VE X W a fa) (hb : VE X W b fb) : VT X W (.Compare a [.GtE] [b] pos) (tst (v2 vge fa fb)) := vge_t ha hb
theorem qeq (hu : X.A.units + 65 < cLine) (ha : VE X W a fa) (hb : VE X W b fb) : VT X W (.Compare a [.Eq] [b] pos) (tst (v2 veq fa fb)) := veq_t hu ha hb
theorem qne (hu : X.A.units + 65 < cLine) (ha : VE X W a fa) (hb : VE X W b fb) : VT X W (.Compare a [.NotEq] [b] pos) (tst (v2 vne fa fb)) := vne_t hu ha hb
theorem qin (hu : X.A.units + 65 < cLine) (ha : VE X W a fa) (hb : VE X W b fb) (hm : behindInMarks .In b = false := by with_unfolding_all rfl) : VT X W (.Compare a [.In] [b] pos) (tst (v2 vIn fa fb)) := vin_t hu ha hb hm
theorem qnotin (hu : X.A.units + 65 < cLine) (ha : VE X W a fa) (hb : VE X W b fb) (hm : behindInMarks .NotIn b = false := by with_unfolding_all rfl) : VT X W (.Compare a [.NotIn] [b] pos) (tst (v2 vNotIn fa fb)) := vnotin_t hu ha hb hm
theorem win (hu : X.A.units + 65 < cLine) (ha : VE X W a fa) (hb : VE X W b fb) (hm : behindInMarks .In b = false := by with_unfolding_all rfl) : VE X W (.Compare a [.In] [b] pos) (v2 vIn fa fb) := vin_ hu ha hb hm
theorem wnotin (hu : X.A.units + 65 < cLine) (ha : VE X W a fa) (hb : VE X W b fb) (hm : behindInMarks .NotIn b = false := by with_unfolding_all rfl) : VE X W (.Compare a [.NotIn] [b] pos) (v2 vNotIn fa fb) := vnotin_ hu ha hb hm
theorem qtruth (h : VE X W a fa) (he : ∀ whole, isTrue a X.env whole = (do let v ← whole; standAt a.pos; holding [v] (truthy v)) := by intro _; rfl) : VT X W a (ttr fa) := vt_truth h he
theorem qisnone {j pos'} (ha : VE X W a fa) : VT X W (.Compare a [.Is] [.Constant .none j pos'] pos) (tst (v1 visnone fa)) := visnone_t ha
theorem qnotnone {j pos'} (ha : VE X W a fa) : VT X W (.Compare a [.IsNot] [.Constant .none j pos'] pos) (tnn fa) := vnotnone_t ha
theorem wnotnone {j pos'} (ha : VE X W a fa) : VE X W (.Compare a [.IsNot] [.Constant .none j pos'] pos) (vnn fa) := vnotnone_ ha
theorem qchain {op op' : CmpOp} {p p' : Int → Int → Bool} {g g' : D → D → R D} (i1 : IntCmp X op p g) (i2 : IntCmp X op' p' g') (ha : VE X W a fa) (hb : VE X W b fb) (hc : VE X W c fc) (hm : lastMarks [op, op'] [b, c] = false := by with_unfolding_all rfl) :
    VT X W (.Compare a [op, op'] [b, c] pos) (tst (vchain g g' fa fb fc)) := vchain_t i1 i2 ha hb hc hm
theorem qo_some (h : VE X W a fa) : VO1 X W (some a) (vpart fa) := vo_some h
theorem qo_none : VO1 X W none vnopart := vo_none
/-! in a flat tuple -/
theorem rule_inT : Rule2 X W (rInTD X.K false) vInT := fun d e x y σ H B Q s sm dx dy p => by
  cases e <;> first | (cases d <;> exact p.elim) | skip
  simp only [vInT] at p
  split at p
  · rename_i hf
    exact ⟨_, _, (Is.mono s dx).dp (SeqAt.canLay_of_shaped hf.1), (Is.mono s dy).dp (SeqAt.canLay_of_shaped hf.2), hf.1, hf.2, p _ H B (.refl s) (.bl _)⟩
  · exact p.elim
theorem rule_notInT : Rule2 X W (rInTD X.K true) vNotInT := fun d e x y σ H B Q s sm dx dy p => by
  cases e <;> first | (cases d <;> exact p.elim) | skip
  simp only [vNotInT] at p
  split at p
  · rename_i hf
    exact ⟨_, _, (Is.mono s dx).dp (SeqAt.canLay_of_shaped hf.1), (Is.mono s dy).dp (SeqAt.canLay_of_shaped hf.2), hf.1, hf.2, p _ H B (.refl s) (.bl _)⟩
  · exact p.elim
theorem winT (hu : X.A.units + 65 < cLine) (ha : VE X W a fa) (hb : VE X W b fb) (hm : behindInMarks .In b = false := by with_unfolding_all rfl) : VE X W (.Compare a [.In] [b] pos) (v2 vInT fa fb) := ve2 (fun p q => pe_cmpR (op_inTD hu) p q hm) rule_inT ha hb
theorem wnotinT (hu : X.A.units + 65 < cLine) (ha : VE X W a fa) (hb : VE X W b fb) (hm : behindInMarks .NotIn b = false := by with_unfolding_all rfl) : VE X W (.Compare a [.NotIn] [b] pos) (v2 vNotInT fa fb) := ve2 (fun p q => pe_cmpR (op_notInTD hu) p q hm) rule_notInT ha hb
theorem inT_bool {d e z : PyData} (h : vInT d e = .ok z) : ∃ k, z = .bool k := by
  cases e <;> first | (cases d <;> (cases h; done)) | skip
  simp only [vInT] at h
  split at h <;> cases h
  exact ⟨_, rfl⟩
theorem notInT_bool {d e z : PyData} (h : vNotInT d e = .ok z) : ∃ k, z = .bool k := by
  cases e <;> first | (cases d <;> (cases h; done)) | skip
  simp only [vNotInT] at h
  split at h <;> cases h
  exact ⟨_, rfl⟩
theorem qinT (hu : X.A.units + 65 < cLine) (ha : VE X W a fa) (hb : VE X W b fb) (hm : behindInMarks .In b = false := by with_unfolding_all rfl) : VT X W (.Compare a [.In] [b] pos) (tst (v2 vInT fa fb)) := vt2 (fun p q => pt_cmpR (op_inTD hu) p q hm) rule_inT (fun _ _ _ h => inT_bool h) ha hb
theorem qnotinT (hu : X.A.units + 65 < cLine) (ha : VE X W a fa) (hb : VE X W b fb) (hm : behindInMarks .NotIn b = false := by with_unfolding_all rfl) : VT X W (.Compare a [.NotIn] [b] pos) (tst (v2 vNotInT fa fb)) := vt2 (fun p q => pt_cmpR (op_notInTD hu) p q hm) rule_notInT (fun _ _ _ h => notInT_bool h) ha hb
end
theorem takes0 {X : Cx} : Takes X W0 := fun u s' ⟨_, _, _, _, _, _, _, _, _, _, _, _, _, _, _, _, w⟩ => w.elim
/-! ### constants of the module -/
def Cst (K : PySem.W.Frag) (mg : Str → Option Value) (x : Str) (d : PyData) : Prop := ∃ (u : Value) (v : V), mg x = some u ∧ RelV v u ∧ ∀ H, Is K H v d
theorem vglobT {X : Cx} {W : WX} {pos : Pos} {x : Str} {d : PyData} (h : Cst X.K X.mg x d) (hg : Gl X x := by rfl) (hdb : (x == ("__debug__" : Str)) = false := by decide) : VE X W (.Name x pos) (vC d) := by
  obtain ⟨u, v, h1, h2, h3⟩ := h
  exact vglob hg h1 h2 h3 hdb
theorem is_ktup {K : PySem.W.Frag} {q : Addr} {dd : Option Addr} {ss : Array (Option Value)} {its : Array Value} {n : Nat} {vs : List V} {ds : List PyData} (h : K.lookup q = some ⟨.type "tuple", dd, .seq its n, ss⟩) (hz : its.size ≤ sizeLine) (hv : Vals vs its.toList) (hd : ∀ H, IsAll K H vs ds) : ∀ H, Is K H (.ref q) (.tuple ds) :=
  fun H => .tup (.inr ⟨_, its, n, h, rfl, rfl, hz, hv⟩) (hd H)

/-! ### where a new list comes to stand -/
section
variable {X : Cx} {W : WX} {f : PEnv → R (List PyData)} {t : TE}
theorem mode_F (q : ∀ σ H B ρ Q, Same B H → RF X.K B σ ρ → Pst X W σ H (KFr X B H Q) (f ρ) → t σ H Q) : ∀ σ H F0 H0 F ρ Q, RS X.K F0 H0 F H σ ρ → Pst X W σ H (KO X F0 H0 σ Q) (oFrF f ρ) → t σ H Q := fun σ H F0 H0 F ρ Q r pr => by
  obtain ⟨fps, s, hs⟩ := r.ex
  refine q σ H F _ Q hs.fh s.rfF ?_
  unfold oFrF at pr
  generalize f (viewF ρ) = rr at pr ⊢
  cases rr with
  | stuck => exact pr
  | err c => exact pr
  | ok ds =>
    intro pa vs H' B' ex hp hn bn ia
    have hs' := hs.ext ex s.lstAt
    have s' : Slots X.K B' H' σ ρ fps := s.keep ex.bb fun a ha => by
      obtain ⟨us, z, _⟩ := s.lstAt a ha
      rw [z]; exact ex.hh _ _ z
    refine pr (.ref pa) H' B' ⟨[pa] ++ fps, .ow (.lst hp (OwnL.fzs ia)) s', ?_, ?_, hs'.fh, hs'.f0, hs'.h0, hs'.nw⟩
    · refine List.nodup_cons.mpr ⟨fun hm => ?_, hs'.nd⟩
      obtain ⟨us, z, _⟩ := s.lstAt pa hm
      rw [hn] at z; cases z
    · intro a ha
      rcases List.mem_cons.mp ha with e | e
      · subst e; exact ⟨bn, Same.free hs.h0 hn⟩
      · exact hs'.ow a e
theorem mode_B (q : ∀ σ H B ρ Q, Same B H → RF X.K B σ ρ → Pst X W σ H (KFr X B H Q) (f ρ) → t σ H Q) : ∀ σ H F0 H0 F ρ Q, RS X.K F0 H0 F H σ ρ → Pst X W σ H (KO X F0 H0 σ Q) (oFrB f ρ) → t σ H Q := fun σ H F0 H0 F ρ Q r pr => by
  obtain ⟨fps, s, hs⟩ := r.ex
  obtain ⟨b1, b2⟩ := hs.bor
  refine q σ H (bor F H fps) _ Q b2 (s.rfB b1 fun a ha => bor_own ha) ?_
  unfold oFrB at pr
  generalize f (viewB ρ) = rr at pr ⊢
  cases rr with
  | stuck => exact pr
  | err c => exact pr
  | ok ds =>
    simp only [R.bind_ok] at pr
    split at pr
    · rename_i hl
      intro pa vs H' B' ex hp hn bn ia
      obtain ⟨F', e1, e2, e3⟩ := hs.unbor s.lstAt ex
      have hs' := hs.ext e1 s.lstAt
      have s' : Slots X.K F' H' σ ρ fps := s.keep e1.bb fun a ha => by
        obtain ⟨us, z, _⟩ := s.lstAt a ha
        rw [z]; exact e1.hh _ _ z
      have hpa : pa ∉ fps := fun hm => by
        obtain ⟨us, z, _⟩ := s.lstAt pa hm
        rw [hn] at z; cases z
      have fn : F' pa = none := by
        cases z : F' pa with
        | none => rfl
        | some o => have w := e3 _ _ z; rw [bn] at w; cases w
      refine pr (.ref pa) H' F' ⟨[pa] ++ fps, .ow (.lst hp (OwnL.fzs (IsAll.lfree e2 hl ia))) s', ?_, ?_, hs'.fh, hs'.f0, hs'.h0, hs'.nw⟩
      · exact List.nodup_cons.mpr ⟨hpa, hs'.nd⟩
      · intro a ha
        rcases List.mem_cons.mp ha with e | e
        · subst e; exact ⟨fn, Same.free hs.h0 hn⟩
        · exact hs'.ow a e
    · exact pr.elim
theorem mode_Z (q : ∀ σ H B ρ Q, Same B H → RF X.K B σ ρ → Pst X W σ H (KFr X B H Q) (f ρ) → t σ H Q) : ∀ σ H F0 H0 F ρ Q, RS X.K F0 H0 F H σ ρ → Pst X W σ H (KO X F0 H0 σ Q) (oX (exF (vlistOf f)) ρ) → t σ H Q := fun σ H F0 H0 F ρ Q r pr => by
  have r0 := r
  obtain ⟨fps, s, hs⟩ := r.ex
  refine q σ H F _ Q hs.fh s.rfF ?_
  unfold oX exF vlistOf at pr
  generalize f (viewF ρ) = rr at pr ⊢
  cases rr with
  | stuck => exact pr
  | err c => exact pr
  | ok ds =>
    refine kfr_of fun v H' F' ex dv => ?_
    obtain ⟨fps, s, hs⟩ := (r0.ext ex).ex
    exact pr v H' F' ⟨fps, .ow (.fz dv) s, hs⟩
end
section
variable {X : Cx} {W : WX} {a b c e tg iter elt : Expr} {ifs : List Expr} {pos : Pos} {scope : Scope} {own : List (Str × Nat)} {sl ownl : List Nat} {fi : PEnv → R (List D)} {kt : D → R (List (Nat × D))} {ft : PEnv → R Bool} {fe : PEnv → R D} {k : Nat}
theorem qcomp (hc : X.calm = true) (hN : X.N.Nodup) (hi : VI X W tg iter fi) (ok : BlkOk X.N X.env.scope scope own) (ho : own.map (·.2) = ownl)
    (hg : ∀ (s : Shared) (H : Hp) (C : Addr) (cl : List (Str × Addr)) (fp : List Addr), VG (X.blk s H scope (compEnvC scope cl C X.env) fp) tg sl kt)
    (hso : ∀ i ∈ sl, i ∈ ownl)
    (ht : ∀ (s : Shared) (H : Hp) (C : Addr) (cl : List (Str × Addr)) (fp : List Addr), VTs (X.blk s H scope (compEnvC scope cl C X.env) fp) W0 ifs ft)
    (he : ∀ (s : Shared) (H : Hp) (C : Addr) (cl : List (Str × Addr)) (fp : List Addr), VE (X.blk s H scope (compEnvC scope cl C X.env) fp) W0 elt fe) (hs : ∀ x, foldedSetIterable iter X.env x = pure x := by intro _; rfl) :
    VFr X W (.ListComp elt [⟨tg, iter, ifs, 0⟩] scope pos) (vcomp ownl fi kt ft fe) := by
  subst ho
  exact vcomp_ hc hN hi ok hg hso ht he hs
theorem qsetLc {cpos : Pos} {x : Str} {py : Pos} {hh : OEnv → R (O × OEnv)} (i : Nat) (mode : ∀ {t : TE}, (∀ σ H B ρ Q, Same B H → RF X.K B σ ρ → Pst X W σ H (KFr X B H Q) (vcomp ownl fi kt ft fe ρ) → t σ H Q) → ∀ σ H F0 H0 F ρ Q, RS X.K F0 H0 F H σ ρ → Pst X W σ H (KO X F0 H0 σ Q) (hh ρ) → t σ H Q)
    (hc : X.calm = true) (hN : X.N.Nodup) (hy : X.N[i]? = some x) (hyl : X.env.scope.names.lookup x = some .local) (hsw : swapsWith (.ListComp elt [⟨tg, iter, ifs, 0⟩] scope cpos) (some (.Name x py)) pos.line X.env = pure true)
    (hi : VI X W tg iter fi) (ok : BlkOk X.N X.env.scope scope own) (ho : own.map (·.2) = ownl)
    (hg : ∀ (s : Shared) (H : Hp) (C : Addr) (cl : List (Str × Addr)) (fp : List Addr), VG (X.blk s H scope (compEnvC scope cl C X.env) fp) tg sl kt)
    (hso : ∀ i ∈ sl, i ∈ ownl)
    (ht : ∀ (s : Shared) (H : Hp) (C : Addr) (cl : List (Str × Addr)) (fp : List Addr), VTs (X.blk s H scope (compEnvC scope cl C X.env) fp) W0 ifs ft)
    (hee : ∀ (s : Shared) (H : Hp) (C : Addr) (cl : List (Str × Addr)) (fp : List Addr), VE (X.blk s H scope (compEnvC scope cl C X.env) fp) W0 elt fe) (hs : ∀ x, foldedSetIterable iter X.env x = pure x := by intro _; rfl) :
    VS X W (.Assign [.Name x py] (.ListComp elt [⟨tg, iter, ifs, 0⟩] scope cpos) pos) (sSet i hh) := by
  subst ho
  exact vs_setLc i mode hc hN hy hyl hsw hi ok hg hso ht hee hs
/-! list(range(..)) -/
theorem ints_is {K : PySem.W.Frag} {F : Hp} : ∀ ns : List Int, IsAll K F (ns.map V.int) (ns.map PyData.int)
  | [] => .nil
  | n :: ns => .cons (.int n) (ints_is ns)
theorem rgV_is {K : PySem.W.Frag} {F : Hp} (i j : Int) : IsAll K F (rgV i j) (rangeD i (j - i).toNat) := by
  have := ints_is (K := K) (F := F) ((List.range (j - i).toNat).map fun n : Nat => i + (n : Int))
  unfold rgV rangeD
  rw [List.map_map, List.map_map] at this
  exact this
theorem rgOk_of {i j : Int} (h : rngOk i j) : RgOk i j := by
  obtain ⟨h1, h2, h3, h4, h5⟩ := h
  exact ⟨by omega, by omega, by omega, by omega, by omega⟩
theorem qlist_rg1 {p p2 pos2 : Pos} {fa : PEnv → R PyData} (hc : X.calm = true) (hm : X.mg "list" = none) (hm2 : X.mg "range" = none) (ha : VE X W a fa) (hg : Gl X "list" := by rfl) (hg2 : Gl X "range" := by rfl)
    (n1 : starEach [a] X.env = (false, eval a X.env) :: starEach [] X.env := by rfl)
    (n3 : starEach [.Call (.Name "range" p2) [a] [] pos2] X.env = (false, eval (.Call (.Name "range" p2) [a] [] pos2) X.env) :: starEach [] X.env := by rfl) : VFr X W (.Call (.Name "list" p) [.Call (.Name "range" p2) [a] [] pos2] [] pos) (i1 vrange1 fa) := by
  obtain ⟨t, pt, qt⟩ := ha.ex
  refine ⟨_, pe_listRg hc hg hm (prg_1 hg2 hm2 pt n1) n3, fun σ H B ρ Q s rf pr => ?_⟩
  refine one qt s rf pr fun d x H' B' ex sm dx pg => ?_
  cases dx <;> first | exact pg.elim | skip
  rename_i j
  simp only [vrange1] at pg
  split at pg
  · rename_i hz
    refine ⟨j, rfl, rgOk_of hz, fun q hq => ?_⟩
    have pg : KFr X B H Q (rangeD 0 j.toNat) := pg
    have e := rgV_is (K := X.K) (F := B') 0 j
    rw [Int.sub_zero] at e
    exact pg q _ _ B' (ex.trans (Ext.own ex.bh hq)) upd_same (Same.free ex.hh hq) (Same.free ex.bh hq) e
  · exact pg.elim
theorem qlist_rg2 {p p2 pos2 : Pos} {fa fb : PEnv → R PyData} (hc : X.calm = true) (hm : X.mg "list" = none) (hm2 : X.mg "range" = none) (ha : VE X W a fa) (hb : VE X W b fb) (hg : Gl X "list" := by rfl) (hg2 : Gl X "range" := by rfl)
    (n1 : starEach [a, b] X.env = (false, eval a X.env) :: starEach [b] X.env := by rfl) (n2 : starEach [b] X.env = (false, eval b X.env) :: starEach [] X.env := by rfl) (hp : (backTo pos2 (starEach [b] X.env)).any (·.1) = false := by rfl)
    (n3 : starEach [.Call (.Name "range" p2) [a, b] [] pos2] X.env = (false, eval (.Call (.Name "range" p2) [a, b] [] pos2) X.env) :: starEach [] X.env := by rfl) : VFr X W (.Call (.Name "list" p) [.Call (.Name "range" p2) [a, b] [] pos2] [] pos) (i2 vrange2 fa fb) := by
  obtain ⟨t, pt, qt⟩ := ha.ex
  obtain ⟨t2, pt2, qt2⟩ := hb.ex
  refine ⟨_, pe_listRg hc hg hm (prg_2 hg2 hm2 pt pt2 n1 n2 hp) n3, fun σ H B ρ Q s rf pr => ?_⟩
  refine two qt qt2 s rf pr fun d e x y H' B' ex sm dx dy pg => ?_
  cases dx <;> first | (cases dy <;> exact pg.elim) | skip
  cases dy <;> first | exact pg.elim | skip
  rename_i i j
  simp only [vrange2] at pg
  split at pg
  · rename_i hz
    refine ⟨i, j, rfl, rfl, rgOk_of hz, fun q hq => ?_⟩
    have pg : KFr X B H Q (rangeD i (j - i).toNat) := pg
    exact pg q _ _ B' (ex.trans (Ext.own ex.bh hq)) upd_same (Same.free ex.hh hq) (Same.free ex.bh hq) (rgV_is i j)
  · exact pg.elim
end
/-! ### the law's own end -/
/-- what `law` promises: of a list of at most 63 ints, True -/
def spL : Sp := fun vs H Q _ => ∃ (a : Addr) (ns : List Int), vs = [.ref a] ∧ ns.length ≤ 63 ∧ Rd H a (.lst (ns.map V.int)) ∧ ∀ H', Same H H' → Q (.bl true) H'
def noLst (K : PySem.W.Frag) : Bool := K.all fun p => match p.2.cls with | .type "list" => false | _ => true
theorem lookup_all {K : PySem.W.Frag} {p : Addr × Obj → Bool} : ∀ {K : List (Addr × Obj)} {a : Addr} {o : Obj}, K.all p = true → K.lookup a = some o → ∃ b, p (b, o) = true
  | [], a, o, _, e => by cases e
  | (b, u) :: K, a, o, h, e => by
    rw [List.all_cons, Bool.and_eq_true] at h
    rw [List.lookup_cons] at e
    split at e
    · cases e; exact ⟨b, h.1⟩
    · exact lookup_all (K := K) h.2 e
theorem spL_of {K : PySem.W.Frag} {H : Hp} {a : Addr} {ns : List Int} (hl : ns.length ≤ 63) (hS : SqL K H a (ns.map V.int)) (hK : noLst K = true) : spL [.ref a] H (fun v _ => v = .bl true) fun _ _ _ => False := by
  rcases hS with h | ⟨o, its, n, h1, h2, _⟩
  · exact ⟨a, ns, rfl, hl, h, fun _ _ => rfl⟩
  · obtain ⟨b, hb⟩ := lookup_all (K := K) (p := fun p => match p.2.cls with | .type "list" => false | _ => true) hK h1
    simp only [h2] at hb
    cases hb
theorem fn_law {P : Program} {w : World} {K : PySem.W.Frag} {mg : Str → Option Value} {base : Heap} {f : Addr} {fd : FuncData} {ps : List Str} {k : Nat} {g : List PyData → R PyData} (F : FnOk P w K mg base (L2.CX P w) k f fd ps (spV K mg 1 g))
    (math : ∀ ns : List Int, ns.length ≤ 63 → g [.list (ns.map PyData.int)] = .ok (.bool true)) : FnOk P w K mg base (L2.CX P w) k f fd ps spL := by
  refine F.imp fun vs H Q E q => ?_
  obtain ⟨a, ns, rfl, hl, hr, post⟩ := q
  refine ⟨rfl, [.list (ns.map PyData.int)], H, Same.refl H, .cons (.lst hr (ints_is ns)) .nil, ?_⟩
  rw [math ns hl]
  intro v H' B' ex dv
  cases dv
  exact post H' ex.hh
theorem cx_false {P : Program} {w : World} {H : Hp} {s : Shared} {e : Value} {s' : Shared} (h : L2.CX P w [] H s (fun _ _ _ => False) e s') : False := by
  obtain ⟨_, _, _, _, _, _, _, _, _, _, _, _, h⟩ := h
  exact h
end VL

namespace VL
open PySem PySem.Spec PyProof.Rows

/-! ### evaluation -/
def fin : SR → R PyData
  | .rt o _ => .ok o.data
  | .nx _ => .ok .none
  | .err c _ => .err c
  | _ => .stuck
@[simp] theorem fin_rt (o : O) (ρ : OEnv) : fin (.rt o ρ) = .ok o.data := rfl
@[simp] theorem fin_nx (ρ : OEnv) : fin (.nx ρ) = .ok .none := rfl
@[simp] theorem fin_err (c : Str) (ρ : OEnv) : fin (.err c ρ) = .err c := rfl
theorem frz_fin (n : Nat) (g : OEnv → SR) (ds : List PyData) : frz (runB n g) ds = fin (g (startO n ds)) := by
  unfold frz runB
  cases g (startO n ds) <;> rfl
@[simp] theorem seq_ap (g h : OEnv → SR) (ρ : OEnv) : seq g h ρ = (g ρ).seq h := rfl
@[simp] theorem pre_ap (T : OEnv → OEnv) (g : OEnv → SR) (ρ : OEnv) : pre T g ρ = g (T ρ) := rfl
@[simp] theorem tB_ap (t : PEnv → R Bool) (ρ : OEnv) : tB t ρ = t (viewB ρ) := rfl
@[simp] theorem ixF_ap (t : PEnv → R (List PyData)) (ρ : OEnv) : ixF t ρ = t (viewF ρ) := rfl
@[simp] theorem sRet_ap (h : OEnv → R (O × OEnv)) (ρ : OEnv) : sRet h ρ = (h ρ).sr ρ fun p => .rt p.1 p.2 := rfl
@[simp] theorem sSet_ap (i : Nat) (h : OEnv → R (O × OEnv)) (ρ : OEnv) : sSet i h ρ = (h ρ).sr ρ fun p => .nx (p.2.set i (some p.1)) := rfl
@[simp] theorem sExpr_ap (h : OEnv → R (O × OEnv)) (ρ : OEnv) : sExpr h ρ = (h ρ).sr ρ fun p => .nx p.2 := rfl
@[simp] theorem sIf_ap (t : OEnv → R Bool) (g h : OEnv → SR) (ρ : OEnv) : sIf t g h ρ = (t ρ).sr ρ fun b => if b then g ρ else h ρ := rfl
@[simp] theorem sNx_ap (ρ : OEnv) : sNx ρ = .nx ρ := rfl
@[simp] theorem sBk_ap (ρ : OEnv) : sBk ρ = .bk ρ := rfl
@[simp] theorem sCt_ap (ρ : OEnv) : sCt ρ = .ct ρ := rfl
@[simp] theorem sRetN_ap (ρ : OEnv) : sRetN ρ = .rt (.fz .none) ρ := rfl
@[simp] theorem oX_ap (h : OEnv → R PyData) (ρ : OEnv) : oX h ρ = (h ρ).bind fun d => .ok (.fz d, ρ) := rfl
@[simp] theorem exF_ap (f : PEnv → R PyData) (ρ : OEnv) : exF f ρ = f (viewF ρ) := rfl
@[simp] theorem exB_ap (f : PEnv → R PyData) (ρ : OEnv) : exB f ρ = (f (viewB ρ)).bind lfok := rfl
@[simp] theorem oFrF_ap (f : PEnv → R (List PyData)) (ρ : OEnv) : oFrF f ρ = (f (viewF ρ)).bind fun ds => .ok (.lst (ds.map O.fz), ρ) := rfl
@[simp] theorem oFrB_ap (f : PEnv → R (List PyData)) (ρ : OEnv) : oFrB f ρ = (f (viewB ρ)).bind fun ds => if lfs ds then .ok (.lst (ds.map O.fz), ρ) else .stuck := rfl
@[simp] theorem sPar_ap (i j : Nat) (h h' : OEnv → R PyData) (ρ : OEnv) : sPar i j h h' ρ = (h ρ).sr ρ fun d => (h' ρ).sr ρ fun e => .nx ((ρ.set i (some (.fz d))).set j (some (.fz e))) := rfl
@[simp] theorem sTup_ap (k : PyData → R (List (Nat × PyData))) (h : OEnv → R PyData) (ρ : OEnv) : sTup k h ρ = (h ρ).sr ρ fun d => match k d with | .ok bd => .nx (setsO ρ bd) | _ => .stuck := rfl
@[simp] theorem sFor_ap (hi : OEnv → R (List PyData)) (kt : PyData → R (List (Nat × PyData))) (kl : OEnv → OEnv) (gb : OEnv → SR) (ρ : OEnv) : sFor hi kt kl gb ρ = (hi ρ).sr ρ fun ds => forL kt kl gb ds ρ := rfl
@[simp] theorem sForK_ap (hi : OEnv → R (List PyData)) (T : OEnv → OEnv) (kt : PyData → R (List (Nat × PyData))) (kl : OEnv → OEnv) (gb : OEnv → SR) (ρ : OEnv) : sForK hi T kt kl gb ρ = (hi ρ).sr ρ fun ds => forL kt kl gb ds (T ρ) := rfl
@[simp] theorem lfok_ap (d : PyData) : lfok d = if lf d then .ok d else .stuck := rfl
@[simp] theorem kill_nil (ρ : OEnv) : kill [] ρ = ρ := rfl
@[simp] theorem kill_cons (i : Nat) (is : List Nat) (ρ : OEnv) : kill (i :: is) ρ = kill is (ρ.set i none) := rfl
@[simp] theorem freeze_nil (ρ : OEnv) : freeze [] ρ = ρ := rfl
@[simp] theorem freeze_cons (i : Nat) (is : List Nat) (ρ : OEnv) : freeze (i :: is) ρ = freeze is (freezeAt ρ i) := rfl
@[simp] theorem setsO_nil (ρ : OEnv) : setsO ρ [] = ρ := rfl
@[simp] theorem setsO_cons (b : Nat × PyData) (bs : List (Nat × PyData)) (ρ : OEnv) : setsO ρ (b :: bs) = setsO (ρ.set b.1 (some (.fz b.2))) bs := rfl
@[simp] theorem setsD_nil (ρ : PEnv) : setsD ρ [] = ρ := rfl
@[simp] theorem setsD_cons (b : Nat × PyData) (bs : List (Nat × PyData)) (ρ : PEnv) : setsD ρ (b :: bs) = setsD (ρ.set b.1 (some b.2)) bs := rfl
@[simp] theorem wipeD_nil (ρ : PEnv) : wipeD ρ [] = ρ := rfl
@[simp] theorem wipeD_cons (i : Nat) (is : List Nat) (ρ : PEnv) : wipeD ρ (i :: is) = (wipeD ρ is).set i none := rfl
@[simp] theorem viewF_nil : viewF [] = [] := rfl
@[simp] theorem viewF_none (ρ : OEnv) : viewF (none :: ρ) = none :: viewF ρ := rfl
@[simp] theorem viewF_fz (d : PyData) (ρ : OEnv) : viewF (some (.fz d) :: ρ) = some d :: viewF ρ := rfl
@[simp] theorem viewF_lst (xs : List O) (ρ : OEnv) : viewF (some (.lst xs) :: ρ) = none :: viewF ρ := rfl
@[simp] theorem viewB_nil : viewB [] = [] := rfl
@[simp] theorem viewB_none (ρ : OEnv) : viewB (none :: ρ) = none :: viewB ρ := rfl
@[simp] theorem viewB_some (o : O) (ρ : OEnv) : viewB (some o :: ρ) = some o.data :: viewB ρ := rfl
@[simp] theorem v2_ap (g : D → D → R D) (fa fb : PEnv → R D) (ρ : PEnv) : v2 g fa fb ρ = (fa ρ).bind fun d => (fb ρ).bind fun e => g d e := rfl
@[simp] theorem v1_ap (g : D → R D) (fa : PEnv → R D) (ρ : PEnv) : v1 g fa ρ = (fa ρ).bind g := rfl
@[simp] theorem vC_ap (d : D) (ρ : PEnv) : vC d ρ = .ok d := rfl
@[simp] theorem vnn_ap (f : PEnv → R PyData) (ρ : PEnv) : vnn f ρ = (f ρ).bind fun d => .ok (.bool (match d with | .none => false | _ => true)) := by
  unfold vnn v1 visnone
  generalize f ρ = r
  cases r with
  | stuck => rfl
  | err c => rfl
  | ok d => cases d <;> rfl
@[simp] theorem tnn_ap (f : PEnv → R PyData) (ρ : PEnv) : tnn f ρ = (f ρ).bind fun d => .ok (match d with | .none => false | _ => true) := by
  unfold tnn v1 visnone
  generalize f ρ = r
  cases r with
  | stuck => rfl
  | err c => rfl
  | ok d => cases d <;> rfl
@[simp] theorem tst_ap (f : PEnv → R PyData) (ρ : PEnv) : tst f ρ = (f ρ).bind tbool := rfl
@[simp] theorem ttr_ap (f : PEnv → R PyData) (ρ : PEnv) : ttr f ρ = (f ρ).bind vtruth := rfl
@[simp] theorem vpart_ap (f : PEnv → R PyData) (ρ : PEnv) : vpart f ρ = (f ρ).bind oInt := rfl
@[simp] theorem vnopart_ap (ρ : PEnv) : vnopart ρ = .ok none := rfl
@[simp] theorem oInt_int (i : Int) : oInt (.int i) = .ok (some i) := rfl
@[simp] theorem tbool_bool (b : Bool) : tbool (.bool b) = .ok b := rfl
@[simp] theorem tand_ap (f g : PEnv → R Bool) (ρ : PEnv) : tand f g ρ = (f ρ).bind fun b => if b then g ρ else .ok false := rfl
@[simp] theorem tor_ap (f g : PEnv → R Bool) (ρ : PEnv) : tor f g ρ = (f ρ).bind fun b => if b then .ok true else g ρ := rfl
@[simp] theorem tnot_ap (f : PEnv → R Bool) (ρ : PEnv) : tnot f ρ = (f ρ).bind fun b => .ok (!b) := rfl
@[simp] theorem tyes_ap (ρ : PEnv) : tyes ρ = .ok true := rfl
@[simp] theorem vif_ap (t : PEnv → R Bool) (f g : PEnv → R D) (ρ : PEnv) : vif t f g ρ = (t ρ).bind fun b => if b then f ρ else g ρ := rfl
@[simp] theorem vand_ap (f g : PEnv → R D) (ρ : PEnv) : vand f g ρ = (f ρ).bind fun d => (tbool d).bind fun b => if b then g ρ else .ok (.bool false) := rfl
@[simp] theorem vor_ap (f g : PEnv → R D) (ρ : PEnv) : vor f g ρ = (f ρ).bind fun d => (tbool d).bind fun b => if b then .ok (.bool true) else g ρ := rfl
@[simp] theorem vnot_ap (f : PEnv → R D) (ρ : PEnv) : vnot f ρ = (f ρ).bind fun d => (tbool d).bind fun b => .ok (.bool (!b)) := rfl
@[simp] theorem vchain_ap (g g' : D → D → R D) (fa fb fc : PEnv → R D) (ρ : PEnv) : vchain g g' fa fb fc ρ = (fa ρ).bind fun d => (fb ρ).bind fun e => (g d e).bind fun z => (tbool z).bind fun k => if k then (fc ρ).bind fun f => g' e f else .ok (.bool false) := rfl
@[simp] theorem aNil_ap (ρ : PEnv) : aNil ρ = .ok [] := rfl
@[simp] theorem aCons_ap (f : PEnv → R D) (g : PEnv → R (List D)) (ρ : PEnv) : aCons f g ρ = (f ρ).bind fun d => (g ρ).bind fun ds => .ok (d :: ds) := rfl
@[simp] theorem vtup_ap (g : PEnv → R (List D)) (ρ : PEnv) : vtup g ρ = (g ρ).bind fun ds => .ok (.tuple ds) := rfl
@[simp] theorem vlistOf_ap (g : PEnv → R (List D)) (ρ : PEnv) : vlistOf g ρ = (g ρ).bind fun ds => .ok (.list ds) := rfl
@[simp] theorem vapp_ap (g : List D → R D) (f : PEnv → R (List D)) (ρ : PEnv) : vapp g f ρ = (f ρ).bind g := rfl
@[simp] theorem vslice_ap (f : PEnv → R D) (l u : PEnv → R (Option Int)) (ρ : PEnv) : vslice f l u ρ = (f ρ).bind fun d => (l ρ).bind fun lo => (u ρ).bind fun hi => vcut lo hi d := rfl
@[simp] theorem x1_ap (g : PyData → R (List PyData)) (h : OEnv → R PyData) (ρ : OEnv) : x1 g h ρ = (h ρ).bind g := rfl
@[simp] theorem x2_ap (g : PyData → PyData → R (List PyData)) (h h' : OEnv → R PyData) (ρ : OEnv) : x2 g h h' ρ = (h ρ).bind fun d => (h' ρ).bind fun e => g d e := rfl
@[simp] theorem i1_ap (g : PyData → R (List PyData)) (h : PEnv → R PyData) (ρ : PEnv) : i1 g h ρ = (h ρ).bind g := rfl
@[simp] theorem i2_ap (g : PyData → PyData → R (List PyData)) (h h' : PEnv → R PyData) (ρ : PEnv) : i2 g h h' ρ = (h ρ).bind fun d => (h' ρ).bind fun e => g d e := rfl
@[simp] theorem isq_ap (h : PEnv → R PyData) (ρ : PEnv) : isq h ρ = (h ρ).bind seqD := rfl
@[simp] theorem seqD_list (xs : List PyData) : seqD (.list xs) = .ok xs := rfl
@[simp] theorem seqD_tuple (xs : List PyData) : seqD (.tuple xs) = .ok xs := rfl
@[simp] theorem gN_ap (i : Nat) (d : PyData) : gN i d = .ok [(i, d)] := rfl
@[simp] theorem calm_okk {α : Type} (a : α) : (R.ok a).calm = .ok a := rfl
@[simp] theorem calm_ite {α : Type} (p : Prop) [Decidable p] (a b : R α) : (if p then a else b).calm = if p then a.calm else b.calm := by split <;> rfl

@[simp] theorem vadd_int (a b : Int) : vadd (.int a) (.int b) = .ok (.int (a + b)) := rfl
@[simp] theorem vsub_int (a b : Int) : vsub (.int a) (.int b) = .ok (.int (a - b)) := rfl
@[simp] theorem vlt_int (a b : Int) : vlt (.int a) (.int b) = .ok (.bool (decide (a < b))) := rfl
@[simp] theorem vle_int (a b : Int) : vle (.int a) (.int b) = .ok (.bool (decide (a ≤ b))) := rfl
@[simp] theorem vgt_int (a b : Int) : vgt (.int a) (.int b) = .ok (.bool (decide (b < a))) := rfl
@[simp] theorem vge_int (a b : Int) : vge (.int a) (.int b) = .ok (.bool (decide (b ≤ a))) := rfl
@[simp] theorem vneg_int (a : Int) : vneg (.int a) = .ok (.int (-a)) := rfl
theorem vmul_int {a b : Int} (h : IntMulOk a b) : vmul (.int a) (.int b) = .ok (.int (a * b)) := if_pos h
@[simp] theorem vfdiv_int {a b : Int} (h : 0 < b ∧ b < 2 ^ 250) : vfdiv (.int a) (.int b) = .ok (.int (a / b)) := if_pos h
@[simp] theorem vmod_int (a b : Int) : vmod (.int a) (.int b) = if 0 < b then .ok (.int (a % b)) else .stuck := rfl
@[simp] theorem vpow_int {a b : Int} (h : 0 ≤ b ∧ b ≤ 1000 ∧ a.natAbs < 2 ^ 64) : vpow (.int a) (.int b) = .ok (.int (a ^ b.toNat)) := if_pos h
@[simp] theorem veq_int (a b : Int) : veq (.int a) (.int b) = .ok (.bool (decide (a = b))) := by
  unfold veq vEq; simp [SeqAt.shaped, PyData.canLay0, PyData.depth, PyData.eqv, Bool.beq_eq_decide_eq]
@[simp] theorem vne_int (a b : Int) : vne (.int a) (.int b) = .ok (.bool (!decide (a = b))) := by
  unfold vne vEq; simp [SeqAt.shaped, PyData.canLay0, PyData.depth, PyData.eqv, Bool.beq_eq_decide_eq]
theorem veq_str {a b : Str} (ha : PyData.strOk a = true) (hb : PyData.strOk b = true) : veq (.str a) (.str b) = .ok (.bool (decide (a = b))) := by
  unfold veq vEq; simp [SeqAt.shaped, PyData.canLay0, PyData.depth, PyData.eqv, ha, hb, Bool.beq_eq_decide_eq]
theorem vne_str {a b : Str} (ha : PyData.strOk a = true) (hb : PyData.strOk b = true) : vne (.str a) (.str b) = .ok (.bool (!decide (a = b))) := by
  unfold vne vEq; simp [SeqAt.shaped, PyData.canLay0, PyData.depth, PyData.eqv, ha, hb, Bool.beq_eq_decide_eq]
@[simp] theorem veq_bool (a b : Bool) : veq (.bool a) (.bool b) = .ok (.bool (decide (a = b))) := by
  unfold veq vEq; simp [SeqAt.shaped, PyData.canLay0, PyData.depth, PyData.eqv, Bool.beq_eq_decide_eq]
@[simp] theorem vne_bool (a b : Bool) : vne (.bool a) (.bool b) = .ok (.bool (!decide (a = b))) := by
  unfold vne vEq; simp [SeqAt.shaped, PyData.canLay0, PyData.depth, PyData.eqv, Bool.beq_eq_decide_eq]
@[simp] theorem vint1_int (a : Int) : vint1 [.int a] = .ok (.int a) := rfl
@[simp] theorem vint1_bool (a : Bool) : vint1 [.bool a] = .ok (.int (if a then 1 else 0)) := rfl
@[simp] theorem vabs_int (a : Int) : vabs [.int a] = .ok (.int (if a < 0 then -a else a)) := rfl
@[simp] theorem vlen_list (a : List PyData) : vlen [.list a] = .ok (.int a.length) := rfl
@[simp] theorem vlen_tuple (a : List PyData) : vlen [.tuple a] = .ok (.int a.length) := rfl
@[simp] theorem vtuple1_list (a : List PyData) : vtuple1 [.list a] = .ok (.tuple a) := rfl
@[simp] theorem vtuple1_tuple (a : List PyData) : vtuple1 [.tuple a] = .ok (.tuple a) := rfl
@[simp] theorem vlist1_list (a : List PyData) : vlist1 [.list a] = .ok (.list a) := rfl
@[simp] theorem vlist1_tuple (a : List PyData) : vlist1 [.tuple a] = .ok (.list a) := rfl
@[simp] theorem vmax_two (i j : Int) : vmax [.int i, .int j] = .ok (.int (if j > i then j else i)) := rfl
@[simp] theorem vmin_two (i j : Int) : vmin [.int i, .int j] = .ok (.int (if j < i then j else i)) := rfl
@[simp] theorem vtruth_int (i : Int) : vtruth (.int i) = .ok (i != 0) := rfl
@[simp] theorem vtruth_bool (i : Bool) : vtruth (.bool i) = .ok i := rfl
@[simp] theorem vtruth_none : vtruth .none = .ok false := rfl
@[simp] theorem vtruth_list (i : List PyData) : vtruth (.list i) = .ok (!i.isEmpty) := rfl
@[simp] theorem vtruth_tuple (i : List PyData) : vtruth (.tuple i) = .ok (!i.isEmpty) := rfl
@[simp] theorem visnone_none : visnone .none = .ok (.bool true) := rfl
@[simp] theorem visnone_bool (b : Bool) : visnone (.bool b) = .ok (.bool false) := rfl
@[simp] theorem visnone_int (b : Int) : visnone (.int b) = .ok (.bool false) := rfl
@[simp] theorem visnone_str (b : Str) : visnone (.str b) = .ok (.bool false) := rfl
@[simp] theorem visnone_list (b : List PyData) : visnone (.list b) = .ok (.bool false) := rfl
@[simp] theorem visnone_tuple (b : List PyData) : visnone (.tuple b) = .ok (.bool false) := rfl
@[simp] theorem vrange1_int (j : Int) : vrange1 (.int j) = if rngOk 0 j then .ok (rangeD 0 j.toNat) else .stuck := rfl
@[simp] theorem vrange2_int (i j : Int) : vrange2 (.int i) (.int j) = if rngOk i j then .ok (rangeD i (j - i).toNat) else .stuck := rfl
@[simp] theorem venum_list (xs : List PyData) : venum (.list xs) = .ok (enumD xs) := rfl
@[simp] theorem vzip_list (xs ys : List PyData) : vzip (.list xs) (.list ys) = .ok (zipD xs ys) := rfl
@[simp] theorem vrev_list (xs : List PyData) : vrev (.list xs) = .ok xs.reverse := rfl
@[simp] theorem visi_int_none  : visi "int" .none = .ok (.bool false) := rfl
@[simp] theorem visi_int_bool (b : Bool) : visi "int" (.bool b) = .ok (.bool true) := rfl
@[simp] theorem visi_int_int (b : Int) : visi "int" (.int b) = .ok (.bool true) := rfl
@[simp] theorem visi_int_str (b : Str) : visi "int" (.str b) = .ok (.bool false) := rfl
@[simp] theorem visi_int_list (b : List PyData) : visi "int" (.list b) = .ok (.bool false) := rfl
@[simp] theorem visi_int_tuple (b : List PyData) : visi "int" (.tuple b) = .ok (.bool false) := rfl
@[simp] theorem visi_bool_none  : visi "bool" .none = .ok (.bool false) := rfl
@[simp] theorem visi_bool_bool (b : Bool) : visi "bool" (.bool b) = .ok (.bool true) := rfl
@[simp] theorem visi_bool_int (b : Int) : visi "bool" (.int b) = .ok (.bool false) := rfl
@[simp] theorem visi_bool_str (b : Str) : visi "bool" (.str b) = .ok (.bool false) := rfl
@[simp] theorem visi_bool_list (b : List PyData) : visi "bool" (.list b) = .ok (.bool false) := rfl
@[simp] theorem visi_bool_tuple (b : List PyData) : visi "bool" (.tuple b) = .ok (.bool false) := rfl
@[simp] theorem visi_str_none  : visi "str" .none = .ok (.bool false) := rfl
@[simp] theorem visi_str_bool (b : Bool) : visi "str" (.bool b) = .ok (.bool false) := rfl
@[simp] theorem visi_str_int (b : Int) : visi "str" (.int b) = .ok (.bool false) := rfl
@[simp] theorem visi_str_str (b : Str) : visi "str" (.str b) = .ok (.bool true) := rfl
@[simp] theorem visi_str_list (b : List PyData) : visi "str" (.list b) = .ok (.bool false) := rfl
@[simp] theorem visi_str_tuple (b : List PyData) : visi "str" (.tuple b) = .ok (.bool false) := rfl
@[simp] theorem visi_list_none  : visi "list" .none = .ok (.bool false) := rfl
@[simp] theorem visi_list_bool (b : Bool) : visi "list" (.bool b) = .ok (.bool false) := rfl
@[simp] theorem visi_list_int (b : Int) : visi "list" (.int b) = .ok (.bool false) := rfl
@[simp] theorem visi_list_str (b : Str) : visi "list" (.str b) = .ok (.bool false) := rfl
@[simp] theorem visi_list_list (b : List PyData) : visi "list" (.list b) = .ok (.bool true) := rfl
@[simp] theorem visi_list_tuple (b : List PyData) : visi "list" (.tuple b) = .ok (.bool false) := rfl
@[simp] theorem visi_tuple_none  : visi "tuple" .none = .ok (.bool false) := rfl
@[simp] theorem visi_tuple_bool (b : Bool) : visi "tuple" (.bool b) = .ok (.bool false) := rfl
@[simp] theorem visi_tuple_int (b : Int) : visi "tuple" (.int b) = .ok (.bool false) := rfl
@[simp] theorem visi_tuple_str (b : Str) : visi "tuple" (.str b) = .ok (.bool false) := rfl
@[simp] theorem visi_tuple_list (b : List PyData) : visi "tuple" (.list b) = .ok (.bool false) := rfl
@[simp] theorem visi_tuple_tuple (b : List PyData) : visi "tuple" (.tuple b) = .ok (.bool true) := rfl
@[simp] theorem vVar_0 (d : PyData) (ρ : PEnv) : vVar 0 (some d :: ρ) = .ok d := rfl
@[simp] theorem vVar_1 (x0 : Option PyData) (d : PyData) (ρ : PEnv) : vVar 1 (x0 :: some d :: ρ) = .ok d := rfl
@[simp] theorem vVar_2 (x0 x1 : Option PyData) (d : PyData) (ρ : PEnv) : vVar 2 (x0 :: x1 :: some d :: ρ) = .ok d := rfl
@[simp] theorem vVar_3 (x0 x1 x2 : Option PyData) (d : PyData) (ρ : PEnv) : vVar 3 (x0 :: x1 :: x2 :: some d :: ρ) = .ok d := rfl
@[simp] theorem vVar_4 (x0 x1 x2 x3 : Option PyData) (d : PyData) (ρ : PEnv) : vVar 4 (x0 :: x1 :: x2 :: x3 :: some d :: ρ) = .ok d := rfl
@[simp] theorem vVar_5 (x0 x1 x2 x3 x4 : Option PyData) (d : PyData) (ρ : PEnv) : vVar 5 (x0 :: x1 :: x2 :: x3 :: x4 :: some d :: ρ) = .ok d := rfl
@[simp] theorem vVar_6 (x0 x1 x2 x3 x4 x5 : Option PyData) (d : PyData) (ρ : PEnv) : vVar 6 (x0 :: x1 :: x2 :: x3 :: x4 :: x5 :: some d :: ρ) = .ok d := rfl
@[simp] theorem vVar_7 (x0 x1 x2 x3 x4 x5 x6 : Option PyData) (d : PyData) (ρ : PEnv) : vVar 7 (x0 :: x1 :: x2 :: x3 :: x4 :: x5 :: x6 :: some d :: ρ) = .ok d := rfl
@[simp] theorem vVar_8 (x0 x1 x2 x3 x4 x5 x6 x7 : Option PyData) (d : PyData) (ρ : PEnv) : vVar 8 (x0 :: x1 :: x2 :: x3 :: x4 :: x5 :: x6 :: x7 :: some d :: ρ) = .ok d := rfl
@[simp] theorem vVar_9 (x0 x1 x2 x3 x4 x5 x6 x7 x8 : Option PyData) (d : PyData) (ρ : PEnv) : vVar 9 (x0 :: x1 :: x2 :: x3 :: x4 :: x5 :: x6 :: x7 :: x8 :: some d :: ρ) = .ok d := rfl
@[simp] theorem vVar_10 (x0 x1 x2 x3 x4 x5 x6 x7 x8 x9 : Option PyData) (d : PyData) (ρ : PEnv) : vVar 10 (x0 :: x1 :: x2 :: x3 :: x4 :: x5 :: x6 :: x7 :: x8 :: x9 :: some d :: ρ) = .ok d := rfl
@[simp] theorem vVar_11 (x0 x1 x2 x3 x4 x5 x6 x7 x8 x9 x10 : Option PyData) (d : PyData) (ρ : PEnv) : vVar 11 (x0 :: x1 :: x2 :: x3 :: x4 :: x5 :: x6 :: x7 :: x8 :: x9 :: x10 :: some d :: ρ) = .ok d := rfl
@[simp] theorem vVar_12 (x0 x1 x2 x3 x4 x5 x6 x7 x8 x9 x10 x11 : Option PyData) (d : PyData) (ρ : PEnv) : vVar 12 (x0 :: x1 :: x2 :: x3 :: x4 :: x5 :: x6 :: x7 :: x8 :: x9 :: x10 :: x11 :: some d :: ρ) = .ok d := rfl
@[simp] theorem vVar_13 (x0 x1 x2 x3 x4 x5 x6 x7 x8 x9 x10 x11 x12 : Option PyData) (d : PyData) (ρ : PEnv) : vVar 13 (x0 :: x1 :: x2 :: x3 :: x4 :: x5 :: x6 :: x7 :: x8 :: x9 :: x10 :: x11 :: x12 :: some d :: ρ) = .ok d := rfl
@[simp] theorem vVar_14 (x0 x1 x2 x3 x4 x5 x6 x7 x8 x9 x10 x11 x12 x13 : Option PyData) (d : PyData) (ρ : PEnv) : vVar 14 (x0 :: x1 :: x2 :: x3 :: x4 :: x5 :: x6 :: x7 :: x8 :: x9 :: x10 :: x11 :: x12 :: x13 :: some d :: ρ) = .ok d := rfl
@[simp] theorem vVar_15 (x0 x1 x2 x3 x4 x5 x6 x7 x8 x9 x10 x11 x12 x13 x14 : Option PyData) (d : PyData) (ρ : PEnv) : vVar 15 (x0 :: x1 :: x2 :: x3 :: x4 :: x5 :: x6 :: x7 :: x8 :: x9 :: x10 :: x11 :: x12 :: x13 :: x14 :: some d :: ρ) = .ok d := rfl
@[simp] theorem vVar_16 (x0 x1 x2 x3 x4 x5 x6 x7 x8 x9 x10 x11 x12 x13 x14 x15 : Option PyData) (d : PyData) (ρ : PEnv) : vVar 16 (x0 :: x1 :: x2 :: x3 :: x4 :: x5 :: x6 :: x7 :: x8 :: x9 :: x10 :: x11 :: x12 :: x13 :: x14 :: x15 :: some d :: ρ) = .ok d := rfl
@[simp] theorem vVar_17 (x0 x1 x2 x3 x4 x5 x6 x7 x8 x9 x10 x11 x12 x13 x14 x15 x16 : Option PyData) (d : PyData) (ρ : PEnv) : vVar 17 (x0 :: x1 :: x2 :: x3 :: x4 :: x5 :: x6 :: x7 :: x8 :: x9 :: x10 :: x11 :: x12 :: x13 :: x14 :: x15 :: x16 :: some d :: ρ) = .ok d := rfl
@[simp] theorem vVar_18 (x0 x1 x2 x3 x4 x5 x6 x7 x8 x9 x10 x11 x12 x13 x14 x15 x16 x17 : Option PyData) (d : PyData) (ρ : PEnv) : vVar 18 (x0 :: x1 :: x2 :: x3 :: x4 :: x5 :: x6 :: x7 :: x8 :: x9 :: x10 :: x11 :: x12 :: x13 :: x14 :: x15 :: x16 :: x17 :: some d :: ρ) = .ok d := rfl
@[simp] theorem vVar_19 (x0 x1 x2 x3 x4 x5 x6 x7 x8 x9 x10 x11 x12 x13 x14 x15 x16 x17 x18 : Option PyData) (d : PyData) (ρ : PEnv) : vVar 19 (x0 :: x1 :: x2 :: x3 :: x4 :: x5 :: x6 :: x7 :: x8 :: x9 :: x10 :: x11 :: x12 :: x13 :: x14 :: x15 :: x16 :: x17 :: x18 :: some d :: ρ) = .ok d := rfl
@[simp] theorem vVar_20 (x0 x1 x2 x3 x4 x5 x6 x7 x8 x9 x10 x11 x12 x13 x14 x15 x16 x17 x18 x19 : Option PyData) (d : PyData) (ρ : PEnv) : vVar 20 (x0 :: x1 :: x2 :: x3 :: x4 :: x5 :: x6 :: x7 :: x8 :: x9 :: x10 :: x11 :: x12 :: x13 :: x14 :: x15 :: x16 :: x17 :: x18 :: x19 :: some d :: ρ) = .ok d := rfl
@[simp] theorem vVar_21 (x0 x1 x2 x3 x4 x5 x6 x7 x8 x9 x10 x11 x12 x13 x14 x15 x16 x17 x18 x19 x20 : Option PyData) (d : PyData) (ρ : PEnv) : vVar 21 (x0 :: x1 :: x2 :: x3 :: x4 :: x5 :: x6 :: x7 :: x8 :: x9 :: x10 :: x11 :: x12 :: x13 :: x14 :: x15 :: x16 :: x17 :: x18 :: x19 :: x20 :: some d :: ρ) = .ok d := rfl
@[simp] theorem vVar_22 (x0 x1 x2 x3 x4 x5 x6 x7 x8 x9 x10 x11 x12 x13 x14 x15 x16 x17 x18 x19 x20 x21 : Option PyData) (d : PyData) (ρ : PEnv) : vVar 22 (x0 :: x1 :: x2 :: x3 :: x4 :: x5 :: x6 :: x7 :: x8 :: x9 :: x10 :: x11 :: x12 :: x13 :: x14 :: x15 :: x16 :: x17 :: x18 :: x19 :: x20 :: x21 :: some d :: ρ) = .ok d := rfl
@[simp] theorem vVar_23 (x0 x1 x2 x3 x4 x5 x6 x7 x8 x9 x10 x11 x12 x13 x14 x15 x16 x17 x18 x19 x20 x21 x22 : Option PyData) (d : PyData) (ρ : PEnv) : vVar 23 (x0 :: x1 :: x2 :: x3 :: x4 :: x5 :: x6 :: x7 :: x8 :: x9 :: x10 :: x11 :: x12 :: x13 :: x14 :: x15 :: x16 :: x17 :: x18 :: x19 :: x20 :: x21 :: x22 :: some d :: ρ) = .ok d := rfl
@[simp] theorem vVar_24 (x0 x1 x2 x3 x4 x5 x6 x7 x8 x9 x10 x11 x12 x13 x14 x15 x16 x17 x18 x19 x20 x21 x22 x23 : Option PyData) (d : PyData) (ρ : PEnv) : vVar 24 (x0 :: x1 :: x2 :: x3 :: x4 :: x5 :: x6 :: x7 :: x8 :: x9 :: x10 :: x11 :: x12 :: x13 :: x14 :: x15 :: x16 :: x17 :: x18 :: x19 :: x20 :: x21 :: x22 :: x23 :: some d :: ρ) = .ok d := rfl
@[simp] theorem vVar_25 (x0 x1 x2 x3 x4 x5 x6 x7 x8 x9 x10 x11 x12 x13 x14 x15 x16 x17 x18 x19 x20 x21 x22 x23 x24 : Option PyData) (d : PyData) (ρ : PEnv) : vVar 25 (x0 :: x1 :: x2 :: x3 :: x4 :: x5 :: x6 :: x7 :: x8 :: x9 :: x10 :: x11 :: x12 :: x13 :: x14 :: x15 :: x16 :: x17 :: x18 :: x19 :: x20 :: x21 :: x22 :: x23 :: x24 :: some d :: ρ) = .ok d := rfl
@[simp] theorem vVar_26 (x0 x1 x2 x3 x4 x5 x6 x7 x8 x9 x10 x11 x12 x13 x14 x15 x16 x17 x18 x19 x20 x21 x22 x23 x24 x25 : Option PyData) (d : PyData) (ρ : PEnv) : vVar 26 (x0 :: x1 :: x2 :: x3 :: x4 :: x5 :: x6 :: x7 :: x8 :: x9 :: x10 :: x11 :: x12 :: x13 :: x14 :: x15 :: x16 :: x17 :: x18 :: x19 :: x20 :: x21 :: x22 :: x23 :: x24 :: x25 :: some d :: ρ) = .ok d := rfl
@[simp] theorem vVar_27 (x0 x1 x2 x3 x4 x5 x6 x7 x8 x9 x10 x11 x12 x13 x14 x15 x16 x17 x18 x19 x20 x21 x22 x23 x24 x25 x26 : Option PyData) (d : PyData) (ρ : PEnv) : vVar 27 (x0 :: x1 :: x2 :: x3 :: x4 :: x5 :: x6 :: x7 :: x8 :: x9 :: x10 :: x11 :: x12 :: x13 :: x14 :: x15 :: x16 :: x17 :: x18 :: x19 :: x20 :: x21 :: x22 :: x23 :: x24 :: x25 :: x26 :: some d :: ρ) = .ok d := rfl
@[simp] theorem vVar_28 (x0 x1 x2 x3 x4 x5 x6 x7 x8 x9 x10 x11 x12 x13 x14 x15 x16 x17 x18 x19 x20 x21 x22 x23 x24 x25 x26 x27 : Option PyData) (d : PyData) (ρ : PEnv) : vVar 28 (x0 :: x1 :: x2 :: x3 :: x4 :: x5 :: x6 :: x7 :: x8 :: x9 :: x10 :: x11 :: x12 :: x13 :: x14 :: x15 :: x16 :: x17 :: x18 :: x19 :: x20 :: x21 :: x22 :: x23 :: x24 :: x25 :: x26 :: x27 :: some d :: ρ) = .ok d := rfl
@[simp] theorem vVar_29 (x0 x1 x2 x3 x4 x5 x6 x7 x8 x9 x10 x11 x12 x13 x14 x15 x16 x17 x18 x19 x20 x21 x22 x23 x24 x25 x26 x27 x28 : Option PyData) (d : PyData) (ρ : PEnv) : vVar 29 (x0 :: x1 :: x2 :: x3 :: x4 :: x5 :: x6 :: x7 :: x8 :: x9 :: x10 :: x11 :: x12 :: x13 :: x14 :: x15 :: x16 :: x17 :: x18 :: x19 :: x20 :: x21 :: x22 :: x23 :: x24 :: x25 :: x26 :: x27 :: x28 :: some d :: ρ) = .ok d := rfl
/-! ### sizes of ints -/
def Sm (n : Nat) (a : Int) : Prop := a.natAbs < 2 ^ n
theorem Sm.mono {m n : Nat} {a : Int} (h : Sm m a) (l : m ≤ n) : Sm n a := Nat.lt_of_lt_of_le h (Nat.pow_le_pow_right (by omega) l)
theorem Sm.neg {n : Nat} {a : Int} (h : Sm n a) : Sm n (-a) := by unfold Sm at *; rw [Int.natAbs_neg]; exact h
theorem Sm.add {m : Nat} {a b : Int} (h : Sm m a) (g : Sm m b) : Sm (m + 1) (a + b) := by
  unfold Sm at *
  rw [Nat.pow_succ]
  have := Int.natAbs_add_le a b
  omega
theorem Sm.sub {m : Nat} {a b : Int} (h : Sm m a) (g : Sm m b) : Sm (m + 1) (a - b) := by
  rw [Int.sub_eq_add_neg]; exact h.add g.neg
theorem Sm.mul {m n : Nat} {a b : Int} (h : Sm m a) (g : Sm n b) : Sm (m + n) (a * b) := by
  unfold Sm at *
  rw [Int.natAbs_mul, Nat.pow_add]
  exact Nat.mul_lt_mul'' h g
theorem Sm.bits {n : Nat} {a : Int} (h : Sm n a) : Builtin.Int.intBits a ≤ n := by
  unfold Builtin.Int.intBits
  split
  · omega
  · rename_i h0
    have h1 : a.natAbs ≠ 0 := fun z => h0 (by simp; omega)
    have := (Nat.log2_lt h1).mpr h
    omega
theorem Sm.mulOk {m n : Nat} {a b : Int} (h : Sm m a) (g : Sm n b) (l : m + n ≤ 134217728 := by decide) : IntMulOk a b := by
  have h1 := h.bits
  have h2 := g.bits
  unfold IntMulOk Builtin.Int.intTooBig
  intro z
  rw [Bool.and_eq_true] at z
  have z2 := of_decide_eq_true z.2
  have : (bitsLine : Int) = 134217728 := by unfold bitsLine; decide
  omega
theorem vmul_sm {m n : Nat} {a b : Int} (h : Sm m a) (g : Sm n b) (l : m + n ≤ 134217728 := by decide) : vmul (.int a) (.int b) = .ok (.int (a * b)) := vmul_int (h.mulOk g l)
end VL

namespace VL
open PySem PySem.Spec PyProof.Rows
/-! ### items -/
theorem atI_nat {α : Type} (xs : List α) (k : Nat) : L2.atI xs (k : Int) = xs[k]? := by
  unfold L2.atI L2.ixN
  by_cases h : k < xs.length
  · simp [h]
  · simp [h]
theorem vidx_list {xs : List PyData} {k : Nat} {d : PyData} (h : xs[k]? = some d) : vidx (.list xs) (.int (k : Int)) = .ok d := by
  simp only [vidx, atI_nat, h]
theorem vidx_tuple {xs : List PyData} {k : Nat} {d : PyData} (h : xs[k]? = some d) : vidx (.tuple xs) (.int (k : Int)) = .ok d := by
  simp only [vidx, atI_nat, h]
@[simp] theorem vidx_list_0 (a : PyData) (xs : List PyData) : vidx (.list (a :: xs)) (.int 0) = .ok a := vidx_list (k := 0) rfl
@[simp] theorem vidx_list_1 (a b : PyData) (xs : List PyData) : vidx (.list (a :: b :: xs)) (.int 1) = .ok b := vidx_list (k := 1) rfl
@[simp] theorem vidx_list_2 (a b c : PyData) (xs : List PyData) : vidx (.list (a :: b :: c :: xs)) (.int 2) = .ok c := vidx_list (k := 2) rfl
@[simp] theorem vidx_list_3 (a b c d : PyData) (xs : List PyData) : vidx (.list (a :: b :: c :: d :: xs)) (.int 3) = .ok d := vidx_list (k := 3) rfl
@[simp] theorem vidx_list_4 (a b c d e : PyData) (xs : List PyData) : vidx (.list (a :: b :: c :: d :: e :: xs)) (.int 4) = .ok e := vidx_list (k := 4) rfl
@[simp] theorem vidx_list_5 (a b c d e f : PyData) (xs : List PyData) : vidx (.list (a :: b :: c :: d :: e :: f :: xs)) (.int 5) = .ok f := vidx_list (k := 5) rfl
@[simp] theorem vidx_tuple_0 (a : PyData) (xs : List PyData) : vidx (.tuple (a :: xs)) (.int 0) = .ok a := vidx_tuple (k := 0) rfl
@[simp] theorem vidx_tuple_1 (a b : PyData) (xs : List PyData) : vidx (.tuple (a :: b :: xs)) (.int 1) = .ok b := vidx_tuple (k := 1) rfl
@[simp] theorem vidx_tuple_2 (a b c : PyData) (xs : List PyData) : vidx (.tuple (a :: b :: c :: xs)) (.int 2) = .ok c := vidx_tuple (k := 2) rfl
@[simp] theorem vidx_tuple_3 (a b c d : PyData) (xs : List PyData) : vidx (.tuple (a :: b :: c :: d :: xs)) (.int 3) = .ok d := vidx_tuple (k := 3) rfl
@[simp] theorem vidx_tuple_4 (a b c d e : PyData) (xs : List PyData) : vidx (.tuple (a :: b :: c :: d :: e :: xs)) (.int 4) = .ok e := vidx_tuple (k := 4) rfl
/-! ### loops -/
theorem forL_nx {kt : PyData → R (List (Nat × PyData))} {kl : OEnv → OEnv} {gb : OEnv → SR} (P : Nat → OEnv → Prop) : ∀ (ds : List PyData) (j : Nat) (ρ : OEnv), P j ρ →
    (∀ i d ρ, ds[i]? = some d → P (j + i) ρ → ∃ bs ρ', kt d = .ok bs ∧ (gb (setsO ρ bs) = .nx ρ' ∨ gb (setsO ρ bs) = .ct ρ') ∧ P (j + i + 1) (kl ρ')) → ∃ ρ', forL kt kl gb ds ρ = .nx ρ' ∧ P (j + ds.length) ρ'
  | [], j, ρ, h, _ => ⟨ρ, rfl, h⟩
  | d :: ds, j, ρ, h, hs => by
    obtain ⟨bs, ρ', h1, h2, h3⟩ := hs 0 d ρ rfl h
    obtain ⟨ρ2, h4, h5⟩ := forL_nx P ds (j + 1) (kl ρ') h3 fun i d' ρ' hd hp => by
      have := hs (i + 1) d' ρ' (by simpa using hd) (by rw [show j + (i + 1) = j + 1 + i by omega]; exact hp)
      rw [show j + (i + 1) = j + 1 + i by omega] at this
      exact this
    refine ⟨ρ2, ?_, by rw [List.length_cons, show j + (ds.length + 1) = j + 1 + ds.length by omega]; exact h5⟩
    unfold forL
    rw [h1]
    rcases h2 with h2 | h2 <;> (simp only [h2]; exact h4)
theorem rangeD_get {lo : Int} {n i : Nat} {d : PyData} (h : (rangeD lo n)[i]? = some d) : i < n ∧ d = .int (lo + (i : Int)) := by
  have hi : i < n := by
    obtain ⟨q, _⟩ := List.getElem?_eq_some_iff.mp h
    rw [rangeD_len] at q; exact q
  rw [rangeD_at hi] at h
  cases h
  exact ⟨hi, rfl⟩
theorem rngOk_nat {n : Nat} (h : n ≤ 16777216) : rngOk 0 (n : Int) := by unfold rngOk; omega
@[simp] theorem vrange1_nat {n : Nat} (h : n ≤ 16777216) : vrange1 (.int (n : Int)) = .ok (rangeD 0 n) := by
  rw [vrange1_int, if_pos (rngOk_nat h)]; simp
theorem vmul_r {a b : Int} (h : Sm 64 b) : vmul (.int a) (.int b) = .ok (.int (a * b)) := vmul_int (IntMulOk.of_right h.bits)
theorem vmul_l {a b : Int} (h : Sm 64 a) : vmul (.int a) (.int b) = .ok (.int (a * b)) := vmul_int (IntMulOk.of_left h.bits)
theorem sm_of {n : Nat} {a : Int} (h : -(2 ^ n : Int) < a ∧ a < 2 ^ n) : Sm n a := by
  unfold Sm
  have e : ((2 ^ n : Nat) : Int) = 2 ^ n := by simp
  omega
theorem Sm.lit {n : Nat} {a : Int} (h : a.natAbs < 2 ^ n := by decide) : Sm n a := h
theorem szL : sizeLine = 16777216 := by with_unfolding_all rfl
end VL

namespace VL
open PySem PySem.Spec PyProof.Rows
@[simp] theorem gT_ap (k : List PyData → R (List (Nat × PyData))) (xs : List PyData) : gT k (.tuple xs) = k xs := rfl
@[simp] theorem gT_apL (k : List PyData → R (List (Nat × PyData))) (xs : List PyData) : gT k (.list xs) = k xs := rfl
@[simp] theorem gC_ap (g : PyData → R (List (Nat × PyData))) (h : List PyData → R (List (Nat × PyData))) (d : PyData) (ds : List PyData) : gC g h (d :: ds) = (g d).bind fun bs => (h ds).bind fun cs => .ok (bs ++ cs) := rfl
@[simp] theorem gE_ap : gE [] = .ok [] := rfl
/-! ### bounds found by instances -/
class Bd (a : Int) (n : outParam Nat) : Prop where
  h : Sm n a
instance bd_add {a b : Int} {m n : Nat} [ha : Bd a m] [hb : Bd b n] : Bd (a + b) (max m n + 1) := ⟨(ha.h.mono (Nat.le_max_left m n)).add (hb.h.mono (Nat.le_max_right m n))⟩
instance bd_sub {a b : Int} {m n : Nat} [ha : Bd a m] [hb : Bd b n] : Bd (a - b) (max m n + 1) := ⟨(ha.h.mono (Nat.le_max_left m n)).sub (hb.h.mono (Nat.le_max_right m n))⟩
instance bd_mul {a b : Int} {m n : Nat} [ha : Bd a m] [hb : Bd b n] : Bd (a * b) (m + n) := ⟨ha.h.mul hb.h⟩
instance bd_neg {a : Int} {m : Nat} [ha : Bd a m] : Bd (-a) m := ⟨ha.h.neg⟩
instance bd_ite {p : Prop} [Decidable p] {a b : Int} {m n : Nat} [ha : Bd a m] [hb : Bd b n] : Bd (if p then a else b) (max m n) := ⟨by
  split
  · exact ha.h.mono (Nat.le_max_left m n)
  · exact hb.h.mono (Nat.le_max_right m n)⟩
theorem bd_modl {a k : Int} {n : Nat} (h0 : 0 < k) (h : k < 2 ^ n) : Bd (a % k) n := ⟨by
  have a1 := Int.emod_nonneg a (b := k) (by omega)
  have a2 := Int.emod_lt_of_pos a h0
  exact sm_of ⟨by omega, by omega⟩⟩
@[simp] theorem vmul_bd {a b : Int} {m n : Nat} [ha : Bd a m] [hb : Bd b n] (h : m + n ≤ 134217728) : vmul (.int a) (.int b) = .ok (.int (a * b)) := vmul_sm ha.h hb.h h
theorem pick3 (x : Int) (P : PyData → Prop) {a b c : PyData} (ha : P a) (hb : P b) (hc : P c) : ∃ d, P d ∧ vidx (.list [a, b, c]) (.int (x % 3)) = .ok d := by
  have h1 := Int.emod_nonneg x (b := 3) (by omega)
  have h2 := Int.emod_lt_of_pos x (b := 3) (by omega)
  generalize x % 3 = y at h1 h2
  obtain rfl | rfl | rfl : y = 0 ∨ y = 1 ∨ y = 2 := by omega
  · exact ⟨a, ha, by simp⟩
  · exact ⟨b, hb, by simp⟩
  · exact ⟨c, hc, by simp⟩
theorem pick4 (x : Int) (P : PyData → Prop) {a b c e : PyData} (ha : P a) (hb : P b) (hc : P c) (he : P e) : ∃ d, P d ∧ vidx (.list [a, b, c, e]) (.int (x % 4)) = .ok d := by
  have h1 := Int.emod_nonneg x (b := 4) (by omega)
  have h2 := Int.emod_lt_of_pos x (b := 4) (by omega)
  generalize x % 4 = y at h1 h2
  obtain rfl | rfl | rfl | rfl : y = 0 ∨ y = 1 ∨ y = 2 ∨ y = 3 := by omega
  · exact ⟨a, ha, by simp⟩
  · exact ⟨b, hb, by simp⟩
  · exact ⟨c, hc, by simp⟩
  · exact ⟨e, he, by simp⟩
end VL

namespace VL
open PySem PySem.Spec PyProof.Rows
/-- data of a depth: no dict, texts and lists of a size -/
def okS : Nat → PyData → Prop
  | 0, _ => False
  | _ + 1, .none => True
  | _ + 1, .bool _ => True
  | _ + 1, .int _ => True
  | _ + 1, .str s => PyData.strOk s = true
  | n + 1, .list xs => xs.length ≤ 16777216 ∧ ∀ x ∈ xs, okS n x
  | n + 1, .tuple xs => xs.length ≤ 16777216 ∧ ∀ x ∈ xs, okS n x
  | _ + 1, .dict _ => False
theorem all_lay {n : Nat} (ih : ∀ {d : PyData}, okS n d → d.canLay0 = true ∧ d.depth ≤ n ∧ PyData.eqv d d = true) : ∀ ys : List PyData, (∀ x ∈ ys, okS n x) → PyData.canLayAll0 ys = true ∧ PyData.depthAll ys ≤ n ∧ PyData.eqvAll ys ys = true
  | [], _ => by simp [PyData.canLayAll0, PyData.depthAll, PyData.eqvAll]
  | y :: ys, hy => by
    have h1 := ih (hy y List.mem_cons_self)
    have h2 := all_lay ih ys fun x hx => hy x (List.mem_cons_of_mem _ hx)
    simp only [PyData.canLayAll0, PyData.depthAll, PyData.eqvAll, Bool.and_eq_true]
    exact ⟨⟨h1.1, h2.1⟩, by omega, h1.2.2, h2.2.2⟩
theorem okS.lay : ∀ {n : Nat} {d : PyData}, okS n d → d.canLay0 = true ∧ d.depth ≤ n ∧ PyData.eqv d d = true
  | 0, _, h => h.elim
  | n + 1, .none, _ => by simp [PyData.canLay0, PyData.depth, PyData.eqv]
  | n + 1, .bool _, _ => by simp [PyData.canLay0, PyData.depth, PyData.eqv]
  | n + 1, .int _, _ => by simp [PyData.canLay0, PyData.depth, PyData.eqv]
  | n + 1, .str s, h => by simp only [PyData.canLay0, PyData.depth, PyData.eqv]; exact ⟨h, Nat.zero_le _, by simp⟩
  | n + 1, .list xs, h => by
    have := all_lay (fun {d} => okS.lay (n := n) (d := d)) xs h.2
    simp only [PyData.canLay0, PyData.depth, PyData.eqv]
    exact ⟨this.1, by omega, this.2.2⟩
  | n + 1, .tuple xs, h => by
    have := all_lay (fun {d} => okS.lay (n := n) (d := d)) xs h.2
    simp only [PyData.canLay0, PyData.depth, PyData.eqv]
    exact ⟨this.1, by omega, this.2.2⟩
theorem okS.shaped {n : Nat} {d : PyData} (h : okS n d) (hn : n ≤ 64 := by decide) : SeqAt.shaped d = true := by
  have := h.lay
  unfold SeqAt.shaped
  rw [this.1, decide_eq_true (show d.depth ≤ 64 by omega)]
  rfl
theorem vEq_ok {m n : Nat} {d e : PyData} (h : okS m d) (g : okS n e) (hm : m ≤ 64 := by decide) (hn : n ≤ 64 := by decide) : vEq d e = .ok (PyData.eqv d e) := if_pos ⟨h.shaped hm, g.shaped hn⟩
theorem veq_ok {m n : Nat} {d e : PyData} (h : okS m d) (g : okS n e) (hm : m ≤ 64 := by decide) (hn : n ≤ 64 := by decide) : veq d e = .ok (.bool (PyData.eqv d e)) := by
  unfold veq; rw [vEq_ok h g hm hn]; rfl
theorem vne_ok {m n : Nat} {d e : PyData} (h : okS m d) (g : okS n e) (hm : m ≤ 64 := by decide) (hn : n ≤ 64 := by decide) : vne d e = .ok (.bool (!PyData.eqv d e)) := by
  unfold vne; rw [vEq_ok h g hm hn]; rfl
theorem vne_refl {n : Nat} {d : PyData} (h : okS n d) (hn : n ≤ 64 := by decide) : vne d d = .ok (.bool false) := by
  rw [vne_ok h h hn hn, h.lay.2.2]; rfl
theorem veq_refl {n : Nat} {d : PyData} (h : okS n d) (hn : n ≤ 64 := by decide) : veq d d = .ok (.bool true) := by
  rw [veq_ok h h hn hn, h.lay.2.2]
theorem vidx_list' {xs : List PyData} {j : Int} {k : Nat} {d : PyData} (hj : j = (k : Int)) (h : xs[k]? = some d) : vidx (.list xs) (.int j) = .ok d := by rw [hj]; exact vidx_list h
theorem vidx_tuple' {xs : List PyData} {j : Int} {k : Nat} {d : PyData} (hj : j = (k : Int)) (h : xs[k]? = some d) : vidx (.tuple xs) (.int j) = .ok d := by rw [hj]; exact vidx_tuple h
theorem vfdiv_pos {a b : Int} (h : 0 < b) (h2 : b < 2 ^ 250) : vfdiv (.int a) (.int b) = .ok (.int (a / b)) := if_pos ⟨h, h2⟩
@[simp] theorem veq_strS {a b : Str} (ha : PyData.strOk a = true) (hb : PyData.strOk b = true) : veq (.str a) (.str b) = .ok (.bool (decide (a = b))) := veq_str ha hb
@[simp] theorem vne_strS {a b : Str} (ha : PyData.strOk a = true) (hb : PyData.strOk b = true) : vne (.str a) (.str b) = .ok (.bool (!decide (a = b))) := vne_str ha hb
theorem ixN_nat {n j : Nat} (h : j < n) : L2.ixN n (j : Int) = some j := by unfold L2.ixN; simp [h]
/-- a comprehension item by item -/
theorem compL_rel {kt : PyData → R (List (Nat × PyData))} {ft : PEnv → R Bool} {fe : PEnv → R PyData} {ρ : PEnv} (S : Nat → PyData → Prop) : ∀ (ds : List PyData) (j : Nat),
    (∀ i d, ds[i]? = some d → ∃ bs y, kt d = .ok bs ∧ ft (setsD ρ bs) = .ok true ∧ fe (setsD ρ bs) = .ok y ∧ S (j + i) y) → ∃ ys, compL kt ft fe ρ ds = .ok ys ∧ ys.length = ds.length ∧ ∀ i y, ys[i]? = some y → S (j + i) y
  | [], j, _ => ⟨[], rfl, rfl, fun i y h => by simp at h⟩
  | d :: ds, j, h => by
    obtain ⟨bs, y, h1, h2, h3, h4⟩ := h 0 d rfl
    obtain ⟨ys, h5, h6, h7⟩ := compL_rel S ds (j + 1) fun i d' hd => by
      have := h (i + 1) d' (by simpa using hd)
      rw [show j + (i + 1) = j + 1 + i by omega] at this
      exact this
    refine ⟨y :: ys, ?_, by simp [h6], fun i z hz => ?_⟩
    · simp only [compL, h1, R.bind_ok, h2, h3, calm_okk, h5, if_true]
    · cases i with
      | zero => simp at hz; subst hz; exact h4
      | succ i =>
        have := h7 i z (by simpa using hz)
        rw [show j + (i + 1) = j + 1 + i by omega]
        exact this
@[simp] theorem vcomp_ap (own : List Nat) (fi : PEnv → R (List PyData)) (kt : PyData → R (List (Nat × PyData))) (ft : PEnv → R Bool) (fe : PEnv → R PyData) (ρ : PEnv) : vcomp own fi kt ft fe ρ = (fi ρ).bind fun ds => (compL kt ft fe (wipeD ρ own) ds).calm := rfl
@[simp] theorem vadd_list {xs ys : List PyData} (h : xs.length + ys.length ≤ 16777216) : vadd (.list xs) (.list ys) = .ok (.list (xs ++ ys)) := if_pos (by rw [szL]; exact h)
@[simp] theorem vadd_tuple {xs ys : List PyData} (h : xs.length + ys.length ≤ 16777216) : vadd (.tuple xs) (.tuple ys) = .ok (.tuple (xs ++ ys)) := if_pos (by rw [szL]; exact h)
end VL

namespace VL
open PySem PySem.Spec PyProof.Rows L2
/-! ### raise of an own class over ValueError, with a text -/
structure ExcF (K : PySem.W.Frag) (mg : Str → Option Value) (x : Str) (C : Addr) : Prop where
  xF : PySem.W.excIn K C [.type "ValueError", .type "Exception", .type "BaseException", .type "object"] "ValueError.__new__" = true
  gF : mg x = some (.ref C)
  kF : PySem.W.keepIn K (.ref C) = true
  bF : PySem.W.subIn K (.ref C) (.type "BaseException") = some true
  tF : PySem.W.typeIn K (.ref C) = some (.type "type")
def sRaise (c : Str) : OEnv → SR := fun ρ => .err c ρ
@[simp] theorem sRaise_ap (c : Str) (ρ : OEnv) : sRaise c ρ = .err c ρ := rfl
theorem vs_raise {X : Cx} {W : WX} {x m : Str} {j : Nat} {p p2 pos pos2 : Pos} {C : Addr} (hc : X.calm = true) (tk : Takes X W) (E : ExcF X.K X.mg x C) (hg : Gl X x := by rfl) (hdb : (x == ("__debug__" : Str)) = false := by decide) :
    VS X W (.Raise (some (.Call (.Name x p) [.Constant (.str m) j p2] [] pos)) none pos2) (sRaise x) := by
  refine ⟨_, ps_raise hc tk (pmk_own PySem.F.excBase_ValueError E.xF E.gF E.kF (raises_own E.bF E.tF) hg hdb), fun D σ H F0 H0 F ρ r pr => ?_⟩
  obtain ⟨C', e, w⟩ := pr σ H F r
  rw [E.gF] at e
  cases e
  exact w
end VL

namespace VL
open PySem PySem.Spec PyProof.Rows L2
/-! ### try: body, except C as e: suite -/
def tVS (X : Cx) (W : WX) (g : OEnv → SR) : TS := fun D σ H => ∃ F0 H0 F ρ, RS X.K F0 H0 F H σ ρ ∧ SPst X W F0 H0 D (g ρ)
theorem VSs.pss {X : Cx} {W : WX} {sts : List Stmt} {g : OEnv → SR} (h : VSs X W sts g) : PSs X sts (tVS X W g) := by
  obtain ⟨t, p, q⟩ := h.ex
  exact ⟨fun pins s σ H D I ⟨F0, H0, F, ρ, r, z⟩ => p.run pins s σ H D I (q D σ H F0 H0 F ρ r z)⟩
/-- the caught exception as data -/
def excD (a : Addr) (c : Str) : PyData := .dict [(.none, .int (a : Int)), (.none, .str c)]
/-- what comes out alike wherever the exception stands -/
noncomputable def anyA (g : Addr → SR) : SR := open Classical in if h : ∃ r, ∀ a, g a = r then Classical.choose h else .stuck
theorem anyA_eq {g : Addr → SR} {r : SR} (h : ∀ a, g a = r) : anyA g = r := by
  unfold anyA
  have ex : ∃ r, ∀ a, g a = r := ⟨r, h⟩
  rw [dif_pos ex]
  exact (Classical.choose_spec ex 0).symm.trans (h 0)
theorem anyA_at {g : Addr → SR} (h : anyA g ≠ .stuck) (a : Addr) : g a = anyA g := by
  unfold anyA at h ⊢
  split at h
  · rename_i ex
    rw [dif_pos ex]
    exact Classical.choose_spec ex a
  · exact absurd rfl h
/-- the clause's name goes -/
def SR.unset (i : Nat) : SR → SR
  | .nx ρ => .nx (ρ.set i none)
  | .bk ρ => .bk (ρ.set i none)
  | .ct ρ => .ct (ρ.set i none)
  | .rt o _ => .rt o []
  | _ => .stuck
@[simp] theorem unset_nx (i : Nat) (ρ : OEnv) : SR.unset i (.nx ρ) = .nx (ρ.set i none) := rfl
@[simp] theorem unset_bk (i : Nat) (ρ : OEnv) : SR.unset i (.bk ρ) = .bk (ρ.set i none) := rfl
@[simp] theorem unset_ct (i : Nat) (ρ : OEnv) : SR.unset i (.ct ρ) = .ct (ρ.set i none) := rfl
@[simp] theorem unset_rt (i : Nat) (o : O) (ρ : OEnv) : SR.unset i (.rt o ρ) = .rt o [] := rfl
/-- what the body's exception comes to -/
noncomputable def catchA (tb : Str → Option Bool) (i : Nat) (gs : Addr → Str → OEnv → SR) : SR → SR
  | .err c ρ => match tb c with
    | some true => anyA fun a => (gs a c (ρ.set i (some (.fz (excD a c))))).unset i
    | some false => .err c ρ
    | none => .stuck
  | r => r
noncomputable def sTryAs (gb : OEnv → SR) (tb : Str → Option Bool) (i : Nat) (gs : Addr → Str → OEnv → SR) : OEnv → SR := fun ρ => catchA tb i gs (gb ρ)
@[simp] theorem sTryAs_ap (gb : OEnv → SR) (tb : Str → Option Bool) (i : Nat) (gs : Addr → Str → OEnv → SR) (ρ : OEnv) : sTryAs gb tb i gs ρ = catchA tb i gs (gb ρ) := rfl
@[simp] theorem catchA_nx (tb : Str → Option Bool) (i : Nat) (gs : Addr → Str → OEnv → SR) (ρ : OEnv) : catchA tb i gs (.nx ρ) = .nx ρ := rfl
@[simp] theorem catchA_rt (tb : Str → Option Bool) (i : Nat) (gs : Addr → Str → OEnv → SR) (o : O) (ρ : OEnv) : catchA tb i gs (.rt o ρ) = .rt o ρ := rfl
@[simp] theorem catchA_ct (tb : Str → Option Bool) (i : Nat) (gs : Addr → Str → OEnv → SR) (ρ : OEnv) : catchA tb i gs (.ct ρ) = .ct ρ := rfl
@[simp] theorem catchA_bk (tb : Str → Option Bool) (i : Nat) (gs : Addr → Str → OEnv → SR) (ρ : OEnv) : catchA tb i gs (.bk ρ) = .bk ρ := rfl
theorem catchA_hit {tb : Str → Option Bool} {i : Nat} {gs : Addr → Str → OEnv → SR} {c : Str} {ρ : OEnv} {r : SR} (h : tb c = some true) (e : ∀ a, (gs a c (ρ.set i (some (.fz (excD a c))))).unset i = r) : catchA tb i gs (.err c ρ) = r := by
  simp only [catchA, h]
  exact anyA_eq e
/-- a handler's class, and which classes it takes -/
structure HTab (K : PySem.W.Frag) (mg : Str → Option Value) (x : Str) (tb : Str → Option Bool) : Prop where
  ex : ∃ c, mg x = some c ∧ ∀ cn b, tb cn = some b → ∃ C, mg cn = some (.ref C) ∧ PySem.W.exmOne K (.ref C) c = some b
theorem RS.dropN {K : PySem.W.Frag} {F0 H0 F H : Hp} {σ : L2.St} {ρ : OEnv} (r : RS K F0 H0 F H σ ρ) (i : Nat) : RS K F0 H0 F H (σ.set i none) (ρ.set i none) := by
  obtain ⟨fps, s, hs⟩ := r.ex
  obtain ⟨fpr, z1, z2⟩ := s.drop i none
  exact ⟨fpr, z1, hs.sub z2⟩
theorem RS.only {K : PySem.W.Frag} {F0 H0 F H : Hp} {σ : L2.St} {ρ : OEnv} {v : V} {o : O} (r : RS K F0 H0 F H (some v :: σ) (some o :: ρ)) : RS K F0 H0 F H [some v] [some o] := by
  obtain ⟨fp, h1, h2⟩ := r.head
  exact ⟨fp ++ [], .ow h1 .nil, by rw [List.append_nil]; exact h2⟩
section
variable {X : Cx} {W : WX} {body suite : List Stmt} {b₀ : Stmt} {np pos pos' : Pos} {x n : Str} {gb : OEnv → SR} {gs : Addr → Str → OEnv → SR} {tb : Str → Option Bool}
theorem vs_tryAs (i : Nat) (hs : X.stack = X.env :: X.outer) (hf : X.env.frame = some X.env.locals) (hN : X.N.Nodup) (tk : Takes X W) (T : HTab X.K X.mg x tb)
    (hb : ∀ (W' : WX) (pn : List (Addr × Obj)) (xe : Value → Shared → Prop), Takes (X.tr pn xe) W' → PassesOwn (model X.prog X.w) X.A X.env xe → VSs (X.tr pn xe) W' body gb)
    (hsu : ∀ (a : Addr) (oe : Obj) (cn : Str) (C : Addr) (pn : List (Addr × Obj)), X.mg cn = some (.ref C) → Zc (.ref C) none oe → (∃ vs, oe.data = .fields vs) → VSs (X.suite a ((a, oe) :: pn)) W0 (b₀ :: suite) (gs a cn))
    (hi : X.N[i]? = some n := by rfl) (hln : X.env.kindOf n = some .local := by rfl) (hg : Gl X x := by rfl) (hdb : (x == ("__debug__" : Str)) = false := by decide) :
    VS X W (.Try body [.ExceptHandler (some (.Name x np)) (some n) (b₀ :: suite) pos'] [] [] pos) (sTryAs gb tb i gs) := by
  obtain ⟨c, hm, tab⟩ := T.ex
  refine ⟨_, ps_try_as (c := c) (i := i) (tb := fun W' => tVS X W' gb) (ts := fun a cls d => fun D σ H => ∃ cn C, cls = .ref C ∧ d = none ∧ X.mg cn = some (.ref C) ∧ tVS X W0 (gs a cn) D σ H) (Wout := W) hs hf hN hi hln ⟨hg, hdb, .inl hm⟩ tk
    (fun W' pn xe tk' hp => (hb W' pn xe tk' hp).pss) (fun a oe cls d pn hz hfd => ⟨fun pins s σ H D I ⟨cn, C, e1, e2, hmc, h⟩ => by
      subst e1 e2
      exact (hsu a oe cn C pn hmc hz hfd).pss.run pins s σ H D I h⟩), fun D σ H F0 H0 F ρ r pr => ?_⟩
  refine ⟨F0, H0, F, ρ, r, ?_⟩
  unfold sTryAs at pr
  generalize gb ρ = rr at pr ⊢
  cases rr with
  | stuck => exact pr
  | nx ρ' => exact pr
  | bk ρ' => exact pr
  | ct ρ' => exact pr
  | rt o _ => exact pr
  | err cn ρ' =>
    intro σ' H' F' r'
    simp only [catchA] at pr
    cases ht : tb cn with
    | none => rw [ht] at pr; exact pr.elim
    | some b =>
      obtain ⟨C, hC, he⟩ := tab cn b ht
      rw [ht] at pr
      cases b with
      | false =>
        obtain ⟨C', hC', hw⟩ := pr σ' H' F' r'
        exact ⟨C', hC', false, by rw [hC] at hC'; cases hC'; exact he, fun z => (nomatch z), fun _ => hw⟩
      | true =>
        refine ⟨C, hC, true, he, fun _ a na => ⟨cn, C, rfl, rfl, hC, F0, H0, F', _, (r'.consFz (.exc a cn)).put i, ?_⟩, fun z => (nomatch z)⟩
        have ns : anyA (fun a => (gs a cn (ρ'.set i (some (.fz (excD a cn))))).unset i) ≠ .stuck := fun z => by
          simp only [] at pr
          rw [z] at pr
          exact pr
        have ea := anyA_at ns a
        simp only [] at pr
        rw [← ea] at pr
        simp only [excD] at pr
        generalize gs a cn (ρ'.set i (some (.fz (.dict [(.none, .int (a : Int)), (.none, .str cn)])))) = rs at pr ⊢
        cases rs with
        | stuck => exact pr.elim
        | err c ρ => exact pr.elim
        | nx ρ3 => exact fun σ3 H3 F3 r3 => pr _ _ _ (r3.dropN i)
        | bk ρ3 => exact fun σ3 H3 F3 r3 => pr _ _ _ (r3.dropN i)
        | ct ρ3 => exact fun σ3 H3 F3 r3 => pr _ _ _ (r3.dropN i)
        | rt o _ => exact fun v σ3 H3 F3 r3 => pr v [] _ _ r3.only
/-- try: body, except C: suite -/
noncomputable def catchO (tb : Str → Option Bool) (gs : OEnv → SR) : SR → SR
  | .err c ρ => match tb c with
    | some true => (match gs ρ with
      | .err _ _ => .stuck
      | r => r)
    | some false => .err c ρ
    | none => .stuck
  | r => r
noncomputable def sTryO (gb : OEnv → SR) (tb : Str → Option Bool) (gs : OEnv → SR) : OEnv → SR := fun ρ => catchO tb gs (gb ρ)
@[simp] theorem sTryO_ap (gb : OEnv → SR) (tb : Str → Option Bool) (gs : OEnv → SR) (ρ : OEnv) : sTryO gb tb gs ρ = catchO tb gs (gb ρ) := rfl
@[simp] theorem catchO_nx (tb : Str → Option Bool) (gs : OEnv → SR) (ρ : OEnv) : catchO tb gs (.nx ρ) = .nx ρ := rfl
@[simp] theorem catchO_rt (tb : Str → Option Bool) (gs : OEnv → SR) (o : O) (ρ : OEnv) : catchO tb gs (.rt o ρ) = .rt o ρ := rfl
@[simp] theorem catchO_ct (tb : Str → Option Bool) (gs : OEnv → SR) (ρ : OEnv) : catchO tb gs (.ct ρ) = .ct ρ := rfl
@[simp] theorem catchO_bk (tb : Str → Option Bool) (gs : OEnv → SR) (ρ : OEnv) : catchO tb gs (.bk ρ) = .bk ρ := rfl
theorem catchO_hit {tb : Str → Option Bool} {gs : OEnv → SR} {c : Str} {ρ : OEnv} (h : tb c = some true) : catchO tb gs (.err c ρ) = match gs ρ with | .err _ _ => .stuck | r => r := by
  simp only [catchO, h]
theorem vs_tryO {gs : OEnv → SR} (hs : X.stack = X.env :: X.outer) (hf : X.env.frame = some X.env.locals) (tk : Takes X W) (T : HTab X.K X.mg x tb)
    (hb : ∀ (W' : WX) (pn : List (Addr × Obj)) (xe : Value → Shared → Prop), Takes (X.tr pn xe) W' → PassesOwn (model X.prog X.w) X.A X.env xe → VSs (X.tr pn xe) W' body gb)
    (hsu : ∀ (a : Addr) (oe : Obj) (pn : List (Addr × Obj)), VSs (X.suite a ((a, oe) :: pn)) W0 (b₀ :: suite) gs)
    (hg : Gl X x := by rfl) (hdb : (x == ("__debug__" : Str)) = false := by decide) :
    VS X W (.Try body [.ExceptHandler (some (.Name x np)) none (b₀ :: suite) pos'] [] [] pos) (sTryO gb tb gs) := by
  obtain ⟨c, hm, tab⟩ := T.ex
  refine ⟨_, ps_try_only (c := c) (tb := fun W' => tVS X W' gb) (ts := fun a cls d => tVS X W0 gs) (Wout := W) hs hf ⟨hg, hdb, .inl hm⟩ tk
    (fun W' pn xe tk' hp => (hb W' pn xe tk' hp).pss) (fun a oe cls d pn hz hfd => (hsu a oe pn).pss), fun D σ H F0 H0 F ρ r pr => ?_⟩
  refine ⟨F0, H0, F, ρ, r, ?_⟩
  unfold sTryO at pr
  generalize gb ρ = rr at pr ⊢
  cases rr with
  | stuck => exact pr
  | nx ρ' => exact pr
  | bk ρ' => exact pr
  | ct ρ' => exact pr
  | rt o _ => exact pr
  | err cn ρ' =>
    intro σ' H' F' r'
    simp only [catchO] at pr
    cases ht : tb cn with
    | none => rw [ht] at pr; exact pr.elim
    | some b =>
      obtain ⟨C, hC, he⟩ := tab cn b ht
      rw [ht] at pr
      cases b with
      | false =>
        obtain ⟨C', hC', hw⟩ := pr σ' H' F' r'
        exact ⟨C', hC', false, by rw [hC] at hC'; cases hC'; exact he, fun z => (nomatch z), fun _ => hw⟩
      | true =>
        refine ⟨C, hC, true, he, fun _ a na => ⟨F0, H0, F', _, r', ?_⟩, fun z => (nomatch z)⟩
        simp only [] at pr
        generalize gs ρ' = rs at pr ⊢
        cases rs with
        | stuck => exact pr.elim
        | err c ρ => exact pr.elim
        | nx ρ3 => exact pr
        | bk ρ3 => exact pr
        | ct ρ3 => exact pr
        | rt o _ => exact pr
end
/-! ### isinstance of the caught exception -/
def vIsE (a : Addr) (cn : Str) (tb : Str → Option Bool) : PyData → R PyData
  | .dict [(.none, .int a'), (.none, .str c')] => if a' = (a : Int) ∧ c' = cn then (match tb cn with | some b => .ok (.bool b) | none => .stuck) else .stuck
  | _ => .stuck
@[simp] theorem vIsE_ap (a : Addr) (cn : Str) (tb : Str → Option Bool) : vIsE a cn tb (excD a cn) = match tb cn with | some b => .ok (.bool b) | none => .stuck := by
  simp [vIsE, excD]
/-- the answers of isinstance(e, x) for the classes that tb tells of -/
structure ITab (K : PySem.W.Frag) (mg : Str → Option Value) (x : Str) (cv : Value) (tb : Str → Option Bool) : Prop where
  kt : ∀ cn D b, mg cn = some (.ref D) → tb cn = some b → ExcC K D ∧ PySem.W.kitOne K (.ref D) cv = some b
theorem kit_ref {K : PySem.W.Frag} {t : Value} {C : Addr} {b : Bool} (hd : PySem.W.hasDictIn K C = true) (ht : PySem.W.typeIn K (.ref C) = some (.type "type")) (hs : PySem.W.subIn K t (.ref C) = some b) (hn : (t == .ref C) = false ∨ b = true) : PySem.W.kitOne K t (.ref C) = some b := by
  obtain ⟨cd, hc, _⟩ := PySem.W.any_some hd
  have e : ((PySem.W.clsIn K C).isSome && PySem.W.typeIn K (.ref C) == some (.type "type")) = true := by rw [hc, ht]; rfl
  have e2 : PySem.W.kitCls K t (.ref C) = some b := by
    show (if ((PySem.W.clsIn K C).isSome && PySem.W.typeIn K (.ref C) == some (.type "type")) = true then PySem.W.subIn K t (.ref C) else none) = some b
    rw [if_pos e]; exact hs
  unfold PySem.W.kitOne
  split
  · rename_i h
    rcases hn with hn | hn
    · rw [h] at hn; cases hn
    · rw [hn]
  · exact e2
theorem kit_type {K : PySem.W.Frag} {t : Value} {T : String} {b : Bool} (hm : PySem.W.kitMeta T = true) (hs : PySem.W.subIn K t (.type T) = some b) (hn : (t == .type T) = false) : PySem.W.kitOne K t (.type T) = some b := by
  unfold PySem.W.kitOne
  rw [hn]
  show (if PySem.W.kitMeta T = true then PySem.W.subIn K t (.type T) else none) = some b
  rw [if_pos hm]; exact hs
def orT (f g : Str → Option Bool) : Str → Option Bool := fun c => match f c with
  | some true => some true
  | some false => g c
  | none => none
theorem tab_of {P : Str → Bool → Prop} {l : List (Str × Bool)} (h : ∀ p ∈ l, P p.1 p.2) : ∀ cn b, l.lookup cn = some b → P cn b := by
  induction l with
  | nil => intro cn b e; cases e
  | cons p l ih =>
    intro cn b e
    rw [List.lookup_cons] at e
    split at e
    · rename_i hb
      cases e
      rw [show cn = p.1 from by simpa using hb]
      exact h p List.mem_cons_self
    · exact ih (fun q hq => h q (List.mem_cons_of_mem _ hq)) cn b e
section
variable {X : Cx} {W : WX} {a : Addr} {oe : Obj} {pn : List (Addr × Obj)} {C : Addr} {cn : Str} {ea : Expr} {fa : PEnv → R PyData}
theorem pe_never {X : Cx} {e : Expr} : PE X e (fun _ _ _ => False) := ⟨fun _ _ _ _ _ _ h => h.elim⟩
theorem KS.no_none (ks : KS) : ∀ k ∈ ks.data, k ≠ .none := by
  cases ks with
  | inl ks =>
    intro k hk
    obtain ⟨q, _, rfl⟩ := List.mem_map.mp hk
    cases q <;> (intro z; cases z)
  | inr ks =>
    intro k hk
    obtain ⟨q, _, rfl⟩ := List.mem_map.mp hk
    intro z; cases z
theorem vIsE_dct (ks : KS) (ds : List PyData) (tb : Str → Option Bool) : vIsE a cn tb (.dict (ks.data.zip ds)) = .stuck := by
  cases hk : ks.data with
  | nil => rfl
  | cons k kk =>
    have hn : k ≠ .none := ks.no_none k (by rw [hk]; exact List.mem_cons_self)
    cases ds with
    | nil => rfl
    | cons d ds =>
      unfold vIsE
      split
      · rename_i h
        simp at h
        exact absurd h.1.1 hn
      · rfl
theorem is_excD {K : PySem.W.Frag} {F : Hp} {v : V} {d : PyData} {tb : Str → Option Bool} (h : Is K F v d) (hd : vIsE a cn tb d ≠ .stuck) : v = .ref a ∧ ∃ b, tb cn = some b ∧ vIsE a cn tb d = .ok (.bool b) := by
  cases h <;> first | exact absurd rfl hd | exact absurd (vIsE_dct _ _ _) hd | skip
  rename_i a' c'
  simp only [vIsE] at hd ⊢
  split at hd
  · rename_i hh
    obtain ⟨h1, rfl⟩ := hh
    have : a' = a := Int.ofNat_inj.mp h1
    subst this
    refine ⟨rfl, ?_⟩
    cases ht : tb c' with
    | none => rw [ht] at hd; exact absurd rfl hd
    | some b => exact ⟨b, rfl, by simp⟩
  · exact absurd rfl hd
/-- one class -/
theorem visE (i : Nat) {x : Str} {cv : Value} {vv : V} {tb : Str → Option Bool} {p p2 pos : Pos} (hmc : X.mg cn = some (.ref C)) (hz : Zc (.ref C) none oe) (hf : ∃ vs, oe.data = .fields vs) (T : ITab X.K X.mg x cv tb) (pc : ∀ {p2 : Pos}, PE (X.suite a ((a, oe) :: pn)) (.Name x p2) (tC vv)) (hv : ∀ u, RelV vv u → u = cv)
    (hm : X.mg "isinstance" = none) (ha : VE (X.suite a ((a, oe) :: pn)) W ea (vVar i)) (hg : Gl X "isinstance" := by rfl)
    (he : starEach [ea, .Name x p2] X.env = (false, eval ea X.env) :: starEach [.Name x p2] X.env := by rfl) (he2 : starEach [.Name x p2] X.env = (false, eval (.Name x p2) X.env) :: starEach [] X.env := by rfl) (hpl : (backTo pos (starEach [.Name x p2] X.env)).any (·.1) = false := by rfl) :
    VE (X.suite a ((a, oe) :: pn)) W (.Call (.Name "isinstance" p) [ea, .Name x p2] [] pos) (v1 (vIsE a cn tb) (vVar i)) := by
  obtain ⟨ta, pa, qa⟩ := ha.ex
  cases ht : tb cn with
  | none =>
    refine VE.mk' pe_never fun σ H B ρ Q s rf pr => ?_
    have e : v1 (vIsE a cn tb) (vVar i) ρ = .stuck := by
      unfold v1 vVar
      split
      · rename_i d _
        simp only [R.bind_ok]
        unfold vIsE
        split
        · simp [ht]
        · rfl
      · rfl
    rw [e] at pr
    exact pr
  | some b =>
    obtain ⟨ec, ek⟩ := T.kt cn C b hmc ht
    refine VE.mk' (pe_callB (X := X.suite a ((a, oe) :: pn)) (call_isE ec hz hf) hg hm (by decide +kernel) (pa_cons pa (pa_cons pc pa_nil he2) he) (by decide) (by decide) he hpl) fun σ H B ρ Q s rf pr => ?_
    refine one qa s rf pr fun d v H' B' ex sm dx pg => ?_
    have h0 : vIsE a cn tb d ≠ .stuck := fun z => by rw [z] at pg; exact pg
    obtain ⟨rfl, b', hb', e'⟩ := is_excD dx h0
    rw [ht] at hb'
    cases hb'
    rw [e'] at pg
    exact ⟨vv, cv, b, rfl, hv, ek, pg _ H' B' ex (.bl _)⟩
/-- an own class x at A -/
theorem visE_own (i : Nat) {x : Str} {A : Addr} {tb : Str → Option Bool} {p p2 pos : Pos} (hmc : X.mg cn = some (.ref C)) (hz : Zc (.ref C) none oe) (hf : ∃ vs, oe.data = .fields vs) (T : ITab X.K X.mg x (.ref A) tb) (hx : X.mg x = some (.ref A))
    (hm : X.mg "isinstance" = none) (ha : VE (X.suite a ((a, oe) :: pn)) W ea (vVar i)) (hg : Gl X "isinstance" := by rfl) (hgx : Gl X x := by rfl) (hdb : (x == ("__debug__" : Str)) = false := by decide)
    (he : starEach [ea, .Name x p2] X.env = (false, eval ea X.env) :: starEach [.Name x p2] X.env := by rfl) (he2 : starEach [.Name x p2] X.env = (false, eval (.Name x p2) X.env) :: starEach [] X.env := by rfl) (hpl : (backTo pos (starEach [.Name x p2] X.env)).any (·.1) = false := by rfl) :
    VE (X.suite a ((a, oe) :: pn)) W (.Call (.Name "isinstance" p) [ea, .Name x p2] [] pos) (v1 (vIsE a cn tb) (vVar i)) :=
  visE i hmc hz hf T (pe_glob (X := X.suite a ((a, oe) :: pn)) (v := .ref A) hgx hx rfl hdb) (fun u h => h) hm ha hg he he2 hpl
/-- a built-in class -/
theorem visE_blt (i : Nat) {x : Str} {A : String} {tb : Str → Option Bool} {p p2 pos : Pos} (hmc : X.mg cn = some (.ref C)) (hz : Zc (.ref C) none oe) (hf : ∃ vs, oe.data = .fields vs) (T : ITab X.K X.mg x (.type A) tb) (hx : X.mg x = none) (hv : bootBuiltins x = some (.type A))
    (hm : X.mg "isinstance" = none) (ha : VE (X.suite a ((a, oe) :: pn)) W ea (vVar i)) (hg : Gl X "isinstance" := by rfl) (hgx : Gl X x := by rfl) (hdb : (x == ("__debug__" : Str)) = false := by decide) (hn : x ≠ "__name__" := by decide)
    (he : starEach [ea, .Name x p2] X.env = (false, eval ea X.env) :: starEach [.Name x p2] X.env := by rfl) (he2 : starEach [.Name x p2] X.env = (false, eval (.Name x p2) X.env) :: starEach [] X.env := by rfl) (hpl : (backTo pos (starEach [.Name x p2] X.env)).any (·.1) = false := by rfl) :
    VE (X.suite a ((a, oe) :: pn)) W (.Call (.Name "isinstance" p) [ea, .Name x p2] [] pos) (v1 (vIsE a cn tb) (vVar i)) :=
  visE i hmc hz hf T (pe_bltn (X := X.suite a ((a, oe) :: pn)) (v := .ty A) hgx hx hv rfl hn hdb) (fun u h => h) hm ha hg he he2 hpl
/-- isinstance(e, (c1, c2, ..)) of the suite's exception -/
def rIsEs (K : PySem.W.Frag) (D a : Addr) : List V → Hp → VK → Prop := fun xs H Q => ∃ (tp : Addr) (cs : List V) (us : List Value) (b : Bool), xs = [.ref a, .ref tp] ∧ H tp = some (.tup cs) ∧ Paired ClsV cs us ∧ PySem.W.kitAny K (.ref D) us = some b ∧ Q (.bl b) H
theorem call_isEs {D : Addr} (E : ExcC X.K D) (hz : Zc (.ref D) none oe) (hf : ∃ vs, oe.data = .fields vs) : CallR (X.suite a ((a, oe) :: pn)) (.builtin "isinstance") (rIsEs X.K D a) := by
  intro pins s σ H xs us Q J rv hh
  obtain ⟨tp, cs, ws, b, rfl, hT, k, e, q⟩ := hh
  obtain ⟨u1, u2, rfl, r1, r2⟩ := vals2 rv
  cases (show u2 = Value.ref tp from r2)
  cases (show u1 = Value.ref a from r1)
  obtain ⟨hget, _⟩ := J.pin (a, oe) (List.mem_append.mpr (.inl List.mem_cons_self))
  obtain ⟨vs, hv⟩ := hf
  have Z : PySem.W.InstAt s.heap a oe D none := by
    obtain ⟨oc, od, oda, osl⟩ := oe
    obtain ⟨h1, h2⟩ := hz
    dsimp only at h1 h2 hv
    subst h1 h2 hv
    exact ⟨hget, rfl, rfl, trivial⟩
  obtain ⟨_, its, rv', o, h1, h2, n, h3⟩ := (show ObjOk X.prog X.w H s.heap tp (.tup cs) from J.hok tp _ hT)
  have e3 := ClsV.all k rv'
  subst e3
  obtain ⟨oc, od, dt, sl⟩ := o
  simp only at h2 h3
  subst h2 h3
  exact PySem.W.kia_tup (PySem.W.handS_kitx_exc E.hg E.hk E.hs E.hd E.ha E.hn E.ht E.hm) J.kIn Z h1 e (fun z => nomatch z) fun tk => ⟨.bl b, H, J.kept (t' := tk) fun _ _ z => z, rfl, q⟩
/-- two own classes -/
theorem visE_two (i : Nat) {x y : Str} {A1 A2 : Addr} {tb tb2 : Str → Option Bool} {p p1 p2 p3 pos : Pos} {k : Nat} (hmc : X.mg cn = some (.ref C)) (hz : Zc (.ref C) none oe) (hf : ∃ vs, oe.data = .fields vs) (T : ITab X.K X.mg x (.ref A1) tb) (hx : X.mg x = some (.ref A1)) (T2 : ITab X.K X.mg y (.ref A2) tb2) (hy : X.mg y = some (.ref A2))
    (hm : X.mg "isinstance" = none) (ha : VE (X.suite a ((a, oe) :: pn)) W ea (vVar i)) (hg : Gl X "isinstance" := by rfl) (hgx : Gl X x := by rfl) (hdb : (x == ("__debug__" : Str)) = false := by decide) (hgy : Gl X y := by rfl) (hdy : (y == ("__debug__" : Str)) = false := by decide)
    (he : starEach [ea, .Tuple [.Name x p1, .Name y p2] k p3] X.env = (false, eval ea X.env) :: starEach [.Tuple [.Name x p1, .Name y p2] k p3] X.env := by rfl) (he2 : starEach [.Tuple [.Name x p1, .Name y p2] k p3] X.env = (false, eval (.Tuple [.Name x p1, .Name y p2] k p3) X.env) :: starEach [] X.env := by rfl) (hpl : (backTo pos (starEach [.Tuple [.Name x p1, .Name y p2] k p3] X.env)).any (·.1) = false := by rfl)
    (s1 : starEach [.Name x p1, .Name y p2] X.env = (false, eval (.Name x p1) X.env) :: starEach [.Name y p2] X.env := by rfl) (s2 : starEach [.Name y p2] X.env = (false, eval (.Name y p2) X.env) :: starEach [] X.env := by rfl) :
    VE (X.suite a ((a, oe) :: pn)) W (.Call (.Name "isinstance" p) [ea, .Tuple [.Name x p1, .Name y p2] k p3] [] pos) (v1 (vIsE a cn (orT tb tb2)) (vVar i)) := by
  obtain ⟨ta, pa, qa⟩ := ha.ex
  have stk : orT tb tb2 cn = none → ∀ ρ, v1 (vIsE a cn (orT tb tb2)) (vVar i) ρ = .stuck := fun ht ρ => by
    unfold v1 vVar
    split
    · rename_i d _
      simp only [R.bind_ok]
      unfold vIsE
      split
      · simp [ht]
      · rfl
    · rfl
  cases ht : orT tb tb2 cn with
  | none =>
    refine VE.mk' pe_never fun σ H B ρ Q s rf pr => ?_
    rw [stk ht ρ] at pr
    exact pr
  | some b =>
    have key : ∃ ec : ExcC X.K C, PySem.W.kitAny X.K (.ref C) [.ref A1, .ref A2] = some b := by
      unfold orT at ht
      split at ht
      · rename_i h1
        obtain ⟨ec, ek⟩ := T.kt cn C true hmc h1
        cases ht
        exact ⟨ec, by simp only [PySem.W.kitAny, ek]⟩
      · rename_i h1
        obtain ⟨ec, ek⟩ := T.kt cn C false hmc h1
        obtain ⟨_, ek2⟩ := T2.kt cn C b hmc ht
        refine ⟨ec, ?_⟩
        cases b <;> simp only [PySem.W.kitAny, ek, ek2]
      · cases ht
    obtain ⟨ec, ek⟩ := key
    have p1' : PE (X.suite a ((a, oe) :: pn)) (.Name x p1) (tC (.ref A1)) := pe_glob (X := X.suite a ((a, oe) :: pn)) (v := .ref A1) hgx hx rfl hdb
    have p2' : PE (X.suite a ((a, oe) :: pn)) (.Name y p2) (tC (.ref A2)) := pe_glob (X := X.suite a ((a, oe) :: pn)) (v := .ref A2) hgy hy rfl hdy
    refine VE.mk' (pe_callB (X := X.suite a ((a, oe) :: pn)) (call_isEs ec hz hf) hg hm (by decide +kernel) (pa_cons pa (pa_cons (pe_tup (pa_cons p1' (pa_cons p2' pa_nil s2) s1)) pa_nil he2) he) (by decide) (by decide) he hpl) fun σ H B ρ Q s rf pr => ?_
    refine one qa s rf pr fun d v H' B' ex sm dx pg => ?_
    have h0 : vIsE a cn (orT tb tb2) d ≠ .stuck := fun z => by rw [z] at pg; exact pg
    obtain ⟨rfl, b', hb', e'⟩ := is_excD dx h0
    rw [ht] at hb'
    cases hb'
    rw [e'] at pg
    refine ⟨Nat.le_of_ble_eq_true rfl, fun q hq => ?_⟩
    exact ⟨q, [.ref A1, .ref A2], [.ref A1, .ref A2], b, rfl, upd_same, .cons (.own A1) (.cons (.own A2) .nil), ek, pg _ _ _ (ex.trans (Ext.new ex.bh hq)) (.bl _)⟩
end
end VL

namespace VL
open PySem PySem.Spec PyProof.Rows
theorem vInT_ok {m n : Nat} {d : PyData} {ds : List PyData} (h : okS m d) (g : okS n (.tuple ds)) (hm : m ≤ 64 := by decide) (hn : n ≤ 64 := by decide) : vInT d (.tuple ds) = .ok (.bool (ds.any fun z => PyData.eqv z d)) := if_pos ⟨h.shaped hm, g.shaped hn⟩
theorem vNotInT_ok {m n : Nat} {d : PyData} {ds : List PyData} (h : okS m d) (g : okS n (.tuple ds)) (hm : m ≤ 64 := by decide) (hn : n ≤ 64 := by decide) : vNotInT d (.tuple ds) = .ok (.bool (!ds.any fun z => PyData.eqv z d)) := if_pos ⟨h.shaped hm, g.shaped hn⟩
theorem vin_ok {m n : Nat} {d : PyData} {ds : List PyData} (h : okS m d) (g : okS n (.list ds)) (hm : m ≤ 64 := by decide) (hn : n ≤ 64 := by decide) : vin d (.list ds) = .ok (ds.any fun z => PyData.eqv z d) := if_pos ⟨h.shaped hm, g.shaped hn⟩
theorem vIn_ok {m n : Nat} {d : PyData} {ds : List PyData} (h : okS m d) (g : okS n (.list ds)) (hm : m ≤ 64 := by decide) (hn : n ≤ 64 := by decide) : vIn d (.list ds) = .ok (.bool (ds.any fun z => PyData.eqv z d)) := by
  unfold vIn; rw [vin_ok h g hm hn]; rfl
theorem vNotIn_ok {m n : Nat} {d : PyData} {ds : List PyData} (h : okS m d) (g : okS n (.list ds)) (hm : m ≤ 64 := by decide) (hn : n ≤ 64 := by decide) : vNotIn d (.list ds) = .ok (.bool (!ds.any fun z => PyData.eqv z d)) := by
  unfold vNotIn; rw [vin_ok h g hm hn]; rfl
@[simp] theorem vcut_list (lo hi : Option Int) (xs : List PyData) : vcut lo hi (.list xs) = .ok (.list (cutL xs lo hi)) := rfl
@[simp] theorem vcut_tuple (lo hi : Option Int) (xs : List PyData) : vcut lo hi (.tuple xs) = .ok (.tuple (cutL xs lo hi)) := rfl
theorem cut_from (xs : List PyData) (k : Nat) : cutL xs (some (k : Int)) none = xs.drop k := by
  unfold cutL
  rw [HT.sIx_nat, HT.sIx_none]
  by_cases h : k ≤ xs.length
  · rw [Nat.min_eq_left h, List.take_of_length_le (by rw [List.length_drop]; omega)]
  · rw [Nat.min_eq_right (by omega), List.drop_length, List.drop_of_length_le (by omega), List.take_nil]
theorem cut_to (xs : List PyData) (k : Nat) : cutL xs none (some (k : Int)) = xs.take k := by
  unfold cutL
  rw [HT.sIx_nat, HT.sIx_none, List.drop_zero, Nat.sub_zero]
  by_cases h : k ≤ xs.length
  · rw [Nat.min_eq_left h]
  · rw [Nat.min_eq_right (by omega), List.take_of_length_le (Nat.le_refl _), List.take_of_length_le (by omega)]
theorem cut_mid (xs : List PyData) (j k : Nat) : cutL xs (some (j : Int)) (some (k : Int)) = (xs.drop j).take (k - j) := by
  unfold cutL
  rw [HT.sIx_nat, HT.sIx_nat]
  by_cases h : j ≤ xs.length
  · rw [Nat.min_eq_left h]
    by_cases h2 : k ≤ xs.length
    · rw [Nat.min_eq_left h2]
    · rw [Nat.min_eq_right (by omega), List.take_of_length_le (by rw [List.length_drop]; omega), List.take_of_length_le (by rw [List.length_drop]; omega)]
  · rw [show min j xs.length = xs.length by omega, List.drop_length, List.drop_of_length_le (show xs.length ≤ j by omega), List.take_nil, List.take_nil]
theorem mem_cut {xs : List PyData} {lo hi : Option Int} {x : PyData} (h : x ∈ cutL xs lo hi) : x ∈ xs := List.mem_of_mem_drop (List.mem_of_mem_take h)
theorem len_cut (xs : List PyData) (lo hi : Option Int) : (cutL xs lo hi).length ≤ xs.length := by
  unfold cutL
  rw [List.length_take, List.length_drop]
  omega
@[simp] theorem cut_1 (x : PyData) (xs : List PyData) : cutL (x :: xs) (some 1) none = xs := cut_from (x :: xs) 1
theorem okS.mono : ∀ {m n : Nat} {d : PyData}, m ≤ n → okS m d → okS n d
  | 0, _, _, _, h => h.elim
  | _ + 1, 0, _, hl, _ => absurd hl (by omega)
  | m + 1, n + 1, .none, _, _ => trivial
  | m + 1, n + 1, .bool _, _, _ => trivial
  | m + 1, n + 1, .int _, _, _ => trivial
  | m + 1, n + 1, .str _, _, h => h
  | m + 1, n + 1, .list xs, hl, h => ⟨h.1, fun x hx => okS.mono (by omega) (h.2 x hx)⟩
  | m + 1, n + 1, .tuple xs, hl, h => ⟨h.1, fun x hx => okS.mono (by omega) (h.2 x hx)⟩
  | m + 1, n + 1, .dict _, _, h => h.elim
end VL

namespace VL
open PySem PySem.Spec PyProof.Rows L2
/-! ### x.extend(a new list of one's own), x.reverse() -/
theorem RS.glue {K : PySem.W.Frag} {F0 H0 F H : Hp} {σ : L2.St} {ρ : OEnv} {y : V} {i : Nat} {os os2 : List O} (r : RS K F0 H0 F H (some y :: σ) (some (.lst os2) :: ρ)) (ei : ρ[i]? = some (some (.lst os))) :
    ∃ a vs b zs, σ[i]? = some (some (.ref a)) ∧ H a = some (.lst vs) ∧ vs.length = os.length ∧ y = .ref b ∧ H b = some (.lst zs) ∧ zs.length = os2.length ∧ RS K F0 H0 F (upd H a (.lst (vs ++ zs))) σ (ρ.set i (some (.lst (os ++ os2)))) := by
  obtain ⟨fps, sl, hs⟩ := r.ex
  cases sl with
  | @ow _ _ fpo _ _ fpt h1 s =>
    obtain ⟨v, fp, fpr, e1, e2, e3, e4, e5⟩ := s.split ei
    cases h1 with
    | @lst b zs _ fpb hb hlb =>
    cases e2 with
    | @lst a vs _ fpi ha hl =>
      refine ⟨a, vs, b, zs, e1, ha, hl.len, rfl, hb, hlb.len, ?_⟩
      have hp : Hs F0 H0 F H ((b :: fpb) ++ ((a :: fpi) ++ fpr)) := hs.perm (List.Perm.append_left (b :: fpb) e3)
      have hp1 : Hs F0 H0 F H (fpb ++ ((a :: fpi) ++ fpr)) := hp.sub (List.sublist_cons_self b _)
      have nd := List.nodup_append.mp hp1.nd
      have nd2 := List.nodup_append.mp nd.2.1
      have na_b : a ∉ fpb := fun m => nd.2.2 a m a (List.mem_append_left _ List.mem_cons_self) rfl
      have na_i : a ∉ fpi := (List.nodup_cons.mp nd2.1).1
      have na_r : a ∉ fpr := fun m => nd2.2.2 a List.mem_cons_self a m rfl
      have hk : ∀ c, c ≠ a → upd H a (.lst (vs ++ zs)) c = H c := fun c hc => upd_ne hc
      have l1 : OwnL K F (upd H a (.lst (vs ++ zs))) vs os fpi := hl.keep (Same.refl F) fun c hc => hk c fun e => na_i (e ▸ hc)
      have l2 : OwnL K F (upd H a (.lst (vs ++ zs))) zs os2 fpb := hlb.keep (Same.refl F) fun c hc => hk c fun e => na_b (e ▸ hc)
      obtain ⟨fps', w1, w2⟩ := e5 F (upd H a (.lst (vs ++ zs))) (.ref a) (.lst (os ++ os2)) (a :: (fpi ++ fpb)) (.lst upd_same (OwnL.append l1 l2)) (Same.refl F) fun c hc => hk c fun e => na_r (e ▸ hc)
      rw [set_same e1] at w1
      have an : F a = none ∧ H0 a = none := hp1.ow a (List.mem_append_right _ (List.mem_append_left _ List.mem_cons_self))
      have base : Hs F0 H0 F (upd H a (.lst (vs ++ zs))) (fpb ++ ((a :: fpi) ++ fpr)) := ⟨hp1.nd, hp1.ow, fun c u q => by
        rw [hk c (fun e => by rw [e, an.1] at q; cases q)]; exact hp1.fh _ _ q, hp1.f0, fun c u q => by
        rw [hk c (fun e => by rw [e, an.2] at q; cases q)]; exact hp1.h0 _ _ q, hp1.nw⟩
      have p1 : (fpb ++ ((a :: fpi) ++ fpr)).Perm ((a :: (fpi ++ fpb)) ++ fpr) := by
        have : (fpb ++ ((a :: fpi) ++ fpr)).Perm (((a :: fpi) ++ fpb) ++ fpr) := by
          rw [← List.append_assoc]
          exact List.Perm.append_right _ List.perm_append_comm
        simpa using this
      exact ⟨fps', w1, (base.perm p1).perm w2.symm⟩
section
variable {X : Cx} {W : WX} {a b c e : Expr} {pos : Pos} {fa fb fc : PEnv → R PyData} {ho : OEnv → R (O × OEnv)} {k : Nat}
/-- x.extend(e) -/
def sExt (i : Nat) (h : OEnv → R (O × OEnv)) : OEnv → SR := fun ρ => match ρ[i]? with
  | some (some (.lst _)) => (h ρ).sr ρ fun p => match p.1, p.2[i]? with
    | .lst os2, some (some (.lst os)) => if os.length + os2.length ≤ sizeLine then .nx (p.2.set i (some (.lst (os ++ os2)))) else .stuck
    | _, _ => .stuck
  | _ => .stuck
theorem vs_ext (i : Nat) {x : Str} {p1 p2 p3 : Pos} (mk : ∀ {t : TE}, PE X e t → PE X (.Call (.Attribute (.Name x p1) "extend" p2) [e] [] p3) (tBM X.K "list" rExtend (tVar i) (tCons t tNil))) (he : VO X W e ho)
    (hs : swapsWith (.Call (.Attribute (.Name x p1) "extend" p2) [e] [] p3) none pos.line X.env = pure false := by rfl) :
    VS X W (.Expr (.Call (.Attribute (.Name x p1) "extend" p2) [e] [] p3) pos) (sExt i ho) := by
  obtain ⟨t, p, q⟩ := he.ex
  refine ⟨_, ps_expr (mk p) hs, fun D σ H F0 H0 F ρ r pr => ?_⟩
  unfold sExt at pr
  split at pr
  · rename_i os0 e0
    obtain ⟨fps, sl, hss⟩ := r.ex
    obtain ⟨v, fp, fpr, e1, e2, e3, e4, e5⟩ := sl.split e0
    cases e2 with
    | @lst ad vs _ fpi ha hl =>
      refine ⟨.ref ad, e1, .inl ⟨rfl, _, .inl (.inl ha)⟩, ?_⟩
      refine q σ H F0 H0 F ρ _ r (sr_pst r pr fun o po y H' F' r' => ?_)
      obtain ⟨o1, ρ1⟩ := o
      simp only at po r'
      split at po
      · rename_i os2 os e9 eo
        split at po
        · rename_i hz
          obtain ⟨ad', vs', b', zs, e6, e7, e8, rfl, e10, e11, r2⟩ := r'.glue eo
          rw [e1] at e6
          cases e6
          exact ⟨ad, b', vs', zs, rfl, rfl, e7, e10, by rw [e8, e11]; exact hz, po _ _ _ r2⟩
        · exact po.elim
      · exact po.elim
  · exact pr.elim
theorem OwnL.rev {K : PySem.W.Frag} {F H : Hp} : ∀ {os : List O} {vs : List V} {fp : List Addr}, OwnL K F H vs os fp → ∃ fp', OwnL K F H vs.reverse os.reverse fp' ∧ fp'.Perm fp
  | [], _, _, h => by cases h; exact ⟨[], .nil, .refl _⟩
  | o :: os, _, _, h => by
    cases h with
    | @cons v vs _ _ f1 f2 h1 h2 =>
      obtain ⟨f3, z1, z2⟩ := OwnL.rev h2
      rw [List.reverse_cons, List.reverse_cons]
      exact ⟨f3 ++ (f1 ++ []), OwnL.append z1 (.cons h1 .nil), by rw [List.append_nil]; exact (List.Perm.append_right f1 z2).trans List.perm_append_comm⟩
/-! ### max, min of three ints -/
def vmax3 : List PyData → R PyData
  | [.int i, .int j, .int k] => .ok (.int (max (max i j) k))
  | _ => .stuck
def vmin3 : List PyData → R PyData
  | [.int i, .int j, .int k] => .ok (.int (min (min i j) k))
  | _ => .stuck
theorem rc_max3 : RuleC X W (rNuC3 nuMax3) vmax3 := fun ds vs σ H B Q s dx p => by
  have h0 : vmax3 ds ≠ .stuck := fun z => by rw [z] at p; exact p
  match ds, h0 with
  | [.int i, .int j, .int k], _ =>
    cases dx with
    | cons h1 dx => cases dx with
      | cons h2 dx => cases dx with
        | cons h3 dx =>
          cases dx; cases h1; cases h2; cases h3
          refine ⟨.int i, .int j, .int k, .int (max (max i j) k), rfl, ?_, p _ H B (.refl s) (.int _)⟩
          have e : ∀ i j : Int, nuMax2 (.int i) (.int j) = some (.int (max i j)) := fun i j => by
            show some (if decide (i < j) = true then V.int j else V.int i) = _
            by_cases h : i < j
            · simp [h, show max i j = j by omega]
            · simp [h, show max i j = i by omega]
          unfold nuMax3
          rw [e, Option.bind_some, e]
theorem rc_min3 : RuleC X W (rNuC3 nuMin3) vmin3 := fun ds vs σ H B Q s dx p => by
  have h0 : vmin3 ds ≠ .stuck := fun z => by rw [z] at p; exact p
  match ds, h0 with
  | [.int i, .int j, .int k], _ =>
    cases dx with
    | cons h1 dx => cases dx with
      | cons h2 dx => cases dx with
        | cons h3 dx =>
          cases dx; cases h1; cases h2; cases h3
          refine ⟨.int i, .int j, .int k, .int (min (min i j) k), rfl, ?_, p _ H B (.refl s) (.int _)⟩
          have e : ∀ i j : Int, nuMin2 (.int i) (.int j) = some (.int (min i j)) := fun i j => by
            show some (if decide (j < i) = true then V.int j else V.int i) = _
            by_cases h : j < i
            · simp [h, show min i j = j by omega]
            · simp [h, show min i j = i by omega]
          unfold nuMin3
          rw [e, Option.bind_some, e]
theorem vmax3_ {f : PEnv → R (List D)} {p : Pos} {e : Expr} {es : List Expr} (hc : X.calm = true) (hm : X.mg "max" = none) (ha : VA X W (e :: es) f) (hg : Gl X "max" := by rfl) (he : starEach (e :: es) X.env = (false, eval e X.env) :: starEach es X.env := by rfl) (hpl : (backTo pos (starEach es X.env)).any (·.1) = false := by rfl) :
    VE X W (.Call (.Name "max" p) (e :: es) [] pos) (vapp vmax3 f) := vcB (call_max3Nu hc) rc_max3 hm (by decide +kernel) ha hg (by decide) (by decide) he hpl
theorem vmin3_ {f : PEnv → R (List D)} {p : Pos} {e : Expr} {es : List Expr} (hc : X.calm = true) (hm : X.mg "min" = none) (ha : VA X W (e :: es) f) (hg : Gl X "min" := by rfl) (he : starEach (e :: es) X.env = (false, eval e X.env) :: starEach es X.env := by rfl) (hpl : (backTo pos (starEach es X.env)).any (·.1) = false := by rfl) :
    VE X W (.Call (.Name "min" p) (e :: es) [] pos) (vapp vmin3 f) := vcB (call_min3Nu hc) rc_min3 hm (by decide +kernel) ha hg (by decide) (by decide) he hpl
@[simp] theorem vmax3_ap (i j k : Int) : vmax3 [.int i, .int j, .int k] = .ok (.int (max (max i j) k)) := rfl
@[simp] theorem vmin3_ap (i j k : Int) : vmin3 [.int i, .int j, .int k] = .ok (.int (min (min i j) k)) := rfl
/-! ### new lists: a + b, a[i:j] -/
def lcat : PyData → PyData → R (List PyData)
  | .list xs, .list ys => if xs.length + ys.length ≤ sizeLine then .ok (xs ++ ys) else .stuck
  | _, _ => .stuck
def fcat (f g : PEnv → R PyData) : PEnv → R (List PyData) := fun ρ => (f ρ).bind fun d => (g ρ).bind fun e => lcat d e
@[simp] theorem fcat_ap (f g : PEnv → R PyData) (ρ : PEnv) : fcat f g ρ = (f ρ).bind fun d => (g ρ).bind fun e => lcat d e := rfl
@[simp] theorem lcat_list {xs ys : List PyData} (h : xs.length + ys.length ≤ 16777216) : lcat (.list xs) (.list ys) = .ok (xs ++ ys) := if_pos (by rw [szL]; exact h)
theorem vcat_f (ha : VE X W a fa) (hb : VE X W b fb) : VFr X W (.BinOp a .Add b pos) (fcat fa fb) := by
  obtain ⟨ta, pa, qa⟩ := ha.ex
  obtain ⟨tb, pb, qb⟩ := hb.ex
  refine ⟨_, pe_op op_catL pa pb, fun σ H B ρ Q s rf p => ?_⟩
  refine two qa qb s rf p fun d e x y H' B' ex sm dx dy pg => ?_
  cases dx <;> first | exact pg.elim | skip
  cases dy <;> first | exact pg.elim | skip
  rename_i h1 h2 _ _ _ h3 h4
  simp only [lcat] at pg
  split at pg
  · rename_i hz
    refine ⟨_, _, _, _, rfl, rfl, Rd.mono ex.bh h1, Rd.mono ex.bh h3, by rw [IsAll.len h2, IsAll.len h4]; exact hz, fun q hq => ?_⟩
    exact pg q _ _ B' (ex.trans (Ext.own ex.bh hq)) upd_same (Same.free ex.hh hq) (Same.free ex.bh hq) (IsAll.append h2 h4)
  · exact pg.elim
def lcut (lo hi : Option Int) : PyData → R (List PyData)
  | .list xs => .ok (cutL xs lo hi)
  | _ => .stuck
def fslice (f : PEnv → R PyData) (l u : PEnv → R (Option Int)) : PEnv → R (List PyData) := fun ρ => (f ρ).bind fun d => (l ρ).bind fun lo => (u ρ).bind fun hi => lcut lo hi d
@[simp] theorem fslice_ap (f : PEnv → R PyData) (l u : PEnv → R (Option Int)) (ρ : PEnv) : fslice f l u ρ = (f ρ).bind fun d => (l ρ).bind fun lo => (u ρ).bind fun hi => lcut lo hi d := rfl
@[simp] theorem lcut_list (lo hi : Option Int) (xs : List PyData) : lcut lo hi (.list xs) = .ok (cutL xs lo hi) := rfl
theorem vslice_f {lo hi : Option Expr} {p2 : Pos} {fl fu : PEnv → R (Option Int)} (ha : VE X W a fa) (hl : VO1 X W lo fl) (hu : VO1 X W hi fu) : VFr X W (.Subscript a (.Slice lo hi none p2) pos) (fslice fa fl fu) := by
  obtain ⟨ta, pa, qa⟩ := ha.ex
  obtain ⟨tl, pl, ql⟩ := hl.ex
  obtain ⟨tu, pu, qu⟩ := hu.ex
  refine ⟨_, pe_slice (SlR.or sl_list sl_tupA) pa pl pu, fun σ H B ρ Q s rf p => ?_⟩
  unfold fslice at p
  refine one qa s rf p fun d x H1 B1 e1 sm dx p1 => ?_
  refine ql σ H1 B1 ρ _ e1.bh (rf.mono e1.bb) ?_
  generalize fl ρ = rl at p1 ⊢
  cases rl with
  | stuck => exact p1
  | err c => exact p1
  | ok lo' =>
    intro H2 B2 e2
    refine qu σ H2 B2 ρ _ e2.bh (rf.mono (e1.trans e2).bb) ?_
    simp only [R.bind_ok] at p1
    generalize fu ρ = ru at p1 ⊢
    cases ru with
    | stuck => exact p1
    | err c => exact fun H' z => p1 H' (e2.hh.trans z)
    | ok hi' =>
      intro H3 B3 e3
      simp only [R.bind_ok] at p1
      have E := (e1.trans e2).trans e3
      have dx3 := Is.mono (e2.trans e3).bb dx
      cases dx3 <;> first | exact p1.elim | skip
      rename_i h1 h2
      refine .inl ⟨_, _, rfl, .inl (Rd.mono e3.bh h1), fun q hq => ?_⟩
      exact p1 q _ _ B3 (E.trans (Ext.own e3.bh hq)) upd_same (Same.free E.hh hq) (Same.free e3.bh hq) (IsAll.cut h2 _ _)
end
end VL

namespace VL
open PySem PySem.Spec PyProof.Rows L2
/-! ### a call whose result is one's own -/
theorem RS.push {K : PySem.W.Frag} {F0 H0 F H F' H' : Hp} {σ : L2.St} {ρ : OEnv} {v : V} {o : O} (r : RS K F0 H0 F H σ ρ) (q : RV K F H F' H' v o) : RS K F0 H0 F' H' (some v :: σ) (some o :: ρ) := by
  obtain ⟨fps, s, hs⟩ := r.ex
  obtain ⟨fp, ow, h1⟩ := q
  have lst := s.lstAt
  refine ⟨fp ++ fps, .ow ow (s.keep h1.f0 fun a ha => ?_), ?_, fun a ha => ?_, h1.fh, hs.f0.trans h1.f0, hs.h0.trans h1.h0, fun a z1 z2 => ?_⟩
  · obtain ⟨vs, z, _⟩ := lst a ha
    rw [z]; exact h1.h0 _ _ z
  · refine List.nodup_append.mpr ⟨h1.nd, hs.nd, fun a ha b hb e => ?_⟩
    subst e
    obtain ⟨vs, z, _⟩ := lst a hb
    rw [(h1.ow a ha).2] at z
    cases z
  · rcases List.mem_append.mp ha with m | m
    · exact ⟨(h1.ow a m).1, Same.free hs.h0 (h1.ow a m).2⟩
    · refine ⟨?_, (hs.ow a m).2⟩
      obtain ⟨vs, z, _⟩ := lst a m
      cases q : F' a with
      | none => rfl
      | some u =>
        have := h1.nw a (hs.ow a m).1 (by rw [q]; exact fun w => nomatch w)
        rw [z] at this
        cases this
  · cases q : F a with
    | some u => exact hs.nw a z1 (by rw [q]; exact fun w => nomatch w)
    | none => exact Same.free hs.h0 (h1.nw a q z2)
section
variable {X : Cx} {W : WX} {a b c e : Expr} {es : List Expr} {pos : Pos} {hx : OEnv → R PyData} {k : Nat}
def oCall (g : List PyData → R O) (fa : PEnv → R (List PyData)) : OEnv → R (O × OEnv) := fun ρ => (fa (viewF ρ)).bind fun ds => (g ds).bind fun o => .ok (o, ρ)
@[simp] theorem oCall_ap (g : List PyData → R O) (fa : PEnv → R (List PyData)) (ρ : OEnv) : oCall g fa ρ = (fa (viewF ρ)).bind fun ds => (g ds).bind fun o => .ok (o, ρ) := rfl
theorem vo_call {x : Str} {f : Addr} {fd : FuncData} {ps : List Str} {n : Nat} {g : List PyData → R O} {fa : PEnv → R (List PyData)} {p : Pos} {e : Expr} (F : FnOk X.prog X.w X.K X.mg X.base (L2.CX X.prog X.w) k f fd ps (spO X.K X.mg n g)) (hr : Room k X.A) (hm : X.mg x = some (.ref f)) (hk : PySem.W.keepIn X.K (.ref f) = true) (hb : Binds X.K fd ps [])
    (tk : Takes X W) (ha : VAn X W n (e :: es) fa) (hg : Gl X x := by rfl) (hdb : (x == ("__debug__" : Str)) = false := by decide) (he : starEach (e :: es) X.env = (false, eval e X.env) :: starEach es X.env := by rfl) (hpl : (backTo pos (starEach es X.env)).any (·.1) = false := by rfl) :
    VO X W (.Call (.Name x p) (e :: es) [] pos) (oCall g fa) := by
  obtain ⟨t, pt, qt⟩ := ha.va.ex
  refine ⟨_, pe_callS F hr hg hm hk hb (fun σ => passAt tk σ) pt hdb he hpl, fun σ H F0 H0 Fz ρ Q r pr => ?_⟩
  obtain ⟨fps, s, hs⟩ := id r.ex
  have hl := ha.len (viewF ρ)
  unfold oCall at pr
  generalize hfa : fa (viewF ρ) = rr at pr hl
  cases rr with
  | stuck => exact pr.elim
  | err c => exact qt σ H Fz (viewF ρ) _ hs.fh s.rfF (by rw [hfa]; exact pr)
  | ok ds =>
    refine qt σ H Fz (viewF ρ) _ hs.fh s.rfF ?_
    rw [hfa]
    intro xs H1 F1 e1 dx
    refine ⟨by rw [IsAll.len dx]; exact hl ds rfl, ds, F1, e1.bh, dx, ?_⟩
    simp only [R.bind_ok] at pr
    generalize g ds = rg at pr ⊢
    cases rg with
    | stuck => exact pr
    | err c => exact fun H' z => pr H' (e1.hh.trans z)
    | ok o => exact fun v H' F' rv => pr v H' F' ((r.ext e1).push rv)
/-! ### x.pop(), x.pop(i) -/
theorem OwnL.pick {K : PySem.W.Frag} {F H : Hp} : ∀ {os : List O} {vs : List V} {fp : List Addr} {j : Nat} {o : O}, OwnL K F H vs os fp → os[j]? = some o → ∃ y f1 f2, vs[j]? = some y ∧ Own K F H y o f1 ∧ OwnL K F H (vs.eraseIdx j) (os.eraseIdx j) f2 ∧ fp.Perm (f1 ++ f2)
  | [], _, _, _, _, h, e => by simp at e
  | p :: os, _, _, 0, o, h, e => by
    cases h with
    | @cons v vs _ _ f1 f2 h1 h2 =>
      simp at e
      subst e
      exact ⟨v, f1, f2, rfl, h1, h2, .refl _⟩
  | p :: os, _, _, j + 1, o, h, e => by
    cases h with
    | @cons v vs _ _ f1 f2 h1 h2 =>
      obtain ⟨y, g1, g2, z1, z2, z3, z4⟩ := OwnL.pick (j := j) h2 (by simpa using e)
      refine ⟨y, g1, f1 ++ g2, by simpa using z1, z2, .cons h1 z3, ?_⟩
      refine (List.Perm.append_left f1 z4).trans ?_
      rw [← List.append_assoc, ← List.append_assoc]
      exact List.Perm.append_right _ List.perm_append_comm
theorem RS.take {K : PySem.W.Frag} {F0 H0 F H : Hp} {σ : L2.St} {ρ : OEnv} {i j : Nat} {os : List O} {o : O} (r : RS K F0 H0 F H σ ρ) (ei : ρ[i]? = some (some (.lst os))) (ej : os[j]? = some o) :
    ∃ a vs y, σ[i]? = some (some (.ref a)) ∧ H a = some (.lst vs) ∧ vs.length = os.length ∧ vs[j]? = some y ∧ RS K F0 H0 F (upd H a (.lst (vs.eraseIdx j))) (some y :: σ) (some o :: ρ.set i (some (.lst (os.eraseIdx j)))) := by
  obtain ⟨fps, s, hs⟩ := r.ex
  obtain ⟨v, fp, fpr, e1, e2, e3, e4, e5⟩ := s.split ei
  cases e2 with
  | @lst a vs _ fpi ha hl =>
    obtain ⟨y, g1, g2, z1, z2, z3, z4⟩ := hl.pick ej
    refine ⟨a, vs, y, e1, ha, hl.len, z1, ?_⟩
    have hp : Hs F0 H0 F H ((a :: (g1 ++ g2)) ++ fpr) := (hs.perm e3).perm (List.Perm.append_right fpr (List.Perm.cons a z4))
    have nd := List.nodup_append.mp hp.nd
    have na := List.nodup_cons.mp nd.1
    have na_r : a ∉ fpr := fun m => nd.2.2 a List.mem_cons_self a m rfl
    have hk : ∀ c, c ≠ a → upd H a (.lst (vs.eraseIdx j)) c = H c := fun c hc => upd_ne hc
    have l1 : Own K F (upd H a (.lst (vs.eraseIdx j))) y o g1 := z2.keep (Same.refl F) fun c hc => hk c fun e => na.1 (e ▸ List.mem_append_left _ hc)
    have l2 : OwnL K F (upd H a (.lst (vs.eraseIdx j))) (vs.eraseIdx j) (os.eraseIdx j) g2 := z3.keep (Same.refl F) fun c hc => hk c fun e => na.1 (e ▸ List.mem_append_right _ hc)
    obtain ⟨fps', w1, w2⟩ := e5 F (upd H a (.lst (vs.eraseIdx j))) (.ref a) (.lst (os.eraseIdx j)) (a :: g2) (.lst upd_same l2) (Same.refl F) fun c hc => hk c fun e => na_r (e ▸ hc)
    rw [set_same e1] at w1
    have an : F a = none ∧ H0 a = none := hp.ow a (List.mem_append_left _ List.mem_cons_self)
    have base : Hs F0 H0 F (upd H a (.lst (vs.eraseIdx j))) ((a :: (g1 ++ g2)) ++ fpr) := ⟨hp.nd, hp.ow, fun c u q => by
      rw [hk c (fun e => by rw [e, an.1] at q; cases q)]; exact hp.fh _ _ q, hp.f0, fun c u q => by
      rw [hk c (fun e => by rw [e, an.2] at q; cases q)]; exact hp.h0 _ _ q, hp.nw⟩
    refine ⟨g1 ++ fps', .ow l1 w1, base.perm ?_⟩
    have p1 : ((a :: (g1 ++ g2)) ++ fpr).Perm (g1 ++ ((a :: g2) ++ fpr)) := by
      have : ((a :: (g1 ++ g2)) ++ fpr).Perm ((g1 ++ (a :: g2)) ++ fpr) := List.Perm.append_right fpr List.perm_middle.symm
      rw [List.append_assoc] at this
      exact this
    exact p1.trans (List.Perm.append_left g1 w2.symm)
/-- x.pop() -/
def oPop (i : Nat) : OEnv → R (O × OEnv) := fun ρ => match ρ[i]? with
  | some (some (.lst os)) => (match os[os.length - 1]? with
    | some o => .ok (o, ρ.set i (some (.lst (os.eraseIdx (os.length - 1)))))
    | none => .stuck)
  | _ => .stuck
theorem vo_pop (i : Nat) {x : Str} {p1 p2 p3 : Pos} (mk : PE X (.Call (.Attribute (.Name x p1) "pop" p2) [] [] p3) (tBM0 X.K "list" rPop (tVar i))) :
    VO X W (.Call (.Attribute (.Name x p1) "pop" p2) [] [] p3) (oPop i) := by
  refine ⟨_, mk, fun σ H F0 H0 F ρ Q r pr => ?_⟩
  unfold oPop at pr
  split at pr
  · rename_i os e0
    split at pr
    · rename_i o eo
      obtain ⟨ad, vs, y, e1, e2, e3, e4, r2⟩ := r.take e0 eo
      refine ⟨.ref ad, e1, .inl ⟨rfl, _, .inl (.inl e2)⟩, ad, vs, y, rfl, rfl, e2, by rw [e3]; exact e4, ?_⟩
      have : vs.dropLast = vs.eraseIdx (os.length - 1) := by rw [← e3, List.eraseIdx_length_sub_one]
      rw [this]
      exact pr y _ F r2
    · exact pr.elim
  · exact pr.elim
/-- x.pop(k) -/
noncomputable def oPopAt (i : Nat) (hk : OEnv → R PyData) : OEnv → R (O × OEnv) := fun ρ => match ρ[i]? with
  | some (some (.lst os)) => (hk ρ).bind fun d => match d with
    | .int j => @ite _ (0 ≤ j ∧ j < 16777216) (Classical.propDecidable _) (match os[j.toNat]? with
      | some o => .ok (o, ρ.set i (some (.lst (os.eraseIdx j.toNat))))
      | none => .stuck) .stuck
    | _ => .stuck
  | _ => .stuck
theorem vo_popAt (i : Nat) {x : Str} {p1 p2 p3 : Pos} (mk : ∀ {t : TE}, PE X e t → PE X (.Call (.Attribute (.Name x p1) "pop" p2) [e] [] p3) (tBM X.K "list" rPopAt (tVar i) (tCons t tNil))) (he : VX X W e hx) :
    VO X W (.Call (.Attribute (.Name x p1) "pop" p2) [e] [] p3) (oPopAt i hx) := by
  obtain ⟨t, p, q⟩ := he.ex
  refine ⟨_, mk p, fun σ H F0 H0 F ρ Q r pr => ?_⟩
  unfold oPopAt at pr
  split at pr
  · rename_i os e0
    obtain ⟨fps, sl, hss⟩ := id r.ex
    obtain ⟨v, fp, fpr, e1, e2, e3, e4, e5⟩ := sl.split e0
    cases e2 with
    | @lst ad vs0 _ fpi ha hl =>
      refine ⟨.ref ad, e1, .inl ⟨rfl, _, .inl (.inl ha)⟩, ?_⟩
      refine q σ H F0 H0 F ρ _ r ?_
      generalize hx ρ = rk at pr ⊢
      cases rk with
      | stuck => exact pr
      | err c => exact pr
      | ok d =>
        intro y0 H' F' ex dx
        simp only [R.bind_ok] at pr
        cases dx <;> first | exact pr.elim | skip
        rename_i j
        simp only at pr
        split at pr
        · rename_i hj
          split at pr
          · rename_i o eo
            obtain ⟨ad', vs, y, w1, w2, w3, w4, r2⟩ := (r.ext ex).take e0 eo
            rw [e1] at w1
            cases w1
            obtain ⟨hjl, _⟩ := List.getElem?_eq_some_iff.mp eo
            refine ⟨ad, vs, j, j.toNat, y, rfl, rfl, w2, by omega, by omega, ?_, w4, pr y _ F' r2⟩
            unfold seqIndex?
            have hb : (decide (0 ≤ j) && decide (j < (os.length : Int))) = true := by
              rw [Bool.and_eq_true, decide_eq_true_eq, decide_eq_true_eq]; omega
            rw [w3, if_neg (show ¬ j < 0 by omega)]
            exact if_pos hb
          · exact pr.elim
        · exact pr.elim
  · exact pr.elim
theorem oPopAt_ok {i : Nat} {hk : OEnv → R PyData} {ρ : OEnv} {os : List O} {j : Nat} {o : O} (e : ρ[i]? = some (some (.lst os))) (hkv : hk ρ = .ok (.int (j : Int))) (hj : j < 16777216) (ho : os[j]? = some o) : oPopAt i hk ρ = .ok (o, ρ.set i (some (.lst (os.eraseIdx j)))) := by
  unfold oPopAt
  simp only [e, hkv, R.bind_ok]
  rw [if_pos (by omega)]
  simp only [Int.toNat_natCast, ho]
theorem erase_map {α β : Type} (f : α → β) : ∀ (l : List α) (m : Nat), (l.map f).eraseIdx m = (l.eraseIdx m).map f
  | [], _ => rfl
  | _ :: _, 0 => rfl
  | x :: l, m + 1 => by
    show f x :: (l.map f).eraseIdx m = f x :: (l.eraseIdx m).map f
    rw [erase_map f l m]
/-! ### x.reverse() -/
theorem RS.revAt {K : PySem.W.Frag} {F0 H0 F H : Hp} {σ : L2.St} {ρ : OEnv} {i : Nat} {os : List O} (r : RS K F0 H0 F H σ ρ) (ei : ρ[i]? = some (some (.lst os))) :
    ∃ a vs, σ[i]? = some (some (.ref a)) ∧ H a = some (.lst vs) ∧ RS K F0 H0 F (upd H a (.lst vs.reverse)) σ (ρ.set i (some (.lst os.reverse))) := by
  obtain ⟨fps, s, hs⟩ := r.ex
  obtain ⟨v, fp, fpr, e1, e2, e3, e4, e5⟩ := s.split ei
  cases e2 with
  | @lst a vs _ fpi ha hl =>
    obtain ⟨fp', z1, z2⟩ := hl.rev
    refine ⟨a, vs, e1, ha, ?_⟩
    have hp : Hs F0 H0 F H ((a :: fpi) ++ fpr) := hs.perm e3
    have nd := List.nodup_append.mp hp.nd
    have na := List.nodup_cons.mp nd.1
    have na_r : a ∉ fpr := fun m => nd.2.2 a List.mem_cons_self a m rfl
    have hk : ∀ c, c ≠ a → upd H a (.lst vs.reverse) c = H c := fun c hc => upd_ne hc
    have l2 : OwnL K F (upd H a (.lst vs.reverse)) vs.reverse os.reverse fp' := z1.keep (Same.refl F) fun c hc => hk c fun e => na.1 (z2.mem_iff.mp (e ▸ hc))
    obtain ⟨fps', w1, w2⟩ := e5 F (upd H a (.lst vs.reverse)) (.ref a) (.lst os.reverse) (a :: fp') (.lst upd_same l2) (Same.refl F) fun c hc => hk c fun e => na_r (e ▸ hc)
    rw [set_same e1] at w1
    have an : F a = none ∧ H0 a = none := hp.ow a (List.mem_append_left _ List.mem_cons_self)
    have base : Hs F0 H0 F (upd H a (.lst vs.reverse)) ((a :: fpi) ++ fpr) := ⟨hp.nd, hp.ow, fun c u q => by
      rw [hk c (fun e => by rw [e, an.1] at q; cases q)]; exact hp.fh _ _ q, hp.f0, fun c u q => by
      rw [hk c (fun e => by rw [e, an.2] at q; cases q)]; exact hp.h0 _ _ q, hp.nw⟩
    exact ⟨fps', w1, base.perm ((List.Perm.append_right fpr (List.Perm.cons a z2.symm)).trans w2.symm)⟩
def sRev (i : Nat) : OEnv → SR := fun ρ => match ρ[i]? with
  | some (some (.lst os)) => .nx (ρ.set i (some (.lst os.reverse)))
  | _ => .stuck
theorem vs_rev (i : Nat) {x : Str} {p1 p2 p3 : Pos} (mk : PE X (.Call (.Attribute (.Name x p1) "reverse" p2) [] [] p3) (tBM0 X.K "list" rReverse (tVar i))) (hs : swapsWith (.Call (.Attribute (.Name x p1) "reverse" p2) [] [] p3) none pos.line X.env = pure false := by rfl) :
    VS X W (.Expr (.Call (.Attribute (.Name x p1) "reverse" p2) [] [] p3) pos) (sRev i) := by
  refine ⟨_, ps_expr mk hs, fun D σ H F0 H0 F ρ r pr => ?_⟩
  unfold sRev at pr
  split at pr
  · rename_i os e0
    obtain ⟨ad, vs, e1, e2, r2⟩ := r.revAt e0
    exact ⟨.ref ad, e1, .inl ⟨rfl, _, .inl (.inl e2)⟩, ad, vs, rfl, rfl, e2, pr _ _ _ r2⟩
  · exact pr.elim
end
/-! ### evaluation -/
def finO : SR → R O
  | .rt o _ => .ok o
  | .nx _ => .ok (.fz .none)
  | .err c _ => .err c
  | _ => .stuck
@[simp] theorem finO_rt (o : O) (ρ : OEnv) : finO (.rt o ρ) = .ok o := rfl
@[simp] theorem finO_nx (ρ : OEnv) : finO (.nx ρ) = .ok (.fz .none) := rfl
@[simp] theorem finO_err (c : Str) (ρ : OEnv) : finO (.err c ρ) = .err c := rfl
theorem runB_fin (n : Nat) (g : OEnv → SR) (ds : List PyData) : runB n g ds = finO (g (startO n ds)) := by
  unfold runB
  cases g (startO n ds) <;> rfl
theorem frz_of {n : Nat} {g : OEnv → SR} {ds : List PyData} {o : O} (h : runB n g ds = .ok o) : frz (runB n g) ds = .ok o.data := by
  unfold frz; rw [h]; rfl
end VL

namespace VL
open PySem PySem.Spec PyProof.Rows L2
/-! ### l.index(x), l.count(n) -/
def vindex : PyData → PyData → R PyData
  | .list ds, d => if SeqAt.shaped (.list ds) = true ∧ SeqAt.shaped d = true then (match ds.findIdx? (fun z => PyData.eqv z d) with
    | some j => .ok (.int (j : Nat))
    | none => .stuck) else .stuck
  | _, _ => .stuck
def isL : PyData → R PyData
  | .list ds => .ok (.list ds)
  | _ => .stuck
def vindexF (fa fb : PEnv → R PyData) : PEnv → R PyData := fun ρ => (fa ρ).bind fun d => (isL d).bind fun d => (fb ρ).bind fun e => vindex d e
@[simp] theorem vindexF_ap (fa fb : PEnv → R PyData) (ρ : PEnv) : vindexF fa fb ρ = (fa ρ).bind fun d => (isL d).bind fun d => (fb ρ).bind fun e => vindex d e := rfl
@[simp] theorem isL_list (ds : List PyData) : isL (.list ds) = .ok (.list ds) := rfl
section
variable {X : Cx} {W : WX} {a b : Expr} {fa fb : PEnv → R PyData} {k : Nat}
theorem vindex_ {p2 p3 : Pos} (hu : X.A.units + 65 < cLine) (ha : VE X W a fa) (hb : VE X W b fb) (hs : starEach [b] X.env = (false, eval b X.env) :: starEach [] X.env := by rfl)
    (hbase : attributeBase a "index" X.env (eval a X.env) = eval a X.env := by rfl)
    (hfew : ((backTo p3 (starEach [b] X.env)).all (fun x => !x.1) && (backToKw p3 (keywordEach [] X.env)).all (fun x => x.1.isSome)
      && decide ([b].length + ([] : List Keyword).length + (if ([] : List Keyword).isEmpty then 0 else 1) < 30)) = true := by rfl)
    (hline : (p2.endLine == p3.line) = true := by rfl) (hplain : (backTo p3 (starEach [] X.env)).any (·.1) = false := by rfl) : VE X W (.Call (.Attribute a "index" p2) [b] [] p3) (vindexF fa fb) := by
  obtain ⟨ta, pa, qa⟩ := ha.ex
  obtain ⟨tb, pb, qb⟩ := hb.ex
  refine VE.mk' (pe_bm PySem.F.plainAttrs_list PySem.F.slot_list_index PySem.F.type_list_index (mt_indexD hu) pa (pa_cons pb pa_nil hs) hbase hfew hline hs hplain) fun σ H B ρ Q s rf pr => ?_
  unfold vindexF at pr
  refine qa σ H B ρ _ s rf ?_
  generalize fa ρ = ra at pr ⊢
  cases ra with
  | stuck => exact pr
  | err c => exact pr
  | ok d =>
    intro x H1 B1 e1 sm1 d1
    simp only [R.bind_ok] at pr
    have tv : (tyV X.K "list" x H1 ∧ isL d = .ok d) ∨ isL d = .stuck := by
      cases d1 with
      | lst h1 h2 => exact .inl ⟨.inl ⟨rfl, _, .inl (Rd.mono e1.bh h1)⟩, rfl⟩
      | _ => exact .inr rfl
    rcases tv with ⟨tv, el⟩ | no
    · refine ⟨tv, ?_⟩
      rw [el] at pr
      simp only [R.bind_ok] at pr
      refine qb σ H1 B1 ρ _ e1.bh (rf.mono e1.bb) ?_
      generalize fb ρ = rb at pr ⊢
      cases rb with
      | stuck => exact pr
      | err c => exact fun H' z => pr H' (e1.hh.trans z)
      | ok e =>
        intro y H2 B2 e2 sm2 d2
        simp only [R.bind_ok] at pr
        have E := e1.trans e2
        have d1' := Is.mono e2.bb d1
        cases d1' <;> first | exact pr.elim | skip
        rename_i h1 h2
        simp only [vindex] at pr
        split at pr
        · rename_i hsh
          split at pr
          · rename_i j hj
            obtain ⟨hj1, hj2, hj3⟩ := List.findIdx?_eq_some_iff_getElem.mp hj
            have dd : Is X.K B2 (.ref _) (.list _) := .lst h1 h2
            refine ⟨_, y, e, _, j, _, rfl, rfl, (Is.mono E.bh dd).dp (SeqAt.canLay_of_shaped hsh.1), (Is.mono E.bh d2).dp (SeqAt.canLay_of_shaped hsh.2), hsh.1, hsh.2, List.getElem?_eq_getElem hj1, hj2, fun m z' hm hz => ?_, pr _ H2 B2 E (.int _)⟩
            obtain ⟨q1, q2⟩ := List.getElem?_eq_some_iff.mp hz
            have := hj3 m hm
            rw [q2] at this
            simpa using this
          · exact pr.elim
        · exact pr.elim
    · rw [no] at pr; exact pr.elim
end
end VL

namespace VL
open PySem PySem.Spec PyProof.Rows L2
/-! ### l[::-1], sorted(ints) -/
def lrev : PyData → R (List PyData)
  | .list xs => .ok xs.reverse
  | _ => .stuck
def frev (f : PEnv → R PyData) : PEnv → R (List PyData) := fun ρ => (f ρ).bind lrev
@[simp] theorem frev_ap (f : PEnv → R PyData) (ρ : PEnv) : frev f ρ = (f ρ).bind lrev := rfl
@[simp] theorem lrev_list (xs : List PyData) : lrev (.list xs) = .ok xs.reverse := rfl
/-- ints in their order -/
def srtI (ns : List Int) : List Int := ns.mergeSort fun a b => decide (a ≤ b)
theorem srtI_perm (ns : List Int) : (srtI ns).Perm ns := List.mergeSort_perm ns _
theorem srtI_ord (ns : List Int) : (srtI ns).Pairwise (· ≤ ·) := by
  have := List.pairwise_mergeSort (le := fun a b : Int => decide (a ≤ b)) (fun a b c h1 h2 => by simp at *; omega) (fun a b => by simp; omega) ns
  exact this.imp fun h => by simpa using h
theorem srtI_eq {ns ms : List Int} (p : ms.Perm ns) (o : ms.Pairwise (· ≤ ·)) : ms = srtI ns :=
  List.Perm.eq_of_pairwise (fun a b _ _ h1 h2 => Int.le_antisymm h1 h2) o (srtI_ord ns) (p.trans (srtI_perm ns).symm)
def lsort : PyData → R (List PyData)
  | .list xs => (match intsOf xs with
    | some ns => .ok ((srtI ns).map .int)
    | none => .stuck)
  | _ => .stuck
def fsort (f : PEnv → R PyData) : PEnv → R (List PyData) := fun ρ => (f ρ).bind lsort
@[simp] theorem fsort_ap (f : PEnv → R PyData) (ρ : PEnv) : fsort f ρ = (f ρ).bind lsort := rfl
theorem lsort_ints (ns : List Int) : lsort (.list (ns.map .int)) = .ok ((srtI ns).map .int) := by simp only [lsort, intsOf_map]
section
variable {X : Cx} {W : WX} {a : Expr} {fa : PEnv → R PyData}
theorem vrev_f {k : Nat} {p1 p2 p3 pos : Pos} (ha : VE X W a fa) : VFr X W (.Subscript a (.Slice none none (some (.UnaryOp .USub (.Constant (.int 1) k p1) p2)) p3) pos) (frev fa) := by
  obtain ⟨ta, pa, qa⟩ := ha.ex
  refine ⟨_, pe_revL pa, fun σ H B ρ Q s rf p => ?_⟩
  refine one qa s rf p fun d x H' B' ex sm dx pg => ?_
  cases dx <;> first | exact pg.elim | skip
  rename_i h1 h2
  exact ⟨_, _, rfl, .inl (Rd.mono ex.bh h1), fun q hq => pg q _ _ B' (ex.trans (Ext.own ex.bh hq)) upd_same (Same.free ex.hh hq) (Same.free ex.bh hq) (IsAll.reverse h2)⟩
theorem vsorted_f {p pos : Pos} (hm : X.mg "sorted" = none) (ha : VE X W a fa) (hg : Gl X "sorted" := by rfl) (he : starEach [a] X.env = (false, eval a X.env) :: starEach [] X.env := by rfl) (hpl : (backTo pos (starEach [] X.env)).any (·.1) = false := by rfl) :
    VFr X W (.Call (.Name "sorted" p) [a] [] pos) (fsort fa) := by
  obtain ⟨ta, pa, qa⟩ := ha.ex
  refine ⟨_, pe_callB cr_sortedI hg hm (by decide +kernel) (pa_cons pa pa_nil he) (by decide) (by decide) he hpl, fun σ H B ρ Q s rf pr => ?_⟩
  refine one qa s rf pr fun d x H' B' ex sm dx pg => ?_
  cases dx <;> first | exact pg.elim | skip
  rename_i h1 h2
  simp only [lsort] at pg
  split at pg
  · rename_i ns hi
    rw [intsOf_some hi] at h2
    have e := is_ints h2
    subst e
    refine ⟨_, ns, rfl, .inl (Rd.mono ex.bh h1), fun ns' q hp ho hq => ?_⟩
    have e := srtI_eq hp ho
    subst e
    exact pg q _ _ B' (ex.trans (Ext.own ex.bh hq)) upd_same (Same.free ex.hh hq) (Same.free ex.bh hq) (ints_is _)
  · exact pg.elim
end
end VL

namespace VL
open PySem PySem.Spec PyProof.Rows
/-! ### more laws of loops and comprehensions -/
/-- a loop that leaves at the first bad item, and else keeps its state -/
theorem forL_chk {kt : PyData → R (List (Nat × PyData))} {kl : OEnv → OEnv} {gb : OEnv → SR} (E : OEnv) (bad : PyData → Bool) (r : O) (E2 : OEnv) : ∀ {ds : List PyData},
    (∀ d ∈ ds, (bad d = true → ∃ bs, kt d = .ok bs ∧ gb (setsO E bs) = .rt r E2) ∧ (bad d = false → ∃ bs ρ', kt d = .ok bs ∧ gb (setsO E bs) = .nx ρ' ∧ kl ρ' = E)) →
    forL kt kl gb ds E = if ds.any bad = true then .rt r E2 else .nx E
  | [], _ => rfl
  | d :: ds, h => by
    have ih := forL_chk E bad r E2 (ds := ds) fun x hx => h x (List.mem_cons_of_mem _ hx)
    obtain ⟨h1, h2⟩ := h d List.mem_cons_self
    cases hb : bad d with
    | true =>
      obtain ⟨bs, k1, k2⟩ := h1 hb
      simp only [forL, k1, k2, List.any_cons, hb, Bool.true_or, if_true]
    | false =>
      obtain ⟨bs, ρ', k1, k2, k3⟩ := h2 hb
      simp only [forL, k1, k2, k3, List.any_cons, hb, Bool.false_or, ih]
theorem compL_map {kt : PyData → R (List (Nat × PyData))} {ft : PEnv → R Bool} {fe : PEnv → R PyData} {ρ : PEnv} (f : PyData → PyData) : ∀ {ds : List PyData}, (∀ d ∈ ds, ∃ bs, kt d = .ok bs ∧ ft (setsD ρ bs) = .ok true ∧ fe (setsD ρ bs) = .ok (f d)) → compL kt ft fe ρ ds = .ok (ds.map f)
  | [], _ => rfl
  | d :: ds, h => by
    obtain ⟨bs, h1, h2, h3⟩ := h d List.mem_cons_self
    have ih := compL_map f (ds := ds) fun x hx => h x (List.mem_cons_of_mem _ hx)
    simp only [compL, h1, R.bind_ok, h2, h3, calm_okk, ih, if_true, List.map_cons]
theorem compL_sub {kt : PyData → R (List (Nat × PyData))} {ft : PEnv → R Bool} {fe : PEnv → R PyData} {ρ : PEnv} (S : PyData → Prop) : ∀ {ds : List PyData}, (∀ d ∈ ds, ∃ bs b y, kt d = .ok bs ∧ ft (setsD ρ bs) = .ok b ∧ fe (setsD ρ bs) = .ok y ∧ S y) → ∃ ys, compL kt ft fe ρ ds = .ok ys ∧ (∀ y ∈ ys, S y) ∧ ys.length ≤ ds.length
  | [], _ => ⟨[], rfl, fun _ h => (nomatch h), Nat.le_refl _⟩
  | d :: ds, h => by
    obtain ⟨bs, b, y, h1, h2, h3, h4⟩ := h d List.mem_cons_self
    obtain ⟨ys, e, hs, hl⟩ := compL_sub S (ds := ds) fun x hx => h x (List.mem_cons_of_mem _ hx)
    cases b with
    | true =>
      exact ⟨y :: ys, by simp only [compL, h1, R.bind_ok, h2, h3, calm_okk, e, if_true], fun z hz => by
        rcases List.mem_cons.mp hz with q | q
        · subst q; exact h4
        · exact hs z q, by simp; omega⟩
    | false => exact ⟨ys, by simp only [compL, h1, R.bind_ok, h2, calm_okk, e]; rfl, hs, by simp; omega⟩
/-- a comprehension over a range of numbers, tests as values -/
theorem compL_range {i : Nat} {ft : PEnv → R Bool} {fe : PEnv → R PyData} {ρ : PEnv} (f : Nat → PyData) {lo : Int} {n : Nat} (h : ∀ k, k < n → ft (ρ.set i (some (.int (lo + (k : Int))))) = .ok true ∧ fe (ρ.set i (some (.int (lo + (k : Int))))) = .ok (f k)) :
    compL (gN i) ft fe ρ (rangeD lo n) = .ok ((List.range n).map f) := by
  have e : rangeD lo n = (List.range n).map fun k : Nat => PyData.int (lo + (k : Int)) := rfl
  have gen : ∀ l : List Nat, (∀ k ∈ l, k < n) → compL (gN i) ft fe ρ (l.map fun k : Nat => PyData.int (lo + (k : Int))) = .ok (l.map f) := by
    intro l
    induction l with
    | nil => intro _; rfl
    | cons k l ih =>
      intro hl
      obtain ⟨h1, h2⟩ := h k (hl k List.mem_cons_self)
      have := ih fun x hx => hl x (List.mem_cons_of_mem _ hx)
      simp only [List.map_cons, compL, gN_ap, R.bind_ok, setsD_cons, setsD_nil, h1, h2, calm_okk, this, if_true]
  rw [e]
  exact gen _ fun k hk => List.mem_range.mp hk
theorem vall_bools (bs : List Bool) : vall [.list (bs.map .bool)] = .ok (.bool (bs.all id)) := by simp only [vall, boolsOf_map]
theorem vany_bools (bs : List Bool) : vany [.list (bs.map .bool)] = .ok (.bool (bs.any id)) := by simp only [vany, boolsOf_map]
theorem vsum_ints (ns : List Int) : vsum [.list (ns.map .int)] = .ok (.int ns.sum) := by simp only [vsum, intsOf_map]
theorem rangeD_succ (lo : Int) (n : Nat) : rangeD lo (n + 1) = .int lo :: rangeD (lo + 1) n := by
  unfold rangeD
  rw [List.range_succ_eq_map, List.map_cons, List.map_map]
  congr 1
  · simp
  · refine List.map_congr_left fun k _ => ?_
    simp only [Function.comp]
    congr 1
    omega
theorem rangeD_mem {lo : Int} {n : Nat} {d : PyData} (h : d ∈ rangeD lo n) : ∃ k : Nat, k < n ∧ d = .int (lo + (k : Int)) := by
  obtain ⟨i, hi⟩ := List.getElem?_of_mem h
  exact ⟨i, (rangeD_get hi).1, (rangeD_get hi).2⟩
theorem any_range {lo : Int} {n : Nat} {p : PyData → Bool} : (rangeD lo n).any p = (List.range n).any fun k => p (.int (lo + (k : Int))) := by
  unfold rangeD
  rw [List.any_map]
  rfl
end VL

namespace VL
open PySem PySem.Spec PyProof.Rows L2

/-! ### typed values -/
class Enc (α : Type) where
  e : α → PyData
open Enc (e)
structure Tup (α : Type) where
  l : List α
  deriving DecidableEq
structure T1 (α : Type) where
  a : α
  deriving DecidableEq
structure T3 (α β γ : Type) where
  a : α
  b : β
  c : γ
  deriving DecidableEq
structure T4 (α β γ δ : Type) where
  a : α
  b : β
  c : γ
  d : δ
  deriving DecidableEq
structure T5 (α β γ δ ε : Type) where
  a : α
  b : β
  c : γ
  d : δ
  x : ε
  deriving DecidableEq
structure T6 (α β γ δ ε ζ : Type) where
  a : α
  b : β
  c : γ
  d : δ
  x : ε
  y : ζ
  deriving DecidableEq
structure T7 (α β γ δ ε ζ η : Type) where
  a : α
  b : β
  c : γ
  d : δ
  x : ε
  y : ζ
  z : η
  deriving DecidableEq
instance : Enc Int := ⟨.int⟩
instance : Enc Bool := ⟨.bool⟩
instance : Enc Str := ⟨.str⟩
instance : Enc Unit := ⟨fun _ => .none⟩
instance : Enc PyData := ⟨fun d => d⟩
section
variable {α β γ δ ε ζ η θ ι : Type} [Enc α] [Enc β] [Enc γ] [Enc δ] [Enc ε] [Enc ζ] [Enc η] [Enc θ] [Enc ι]
instance : Enc (List α) := ⟨fun xs => .list (xs.map Enc.e)⟩
instance : Enc (Tup α) := ⟨fun xs => .tuple (xs.l.map Enc.e)⟩
instance : Enc (T1 α) := ⟨fun p => .tuple [e p.a]⟩
instance : Enc (α × β) := ⟨fun p => .tuple [e p.1, e p.2]⟩
instance : Enc (T3 α β γ) := ⟨fun p => .tuple [e p.a, e p.b, e p.c]⟩
instance : Enc (T4 α β γ δ) := ⟨fun p => .tuple [e p.a, e p.b, e p.c, e p.d]⟩
instance : Enc (T5 α β γ δ ε) := ⟨fun p => .tuple [e p.a, e p.b, e p.c, e p.d, e p.x]⟩
instance : Enc (T6 α β γ δ ε ζ) := ⟨fun p => .tuple [e p.a, e p.b, e p.c, e p.d, e p.x, e p.y]⟩
instance : Enc (T7 α β γ δ ε ζ η) := ⟨fun p => .tuple [e p.a, e p.b, e p.c, e p.d, e p.x, e p.y, e p.z]⟩
instance : Enc (Option α) := ⟨fun o => match o with | none => .none | some a => e a⟩
end

/-! ### what the typed side says of the untyped one -/
def TQ {α γ : Type} (f : α → γ) (x : R γ) (t : R α) : Prop := match t with
  | .ok a => x = .ok (f a)
  | .err c => x = .err c
  | .stuck => True
theorem TQ.ok {α γ : Type} {f : α → γ} {x : R γ} {t : R α} {a : α} (h : TQ f x t) (e : t = .ok a) : x = .ok (f a) := by subst e; exact h
theorem TQ.er {α γ : Type} {f : α → γ} {x : R γ} {t : R α} {c : Str} (h : TQ f x t) (e : t = .err c) : x = .err c := by subst e; exact h
theorem TQ.bind {α γ α' γ' : Type} {f : α → γ} {f' : α' → γ'} {x : R γ} {t : R α} {k : γ → R γ'} {l : α → R α'} (h : TQ f x t) (hk : ∀ a, TQ f' (k (f a)) (l a)) : TQ f' (x.bind k) (t.bind l) := by
  cases t with
  | stuck => trivial
  | err c => show TQ f' (x.bind k) (.err c); rw [show x = .err c from h]; rfl
  | ok a => rw [show x = .ok (f a) from h]; exact hk a
theorem TQ.cast {α γ : Type} {f : α → γ} {x y : R γ} {t : R α} (h : TQ f x t) (e : y = x) : TQ f y t := by rw [e]; exact h
abbrev TEq {α : Type} [Enc α] (x : R PyData) (t : R α) : Prop := TQ Enc.e x t
abbrev TL {α : Type} [Enc α] (x : R (List PyData)) (t : R (List α)) : Prop := TQ (List.map Enc.e) x t
abbrev TB (x t : R Bool) : Prop := TQ (fun b => b) x t
abbrev TO (x t : R (Option Int)) : Prop := TQ (fun b => b) x t
def b1 {α β : Type} (f : α → R β) (s : R α) : R β := s.bind f
def b2 {α β γ : Type} (f : α → β → R γ) (s : R α) (t : R β) : R γ := s.bind fun a => t.bind fun b => f a b
def b3 {α β γ δ : Type} (f : α → β → γ → R δ) (s : R α) (t : R β) (u : R γ) : R δ := s.bind fun a => t.bind fun b => u.bind fun c => f a b c
def b4 {α β γ δ ε : Type} (f : α → β → γ → δ → R ε) (s : R α) (t : R β) (u : R γ) (v : R δ) : R ε := s.bind fun a => t.bind fun b => u.bind fun c => v.bind fun d => f a b c d
def b5 {α β γ δ ε ζ : Type} (f : α → β → γ → δ → ε → R ζ) (s : R α) (t : R β) (u : R γ) (v : R δ) (w : R ε) : R ζ := s.bind fun a => t.bind fun b => u.bind fun c => v.bind fun d => w.bind fun x => f a b c d x
def b6 {α β γ δ ε ζ η : Type} (f : α → β → γ → δ → ε → ζ → R η) (s : R α) (t : R β) (u : R γ) (v : R δ) (w : R ε) (r : R ζ) : R η := s.bind fun a => t.bind fun b => u.bind fun c => v.bind fun d => w.bind fun x => r.bind fun y => f a b c d x y
def b7 {α β γ δ ε ζ η θ : Type} (f : α → β → γ → δ → ε → ζ → η → R θ) (s : R α) (t : R β) (u : R γ) (v : R δ) (w : R ε) (r : R ζ) (q : R η) : R θ := s.bind fun a => t.bind fun b => u.bind fun c => v.bind fun d => w.bind fun x => r.bind fun y => q.bind fun z => f a b c d x y z
def bite {α : Type} (c : R Bool) (s t : R α) : R α := c.bind fun b => if b then s else t
@[simp] theorem b1_ap {α β : Type} (f : α → R β) (s : R α) : b1 f s = s.bind f := rfl
@[simp] theorem b2_ap {α β γ : Type} (f : α → β → R γ) (s : R α) (t : R β) : b2 f s t = s.bind fun a => t.bind fun b => f a b := rfl
@[simp] theorem b3_ap {α β γ δ : Type} (f : α → β → γ → R δ) (s : R α) (t : R β) (u : R γ) : b3 f s t u = s.bind fun a => t.bind fun b => u.bind fun c => f a b c := rfl
@[simp] theorem b4_ap {α β γ δ ε : Type} (f : α → β → γ → δ → R ε) (s : R α) (t : R β) (u : R γ) (v : R δ) : b4 f s t u v = s.bind fun a => t.bind fun b => u.bind fun c => v.bind fun d => f a b c d := rfl
@[simp] theorem b5_ap {α β γ δ ε ζ : Type} (f : α → β → γ → δ → ε → R ζ) (s : R α) (t : R β) (u : R γ) (v : R δ) (w : R ε) : b5 f s t u v w = s.bind fun a => t.bind fun b => u.bind fun c => v.bind fun d => w.bind fun x => f a b c d x := rfl
@[simp] theorem b6_ap {α β γ δ ε ζ η : Type} (f : α → β → γ → δ → ε → ζ → R η) (s : R α) (t : R β) (u : R γ) (v : R δ) (w : R ε) (r : R ζ) : b6 f s t u v w r = s.bind fun a => t.bind fun b => u.bind fun c => v.bind fun d => w.bind fun x => r.bind fun y => f a b c d x y := rfl
@[simp] theorem b7_ap {α β γ δ ε ζ η θ : Type} (f : α → β → γ → δ → ε → ζ → η → R θ) (s : R α) (t : R β) (u : R γ) (v : R δ) (w : R ε) (r : R ζ) (q : R η) : b7 f s t u v w r q = s.bind fun a => t.bind fun b => u.bind fun c => v.bind fun d => w.bind fun x => r.bind fun y => q.bind fun z => f a b c d x y z := rfl
@[simp] theorem bite_ap {α : Type} (c : R Bool) (s t : R α) : bite c s t = c.bind fun b => if b then s else t := rfl
@[simp] theorem R.bind_assoc {α β γ : Type} (x : R α) (f : α → R β) (g : β → R γ) : (x.bind f).bind g = x.bind fun a => (f a).bind g := by cases x <;> rfl
theorem R.bind_ite {α β : Type} (p : Prop) [Decidable p] (x y : R α) (f : α → R β) : (if p then x else y).bind f = if p then x.bind f else y.bind f := by split <;> rfl

/-! ### typed operations -/
def taddI (a b : Int) : R Int := .ok (a + b)
def tsubI (a b : Int) : R Int := .ok (a - b)
noncomputable def tmulI (a b : Int) : R Int := open Classical in if IntMulOk a b then .ok (a * b) else .stuck
noncomputable def tfdivI (a b : Int) : R Int := @ite _ (0 < b ∧ b < 2 ^ 250) (Classical.propDecidable _) (.ok (a / b)) .stuck
def tmodI (a b : Int) : R Int := if 0 < b then .ok (a % b) else .stuck
noncomputable def tpowI (a b : Int) : R Int := @ite _ (0 ≤ b ∧ b ≤ 1000 ∧ a.natAbs < 2 ^ 64) (Classical.propDecidable _) (.ok (a ^ b.toNat)) .stuck
def tnegI (a : Int) : R Int := .ok (-a)
def tltI (a b : Int) : R Bool := .ok (decide (a < b))
def tleI (a b : Int) : R Bool := .ok (decide (a ≤ b))
def tgtI (a b : Int) : R Bool := .ok (decide (b < a))
def tgeI (a b : Int) : R Bool := .ok (decide (b ≤ a))
def taddL {α : Type} (a b : List α) : R (List α) := if a.length + b.length ≤ 16777216 then .ok (a ++ b) else .stuck
def taddV {α : Type} (a b : Tup α) : R (Tup α) := if a.l.length + b.l.length ≤ 16777216 then .ok ⟨a.l ++ b.l⟩ else .stuck
def taddS (a b : Str) : R Str := if a.length + b.length ≤ sizeLine then .ok (a ++ b) else .stuck
def tidx {α : Type} (xs : List α) (i : Int) : R α := match atI xs i with | some d => .ok d | none => .stuck
def tidxV {α : Type} (xs : Tup α) (i : Int) : R α := tidx xs.l i
def tlen {α : Type} (xs : List α) : R Int := .ok xs.length
def tlenV {α : Type} (xs : Tup α) : R Int := .ok xs.l.length
def tlenS (z : Str) : R Int := if z.length ≤ sizeLine then .ok z.length else .stuck
def tint (i : Int) : R Int := .ok i
def tintB (b : Bool) : R Int := .ok (if b then 1 else 0)
def tabs (i : Int) : R Int := .ok (if i < 0 then -i else i)
def ttupL {α : Type} (xs : List α) : R (Tup α) := .ok ⟨xs⟩
def tlistV {α : Type} (xs : Tup α) : R (List α) := .ok xs.l
def tid {α : Type} (x : α) : R α := .ok x
def tsum (xs : List Int) : R Int := .ok xs.sum
def tmaxL (xs : List Int) : R Int := match xs.max? with | some m => .ok m | none => .stuck
def tminL (xs : List Int) : R Int := match xs.min? with | some m => .ok m | none => .stuck
def tmax2 (i j : Int) : R Int := .ok (if j > i then j else i)
def tmin2 (i j : Int) : R Int := .ok (if j < i then j else i)
def tmax3 (i j k : Int) : R Int := .ok (max (max i j) k)
def tmin3 (i j k : Int) : R Int := .ok (min (min i j) k)
def tallB (xs : List Bool) : R Bool := .ok (xs.all id)
def tanyB (xs : List Bool) : R Bool := .ok (xs.any id)
def cutG {α : Type} (xs : List α) (lo hi : Option Int) : List α := (xs.drop (HT.sIx xs.length 0 lo)).take (HT.sIx xs.length xs.length hi - HT.sIx xs.length 0 lo)
def tcut {α : Type} (xs : List α) (lo hi : Option Int) : R (List α) := .ok (cutG xs lo hi)
def tcutV {α : Type} (xs : Tup α) (lo hi : Option Int) : R (Tup α) := .ok ⟨cutG xs.l lo hi⟩
def tpart (i : Int) : R (Option Int) := .ok (some i)
def rangeI (lo : Int) (n : Nat) : List Int := (List.range n).map fun i : Nat => lo + (i : Int)
def rangeCI (lo c : Int) (n : Nat) : List Int := (List.range n).map fun i : Nat => lo + (i : Int) * c
noncomputable def trange1 (j : Int) : R (List Int) := if rngOk 0 j then .ok (rangeI 0 j.toNat) else .stuck
noncomputable def trange2 (i j : Int) : R (List Int) := if rngOk i j then .ok (rangeI i (j - i).toNat) else .stuck
noncomputable def trangeN (i j : Int) : R (List Int) := if rngOk i j ∧ i - j ≤ 16777216 then .ok (rangeCI i (-1) (i - j).toNat) else .stuck
def tenum {α : Type} (xs : List α) : R (List (Int × α)) := .ok (xs.mapIdx fun i d => ((i : Int), d))
def tzip {α β : Type} (xs : List α) (ys : List β) : R (List (α × β)) := .ok (List.zipWith (fun a b => (a, b)) xs ys)
def trev {α : Type} (xs : List α) : R (List α) := .ok xs.reverse
def tsort (xs : List Int) : R (List Int) := .ok (srtI xs)
def tseqV {α : Type} (xs : Tup α) : R (List α) := .ok xs.l
def tnotB (b : Bool) : R Bool := .ok (!b)
def tandB (s t : R Bool) : R Bool := s.bind fun b => if b then t else .ok false
def torB (s t : R Bool) : R Bool := s.bind fun b => if b then .ok true else t
def tchain {α β γ : Type} (g : α → β → R Bool) (g' : β → γ → R Bool) (s : R α) (t : R β) (u : R γ) : R Bool := s.bind fun a => t.bind fun b => (g a b).bind fun k => if k then u.bind fun c => g' b c else .ok false
def ttruI (i : Int) : R Bool := .ok (i != 0)
def ttruL {α : Type} (xs : List α) : R Bool := .ok (!xs.isEmpty)
def ttruV {α : Type} (xs : Tup α) : R Bool := .ok (!xs.l.isEmpty)
def tisnoneD (d : PyData) : R Bool := .ok (match d with | .none => true | _ => false)
def tisnoneO {α : Type} (o : Option α) : R Bool := .ok o.isNone
def tcons {α : Type} (s : R α) (t : R (List α)) : R (List α) := s.bind fun a => t.bind fun as => .ok (a :: as)
def tcomp {α β : Type} (c : α → R Bool) (f : α → R β) : List α → R (List β)
  | [] => .ok []
  | a :: as => ((c a).calm).bind fun b => if b then ((f a).calm).bind fun y => (tcomp c f as).bind fun ys => .ok (y :: ys) else tcomp c f as
def tmap {α β : Type} (f : α → R β) : List α → R (List β)
  | [] => .ok []
  | a :: as => ((f a).calm).bind fun y => (tmap f as).bind fun ys => .ok (y :: ys)
def tpair {α β : Type} (s : R α) (t : R β) : R (α × β) := s.bind fun a => t.bind fun b => .ok (a, b)
@[simp] theorem taddI_ap (a b : Int) : taddI a b = .ok (a + b) := rfl
@[simp] theorem tsubI_ap (a b : Int) : tsubI a b = .ok (a - b) := rfl
@[simp] theorem tnegI_ap (a : Int) : tnegI a = .ok (-a) := rfl
@[simp] theorem tltI_ap (a b : Int) : tltI a b = .ok (decide (a < b)) := rfl
@[simp] theorem tleI_ap (a b : Int) : tleI a b = .ok (decide (a ≤ b)) := rfl
@[simp] theorem tgtI_ap (a b : Int) : tgtI a b = .ok (decide (b < a)) := rfl
@[simp] theorem tgeI_ap (a b : Int) : tgeI a b = .ok (decide (b ≤ a)) := rfl
@[simp] theorem tlen_ap {α : Type} (xs : List α) : tlen xs = .ok (xs.length : Int) := rfl
@[simp] theorem tlenV_ap {α : Type} (xs : Tup α) : tlenV xs = .ok (xs.l.length : Int) := rfl
@[simp] theorem tint_ap (i : Int) : tint i = .ok i := rfl
@[simp] theorem tintB_ap (b : Bool) : tintB b = .ok (if b then 1 else 0) := rfl
@[simp] theorem tabs_ap (i : Int) : tabs i = .ok (if i < 0 then -i else i) := rfl
@[simp] theorem ttupL_ap {α : Type} (xs : List α) : ttupL xs = .ok ⟨xs⟩ := rfl
@[simp] theorem tlistV_ap {α : Type} (xs : Tup α) : tlistV xs = .ok xs.l := rfl
@[simp] theorem tid_ap {α : Type} (x : α) : tid x = .ok x := rfl
@[simp] theorem tsum_ap (xs : List Int) : tsum xs = .ok xs.sum := rfl
@[simp] theorem tmax2_ap (i j : Int) : tmax2 i j = .ok (if j > i then j else i) := rfl
@[simp] theorem tmin2_ap (i j : Int) : tmin2 i j = .ok (if j < i then j else i) := rfl
@[simp] theorem tmax3_ap (i j k : Int) : tmax3 i j k = .ok (max (max i j) k) := rfl
@[simp] theorem tmin3_ap (i j k : Int) : tmin3 i j k = .ok (min (min i j) k) := rfl
@[simp] theorem tallB_ap (xs : List Bool) : tallB xs = .ok (xs.all id) := rfl
@[simp] theorem tanyB_ap (xs : List Bool) : tanyB xs = .ok (xs.any id) := rfl
@[simp] theorem tcut_ap {α : Type} (xs : List α) (lo hi : Option Int) : tcut xs lo hi = .ok (cutG xs lo hi) := rfl
@[simp] theorem tcutV_ap {α : Type} (xs : Tup α) (lo hi : Option Int) : tcutV xs lo hi = .ok ⟨cutG xs.l lo hi⟩ := rfl
@[simp] theorem tpart_ap (i : Int) : tpart i = .ok (some i) := rfl
@[simp] theorem tenum_ap {α : Type} (xs : List α) : tenum xs = .ok (xs.mapIdx fun i d => ((i : Int), d)) := rfl
@[simp] theorem tzip_ap {α β : Type} (xs : List α) (ys : List β) : tzip xs ys = .ok (List.zipWith (fun a b => (a, b)) xs ys) := rfl
@[simp] theorem trev_ap {α : Type} (xs : List α) : trev xs = .ok xs.reverse := rfl
@[simp] theorem tsort_ap (xs : List Int) : tsort xs = .ok (srtI xs) := rfl
@[simp] theorem tseqV_ap {α : Type} (xs : Tup α) : tseqV xs = .ok xs.l := rfl
@[simp] theorem tnotB_ap (b : Bool) : tnotB b = .ok (!b) := rfl
@[simp] theorem tandB_ap (s t : R Bool) : tandB s t = s.bind fun b => if b then t else .ok false := rfl
@[simp] theorem torB_ap (s t : R Bool) : torB s t = s.bind fun b => if b then .ok true else t := rfl
@[simp] theorem tchain_ap {α β γ : Type} (g : α → β → R Bool) (g' : β → γ → R Bool) (s : R α) (t : R β) (u : R γ) : tchain g g' s t u = s.bind fun a => t.bind fun b => (g a b).bind fun k => if k then u.bind fun c => g' b c else .ok false := rfl
@[simp] theorem ttruI_ap (i : Int) : ttruI i = .ok (i != 0) := rfl
@[simp] theorem ttruL_ap {α : Type} (xs : List α) : ttruL xs = .ok (!xs.isEmpty) := rfl
@[simp] theorem ttruV_ap {α : Type} (xs : Tup α) : ttruV xs = .ok (!xs.l.isEmpty) := rfl
@[simp] theorem tisnoneO_ap {α : Type} (o : Option α) : tisnoneO o = .ok o.isNone := rfl
@[simp] theorem tisnoneD_ap (d : PyData) : tisnoneD d = .ok (match d with | .none => true | _ => false) := rfl
@[simp] theorem tcons_ap {α : Type} (s : R α) (t : R (List α)) : tcons s t = s.bind fun a => t.bind fun as => .ok (a :: as) := rfl
@[simp] theorem tpair_ap {α β : Type} (s : R α) (t : R β) : tpair s t = s.bind fun a => t.bind fun b => .ok (a, b) := rfl
@[simp] theorem tidxV_ap {α : Type} (xs : Tup α) (i : Int) : tidxV xs i = tidx xs.l i := rfl

/-! ### equality -/
class EqE (α : Type) [Enc α] where
  dec : DecidableEq α
  ok : α → Prop
  dep : Nat
  lay : ∀ a, ok a → okS dep (e a)
  eqv : ∀ a b : α, ok a → ok b → PyData.eqv (e a) (e b) = @decide (a = b) (dec a b)
instance : EqE Int where
  dec := inferInstance
  ok := fun _ => True
  dep := 1
  lay := fun _ _ => trivial
  eqv := fun a b _ _ => by simp [Enc.e, PyData.eqv, Bool.beq_eq_decide_eq]
instance : EqE Bool where
  dec := inferInstance
  ok := fun _ => True
  dep := 1
  lay := fun _ _ => trivial
  eqv := fun a b _ _ => by simp [Enc.e, PyData.eqv, Bool.beq_eq_decide_eq]
instance : EqE Str where
  dec := inferInstance
  ok := fun s => PyData.strOk s = true
  dep := 1
  lay := fun _ h => h
  eqv := fun a b _ _ => by simp [Enc.e, PyData.eqv, Bool.beq_eq_decide_eq]
instance : EqE Unit where
  dec := inferInstance
  ok := fun _ => True
  dep := 1
  lay := fun _ _ => trivial
  eqv := fun a b _ _ => by simp [Enc.e, PyData.eqv]
section
variable {α β γ δ ε ζ η : Type} [Enc α] [Enc β] [Enc γ] [Enc δ] [Enc ε] [Enc ζ] [Enc η]
theorem eqvAll_map [q : EqE α] : ∀ xs ys : List α, (∀ x ∈ xs, EqE.ok x) → (∀ x ∈ ys, EqE.ok x) → PyData.eqvAll (xs.map e) (ys.map e) = (@List.hasDecEq α q.dec xs ys).decide
  | [], [], _, _ => by simp [PyData.eqvAll]
  | [], _ :: _, _, _ => by simp [PyData.eqvAll]
  | _ :: _, [], _, _ => by simp [PyData.eqvAll]
  | x :: xs, y :: ys, h, g => by
    have ih := eqvAll_map xs ys (fun z hz => h z (List.mem_cons_of_mem _ hz)) fun z hz => g z (List.mem_cons_of_mem _ hz)
    have ix := EqE.eqv x y (h x List.mem_cons_self) (g y List.mem_cons_self)
    simp only [List.map_cons, PyData.eqvAll, ix, ih]
    rw [Bool.eq_iff_iff]
    simp
instance [q : EqE α] : EqE (List α) where
  dec := @List.hasDecEq α q.dec
  ok := fun xs => xs.length ≤ 16777216 ∧ ∀ x ∈ xs, EqE.ok x
  dep := EqE.dep α + 1
  lay := fun xs h => ⟨by rw [List.length_map]; exact h.1, fun x hx => by
    obtain ⟨a, ha, rfl⟩ := List.mem_map.mp hx
    exact EqE.lay a (h.2 a ha)⟩
  eqv := fun xs ys h g => by
    show PyData.eqv (.list _) (.list _) = _
    simp only [PyData.eqv]
    exact eqvAll_map xs ys h.2 g.2
instance [q : EqE α] : EqE (Tup α) where
  dec := fun a b => @instDecidableEqTup.decEq α q.dec a b
  ok := fun xs => xs.l.length ≤ 16777216 ∧ ∀ x ∈ xs.l, EqE.ok x
  dep := EqE.dep α + 1
  lay := fun xs h => ⟨by rw [List.length_map]; exact h.1, fun x hx => by
    obtain ⟨a, ha, rfl⟩ := List.mem_map.mp hx
    exact EqE.lay a (h.2 a ha)⟩
  eqv := fun xs ys h g => by
    obtain ⟨xs⟩ := xs
    obtain ⟨ys⟩ := ys
    show PyData.eqv (.tuple _) (.tuple _) = _
    simp only [PyData.eqv]
    rw [eqvAll_map xs ys h.2 g.2, Bool.eq_iff_iff]
    simp
theorem okS_m {n m : Nat} {d : PyData} (h : okS n d) (l : n ≤ m) : okS m d := okS.mono l h
instance [q : EqE α] : EqE (T1 α) where
  dec := fun a b => @instDecidableEqT1.decEq α q.dec a b
  ok := fun p => EqE.ok p.a
  dep := EqE.dep α + 1
  lay := fun p h => ⟨by simp, fun x hx => by
    rw [List.mem_singleton.mp hx]
    exact EqE.lay p.a h⟩
  eqv := fun p q h g => by
    obtain ⟨a⟩ := p
    obtain ⟨b⟩ := q
    show PyData.eqv (.tuple [e a]) (.tuple [e b]) = _
    simp only [PyData.eqv, PyData.eqvAll]
    rw [EqE.eqv a b h g, Bool.eq_iff_iff]
    simp
instance [q : EqE α] [r : EqE β] : EqE (α × β) where
  dec := @instDecidableEqProd α β q.dec r.dec
  ok := fun p => EqE.ok p.1 ∧ EqE.ok p.2
  dep := max (EqE.dep α) (EqE.dep β) + 1
  lay := fun p h => ⟨by simp, fun x hx => by
    simp only [List.mem_cons, List.not_mem_nil, or_false] at hx
    rcases hx with rfl | rfl
    · exact okS_m (EqE.lay _ h.1) (by omega)
    · exact okS_m (EqE.lay _ h.2) (by omega)⟩
  eqv := fun p q h g => by
    obtain ⟨a, b⟩ := p
    obtain ⟨c, d⟩ := q
    show PyData.eqv (.tuple [e a, e b]) (.tuple [e c, e d]) = _
    simp only [PyData.eqv, PyData.eqvAll]
    rw [EqE.eqv a c h.1 g.1, EqE.eqv b d h.2 g.2, Bool.eq_iff_iff]
    simp
instance [q : EqE α] [r : EqE β] [s : EqE γ] : EqE (T3 α β γ) where
  dec := fun a b => @instDecidableEqT3.decEq α β γ q.dec r.dec s.dec a b
  ok := fun p => EqE.ok p.a ∧ EqE.ok p.b ∧ EqE.ok p.c
  dep := max (EqE.dep α) (max (EqE.dep β) (EqE.dep γ)) + 1
  lay := fun p h => ⟨by simp, fun x hx => by
    simp only [List.mem_cons, List.not_mem_nil, or_false] at hx
    rcases hx with rfl | rfl | rfl
    · exact okS_m (EqE.lay _ h.1) (by omega)
    · exact okS_m (EqE.lay _ h.2.1) (by omega)
    · exact okS_m (EqE.lay _ h.2.2) (by omega)⟩
  eqv := fun p q h g => by
    obtain ⟨a, b, c⟩ := p
    obtain ⟨a', b', c'⟩ := q
    show PyData.eqv (.tuple [e a, e b, e c]) (.tuple [e a', e b', e c']) = _
    simp only [PyData.eqv, PyData.eqvAll]
    rw [EqE.eqv a a' h.1 g.1, EqE.eqv b b' h.2.1 g.2.1, EqE.eqv c c' h.2.2 g.2.2, Bool.eq_iff_iff]
    simp
instance [q : EqE α] [r : EqE β] [s : EqE γ] [t : EqE δ] : EqE (T4 α β γ δ) where
  dec := fun a b => @instDecidableEqT4.decEq α β γ δ q.dec r.dec s.dec t.dec a b
  ok := fun p => EqE.ok p.a ∧ EqE.ok p.b ∧ EqE.ok p.c ∧ EqE.ok p.d
  dep := max (max (EqE.dep α) (EqE.dep β)) (max (EqE.dep γ) (EqE.dep δ)) + 1
  lay := fun p h => ⟨by simp, fun x hx => by
    simp only [List.mem_cons, List.not_mem_nil, or_false] at hx
    rcases hx with rfl | rfl | rfl | rfl
    · exact okS_m (EqE.lay _ h.1) (by omega)
    · exact okS_m (EqE.lay _ h.2.1) (by omega)
    · exact okS_m (EqE.lay _ h.2.2.1) (by omega)
    · exact okS_m (EqE.lay _ h.2.2.2) (by omega)⟩
  eqv := fun p q h g => by
    obtain ⟨a, b, c, d⟩ := p
    obtain ⟨a', b', c', d'⟩ := q
    show PyData.eqv (.tuple [e a, e b, e c, e d]) (.tuple [e a', e b', e c', e d']) = _
    simp only [PyData.eqv, PyData.eqvAll]
    rw [EqE.eqv a a' h.1 g.1, EqE.eqv b b' h.2.1 g.2.1, EqE.eqv c c' h.2.2.1 g.2.2.1, EqE.eqv d d' h.2.2.2 g.2.2.2, Bool.eq_iff_iff]
    simp
end
noncomputable def teq {α : Type} [Enc α] [q : EqE α] (a b : α) : R Bool := @ite _ (EqE.ok a ∧ EqE.ok b) (Classical.propDecidable _) (.ok (@decide (a = b) (q.dec a b))) .stuck
noncomputable def tne {α : Type} [Enc α] [q : EqE α] (a b : α) : R Bool := @ite _ (EqE.ok a ∧ EqE.ok b) (Classical.propDecidable _) (.ok (!@decide (a = b) (q.dec a b))) .stuck
noncomputable def tin {α : Type} [Enc α] [q : EqE α] (a : α) (xs : List α) : R Bool := @ite _ (EqE.ok a ∧ EqE.ok xs) (Classical.propDecidable _) (.ok (xs.any fun x => @decide (x = a) (q.dec x a))) .stuck
noncomputable def tnin {α : Type} [Enc α] [q : EqE α] (a : α) (xs : List α) : R Bool := @ite _ (EqE.ok a ∧ EqE.ok xs) (Classical.propDecidable _) (.ok (!xs.any fun x => @decide (x = a) (q.dec x a))) .stuck
@[simp] theorem ok_int (a : Int) : EqE.ok a = True := rfl
@[simp] theorem ok_bool (a : Bool) : EqE.ok a = True := rfl
@[simp] theorem ok_unit (a : Unit) : EqE.ok a = True := rfl
@[simp] theorem ok_str (a : Str) : EqE.ok a = (PyData.strOk a = true) := rfl
section
variable {α β γ δ : Type} [Enc α] [Enc β] [Enc γ] [Enc δ]
@[simp] theorem ok_list [EqE α] (a : List α) : EqE.ok a = (a.length ≤ 16777216 ∧ ∀ x ∈ a, EqE.ok x) := rfl
@[simp] theorem ok_vt [EqE α] (a : Tup α) : EqE.ok a = (a.l.length ≤ 16777216 ∧ ∀ x ∈ a.l, EqE.ok x) := rfl
@[simp] theorem ok_t1 [EqE α] (p : T1 α) : EqE.ok p = EqE.ok p.a := rfl
@[simp] theorem ok_pair [EqE α] [EqE β] (p : α × β) : EqE.ok p = (EqE.ok p.1 ∧ EqE.ok p.2) := rfl
@[simp] theorem ok_t3 [EqE α] [EqE β] [EqE γ] (p : T3 α β γ) : EqE.ok p = (EqE.ok p.a ∧ EqE.ok p.b ∧ EqE.ok p.c) := rfl
@[simp] theorem ok_t4 [EqE α] [EqE β] [EqE γ] [EqE δ] (p : T4 α β γ δ) : EqE.ok p = (EqE.ok p.a ∧ EqE.ok p.b ∧ EqE.ok p.c ∧ EqE.ok p.d) := rfl
theorem decide_any {p : Prop} (d1 d2 : Decidable p) : @decide p d1 = @decide p d2 := by congr
theorem teq_ok [q : EqE α] [DecidableEq α] {a b : α} (h : EqE.ok a) (g : EqE.ok b) : teq a b = .ok (decide (a = b)) := by unfold teq; rw [if_pos ⟨h, g⟩]; congr
theorem tne_ok [q : EqE α] [DecidableEq α] {a b : α} (h : EqE.ok a) (g : EqE.ok b) : tne a b = .ok (!decide (a = b)) := by unfold tne; rw [if_pos ⟨h, g⟩]; congr
theorem tin_ok [q : EqE α] [DecidableEq α] {a : α} {xs : List α} (h : EqE.ok a) (g : EqE.ok xs) : tin a xs = .ok (decide (a ∈ xs)) := by
  unfold tin; rw [if_pos ⟨h, g⟩]
  congr 1
  rw [Bool.eq_iff_iff]
  simp
theorem tnin_ok [q : EqE α] [DecidableEq α] {a : α} {xs : List α} (h : EqE.ok a) (g : EqE.ok xs) : tnin a xs = .ok (!decide (a ∈ xs)) := by
  unfold tnin; rw [if_pos ⟨h, g⟩]
  congr 2
  rw [Bool.eq_iff_iff]
  simp
@[simp] theorem teq_int (a b : Int) : teq a b = .ok (decide (a = b)) := teq_ok trivial trivial
@[simp] theorem tne_int (a b : Int) : tne a b = .ok (!decide (a = b)) := tne_ok trivial trivial
@[simp] theorem teq_bool (a b : Bool) : teq a b = .ok (decide (a = b)) := teq_ok trivial trivial
@[simp] theorem tne_bool (a b : Bool) : tne a b = .ok (!decide (a = b)) := tne_ok trivial trivial
theorem teq_rfl [q : EqE α] {a : α} (h : EqE.ok a) : teq a a = .ok true := by letI := q.dec; rw [teq_ok h h]; simp
theorem tne_rfl [q : EqE α] {a : α} (h : EqE.ok a) : tne a a = .ok false := by letI := q.dec; rw [tne_ok h h]; simp
end
/-! ### what is there or not -/
class NN (α : Type) [Enc α] : Prop where
  nn : ∀ a : α, PyData.eqv .none (e a) = false ∧ PyData.eqv (e a) .none = false
instance : NN Int := ⟨fun _ => ⟨rfl, rfl⟩⟩
instance : NN Bool := ⟨fun _ => ⟨rfl, rfl⟩⟩
instance : NN Str := ⟨fun _ => ⟨rfl, rfl⟩⟩
instance {α : Type} [Enc α] : NN (List α) := ⟨fun _ => ⟨rfl, rfl⟩⟩
instance {α : Type} [Enc α] : NN (Tup α) := ⟨fun _ => ⟨rfl, rfl⟩⟩
instance {α : Type} [Enc α] : NN (T1 α) := ⟨fun _ => ⟨rfl, rfl⟩⟩
instance {α β : Type} [Enc α] [Enc β] : NN (α × β) := ⟨fun _ => ⟨rfl, rfl⟩⟩
instance {α β γ : Type} [Enc α] [Enc β] [Enc γ] : NN (T3 α β γ) := ⟨fun _ => ⟨rfl, rfl⟩⟩
instance {α β γ δ : Type} [Enc α] [Enc β] [Enc γ] [Enc δ] : NN (T4 α β γ δ) := ⟨fun _ => ⟨rfl, rfl⟩⟩
theorem dec_os {α : Type} (i : DecidableEq α) (j : DecidableEq (Option α)) (a b : α) : @decide (a = b) (i a b) = @decide (some a = some b) (j (some a) (some b)) := by
  by_cases h : a = b
  · rw [decide_eq_true h, decide_eq_true (congrArg some h)]
  · rw [decide_eq_false h, decide_eq_false fun k => h (Option.some.inj k)]
instance {α : Type} [Enc α] [q : EqE α] [n : NN α] : EqE (Option α) where
  dec := letI := q.dec; inferInstance
  ok := fun o => match o with | none => True | some a => EqE.ok a
  dep := EqE.dep α + 1
  lay := fun o h => by
    cases o with
    | none => exact trivial
    | some a => exact okS_m (EqE.lay a h) (by omega)
  eqv := fun a b h g => by
    cases a with
    | none => cases b with
      | none => rfl
      | some b => exact (NN.nn b).1
    | some a => cases b with
      | none => exact (NN.nn a).2
      | some b => exact (EqE.eqv a b h g).trans (dec_os _ _ _ _)
@[simp] theorem ok_onone {α : Type} [Enc α] [q : EqE α] [n : NN α] : EqE.ok (none : Option α) = True := rfl
@[simp] theorem ok_osome {α : Type} [Enc α] [q : EqE α] [n : NN α] (a : α) : EqE.ok (some a) = EqE.ok a := rfl
theorem ok_oint (a : Option Int) : EqE.ok a := by cases a <;> exact trivial
@[simp] theorem teq_oint (a b : Option Int) : teq a b = .ok (decide (a = b)) := teq_ok (ok_oint a) (ok_oint b)
@[simp] theorem tne_oint (a b : Option Int) : tne a b = .ok (!decide (a = b)) := tne_ok (ok_oint a) (ok_oint b)
end VL

namespace VL
open PySem PySem.Spec PyProof.Rows L2
open Enc (e)

/-! ### typed rules: expressions -/
section
variable {α β γ δ ε ζ η θ : Type} [Enc α] [Enc β] [Enc γ] [Enc δ] [Enc ε] [Enc ζ] [Enc η] [Enc θ] {ρ : PEnv} {f g h f1 f2 f3 f4 f5 f6 f7 : PEnv → R PyData}
theorem t_var (i : Nat) (a : α) (h : ρ[i]? = some (some (e a)) := by rfl) : TEq (vVar i ρ) (.ok a) := by
  show vVar i ρ = .ok (e a)
  unfold vVar; rw [h]
theorem t_varO (i : Nat) (ox : α → O) (a : α) (hd : ∀ a, O.data (ox a) = e a) (h : ρ[i]? = some (some (O.data (ox a))) := by rfl) : TEq (vVar i ρ) (.ok a) := by
  show vVar i ρ = .ok (e a)
  unfold vVar; rw [h, hd]
theorem t_c {d : PyData} (a : α) (h : d = e a := by rfl) : TEq (vC d ρ) (.ok a) := by rw [h]; exact rfl
theorem t_2 {op : PyData → PyData → R PyData} {top : α → β → R γ} {s : R α} {t : R β} (ho : ∀ a b, TEq (op (e a) (e b)) (top a b)) (ha : TEq (f ρ) s) (hb : TEq (g ρ) t) : TEq (v2 op f g ρ) (b2 top s t) :=
  ha.bind fun a => hb.bind fun b => ho a b
theorem t_1 {op : PyData → R PyData} {top : α → R γ} {s : R α} (ho : ∀ a, TEq (op (e a)) (top a)) (ha : TEq (f ρ) s) : TEq (v1 op f ρ) (b1 top s) := ha.bind ho
theorem t_vnn {top : α → R Bool} {s : R α} (ho : ∀ a, TEq (visnone (e a)) (top a)) (ha : TEq (f ρ) s) : TEq (vnn f ρ) (b1 tnotB (b1 top s)) := by
  rw [vnn_ap]
  show TEq _ ((s.bind top).bind tnotB)
  rw [R.bind_assoc]
  refine ha.bind fun a => ?_
  have h := ho a
  cases ht : top a with
  | stuck => trivial
  | err c => rw [ht] at h; exact nomatch (show visnone (e a) = .err c from h)
  | ok b =>
    rw [ht] at h
    have h2 : visnone (e a) = .ok (.bool b) := h
    unfold visnone at h2
    show R.ok _ = R.ok (PyData.bool (!b))
    cases hd : e a <;> (rw [hd] at h2; simp at h2; subst h2; rfl)
theorem t_tnn {top : α → R Bool} {s : R α} (ho : ∀ a, TEq (visnone (e a)) (top a)) (ha : TEq (f ρ) s) : TB (tnn f ρ) (b1 tnotB (b1 top s)) := by
  have h1 : TEq (v1 visnone f ρ) (b1 top s) := ha.bind ho
  exact h1.bind fun b => by cases b <;> rfl
theorem t_tst {s : R Bool} (ha : TEq (f ρ) s) : TB (tst f ρ) s := by
  cases s with
  | stuck => trivial
  | err c => show (f ρ).bind tbool = _; rw [show f ρ = .err c from ha]; rfl
  | ok b => show (f ρ).bind tbool = _; rw [show f ρ = .ok (.bool b) from ha]; rfl
theorem t_ttr {s : R α} {top : α → R Bool} (ho : ∀ a, TB (vtruth (e a)) (top a)) (ha : TEq (f ρ) s) : TB (ttr f ρ) (b1 top s) := ha.bind ho
theorem t_tand {c d : PEnv → R Bool} {s t : R Bool} (ha : TB (c ρ) s) (hb : TB (d ρ) t) : TB (tand c d ρ) (tandB s t) := ha.bind fun b => by cases b <;> first | exact hb | exact rfl
theorem t_tor {c d : PEnv → R Bool} {s t : R Bool} (ha : TB (c ρ) s) (hb : TB (d ρ) t) : TB (tor c d ρ) (torB s t) := ha.bind fun b => by cases b <;> first | exact hb | exact rfl
theorem t_tnot {c : PEnv → R Bool} {s : R Bool} (ha : TB (c ρ) s) : TB (tnot c ρ) (b1 tnotB s) := ha.bind fun b => rfl
theorem t_vand {s t : R Bool} (ha : TEq (f ρ) s) (hb : TEq (g ρ) t) : TEq (vand f g ρ) (tandB s t) := ha.bind fun b => by cases b <;> first | exact hb | exact rfl
theorem t_vor {s t : R Bool} (ha : TEq (f ρ) s) (hb : TEq (g ρ) t) : TEq (vor f g ρ) (torB s t) := ha.bind fun b => by cases b <;> first | exact hb | exact rfl
theorem t_vnot {s : R Bool} (ha : TEq (f ρ) s) : TEq (vnot f ρ) (b1 tnotB s) := ha.bind fun b => rfl
theorem t_vif {c : PEnv → R Bool} {u : R Bool} {s t : R α} (hc : TB (c ρ) u) (ha : TEq (f ρ) s) (hb : TEq (g ρ) t) : TEq (vif c f g ρ) (bite u s t) := hc.bind fun b => by cases b <;> first | exact hb | exact ha
theorem t_vchain {op op' : PyData → PyData → R PyData} {top : α → β → R Bool} {top' : β → γ → R Bool} {s : R α} {t : R β} {u : R γ} (ho : ∀ a b, TEq (op (e a) (e b)) (top a b)) (ho' : ∀ a b, TEq (op' (e a) (e b)) (top' a b)) (ha : TEq (f ρ) s) (hb : TEq (g ρ) t) (hc : TEq (h ρ) u) : TEq (vchain op op' f g h ρ) (tchain top top' s t u) :=
  ha.bind fun a => hb.bind fun b => (ho a b).bind fun k => by
    cases k
    · exact rfl
    · exact hc.bind fun c => ho' b c
/-! calls -/
theorem t_call0 {m : List PyData → R PyData} {t : R α} (hm : TEq (m []) t) : TEq ((fun _ : PEnv => m []) ρ) t := hm
theorem t_call1 {m : List PyData → R PyData} {t : α → R β} (hm : ∀ a, TEq (m [e a]) (t a)) {s1 : R α} (h1 : TEq (f1 ρ) s1) : TEq (vapp m (aCons f1 aNil) ρ) (b1 t s1) := by
  show TEq (R.bind (R.bind (f1 ρ) fun d => .ok [d]) m) _
  rw [R.bind_assoc]
  exact h1.bind fun a => hm a
theorem t_call2 {m : List PyData → R PyData} {t : α → β → R γ} (hm : ∀ a b, TEq (m [e a, e b]) (t a b)) {s1 : R α} {s2 : R β} (h1 : TEq (f1 ρ) s1) (h2 : TEq (f2 ρ) s2) : TEq (vapp m (aCons f1 (aCons f2 aNil)) ρ) (b2 t s1 s2) := by
  simp only [vapp_ap, aCons_ap, aNil_ap, R.bind_assoc, R.bind_ok]
  exact h1.bind fun a => h2.bind fun b => hm a b
theorem t_call3 {m : List PyData → R PyData} {t : α → β → γ → R δ} (hm : ∀ a b c, TEq (m [e a, e b, e c]) (t a b c)) {s1 : R α} {s2 : R β} {s3 : R γ} (h1 : TEq (f1 ρ) s1) (h2 : TEq (f2 ρ) s2) (h3 : TEq (f3 ρ) s3) : TEq (vapp m (aCons f1 (aCons f2 (aCons f3 aNil))) ρ) (b3 t s1 s2 s3) := by
  simp only [vapp_ap, aCons_ap, aNil_ap, R.bind_assoc, R.bind_ok]
  exact h1.bind fun a => h2.bind fun b => h3.bind fun c => hm a b c
theorem t_call4 {m : List PyData → R PyData} {t : α → β → γ → δ → R ε} (hm : ∀ a b c d, TEq (m [e a, e b, e c, e d]) (t a b c d)) {s1 : R α} {s2 : R β} {s3 : R γ} {s4 : R δ} (h1 : TEq (f1 ρ) s1) (h2 : TEq (f2 ρ) s2) (h3 : TEq (f3 ρ) s3) (h4 : TEq (f4 ρ) s4) : TEq (vapp m (aCons f1 (aCons f2 (aCons f3 (aCons f4 aNil)))) ρ) (b4 t s1 s2 s3 s4) := by
  simp only [vapp_ap, aCons_ap, aNil_ap, R.bind_assoc, R.bind_ok]
  exact h1.bind fun a => h2.bind fun b => h3.bind fun c => h4.bind fun d => hm a b c d
theorem t_call5 {m : List PyData → R PyData} {t : α → β → γ → δ → ε → R ζ} (hm : ∀ a b c d x, TEq (m [e a, e b, e c, e d, e x]) (t a b c d x)) {s1 : R α} {s2 : R β} {s3 : R γ} {s4 : R δ} {s5 : R ε} (h1 : TEq (f1 ρ) s1) (h2 : TEq (f2 ρ) s2) (h3 : TEq (f3 ρ) s3) (h4 : TEq (f4 ρ) s4) (h5 : TEq (f5 ρ) s5) : TEq (vapp m (aCons f1 (aCons f2 (aCons f3 (aCons f4 (aCons f5 aNil))))) ρ) (b5 t s1 s2 s3 s4 s5) := by
  simp only [vapp_ap, aCons_ap, aNil_ap, R.bind_assoc, R.bind_ok]
  exact h1.bind fun a => h2.bind fun b => h3.bind fun c => h4.bind fun d => h5.bind fun x => hm a b c d x
theorem t_call6 {m : List PyData → R PyData} {t : α → β → γ → δ → ε → ζ → R η} (hm : ∀ a b c d x y, TEq (m [e a, e b, e c, e d, e x, e y]) (t a b c d x y)) {s1 : R α} {s2 : R β} {s3 : R γ} {s4 : R δ} {s5 : R ε} {s6 : R ζ} (h1 : TEq (f1 ρ) s1) (h2 : TEq (f2 ρ) s2) (h3 : TEq (f3 ρ) s3) (h4 : TEq (f4 ρ) s4) (h5 : TEq (f5 ρ) s5) (h6 : TEq (f6 ρ) s6) : TEq (vapp m (aCons f1 (aCons f2 (aCons f3 (aCons f4 (aCons f5 (aCons f6 aNil)))))) ρ) (b6 t s1 s2 s3 s4 s5 s6) := by
  simp only [vapp_ap, aCons_ap, aNil_ap, R.bind_assoc, R.bind_ok]
  exact h1.bind fun a => h2.bind fun b => h3.bind fun c => h4.bind fun d => h5.bind fun x => h6.bind fun y => hm a b c d x y
theorem t_call7 {m : List PyData → R PyData} {t : α → β → γ → δ → ε → ζ → η → R θ} (hm : ∀ a b c d x y z, TEq (m [e a, e b, e c, e d, e x, e y, e z]) (t a b c d x y z)) {s1 : R α} {s2 : R β} {s3 : R γ} {s4 : R δ} {s5 : R ε} {s6 : R ζ} {s7 : R η} (h1 : TEq (f1 ρ) s1) (h2 : TEq (f2 ρ) s2) (h3 : TEq (f3 ρ) s3) (h4 : TEq (f4 ρ) s4) (h5 : TEq (f5 ρ) s5) (h6 : TEq (f6 ρ) s6) (h7 : TEq (f7 ρ) s7) : TEq (vapp m (aCons f1 (aCons f2 (aCons f3 (aCons f4 (aCons f5 (aCons f6 (aCons f7 aNil))))))) ρ) (b7 t s1 s2 s3 s4 s5 s6 s7) := by
  simp only [vapp_ap, aCons_ap, aNil_ap, R.bind_assoc, R.bind_ok]
  exact h1.bind fun a => h2.bind fun b => h3.bind fun c => h4.bind fun d => h5.bind fun x => h6.bind fun y => h7.bind fun z => hm a b c d x y z
/-! tuples, lists -/
def mk1 {α : Type} (a : α) : R (T1 α) := .ok ⟨a⟩
def mk2 {α β : Type} (a : α) (b : β) : R (α × β) := .ok (a, b)
def mk3 {α β γ : Type} (a : α) (b : β) (c : γ) : R (T3 α β γ) := .ok ⟨a, b, c⟩
def mk4 {α β γ δ : Type} (a : α) (b : β) (c : γ) (d : δ) : R (T4 α β γ δ) := .ok ⟨a, b, c, d⟩
def mk5 {α β γ δ ε : Type} (a : α) (b : β) (c : γ) (d : δ) (x : ε) : R (T5 α β γ δ ε) := .ok ⟨a, b, c, d, x⟩
def mk6 {α β γ δ ε ζ : Type} (a : α) (b : β) (c : γ) (d : δ) (x : ε) (y : ζ) : R (T6 α β γ δ ε ζ) := .ok ⟨a, b, c, d, x, y⟩
def mk7 {α β γ δ ε ζ η : Type} (a : α) (b : β) (c : γ) (d : δ) (x : ε) (y : ζ) (z : η) : R (T7 α β γ δ ε ζ η) := .ok ⟨a, b, c, d, x, y, z⟩
def mkV {α : Type} (xs : List α) : R (Tup α) := .ok ⟨xs⟩
@[simp] theorem mk1_ap {α : Type} (a : α) : mk1 a = .ok ⟨a⟩ := rfl
@[simp] theorem mk2_ap {α β : Type} (a : α) (b : β) : mk2 a b = .ok (a, b) := rfl
@[simp] theorem mk3_ap {α β γ : Type} (a : α) (b : β) (c : γ) : mk3 a b c = .ok ⟨a, b, c⟩ := rfl
@[simp] theorem mk4_ap {α β γ δ : Type} (a : α) (b : β) (c : γ) (d : δ) : mk4 a b c d = .ok ⟨a, b, c, d⟩ := rfl
@[simp] theorem mk5_ap {α β γ δ ε : Type} (a : α) (b : β) (c : γ) (d : δ) (x : ε) : mk5 a b c d x = .ok ⟨a, b, c, d, x⟩ := rfl
@[simp] theorem mk6_ap {α β γ δ ε ζ : Type} (a : α) (b : β) (c : γ) (d : δ) (x : ε) (y : ζ) : mk6 a b c d x y = .ok ⟨a, b, c, d, x, y⟩ := rfl
@[simp] theorem mk7_ap {α β γ δ ε ζ η : Type} (a : α) (b : β) (c : γ) (d : δ) (x : ε) (y : ζ) (z : η) : mk7 a b c d x y z = .ok ⟨a, b, c, d, x, y, z⟩ := rfl
@[simp] theorem mkV_ap {α : Type} (xs : List α) : mkV xs = .ok ⟨xs⟩ := rfl
theorem t_tup1 {s1 : R α} (h1 : TEq (f1 ρ) s1) : TEq (vtup (aCons f1 aNil) ρ) (b1 mk1 s1) := by
  simp only [vtup_ap, aCons_ap, aNil_ap, R.bind_assoc, R.bind_ok]
  exact h1.bind fun a => rfl
theorem t_tup2 {s1 : R α} {s2 : R β} (h1 : TEq (f1 ρ) s1) (h2 : TEq (f2 ρ) s2) : TEq (vtup (aCons f1 (aCons f2 aNil)) ρ) (b2 mk2 s1 s2) := by
  simp only [vtup_ap, aCons_ap, aNil_ap, R.bind_assoc, R.bind_ok]
  exact h1.bind fun a => h2.bind fun b => rfl
theorem t_tup3 {s1 : R α} {s2 : R β} {s3 : R γ} (h1 : TEq (f1 ρ) s1) (h2 : TEq (f2 ρ) s2) (h3 : TEq (f3 ρ) s3) : TEq (vtup (aCons f1 (aCons f2 (aCons f3 aNil))) ρ) (b3 mk3 s1 s2 s3) := by
  simp only [vtup_ap, aCons_ap, aNil_ap, R.bind_assoc, R.bind_ok]
  exact h1.bind fun a => h2.bind fun b => h3.bind fun c => rfl
theorem t_tup4 {s1 : R α} {s2 : R β} {s3 : R γ} {s4 : R δ} (h1 : TEq (f1 ρ) s1) (h2 : TEq (f2 ρ) s2) (h3 : TEq (f3 ρ) s3) (h4 : TEq (f4 ρ) s4) : TEq (vtup (aCons f1 (aCons f2 (aCons f3 (aCons f4 aNil)))) ρ) (b4 mk4 s1 s2 s3 s4) := by
  simp only [vtup_ap, aCons_ap, aNil_ap, R.bind_assoc, R.bind_ok]
  exact h1.bind fun a => h2.bind fun b => h3.bind fun c => h4.bind fun d => rfl
theorem t_tup5 {s1 : R α} {s2 : R β} {s3 : R γ} {s4 : R δ} {s5 : R ε} (h1 : TEq (f1 ρ) s1) (h2 : TEq (f2 ρ) s2) (h3 : TEq (f3 ρ) s3) (h4 : TEq (f4 ρ) s4) (h5 : TEq (f5 ρ) s5) : TEq (vtup (aCons f1 (aCons f2 (aCons f3 (aCons f4 (aCons f5 aNil))))) ρ) (b5 mk5 s1 s2 s3 s4 s5) := by
  simp only [vtup_ap, aCons_ap, aNil_ap, R.bind_assoc, R.bind_ok]
  exact h1.bind fun a => h2.bind fun b => h3.bind fun c => h4.bind fun d => h5.bind fun x => rfl
theorem t_tup6 {s1 : R α} {s2 : R β} {s3 : R γ} {s4 : R δ} {s5 : R ε} {s6 : R ζ} (h1 : TEq (f1 ρ) s1) (h2 : TEq (f2 ρ) s2) (h3 : TEq (f3 ρ) s3) (h4 : TEq (f4 ρ) s4) (h5 : TEq (f5 ρ) s5) (h6 : TEq (f6 ρ) s6) : TEq (vtup (aCons f1 (aCons f2 (aCons f3 (aCons f4 (aCons f5 (aCons f6 aNil)))))) ρ) (b6 mk6 s1 s2 s3 s4 s5 s6) := by
  simp only [vtup_ap, aCons_ap, aNil_ap, R.bind_assoc, R.bind_ok]
  exact h1.bind fun a => h2.bind fun b => h3.bind fun c => h4.bind fun d => h5.bind fun x => h6.bind fun y => rfl
theorem t_tup7 {s1 : R α} {s2 : R β} {s3 : R γ} {s4 : R δ} {s5 : R ε} {s6 : R ζ} {s7 : R η} (h1 : TEq (f1 ρ) s1) (h2 : TEq (f2 ρ) s2) (h3 : TEq (f3 ρ) s3) (h4 : TEq (f4 ρ) s4) (h5 : TEq (f5 ρ) s5) (h6 : TEq (f6 ρ) s6) (h7 : TEq (f7 ρ) s7) : TEq (vtup (aCons f1 (aCons f2 (aCons f3 (aCons f4 (aCons f5 (aCons f6 (aCons f7 aNil))))))) ρ) (b7 mk7 s1 s2 s3 s4 s5 s6 s7) := by
  simp only [vtup_ap, aCons_ap, aNil_ap, R.bind_assoc, R.bind_ok]
  exact h1.bind fun a => h2.bind fun b => h3.bind fun c => h4.bind fun d => h5.bind fun x => h6.bind fun y => h7.bind fun z => rfl
theorem t_nil : TL (aNil ρ) (.ok ([] : List α)) := rfl
theorem t_cons {g : PEnv → R (List PyData)} {s : R α} {t : R (List α)} (ha : TEq (f ρ) s) (hb : TL (g ρ) t) : TL (aCons f g ρ) (tcons s t) := ha.bind fun a => hb.bind fun as => rfl
theorem t_tupV {g : PEnv → R (List PyData)} {s : R (List α)} (ha : TL (g ρ) s) : TEq (vtup g ρ) (b1 mkV s) := ha.bind fun as => rfl
theorem t_list {g : PEnv → R (List PyData)} {s : R (List α)} (ha : TL (g ρ) s) : TEq (vlistOf g ρ) s := by
  cases s with
  | stuck => trivial
  | err c => show (g ρ).bind _ = _; rw [show g ρ = .err c from ha]; rfl
  | ok b => show (g ρ).bind _ = _; rw [show g ρ = .ok (b.map e) from ha]; rfl
theorem t_callL1 {m : List PyData → R PyData} {t : List α → R β} (hm : ∀ a, TEq (m [e a]) (t a)) {g : PEnv → R (List PyData)} {s : R (List α)} (ha : TL (g ρ) s) : TEq (vapp m (aCons (vlistOf g) aNil) ρ) (b1 t s) := t_call1 hm (t_list ha)
/-! items walked -/
theorem t_isq {s : R (List α)} (ha : TEq (f ρ) s) : TL (isq f ρ) s := by
  cases s with
  | stuck => trivial
  | err c => show (f ρ).bind _ = _; rw [show f ρ = .err c from ha]; rfl
  | ok b => show (f ρ).bind _ = _; rw [show f ρ = .ok (e b) from ha]; rfl
theorem t_isqV {s : R (Tup α)} (ha : TEq (f ρ) s) : TL (isq f ρ) (b1 tseqV s) := ha.bind fun _ => rfl
def tseq2 {α : Type} (p : α × α) : R (List α) := .ok [p.1, p.2]
def tseq3 {α : Type} (p : T3 α α α) : R (List α) := .ok [p.a, p.b, p.c]
def tseq4 {α : Type} (p : T4 α α α α) : R (List α) := .ok [p.a, p.b, p.c, p.d]
@[simp] theorem tseq2_ap {α : Type} (p : α × α) : tseq2 p = .ok [p.1, p.2] := rfl
@[simp] theorem tseq3_ap {α : Type} (p : T3 α α α) : tseq3 p = .ok [p.a, p.b, p.c] := rfl
@[simp] theorem tseq4_ap {α : Type} (p : T4 α α α α) : tseq4 p = .ok [p.a, p.b, p.c, p.d] := rfl
theorem t_isq2 {s : R (α × α)} (ha : TEq (f ρ) s) : TL (isq f ρ) (b1 tseq2 s) := ha.bind fun _ => rfl
theorem t_isq3 {s : R (T3 α α α)} (ha : TEq (f ρ) s) : TL (isq f ρ) (b1 tseq3 s) := ha.bind fun _ => rfl
theorem t_isq4 {s : R (T4 α α α α)} (ha : TEq (f ρ) s) : TL (isq f ρ) (b1 tseq4 s) := ha.bind fun _ => rfl
theorem TL_id {x : R (List PyData)} : TL x x := by cases x with
  | stuck => trivial
  | err c => exact rfl
  | ok a => show R.ok a = .ok (a.map e); rw [show (e : PyData → PyData) = id from rfl, List.map_id]
theorem t_isqD {s : R PyData} (ha : TEq (f ρ) s) : TL (isq f ρ) (b1 seqD s) := ha.bind fun d => TL_id
theorem t_i1 {op : PyData → R (List PyData)} {top : α → R (List γ)} {s : R α} (ho : ∀ a, TL (op (e a)) (top a)) (ha : TEq (f ρ) s) : TL (i1 op f ρ) (b1 top s) := ha.bind ho
theorem t_i2 {op : PyData → PyData → R (List PyData)} {top : α → β → R (List γ)} {s : R α} {t : R β} (ho : ∀ a b, TL (op (e a) (e b)) (top a b)) (ha : TEq (f ρ) s) (hb : TEq (g ρ) t) : TL (i2 op f g ρ) (b2 top s t) := ha.bind fun a => hb.bind fun b => ho a b
theorem TQ.calm {α γ : Type} {f : α → γ} {x : R γ} {t : R α} (h : TQ f x t) : TQ f x.calm t.calm := by
  cases t with
  | stuck => trivial
  | err c => trivial
  | ok a => rw [show x = .ok (f a) from h]; exact rfl
theorem compL_T {kt : PyData → R (List (Nat × PyData))} {ft : PEnv → R Bool} {fe : PEnv → R PyData} {ρ : PEnv} {bs : β → List (Nat × PyData)} {k : α → R β} {c : β → R Bool} {t : β → R γ} (hk : ∀ a, TQ bs (kt (e a)) (k a)) (hc : ∀ b, TB (ft (setsD ρ (bs b))) (c b)) (hf : ∀ b, TEq (fe (setsD ρ (bs b))) (t b)) : ∀ xs : List α, TL (compL kt ft fe ρ (xs.map e)) (tcomp (fun a => (k a).bind c) (fun a => (k a).bind t) xs)
  | [] => rfl
  | a :: as => by
    have ih := compL_T hk hc hf as
    have h1 := hk a
    show TQ _ ((kt (e a)).bind _) ((((k a).bind c).calm).bind _)
    cases hka : k a with
    | stuck => trivial
    | err s => trivial
    | ok b =>
      rw [h1.ok hka]
      simp only [hka, R.bind_ok]
      refine (hc b).calm.bind fun z => ?_
      cases z with
      | false => exact ih
      | true =>
        simp only [if_true]
        exact (hf b).calm.bind (f' := List.map e) (k := fun d => (compL kt ft fe ρ (List.map e as)).bind fun ys => R.ok (d :: ys)) (l := fun y => (tcomp (fun a => (k a).bind c) (fun a => (k a).bind t) as).bind fun ys => .ok (y :: ys)) fun y => ih.bind (k := fun ys => .ok (e y :: ys)) (l := fun ys => .ok (y :: ys)) fun ys => (show TL (R.ok (e y :: List.map e ys)) (R.ok (y :: ys)) from rfl)
theorem t_comp {own : List Nat} {fi : PEnv → R (List PyData)} {kt : PyData → R (List (Nat × PyData))} {ft : PEnv → R Bool} {fe : PEnv → R PyData} {s : R (List α)} {c : β → R Bool} {t : β → R γ} (bs : β → List (Nat × PyData)) (k : α → R β) (hi : TL (fi ρ) s) (hk : ∀ a, TQ bs (kt (e a)) (k a)) (hc : ∀ b, TB (ft (setsD (wipeD ρ own) (bs b))) (c b)) (hf : ∀ b, TEq (fe (setsD (wipeD ρ own) (bs b))) (t b)) :
    TL (vcomp own fi kt ft fe ρ) (s.bind fun xs => (tcomp (fun a => (k a).bind c) (fun a => (k a).bind t) xs).calm) := hi.bind (l := fun xs => (tcomp (fun a => (k a).bind c) (fun a => (k a).bind t) xs).calm) fun xs => (compL_T hk hc hf xs).calm
theorem tcomp_yes {α γ : Type} (f : α → R γ) : ∀ xs : List α, tcomp (fun _ => .ok true) f xs = tmap f xs
  | [] => rfl
  | a :: as => by
    show R.bind _ _ = R.bind _ _
    simp only [calm_okk, R.bind_ok, if_true, tcomp_yes f as]
theorem t_map {own : List Nat} {fi : PEnv → R (List PyData)} {kt : PyData → R (List (Nat × PyData))} {fe : PEnv → R PyData} {s : R (List α)} {t : α → R γ} (bs : α → List (Nat × PyData)) (hi : TL (fi ρ) s) (hk : ∀ a, kt (e a) = .ok (bs a)) (hf : ∀ b, TEq (fe (setsD (wipeD ρ own) (bs b))) (t b)) :
    TL (vcomp own fi kt tyes fe ρ) (s.bind fun xs => (tmap t xs).calm) := by
  have h := t_comp (ρ := ρ) (own := own) (fi := fi) (kt := kt) (ft := tyes) (fe := fe) (c := fun _ => .ok true) (t := t) bs (fun a => .ok a) hi (fun a => hk a) (fun b => rfl) hf
  simp only [R.bind_ok, tcomp_yes] at h
  exact h
theorem t_fil {own : List Nat} {fi : PEnv → R (List PyData)} {kt : PyData → R (List (Nat × PyData))} {ft : PEnv → R Bool} {fe : PEnv → R PyData} {s : R (List α)} {c : α → R Bool} {t : α → R γ} (bs : α → List (Nat × PyData)) (hi : TL (fi ρ) s) (hk : ∀ a, kt (e a) = .ok (bs a)) (hc : ∀ b, TB (ft (setsD (wipeD ρ own) (bs b))) (c b)) (hf : ∀ b, TEq (fe (setsD (wipeD ρ own) (bs b))) (t b)) :
    TL (vcomp own fi kt ft fe ρ) (s.bind fun xs => (tcomp c t xs).calm) := by
  have h := t_comp (ρ := ρ) (own := own) (fi := fi) (kt := kt) (ft := ft) (fe := fe) (c := c) (t := t) bs (fun a => .ok a) hi (fun a => hk a) hc hf
  simp only [R.bind_ok] at h
  exact h
/-! slices -/
theorem t_part {s : R Int} (h : TEq (f ρ) s) : TO (vpart f ρ) (b1 tpart s) := h.bind fun _ => rfl
theorem t_nopart : TO (vnopart ρ) (.ok none) := rfl
theorem cut_map {α β : Type} (g : α → β) (xs : List α) (lo hi : Option Int) : cutG (xs.map g) lo hi = (cutG xs lo hi).map g := by
  unfold cutG
  rw [List.length_map, List.map_take, List.map_drop]
theorem t_slice {l u : PEnv → R (Option Int)} {s : R (List α)} {a b : R (Option Int)} (h : TEq (f ρ) s) (hl : TO (l ρ) a) (hu : TO (u ρ) b) : TEq (vslice f l u ρ) (b3 tcut s a b) :=
  h.bind fun xs => hl.bind fun lo => hu.bind fun hi => by
    show R.ok (PyData.list (cutL _ _ _)) = _
    exact congrArg (fun z => R.ok (PyData.list z)) (cut_map e xs lo hi)
theorem t_sliceV {l u : PEnv → R (Option Int)} {s : R (Tup α)} {a b : R (Option Int)} (h : TEq (f ρ) s) (hl : TO (l ρ) a) (hu : TO (u ρ) b) : TEq (vslice f l u ρ) (b3 tcutV s a b) :=
  h.bind fun xs => hl.bind fun lo => hu.bind fun hi => by
    show R.ok (PyData.tuple (cutL _ _ _)) = _
    exact congrArg (fun z => R.ok (PyData.tuple z)) (cut_map e xs.l lo hi)
theorem t_sliceD {l u : PEnv → R (Option Int)} {s : R PyData} {a b : R (Option Int)} (h : TEq (f ρ) s) (hl : TO (l ρ) a) (hu : TO (u ρ) b) : TEq (vslice f l u ρ) (b3 (fun d lo hi => vcut lo hi d) s a b) :=
  h.bind fun xs => hl.bind fun lo => hu.bind fun hi => by
    show TEq (vcut lo hi xs) (vcut lo hi xs)
    cases vcut lo hi xs <;> first | exact rfl | trivial
theorem t_fslice {l u : PEnv → R (Option Int)} {s : R (List α)} {a b : R (Option Int)} (h : TEq (f ρ) s) (hl : TO (l ρ) a) (hu : TO (u ρ) b) : TL (fslice f l u ρ) (b3 tcut s a b) :=
  h.bind fun xs => hl.bind fun lo => hu.bind fun hi => by
    show R.ok (cutL _ _ _) = _
    exact congrArg R.ok (cut_map e xs lo hi)
theorem t_fcat {s t : R (List α)} (h : TEq (f ρ) s) (h' : TEq (g ρ) t) : TL (fcat f g ρ) (b2 taddL s t) :=
  h.bind fun xs => h'.bind fun ys => by
    show TL (if (xs.map e).length + (ys.map e).length ≤ sizeLine then _ else _) (taddL xs ys)
    unfold taddL
    rw [List.length_map, List.length_map, szL]
    split
    · show R.ok _ = R.ok _
      rw [List.map_append]
    · trivial
theorem t_frev {s : R (List α)} (h : TEq (f ρ) s) : TL (frev f ρ) (b1 trev s) := h.bind fun xs => by
  show R.ok _ = R.ok _
  rw [List.map_reverse]
theorem t_fsort {s : R (List Int)} (h : TEq (f ρ) s) : TL (fsort f ρ) (b1 tsort s) := h.bind fun xs => lsort_ints xs
theorem t_index {top : List α → β → R Int} {s : R (List α)} {t : R β} (ho : ∀ a b, TEq (vindex (e a) (e b)) (top a b)) (ha : TEq (f ρ) s) (hb : TEq (g ρ) t) : TEq (vindexF f g ρ) (b2 top s t) := ha.bind fun a => hb.bind fun b => ho a b
/-! change of type -/
def Co (c : α → R β) : Prop := ∀ a, TEq (.ok (e a)) (c a)
theorem t_co {x : R PyData} {s : R α} {c : α → R β} (hc : Co c) (h : TEq x s) : TEq x (b1 c s) := by
  cases s with
  | stuck => trivial
  | err c => exact h
  | ok a => rw [show x = .ok (e a) from h]; exact hc a
def cUp (a : α) : R PyData := .ok (e a)
@[simp] theorem cUp_ap (a : α) : cUp a = .ok (e a) := rfl
theorem Co.up : Co (cUp : α → R PyData) := fun _ => rfl
def cInt : PyData → R Int | .int i => .ok i | _ => .stuck
theorem Co.int : Co cInt := fun d => by cases d <;> first | exact rfl | trivial
@[simp] theorem cInt_ap (i : Int) : cInt (.int i) = .ok i := rfl
def cBool : PyData → R Bool | .bool i => .ok i | _ => .stuck
theorem Co.bool : Co cBool := fun d => by cases d <;> first | exact rfl | trivial
@[simp] theorem cBool_ap (i : Bool) : cBool (.bool i) = .ok i := rfl
def cStr : PyData → R Str | .str i => .ok i | _ => .stuck
theorem Co.str : Co cStr := fun d => by cases d <;> first | exact rfl | trivial
@[simp] theorem cStr_ap (i : Str) : cStr (.str i) = .ok i := rfl
def cNil (_ : List Empty) : R (List α) := .ok []
instance : Enc Empty := ⟨fun x => nomatch x⟩
theorem Co.nil : Co (cNil : List Empty → R (List α)) := fun xs => by cases xs with
  | nil => exact rfl
  | cons x _ => exact nomatch x
@[simp] theorem cNil_ap (x : List Empty) : (cNil x : R (List α)) = .ok [] := rfl
theorem tmap_Co {c : α → R β} (hc : Co c) : ∀ xs : List α, TL (.ok (xs.map e)) (tmap c xs)
  | [] => rfl
  | a :: as => by
    have h1 := hc a
    have ih := tmap_Co hc as
    unfold tmap
    cases hca : c a with
    | stuck => trivial
    | err s => trivial
    | ok b =>
      rw [hca] at h1
      simp only [calm_okk, R.bind_ok]
      cases hcs : tmap c as with
      | stuck => trivial
      | err s => rw [hcs] at ih; exact nomatch (show R.ok (as.map e) = .err s from ih)
      | ok bs =>
        rw [hcs] at ih
        have e1 : R.ok (as.map e) = .ok (bs.map e) := ih
        have e2 : R.ok (e a) = .ok (e b) := h1
        show R.ok (e a :: as.map e) = .ok (e b :: bs.map e)
        rw [R.ok.inj e1, R.ok.inj e2]
theorem Co.list {c : α → R β} (hc : Co c) : Co (tmap c) := fun xs => by
  have h := tmap_Co hc xs
  generalize tmap c xs = t at h
  cases t with
  | stuck => trivial
  | err s => exact nomatch (show R.ok (xs.map e) = .err s from h)
  | ok ys => exact congrArg (fun z => R.ok (PyData.list z)) (R.ok.inj (show R.ok (xs.map e) = .ok (ys.map e) from h))
def cFst {α β γ : Type} (c : α → R γ) (d : β → R δ) (p : α × β) : R (γ × δ) := (c p.1).bind fun x => (d p.2).bind fun y => .ok (x, y)
def cL2 {α : Type} (xs : List α) : R (α × α) := match xs with | [a, b] => .ok (a, b) | _ => .stuck
def cV2 {α : Type} (xs : Tup α) : R (α × α) := match xs.l with | [a, b] => .ok (a, b) | _ => .stuck
def cSome {α : Type} : Option α → R α | some a => .ok a | none => .stuck
@[simp] theorem cSome_ap {α : Type} (a : α) : cSome (some a) = .ok a := rfl
theorem Co.some : Co (cSome : Option α → R α) := fun o => by cases o <;> first | exact rfl | trivial
def cJust {α : Type} (a : α) : R (Option α) := .ok (some a)
@[simp] theorem cJust_ap {α : Type} (a : α) : cJust a = .ok (some a) := rfl
theorem Co.just : Co (cJust : α → R (Option α)) := fun a => rfl
def cNone {α : Type} (_ : Unit) : R (Option α) := .ok none
@[simp] theorem cNone_ap {α : Type} (u : Unit) : (cNone u : R (Option α)) = .ok none := rfl
theorem Co.none : Co (cNone : Unit → R (Option α)) := fun a => rfl
def cP2 {α β γ δ : Type} (c : α → R γ) (d : β → R δ) (p : α × β) : R (γ × δ) := (c p.1).bind fun x => (d p.2).bind fun y => .ok (x, y)
@[simp] theorem cP2_ap {α β γ δ : Type} (c : α → R γ) (d : β → R δ) (p : α × β) : cP2 c d p = (c p.1).bind fun x => (d p.2).bind fun y => .ok (x, y) := rfl
theorem Co.p2 {c : α → R γ} {d : β → R δ} (hc : Co c) (hd : Co d) : Co (cP2 c d) := fun p => by
  have h1 := hc p.1
  have h2 := hd p.2
  unfold cP2
  cases hx : c p.1 with
  | stuck => trivial
  | err s => rw [hx] at h1; exact nomatch (show R.ok (e p.1) = .err s from h1)
  | ok x =>
    cases hy : d p.2 with
    | stuck => trivial
    | err s => rw [hy] at h2; exact nomatch (show R.ok (e p.2) = .err s from h2)
    | ok y =>
      rw [hx] at h1; rw [hy] at h2
      show R.ok (PyData.tuple [e p.1, e p.2]) = .ok (PyData.tuple [e x, e y])
      rw [R.ok.inj (show R.ok (e p.1) = .ok (e x) from h1), R.ok.inj (show R.ok (e p.2) = .ok (e y) from h2)]
def c2V {α : Type} (p : α × α) : R (Tup α) := .ok ⟨[p.1, p.2]⟩
def c3V {α : Type} (p : T3 α α α) : R (Tup α) := .ok ⟨[p.a, p.b, p.c]⟩
def c4V {α : Type} (p : T4 α α α α) : R (Tup α) := .ok ⟨[p.a, p.b, p.c, p.d]⟩
def c1V {α : Type} (p : T1 α) : R (Tup α) := .ok ⟨[p.a]⟩
@[simp] theorem c1V_ap {α : Type} (p : T1 α) : c1V p = .ok ⟨[p.a]⟩ := rfl
@[simp] theorem c2V_ap {α : Type} (p : α × α) : c2V p = .ok ⟨[p.1, p.2]⟩ := rfl
@[simp] theorem c3V_ap {α : Type} (p : T3 α α α) : c3V p = .ok ⟨[p.a, p.b, p.c]⟩ := rfl
@[simp] theorem c4V_ap {α : Type} (p : T4 α α α α) : c4V p = .ok ⟨[p.a, p.b, p.c, p.d]⟩ := rfl
theorem Co.t1 : Co (c1V : T1 α → R (Tup α)) := fun _ => rfl
theorem Co.t2 : Co (c2V : α × α → R (Tup α)) := fun _ => rfl
theorem Co.t3 : Co (c3V : T3 α α α → R (Tup α)) := fun _ => rfl
theorem Co.t4 : Co (c4V : T4 α α α α → R (Tup α)) := fun _ => rfl
end
/-! more changes of type -/
section
variable {α β γ δ α' β' γ' δ' : Type} [Enc α] [Enc β] [Enc γ] [Enc δ] [Enc α'] [Enc β'] [Enc γ'] [Enc δ']
theorem Co.inv {c : α → R β} (hc : Co c) (a : α) : c a = .stuck ∨ ∃ b, c a = .ok b ∧ e a = e b := by
  have h := hc a
  cases hx : c a with
  | stuck => exact .inl rfl
  | err s => rw [hx] at h; exact nomatch (show R.ok (e a) = .err s from h)
  | ok b => rw [hx] at h; exact .inr ⟨b, rfl, R.ok.inj (show R.ok (e a) = .ok (e b) from h)⟩
def cP3 (c : α → R α') (d : β → R β') (f : γ → R γ') (p : T3 α β γ) : R (T3 α' β' γ') := (c p.a).bind fun x => (d p.b).bind fun y => (f p.c).bind fun z => .ok ⟨x, y, z⟩
def cP4 (c : α → R α') (d : β → R β') (f : γ → R γ') (g : δ → R δ') (p : T4 α β γ δ) : R (T4 α' β' γ' δ') := (c p.a).bind fun x => (d p.b).bind fun y => (f p.c).bind fun z => (g p.d).bind fun w => .ok ⟨x, y, z, w⟩
@[simp] theorem cP3_ap (c : α → R α') (d : β → R β') (f : γ → R γ') (p : T3 α β γ) : cP3 c d f p = (c p.a).bind fun x => (d p.b).bind fun y => (f p.c).bind fun z => .ok ⟨x, y, z⟩ := rfl
@[simp] theorem cP4_ap (c : α → R α') (d : β → R β') (f : γ → R γ') (g : δ → R δ') (p : T4 α β γ δ) : cP4 c d f g p = (c p.a).bind fun x => (d p.b).bind fun y => (f p.c).bind fun z => (g p.d).bind fun w => .ok ⟨x, y, z, w⟩ := rfl
theorem Co.p3 {c : α → R α'} {d : β → R β'} {f : γ → R γ'} (hc : Co c) (hd : Co d) (hf : Co f) : Co (cP3 c d f) := fun p => by
  unfold cP3
  rcases hc.inv p.a with h | ⟨x, h, e1⟩
  · rw [h]; trivial
  rcases hd.inv p.b with h2 | ⟨y, h2, e2⟩
  · rw [h, h2]; trivial
  rcases hf.inv p.c with h3 | ⟨z, h3, e3⟩
  · rw [h, h2, h3]; trivial
  rw [h, h2, h3]
  show R.ok (PyData.tuple [e p.a, e p.b, e p.c]) = .ok (PyData.tuple [e x, e y, e z])
  rw [e1, e2, e3]
theorem Co.p4 {c : α → R α'} {d : β → R β'} {f : γ → R γ'} {g : δ → R δ'} (hc : Co c) (hd : Co d) (hf : Co f) (hg : Co g) : Co (cP4 c d f g) := fun p => by
  unfold cP4
  rcases hc.inv p.a with h | ⟨x, h, e1⟩
  · rw [h]; trivial
  rcases hd.inv p.b with h2 | ⟨y, h2, e2⟩
  · rw [h, h2]; trivial
  rcases hf.inv p.c with h3 | ⟨z, h3, e3⟩
  · rw [h, h2, h3]; trivial
  rcases hg.inv p.d with h4 | ⟨w, h4, e4⟩
  · rw [h, h2, h3, h4]; trivial
  rw [h, h2, h3, h4]
  show R.ok (PyData.tuple [e p.a, e p.b, e p.c, e p.d]) = .ok (PyData.tuple [e x, e y, e z, e w])
  rw [e1, e2, e3, e4]
end
/-! casts ahead of a pattern -/
section
variable {α : Type} [Enc α]
def cL3 {α : Type} (xs : List α) : R (T3 α α α) := match xs with | [a, b, c] => .ok ⟨a, b, c⟩ | _ => .stuck
def cV3 {α : Type} (xs : Tup α) : R (T3 α α α) := match xs.l with | [a, b, c] => .ok ⟨a, b, c⟩ | _ => .stuck
def cL4 {α : Type} (xs : List α) : R (T4 α α α α) := match xs with | [a, b, c, d] => .ok ⟨a, b, c, d⟩ | _ => .stuck
def cV4 {α : Type} (xs : Tup α) : R (T4 α α α α) := match xs.l with | [a, b, c, d] => .ok ⟨a, b, c, d⟩ | _ => .stuck
def cD1 : PyData → R (T1 PyData) | .tuple [a] => .ok ⟨a⟩ | .list [a] => .ok ⟨a⟩ | _ => .stuck
def cD2 : PyData → R (PyData × PyData) | .tuple [a, b] => .ok (a, b) | .list [a, b] => .ok (a, b) | _ => .stuck
def cD3 : PyData → R (T3 PyData PyData PyData) | .tuple [a, b, c] => .ok ⟨a, b, c⟩ | .list [a, b, c] => .ok ⟨a, b, c⟩ | _ => .stuck
def cD4 : PyData → R (T4 PyData PyData PyData PyData) | .tuple [a, b, c, d] => .ok ⟨a, b, c, d⟩ | .list [a, b, c, d] => .ok ⟨a, b, c, d⟩ | _ => .stuck
theorem cL2_k {i j : Nat} (xs : List α) : TQ (fun p : α × α => [(i, e p.1), (j, e p.2)]) (gT (gC (gN i) (gC (gN j) gE)) (e xs)) (cL2 xs) := by
  rcases xs with _ | ⟨a, _ | ⟨b, _ | ⟨c, xs⟩⟩⟩ <;> first | exact rfl | trivial
theorem cV2_k {i j : Nat} (xs : Tup α) : TQ (fun p : α × α => [(i, e p.1), (j, e p.2)]) (gT (gC (gN i) (gC (gN j) gE)) (e xs)) (cV2 xs) := by
  obtain ⟨xs⟩ := xs
  rcases xs with _ | ⟨a, _ | ⟨b, _ | ⟨c, xs⟩⟩⟩ <;> first | exact rfl | trivial
theorem cL3_k {i j k : Nat} (xs : List α) : TQ (fun p : T3 α α α => [(i, e p.a), (j, e p.b), (k, e p.c)]) (gT (gC (gN i) (gC (gN j) (gC (gN k) gE))) (e xs)) (cL3 xs) := by
  rcases xs with _ | ⟨a, _ | ⟨b, _ | ⟨c, _ | ⟨d, xs⟩⟩⟩⟩ <;> first | exact rfl | trivial
theorem cV3_k {i j k : Nat} (xs : Tup α) : TQ (fun p : T3 α α α => [(i, e p.a), (j, e p.b), (k, e p.c)]) (gT (gC (gN i) (gC (gN j) (gC (gN k) gE))) (e xs)) (cV3 xs) := by
  obtain ⟨xs⟩ := xs
  rcases xs with _ | ⟨a, _ | ⟨b, _ | ⟨c, _ | ⟨d, xs⟩⟩⟩⟩ <;> first | exact rfl | trivial
theorem cL4_k {i j k l : Nat} (xs : List α) : TQ (fun p : T4 α α α α => [(i, e p.a), (j, e p.b), (k, e p.c), (l, e p.d)]) (gT (gC (gN i) (gC (gN j) (gC (gN k) (gC (gN l) gE)))) (e xs)) (cL4 xs) := by
  rcases xs with _ | ⟨a, _ | ⟨b, _ | ⟨c, _ | ⟨d, _ | ⟨x, xs⟩⟩⟩⟩⟩ <;> first | exact rfl | trivial
theorem cV4_k {i j k l : Nat} (xs : Tup α) : TQ (fun p : T4 α α α α => [(i, e p.a), (j, e p.b), (k, e p.c), (l, e p.d)]) (gT (gC (gN i) (gC (gN j) (gC (gN k) (gC (gN l) gE)))) (e xs)) (cV4 xs) := by
  obtain ⟨xs⟩ := xs
  rcases xs with _ | ⟨a, _ | ⟨b, _ | ⟨c, _ | ⟨d, _ | ⟨x, xs⟩⟩⟩⟩⟩ <;> first | exact rfl | trivial
theorem cD2_k {i j : Nat} (d : PyData) : TQ (fun p : PyData × PyData => [(i, e p.1), (j, e p.2)]) (gT (gC (gN i) (gC (gN j) gE)) (e d)) (cD2 d) := by
  cases d with
  | tuple xs => rcases xs with _ | ⟨a, _ | ⟨b, _ | ⟨c, xs⟩⟩⟩ <;> first | exact rfl | trivial
  | list xs => rcases xs with _ | ⟨a, _ | ⟨b, _ | ⟨c, xs⟩⟩⟩ <;> first | exact rfl | trivial
  | _ => trivial
theorem cD3_k {i j k : Nat} (d : PyData) : TQ (fun p : T3 PyData PyData PyData => [(i, e p.a), (j, e p.b), (k, e p.c)]) (gT (gC (gN i) (gC (gN j) (gC (gN k) gE))) (e d)) (cD3 d) := by
  cases d with
  | tuple xs => rcases xs with _ | ⟨a, _ | ⟨b, _ | ⟨c, _ | ⟨y, xs⟩⟩⟩⟩ <;> first | exact rfl | trivial
  | list xs => rcases xs with _ | ⟨a, _ | ⟨b, _ | ⟨c, _ | ⟨y, xs⟩⟩⟩⟩ <;> first | exact rfl | trivial
  | _ => trivial
theorem cD4_k {i j k l : Nat} (d : PyData) : TQ (fun p : T4 PyData PyData PyData PyData => [(i, e p.a), (j, e p.b), (k, e p.c), (l, e p.d)]) (gT (gC (gN i) (gC (gN j) (gC (gN k) (gC (gN l) gE)))) (e d)) (cD4 d) := by
  cases d with
  | tuple xs => rcases xs with _ | ⟨a, _ | ⟨b, _ | ⟨c, _ | ⟨y, _ | ⟨x, xs⟩⟩⟩⟩⟩ <;> first | exact rfl | trivial
  | list xs => rcases xs with _ | ⟨a, _ | ⟨b, _ | ⟨c, _ | ⟨y, _ | ⟨x, xs⟩⟩⟩⟩⟩ <;> first | exact rfl | trivial
  | _ => trivial
end
end VL

namespace VL
open PySem PySem.Spec PyProof.Rows L2
open Enc (e)

/-! ### operators, typed -/
theorem cite_pos {p : Prop} (h : p) {α : Type} {a b : α} : @ite α p (Classical.propDecidable p) a b = a := if_pos h
theorem cite_neg {p : Prop} (h : ¬ p) {α : Type} {a b : α} : @ite α p (Classical.propDecidable p) a b = b := if_neg h
section
variable {α β γ δ ε ζ η θ : Type} [Enc α] [Enc β] [Enc γ] [Enc δ] [Enc ε] [Enc ζ] [Enc η] [Enc θ]
theorem o_addI (a b : Int) : TEq (vadd (e a) (e b)) (taddI a b) := rfl
theorem o_subI (a b : Int) : TEq (vsub (e a) (e b)) (tsubI a b) := rfl
theorem o_mulI (a b : Int) : TEq (vmul (e a) (e b)) (tmulI a b) := by
  show TEq (if IntMulOk a b then _ else _) (if IntMulOk a b then _ else _)
  by_cases h : IntMulOk a b
  · rw [if_pos h, if_pos h]; exact rfl
  · rw [if_neg h, if_neg h]; trivial
theorem o_fdivI (a b : Int) : TEq (vfdiv (e a) (e b)) (tfdivI a b) := by
  by_cases h : 0 < b ∧ b < 2 ^ 250
  · rw [show tfdivI a b = .ok (a / b) from if_pos h]; exact if_pos h
  · rw [show tfdivI a b = .stuck from if_neg h]; trivial
theorem o_modI (a b : Int) : TEq (vmod (e a) (e b)) (tmodI a b) := by
  show TEq (if 0 < b then _ else _) (if 0 < b then _ else _)
  split
  · exact rfl
  · trivial
theorem o_powI (a b : Int) : TEq (vpow (e a) (e b)) (tpowI a b) := by
  by_cases h : 0 ≤ b ∧ b ≤ 1000 ∧ a.natAbs < 2 ^ 64
  · rw [show tpowI a b = .ok (a ^ b.toNat) from if_pos h]; exact if_pos h
  · rw [show tpowI a b = .stuck from if_neg h]; trivial
theorem o_negI (a : Int) : TEq (vneg (e a)) (tnegI a) := rfl
theorem o_ltI (a b : Int) : TEq (vlt (e a) (e b)) (tltI a b) := rfl
theorem o_leI (a b : Int) : TEq (vle (e a) (e b)) (tleI a b) := rfl
theorem o_gtI (a b : Int) : TEq (vgt (e a) (e b)) (tgtI a b) := rfl
theorem o_geI (a b : Int) : TEq (vge (e a) (e b)) (tgeI a b) := rfl
theorem o_addL (a b : List α) : TEq (vadd (e a) (e b)) (taddL a b) := by
  show TEq (if (a.map e).length + (b.map e).length ≤ sizeLine then _ else _) (if _ then _ else _)
  rw [List.length_map, List.length_map, szL]
  split
  · show R.ok (PyData.list _) = R.ok (PyData.list _)
    rw [List.map_append]
  · trivial
theorem o_addV (a b : Tup α) : TEq (vadd (e a) (e b)) (taddV a b) := by
  show TEq (if (a.l.map e).length + (b.l.map e).length ≤ sizeLine then _ else _) (if _ then _ else _)
  rw [List.length_map, List.length_map, szL]
  split
  · show R.ok (PyData.tuple _) = R.ok (PyData.tuple _)
    rw [List.map_append]
  · trivial
theorem o_addS (a b : Str) : TEq (vadd (e a) (e b)) (taddS a b) := by
  show TEq (if _ then _ else _) (if _ then _ else _)
  split
  · exact rfl
  · trivial
theorem atI_map {α β : Type} (f : α → β) (xs : List α) (i : Int) : atI (xs.map f) i = (atI xs i).map f := by
  unfold atI
  rw [List.length_map]
  cases ixN xs.length i <;> simp
theorem o_idx (a : List α) (b : Int) : TEq (vidx (e a) (e b)) (tidx a b) := by
  show TEq (match atI (a.map e) b with | some d => .ok d | none => .stuck) (match atI a b with | some d => .ok d | none => .stuck)
  rw [atI_map]
  cases atI a b <;> first | exact rfl | trivial
theorem o_idxV (a : Tup α) (b : Int) : TEq (vidx (e a) (e b)) (tidxV a b) := by
  show TEq (match atI (a.l.map e) b with | some d => .ok d | none => .stuck) (match atI a.l b with | some d => .ok d | none => .stuck)
  rw [atI_map]
  cases atI a.l b <;> first | exact rfl | trivial
/-- an item of a written tuple -/
def pj {α β : Type} (f : α → β) (a : α) : R β := .ok (f a)
@[simp] theorem pj_ap {α β : Type} (f : α → β) (a : α) : pj f a = .ok (f a) := rfl
theorem o_pj {n : Int} {p : α → β} (h : ∀ a : α, vidx (e a) (.int n) = .ok (e (p a)) := by intro _; rfl) {ρ : PEnv} {f : PEnv → R PyData} {s : R α} (ha : TEq (f ρ) s) : TEq (v2 vidx f (vC (.int n)) ρ) (b1 (pj p) s) := ha.bind fun a => h a
theorem o_pjN {n : Int} {p : α → β} (h : ∀ a : α, vidx (e a) (.int (-n)) = .ok (e (p a)) := by intro _; rfl) {ρ : PEnv} {f : PEnv → R PyData} {s : R α} (ha : TEq (f ρ) s) : TEq (v2 vidx f (v1 vneg (vC (.int n))) ρ) (b1 (pj p) s) := ha.bind fun a => h a
/-- a[len(a) - n] -/
theorem o_pjL {n : Int} {p : α → β} (h : ∀ a : α, ((vlen [e a]).bind fun m => (vsub m (.int n)).bind fun j => vidx (e a) j) = .ok (e (p a)) := by intro _; rfl) {ρ : PEnv} {f : PEnv → R PyData} {s : R α} (ha : TEq (f ρ) s) : TEq (v2 vidx f (v2 vsub (vapp vlen (aCons f aNil)) (vC (.int n))) ρ) (b1 (pj p) s) := by
  cases s with
  | stuck => trivial
  | err c =>
    have ha : f ρ = .err c := ha
    show R.bind (f ρ) _ = _
    rw [ha]; rfl
  | ok a =>
    have ha : f ρ = .ok (e a) := ha
    show R.bind (f ρ) _ = _
    rw [ha]
    show R.bind (R.bind (R.bind (R.bind (f ρ) _) vlen) _) _ = _
    rw [ha]
    have h := h a
    show R.bind (R.bind (vlen [e a]) (fun d => vsub d (.int n))) (fun j => vidx (e a) j) = _
    cases q : vlen [e a] with
    | stuck => rw [q] at h; exact h
    | err c => rw [q] at h; exact h
    | ok m => rw [q] at h; exact h
theorem vEq_T [q : EqE α] (a b : α) (h : EqE.ok a ∧ EqE.ok b) (hd : EqE.dep α ≤ 64) : vEq (e a) (e b) = .ok (@decide (a = b) (q.dec a b)) := by
  rw [vEq_ok (EqE.lay a h.1) (EqE.lay b h.2) hd hd, EqE.eqv a b h.1 h.2]
theorem o_eq [q : EqE α] (hd : EqE.dep α ≤ 64 := by decide) (a b : α) : TEq (veq (e a) (e b)) (teq a b) := by
  unfold teq
  by_cases h : EqE.ok a ∧ EqE.ok b
  · rw [if_pos h]; unfold veq; rw [vEq_T a b h hd]; exact rfl
  · rw [if_neg h]; trivial
theorem o_ne [q : EqE α] (hd : EqE.dep α ≤ 64 := by decide) (a b : α) : TEq (vne (e a) (e b)) (tne a b) := by
  unfold tne
  by_cases h : EqE.ok a ∧ EqE.ok b
  · rw [if_pos h]; unfold vne; rw [vEq_T a b h hd]; exact rfl
  · rw [if_neg h]; trivial
theorem any_T [q : EqE α] {a : α} (ha : EqE.ok a) : ∀ {xs : List α}, (∀ x ∈ xs, EqE.ok x) → ((xs.map e).any fun z => PyData.eqv z (e a)) = xs.any fun x => @decide (x = a) (q.dec x a)
  | [], _ => rfl
  | x :: xs, h => by
    rw [List.map_cons, List.any_cons, List.any_cons, any_T ha fun y hy => h y (List.mem_cons_of_mem _ hy), EqE.eqv x a (h x List.mem_cons_self) ha]
theorem o_in [q : EqE α] (hd : EqE.dep α + 1 ≤ 64 := by decide) (a : α) (b : List α) : TEq (vIn (e a) (e b)) (tin a b) := by
  unfold tin
  by_cases h : EqE.ok a ∧ EqE.ok b
  · rw [if_pos h]
    show TEq (vIn (e a) (.list (b.map e))) _
    rw [vIn_ok (EqE.lay a h.1) (EqE.lay b h.2) (by omega) hd, any_T h.1 h.2.2]; exact rfl
  · rw [if_neg h]; trivial
theorem o_nin [q : EqE α] (hd : EqE.dep α + 1 ≤ 64 := by decide) (a : α) (b : List α) : TEq (vNotIn (e a) (e b)) (tnin a b) := by
  unfold tnin
  by_cases h : EqE.ok a ∧ EqE.ok b
  · rw [if_pos h]
    show TEq (vNotIn (e a) (.list (b.map e))) _
    rw [vNotIn_ok (EqE.lay a h.1) (EqE.lay b h.2) (by omega) hd, any_T h.1 h.2.2]; exact rfl
  · rw [if_neg h]; trivial
noncomputable def tinV {α : Type} [Enc α] [EqE α] (a : α) (xs : Tup α) : R Bool := tin a xs.l
noncomputable def tninV {α : Type} [Enc α] [EqE α] (a : α) (xs : Tup α) : R Bool := tnin a xs.l
@[simp] theorem tinV_ap [EqE α] (a : α) (xs : Tup α) : tinV a xs = tin a xs.l := rfl
@[simp] theorem tninV_ap [EqE α] (a : α) (xs : Tup α) : tninV a xs = tnin a xs.l := rfl
theorem o_inV [q : EqE α] (hd : EqE.dep α + 1 ≤ 64 := by decide) (a : α) (b : Tup α) : TEq (vInT (e a) (e b)) (tinV a b) := by
  unfold tinV tin
  by_cases h : EqE.ok a ∧ EqE.ok b.l
  · rw [if_pos h]
    show TEq (vInT (e a) (.tuple (b.l.map e))) _
    rw [vInT_ok (EqE.lay a h.1) (EqE.lay (α := Tup α) b h.2) (by omega) hd, any_T h.1 h.2.2]; exact rfl
  · rw [if_neg h]; trivial
theorem o_ninV [q : EqE α] (hd : EqE.dep α + 1 ≤ 64 := by decide) (a : α) (b : Tup α) : TEq (vNotInT (e a) (e b)) (tninV a b) := by
  unfold tninV tnin
  by_cases h : EqE.ok a ∧ EqE.ok b.l
  · rw [if_pos h]
    show TEq (vNotInT (e a) (.tuple (b.l.map e))) _
    rw [vNotInT_ok (EqE.lay a h.1) (EqE.lay (α := Tup α) b h.2) (by omega) hd, any_T h.1 h.2.2]; exact rfl
  · rw [if_neg h]; trivial
noncomputable def tindex {α : Type} [Enc α] [q : EqE α] (xs : List α) (a : α) : R Int := @ite _ (EqE.ok a ∧ EqE.ok xs) (Classical.propDecidable _) (match xs.findIdx? fun x => @decide (x = a) (q.dec x a) with | some j => .ok (j : Nat) | none => .stuck) .stuck
theorem find_T [q : EqE α] {a : α} (ha : EqE.ok a) : ∀ {xs : List α}, (∀ x ∈ xs, EqE.ok x) → ((xs.map e).findIdx? fun z => PyData.eqv z (e a)) = xs.findIdx? fun x => @decide (x = a) (q.dec x a)
  | [], _ => rfl
  | x :: xs, h => by
    rw [List.map_cons, List.findIdx?_cons, List.findIdx?_cons, find_T ha fun y hy => h y (List.mem_cons_of_mem _ hy), EqE.eqv x a (h x List.mem_cons_self) ha]
theorem o_index [q : EqE α] (hd : EqE.dep α + 1 ≤ 64 := by decide) (b : List α) (a : α) : TEq (vindex (e b) (e a)) (tindex b a) := by
  unfold tindex
  by_cases h : EqE.ok a ∧ EqE.ok b
  · rw [if_pos h]
    show TEq (if _ then _ else _) _
    rw [if_pos ⟨okS.shaped (EqE.lay b h.2) hd, okS.shaped (EqE.lay a h.1) (by omega)⟩, find_T h.1 h.2.2]
    cases b.findIdx? fun x => @decide (x = a) (q.dec x a) <;> first | exact rfl | trivial
  · rw [if_neg h]; trivial
/- anything over data -/
theorem o_D2 {op : PyData → PyData → R PyData} (a b : PyData) : TEq (op (e a) (e b)) (op a b) := by
  show TEq (op a b) (op a b)
  cases op a b <;> first | exact rfl | trivial
theorem o_D1 {op : PyData → R PyData} (a : PyData) : TEq (op (e a)) (op a) := by
  show TEq (op a) (op a)
  cases op a <;> first | exact rfl | trivial
def dB (op : PyData → PyData → R PyData) (a b : PyData) : R Bool := (op a b).bind cBool
def dB1 (op : PyData → R PyData) (a : PyData) : R Bool := (op a).bind cBool
@[simp] theorem dB_ap (op : PyData → PyData → R PyData) (a b : PyData) : dB op a b = (op a b).bind cBool := rfl
@[simp] theorem dB1_ap (op : PyData → R PyData) (a : PyData) : dB1 op a = (op a).bind cBool := rfl
theorem o_DB2 {op : PyData → PyData → R PyData} (a b : PyData) : TEq (op (e a) (e b)) (dB op a b) := t_co Co.bool (o_D2 a b)
theorem o_DB1 {op : PyData → R PyData} (a : PyData) : TEq (op (e a)) (dB1 op a) := t_co Co.bool (o_D1 a)
/- built-ins -/
theorem o_len (a : List α) : TEq (vlen [e a]) (tlen a) := by show R.ok (PyData.int ((a.map e).length)) = _; rw [List.length_map]; rfl
theorem o_lenV (a : Tup α) : TEq (vlen [e a]) (tlenV a) := by show R.ok (PyData.int ((a.l.map e).length)) = _; rw [List.length_map]; rfl
theorem o_lenS (a : Str) : TEq (vlen [e a]) (tlenS a) := by
  show TEq (if _ then _ else _) (if _ then _ else _)
  split
  · exact rfl
  · trivial
theorem o_D1L {op : List PyData → R PyData} (a : PyData) : TEq (op [e a]) (op [a]) := by
  show TEq (op [a]) (op [a])
  cases op [a] <;> first | exact rfl | trivial
theorem o_int (a : Int) : TEq (vint1 [e a]) (tint a) := rfl
theorem o_intB (a : Bool) : TEq (vint1 [e a]) (tintB a) := rfl
theorem o_abs (a : Int) : TEq (vabs [e a]) (tabs a) := rfl
theorem o_tupL (a : List α) : TEq (vtuple1 [e a]) (ttupL a) := rfl
theorem o_tupV (a : Tup α) : TEq (vtuple1 [e a]) (tid a) := rfl
theorem o_listL (a : List α) : TEq (vlist1 [e a]) (tid a) := rfl
theorem o_listV (a : Tup α) : TEq (vlist1 [e a]) (tlistV a) := rfl
theorem o_sum (a : List Int) : TEq (vsum [e a]) (tsum a) := vsum_ints a
theorem o_all (a : List Bool) : TEq (vall [e a]) (tallB a) := vall_bools a
theorem o_any (a : List Bool) : TEq (vany [e a]) (tanyB a) := vany_bools a
theorem o_maxL (a : List Int) : TEq (vmax [e a]) (tmaxL a) := by
  show TEq (match intsOf (a.map PyData.int) with | some ns => vmax1 ns | none => .stuck) _
  rw [intsOf_map]
  show TEq (vmax1 a) _
  unfold tmaxL vmax1
  cases a.max? <;> first | exact rfl | trivial
theorem o_minL (a : List Int) : TEq (vmin [e a]) (tminL a) := by
  show TEq (match intsOf (a.map PyData.int) with | some ns => vmin1 ns | none => .stuck) _
  rw [intsOf_map]
  show TEq (vmin1 a) _
  unfold tminL vmin1
  cases a.min? <;> first | exact rfl | trivial
theorem o_max2 (a b : Int) : TEq (vmax [e a, e b]) (tmax2 a b) := rfl
theorem o_min2 (a b : Int) : TEq (vmin [e a, e b]) (tmin2 a b) := rfl
theorem o_max3 (a b c : Int) : TEq (vmax3 [e a, e b, e c]) (tmax3 a b c) := rfl
theorem o_min3 (a b c : Int) : TEq (vmin3 [e a, e b, e c]) (tmin3 a b c) := rfl
theorem o_range1 (j : Int) : TL (vrange1 (e j)) (trange1 j) := by
  show TL (if rngOk 0 j then _ else _) (if rngOk 0 j then _ else _)
  split
  · show R.ok _ = R.ok _
    unfold rangeD rangeI; rw [List.map_map]; rfl
  · trivial
theorem o_range2 (i j : Int) : TL (vrange2 (e i) (e j)) (trange2 i j) := by
  show TL (if rngOk i j then _ else _) (if rngOk i j then _ else _)
  split
  · show R.ok _ = R.ok _
    unfold rangeD rangeI; rw [List.map_map]; rfl
  · trivial
theorem o_rangeN (i j : Int) : TL (vrangeN (e i) (e j)) (trangeN i j) := by
  show TL (if rngOk i j ∧ i - j ≤ 16777216 then _ else _) (if rngOk i j ∧ i - j ≤ 16777216 then _ else _)
  split
  · show R.ok _ = R.ok _
    unfold rangeCD rangeCI; rw [List.map_map]; rfl
  · trivial
theorem o_enum (xs : List α) : TL (venum (e xs)) (tenum xs) := by
  show R.ok (enumD (xs.map e)) = R.ok _
  unfold enumD
  congr 1
  apply List.ext_getElem?
  intro i
  simp only [List.getElem?_mapIdx, List.getElem?_map, Option.map_map]
  rfl
theorem o_zip (xs : List α) (ys : List β) : TL (vzip (e xs) (e ys)) (tzip xs ys) := by
  show R.ok (zipD (xs.map e) (ys.map e)) = R.ok _
  unfold zipD
  rw [List.zipWith_map, List.map_zipWith]; rfl
theorem o_rev (xs : List α) : TL (vrev (e xs)) (trev xs) := by
  show R.ok _ = R.ok _
  rw [List.map_reverse]
theorem o_truI (i : Int) : TB (vtruth (e i)) (ttruI i) := rfl
theorem o_truB (i : Bool) : TB (vtruth (e i)) (tid i) := rfl
theorem o_truL (i : List α) : TB (vtruth (e i)) (ttruL i) := by cases i <;> rfl
theorem o_truV (i : Tup α) : TB (vtruth (e i)) (ttruV i) := by obtain ⟨i⟩ := i; cases i <;> rfl
theorem TB_id {x : R Bool} : TB x x := by cases x <;> first | exact rfl | trivial
theorem o_truD (i : PyData) : TB (vtruth (e i)) (vtruth i) := TB_id
theorem o_isnoneD (i : PyData) : TEq (visnone (e i)) (tisnoneD i) := rfl
theorem o_isnoneK (b : Bool) (h : ∀ a : α, visnone (e a) = .ok (.bool b)) (i : α) : TEq (visnone (e i)) ((fun _ => R.ok b) i) := h i
/-- an answer that the type gives -/
def tK {α : Type} (b : Bool) (_ : α) : R Bool := .ok b
@[simp] theorem tK_ap {α : Type} (b : Bool) (a : α) : tK b a = .ok b := rfl
theorem o_K {op : PyData → R PyData} {b : Bool} (h : ∀ a : α, op (e a) = .ok (.bool b) := by intro _; rfl) (i : α) : TEq (op (e i)) (tK b i) := h i

/-! ### what is one's own -/
abbrev oF (a : α) : O := .fz (e a)
abbrev oL {α : Type} (ox : α → O) (xs : List α) : O := .lst (xs.map ox)
theorem dF (a : α) : O.data (oF a) = e a := O.data_fz _
theorem dL {ox : α → O} (h : ∀ a, O.data (ox a) = e a) (xs : List α) : O.data (oL ox xs) = e xs := by
  show _ = PyData.list (xs.map e)
  rw [O.data_lst, List.map_map]
  congr 1
  exact List.map_congr_left fun a _ => h a
/-- values without lists -/
class LF (α : Type) [Enc α] : Prop where
  h : ∀ a : α, lf (e a) = true
instance : LF Int := ⟨lf_int⟩
instance : LF Bool := ⟨lf_bool⟩
instance : LF Str := ⟨lf_str⟩
instance : LF Unit := ⟨fun _ => lf_none⟩
instance [LF α] : LF (T1 α) := ⟨fun p => by show lf (.tuple _) = true; simp [LF.h]⟩
instance [LF α] [LF β] : LF (α × β) := ⟨fun p => by show lf (.tuple _) = true; simp [LF.h]⟩
instance [LF α] [LF β] [LF γ] : LF (T3 α β γ) := ⟨fun p => by show lf (.tuple _) = true; simp [LF.h]⟩
instance [LF α] [LF β] [LF γ] [LF δ] : LF (T4 α β γ δ) := ⟨fun p => by show lf (.tuple _) = true; simp [LF.h]⟩
instance [LF α] [LF β] [LF γ] [LF δ] [LF ε] : LF (T5 α β γ δ ε) := ⟨fun p => by show lf (.tuple _) = true; simp [LF.h]⟩
theorem lfs_map [LF α] : ∀ xs : List α, lfs (xs.map e) = true
  | [] => lfs_nil
  | x :: xs => by rw [List.map_cons, lfs_cons, LF.h, lfs_map xs]; rfl
instance [LF α] : LF (Tup α) := ⟨fun p => by show lf (.tuple _) = true; rw [lf_tuple]; exact lfs_map _⟩
instance [LF α] : LF (Option α) := ⟨fun p => by cases p with | none => exact lf_none | some a => exact LF.h a⟩
theorem t_exF {f : PEnv → R PyData} {ρ : OEnv} {s : R α} (h : TEq (f (viewF ρ)) s) : TEq (exF f ρ) s := h
theorem t_exB [LF α] {f : PEnv → R PyData} {ρ : OEnv} {s : R α} (h : TEq (f (viewB ρ)) s) : TEq (exB f ρ) s := by
  show TEq ((f (viewB ρ)).bind lfok) s
  cases s with
  | stuck => trivial
  | err c => show (f (viewB ρ)).bind lfok = _; rw [show f (viewB ρ) = .err c from h]; rfl
  | ok a => show (f (viewB ρ)).bind lfok = _; rw [show f (viewB ρ) = .ok (e a) from h]; show (if lf (e a) = true then _ else _) = _; rw [if_pos (LF.h a)]
/-- data that may hold a list -/
theorem t_exBD {f : PEnv → R PyData} {ρ : OEnv} {s : R PyData} (h : TEq (f (viewB ρ)) s) : TEq (exB f ρ) (b1 lfok s) := h.bind fun d => by
  show TEq (lfok d) (lfok d)
  cases lfok d <;> first | exact rfl | trivial
theorem p_x {h : OEnv → R PyData} {ρ : OEnv} {s : R α} (hs : TEq (h ρ) s) : TQ (fun a : α => (oF a, ρ)) (oX h ρ) s := by
  cases s with
  | stuck => trivial
  | err c => show (h ρ).bind _ = _; rw [show h ρ = .err c from hs]; rfl
  | ok a => show (h ρ).bind _ = _; rw [show h ρ = .ok (e a) from hs]; rfl
theorem p_frF {f : PEnv → R (List PyData)} {ρ : OEnv} {s : R (List α)} (hs : TL (f (viewF ρ)) s) : TQ (fun a : List α => (oL oF a, ρ)) (oFrF f ρ) s := by
  cases s with
  | stuck => trivial
  | err c => show (f (viewF ρ)).bind _ = _; rw [show f (viewF ρ) = .err c from hs]; rfl
  | ok a => show (f (viewF ρ)).bind _ = _; rw [show f (viewF ρ) = .ok (a.map e) from hs]; show R.ok _ = R.ok _; rw [List.map_map]; rfl
theorem p_frB [LF α] {f : PEnv → R (List PyData)} {ρ : OEnv} {s : R (List α)} (hs : TL (f (viewB ρ)) s) : TQ (fun a : List α => (oL oF a, ρ)) (oFrB f ρ) s := by
  cases s with
  | stuck => trivial
  | err c => show (f (viewB ρ)).bind _ = _; rw [show f (viewB ρ) = .err c from hs]; rfl
  | ok a => show (f (viewB ρ)).bind _ = _; rw [show f (viewB ρ) = .ok (a.map e) from hs]; show (if lfs (a.map e) = true then _ else _) = R.ok _; rw [if_pos (lfs_map a), List.map_map]; rfl
theorem p_mv {α : Type} {ox : α → O} {ρ : OEnv} (i : Nat) (a : α) (h : ρ[i]? = some (some (ox a)) := by rfl) : TQ (fun a : α => (ox a, ρ.set i none)) (oMv i ρ) (.ok a) := by
  show oMv i ρ = _
  unfold oMv; rw [h]
def tpop {α : Type} (xs : List α) : R (α × List α) := match xs[xs.length - 1]? with | some a => .ok (a, xs.eraseIdx (xs.length - 1)) | none => .stuck
theorem p_pop {α : Type} {ox : α → O} {ρ : OEnv} (i : Nat) (xs : List α) (h : ρ[i]? = some (some (oL ox xs)) := by rfl) : TQ (fun p : α × List α => (ox p.1, ρ.set i (some (oL ox p.2)))) (oPop i ρ) (tpop xs) := by
  unfold oPop tpop; rw [h]
  simp only [List.length_map, List.getElem?_map]
  cases xs[xs.length - 1]? with
  | none => trivial
  | some a => show R.ok _ = R.ok _; rw [erase_map]
noncomputable def tpopAt {α : Type} (xs : List α) (j : Int) : R (α × List α) := @ite _ (0 ≤ j ∧ j < 16777216) (Classical.propDecidable _) (match xs[j.toNat]? with | some a => .ok (a, xs.eraseIdx j.toNat) | none => .stuck) .stuck
theorem p_popAt {α : Type} {ox : α → O} {ρ : OEnv} {hk : OEnv → R PyData} {t : R Int} (i : Nat) (xs : List α) (hj : TEq (hk ρ) t) (h : ρ[i]? = some (some (oL ox xs)) := by rfl) : TQ (fun p : α × List α => (ox p.1, ρ.set i (some (oL ox p.2)))) (oPopAt i hk ρ) (t.bind fun j => tpopAt xs j) := by
  unfold oPopAt; rw [h]
  refine hj.bind fun j => ?_
  unfold tpopAt
  by_cases hc : 0 ≤ j ∧ j < 16777216
  · simp only [e, Enc.e]
    rw [cite_pos hc, cite_pos hc, List.getElem?_map]
    cases xs[j.toNat]? with
    | none => trivial
    | some a => show R.ok _ = R.ok _; rw [erase_map]
  · rw [cite_neg hc]; trivial
theorem p_call {α : Type} {ox : α → O} {g : List PyData → R O} {fa : PEnv → R (List PyData)} {ρ : OEnv} {s : R α} (h : TQ ox ((fa (viewF ρ)).bind g) s) : TQ (fun a : α => (ox a, ρ)) (oCall g fa ρ) s := by
  have e1 : oCall g fa ρ = ((fa (viewF ρ)).bind g).bind fun o => .ok (o, ρ) := by rw [R.bind_assoc]; rfl
  rw [e1]
  cases s with
  | stuck => trivial
  | err c => show R.bind _ _ = _; rw [show (fa (viewF ρ)).bind g = .err c from h]; rfl
  | ok a => show R.bind _ _ = _; rw [show (fa (viewF ρ)).bind g = .ok (ox a) from h]; rfl
/-- arguments -/
theorem a_0 {ρ : PEnv} {k : List PyData → R O} {ox : θ → O} {t : R θ} (h : TQ ox (k []) t) : TQ ox ((aNil ρ).bind k) t := h
theorem a_1 {f : PEnv → R PyData} {g : PEnv → R (List PyData)} {ρ : PEnv} {k : List PyData → R O} {ox : θ → O} {s : R α} {t : α → R θ} (ha : TEq (f ρ) s) (h : ∀ a, TQ ox ((g ρ).bind fun ds => k (e a :: ds)) (t a)) : TQ ox ((aCons f g ρ).bind k) (s.bind t) := by
  show TQ ox (R.bind (R.bind _ _) _) _
  rw [R.bind_assoc]
  refine ha.bind fun a => ?_
  have := h a
  rw [R.bind_assoc]
  exact this
end
end VL

namespace VL
open PySem PySem.Spec PyProof.Rows L2
open Enc (e)
/-! ### typed statements -/
inductive TR (β l σ : Type) where
  | nx (s : σ)
  | bk (s : l)
  | ct (s : l)
  | rt (b : β)
  | err (c : Str)
  | stuck
def TR.bind {β l σ τ : Type} (x : TR β l σ) (k : σ → TR β l τ) : TR β l τ := match x with
  | .nx s => k s
  | .bk s => .bk s
  | .ct s => .ct s
  | .rt b => .rt b
  | .err c => .err c
  | .stuck => .stuck
def R.tr {α β l σ : Type} (x : R α) (k : α → TR β l σ) : TR β l σ := match x with
  | .ok a => k a
  | .err c => .err c
  | .stuck => .stuck
def tite {β l σ : Type} (c : R Bool) (s t : TR β l σ) : TR β l σ := c.tr fun b => if b then s else t
def forT {α β l σ : Type} (f : α → σ → TR β σ σ) : List α → σ → TR β l σ
  | [], s => .nx s
  | a :: as, s => match f a s with
    | .nx s' => forT f as s'
    | .ct s' => forT f as s'
    | .bk s' => .nx s'
    | .rt b => .rt b
    | .err c => .err c
    | .stuck => .stuck
def whileT {β l σ : Type} (c : σ → R Bool) (f : σ → TR β σ σ) : Nat → σ → TR β l σ
  | 0, _ => .stuck
  | n + 1, s => (c s).tr fun b => if b then (match f s with
    | .nx s' => whileT c f n s'
    | .ct s' => whileT c f n s'
    | .bk s' => .nx s'
    | .rt b => .rt b
    | .err c => .err c
    | .stuck => .stuck) else .nx s
noncomputable def loopT {β l σ : Type} (c : σ → R Bool) (f : σ → TR β σ σ) (s : σ) : TR β l σ :=
  open Classical in if h : ∃ n, whileT (l := l) c f n s ≠ .stuck then whileT c f (Classical.choose h) s else .stuck
def TR.fn {β l σ : Type} (x : TR β l σ) (d : σ → R β) : R β := match x with
  | .nx s => d s
  | .rt b => .ok b
  | .err c => .err c
  | _ => .stuck
def ttry {β l σ : Type} (s : TR β l σ) (tb : Str → Option Bool) (h : TR β l σ) : TR β l σ := match s with
  | .err c => match tb c with
    | some true => (match h with
      | .err _ => .stuck
      | r => r)
    | some false => .err c
    | none => .stuck
  | r => r
section
variable {β l σ τ α : Type}
@[simp] theorem TR.bind_nx (s : σ) (k : σ → TR β l τ) : TR.bind (.nx s) k = k s := rfl
@[simp] theorem TR.bind_bk (s : l) (k : σ → TR β l τ) : TR.bind (.bk s) k = .bk s := rfl
@[simp] theorem TR.bind_ct (s : l) (k : σ → TR β l τ) : TR.bind (.ct s) k = .ct s := rfl
@[simp] theorem TR.bind_rt (s : β) (k : σ → TR β l τ) : TR.bind (.rt s) k = .rt s := rfl
@[simp] theorem TR.bind_err (c : Str) (k : σ → TR β l τ) : TR.bind (.err c) k = .err c := rfl
@[simp] theorem R.tr_ok (a : α) (k : α → TR β l σ) : R.tr (.ok a) k = k a := rfl
@[simp] theorem R.tr_err (c : Str) (k : α → TR β l σ) : R.tr (.err c) k = .err c := rfl
@[simp] theorem R.tr_bind {γ : Type} (x : R γ) (f : γ → R α) (k : α → TR β l σ) : R.tr (x.bind f) k = x.tr fun c => (f c).tr k := by cases x <;> rfl
@[simp] theorem R.tr_ite (p : Prop) [Decidable p] (x y : R α) (k : α → TR β l σ) : R.tr (if p then x else y) k = if p then x.tr k else y.tr k := by split <;> rfl
@[simp] theorem TR.bind_ite (p : Prop) [Decidable p] (x y : TR β l σ) (k : σ → TR β l τ) : TR.bind (if p then x else y) k = if p then x.bind k else y.bind k := by split <;> rfl
@[simp] theorem TR.bind_tr (x : R α) (f : α → TR β l σ) (k : σ → TR β l τ) : TR.bind (x.tr f) k = x.tr fun a => (f a).bind k := by cases x <;> rfl
@[simp] theorem TR.bind_bind {υ : Type} (x : TR β l σ) (f : σ → TR β l τ) (k : τ → TR β l υ) : TR.bind (x.bind f) k = x.bind fun a => (f a).bind k := by cases x <;> rfl
@[simp] theorem tite_ap (c : R Bool) (s t : TR β l σ) : tite c s t = c.tr fun b => if b then s else t := rfl
@[simp] theorem forT_nil (f : α → σ → TR β σ σ) (s : σ) : (forT f [] s : TR β l σ) = .nx s := rfl
@[simp] theorem TR.fn_nx (s : σ) (d : σ → R β) : TR.fn (.nx s : TR β l σ) d = d s := rfl
@[simp] theorem TR.fn_rt (b : β) (d : σ → R β) : TR.fn (.rt b : TR β l σ) d = .ok b := rfl
@[simp] theorem TR.fn_err (c : Str) (d : σ → R β) : TR.fn (.err c : TR β l σ) d = .err c := rfl
@[simp] theorem TR.fn_ite (p : Prop) [Decidable p] (x y : TR β l σ) (d : σ → R β) : TR.fn (if p then x else y) d = if p then x.fn d else y.fn d := by split <;> rfl
@[simp] theorem TR.fn_tr (x : R α) (f : α → TR β l σ) (d : σ → R β) : TR.fn (x.tr f) d = x.bind fun a => (f a).fn d := by cases x <;> rfl
end
/-- what the typed side says of a statement -/
def SQ {β l σ : Type} (E : σ → OEnv → Prop) (L : l → OEnv → Prop) (er : O → β → Prop) (Z : OEnv → Prop) (r : SR) : TR β l σ → Prop
  | .nx s => ∃ ρ, r = .nx ρ ∧ E s ρ
  | .bk s => ∃ ρ, r = .bk ρ ∧ L s ρ
  | .ct s => ∃ ρ, r = .ct ρ ∧ L s ρ
  | .rt b => ∃ o ρ, r = .rt o ρ ∧ er o b
  | .err c => ∃ ρ, r = .err c ρ ∧ Z ρ
  | .stuck => True
section
variable {β l σ τ α γ : Type} {E : σ → OEnv → Prop} {E1 : τ → OEnv → Prop} {L : l → OEnv → Prop} {er : O → β → Prop} {Z : OEnv → Prop} {ρ : OEnv} {g h k g1 : OEnv → SR}
theorem q_nx (s : σ) (h : E s ρ) : SQ E L er Z (sNx ρ) (.nx s) := ⟨ρ, rfl, h⟩
theorem q_bk (s : l) (h : L s ρ) : SQ E L er Z (seq sBk k ρ) (.bk s) := ⟨ρ, rfl, h⟩
theorem q_ct (s : l) (h : L s ρ) : SQ E L er Z (seq sCt k ρ) (.ct s) := ⟨ρ, rfl, h⟩
theorem SR.seq_nxr (r : SR) : SR.seq r sNx = r := by cases r <;> rfl
theorem q_end {t : TR β l σ} (h : SQ E L er Z (seq g sNx ρ) t) : SQ E L er Z (g ρ) t := by
  have : seq g sNx ρ = g ρ := SR.seq_nxr _
  rw [this] at h; exact h
theorem q_nxs {t : TR β l σ} (h : SQ E L er Z (k ρ) t) : SQ E L er Z (seq sNx k ρ) t := h
theorem q_assoc {t : TR β l σ} (hh : SQ E L er Z (seq g (seq h k) ρ) t) : SQ E L er Z (seq (seq g h) k ρ) t := by
  have : seq (seq g h) k ρ = seq g (seq h k) ρ := by
    show SR.seq (SR.seq (g ρ) h) k = SR.seq (g ρ) (seq h k)
    cases g ρ <;> rfl
  rw [this]; exact hh
theorem q_pre {T : OEnv → OEnv} {t : TR β l σ} (hh : SQ E L er Z (seq g k (T ρ)) t) : SQ E L er Z (seq (pre T g) k ρ) t := hh
theorem q_pre0 {T : OEnv → OEnv} {t : TR β l σ} (hh : SQ E L er Z (g (T ρ)) t) : SQ E L er Z (pre T g ρ) t := hh
theorem freeze1 [Enc α] {ox : α → O} {is : List Nat} (i : Nat) (a : α) (hd : ∀ a, O.data (ox a) = e a) (h : ρ[i]? = some (some (ox a)) := by rfl) : freeze (i :: is) ρ = freeze is (ρ.set i (some (oF a))) := by
  rw [freeze_cons]
  unfold freezeAt; rw [h]
  show freeze is (ρ.set i (some (.fz (O.data (ox a))))) = _
  rw [hd]
theorem q_at {ρ' : OEnv} {t : TR β l σ} (he : ρ = ρ') (hh : SQ E L er Z (g ρ') t) : SQ E L er Z (g ρ) t := by rw [he]; exact hh
theorem SQ.sr {α γ : Type} {f : α → γ} {x : R γ} {t : R α} {kk : γ → SR} {ll : α → TR β l σ} (h : TQ f x t) (z : Z ρ) (hk : ∀ a, SQ E L er Z (kk (f a)) (ll a)) : SQ E L er Z (x.sr ρ kk) (t.tr ll) := by
  cases t with
  | stuck => trivial
  | err c => rw [show x = .err c from h]; exact ⟨ρ, rfl, z⟩
  | ok a => rw [show x = .ok (f a) from h]; exact hk a
theorem seq_sr {γ : Type} (x : R γ) (kk : γ → SR) : SR.seq (x.sr ρ kk) k = x.sr ρ fun c => (kk c).seq k := by cases x <;> rfl
theorem q_set {i : Nat} {ho : OEnv → R (O × OEnv)} {ox : α → O × OEnv} {t : R α} {ll : α → TR β l σ} (h : TQ ox (ho ρ) t) (z : Z ρ) (hk : ∀ a, SQ E L er Z (k ((ox a).2.set i (some (ox a).1))) (ll a)) : SQ E L er Z (seq (sSet i ho) k ρ) (t.tr ll) := by
  show SQ E L er Z (SR.seq (R.sr _ _ _) k) _
  rw [seq_sr]
  exact SQ.sr h z hk
theorem q_ret {ho : OEnv → R (O × OEnv)} {ox : α → O × OEnv} {f : α → β} {t : R α} (h : TQ ox (ho ρ) t) (z : Z ρ) (hr : ∀ a, er (ox a).1 (f a)) : SQ E L er Z (seq (sRet ho) k ρ) (t.tr fun a => .rt (f a)) := by
  show SQ E L er Z (SR.seq (R.sr _ _ _) k) _
  rw [seq_sr]
  exact SQ.sr h z fun a => ⟨_, _, rfl, hr a⟩
theorem q_retNone {b : β} (hr : er (.fz .none) b) : SQ E L er Z (seq sRetN k ρ) (.rt b) := ⟨_, _, rfl, hr⟩
theorem q_raise {c : Str} (z : Z ρ) : SQ E L er Z (seq (sRaise c) k ρ) (.err c) := ⟨ρ, rfl, z⟩
theorem q_expr {ho : OEnv → R (O × OEnv)} {ox : α → O × OEnv} {t : R α} {ll : α → TR β l σ} (h : TQ ox (ho ρ) t) (z : Z ρ) (hk : ∀ a, SQ E L er Z (k (ox a).2) (ll a)) : SQ E L er Z (seq (sExpr ho) k ρ) (t.tr ll) := by
  show SQ E L er Z (SR.seq (R.sr _ _ _) k) _
  rw [seq_sr]
  exact SQ.sr h z hk
/- a test whose ways go on, each for itself -/
theorem q_if {c : PEnv → R Bool} {s : R Bool} {t1 t2 : TR β l σ} (hc : TB (c (viewB ρ)) s) (z : Z ρ) (h1 : SQ E L er Z (seq g k ρ) t1) (h2 : SQ E L er Z (seq h k ρ) t2) : SQ E L er Z (seq (sIf (tB c) g h) k ρ) (tite s t1 t2) := by
  show SQ E L er Z (SR.seq (R.sr _ _ _) k) _
  rw [seq_sr]
  refine SQ.sr hc z fun b => ?_
  cases b
  · exact h2
  · exact h1
theorem SQ.bind {r : SR} {t : TR β l τ} {ll : τ → TR β l σ} (h : SQ E1 L er Z r t) (hk : ∀ s ρ, E1 s ρ → SQ E L er Z (k ρ) (ll s)) : SQ E L er Z (r.seq k) (t.bind ll) := by
  cases t with
  | stuck => trivial
  | nx s => obtain ⟨ρ, e1, e2⟩ := h; rw [e1]; exact hk s ρ e2
  | bk s => obtain ⟨ρ, e1, e2⟩ := h; rw [e1]; exact ⟨ρ, rfl, e2⟩
  | ct s => obtain ⟨ρ, e1, e2⟩ := h; rw [e1]; exact ⟨ρ, rfl, e2⟩
  | rt s => obtain ⟨o, ρ, e1, e2⟩ := h; rw [e1]; exact ⟨o, ρ, rfl, e2⟩
  | err c => obtain ⟨ρ, e1, e2⟩ := h; rw [e1]; exact ⟨ρ, rfl, e2⟩
/- ways that meet again -/
theorem q_join {Es : τ → OEnv} {t : TR β l τ} {ll : τ → TR β l σ} (h : SQ (fun s ρ => ρ = Es s) L er Z (g ρ) t) (hk : ∀ s, SQ E L er Z (k (Es s)) (ll s)) : SQ E L er Z (seq g k ρ) (t.bind ll) :=
  SQ.bind h fun s ρ e1 => by rw [e1]; exact hk s
theorem forL_T {α' : Type} [Enc α] {kt : PyData → R (List (Nat × PyData))} {kl : OEnv → OEnv} {gb : OEnv → SR} {Es : τ → OEnv} {bs : α' → List (Nat × PyData)} {c : α → R α'} {body : α' → τ → TR β τ τ} (hk : ∀ a, TQ bs (kt (e a)) (c a)) (hkl : ∀ s, kl (Es s) = Es s)
    (hb : ∀ b s, SQ (fun s ρ => kl ρ = Es s) (fun s ρ => ρ = Es s) er Z (gb (setsO (Es s) (bs b))) (body b s)) : ∀ (xs : List α) (s : τ), SQ (fun s ρ => ρ = Es s) L er Z (forL kt kl gb (xs.map e) (Es s)) (forT (fun a s => (c a).calm.tr fun b => body b s) xs s : TR β l τ)
  | [], s => ⟨_, rfl, rfl⟩
  | a :: as, s => by
    have h1 := hk a
    simp only [List.map_cons, forL, forT]
    cases hca : c a with
    | stuck => trivial
    | err x => trivial
    | ok b =>
      rw [hca] at h1
      rw [show kt (e a) = .ok (bs b) from h1]
      simp only [R.tr_ok, calm_okk]
      have h2 := hb b s
      cases ht : body b s with
      | stuck => trivial
      | nx s' =>
        rw [ht] at h2; obtain ⟨ρ', e1, e2⟩ := h2
        rw [e1]; simp only [e2]
        exact forL_T hk hkl hb as s'
      | ct s' =>
        rw [ht] at h2; obtain ⟨ρ', e1, e2⟩ := h2
        rw [e1]; simp only [e2, hkl]
        exact forL_T hk hkl hb as s'
      | bk s' => rw [ht] at h2; obtain ⟨ρ', e1, e2⟩ := h2; rw [e1]; exact ⟨_, rfl, e2⟩
      | rt b => rw [ht] at h2; obtain ⟨o, ρ', e1, e2⟩ := h2; rw [e1]; exact ⟨_, _, rfl, e2⟩
      | err b => rw [ht] at h2; obtain ⟨ρ', e1, e2⟩ := h2; rw [e1]; exact ⟨_, rfl, e2⟩
theorem forL_T0 [Enc α] {kt : PyData → R (List (Nat × PyData))} {kl : OEnv → OEnv} {gb : OEnv → SR} {Es : τ → OEnv} {bs : α → List (Nat × PyData)} {body : α → τ → TR β τ τ} (hk : ∀ a, kt (e a) = .ok (bs a)) (hkl : ∀ s, kl (Es s) = Es s)
    (hb : ∀ b s, SQ (fun s ρ => kl ρ = Es s) (fun s ρ => ρ = Es s) er Z (gb (setsO (Es s) (bs b))) (body b s)) (xs : List α) (s : τ) : SQ (fun s ρ => ρ = Es s) L er Z (forL kt kl gb (xs.map e) (Es s)) (forT body xs s : TR β l τ) :=
  forL_T (c := fun a => .ok a) (bs := bs) (fun a => hk a) hkl hb xs s
theorem q_for [Enc α] {hi : OEnv → R (List PyData)} {kt : PyData → R (List (Nat × PyData))} {kl : OEnv → OEnv} {gb : OEnv → SR} {t : R (List α)} {body : α → τ → TR β τ τ} {ll : τ → TR β l σ} (Es : τ → OEnv) (bs : α → List (Nat × PyData)) (s0 : τ) (h : TL (hi ρ) t) (z : Z ρ) (he : ρ = Es s0) (hk : ∀ a, kt (e a) = .ok (bs a)) (hkl : ∀ s, kl (Es s) = Es s)
    (hb : ∀ b s, SQ (fun s ρ => kl ρ = Es s) (fun s ρ => ρ = Es s) er Z (gb (setsO (Es s) (bs b))) (body b s)) (hr : ∀ s, SQ E L er Z (k (Es s)) (ll s)) : SQ E L er Z (seq (sFor hi kt kl gb) k ρ) (t.tr fun xs => (forT body xs s0).bind ll) := by
  show SQ E L er Z (SR.seq (R.sr _ _ _) k) _
  rw [seq_sr]
  refine SQ.sr h z fun xs => ?_
  rw [he]
  exact SQ.bind (forL_T0 hk hkl hb xs s0) fun s ρ e1 => by rw [e1]; exact hr s
theorem q_forK [Enc α] {hi : OEnv → R (List PyData)} {T : OEnv → OEnv} {kt : PyData → R (List (Nat × PyData))} {kl : OEnv → OEnv} {gb : OEnv → SR} {t : R (List α)} {body : α → τ → TR β τ τ} {ll : τ → TR β l σ} (Es : τ → OEnv) (bs : α → List (Nat × PyData)) (s0 : τ) (h : TL (hi ρ) t) (z : Z ρ) (he : T ρ = Es s0) (hk : ∀ a, kt (e a) = .ok (bs a)) (hkl : ∀ s, kl (Es s) = Es s)
    (hb : ∀ b s, SQ (fun s ρ => kl ρ = Es s) (fun s ρ => ρ = Es s) er Z (gb (setsO (Es s) (bs b))) (body b s)) (hr : ∀ s, SQ E L er Z (k (Es s)) (ll s)) : SQ E L er Z (seq (sForK hi T kt kl gb) k ρ) (t.tr fun xs => (forT body xs s0).bind ll) := by
  show SQ E L er Z (SR.seq (R.sr _ _ _) k) _
  rw [seq_sr]
  refine SQ.sr h z fun xs => ?_
  rw [he]
  exact SQ.bind (forL_T0 hk hkl hb xs s0) fun s ρ e1 => by rw [e1]; exact hr s
theorem q_forC {α' : Type} [Enc α] {hi : OEnv → R (List PyData)} {kt : PyData → R (List (Nat × PyData))} {kl : OEnv → OEnv} {gb : OEnv → SR} {t : R (List α)} {body : α' → τ → TR β τ τ} {ll : τ → TR β l σ} (c : α → R α') (Es : τ → OEnv) (bs : α' → List (Nat × PyData)) (s0 : τ) (h : TL (hi ρ) t) (z : Z ρ) (he : ρ = Es s0) (hk : ∀ a, TQ bs (kt (e a)) (c a)) (hkl : ∀ s, kl (Es s) = Es s)
    (hb : ∀ b s, SQ (fun s ρ => kl ρ = Es s) (fun s ρ => ρ = Es s) er Z (gb (setsO (Es s) (bs b))) (body b s)) (hr : ∀ s, SQ E L er Z (k (Es s)) (ll s)) : SQ E L er Z (seq (sFor hi kt kl gb) k ρ) (t.tr fun xs => (forT (fun a s => (c a).calm.tr fun b => body b s) xs s0).bind ll) := by
  show SQ E L er Z (SR.seq (R.sr _ _ _) k) _
  rw [seq_sr]
  refine SQ.sr h z fun xs => ?_
  rw [he]
  exact SQ.bind (forL_T hk hkl hb xs s0) fun s ρ e1 => by rw [e1]; exact hr s
theorem q_forCK {α' : Type} [Enc α] {hi : OEnv → R (List PyData)} {T : OEnv → OEnv} {kt : PyData → R (List (Nat × PyData))} {kl : OEnv → OEnv} {gb : OEnv → SR} {t : R (List α)} {body : α' → τ → TR β τ τ} {ll : τ → TR β l σ} (c : α → R α') (Es : τ → OEnv) (bs : α' → List (Nat × PyData)) (s0 : τ) (h : TL (hi ρ) t) (z : Z ρ) (he : T ρ = Es s0) (hk : ∀ a, TQ bs (kt (e a)) (c a)) (hkl : ∀ s, kl (Es s) = Es s)
    (hb : ∀ b s, SQ (fun s ρ => kl ρ = Es s) (fun s ρ => ρ = Es s) er Z (gb (setsO (Es s) (bs b))) (body b s)) (hr : ∀ s, SQ E L er Z (k (Es s)) (ll s)) : SQ E L er Z (seq (sForK hi T kt kl gb) k ρ) (t.tr fun xs => (forT (fun a s => (c a).calm.tr fun b => body b s) xs s0).bind ll) := by
  show SQ E L er Z (SR.seq (R.sr _ _ _) k) _
  rw [seq_sr]
  refine SQ.sr h z fun xs => ?_
  rw [he]
  exact SQ.bind (forL_T hk hkl hb xs s0) fun s ρ e1 => by rw [e1]; exact hr s
/- while -/
theorem whileN_T {c : PEnv → R Bool} {kl : OEnv → OEnv} {gb : OEnv → SR} {Es : τ → OEnv} {ct : τ → R Bool} {body : τ → TR β τ τ} (hc : ∀ s, TB (c (viewB (Es s))) (ct s)) (hz : ∀ s, Z (Es s)) (hkl : ∀ s, kl (Es s) = Es s)
    (hb : ∀ s, SQ (fun s ρ => kl ρ = Es s) (fun s ρ => ρ = Es s) er Z (gb (Es s)) (body s)) : ∀ (n : Nat) (s : τ), SQ (fun s ρ => ρ = Es s) L er Z (whileN (tB c) kl gb n (Es s)) (whileT ct body n s : TR β l τ)
  | 0, s => trivial
  | n + 1, s => by
    unfold whileN whileT
    refine SQ.sr (hc s) (hz s) fun b => ?_
    cases b with
    | false => exact ⟨_, rfl, rfl⟩
    | true =>
      simp only [if_true]
      have h2 := hb s
      cases ht : body s with
      | stuck => trivial
      | nx s' =>
        rw [ht] at h2; obtain ⟨ρ', e1, e2⟩ := h2
        rw [e1]; simp only [e2]
        exact whileN_T hc hz hkl hb n s'
      | ct s' =>
        rw [ht] at h2; obtain ⟨ρ', e1, e2⟩ := h2
        rw [e1]; simp only [e2, hkl]
        exact whileN_T hc hz hkl hb n s'
      | bk s' => rw [ht] at h2; obtain ⟨ρ', e1, e2⟩ := h2; rw [e1]; exact ⟨_, rfl, e2⟩
      | rt b => rw [ht] at h2; obtain ⟨o, ρ', e1, e2⟩ := h2; rw [e1]; exact ⟨_, _, rfl, e2⟩
      | err b => rw [ht] at h2; obtain ⟨ρ', e1, e2⟩ := h2; rw [e1]; exact ⟨_, rfl, e2⟩
theorem SQ.ne {r : SR} {t : TR β l τ} (h : SQ E1 L er Z r t) (ht : t ≠ .stuck) : r ≠ .stuck := by
  cases t with
  | stuck => exact absurd rfl ht
  | nx s => obtain ⟨ρ', e1, _⟩ := h; rw [e1]; exact nofun
  | ct s => obtain ⟨ρ', e1, _⟩ := h; rw [e1]; exact nofun
  | bk s => obtain ⟨ρ', e1, _⟩ := h; rw [e1]; exact nofun
  | rt s => obtain ⟨_, ρ', e1, _⟩ := h; rw [e1]; exact nofun
  | err s => obtain ⟨ρ', e1, _⟩ := h; rw [e1]; exact nofun
theorem sWhile_at {t : OEnv → R Bool} {kl : OEnv → OEnv} {gb : OEnv → SR} {n : Nat} {ρ : OEnv} (h : whileN t kl gb n ρ ≠ .stuck) : sWhile t kl gb ρ = whileN t kl gb n ρ := by
  unfold sWhile
  have ex : ∃ n, whileN t kl gb n ρ ≠ .stuck := ⟨n, h⟩
  rw [dif_pos ex]
  rcases Nat.le_total n (Classical.choose ex) with q | q
  · exact whileN_mono t kl gb _ _ ρ q h
  · exact (whileN_mono t kl gb _ _ ρ q (Classical.choose_spec ex)).symm
theorem loop_T {c : PEnv → R Bool} {kl : OEnv → OEnv} {gb : OEnv → SR} {Es : τ → OEnv} {ct : τ → R Bool} {body : τ → TR β τ τ} (hc : ∀ s, TB (c (viewB (Es s))) (ct s)) (hz : ∀ s, Z (Es s)) (hkl : ∀ s, kl (Es s) = Es s)
    (hb : ∀ s, SQ (fun s ρ => kl ρ = Es s) (fun s ρ => ρ = Es s) er Z (gb (Es s)) (body s)) (s : τ) : SQ (fun s ρ => ρ = Es s) L er Z (sWhile (tB c) kl gb (Es s)) (loopT ct body s : TR β l τ) := by
  unfold loopT
  split
  · rename_i ex
    have h1 := whileN_T (L := L) hc hz hkl hb (Classical.choose ex) s
    rw [sWhile_at (h1.ne (Classical.choose_spec ex))]
    exact h1
  · trivial
theorem q_while {c : PEnv → R Bool} {kl : OEnv → OEnv} {gb : OEnv → SR} {ct : τ → R Bool} {body : τ → TR β τ τ} {ll : τ → TR β l σ} (Es : τ → OEnv) (s0 : τ) (he : ρ = Es s0) (hc : ∀ s, TB (c (viewB (Es s))) (ct s)) (hz : ∀ s, Z (Es s)) (hkl : ∀ s, kl (Es s) = Es s)
    (hb : ∀ s, SQ (fun s ρ => kl ρ = Es s) (fun s ρ => ρ = Es s) er Z (gb (Es s)) (body s)) (hr : ∀ s, SQ E L er Z (k (Es s)) (ll s)) : SQ E L er Z (seq (sWhile (tB c) kl gb) k ρ) ((loopT ct body s0).bind ll) := by
  rw [he]
  exact SQ.bind (loop_T hc hz hkl hb s0) fun s ρ e1 => by rw [e1]; exact hr s
/- other statements -/
theorem q_tup {α' : Type} [Enc α] {kt : PyData → R (List (Nat × PyData))} {hx : OEnv → R PyData} {t : R α} {ll : α' → TR β l σ} (c : α → R α') (bs : α' → List (Nat × PyData)) (h : TEq (hx ρ) t) (z : Z ρ) (hk : ∀ a, TQ bs (kt (e a)) (c a)) (hr : ∀ b, SQ E L er Z (k (setsO ρ (bs b))) (ll b)) : SQ E L er Z (seq (sTup kt hx) k ρ) (t.tr fun a => (c a).calm.tr ll) := by
  show SQ E L er Z (SR.seq (R.sr _ _ _) k) _
  rw [seq_sr]
  refine SQ.sr h z fun a => ?_
  have h1 := hk a
  cases hca : c a with
  | stuck => trivial
  | err x => trivial
  | ok b => rw [hca] at h1; rw [show kt (e a) = .ok (bs b) from h1]; exact hr b
theorem q_tup0 [Enc α] {kt : PyData → R (List (Nat × PyData))} {hx : OEnv → R PyData} {t : R α} {ll : α → TR β l σ} (bs : α → List (Nat × PyData)) (h : TEq (hx ρ) t) (z : Z ρ) (hk : ∀ a, kt (e a) = .ok (bs a)) (hr : ∀ b, SQ E L er Z (k (setsO ρ (bs b))) (ll b)) : SQ E L er Z (seq (sTup kt hx) k ρ) (t.tr ll) := by
  have := q_tup (k := k) (er := er) (E := E) (L := L) (c := fun a => .ok a) bs h z (fun a => hk a) hr
  simpa only [calm_okk, R.tr_ok] using this
theorem q_par [Enc α] [Enc γ] {i j : Nat} {h h' : OEnv → R PyData} {s : R α} {t : R γ} {ll : α → γ → TR β l σ} (h1 : TEq (h ρ) s) (h2 : TEq (h' ρ) t) (z : Z ρ) (hr : ∀ a b, SQ E L er Z (k ((ρ.set i (some (oF a))).set j (some (oF b)))) (ll a b)) : SQ E L er Z (seq (sPar i j h h') k ρ) (s.tr fun a => t.tr fun b => ll a b) := by
  show SQ E L er Z (SR.seq (R.sr _ _ _) k) _
  rw [seq_sr]
  refine SQ.sr h1 z fun a => ?_
  rw [seq_sr]
  exact SQ.sr h2 z fun b => hr a b
def tapp {α : Type} (xs : List α) (a : α) : R (List α) := if xs.length < 16777216 then .ok (xs ++ [a]) else .stuck
theorem q_app {ox : α → O} {ho : OEnv → R (O × OEnv)} {t : R α} {ll : List α → TR β l σ} (i : Nat) (xs : List α) (h : TQ (fun a => (ox a, ρ)) (ho ρ) t) (z : Z ρ) (hr : ∀ ys, SQ E L er Z (k (ρ.set i (some (oL ox ys)))) (ll ys)) (hi : ρ[i]? = some (some (oL ox xs)) := by rfl) : SQ E L er Z (seq (sApp i ho) k ρ) (t.tr fun a => (tapp xs a).tr ll) := by
  show SQ E L er Z (SR.seq (sApp i ho ρ) k) _
  unfold sApp
  rw [hi]
  show SQ E L er Z (SR.seq (R.sr _ _ _) k) _
  rw [seq_sr]
  refine SQ.sr h z fun a => ?_
  unfold tapp
  simp only [hi, List.length_map, szL]
  split
  · show SQ _ _ _ _ (k _) (ll (xs ++ [a]))
    have := hr (xs ++ [a])
    rw [show oL ox (xs ++ [a]) = O.lst (xs.map ox ++ [ox a]) by simp [oL]] at this
    exact this
  · trivial
def tset {α : Type} (xs : List α) (j : Int) (a : α) : R (List α) := match ixN xs.length j with | some n => .ok (xs.set n a) | none => .stuck
theorem q_setI {ox : α → O} {hk : OEnv → R PyData} {ho : OEnv → R (O × OEnv)} {t : R α} {u : R Int} {ll : List α → TR β l σ} (i : Nat) (xs : List α) (h : TQ (fun a => (ox a, ρ)) (ho ρ) t) (hj : TEq (hk ρ) u) (z : Z ρ) (hr : ∀ ys, SQ E L er Z (k (ρ.set i (some (oL ox ys)))) (ll ys)) (hi : ρ[i]? = some (some (oL ox xs)) := by rfl) : SQ E L er Z (seq (sSetI i hk ho) k ρ) (t.tr fun a => u.tr fun j => (tset xs j a).tr ll) := by
  show SQ E L er Z (SR.seq (R.sr _ _ _) k) _
  rw [seq_sr]
  refine SQ.sr h z fun a => ?_
  simp only [hi]
  rw [seq_sr]
  refine SQ.sr hj z fun j => ?_
  show SQ E L er Z (SR.seq (match ixN (xs.map ox).length j with | some n => _ | none => _) k) _
  unfold tset
  rw [List.length_map]
  cases ixN xs.length j with
  | none => trivial
  | some n =>
    show SQ _ _ _ _ (k _) (ll (xs.set n a))
    have := hr (xs.set n a)
    rw [show oL ox (xs.set n a) = O.lst ((xs.map ox).set n (ox a)) by simp [oL, List.map_set]] at this
    exact this
theorem q_aug {f : Int → Int → Int} {h : OEnv → R PyData} {t : R Int} {ll : Int → TR β l σ} (i : Nat) (a : Int) (hs : TEq (h ρ) t) (z : Z ρ) (hr : ∀ b, SQ E L er Z (k (ρ.set i (some (oF b)))) (ll b)) (hi : ρ[i]? = some (some (oF a)) := by rfl) : SQ E L er Z (seq (sAug f i h) k ρ) ((b1 (fun b => R.ok (f a b)) t).tr ll) := by
  show SQ E L er Z (SR.seq (sAug f i h ρ) k) _
  unfold sAug
  rw [hi]
  show SQ E L er Z (SR.seq (R.sr _ _ _) k) _
  rw [seq_sr, b1_ap, R.tr_bind]
  exact SQ.sr hs z fun b => hr (f a b)
def text {α : Type} (xs ys : List α) : R (List α) := if xs.length + ys.length ≤ 16777216 then .ok (xs ++ ys) else .stuck
theorem q_ext {ox : α → O} {ho : OEnv → R (O × OEnv)} {t : R (List α)} {ll : List α → TR β l σ} (i : Nat) (xs : List α) (h : TQ (fun a => (oL ox a, ρ)) (ho ρ) t) (z : Z ρ) (hr : ∀ ys, SQ E L er Z (k (ρ.set i (some (oL ox ys)))) (ll ys)) (hi : ρ[i]? = some (some (oL ox xs)) := by rfl) : SQ E L er Z (seq (sExt i ho) k ρ) (t.tr fun a => (text xs a).tr ll) := by
  show SQ E L er Z (SR.seq (sExt i ho ρ) k) _
  unfold sExt
  rw [hi]
  show SQ E L er Z (SR.seq (R.sr _ _ _) k) _
  rw [seq_sr]
  refine SQ.sr h z fun a => ?_
  unfold text
  simp only [hi, List.length_map, szL]
  split
  · show SQ _ _ _ _ (k _) (ll (xs ++ a))
    have := hr (xs ++ a)
    rw [show oL ox (xs ++ a) = O.lst (xs.map ox ++ a.map ox) by simp [oL]] at this
    exact this
  · trivial
theorem q_rev {ox : α → O} {ll : List α → TR β l σ} (i : Nat) (xs : List α) (hr : ∀ ys, SQ E L er Z (k (ρ.set i (some (oL ox ys)))) (ll ys)) (hi : ρ[i]? = some (some (oL ox xs)) := by rfl) : SQ E L er Z (seq (sRev i) k ρ) ((R.ok xs.reverse).tr ll) := by
  show SQ E L er Z (SR.seq (sRev i ρ) k) _
  unfold sRev
  rw [hi]
  show SQ E L er Z (k (ρ.set i (some (.lst (xs.map ox).reverse)))) (ll xs.reverse)
  rw [← List.map_reverse]
  exact hr _
theorem q_asn {t : TR β l σ} (h : SQ E L er Z (g ρ) t) : SQ E L er Z (seq g sNx ρ) t := by
  have : seq g sNx ρ = g ρ := SR.seq_nxr _
  rw [this]; exact h
theorem t_x1 {α γ : Type} [Enc α] [Enc γ] {op : PyData → R (List PyData)} {top : α → R (List γ)} {h : OEnv → R PyData} {s : R α} (ho : ∀ a, TL (op (e a)) (top a)) (ha : TEq (h ρ) s) : TL (x1 op h ρ) (b1 top s) := ha.bind ho
theorem t_x2 {α β γ : Type} [Enc α] [Enc β] [Enc γ] {op : PyData → PyData → R (List PyData)} {top : α → β → R (List γ)} {h h' : OEnv → R PyData} {s : R α} {t : R β} (ho : ∀ a b, TL (op (e a) (e b)) (top a b)) (ha : TEq (h ρ) s) (hb : TEq (h' ρ) t) : TL (x2 op h h' ρ) (b2 top s t) := ha.bind fun a => hb.bind fun b => ho a b
theorem p_nilO {α : Type} {ox : α → O} : TQ (fun a : List α => (oL ox a, ρ)) (oFrF aNil ρ) (.ok []) := rfl
theorem o_isnoneO {α : Type} [Enc α] (h : ∀ a : α, visnone (e a) = .ok (.bool false) := by intro _; rfl) (i : Option α) : TEq (visnone (e i)) (tisnoneO i) := by
  cases i with
  | none => exact rfl
  | some a => exact h a
theorem q_try {gb gs : OEnv → SR} {tb : Str → Option Bool} {Zb : OEnv → Prop} {Es : τ → OEnv} {s t : TR β l τ} {ll : τ → TR β l σ} (h1 : SQ (fun s ρ => ρ = Es s) L er Zb (gb ρ) s) (h2 : ∀ ρ, Zb ρ → SQ (fun s ρ => ρ = Es s) L er (fun _ => True) (gs ρ) t) (hz : ∀ ρ, Zb ρ → Z ρ) (hr : ∀ s, SQ E L er Z (k (Es s)) (ll s)) : SQ E L er Z (seq (sTryO gb tb gs) k ρ) ((ttry s tb t).bind ll) := by
  refine SQ.bind (E1 := fun s ρ => ρ = Es s) ?_ fun s ρ e1 => by rw [e1]; exact hr s
  show SQ _ _ _ _ (catchO tb gs (gb ρ)) _
  cases s with
  | stuck => trivial
  | nx s => obtain ⟨ρ', e1, e2⟩ := h1; rw [e1]; exact ⟨_, rfl, e2⟩
  | ct s => obtain ⟨ρ', e1, e2⟩ := h1; rw [e1]; exact ⟨_, rfl, e2⟩
  | bk s => obtain ⟨ρ', e1, e2⟩ := h1; rw [e1]; exact ⟨_, rfl, e2⟩
  | rt s => obtain ⟨_, ρ', e1, e2⟩ := h1; rw [e1]; exact ⟨_, _, rfl, e2⟩
  | err c =>
    obtain ⟨ρ', e1, e2⟩ := h1
    rw [e1]
    unfold catchO ttry
    dsimp only
    cases tb c with
    | none => trivial
    | some b =>
      cases b with
      | false => exact ⟨_, rfl, hz _ e2⟩
      | true =>
        have h3 := h2 ρ' e2
        dsimp only
        cases t with
        | stuck => trivial
        | nx s => obtain ⟨ρ', e1, e2⟩ := h3; rw [e1]; exact ⟨_, rfl, e2⟩
        | ct s => obtain ⟨ρ', e1, e2⟩ := h3; rw [e1]; exact ⟨_, rfl, e2⟩
        | bk s => obtain ⟨ρ', e1, e2⟩ := h3; rw [e1]; exact ⟨_, rfl, e2⟩
        | rt s => obtain ⟨_, ρ', e1, e2⟩ := h3; rw [e1]; exact ⟨_, _, rfl, e2⟩
        | err s => trivial
end
/-! ### typed defs -/
theorem fn_T {β l σ : Type} [Enc β] {g : OEnv → SR} {ρ : OEnv} {E : σ → OEnv → Prop} {L : l → OEnv → Prop} {t : TR β l σ} {d : σ → R β} (h : SQ E L (fun o b => O.data o = e b) (fun _ => True) (g ρ) t) (hd : ∀ s, TEq (.ok .none) (d s)) : TEq (fin (g ρ)) (t.fn d) := by
  cases t with
  | stuck => trivial
  | nx s => obtain ⟨ρ', e1, e2⟩ := h; rw [e1]; exact hd s
  | ct s => trivial
  | bk s => trivial
  | rt s => obtain ⟨_, ρ', e1, e2⟩ := h; rw [e1]; show R.ok _ = R.ok _; rw [e2]
  | err c => obtain ⟨ρ', e1, e2⟩ := h; rw [e1]; exact rfl
theorem fn_TO {β l σ : Type} {ox : β → O} {g : OEnv → SR} {ρ : OEnv} {E : σ → OEnv → Prop} {L : l → OEnv → Prop} {t : TR β l σ} (h : SQ E L (fun o b => o = ox b) (fun _ => True) (g ρ) t) : TQ ox (finO (g ρ)) (t.fn fun _ => .stuck) := by
  cases t with
  | stuck => trivial
  | nx s => trivial
  | ct s => trivial
  | bk s => trivial
  | rt s => obtain ⟨_, ρ', e1, e2⟩ := h; rw [e1]; show R.ok _ = R.ok _; rw [e2]
  | err c => obtain ⟨ρ', e1, e2⟩ := h; rw [e1]; exact rfl
theorem frz_T {β : Type} [Enc β] {ox : β → O} {g : List PyData → R O} {ds : List PyData} {t : R β} (hd : ∀ b, O.data (ox b) = e b) (h : TQ ox (g ds) t) : TEq (frz g ds) t := by
  cases t with
  | stuck => trivial
  | err c => show R.bind (g ds) _ = _; rw [show g ds = .err c from h]; rfl
  | ok b => show R.bind (g ds) _ = _; rw [show g ds = .ok (ox b) from h]; show R.ok _ = R.ok _; rw [hd]
end VL

namespace VL
open PySem PySem.Spec PyProof.Rows L2
open Enc (e)
/-! ### loops over typed states -/
section
variable {α β l σ γ : Type}
theorem forT_nx {f : α → σ → TR β σ σ} {a : α} {as : List α} {s s' : σ} (h : f a s = .nx s') : (forT f (a :: as) s : TR β l σ) = forT f as s' := by simp only [forT, h]
theorem forT_ct {f : α → σ → TR β σ σ} {a : α} {as : List α} {s s' : σ} (h : f a s = .ct s') : (forT f (a :: as) s : TR β l σ) = forT f as s' := by simp only [forT, h]
theorem forT_bk {f : α → σ → TR β σ σ} {a : α} {as : List α} {s s' : σ} (h : f a s = .bk s') : (forT f (a :: as) s : TR β l σ) = .nx s' := by simp only [forT, h]
theorem forT_rt {f : α → σ → TR β σ σ} {a : α} {as : List α} {s : σ} {b : β} (h : f a s = .rt b) : (forT f (a :: as) s : TR β l σ) = .rt b := by simp only [forT, h]
theorem forT_err {f : α → σ → TR β σ σ} {a : α} {as : List α} {s : σ} {c : Str} (h : f a s = .err c) : (forT f (a :: as) s : TR β l σ) = .err c := by simp only [forT, h]
/-- goes on or not -/
def TR.go (r : TR β σ σ) (s : σ) : Prop := r = .nx s ∨ r = .ct s
theorem forT_go {f : α → σ → TR β σ σ} {a : α} {as : List α} {s s' : σ} (h : (f a s).go s') : (forT f (a :: as) s : TR β l σ) = forT f as s' := h.elim forT_nx forT_ct
/-- a loop that never leaves: a fold -/
theorem forT_fold {f : α → σ → TR β σ σ} (g : σ → α → σ) (P : σ → Prop) : ∀ {xs : List α} {s : σ}, P s → (∀ a ∈ xs, ∀ s, P s → (f a s).go (g s a) ∧ P (g s a)) → (forT f xs s : TR β l σ) = .nx (xs.foldl g s) ∧ P (xs.foldl g s)
  | [], s, hp, _ => ⟨rfl, hp⟩
  | a :: as, s, hp, h => by
    obtain ⟨h1, h2⟩ := h a List.mem_cons_self s hp
    rw [forT_go h1]
    exact forT_fold g P h2 fun b hb => h b (List.mem_cons_of_mem _ hb)
theorem forT_fold0 {f : α → σ → TR β σ σ} (g : σ → α → σ) {xs : List α} {s : σ} (h : ∀ a ∈ xs, ∀ s, (f a s).go (g s a)) : (forT f xs s : TR β l σ) = .nx (xs.foldl g s) :=
  (forT_fold g (fun _ => True) trivial fun a ha s _ => ⟨h a ha s, trivial⟩).1
/-- a loop that never leaves, by an invariant over what is taken -/
theorem forT_inv {f : α → σ → TR β σ σ} (P : List α → σ → Prop) : ∀ (xs pre : List α) (s : σ), P pre s → (∀ a post pre' s, pre ++ xs = pre' ++ a :: post → P pre' s → ∃ s', (f a s).go s' ∧ P (pre' ++ [a]) s') → ∃ s', (forT f xs s : TR β l σ) = .nx s' ∧ P (pre ++ xs) s'
  | [], pre, s, hp, _ => ⟨s, rfl, by simpa using hp⟩
  | a :: as, pre, s, hp, h => by
    obtain ⟨s1, h1, h2⟩ := h a as pre s rfl hp
    obtain ⟨s2, h3, h4⟩ := forT_inv P as (pre ++ [a]) s1 h2 (fun b post pre' s e hp' => h b post pre' s (by rw [← e]; simp) hp')
    exact ⟨s2, by rw [forT_go h1]; exact h3, by simpa using h4⟩
/-- the same with the number of turns -/
theorem forT_ix {f : α → σ → TR β σ σ} (P : Nat → σ → Prop) : ∀ (xs : List α) (j : Nat) (s : σ), P j s → (∀ i a s, xs[i]? = some a → P (j + i) s → ∃ s', (f a s).go s' ∧ P (j + i + 1) s') → ∃ s', (forT f xs s : TR β l σ) = .nx s' ∧ P (j + xs.length) s'
  | [], j, s, hp, _ => ⟨s, rfl, hp⟩
  | a :: as, j, s, hp, h => by
    obtain ⟨s1, h1, h2⟩ := h 0 a s rfl hp
    obtain ⟨s2, h3, h4⟩ := forT_ix P as (j + 1) s1 h2 fun i b s hb hp' => by
      have := h (i + 1) b s (by simpa using hb) (by rw [show j + (i + 1) = j + 1 + i by omega]; exact hp')
      rw [show j + (i + 1) + 1 = j + 1 + i + 1 by omega] at this
      exact this
    exact ⟨s2, by rw [forT_go h1]; exact h3, by rw [List.length_cons, show j + (as.length + 1) = j + 1 + as.length by omega]; exact h4⟩
/-- a loop that leaves at the first bad item -/
theorem forT_chk {f : α → σ → TR β σ σ} (bad : α → Bool) (b : β) {s : σ} : ∀ {xs : List α}, (∀ a ∈ xs, (bad a = true → f a s = .rt b) ∧ (bad a = false → (f a s).go s)) → (forT f xs s : TR β l σ) = if xs.any bad = true then .rt b else .nx s
  | [], _ => rfl
  | a :: as, h => by
    obtain ⟨h1, h2⟩ := h a List.mem_cons_self
    have ih := forT_chk bad b (xs := as) fun x hx => h x (List.mem_cons_of_mem _ hx)
    cases hb : bad a with
    | true => rw [forT_rt (h1 hb), List.any_cons, hb]; rfl
    | false => rw [forT_go (h2 hb), ih, List.any_cons, hb]; rfl
/-- nothing is bad -/
theorem forT_pass {f : α → σ → TR β σ σ} {s : σ} : ∀ {xs : List α}, (∀ a ∈ xs, (f a s).go s) → (forT f xs s : TR β l σ) = .nx s
  | [], _ => rfl
  | a :: as, h => by rw [forT_go (h a List.mem_cons_self)]; exact forT_pass fun x hx => h x (List.mem_cons_of_mem _ hx)
/-- a loop that ends with the answer of the first item that gives one -/
theorem forT_find {f : α → σ → TR β σ σ} (g : α → Option β) {s : σ} : ∀ {xs : List α}, (∀ a ∈ xs, match g a with | some b => f a s = .rt b | none => (f a s).go s) → (forT f xs s : TR β l σ) = match xs.findSome? g with | some b => .rt b | none => .nx s
  | [], _ => rfl
  | a :: as, h => by
    have h1 := h a List.mem_cons_self
    have ih := forT_find g (xs := as) fun x hx => h x (List.mem_cons_of_mem _ hx)
    cases hb : g a with
    | some b => rw [hb] at h1; rw [forT_rt h1, List.findSome?_cons, hb]
    | none => rw [hb] at h1; rw [forT_go h1, ih, List.findSome?_cons, hb]
/-- what is kept of a list -/
theorem forT_filter {f : α → List α → TR β (List α) (List α)} (p : α → Bool) : ∀ {xs s : List α}, s.length + xs.length ≤ 16777216 → (∀ a ∈ xs, ∀ s : List α, s.length < 16777216 → (f a s).go (if p a = true then s ++ [a] else s)) → (forT f xs s : TR β l (List α)) = .nx (s ++ xs.filter p)
  | [], s, _, _ => by rw [List.filter_nil, List.append_nil]; rfl
  | a :: as, s, hl, h => by
    have hl' : s.length + (as.length + 1) ≤ 16777216 := hl
    rw [forT_go (h a List.mem_cons_self s (by omega))]
    by_cases hp : p a = true
    · rw [if_pos hp, forT_filter p (by rw [List.length_append, List.length_singleton]; omega) (fun b hb => h b (List.mem_cons_of_mem _ hb)), List.filter_cons_of_pos hp, List.append_assoc]; rfl
    · rw [if_neg hp, forT_filter p (by omega) (fun b hb => h b (List.mem_cons_of_mem _ hb)), List.filter_cons_of_neg hp]
/-- a list built item by item -/
theorem forT_map {γ : Type} {f : α → List γ → TR β (List γ) (List γ)} (g : α → γ) : ∀ {xs : List α} {s : List γ}, s.length + xs.length ≤ 16777216 → (∀ a ∈ xs, ∀ s : List γ, s.length < 16777216 → (f a s).go (s ++ [g a])) → (forT f xs s : TR β l (List γ)) = .nx (s ++ xs.map g)
  | [], s, _, _ => by rw [List.map_nil, List.append_nil]; rfl
  | a :: as, s, hl, h => by
    have hl' : s.length + (as.length + 1) ≤ 16777216 := hl
    rw [forT_go (h a List.mem_cons_self s (by omega)), forT_map g (by rw [List.length_append, List.length_singleton]; omega) (fun b hb => h b (List.mem_cons_of_mem _ hb)), List.map_cons, List.append_assoc]; rfl
theorem nodup_le : ∀ (n : Nat) (l : List Int), l.Nodup → (∀ x ∈ l, 0 ≤ x ∧ x < (n : Int)) → l.length ≤ n
  | 0, l, _, h => by
    cases l with
    | nil => exact Nat.le_refl _
    | cons x _ => have := h x List.mem_cons_self; omega
  | n + 1, l, hn, h => by
    have e : (l.erase (n : Int)).length ≤ n := nodup_le n _ (hn.erase _) fun x hx => by
      have h1 := h x (List.mem_of_mem_erase hx)
      have h2 : x ≠ (n : Int) := fun e => by subst e; exact (List.Nodup.not_mem_erase hn) hx
      omega
    by_cases hm : (n : Int) ∈ l
    · rw [List.length_erase_of_mem hm] at e; omega
    · rw [List.erase_of_not_mem hm] at e; omega
theorem loopT_of {c : σ → R Bool} {f : σ → TR β σ σ} {s : σ} {r : TR β l σ} {n : Nat} (h : whileT c f n s = r) (hr : r ≠ .stuck) : (loopT c f s : TR β l σ) = r := by
  have mono : ∀ (n m : Nat) (s : σ), n ≤ m → (whileT c f n s : TR β l σ) ≠ .stuck → (whileT c f m s : TR β l σ) = whileT c f n s := by
    intro n
    induction n with
    | zero => intro m s _ h; exact absurd rfl h
    | succ n ih =>
      intro m s hm h
      cases m with
      | zero => omega
      | succ m =>
        simp only [whileT] at h ⊢
        cases hc : c s with
        | stuck => rfl
        | err x => rfl
        | ok b =>
          rw [hc] at h
          simp only [R.tr_ok] at h ⊢
          cases b with
          | false => rfl
          | true =>
            simp only [if_true] at h ⊢
            cases hf : f s with
            | nx s' => rw [hf] at h; exact ih m s' (by omega) h
            | ct s' => rw [hf] at h; exact ih m s' (by omega) h
            | _ => rfl
  unfold loopT
  have ex : ∃ n, (whileT c f n s : TR β l σ) ≠ .stuck := ⟨n, by rw [h]; exact hr⟩
  rw [dif_pos ex]
  rcases Nat.le_total n (Classical.choose ex) with q | q
  · rw [mono n _ s q (by rw [h]; exact hr), h]
  · rw [← h, mono _ n s q (Classical.choose_spec ex)]
/-- a while with a measure and an invariant; it ends where the test fails -/
theorem loopT_inv {c : σ → R Bool} {f : σ → TR β σ σ} (P : σ → Prop) (m : σ → Nat) (q : σ → Bool) (hc : ∀ s, P s → c s = .ok (q s)) (hf : ∀ s, P s → q s = true → ∃ s', (f s).go s' ∧ P s' ∧ m s' < m s) : ∀ s, P s → ∃ s', (loopT c f s : TR β l σ) = .nx s' ∧ P s' ∧ q s' = false := by
  have main : ∀ (n : Nat) (s : σ), m s ≤ n → P s → ∃ s', (whileT c f (n + 1) s : TR β l σ) = .nx s' ∧ P s' ∧ q s' = false := by
    intro n
    induction n with
    | zero =>
      intro s hm hp
      cases hq : q s with
      | false => exact ⟨s, by simp only [whileT, hc s hp, hq, R.tr_ok]; rfl, hp, hq⟩
      | true => obtain ⟨s', _, _, h3⟩ := hf s hp hq; omega
    | succ n ih =>
      intro s hm hp
      cases hq : q s with
      | false => exact ⟨s, by simp only [whileT, hc s hp, hq, R.tr_ok]; rfl, hp, hq⟩
      | true =>
        obtain ⟨s', h1, h2, h3⟩ := hf s hp hq
        obtain ⟨s2, h4, h5⟩ := ih s' (by omega) h2
        refine ⟨s2, ?_, h5⟩
        rw [whileT, hc s hp, hq]
        rcases h1 with h1 | h1 <;> (simp only [R.tr_ok, if_true, h1]; exact h4)
  intro s hp
  obtain ⟨s', h1, h2⟩ := main (m s) s (Nat.le_refl _) hp
  exact ⟨s', loopT_of h1 (fun h => nomatch h), h2⟩
/-! comprehensions -/
theorem tmap_ok {f : α → R γ} (g : α → γ) : ∀ {xs : List α}, (∀ a ∈ xs, f a = .ok (g a)) → tmap f xs = .ok (xs.map g)
  | [], _ => rfl
  | a :: as, h => by
    simp only [tmap, h a List.mem_cons_self, calm_okk, R.bind_ok, tmap_ok g fun x hx => h x (List.mem_cons_of_mem _ hx), List.map_cons]
theorem tmap_ex {f : α → R γ} (S : γ → Prop) : ∀ {xs : List α}, (∀ a ∈ xs, ∃ y, f a = .ok y ∧ S y) → ∃ ys, tmap f xs = .ok ys ∧ ys.length = xs.length ∧ ∀ y ∈ ys, S y
  | [], _ => ⟨[], rfl, rfl, fun _ h => nomatch h⟩
  | a :: as, h => by
    obtain ⟨y, h1, h2⟩ := h a List.mem_cons_self
    obtain ⟨ys, h3, h4, h5⟩ := tmap_ex S (xs := as) fun x hx => h x (List.mem_cons_of_mem _ hx)
    refine ⟨y :: ys, by simp only [tmap, h1, calm_okk, R.bind_ok, h3], by simp [h4], fun z hz => ?_⟩
    rcases List.mem_cons.mp hz with q | q
    · subst q; exact h2
    · exact h5 z q
theorem tcomp_ok {c : α → R Bool} {f : α → R γ} (p : α → Bool) (g : α → γ) : ∀ {xs : List α}, (∀ a ∈ xs, c a = .ok (p a) ∧ (p a = true → f a = .ok (g a))) → tcomp c f xs = .ok ((xs.filter p).map g)
  | [], _ => rfl
  | a :: as, h => by
    obtain ⟨h1, h2⟩ := h a List.mem_cons_self
    have ih := tcomp_ok p g (xs := as) fun x hx => h x (List.mem_cons_of_mem _ hx)
    cases hp : p a with
    | true => simp only [tcomp, h1, hp, calm_okk, R.bind_ok, if_true, h2 hp, ih, List.filter_cons, List.map_cons]
    | false => simp only [tcomp, h1, hp, calm_okk, R.bind_ok, ih, List.filter_cons]; rfl
/-! items -/
theorem tidx_nat {xs : List α} {k : Nat} {a : α} (h : xs[k]? = some a) : tidx xs (k : Int) = .ok a := by
  unfold tidx; rw [atI_nat, h]
theorem tidx_of {xs : List α} {j : Int} {k : Nat} {a : α} (hj : j = (k : Int)) (h : xs[k]? = some a) : tidx xs j = .ok a := by rw [hj]; exact tidx_nat h
theorem tidx_lt {xs : List α} {k : Nat} (h : k < xs.length) : tidx xs (k : Int) = .ok xs[k] := tidx_nat (by simp [h])
@[simp] theorem tidx_0 (a : α) (xs : List α) : tidx (a :: xs) 0 = .ok a := tidx_nat (k := 0) rfl
@[simp] theorem tidx_1 (a b : α) (xs : List α) : tidx (a :: b :: xs) 1 = .ok b := tidx_nat (k := 1) rfl
@[simp] theorem tidx_2 (a b c : α) (xs : List α) : tidx (a :: b :: c :: xs) 2 = .ok c := tidx_nat (k := 2) rfl
@[simp] theorem tidx_3 (a b c d : α) (xs : List α) : tidx (a :: b :: c :: d :: xs) 3 = .ok d := tidx_nat (k := 3) rfl
@[simp] theorem tidx_4 (a b c d f : α) (xs : List α) : tidx (a :: b :: c :: d :: f :: xs) 4 = .ok f := tidx_nat (k := 4) rfl
@[simp] theorem tidx_5 (a b c d f g : α) (xs : List α) : tidx (a :: b :: c :: d :: f :: g :: xs) 5 = .ok g := tidx_nat (k := 5) rfl
@[simp] theorem tidx_6 (a b c d f g h : α) (xs : List α) : tidx (a :: b :: c :: d :: f :: g :: h :: xs) 6 = .ok h := tidx_nat (k := 6) rfl
@[simp] theorem tidx_7 (a b c d f g h i : α) (xs : List α) : tidx (a :: b :: c :: d :: f :: g :: h :: i :: xs) 7 = .ok i := tidx_nat (k := 7) rfl
theorem tidx_last {xs : List α} {a : α} (h : xs.getLast? = some a) : tidx xs (-1) = .ok a := by
  unfold tidx atI ixN
  have hl : xs ≠ [] := by intro z; rw [z] at h; simp at h
  have hl2 : 0 < xs.length := List.length_pos_iff.mpr hl
  rw [if_neg (by omega), if_pos (by omega)]
  rw [List.getLast?_eq_getElem?] at h
  rw [show ((-1 : Int) + (xs.length : Int)).toNat = xs.length - 1 by omega]
  simp [h]
theorem tapp_ok {xs : List α} {a : α} (h : xs.length < 16777216) : tapp xs a = .ok (xs ++ [a]) := if_pos h
theorem taddL_ok {xs ys : List α} (h : xs.length + ys.length ≤ 16777216) : taddL xs ys = .ok (xs ++ ys) := if_pos h
theorem text_ok {xs ys : List α} (h : xs.length + ys.length ≤ 16777216) : text xs ys = .ok (xs ++ ys) := if_pos h
theorem tset_ok {xs : List α} {k : Nat} {a : α} (h : k < xs.length) : tset xs (k : Int) a = .ok (xs.set k a) := by
  unfold tset; rw [ixN_nat h]
theorem tset_of {xs : List α} {j : Int} {k : Nat} {a : α} (hj : j = (k : Int)) (h : k < xs.length) : tset xs j a = .ok (xs.set k a) := by rw [hj]; exact tset_ok h
end
/-! ranges -/
theorem rangeI_zero (lo : Int) : rangeI lo 0 = [] := rfl
@[simp] theorem rangeI_len (lo : Int) (n : Nat) : (rangeI lo n).length = n := by unfold rangeI; simp
theorem rangeI_succ (lo : Int) (n : Nat) : rangeI lo (n + 1) = lo :: rangeI (lo + 1) n := by
  unfold rangeI
  rw [List.range_succ_eq_map, List.map_cons, List.map_map]
  congr 1
  · simp
  · refine List.map_congr_left fun k _ => ?_
    simp only [Function.comp]
    omega
theorem rangeI_get {lo : Int} {n i : Nat} {d : Int} (h : (rangeI lo n)[i]? = some d) : i < n ∧ d = lo + (i : Int) := by
  unfold rangeI at h
  rw [List.getElem?_map] at h
  by_cases hi : i < n
  · rw [List.getElem?_range hi] at h
    simp at h
    exact ⟨hi, h.symm⟩
  · rw [List.getElem?_eq_none (by simp; omega)] at h
    simp at h
theorem rangeI_mem {lo : Int} {n : Nat} {d : Int} : d ∈ rangeI lo n ↔ ∃ k : Nat, k < n ∧ d = lo + (k : Int) := by
  unfold rangeI
  simp only [List.mem_map, List.mem_range]
  exact ⟨fun ⟨k, h1, h2⟩ => ⟨k, h1, h2.symm⟩, fun ⟨k, h1, h2⟩ => ⟨k, h1, h2.symm⟩⟩
@[simp] theorem trange1_nat {n : Nat} (h : n ≤ 16777216) : trange1 (n : Int) = .ok (rangeI 0 n) := by
  unfold trange1; rw [if_pos (rngOk_nat h)]; simp
theorem trange1_of {j : Int} {n : Nat} (hj : j = (n : Int)) (h : n ≤ 16777216) : trange1 j = .ok (rangeI 0 n) := by rw [hj]; exact trange1_nat h
theorem trange2_of {i j : Int} {n : Nat} (hj : (j - i).toNat = n) (h1 : -16777216 ≤ i) (h2 : i ≤ 16777216) (h3 : -16777216 ≤ j) (h4 : j ≤ 16777216) (h5 : j - i ≤ 16777216) : trange2 i j = .ok (rangeI i n) := by
  unfold trange2; rw [if_pos (show rngOk i j from ⟨h1, h2, h3, h4, h5⟩), hj]
/-! products, quotients -/
theorem tmulI_ok {a b : Int} (h : IntMulOk a b) : tmulI a b = .ok (a * b) := by unfold tmulI; rw [if_pos h]
theorem tmulI_r {a b : Int} (h : Sm 64 b) : tmulI a b = .ok (a * b) := tmulI_ok (IntMulOk.of_right h.bits)
theorem tmulI_l {a b : Int} (h : Sm 64 a) : tmulI a b = .ok (a * b) := tmulI_ok (IntMulOk.of_left h.bits)
theorem tmulI_sm {m n : Nat} {a b : Int} (h : Sm m a) (g : Sm n b) (l : m + n ≤ 134217728 := by decide) : tmulI a b = .ok (a * b) := tmulI_ok (h.mulOk g l)
@[simp] theorem tmulI_bd {a b : Int} {m n : Nat} [ha : Bd a m] [hb : Bd b n] (h : m + n ≤ 134217728) : tmulI a b = .ok (a * b) := tmulI_sm ha.h hb.h h
theorem tfdivI_pos {a b : Int} (h : 0 < b) (h2 : b < 2 ^ 250) : tfdivI a b = .ok (a / b) := by unfold tfdivI; rw [cite_pos ⟨h, h2⟩]
@[simp] theorem tmodI_pos {a b : Int} (h : 0 < b) : tmodI a b = .ok (a % b) := if_pos h
theorem tpowI_ok {a b : Int} (h : 0 ≤ b ∧ b ≤ 1000 ∧ a.natAbs < 2 ^ 64) : tpowI a b = .ok (a ^ b.toNat) := by unfold tpowI; rw [cite_pos h]
/-! slices -/
theorem cutG_from {α : Type} (xs : List α) (k : Nat) : cutG xs (some (k : Int)) none = xs.drop k := by
  unfold cutG
  rw [HT.sIx_nat]
  show (xs.drop (min k xs.length)).take (xs.length - min k xs.length) = _
  by_cases h : k ≤ xs.length
  · rw [Nat.min_eq_left h, List.take_of_length_le (by simp)]
  · rw [Nat.min_eq_right (by omega), List.drop_of_length_le (Nat.le_refl _), List.drop_of_length_le (by omega)]; simp
theorem cutG_to {α : Type} (xs : List α) (k : Nat) : cutG xs none (some (k : Int)) = xs.take k := by
  unfold cutG
  rw [HT.sIx_nat]
  show (xs.drop 0).take (min k xs.length - 0) = _
  rw [List.drop_zero, Nat.sub_zero, ← List.take_eq_take_min]
theorem cutG_mid {α : Type} (xs : List α) (j k : Nat) : cutG xs (some (j : Int)) (some (k : Int)) = (xs.drop j).take (k - j) := by
  unfold cutG
  rw [HT.sIx_nat, HT.sIx_nat]
  by_cases hj : j ≤ xs.length
  · rw [Nat.min_eq_left hj]
    by_cases hk : k ≤ xs.length
    · rw [Nat.min_eq_left hk]
    · rw [Nat.min_eq_right (by omega), List.take_of_length_le (by simp), List.take_of_length_le (by simp; omega)]
  · rw [Nat.min_eq_right (show xs.length ≤ j by omega), List.drop_of_length_le (Nat.le_refl _), List.drop_of_length_le (show xs.length ≤ j by omega)]; simp
theorem cutG_len {α : Type} (xs : List α) (lo hi : Option Int) : (cutG xs lo hi).length ≤ xs.length := by
  unfold cutG; simp; omega
theorem cutG_mem {α : Type} {xs : List α} {lo hi : Option Int} {x : α} (h : x ∈ cutG xs lo hi) : x ∈ xs := List.mem_of_mem_drop (List.mem_of_mem_take h)
/-! drawn numbers -/
def Dr (n : Nat) (lim : Int) (ds : List Int) : Prop := ds.length = n ∧ ∀ d ∈ ds, 0 ≤ d ∧ d < lim
theorem Dr.snoc {n : Nat} {lim d : Int} {ds : List Int} (h : Dr n lim ds) (h0 : 0 ≤ d) (h1 : d < lim) : Dr (n + 1) lim (ds ++ [d]) :=
  ⟨by rw [List.length_append, h.1]; rfl, fun x hx => by
    rcases List.mem_append.mp hx with q | q
    · exact h.2 x q
    · rw [List.mem_singleton.mp q]; exact ⟨h0, h1⟩⟩
theorem Dr.idx {n : Nat} {lim : Int} {ds : List Int} (h : Dr n lim ds) (i : Nat) (hi : i < n) : ∃ d, tidx ds (i : Int) = .ok d ∧ 0 ≤ d ∧ d < lim := by
  have hl : i < ds.length := by rw [h.1]; exact hi
  exact ⟨ds[i], tidx_lt hl, h.2 _ (List.getElem_mem hl)⟩
theorem Dr.ix {n : Nat} {lim : Int} {ds : List Int} (h : Dr n lim ds) (j : Int) (h0 : 0 ≤ j := by omega) (h1 : j < (n : Int) := by omega) : ∃ d, tidx ds j = .ok d ∧ 0 ≤ d ∧ d < lim := by
  obtain ⟨d, e, r⟩ := h.idx j.toNat (by omega)
  exact ⟨d, by rw [show ((j.toNat : Nat) : Int) = j by omega] at e; exact e, r⟩
end VL

namespace VL
open PySem PySem.Spec PyProof.Rows L2

/-! ### places within what is one's own -/
def O.kids : O → Option (List O)
  | .tup xs => some xs
  | .lst xs => some xs
  | .dct _ xs => some xs
  | .ins _ _ xs => some xs
  | .par _ o => some [o]
  | .fz _ => none
def O.setKid : O → Nat → O → O
  | .tup xs, k, n => .tup (xs.set k n)
  | .lst xs, k, n => .lst (xs.set k n)
  | .dct ks xs, k, n => .dct ks (xs.set k n)
  | .ins c ns xs, k, n => .ins c ns (xs.set k n)
  | .par a _, _, n => .par a n
  | .fz d, _, _ => .fz d
def O.at (o : O) : List Nat → Option O
  | [] => some o
  | k :: ks => match o.kids with
    | some xs => (match xs[k]? with
      | some x => O.at x ks
      | none => none)
    | none => none
def O.put (o : O) : List Nat → O → O
  | [], n => n
  | k :: ks, n => match o.kids with
    | some xs => (match xs[k]? with
      | some x => o.setKid k (O.put x ks n)
      | none => o)
    | none => o
/-- the way from a value to a place in it -/
inductive Pth (K : PySem.W.Frag) (F H : Hp) : V → O → List Nat → V → Prop
  | nil {v : V} {o : O} : Pth K F H v o [] v
  | lst {a : Addr} {vs : List V} {os : List O} {k : Nat} {p : List Nat} {v1 v' : V} {o1 : O} : H a = some (.lst vs) → vs.length = os.length → vs[k]? = some v1 → os[k]? = some o1 → Pth K F H v1 o1 p v' → Pth K F H (.ref a) (.lst os) (k :: p) v'
  | tup {a : Addr} {vs : List V} {os : List O} {k : Nat} {p : List Nat} {v1 v' : V} {o1 : O} : F a = some (.tup vs) → vs.length = os.length → vs[k]? = some v1 → os[k]? = some o1 → Pth K F H v1 o1 p v' → Pth K F H (.ref a) (.tup os) (k :: p) v'
  | dct {a : Addr} {ks : KS} {vs : List V} {os : List O} {k : Nat} {p : List Nat} {v1 v' : V} {o1 : O} : H a = some (hoD ks vs) → ks.len = vs.length → vs.length = os.length → vs[k]? = some v1 → os[k]? = some o1 → Pth K F H v1 o1 p v' → Pth K F H (.ref a) (.dct ks os) (k :: p) v'
  | ins {a C dx : Addr} {c : Str} {ns : List Str} {vs : List V} {os : List O} {k : Nat} {p : List Nat} {v1 v' : V} {o1 : O} : clsOf K c = some C → H a = some (.ins C dx (ns.zip vs)) → ns.length = vs.length → vs.length = os.length → vs[k]? = some v1 → os[k]? = some o1 → Pth K F H v1 o1 p v' → Pth K F H (.ref a) (.ins c ns os) (k :: p) v'
  | par {a : Addr} {o : O} {p : List Nat} {v' : V} : Pth K F H (.ref a) o p v' → Pth K F H (.ref a) (.par a o) (0 :: p) v'
theorem Pth.mono {K : PySem.W.Frag} {F F' H H' : Hp} (e : Same H H') (ef : Same F F') {v : V} {o : O} {p : List Nat} {v' : V} (h : Pth K F H v o p v') : Pth K F' H' v o p v' := by
  induction h with
  | nil => exact .nil
  | lst h1 h2 h3 h4 _ ih => exact .lst (e _ _ h1) h2 h3 h4 ih
  | tup h1 h2 h3 h4 _ ih => exact .tup (ef _ _ h1) h2 h3 h4 ih
  | dct h1 hl h2 h3 h4 _ ih => exact .dct (e _ _ h1) hl h2 h3 h4 ih
  | ins hc h1 hl h2 h3 h4 _ ih => exact .ins hc (e _ _ h1) hl h2 h3 h4 ih
  | par _ ih => exact .par ih
/-- one of the items out, and something else in its place -/
theorem OwnL.child {K : PySem.W.Frag} {F H : Hp} : ∀ {os : List O} {vs : List V} {fps : List Addr} {k : Nat} {o1 : O}, OwnL K F H vs os fps → os[k]? = some o1 → ∃ v1 f1 fr, vs[k]? = some v1 ∧ Own K F H v1 o1 f1 ∧ fps.Perm (f1 ++ fr) ∧
    ∀ F2 H2 o2 f2, Own K F2 H2 v1 o2 f2 → Same F F2 → (∀ a ∈ fr, H2 a = H a) → ∃ fq, OwnL K F2 H2 vs (os.set k o2) fq ∧ fq.Perm (f2 ++ fr)
  | [], _, _, k, o1, h, e => by simp at e
  | o :: os, _, _, 0, o1, h, e => by
    cases h with
    | @cons v vs _ _ f1 f2 h1 h2 =>
      simp at e
      subst e
      exact ⟨v, f1, f2, rfl, h1, .refl _, fun F2 H2 o2 f3 q1 q2 q3 => ⟨f3 ++ f2, .cons q1 (h2.keep q2 q3), .refl _⟩⟩
  | o :: os, _, _, k + 1, o1, h, e => by
    cases h with
    | @cons v vs _ _ f1 f2 h1 h2 =>
      obtain ⟨v1, g1, gr, e1, e2, e3, e4⟩ := OwnL.child (k := k) h2 (by simpa using e)
      refine ⟨v1, g1, f1 ++ gr, by simpa using e1, e2, ?_, fun F2 H2 o2 f3 q1 q2 q3 => ?_⟩
      · refine (List.Perm.append_left f1 e3).trans ?_
        rw [← List.append_assoc, ← List.append_assoc]
        exact List.Perm.append_right _ List.perm_append_comm
      · obtain ⟨fq, z1, z2⟩ := e4 F2 H2 o2 f3 q1 q2 fun a ha => q3 a (List.mem_append_right _ ha)
        refine ⟨f1 ++ fq, .cons (h1.keep q2 fun a ha => q3 a (List.mem_append_left _ ha)) z1, ?_⟩
        refine (List.Perm.append_left f1 z2).trans ?_
        rw [← List.append_assoc, ← List.append_assoc]
        exact List.Perm.append_right _ List.perm_append_comm
theorem perm_mid {α : Type} (c a b : List α) : (c ++ (a ++ b)).Perm (a ++ (c ++ b)) := by
  rw [← List.append_assoc, ← List.append_assoc]
  exact List.Perm.append_right _ List.perm_append_comm
theorem Own.path {K : PySem.W.Frag} {F H : Hp} : ∀ (p : List Nat) {o : O} {v : V} {fp : List Addr} {o' : O}, Own K F H v o fp → o.at p = some o' → ∃ v' f1 fr, Pth K F H v o p v' ∧ Own K F H v' o' f1 ∧ fp.Perm (f1 ++ fr) ∧
    ∀ F2 H2 o2 f2, Own K F2 H2 v' o2 f2 → Same F F2 → (∀ a ∈ fr, H2 a = H a) → ∃ fq, Own K F2 H2 v (o.put p o2) fq ∧ fq.Perm (f2 ++ fr)
  | [], o, v, fp, o', h, e => by
    simp only [O.at, Option.some.injEq] at e
    subst e
    exact ⟨v, fp, [], .nil, h, by simp, fun F2 H2 o2 f2 q1 q2 q3 => ⟨f2, q1, by simp⟩⟩
  | k :: p, o, v, fp, o', h, e => by
    simp only [O.at] at e
    cases o with
    | fz d => cases e
    | par a o =>
      simp only [O.kids] at e
      cases k with
      | succ k => simp at e
      | zero =>
        simp only [List.getElem?_cons_zero] at e
        cases h with
        | par h1 =>
          obtain ⟨v', f1, fr, e1, e2, e3, e4⟩ := Own.path p h1 e
          refine ⟨v', f1, fr, .par e1, e2, e3, fun F2 H2 o2 f2 q1 q2 q3 => ?_⟩
          obtain ⟨fq, z1, z2⟩ := e4 F2 H2 o2 f2 q1 q2 q3
          exact ⟨fq, .par z1, z2⟩
    | tup os =>
      simp only [O.kids] at e
      cases hk : os[k]? with
      | none => rw [hk] at e; cases e
      | some x =>
        rw [hk] at e
        cases h with
        | tup h1 h2 =>
          obtain ⟨v1, g1, gr, c1, c2, c3, c4⟩ := h2.child hk
          obtain ⟨v', f1, fr, e1, e2, e3, e4⟩ := Own.path p c2 e
          refine ⟨v', f1, fr ++ gr, .tup h1 h2.len c1 hk e1, e2, ?_, fun F2 H2 o2 f2 q1 q2 q3 => ?_⟩
          · rw [← List.append_assoc]; exact c3.trans (List.Perm.append_right _ e3)
          · obtain ⟨fq, z1, z2⟩ := e4 F2 H2 o2 f2 q1 q2 fun a ha => q3 a (List.mem_append_left _ ha)
            obtain ⟨fz, w1, w2⟩ := c4 F2 H2 _ fq z1 q2 fun a ha => q3 a (List.mem_append_right _ ha)
            refine ⟨fz, ?_, ?_⟩
            · simp only [O.put, O.kids, hk, O.setKid]; exact .tup (q2 _ _ h1) w1
            · rw [← List.append_assoc]; exact w2.trans (List.Perm.append_right _ z2)
    | lst os =>
      simp only [O.kids] at e
      cases hk : os[k]? with
      | none => rw [hk] at e; cases e
      | some x =>
        rw [hk] at e
        cases h with
        | @lst a vs _ fpi h1 h2 =>
          obtain ⟨v1, g1, gr, c1, c2, c3, c4⟩ := h2.child hk
          obtain ⟨v', f1, fr, e1, e2, e3, e4⟩ := Own.path p c2 e
          refine ⟨v', f1, a :: (fr ++ gr), .lst h1 h2.len c1 hk e1, e2, ?_, fun F2 H2 o2 f2 q1 q2 q3 => ?_⟩
          · refine (List.Perm.cons a (c3.trans (List.Perm.append_right _ e3))).trans ?_
            rw [List.append_assoc]
            exact (List.perm_middle (l₁ := f1) (l₂ := fr ++ gr) (a := a)).symm
          · obtain ⟨fq, z1, z2⟩ := e4 F2 H2 o2 f2 q1 q2 fun a ha => q3 a (List.mem_cons_of_mem _ (List.mem_append_left _ ha))
            obtain ⟨fz, w1, w2⟩ := c4 F2 H2 _ fq z1 q2 fun a ha => q3 a (List.mem_cons_of_mem _ (List.mem_append_right _ ha))
            refine ⟨a :: fz, ?_, ?_⟩
            · simp only [O.put, O.kids, hk, O.setKid]; exact .lst ((q3 a List.mem_cons_self).trans h1) w1
            · refine (List.Perm.cons a (w2.trans (List.Perm.append_right _ z2))).trans ?_
              rw [List.append_assoc]
              exact (List.perm_middle (l₁ := f2) (l₂ := fr ++ gr) (a := a)).symm
    | dct ks os =>
      simp only [O.kids] at e
      cases hk : os[k]? with
      | none => rw [hk] at e; cases e
      | some x =>
        rw [hk] at e
        cases h with
        | @dct a _ vs _ fpi h1 hl h2 =>
          obtain ⟨v1, g1, gr, c1, c2, c3, c4⟩ := h2.child hk
          obtain ⟨v', f1, fr, e1, e2, e3, e4⟩ := Own.path p c2 e
          refine ⟨v', f1, a :: (fr ++ gr), .dct h1 hl h2.len c1 hk e1, e2, ?_, fun F2 H2 o2 f2 q1 q2 q3 => ?_⟩
          · refine (List.Perm.cons a (c3.trans (List.Perm.append_right _ e3))).trans ?_
            rw [List.append_assoc]
            exact (List.perm_middle (l₁ := f1) (l₂ := fr ++ gr) (a := a)).symm
          · obtain ⟨fq, z1, z2⟩ := e4 F2 H2 o2 f2 q1 q2 fun a ha => q3 a (List.mem_cons_of_mem _ (List.mem_append_left _ ha))
            obtain ⟨fz, w1, w2⟩ := c4 F2 H2 _ fq z1 q2 fun a ha => q3 a (List.mem_cons_of_mem _ (List.mem_append_right _ ha))
            refine ⟨a :: fz, ?_, ?_⟩
            · simp only [O.put, O.kids, hk, O.setKid]; exact .dct ((q3 a List.mem_cons_self).trans h1) hl w1
            · refine (List.Perm.cons a (w2.trans (List.Perm.append_right _ z2))).trans ?_
              rw [List.append_assoc]
              exact (List.perm_middle (l₁ := f2) (l₂ := fr ++ gr) (a := a)).symm
    | ins c ns os =>
      simp only [O.kids] at e
      cases hk : os[k]? with
      | none => rw [hk] at e; cases e
      | some x =>
        rw [hk] at e
        cases h with
        | @ins a C dx _ _ vs _ fpi hc h1 hd hl h2 =>
          obtain ⟨v1, g1, gr, c1, c2, c3, c4⟩ := h2.child hk
          obtain ⟨v', f1, fr, e1, e2, e3, e4⟩ := Own.path p c2 e
          refine ⟨v', f1, a :: dx :: (fr ++ gr), .ins hc h1 hl h2.len c1 hk e1, e2, ?_, fun F2 H2 o2 f2 q1 q2 q3 => ?_⟩
          · refine (List.Perm.cons a (List.Perm.cons dx (c3.trans (List.Perm.append_right _ e3)))).trans ?_
            rw [List.append_assoc]
            exact perm_mid [a, dx] f1 (fr ++ gr)
          · obtain ⟨fq, z1, z2⟩ := e4 F2 H2 o2 f2 q1 q2 fun a ha => q3 a (List.mem_cons_of_mem _ (List.mem_cons_of_mem _ (List.mem_append_left _ ha)))
            obtain ⟨fz, w1, w2⟩ := c4 F2 H2 _ fq z1 q2 fun a ha => q3 a (List.mem_cons_of_mem _ (List.mem_cons_of_mem _ (List.mem_append_right _ ha)))
            refine ⟨a :: dx :: fz, ?_, ?_⟩
            · simp only [O.put, O.kids, hk, O.setKid]
              exact .ins hc ((q3 a List.mem_cons_self).trans h1) ((q3 dx (List.mem_cons_of_mem _ List.mem_cons_self)).trans hd) hl w1
            · refine (List.Perm.cons a (List.Perm.cons dx (w2.trans (List.Perm.append_right _ z2)))).trans ?_
              rw [List.append_assoc]
              exact perm_mid [a, dx] f2 (fr ++ gr)
/-- a heap without some of its things -/
def cutH (H : Hp) (fp : List Addr) : Hp := fun a => if a ∈ fp then none else H a
theorem cutH_in {H : Hp} {fp : List Addr} {a : Addr} (h : a ∈ fp) : cutH H fp a = none := if_pos h
theorem cutH_out {H : Hp} {fp : List Addr} {a : Addr} (h : a ∉ fp) : cutH H fp a = H a := if_neg h
/-- a place in slot i, beside a value that is held: what is there may be changed, with the value -/
theorem RS.place {K : PySem.W.Frag} {F0 H0 F H : Hp} {σ : L2.St} {ρ : OEnv} {y : V} {oy : O} {i : Nat} {o o' : O} {p : List Nat} (r : RS K F0 H0 F H (some y :: σ) (some oy :: ρ)) (ei : ρ[i]? = some (some o)) (ep : o.at p = some o') :
    ∃ v v' f1 fy, σ[i]? = some (some v) ∧ Pth K F H v o p v' ∧ Own K F H v' o' f1 ∧ Own K F H y oy fy ∧ (fy ++ f1).Nodup ∧ (∀ a ∈ fy ++ f1, F a = none) ∧ Same F H ∧
      ∀ F2 H2 o2, RV K F (cutH H (fy ++ f1)) F2 H2 v' o2 → RS K F0 H0 F2 H2 σ (ρ.set i (some (o.put p o2))) := by
  obtain ⟨fps, sl, hs⟩ := r.ex
  cases sl with
  | @ow _ _ fy _ _ fpt hy s =>
    obtain ⟨v, fp, fpr, e1, e2, e3, e4, e5⟩ := s.split ei
    obtain ⟨v', f1, fr, p1, p2, p3, p4⟩ := e2.path p ep
    have hp : Hs F0 H0 F H (fy ++ (f1 ++ (fr ++ fpr))) := hs.perm (List.Perm.append_left fy (e3.trans (by rw [← List.append_assoc]; exact List.Perm.append_right _ p3)))
    have hp' : Hs F0 H0 F H ((fy ++ f1) ++ (fr ++ fpr)) := by rw [List.append_assoc]; exact hp
    have nd := List.nodup_append.mp hp'.nd
    have lst : ∀ a ∈ fr ++ fpr, ∃ u, H a = some u := fun a ha => by
      rcases List.mem_append.mp ha with q | q
      · obtain ⟨u, z, _⟩ := e2.lstAt a (p3.mem_iff.mpr (List.mem_append_right _ q)); exact ⟨u, z⟩
      · obtain ⟨u, z, _⟩ := s.lstAt a (e3.mem_iff.mpr (List.mem_append_right _ q)); exact ⟨u, z⟩
    refine ⟨v, v', f1, fy, e1, p1, p2, hy, nd.1, fun a ha => (hp'.ow a (List.mem_append_left _ ha)).1, hs.fh, fun F2 H2 o2 ⟨f2, w1, w2⟩ => ?_⟩
    have kp : ∀ a ∈ fr ++ fpr, cutH H (fy ++ f1) a = H a := fun a ha => cutH_out fun m => nd.2.2 a m a ha rfl
    have keep : ∀ a ∈ fr ++ fpr, H2 a = H a := fun a ha => by
      obtain ⟨u, z⟩ := lst a ha
      rw [z]
      exact w2.h0 _ _ ((kp a ha).trans z)
    obtain ⟨fq, g1, g2⟩ := p4 F2 H2 o2 f2 w1 w2.f0 fun a ha => keep a (List.mem_append_left _ ha)
    obtain ⟨fz, g3, g4⟩ := e5 F2 H2 v _ fq g1 w2.f0 fun a ha => keep a (List.mem_append_right _ ha)
    rw [set_same e1] at g3
    have pm : fz.Perm (f2 ++ (fr ++ fpr)) := g4.trans (by rw [← List.append_assoc]; exact List.Perm.append_right _ g2)
    have cut0 : ∀ a, cutH H (fy ++ f1) a = none → H0 a = none := fun a ha => by
      by_cases m : a ∈ fy ++ f1
      · exact (hp'.ow a (List.mem_append_left _ m)).2
      · rw [cutH_out m] at ha; exact Same.free hs.h0 ha
    refine ⟨fz, g3, Hs.perm ?_ pm.symm⟩
    refine ⟨List.nodup_append.mpr ⟨w2.nd, nd.2.1, fun a ha b hb e => ?_⟩, fun a ha => ?_, w2.fh, hs.f0.trans w2.f0, fun a u z => ?_, fun a z1 z2 => ?_⟩
    · subst e
      obtain ⟨u, z⟩ := lst a hb
      have := (w2.ow a ha).2
      rw [kp a hb, z] at this
      cases this
    · rcases List.mem_append.mp ha with m | m
      · exact ⟨(w2.ow a m).1, cut0 a (w2.ow a m).2⟩
      · refine ⟨?_, (hp'.ow a (List.mem_append_right _ m)).2⟩
        cases q : F2 a with
        | none => rfl
        | some u =>
          have := w2.nw a (hp'.ow a (List.mem_append_right _ m)).1 (by rw [q]; exact fun w => nomatch w)
          obtain ⟨u', z⟩ := lst a m
          rw [kp a m, z] at this
          cases this
    · refine w2.h0 _ _ ?_
      rw [cutH_out fun m => by rw [(hp'.ow a (List.mem_append_left _ m)).2] at z; cases z]
      exact hs.h0 _ _ z
    · cases q : F a with
      | some u => exact hs.nw a z1 (by rw [q]; exact fun w => nomatch w)
      | none => exact cut0 a (w2.nw a q z2)
/-- one thing is changed, what it held and what it gets stays -/
theorem RV.cell {K : PySem.W.Frag} {F H : Hp} {a : Addr} {ho2 : HO} {o2 : O} {f1 fi : List Addr} (fh : Same F H) (nd : f1.Nodup) (fn : ∀ b ∈ f1, F b = none) (ha : a ∈ f1) (hfi : ∀ b ∈ fi, b ∈ f1) (hfa : a ∉ fi) (ndi : fi.Nodup) (ho : Own K F (upd H a ho2) (.ref a) o2 (a :: fi)) : RV K F (cutH H f1) F (upd H a ho2) (.ref a) o2 :=
  ⟨a :: fi, ho, List.nodup_cons.mpr ⟨hfa, ndi⟩, fun b hb => by
    rcases List.mem_cons.mp hb with q | q
    · subst q; exact ⟨fn _ ha, cutH_in ha⟩
    · exact ⟨fn b (hfi b q), cutH_in (hfi b q)⟩, fun b u z => by
    have hb : b ≠ a := fun e => by rw [e, fn a ha] at z; cases z
    rw [upd_ne hb]; exact fh _ _ z, Same.refl F, fun b u z => by
    have hb : b ≠ a := fun e => by rw [e, cutH_in ha] at z; cases z
    rw [upd_ne hb]
    by_cases m : b ∈ f1
    · rw [cutH_in m] at z; cases z
    · rw [cutH_out m] at z; exact z, fun b z1 z2 => absurd z1 z2⟩
/-- a list at a place is changed by a value -/
theorem RS.mutL {K : PySem.W.Frag} {F0 H0 F H : Hp} {σ : L2.St} {ρ : OEnv} {y : V} {oy : O} {i : Nat} {o : O} {os : List O} {p : List Nat} (r : RS K F0 H0 F H (some y :: σ) (some oy :: ρ)) (ei : ρ[i]? = some (some o)) (ep : o.at p = some (.lst os)) :
    ∃ v a vs, σ[i]? = some (some v) ∧ Pth K F H v o p (.ref a) ∧ H a = some (.lst vs) ∧ vs.length = os.length ∧
      ∀ {tv : List V → V → List V} {to : List O → O → List O}, Chg tv to → RS K F0 H0 F (upd H a (.lst (tv vs y))) σ (ρ.set i (some (o.put p (.lst (to os oy))))) := by
  obtain ⟨v, v', f1, fy, e1, e2, e3, e4, nd, fn, fh, back⟩ := r.place ei ep
  cases e3 with
  | @lst a vs _ fi ha hl =>
    refine ⟨v, a, vs, e1, e2, ha, hl.len, fun {tv to} c => back F _ _ ?_⟩
    have nd2 := List.nodup_append.mp nd
    have na_y : a ∉ fy := fun m => nd2.2.2 a m a List.mem_cons_self rfl
    have na_i : a ∉ fi := (List.nodup_cons.mp nd2.2.1).1
    have hk : ∀ b, b ≠ a → upd H a (.lst (tv vs y)) b = H b := fun b hb => upd_ne hb
    have o1 : Own K F (upd H a (.lst (tv vs y))) y oy fy := e4.keep (Same.refl F) fun b hb => hk b fun e => na_y (e ▸ hb)
    have l1 : OwnL K F (upd H a (.lst (tv vs y))) vs os fi := hl.keep (Same.refl F) fun b hb => hk b fun e => na_i (e ▸ hb)
    obtain ⟨fp', z1, fp'', z2, z3⟩ := c.own l1 o1
    have sub : ∀ b ∈ fp', b ∈ fi ++ fy := fun b hb => z3.subset (z2.mem_iff.mp hb)
    have ndf : (fi ++ fy).Nodup := List.nodup_append.mpr ⟨(List.nodup_cons.mp nd2.2.1).2, nd2.1, fun x hx w hw e => nd2.2.2 w hw x (List.mem_cons_of_mem _ hx) e.symm⟩
    refine RV.cell (fi := fp') fh nd fn (List.mem_append_right _ List.mem_cons_self) (fun b hb => ?_) (fun m => ?_) (z2.nodup_iff.mpr (ndf.sublist z3)) (.lst upd_same z1)
    · rcases List.mem_append.mp (sub b hb) with q | q
      · exact List.mem_append_right _ (List.mem_cons_of_mem _ q)
      · exact List.mem_append_left _ q
    · rcases List.mem_append.mp (sub a m) with q | q
      · exact na_i q
      · exact na_y q
end VL

namespace VL
open PySem PySem.Spec PyProof.Rows L2

theorem hoD_inj {k1 k2 : KS} {v1 v2 : List V} (h : hoD k1 v1 = hoD k2 v2) (l1 : k1.len = v1.length) (l2 : k2.len = v2.length) : v1 = v2 := by
  cases k1 with
  | inl a =>
    cases k2 with
    | inl b =>
      simp only [hoD, HO.dK.injEq] at h
      have := congrArg (List.map Prod.snd) h
      rw [List.map_snd_zip (Nat.le_of_eq l1.symm), List.map_snd_zip (Nat.le_of_eq l2.symm)] at this
      exact this
    | inr b => cases h
  | inr a =>
    cases k2 with
    | inl b => cases h
    | inr b =>
      simp only [hoD, HO.dT.injEq] at h
      have := congrArg (List.map Prod.snd) h
      rw [List.map_snd_zip (Nat.le_of_eq l1.symm), List.map_snd_zip (Nat.le_of_eq l2.symm)] at this
      exact this
theorem zip_inj {α β : Type} {n1 n2 : List α} {v1 v2 : List β} (h : n1.zip v1 = n2.zip v2) (l1 : n1.length = v1.length) (l2 : n2.length = v2.length) : n1 = n2 ∧ v1 = v2 := by
  constructor
  · have := congrArg (List.map Prod.fst) h
    rw [List.map_fst_zip (Nat.le_of_eq l1), List.map_fst_zip (Nat.le_of_eq l2)] at this
    exact this
  · have := congrArg (List.map Prod.snd) h
    rw [List.map_snd_zip (Nat.le_of_eq l1.symm), List.map_snd_zip (Nat.le_of_eq l2.symm)] at this
    exact this
theorem Pth.det {K : PySem.W.Frag} {F H : Hp} {v : V} {o : O} {p : List Nat} {x y : V} (h : Pth K F H v o p x) (g : Pth K F H v o p y) : x = y := by
  induction h generalizing y with
  | nil => cases g; rfl
  | lst h1 h2 h3 h4 _ ih =>
    cases g with
    | lst g1 g2 g3 g4 g5 =>
      rw [h1] at g1; cases g1
      rw [h3] at g3; cases g3
      rw [h4] at g4; cases g4
      exact ih g5
  | tup h1 h2 h3 h4 _ ih =>
    cases g with
    | tup g1 g2 g3 g4 g5 =>
      rw [h1] at g1; cases g1
      rw [h3] at g3; cases g3
      rw [h4] at g4; cases g4
      exact ih g5
  | dct h1 hl h2 h3 h4 _ ih =>
    cases g with
    | dct g1 gl g2 g3 g4 g5 =>
      rw [h1] at g1
      have := hoD_inj (Option.some.inj g1) hl gl
      subst this
      rw [h3] at g3; cases g3
      rw [h4] at g4; cases g4
      exact ih g5
  | ins hc h1 hl h2 h3 h4 _ ih =>
    cases g with
    | ins gc g1 gl g2 g3 g4 g5 =>
      rw [h1] at g1
      have e := Option.some.inj g1
      injection e with e1 e2 e3
      have := (zip_inj e3 hl gl).2
      subst this
      rw [h3] at g3; cases g3
      rw [h4] at g4; cases g4
      exact ih g5
  | par _ ih => cases g with | par g => exact ih g
theorem O.at_app (o : O) : ∀ (p q : List Nat) {o1 : O}, o.at p = some o1 → o.at (p ++ q) = o1.at q := by
  intro p
  induction p generalizing o with
  | nil => intro q o1 h; simp only [O.at, Option.some.injEq] at h; subst h; rfl
  | cons k p ih =>
    intro q o1 h
    simp only [O.at, List.cons_append] at h ⊢
    cases hk : o.kids with
    | none => rw [hk] at h; cases h
    | some xs =>
      rw [hk] at h
      simp only at h ⊢
      cases hx : xs[k]? with
      | none => rw [hx] at h; cases h
      | some x => rw [hx] at h; exact ih x q h
theorem Pth.app {K : PySem.W.Frag} {F H : Hp} {v : V} {o : O} {p q : List Nat} {x y : V} {o1 : O} (h : Pth K F H v o p x) (ho : o.at p = some o1) (g : Pth K F H x o1 q y) : Pth K F H v o (p ++ q) y := by
  induction h with
  | nil => simp only [O.at, Option.some.injEq] at ho; subst ho; exact g
  | lst h1 h2 h3 h4 _ ih => exact .lst h1 h2 h3 h4 (ih (by simpa only [O.at, O.kids, h4] using ho) g)
  | tup h1 h2 h3 h4 _ ih => exact .tup h1 h2 h3 h4 (ih (by simpa only [O.at, O.kids, h4] using ho) g)
  | dct h1 hl h2 h3 h4 _ ih => exact .dct h1 hl h2 h3 h4 (ih (by simpa only [O.at, O.kids, h4] using ho) g)
  | ins hc h1 hl h2 h3 h4 _ ih => exact .ins hc h1 hl h2 h3 h4 (ih (by simpa only [O.at, O.kids, h4] using ho) g)
  | par _ ih => exact .par (ih (by simpa [O.at, O.kids] using ho) g)
/-- a value held that is nothing -/
theorem RS.non {K : PySem.W.Frag} {F0 H0 F H : Hp} {σ : L2.St} {ρ : OEnv} (r : RS K F0 H0 F H σ ρ) : RS K F0 H0 F H (some .non :: σ) (some (.fz .none) :: ρ) := r.consFz .non
theorem RS.slot {K : PySem.W.Frag} {F0 H0 F H : Hp} {σ : L2.St} {ρ : OEnv} {i : Nat} {o : O} (r : RS K F0 H0 F H σ ρ) (e : ρ[i]? = some (some o)) : ∃ v, σ[i]? = some (some v) := by
  obtain ⟨fps, s, hs⟩ := r.ex
  obtain ⟨v, fp, fpr, e1, _⟩ := s.split e
  exact ⟨v, e1⟩

/-- an expression that is a place -/
structure VPl (X : Cx) (W : WX) (e : Expr) (h : OEnv → R (Nat × List Nat)) : Prop where
  ex : ∃ t, PE X e t ∧ ∀ σ H F0 H0 F ρ Q, RS X.K F0 H0 F H σ ρ → Pst X W σ H (fun ip => ∃ o v, ρ[ip.1]? = some (some o) ∧ σ[ip.1]? = some (some v) ∧ (∃ o', o.at ip.2 = some o') ∧ ∀ v' H' F', Ext F H F' H' → Pth X.K F' H' v o ip.2 v' → Q v' H') (h ρ) → t σ H Q
def lentP : O → List Nat
  | .par _ _ => [0]
  | _ => []
def pVar (i : Nat) : OEnv → R (Nat × List Nat) := fun ρ => match ρ[i]? with
  | some (some o) => .ok (i, lentP o)
  | _ => .stuck
def pIx1 (ip : Nat × List Nat) (n : Nat) (d : PyData) : R (Nat × List Nat) := match d with
  | .int j => (match ixN n j with | some k => .ok (ip.1, ip.2 ++ [k]) | none => .stuck)
  | _ => .stuck
def pIdx (h : OEnv → R (Nat × List Nat)) (hk : OEnv → R PyData) : OEnv → R (Nat × List Nat) := fun ρ => (h ρ).bind fun ip => match ρ[ip.1]? with
  | some (some o) => (match o.at ip.2 with
    | some (.lst os) => (hk ρ).bind (pIx1 ip os.length)
    | some (.tup os) => (hk ρ).bind (pIx1 ip os.length)
    | _ => .stuck)
  | _ => .stuck
section
variable {X : Cx} {W : WX} {a b c e : Expr} {es : List Expr} {pos : Pos} {hx hk : OEnv → R PyData} {hp : OEnv → R (Nat × List Nat)} {ho : OEnv → R (O × OEnv)} {k : Nat}
theorem vpl_var (i : Nat) (pv : PE X e (tVar i)) : VPl X W e (pVar i) := by
  refine ⟨_, pv, fun σ H F0 H0 F ρ Q r pr => ?_⟩
  unfold pVar at pr
  split at pr
  · rename_i o eo
    obtain ⟨o2, v, e1, e2, ⟨o', e3⟩, q⟩ := pr
    refine ⟨v, e2, q v H F ?_ ?_⟩
    · obtain ⟨_, _, hs⟩ := r.ex; exact .refl hs.fh
    · have e1' : ρ[i]? = some (some o2) := e1
      rw [eo] at e1'
      cases e1'
      obtain ⟨v0, v', f1, fy, g1, g2, g3, _⟩ := r.non.place eo e3
      have g1' : σ[i]? = some (some v0) := g1
      rw [show σ[i]? = some (some v) from e2] at g1'
      cases g1'
      cases o <;> first | exact .nil | skip
      rename_i ad o1
      cases g2 with
      | par g => exact .par .nil
  · exact pr.elim
theorem pl_one {K : PySem.W.Frag} {F H : Hp} {a : Addr} {vs : List V} {os : List O} {k : Nat} {v1 : V} (h1 : H a = some (.lst vs)) (h2 : vs.length = os.length) (h3 : vs[k]? = some v1) : Pth K F H (.ref a) (.lst os) [k] v1 := by
  have hk : k < os.length := by rw [← h2]; exact (List.getElem?_eq_some_iff.mp h3).1
  exact .lst h1 h2 h3 (List.getElem?_eq_getElem hk) .nil
theorem pl_oneT {K : PySem.W.Frag} {F H : Hp} {a : Addr} {vs : List V} {os : List O} {k : Nat} {v1 : V} (h1 : F a = some (.tup vs)) (h2 : vs.length = os.length) (h3 : vs[k]? = some v1) : Pth K F H (.ref a) (.tup os) [k] v1 := by
  have hk : k < os.length := by rw [← h2]; exact (List.getElem?_eq_some_iff.mp h3).1
  exact .tup h1 h2 h3 (List.getElem?_eq_getElem hk) .nil
theorem ixN_lt {n j : Nat} {i : Int} (h : ixN n i = some j) : j < n := (ixN_seq h).2.1
theorem vpl_idx (h : VPl X W a hp) (hb : VX X W b hk) (hs : PlainIx b := by exact fun _ _ => rfl) : VPl X W (.Subscript a b pos) (pIdx hp hk) := by
  obtain ⟨t, p, q⟩ := h.ex
  obtain ⟨tk, pk, qk⟩ := hb.ex
  refine ⟨_, pe_ix ix_seq p pk hs, fun σ H F0 H0 F ρ Q r pr => ?_⟩
  refine q σ H F0 H0 F ρ _ r ?_
  unfold pIdx at pr
  generalize hp ρ = rp at pr ⊢
  cases rp with
  | stuck => exact pr
  | err c => exact pr
  | ok ip =>
    simp only [R.bind_ok] at pr
    cases hρ : ρ[ip.1]? with
    | none => rw [hρ] at pr; exact pr.elim
    | some oo =>
      cases oo with
      | none => rw [hρ] at pr; exact pr.elim
      | some o =>
        rw [hρ] at pr
        simp only at pr
        obtain ⟨v, ev⟩ := r.slot hρ
        cases ho : o.at ip.2 with
        | none => rw [ho] at pr; exact pr.elim
        | some o1 =>
          rw [ho] at pr
          refine ⟨o, v, hρ, ev, ⟨o1, ho⟩, fun v' H1 F1 ex1 pt => ?_⟩
          have r1 := r.ext ex1
          obtain ⟨v0, v2, f1, fy, g1, g2, g3, _, _, _, fh, _⟩ := r1.non.place hρ ho
          have g1' : σ[ip.1]? = some (some v0) := g1
          rw [ev] at g1'
          cases g1'
          have := pt.det g2
          subst this
          refine qk σ H1 F0 H0 F1 ρ _ r1 ?_
          have err : ∀ c, (∀ H', Same H H' → ErrAt X W c σ H') → ∀ H', Same H1 H' → ErrAt X W c σ H' := fun c z H' e => z H' (ex1.hh.trans e)
          cases o1 with
          | lst os =>
            simp only at pr
            generalize hk ρ = rk at pr ⊢
            cases rk with
            | stuck => exact pr.elim
            | err c => exact err c pr
            | ok d =>
              simp only [R.bind_ok] at pr
              intro iv H2 F2 ex2 di
              unfold pIx1 at pr
              cases di <;> first | exact pr.elim | skip
              rename_i j
              simp only at pr
              cases hix : ixN os.length j with
              | none => rw [hix] at pr; exact pr.elim
              | some k =>
                rw [hix] at pr
                obtain ⟨o3, v3, e1, e2, ⟨o4, e3⟩, qq⟩ := pr
                have e1' : ρ[ip.1]? = some (some o3) := e1
                rw [hρ] at e1'; cases e1'
                have e2' : σ[ip.1]? = some (some v3) := e2
                rw [ev] at e2'; cases e2'
                cases g3 with
                | @lst ad vs _ fi ha hl =>
                  have lk : k < vs.length := by rw [hl.len]; exact ixN_lt hix
                  have hv := List.getElem?_eq_getElem lk
                  refine .inl ⟨ad, vs, j, _, rfl, rfl, .inl (.inl (ex2.hh _ _ ha)), by unfold atI; rw [hl.len, hix]; exact hv, qq _ H2 F2 (ex1.trans ex2) ?_⟩
                  exact (pt.mono ex2.hh ex2.bb).app ho (pl_one (ex2.hh _ _ ha) hl.len hv)
          | tup os =>
            simp only at pr
            generalize hk ρ = rk at pr ⊢
            cases rk with
            | stuck => exact pr.elim
            | err c => exact err c pr
            | ok d =>
              simp only [R.bind_ok] at pr
              intro iv H2 F2 ex2 di
              unfold pIx1 at pr
              cases di <;> first | exact pr.elim | skip
              rename_i j
              simp only at pr
              cases hix : ixN os.length j with
              | none => rw [hix] at pr; exact pr.elim
              | some k =>
                rw [hix] at pr
                obtain ⟨o3, v3, e1, e2, ⟨o4, e3⟩, qq⟩ := pr
                have e1' : ρ[ip.1]? = some (some o3) := e1
                rw [hρ] at e1'; cases e1'
                have e2' : σ[ip.1]? = some (some v3) := e2
                rw [ev] at e2'; cases e2'
                cases g3 with
                | @tup ad vs _ fi ha hl =>
                  have lk : k < vs.length := by rw [hl.len]; exact ixN_lt hix
                  have hv := List.getElem?_eq_getElem lk
                  refine .inr (.inl ⟨ad, vs, j, _, rfl, rfl, .inl (.inl (ex2.bh _ _ (ex2.bb _ _ ha))), by unfold atI; rw [hl.len, hix]; exact hv, qq _ H2 F2 (ex1.trans ex2) ?_⟩)
                  exact (pt.mono ex2.hh ex2.bb).app ho (pl_oneT (ex2.bb _ _ ha) hl.len hv)
          | _ => exact pr.elim
end
end VL

namespace VL
open PySem PySem.Spec PyProof.Rows L2

/-- a value is held while others are reckoned -/
theorem RS.hold {K : PySem.W.Frag} {F0 H0 F H : Hp} {σ : L2.St} {ρ : OEnv} {y : V} {oy : O} (r : RS K F0 H0 F H (some y :: σ) (some oy :: ρ)) :
    ∃ Hc, RS K F Hc F H σ ρ ∧ Same Hc H ∧ ∀ F2 H2 σ2 ρ2, RS K F Hc F2 H2 σ2 ρ2 → RS K F0 H0 F2 H2 (some y :: σ2) (some oy :: ρ2) := by
  obtain ⟨fps, sl, hs⟩ := r.ex
  cases sl with
  | @ow _ _ fy _ _ fpt hy s =>
    have nd := List.nodup_append.mp hs.nd
    have hc : Same (cutH H fpt) H := fun a u z => by
      by_cases m : a ∈ fpt
      · rw [cutH_in m] at z; cases z
      · rw [cutH_out m] at z; exact z
    refine ⟨cutH H fpt, ⟨fpt, s, nd.2.1, fun a ha => ⟨(hs.ow a (List.mem_append_right _ ha)).1, cutH_in ha⟩, hs.fh, Same.refl F, hc, fun a z1 z2 => absurd z1 z2⟩, hc, fun F2 H2 σ2 ρ2 r2 => ?_⟩
    obtain ⟨f2, s2, h2⟩ := r2.ex
    have ky : ∀ a ∈ fy, ∃ u, H a = some u ∧ cutH H fpt a = some u := fun a ha => by
      obtain ⟨u, z, _⟩ := hy.lstAt a ha
      exact ⟨u, z, by rw [cutH_out fun m => nd.2.2 a ha a m rfl]; exact z⟩
    have c0 : ∀ a, cutH H fpt a = none → H0 a = none := fun a z => by
      by_cases m : a ∈ fpt
      · exact (hs.ow a (List.mem_append_right _ m)).2
      · rw [cutH_out m] at z; exact Same.free hs.h0 z
    refine ⟨fy ++ f2, .ow (hy.keep h2.f0 fun a ha => ?_) s2, List.nodup_append.mpr ⟨nd.1, h2.nd, fun a ha b hb e => ?_⟩, fun a ha => ?_, h2.fh, hs.f0.trans h2.f0, fun a u z => ?_, fun a z1 z2 => ?_⟩
    · obtain ⟨u, z, z'⟩ := ky a ha
      rw [z]; exact h2.h0 _ _ z'
    · subst e
      obtain ⟨u, z, z'⟩ := ky a ha
      rw [(h2.ow a hb).2] at z'; cases z'
    · rcases List.mem_append.mp ha with m | m
      · refine ⟨?_, (hs.ow a (List.mem_append_left _ m)).2⟩
        cases q : F2 a with
        | none => rfl
        | some u =>
          have := h2.nw a (hs.ow a (List.mem_append_left _ m)).1 (by rw [q]; exact fun w => nomatch w)
          obtain ⟨u', z, z'⟩ := ky a m
          rw [this] at z'; cases z'
      · exact ⟨(h2.ow a m).1, c0 a (h2.ow a m).2⟩
    · refine h2.h0 _ _ ?_
      rw [cutH_out fun m => by rw [(hs.ow a (List.mem_append_right _ m)).2] at z; cases z]
      exact hs.h0 _ _ z
    · cases q : F a with
      | some u => exact hs.nw a z1 (by rw [q]; exact fun w => nomatch w)
      | none => exact c0 a (h2.nw a q z2)
/-- an expression that changes nothing; a slot may be emptied -/
structure VOq (X : Cx) (W : WX) (e : Expr) (h : OEnv → R (O × OEnv)) : Prop where
  ex : ∃ t, PE X e t ∧ ∀ σ H F0 H0 F ρ Q, RS X.K F0 H0 F H σ ρ → Pst X W σ H (fun p : O × OEnv => ∀ v H' F', Same H H' → Same F F' → RS X.K F0 H0 F' H' (some v :: σ) (some p.1 :: p.2) → Q v H') (h ρ) → t σ H Q
structure VOs (X : Cx) (W : WX) (es : List Expr) (h : OEnv → R (List O × OEnv)) : Prop where
  ex : ∃ t, PA X es t ∧ ∀ σ H F0 H0 F ρ Q, RS X.K F0 H0 F H σ ρ → Pst X W σ H (fun p : List O × OEnv => ∀ vs H' F', vs.length = p.1.length → Same H H' → Same F F' → RS X.K F0 H0 F' H' (vs.map some ++ σ) (p.1.map some ++ p.2) → Q vs H') (h ρ) → t σ H Q
def oNil : OEnv → R (List O × OEnv) := fun ρ => .ok ([], ρ)
def oCons (h : OEnv → R (O × OEnv)) (g : OEnv → R (List O × OEnv)) : OEnv → R (List O × OEnv) := fun ρ => (h ρ).bind fun p => (g p.2).bind fun q => .ok (p.1 :: q.1, q.2)
def oTup (g : OEnv → R (List O × OEnv)) : OEnv → R (O × OEnv) := fun ρ => (g ρ).bind fun p => if p.1.length ≤ 1000 then .ok (.tup p.1, p.2) else .stuck
@[simp] theorem oNil_ap (ρ : OEnv) : oNil ρ = .ok ([], ρ) := rfl
@[simp] theorem oCons_ap (h : OEnv → R (O × OEnv)) (g : OEnv → R (List O × OEnv)) (ρ : OEnv) : oCons h g ρ = (h ρ).bind fun p => (g p.2).bind fun q => .ok (p.1 :: q.1, q.2) := rfl
@[simp] theorem oTup_ap (g : OEnv → R (List O × OEnv)) (ρ : OEnv) : oTup g ρ = (g ρ).bind fun p => if p.1.length ≤ 1000 then .ok (.tup p.1, p.2) else .stuck := rfl
theorem Slots.gather {K : PySem.W.Frag} {F H : Hp} {σ : L2.St} {ρ : OEnv} : ∀ {vs : List V} {os : List O} {fps : List Addr}, vs.length = os.length → Slots K F H (vs.map some ++ σ) (os.map some ++ ρ) fps → ∃ f1 f2, OwnL K F H vs os f1 ∧ Slots K F H σ ρ f2 ∧ fps = f1 ++ f2
  | [], [], fps, _, h => ⟨[], fps, .nil, h, rfl⟩
  | v :: vs, o :: os, fps, l, h => by
    cases h with
    | ow h1 h2 =>
      obtain ⟨f1, f2, z1, z2, z3⟩ := Slots.gather (by simpa using l) h2
      subst z3
      exact ⟨_ ++ f1, f2, .cons h1 z1, z2, by rw [List.append_assoc]⟩
  | [], _ :: _, _, l, _ => by simp at l
  | _ :: _, [], _, l, _ => by simp at l
section
variable {X : Cx} {W : WX} {a b c e : Expr} {es : List Expr} {pos : Pos} {hx hk : OEnv → R PyData} {hp : OEnv → R (Nat × List Nat)} {ho : OEnv → R (O × OEnv)} {g : OEnv → R (List O × OEnv)} {f : PEnv → R (List PyData)} {k : Nat}
theorem voq_x (g : VX X W e hx) : VOq X W e (oX hx) := by
  obtain ⟨t, p, q⟩ := g.ex
  refine ⟨t, p, fun σ H F0 H0 F ρ Q r pr => ?_⟩
  refine q σ H F0 H0 F ρ Q r ?_
  unfold oX at pr
  generalize hx ρ = rr at pr ⊢
  cases rr with
  | stuck => exact pr
  | err c => exact pr
  | ok d =>
    intro v H' F' ex dv
    obtain ⟨fps, s, hs⟩ := (r.ext ex).ex
    exact pr v H' F' ex.hh ex.bb ⟨fps, .ow (.fz dv) s, hs⟩
theorem voq_mv (i : Nat) {x : Str} (hN : X.N[i]? = some x := by rfl) (hv : Vis X.env.scope x := by first | exact Or.inl rfl | exact Or.inr (Or.inl rfl) | exact Or.inr (Or.inr rfl)) (hd : (x == ("__debug__" : Str)) = false := by decide)
    (hcd : (x == ("__classdict__" : Str)) = false := by decide) : VOq X W (.Name x pos) (oMv i) := by
  refine ⟨_, pe_var hN hv hd hcd, fun σ H F0 H0 F ρ Q r pr => ?_⟩
  obtain ⟨fps, s, hs⟩ := r.ex
  unfold oMv at pr
  split at pr
  · rename_i o e
    obtain ⟨v, fp, fpr, e1, e2, e3, e4, e5⟩ := s.split e
    refine ⟨v, e1, pr v H F (Same.refl H) (Same.refl F) ⟨fp ++ fpr, .ow e2 ?_, hs.perm e3⟩⟩
    have z := e4 (some v)
    rw [set_same e1] at z
    exact z
  · exact pr.elim
theorem voq_frF (g : VFr X W e f) : VOq X W e (oFrF f) := by
  obtain ⟨t, p, q⟩ := g.ex
  refine ⟨t, p, fun σ H F0 H0 F ρ Q r pr => ?_⟩
  obtain ⟨fps, s, hs⟩ := r.ex
  refine q σ H F _ Q hs.fh s.rfF ?_
  unfold oFrF at pr
  generalize f (viewF ρ) = rr at pr ⊢
  cases rr with
  | stuck => exact pr
  | err c => exact pr
  | ok ds =>
    intro pa vs H' B' ex hp hn bn ia
    have hs' := hs.ext ex s.lstAt
    have s' : Slots X.K B' H' σ ρ fps := s.keep ex.bb fun a ha => by
      obtain ⟨us, z, _⟩ := s.lstAt a ha
      rw [z]; exact ex.hh _ _ z
    refine pr (.ref pa) H' B' ex.hh ex.bb ⟨[pa] ++ fps, .ow (.lst hp (OwnL.fzs ia)) s', ?_, ?_, hs'.fh, hs'.f0, hs'.h0, hs'.nw⟩
    · refine List.nodup_cons.mpr ⟨fun hm => ?_, hs'.nd⟩
      obtain ⟨us, z, _⟩ := s.lstAt pa hm
      rw [hn] at z; cases z
    · intro a ha
      rcases List.mem_cons.mp ha with e | e
      · subst e; exact ⟨bn, Same.free hs.h0 hn⟩
      · exact hs'.ow a e
theorem voq_frB (g : VFr X W e f) : VOq X W e (oFrB f) := by
  obtain ⟨t, p, q⟩ := g.ex
  refine ⟨t, p, fun σ H F0 H0 F ρ Q r pr => ?_⟩
  obtain ⟨fps, s, hs⟩ := r.ex
  obtain ⟨b1, b2⟩ := hs.bor
  refine q σ H (bor F H fps) _ Q b2 (s.rfB b1 fun a ha => bor_own ha) ?_
  unfold oFrB at pr
  generalize f (viewB ρ) = rr at pr ⊢
  cases rr with
  | stuck => exact pr
  | err c => exact pr
  | ok ds =>
    simp only [R.bind_ok] at pr
    split at pr
    · rename_i hl
      intro pa vs H' B' ex hp hn bn ia
      obtain ⟨F', e1, e2, e3⟩ := hs.unbor s.lstAt ex
      have hs' := hs.ext e1 s.lstAt
      have s' : Slots X.K F' H' σ ρ fps := s.keep e1.bb fun a ha => by
        obtain ⟨us, z, _⟩ := s.lstAt a ha
        rw [z]; exact e1.hh _ _ z
      have hpa : pa ∉ fps := fun hm => by
        obtain ⟨us, z, _⟩ := s.lstAt pa hm
        rw [hn] at z; cases z
      have fn : F' pa = none := by
        cases z : F' pa with
        | none => rfl
        | some o => have w := e3 _ _ z; rw [bn] at w; cases w
      refine pr (.ref pa) H' F' e1.hh e1.bb ⟨[pa] ++ fps, .ow (.lst hp (OwnL.fzs (IsAll.lfree e2 hl ia))) s', ?_, ?_, hs'.fh, hs'.f0, hs'.h0, hs'.nw⟩
      · exact List.nodup_cons.mpr ⟨hpa, hs'.nd⟩
      · intro a ha
        rcases List.mem_cons.mp ha with e | e
        · subst e; exact ⟨fn, Same.free hs.h0 hn⟩
        · exact hs'.ow a e
    · exact pr.elim
theorem voq_call {x : Str} {f : Addr} {fd : FuncData} {ps : List Str} {n : Nat} {g : List PyData → R O} {fa : PEnv → R (List PyData)} {p : Pos} {e : Expr} (F : FnOk X.prog X.w X.K X.mg X.base (L2.CX X.prog X.w) k f fd ps (spO X.K X.mg n g)) (hr : Room k X.A) (hm : X.mg x = some (.ref f)) (hk : PySem.W.keepIn X.K (.ref f) = true) (hb : Binds X.K fd ps [])
    (tk : Takes X W) (ha : VAn X W n (e :: es) fa) (hg : Gl X x := by rfl) (hdb : (x == ("__debug__" : Str)) = false := by decide) (he : starEach (e :: es) X.env = (false, eval e X.env) :: starEach es X.env := by rfl) (hpl : (backTo pos (starEach es X.env)).any (·.1) = false := by rfl) :
    VOq X W (.Call (.Name x p) (e :: es) [] pos) (oCall g fa) := by
  obtain ⟨t, pt, qt⟩ := ha.va.ex
  refine ⟨_, pe_callS F hr hg hm hk hb (fun σ => passAt tk σ) pt hdb he hpl, fun σ H F0 H0 Fz ρ Q r pr => ?_⟩
  obtain ⟨fps, s, hs⟩ := id r.ex
  have hl := ha.len (viewF ρ)
  unfold oCall at pr
  generalize hfa : fa (viewF ρ) = rr at pr hl
  cases rr with
  | stuck => exact pr.elim
  | err c => exact qt σ H Fz (viewF ρ) _ hs.fh s.rfF (by rw [hfa]; exact pr)
  | ok ds =>
    refine qt σ H Fz (viewF ρ) _ hs.fh s.rfF ?_
    rw [hfa]
    intro xs H1 F1 e1 dx
    refine ⟨by rw [IsAll.len dx]; exact hl ds rfl, ds, F1, e1.bh, dx, ?_⟩
    simp only [R.bind_ok] at pr
    generalize g ds = rg at pr ⊢
    cases rg with
    | stuck => exact pr
    | err c => exact fun H' z => pr H' (e1.hh.trans z)
    | ok o =>
      intro v H' F' rv
      have hv : Same H1 H' ∧ Same F1 F' := by
        obtain ⟨fp, _, hv⟩ := rv
        exact ⟨hv.h0, hv.f0⟩
      exact pr v H' F' (e1.hh.trans hv.1) (e1.bb.trans hv.2) ((r.ext e1).push rv)
theorem VOq.vo (h : VOq X W e ho) : VO X W e ho := by
  obtain ⟨t, p, q⟩ := h.ex
  exact ⟨t, p, fun σ H F0 H0 F ρ Q r pr => q σ H F0 H0 F ρ Q r (Pst.imp (fun p k v H' F' _ _ r' => k v H' F' r') pr)⟩
theorem vos_nil : VOs X W [] oNil := ⟨_, pa_nil, fun σ H F0 H0 F ρ Q r pr => pr [] H F rfl (Same.refl H) (Same.refl F) r⟩
theorem vos_cons (h1 : VOq X W e ho) (h2 : VOs X W es g) (hs : starEach (e :: es) X.env = (false, eval e X.env) :: starEach es X.env := by rfl) : VOs X W (e :: es) (oCons ho g) := by
  obtain ⟨t, p, q⟩ := h1.ex
  obtain ⟨t2, p2, q2⟩ := h2.ex
  refine ⟨_, pa_cons p p2 hs, fun σ H F0 H0 F ρ Q r pr => ?_⟩
  refine q σ H F0 H0 F ρ _ r ?_
  unfold oCons at pr
  generalize ho ρ = r1 at pr ⊢
  cases r1 with
  | stuck => exact pr
  | err c => exact pr
  | ok p1 =>
    simp only [R.bind_ok] at pr
    intro v H1 F1 s1 sf1 ra
    obtain ⟨Hc, rb, hc, back⟩ := ra.hold
    refine q2 σ H1 F1 Hc F1 p1.2 _ rb ?_
    generalize g p1.2 = r2 at pr ⊢
    cases r2 with
    | stuck => exact pr.elim
    | err c => exact fun H' z => pr H' (s1.trans z)
    | ok p2 =>
      intro vs H2 F2 hl s2 sf2 rc
      exact pr (v :: vs) H2 F2 (by simp [hl]) (s1.trans s2) (sf1.trans sf2) (back _ _ _ _ rc)
theorem voq_tup {x1 : Nat} (h : VOs X W es g) : VOq X W (.Tuple es x1 pos) (oTup g) := by
  obtain ⟨t, p, q⟩ := h.ex
  refine ⟨_, pe_tup p, fun σ H F0 H0 F ρ Q r pr => ?_⟩
  refine q σ H F0 H0 F ρ _ r ?_
  unfold oTup at pr
  generalize g ρ = rr at pr ⊢
  cases rr with
  | stuck => exact pr
  | err c => exact pr
  | ok p =>
    simp only [R.bind_ok] at pr
    split at pr
    · rename_i hz
      intro vs H1 F1 hl s1 sf1 r1
      refine ⟨by rw [hl]; exact Nat.le_trans hz (by decide), fun q hq => ?_⟩
      obtain ⟨fps, sl, hs⟩ := r1.ex
      obtain ⟨f1, f2, z1, z2, rfl⟩ := sl.gather hl
      have E := Ext.new (o := HO.tup vs) hs.fh hq
      have keep : ∀ a ∈ f1 ++ f2, upd H1 q (.tup vs) a = H1 a := fun a ha => upd_ne fun e => by
        subst e
        rcases List.mem_append.mp ha with m | m
        · obtain ⟨u, z, _⟩ := z1.lstAt _ m; rw [hq] at z; cases z
        · obtain ⟨u, z, _⟩ := z2.lstAt _ m; rw [hq] at z; cases z
      refine pr (.ref q) (upd H1 q (.tup vs)) (upd F1 q (.tup vs)) (s1.trans E.hh) (sf1.trans E.bb) ⟨f1 ++ f2, .ow (.tup upd_same (z1.keep E.bb fun a ha => keep a (List.mem_append_left _ ha))) (z2.keep E.bb fun a ha => keep a (List.mem_append_right _ ha)), hs.ext E sl.lstAt⟩
    · exact pr.elim
end
end VL

namespace VL
open PySem PySem.Spec PyProof.Rows L2
/-- an expression that changes nothing, not a slot either -/
structure VOn (X : Cx) (W : WX) (e : Expr) (h : OEnv → R O) : Prop where
  q : VOq X W e (fun ρ => (h ρ).bind fun o => .ok (o, ρ))
def nX (hx : OEnv → R PyData) : OEnv → R O := fun ρ => (hx ρ).bind fun d => .ok (.fz d)
def nFrF (f : PEnv → R (List PyData)) : OEnv → R O := fun ρ => (f (viewF ρ)).bind fun ds => .ok (.lst (ds.map O.fz))
def nCall (g : List PyData → R O) (fa : PEnv → R (List PyData)) : OEnv → R O := fun ρ => (fa (viewF ρ)).bind g
@[simp] theorem nX_ap (hx : OEnv → R PyData) (ρ : OEnv) : nX hx ρ = (hx ρ).bind fun d => .ok (.fz d) := rfl
@[simp] theorem nFrF_ap (f : PEnv → R (List PyData)) (ρ : OEnv) : nFrF f ρ = (f (viewF ρ)).bind fun ds => .ok (.lst (ds.map O.fz)) := rfl
@[simp] theorem nCall_ap (g : List PyData → R O) (fa : PEnv → R (List PyData)) (ρ : OEnv) : nCall g fa ρ = (fa (viewF ρ)).bind g := rfl
section
variable {X : Cx} {W : WX} {a b c e oe ce : Expr} {es : List Expr} {pos : Pos} {hx hk : OEnv → R PyData} {hp : OEnv → R (Nat × List Nat)} {ho : OEnv → R (O × OEnv)} {hn : OEnv → R O} {g : OEnv → R (List O × OEnv)} {f : PEnv → R (List PyData)} {k : Nat}
theorem von_x (g : VX X W e hx) : VOn X W e (nX hx) := ⟨by
  have : (fun ρ : OEnv => (nX hx ρ).bind fun o => R.ok (o, ρ)) = oX hx := by funext ρ; simp only [nX, R.bind_assoc, R.bind_ok]; rfl
  rw [this]; exact voq_x g⟩
theorem von_frF (g : VFr X W e f) : VOn X W e (nFrF f) := ⟨by
  have : (fun ρ : OEnv => (nFrF f ρ).bind fun o => R.ok (o, ρ)) = oFrF f := by funext ρ; simp only [nFrF, R.bind_assoc, R.bind_ok]; rfl
  rw [this]; exact voq_frF g⟩
theorem von_call {x : Str} {fad : Addr} {fd : FuncData} {ps : List Str} {n : Nat} {g : List PyData → R O} {fa : PEnv → R (List PyData)} {p : Pos} {e : Expr} (h : VOq X W (.Call (.Name x p) (e :: es) [] pos) (oCall g fa)) : VOn X W (.Call (.Name x p) (e :: es) [] pos) (nCall g fa) := ⟨by
  have : (fun ρ : OEnv => (nCall g fa ρ).bind fun o => R.ok (o, ρ)) = oCall g fa := by funext ρ; simp only [nCall, R.bind_assoc]; rfl
  rw [this]; exact h⟩
theorem VOn.ex (h : VOn X W e hn) : ∃ t, PE X e t ∧ ∀ σ H F0 H0 F ρ Q, RS X.K F0 H0 F H σ ρ → Pst X W σ H (fun o : O => ∀ v H' F', Same H H' → Same F F' → RS X.K F0 H0 F' H' (some v :: σ) (some o :: ρ) → Q v H') (hn ρ) → t σ H Q := by
  obtain ⟨t, p, q⟩ := h.q.ex
  refine ⟨t, p, fun σ H F0 H0 F ρ Q r pr => q σ H F0 H0 F ρ Q r ?_⟩
  show Pst X W σ H _ ((hn ρ).bind _)
  cases hr : hn ρ with
  | stuck => rw [hr] at pr; exact pr
  | err c => rw [hr] at pr; exact pr
  | ok o => rw [hr] at pr; exact pr
/-- the rule r of a method of lists changes the items by f -/
structure MutOk (r : V → List V → Hp → VK → Prop) (f : List O → O → Option (List O)) : Prop where
  ok : ∀ os oy os', f os oy = some os' → ∃ (tv : List V → V → List V) (to : List O → O → List O), Chg tv to ∧ to os oy = os' ∧ ∀ (a : Addr) (vs : List V) (y : V) (H : Hp) (Q : VK), H a = some (.lst vs) → vs.length = os.length → Q .non (upd H a (.lst (tv vs y))) → r (.ref a) [y] H Q
def fApp (os : List O) (y : O) : Option (List O) := if os.length < sizeLine then some (os ++ [y]) else none
theorem mut_app : MutOk rAppend fApp := ⟨fun os oy os' h => by
  unfold fApp at h
  split at h
  · rename_i hz
    cases h
    exact ⟨_, _, chg_app, rfl, fun a vs y H Q ha hl q => ⟨a, vs, y, rfl, rfl, ha, by rw [hl]; exact hz, q⟩⟩
  · cases h⟩
def sMutP (f : List O → O → Option (List O)) (hp : OEnv → R (Nat × List Nat)) (hn : OEnv → R O) : OEnv → SR := fun ρ => (hp ρ).sr ρ fun ip => match ρ[ip.1]? with
  | some (some o) => (match o.at ip.2 with
    | some (.lst os) => (hn ρ).sr ρ fun y => (match f os y with
      | some os' => .nx (ρ.set ip.1 (some (o.put ip.2 (.lst os'))))
      | none => .stuck)
    | _ => .stuck)
  | _ => .stuck
/-- the place at the time of the change -/
theorem VPl.go (h : VPl X W oe hp) : ∃ t, PE X oe t ∧ ∀ σ H F0 H0 F ρ Q (kk : Nat × List Nat → SR) (D : Ends), RS X.K F0 H0 F H σ ρ → SPst X W F0 H0 D ((hp ρ).sr ρ kk) →
    (∀ ip o v o', ρ[ip.1]? = some (some o) → σ[ip.1]? = some (some v) → o.at ip.2 = some o' → SPst X W F0 H0 D (kk ip) → ∀ v' H' F', Ext F H F' H' → Pth X.K F' H' v o ip.2 v' → Q v' H') →
    (∀ ip, SPst X W F0 H0 D (kk ip) → ∃ o o', ρ[ip.1]? = some (some o) ∧ o.at ip.2 = some o') → t σ H Q := by
  obtain ⟨t, p, q⟩ := h.ex
  refine ⟨t, p, fun σ H F0 H0 F ρ Q kk D r pr hq hd => q σ H F0 H0 F ρ Q r (sr_pst r pr fun ip po => ?_)⟩
  obtain ⟨o, o', e1, e2⟩ := hd ip po
  obtain ⟨v, ev⟩ := r.slot e1
  exact ⟨o, v, e1, ev, ⟨o', e2⟩, hq ip o v o' e1 ev e2 po⟩
theorem vs_mutP {r : V → List V → Hp → VK → Prop} {fm : List O → O → Option (List O)} (hm : MutOk r fm) (mk : ∀ {to te : TE}, PE X oe to → PE X e te → PE X ce (tBM X.K "list" r to (tCons te tNil))) (h1 : VPl X W oe hp) (h2 : VOn X W e hn)
    (hs : swapsWith ce none pos.line X.env = pure false := by rfl) : VS X W (.Expr ce pos) (sMutP fm hp hn) := by
  obtain ⟨t1, p1, q1⟩ := h1.go
  obtain ⟨t2, p2, q2⟩ := h2.ex
  refine ⟨_, ps_expr (mk p1 p2) hs, fun D σ H F0 H0 F ρ rs pr => ?_⟩
  unfold sMutP at pr
  refine q1 σ H F0 H0 F ρ _ _ D rs pr (fun ip o v o' e1 ev e2 po v' H1 F1 ex pt => ?_) (fun ip po => ?_)
  · rw [e1] at po
    simp only [e2] at po
    cases o' with
    | lst os =>
      simp only at po
      have r1 := rs.ext ex
      obtain ⟨v0, a0, vs0, g1, g2, g3, g4, _⟩ := r1.non.mutL e1 e2
      have g1' : σ[ip.1]? = some (some v0) := g1
      rw [ev] at g1'; cases g1'
      have ea := pt.det g2
      subst ea
      refine ⟨.inl ⟨rfl, _, .inl (.inl g3)⟩, ?_⟩
      refine q2 σ H1 F0 H0 F1 ρ _ r1 (sr_pst r1 po fun y po2 vy H2 F2 s2 sf2 r2 => ?_)
      cases hf : fm os y with
      | none => rw [hf] at po2; exact po2.elim
      | some os' =>
        rw [hf] at po2
        obtain ⟨tv, to, c, et, rr⟩ := hm.ok os y os' hf
        obtain ⟨v3, a3, vs3, k1, k2, k3, k4, k5⟩ := r2.mutL e1 e2
        have k1' : σ[ip.1]? = some (some v3) := k1
        rw [ev] at k1'; cases k1'
        have ea := (pt.mono s2 sf2).det k2
        cases ea
        refine rr a0 vs3 vy H2 _ k3 k4 ?_
        have := k5 c
        rw [et] at this
        exact po2 _ _ _ this
    | _ => exact po.elim
  · split at po
    · rename_i o eo
      split at po
      · rename_i os eo2; exact ⟨o, _, eo, eo2⟩
      · exact po.elim
    · exact po.elim
/-- a method without arguments -/
structure MutOk0 (r : V → List V → Hp → VK → Prop) (f : List O → Option (List O)) : Prop where
  ok : ∀ os os', f os = some os' → ∃ (tv : List V → V → List V) (to : List O → O → List O), Chg tv to ∧ to os (.fz .none) = os' ∧ ∀ (a : Addr) (vs : List V) (H : Hp) (Q : VK), H a = some (.lst vs) → vs.length = os.length → Q .non (upd H a (.lst (tv vs .non))) → r (.ref a) [] H Q
theorem chg_clr : Chg (fun _ _ => []) (fun _ _ => []) := ⟨fun h1 h2 => ⟨[], .nil, [], .refl _, List.nil_sublist _⟩⟩
theorem mut_clr : MutOk0 rClear (fun _ => some []) := ⟨fun os os' h => by cases h; exact ⟨_, _, chg_clr, rfl, fun a vs H Q ha hl q => ⟨a, vs, rfl, rfl, ha, q⟩⟩⟩
def sMut0 (f : List O → Option (List O)) (hp : OEnv → R (Nat × List Nat)) : OEnv → SR := fun ρ => (hp ρ).sr ρ fun ip => match ρ[ip.1]? with
  | some (some o) => (match o.at ip.2 with
    | some (.lst os) => (match f os with
      | some os' => .nx (ρ.set ip.1 (some (o.put ip.2 (.lst os'))))
      | none => .stuck)
    | _ => .stuck)
  | _ => .stuck
theorem vs_mut0 {r : V → List V → Hp → VK → Prop} {fm : List O → Option (List O)} (hm : MutOk0 r fm) (mk : ∀ {to : TE}, PE X oe to → PE X ce (tBM0 X.K "list" r to)) (h1 : VPl X W oe hp)
    (hs : swapsWith ce none pos.line X.env = pure false := by rfl) : VS X W (.Expr ce pos) (sMut0 fm hp) := by
  obtain ⟨t1, p1, q1⟩ := h1.go
  refine ⟨_, ps_expr (mk p1) hs, fun D σ H F0 H0 F ρ rs pr => ?_⟩
  unfold sMut0 at pr
  refine q1 σ H F0 H0 F ρ _ _ D rs pr (fun ip o v o' e1 ev e2 po v' H1 F1 ex pt => ?_) (fun ip po => ?_)
  · rw [e1] at po
    simp only [e2] at po
    cases o' with
    | lst os =>
      simp only at po
      have r1 := rs.ext ex
      obtain ⟨v0, a0, vs0, g1, g2, g3, g4, k5⟩ := r1.non.mutL e1 e2
      have g1' : σ[ip.1]? = some (some v0) := g1
      rw [ev] at g1'; cases g1'
      have ea := pt.det g2
      subst ea
      refine ⟨.inl ⟨rfl, _, .inl (.inl g3)⟩, ?_⟩
      cases hf : fm os with
      | none => rw [hf] at po; exact po.elim
      | some os' =>
        rw [hf] at po
        obtain ⟨tv, to, c, et, rr⟩ := hm.ok os os' hf
        refine rr a0 vs0 H1 _ g3 g4 ?_
        have := k5 c
        rw [et] at this
        exact po _ _ _ this
    | _ => exact po.elim
  · split at po
    · rename_i o eo
      split at po
      · rename_i os eo2; exact ⟨o, _, eo, eo2⟩
      · exact po.elim
    · exact po.elim
/-- x[..][k] = e -/
def sSetP (hp : OEnv → R (Nat × List Nat)) (hk : OEnv → R PyData) (h : OEnv → R (O × OEnv)) : OEnv → SR := fun ρ => (h ρ).sr ρ fun p => (hp p.2).sr p.2 fun ip => match p.2[ip.1]? with
  | some (some o) => (match o.at ip.2 with
    | some (.lst os) => (hk p.2).sr p.2 fun d => (match d with
      | .int j => (match ixN os.length j with
        | some n => .nx (p.2.set ip.1 (some (o.put ip.2 (.lst (os.set n p.1)))))
        | none => .stuck)
      | _ => .stuck)
    | _ => .stuck)
  | _ => .stuck
theorem vs_setP {p2 : Pos} (mk : ∀ {te to tk : TE}, PE X e te → PE X oe to → PE X b tk → PS X (.Assign [.Subscript oe b p2] e pos) (tAsg te (gSub to tk rSetL))) (h1 : VPl X W oe hp) (h2 : VX X W b hk) (h3 : VO X W e ho) :
    VS X W (.Assign [.Subscript oe b p2] e pos) (sSetP hp hk ho) := by
  obtain ⟨t1, p1, q1⟩ := h1.go
  obtain ⟨t2, pk, qk⟩ := h2.ex
  obtain ⟨t3, p3, q3⟩ := h3.ex
  refine ⟨_, mk p3 p1 pk, fun D σ H F0 H0 F ρ rs pr => ?_⟩
  unfold sSetP at pr
  refine q3 σ H F0 H0 F ρ _ rs (sr_pst rs pr fun py po y H1 F1 ry => ?_)
  have rt := ry.tail
  refine q1 σ H1 F0 H0 F1 py.2 _ _ D rt po (fun ip o v o' e1 ev e2 po v' H2 F2 ex pt => ?_) (fun ip po => ?_)
  · rw [e1] at po
    simp only [e2] at po
    cases o' with
    | lst os =>
      simp only at po
      have rt2 := rt.ext ex
      refine qk σ H2 F0 H0 F2 py.2 _ rt2 (sr_pst rt2 po fun d pd => ?_)
      intro iv H3 F3 ex3 di
      cases di <;> first | exact pd.elim | skip
      rename_i j
      simp only at pd
      cases hix : ixN os.length j with
      | none => rw [hix] at pd; exact pd.elim
      | some n =>
        rw [hix] at pd
        obtain ⟨v3, a3, vs3, k1, k2, k3, k4, k5⟩ := ((ry.ext ex).ext ex3).mutL e1 e2
        have k1' : σ[ip.1]? = some (some v3) := k1
        rw [ev] at k1'; cases k1'
        have ea := (pt.mono ex3.hh ex3.bb).det k2
        subst ea
        exact ⟨a3, vs3, j, n, rfl, rfl, k3, by rw [k4]; exact hix, pd _ _ _ (k5 (chg_set n))⟩
    | _ => exact po.elim
  · split at po
    · rename_i o eo
      split at po
      · rename_i os eo2; exact ⟨o, _, eo, eo2⟩
      · exact po.elim
    · exact po.elim
end
end VL

namespace VL
open PySem PySem.Spec PyProof.Rows L2
/-! ### a, b = a tuple of one's own -/
def setsT (ρ : OEnv) (bs : List (Nat × O)) : OEnv := bs.foldl (fun ρ b => ρ.set b.1 (some b.2)) ρ
@[simp] theorem setsT_nil (ρ : OEnv) : setsT ρ [] = ρ := rfl
@[simp] theorem setsT_cons (ρ : OEnv) (b : Nat × O) (bs : List (Nat × O)) : setsT ρ (b :: bs) = setsT (ρ.set b.1 (some b.2)) bs := rfl
theorem Slots.spread {K : PySem.W.Frag} {F H : Hp} {σ : L2.St} {ρ : OEnv} {f2 : List Addr} (s : Slots K F H σ ρ f2) : ∀ {vs : List V} {os : List O} {f1 : List Addr}, OwnL K F H vs os f1 → Slots K F H (vs.map some ++ σ) (os.map some ++ ρ) (f1 ++ f2)
  | _, _, _, .nil => s
  | _, _, _, .cons h1 h2 => by rw [List.append_assoc]; exact .ow h1 (Slots.spread s h2)
theorem RS.untup {K : PySem.W.Frag} {F0 H0 F H : Hp} {σ : L2.St} {ρ : OEnv} {v : V} {os : List O} (r : RS K F0 H0 F H (some v :: σ) (some (.tup os) :: ρ)) : ∃ a vs, v = .ref a ∧ F a = some (.tup vs) ∧ vs.length = os.length ∧ RS K F0 H0 F H (vs.map some ++ σ) (os.map some ++ ρ) := by
  obtain ⟨fps, s, hs⟩ := r.ex
  cases s with
  | ow h1 s =>
    cases h1 with
    | @tup a vs _ fp ha hl => exact ⟨a, vs, rfl, ha, hl.len, _, s.spread hl, hs⟩
theorem set_app {α : Type} (us : List α) (xs : List α) (i : Nat) (x : α) : (us ++ xs).set (us.length + i) x = us ++ xs.set i x := by
  rw [List.set_append, if_neg (by omega), Nat.add_sub_cancel_left]
theorem RS.setsT {K : PySem.W.Frag} {F0 H0 F H : Hp} : ∀ {is : List Nat} {vs : List V} {os : List O} {σ : L2.St} {ρ : OEnv}, vs.length = os.length → RS K F0 H0 F H (vs.map some ++ σ) (os.map some ++ ρ) → is.length = vs.length → RS K F0 H0 F H (setsV σ (is.zip vs)) (VL.setsT ρ (is.zip os))
  | [], [], [], σ, ρ, _, r, _ => r
  | i :: is, v :: vs, o :: os, σ, ρ, l, r, l2 => by
    have r1 := RS.put (σ := vs.map some ++ σ) (ρ := os.map some ++ ρ) r (vs.length + i)
    have e1 : (vs.map some ++ σ).set (vs.length + i) (some v) = vs.map some ++ σ.set i (some v) := by
      have := set_app (vs.map some) σ i (some v); rw [List.length_map] at this; exact this
    have e2 : (os.map some ++ ρ).set (vs.length + i) (some o) = os.map some ++ ρ.set i (some o) := by
      have := set_app (os.map some) ρ i (some o); rw [List.length_map, ← show vs.length = os.length by simpa using l] at this; exact this
    rw [e1, e2] at r1
    exact RS.setsT (is := is) (vs := vs) (os := os) (σ := σ.set i (some v)) (ρ := ρ.set i (some o)) (by simpa using l) r1 (by simpa using l2)
  | [], _ :: _, _, _, _, _, _, l2 => by simp at l2
  | _ :: _, [], _, _, _, _, _, l2 => by simp at l2
  | [], [], _ :: _, _, _, l, _, _ => by simp at l
  | _ :: _, _ :: _, [], _, _, l, _, _ => by simp at l
/-- targets that are names -/
structure VGN (X : Cx) (ts : List Expr) (is : List Nat) : Prop where
  ex : ∃ t, PGs X ts t ∧ ∀ vs σ H Q, vs.length = is.length → Q (setsV σ (is.zip vs)) H → t vs σ H Q
section
variable {X : Cx} {W : WX} {a b c e oe ce : Expr} {es : List Expr} {pos : Pos} {hx hk : OEnv → R PyData} {hp : OEnv → R (Nat × List Nat)} {ho : OEnv → R (O × OEnv)} {hn : OEnv → R O} {is : List Nat} {k : Nat}
theorem vgn_nil : VGN X [] [] := ⟨_, pgs_nil, fun vs σ H Q l q => by
  cases vs with
  | nil => exact ⟨rfl, q⟩
  | cons v vs => simp at l⟩
theorem vgn_cons (i : Nat) {x : Str} (hN : X.N.Nodup) (h2 : VGN X es is) (hi : X.N[i]? = some x := by rfl) (hx : Loc X.env.scope x := by first | exact Or.inl rfl | exact Or.inr rfl) (hf : X.fn x = true ∨ X.env.scope.names.lookup x = some .local := by first | exact .inl rfl | exact .inr rfl) (hs : (assignEach (.Name x pos :: es) X.env).map (·.2) = assign (.Name x pos) X.env :: (assignEach es X.env).map (·.2) := by rfl) : VGN X (.Name x pos :: es) (i :: is) := by
  obtain ⟨t2, p2, q2⟩ := h2.ex
  refine ⟨_, pgs_cons (pg_name hN hi hx hf) p2 hs, fun vs σ H Q l q => ?_⟩
  cases vs with
  | nil => simp at l
  | cons v vs => exact ⟨v, vs, rfl, q2 vs (σ.set i (some v)) H Q (by simpa using l) q⟩
def sTupN (is : List Nat) (ho : OEnv → R (O × OEnv)) : OEnv → SR := fun ρ => (ho ρ).sr ρ fun p => match p.1 with
  | .tup os => if os.length = is.length then .nx (VL.setsT p.2 (is.zip os)) else .stuck
  | .fz (.tuple ds) => if ds.length = is.length then .nx (setsO p.2 (is.zip ds)) else .stuck
  | .fz (.list ds) => if ds.length = is.length then .nx (setsO p.2 (is.zip ds)) else .stuck
  | _ => .stuck
@[simp] theorem sTupN_ap (is : List Nat) (ho : OEnv → R (O × OEnv)) (ρ : OEnv) : sTupN is ho ρ = (ho ρ).sr ρ fun p => match p.1 with
  | .tup os => if os.length = is.length then .nx (VL.setsT p.2 (is.zip os)) else .stuck
  | .fz (.tuple ds) => if ds.length = is.length then .nx (setsO p.2 (is.zip ds)) else .stuck
  | .fz (.list ds) => if ds.length = is.length then .nx (setsO p.2 (is.zip ds)) else .stuck
  | _ => .stuck := rfl
theorem bds_zip {K : PySem.W.Frag} {B : Hp} : ∀ {is : List Nat} {vs : List V} {ds : List PyData}, IsAll K B vs ds → Bds K B (is.zip vs) (is.zip ds)
  | [], _, _, h => by simp; exact .nil
  | i :: is, _, _, .nil => by simp; exact .nil
  | i :: is, _, _, .cons h1 h2 => .cons ⟨rfl, h1⟩ (bds_zip h2)
theorem vs_tupN {n k : Nat} {p2 : Pos} (hc : X.calm = true) (hg : VGN X es is) (he : VO X W e ho) (hn : (assignEach es X.env).length = n := by rfl) (hst : (assignEach es X.env).findIdx? (·.1) = none := by rfl) (hl : is.length = n := by rfl)
    (h1 : swapsWithSole [.Tuple es k p2] e pos.line X.env = pure false := by rfl) (h2 : swappedStores [.Tuple es k p2] e X.env = pure none := by rfl) (h3 : (assignEach [.Tuple es k p2] X.env).map (·.2) = [assign (.Tuple es k p2) X.env] := by rfl) :
    VS X W (.Assign [.Tuple es k p2] e pos) (sTupN is ho) := by
  obtain ⟨t, p, q⟩ := he.ex
  obtain ⟨tg, pg, qg⟩ := hg.ex
  refine ⟨_, ps_asg p (pg_or (pg_tup hc pg hn hst) (pg_lst hc pg hn hst)) h1 h2 h3, fun D σ H F0 H0 F ρ r pr => ?_⟩
  unfold sTupN at pr
  refine q σ H F0 H0 F ρ _ r (sr_pst r pr fun o po v H' F' r' => ?_)
  obtain ⟨o, ρ2⟩ := o
  simp only at po r'
  split at po
  · rename_i os
    split at po
    · rename_i hz
      obtain ⟨a, vs, rfl, ha, hlen, r2⟩ := r'.untup
      obtain ⟨_, _, hs⟩ := r'.ex
      refine .inl ⟨a, vs, rfl, .inl (.inl (hs.fh _ _ ha)), by rw [hlen, hz]; exact hl, ?_⟩
      exact qg vs σ H' _ (by rw [hlen, hz]) (po _ _ _ (RS.setsT hlen r2 (by rw [hlen, hz])))
    · exact po.elim
  · rename_i ds
    split at po
    · rename_i hz
      obtain ⟨fps, sl, hs⟩ := id r'.ex
      cases sl with
      | ow h1 s =>
        cases h1 with
        | fz hd =>
          cases hd with
          | @tup a vs _ ht ha =>
            refine .inl ⟨a, vs, rfl, Same.tupl hs.fh ht, by rw [ha.len, hz]; exact hl, ?_⟩
            exact qg vs σ H' _ (by rw [ha.len, hz]) (po _ _ _ (RS.sets r'.tail (bds_zip ha)))
    · exact po.elim
  · rename_i ds
    split at po
    · rename_i hz
      obtain ⟨fps, sl, hs⟩ := id r'.ex
      cases sl with
      | ow h1 s =>
        cases h1 with
        | fz hd =>
          cases hd with
          | @lst a vs _ ht ha =>
            refine .inr ⟨a, vs, rfl, .inl (Rd.mono hs.fh ht), by rw [ha.len, hz]; exact hl, ?_⟩
            exact qg vs σ H' _ (by rw [ha.len, hz]) (po _ _ _ (RS.sets r'.tail (bds_zip ha)))
    · exact po.elim
  · exact po.elim
/-! ### x[..].insert(i, e) -/
theorem OwnL.takeP {K : PySem.W.Frag} {F H : Hp} : ∀ {os : List O} {vs : List V} {fp : List Addr} (n : Nat), OwnL K F H vs os fp → ∃ f1 f2, OwnL K F H (vs.take n) (os.take n) f1 ∧ OwnL K F H (vs.drop n) (os.drop n) f2 ∧ fp = f1 ++ f2
  | _, _, _, 0, h => ⟨[], _, by simp; exact .nil, by simpa using h, rfl⟩
  | _, _, _, n + 1, .nil => ⟨[], [], by simp; exact .nil, by simp; exact .nil, rfl⟩
  | _, _, _, n + 1, .cons h1 h2 => by
    obtain ⟨f1, f2, z1, z2, rfl⟩ := OwnL.takeP n h2
    exact ⟨_ ++ f1, f2, .cons h1 z1, z2, by rw [List.append_assoc]⟩
theorem chg_ins (n : Nat) : Chg (fun vs y => vs.take n ++ [y] ++ vs.drop n) (fun os o => os.take n ++ [o] ++ os.drop n) := ⟨fun {K F H vs os y o fp fpo} h1 h2 => by
  obtain ⟨f1, f2, z1, z2, rfl⟩ := h1.takeP n
  have w : OwnL K F H [y] [o] (fpo ++ []) := .cons h2 .nil
  rw [List.append_nil] at w
  refine ⟨(f1 ++ fpo) ++ f2, (z1.append w).append z2, (f1 ++ f2) ++ fpo, ?_, .refl _⟩
  rw [List.append_assoc, List.append_assoc]
  exact List.Perm.append_left f1 List.perm_append_comm⟩
def insAt {α : Type} (xs : List α) (n : Nat) (y : α) : List α := xs.take n ++ [y] ++ xs.drop n
def sInsP (hp : OEnv → R (Nat × List Nat)) (hk : OEnv → R PyData) (hn : OEnv → R O) : OEnv → SR := fun ρ => (hp ρ).sr ρ fun ip => match ρ[ip.1]? with
  | some (some o) => (match o.at ip.2 with
    | some (.lst os) => (hk ρ).sr ρ fun d => (hn ρ).sr ρ fun y => (match d with
      | .int j => if 0 ≤ j ∧ j < 16777216 ∧ os.length < sizeLine then .nx (ρ.set ip.1 (some (o.put ip.2 (.lst (insAt os j.toNat y))))) else .stuck
      | _ => .stuck)
    | _ => .stuck)
  | _ => .stuck
theorem vs_insP (mk : ∀ {to tk te : TE}, PE X oe to → PE X b tk → PE X e te → PE X ce (tBM X.K "list" (fun x vs H Q => ∃ (l : Addr) (xs : List V) (i : Int) (y : V), x = .ref l ∧ vs = [.int i, y] ∧ H l = some (.lst xs) ∧ xs.length < sizeLine ∧ 0 ≤ i ∧ i < 2 ^ 63 ∧ Q .non (upd H l (.lst (xs.take i.toNat ++ [y] ++ xs.drop i.toNat)))) to (tCons tk (tCons te tNil)))) (h1 : VPl X W oe hp) (h2 : VX X W b hk) (h3 : VOn X W e hn)
    (hs : swapsWith ce none pos.line X.env = pure false := by rfl) : VS X W (.Expr ce pos) (sInsP hp hk hn) := by
  obtain ⟨t1, p1, q1⟩ := h1.go
  obtain ⟨t2, p2, q2⟩ := h2.ex
  obtain ⟨t3, p3, q3⟩ := h3.ex
  refine ⟨_, ps_expr (mk p1 p2 p3) hs, fun D σ H F0 H0 F ρ rs pr => ?_⟩
  unfold sInsP at pr
  refine q1 σ H F0 H0 F ρ _ _ D rs pr (fun ip o v o' e1 ev e2 po v' H1 F1 ex pt => ?_) (fun ip po => ?_)
  · rw [e1] at po
    simp only [e2] at po
    cases o' with
    | lst os =>
      simp only at po
      have r1 := rs.ext ex
      obtain ⟨v0, a0, vs0, g1, g2, g3, g4, _⟩ := r1.non.mutL e1 e2
      have g1' : σ[ip.1]? = some (some v0) := g1
      rw [ev] at g1'; cases g1'
      have ea := pt.det g2
      subst ea
      refine ⟨.inl ⟨rfl, _, .inl (.inl g3)⟩, ?_⟩
      refine q2 σ H1 F0 H0 F1 ρ _ r1 (sr_pst r1 po fun d po1 => ?_)
      intro iv H2 F2 ex2 di
      have r2 := r1.ext ex2
      refine q3 σ H2 F0 H0 F2 ρ _ r2 (sr_pst r2 po1 fun y po2 vy H3 F3 s3 sf3 r3 => ?_)
      cases di <;> first | exact po2.elim | skip
      rename_i j
      simp only at po2
      split at po2
      · rename_i hc
        obtain ⟨v3, a3, vs3, k1, k2, k3, k4, k5⟩ := r3.mutL e1 e2
        have k1' : σ[ip.1]? = some (some v3) := k1
        rw [ev] at k1'; cases k1'
        have ea := ((pt.mono ex2.hh ex2.bb).mono s3 sf3).det k2
        cases ea
        exact ⟨a0, vs3, j, vy, rfl, rfl, k3, by rw [k4]; exact hc.2.2, hc.1, Int.lt_trans hc.2.1 (by decide), po2 _ _ _ (k5 (chg_ins j.toNat))⟩
      · exact po2.elim
    | _ => exact po.elim
  · split at po
    · rename_i o eo
      split at po
      · rename_i os eo2; exact ⟨o, _, eo, eo2⟩
      · exact po.elim
    · exact po.elim
end
end VL

namespace VL
open PySem PySem.Spec PyProof.Rows L2
open Enc (e)
/-! ### typed: tuples and perhaps-nothing of one's own -/
section
variable {α β γ δ : Type}
abbrev oT1 (f : α → O) (p : T1 α) : O := .tup [f p.a]
abbrev oT2 (f : α → O) (g : β → O) (p : α × β) : O := .tup [f p.1, g p.2]
abbrev oT3 (f : α → O) (g : β → O) (h : γ → O) (p : T3 α β γ) : O := .tup [f p.a, g p.b, h p.c]
abbrev oT4 (f : α → O) (g : β → O) (h : γ → O) (i : δ → O) (p : T4 α β γ δ) : O := .tup [f p.a, g p.b, h p.c, i p.d]
def oO (f : α → O) : Option α → O
  | none => .fz .none
  | some a => f a
theorem dT2 [Enc α] [Enc β] {f : α → O} {g : β → O} (hf : ∀ a, O.data (f a) = e a) (hg : ∀ a, O.data (g a) = e a) (p : α × β) : O.data (oT2 f g p) = e p := by
  show O.data (.tup _) = PyData.tuple [e p.1, e p.2]
  rw [O.data_tup]; simp only [List.map, hf, hg]
theorem dT3 [Enc α] [Enc β] [Enc γ] {f : α → O} {g : β → O} {h : γ → O} (hf : ∀ a, O.data (f a) = e a) (hg : ∀ a, O.data (g a) = e a) (hh : ∀ a, O.data (h a) = e a) (p : T3 α β γ) : O.data (oT3 f g h p) = e p := by
  show O.data (.tup _) = PyData.tuple [e p.a, e p.b, e p.c]
  rw [O.data_tup]; simp only [List.map, hf, hg, hh]
theorem dT4 [Enc α] [Enc β] [Enc γ] [Enc δ] {f : α → O} {g : β → O} {h : γ → O} {i : δ → O} (hf : ∀ a, O.data (f a) = e a) (hg : ∀ a, O.data (g a) = e a) (hh : ∀ a, O.data (h a) = e a) (hi : ∀ a, O.data (i a) = e a) (p : T4 α β γ δ) : O.data (oT4 f g h i p) = e p := by
  show O.data (.tup _) = PyData.tuple [e p.a, e p.b, e p.c, e p.d]
  rw [O.data_tup]; simp only [List.map, hf, hg, hh, hi]
theorem dO [Enc α] {f : α → O} (hf : ∀ a, O.data (f a) = e a) : ∀ o : Option α, O.data (oO f o) = e o
  | none => O.data_fz _
  | some a => hf a
variable {ρ ρ1 ρ2 ρ3 ρ4 : OEnv} {h1 h2 h3 h4 : OEnv → R (O × OEnv)} {f1 : α → O} {f2 : β → O} {f3 : γ → O} {f4 : δ → O}
theorem TQ.mk {γ' : Type} {f : α → γ'} {x : R γ'} {t : R α} (h : ∀ a, t = .ok a → x = .ok (f a)) (h' : ∀ c, t = .err c → x = .err c) : TQ f x t := by
  cases t with
  | stuck => trivial
  | err c => exact h' c rfl
  | ok a => exact h a rfl
theorem p_tup2 {s : R α} {t : R β} (q1 : TQ (fun a => (f1 a, ρ1)) (h1 ρ) s) (q2 : TQ (fun a => (f2 a, ρ2)) (h2 ρ1) t) : TQ (fun p => (oT2 f1 f2 p, ρ2)) (oTup (oCons h1 (oCons h2 oNil)) ρ) (b2 mk2 s t) := by
  simp only [oTup_ap, oCons_ap, oNil_ap, R.bind_assoc, R.bind_ok]
  refine q1.bind fun a => q2.bind fun b => ?_
  exact if_pos (by simp)
theorem p_tup3 {s : R α} {t : R β} {u : R γ} (q1 : TQ (fun a => (f1 a, ρ1)) (h1 ρ) s) (q2 : TQ (fun a => (f2 a, ρ2)) (h2 ρ1) t) (q3 : TQ (fun a => (f3 a, ρ3)) (h3 ρ2) u) : TQ (fun p => (oT3 f1 f2 f3 p, ρ3)) (oTup (oCons h1 (oCons h2 (oCons h3 oNil))) ρ) (b3 mk3 s t u) := by
  simp only [oTup_ap, oCons_ap, oNil_ap, R.bind_assoc, R.bind_ok]
  refine q1.bind fun a => q2.bind fun b => q3.bind fun c => ?_
  exact if_pos (by simp)
theorem p_tup4 {s : R α} {t : R β} {u : R γ} {w : R δ} (q1 : TQ (fun a => (f1 a, ρ1)) (h1 ρ) s) (q2 : TQ (fun a => (f2 a, ρ2)) (h2 ρ1) t) (q3 : TQ (fun a => (f3 a, ρ3)) (h3 ρ2) u) (q4 : TQ (fun a => (f4 a, ρ4)) (h4 ρ3) w) : TQ (fun p => (oT4 f1 f2 f3 f4 p, ρ4)) (oTup (oCons h1 (oCons h2 (oCons h3 (oCons h4 oNil)))) ρ) (b4 mk4 s t u w) := by
  simp only [oTup_ap, oCons_ap, oNil_ap, R.bind_assoc, R.bind_ok]
  refine q1.bind fun a => q2.bind fun b => q3.bind fun c => q4.bind fun d => ?_
  exact if_pos (by simp)
/-- a value comes as perhaps-nothing -/
theorem p_some {s : R α} (q : TQ (fun a => (f1 a, ρ1)) (h1 ρ) s) : TQ (fun a => (oO f1 a, ρ1)) (h1 ρ) (b1 cJust s) := by
  cases s with
  | stuck => trivial
  | err c => exact q
  | ok a => exact q
theorem p_none {s : R Unit} (q : TQ (fun a : Unit => (oF a, ρ1)) (h1 ρ) s) : TQ (fun a => (oO f1 a, ρ1)) (h1 ρ) (b1 cNone s) := by
  cases s with
  | stuck => trivial
  | err c => exact q
  | ok a => exact q
/-! ### typed: values that leave the slots -/
variable {hn : OEnv → R O}
theorem n_x [Enc α] {h : OEnv → R PyData} {s : R α} (hs : TEq (h ρ) s) : TQ (oF : α → O) (nX h ρ) s := by
  cases s with
  | stuck => trivial
  | err c => show (h ρ).bind _ = _; rw [show h ρ = .err c from hs]; rfl
  | ok a => show (h ρ).bind _ = _; rw [show h ρ = .ok (e a) from hs]; rfl
theorem n_frF [Enc α] {f : PEnv → R (List PyData)} {s : R (List α)} (hs : TL (f (viewF ρ)) s) : TQ (oL oF : List α → O) (nFrF f ρ) s := by
  cases s with
  | stuck => trivial
  | err c => show (f (viewF ρ)).bind _ = _; rw [show f (viewF ρ) = .err c from hs]; rfl
  | ok a => show (f (viewF ρ)).bind _ = _; rw [show f (viewF ρ) = .ok (a.map e) from hs]; show R.ok _ = R.ok _; rw [List.map_map]; rfl
/-! ### typed: places -/
/-- a list at a place of a typed value -/
structure LQ (ox : α → O) (p : List Nat) (get : α → Option (List β)) (oe : β → O) (set : α → List β → α) : Prop where
  g : ∀ x ys, get x = some ys → (ox x).at p = some (oL oe ys)
  s : ∀ x ys zs, get x = some ys → (ox x).put p (oL oe zs) = ox (set x zs)
theorem lq_self {oe : β → O} : LQ (oL oe) [] some oe (fun _ zs => zs) := ⟨fun x ys h => by cases h; rfl, fun x ys zs h => rfl⟩
theorem lq_idx {oe : β → O} (n : Nat) : LQ (oL (oL oe)) [n] (fun x => x[n]?) oe (fun x zs => x.set n zs) := ⟨fun x ys h => by
  show (match (x.map (oL oe))[n]? with | some x => O.at x [] | none => none) = _
  rw [List.getElem?_map, h]; rfl, fun x ys zs h => by
  show (match (x.map (oL oe))[n]? with | some y => (O.lst (x.map (oL oe))).setKid n (O.put y [] (oL oe zs)) | none => _) = _
  rw [List.getElem?_map, h]
  show O.lst ((x.map (oL oe)).set n (oL oe zs)) = O.lst ((x.set n zs).map (oL oe))
  rw [List.map_set]⟩
theorem lq_21 {oe : β → O} {f2 : γ → O} : LQ (oT2 (oL oe) f2) [0] (fun x => some x.1) oe (fun x zs => (zs, x.2)) := ⟨fun x ys h => by cases h; rfl, fun x ys zs h => rfl⟩
theorem lq_22 {oe : β → O} {f2 : γ → O} : LQ (oT2 f2 (oL oe)) [1] (fun x => some x.2) oe (fun x zs => (x.1, zs)) := ⟨fun x ys h => by cases h; rfl, fun x ys zs h => rfl⟩
theorem lq_31 {oe : β → O} {f2 : γ → O} {f3 : δ → O} : LQ (oT3 (oL oe) f2 f3) [0] (fun x => some x.a) oe (fun x zs => ⟨zs, x.b, x.c⟩) := ⟨fun x ys h => by cases h; rfl, fun x ys zs h => rfl⟩
theorem lq_32 {oe : β → O} {f2 : γ → O} {f3 : δ → O} : LQ (oT3 f2 (oL oe) f3) [1] (fun x => some x.b) oe (fun x zs => ⟨x.a, zs, x.c⟩) := ⟨fun x ys h => by cases h; rfl, fun x ys zs h => rfl⟩
theorem lq_33 {oe : β → O} {f2 : γ → O} {f3 : δ → O} : LQ (oT3 f2 f3 (oL oe)) [2] (fun x => some x.c) oe (fun x zs => ⟨x.a, x.b, zs⟩) := ⟨fun x ys h => by cases h; rfl, fun x ys zs h => rfl⟩
theorem lq_O {oe : β → O} : LQ (oO (oL oe)) [] id oe (fun _ zs => some zs) := ⟨fun x ys h => by
  have h : x = some ys := h
  subst h; rfl, fun x ys zs h => rfl⟩
theorem l_var (i : Nat) {ox : α → O} (x : α) (hl : lentP (ox x) = [] := by rfl) (h : ρ[i]? = some (some (ox x)) := by rfl) : TQ (fun _ : Unit => (i, ([] : List Nat))) (pVar i ρ) (.ok ()) := by
  show pVar i ρ = _
  unfold pVar; rw [h]; simp only [hl]
def tix (n : Nat) (j : Int) : R Nat := match ixN n j with | some k => .ok k | none => .stuck
theorem l_idx (i : Nat) {oe : β → O} (x : List β) {hk : OEnv → R PyData} {t : R Int} (hj : TEq (hk ρ) t) (h : ρ[i]? = some (some (oL oe x)) := by rfl) : TQ (fun n : Nat => (i, [n])) (pIdx (pVar i) hk ρ) (t.bind fun j => tix x.length j) := by
  have e1 : pVar i ρ = .ok (i, []) := by unfold pVar; rw [h]; rfl
  unfold pIdx
  rw [e1]
  simp only [R.bind_ok, h]
  show TQ _ (R.bind (hk ρ) (pIx1 (i, []) (x.map oe).length)) _
  refine hj.bind fun j => ?_
  show TQ _ (match ixN (x.map oe).length j with | some k => _ | none => _) _
  rw [List.length_map]
  unfold tix
  cases ixN x.length j with
  | none => trivial
  | some k => exact rfl
theorem l_idxT (i n : Nat) {x : O} {os : List O} {hk : OEnv → R PyData} (hx : x = .tup os) {j : Int} (hj : hk ρ = .ok (.int j)) (hn : ixN os.length j = some n) (h : ρ[i]? = some (some x)) : TQ (fun _ : Unit => (i, [n])) (pIdx (pVar i) hk ρ) (.ok ()) := by
  subst hx
  have e1 : pVar i ρ = .ok (i, []) := by unfold pVar; rw [h]; rfl
  show pIdx (pVar i) hk ρ = _
  unfold pIdx
  rw [e1]
  simp only [R.bind_ok, h]
  show R.bind (hk ρ) (pIx1 (i, []) os.length) = _
  rw [hj]
  show (match ixN os.length j with | some k => R.ok ((i, []).1, (i, []).2 ++ [k]) | none => R.stuck) = _
  rw [hn]; rfl
end
section
variable {β l σ τ α γ ι : Type} {E : σ → OEnv → Prop} {L : l → OEnv → Prop} {er : O → β → Prop} {Z : OEnv → Prop} {ρ : OEnv} {g h k g1 : OEnv → SR}
/-- a list at a place, changed -/
def tmutP {α γ δ : Type} (get : α → Option (List γ)) (set : α → List γ → α) (x : α) (f : List γ → R (List γ)) : R α := match get x with
  | some ys => (f ys).bind fun zs => .ok (set x zs)
  | none => .stuck
@[simp] theorem tmutP_some {α γ : Type} {get : α → Option (List γ)} {set : α → List γ → α} {x : α} {f : List γ → R (List γ)} {ys : List γ} (h : get x = some ys) : tmutP (δ := Unit) get set x f = (f ys).bind fun zs => .ok (set x zs) := by unfold tmutP; rw [h]
def tfd {γ β l σ : Type} (o : Option γ) (f : γ → TR β l σ) : TR β l σ := match o with
  | some y => f y
  | none => .stuck
@[simp] theorem tfd_some {γ β l σ : Type} (y : γ) (f : γ → TR β l σ) : tfd (some y) f = f y := rfl
theorem q_appP {ox : α → O} {oe : γ → O} {hp : OEnv → R (Nat × List Nat)} {hn : OEnv → R O} {t : R ι} {u : R γ} {ll : α → TR β l σ} (i : Nat) {p : ι → List Nat} {get : ι → α → Option (List γ)} {set : ι → α → List γ → α} (x : α) (hl : ∀ n, LQ ox (p n) (get n) oe (set n)) (h1 : TQ (fun n => (i, p n)) (hp ρ) t) (h2 : TQ oe (hn ρ) u) (z : Z ρ) (hr : ∀ y, SQ E L er Z (k (ρ.set i (some (ox y)))) (ll y)) (hi : ρ[i]? = some (some (ox x)) := by rfl) :
    SQ E L er Z (seq (sMutP fApp hp hn) k ρ) (t.tr fun n => tfd (get n x) fun ys => u.tr fun a => (tapp ys a).tr fun zs => ll (set n x zs)) := by
  show SQ E L er Z (SR.seq (R.sr _ _ _) k) _
  rw [seq_sr]
  refine SQ.sr h1 z fun n => ?_
  simp only [hi]
  cases hg : get n x with
  | none => trivial
  | some ys =>
    rw [(hl n).g x ys hg]
    simp only
    rw [seq_sr]
    refine SQ.sr h2 z fun a => ?_
    unfold tapp fApp
    simp only [List.length_map, szL]
    by_cases hz : ys.length < 16777216
    · simp only [if_pos hz]
      show SQ _ _ _ _ (k _) (ll (set n x (ys ++ [a])))
      have e1 := (hl n).s x ys (ys ++ [a]) hg
      rw [show oL oe (ys ++ [a]) = O.lst (ys.map oe ++ [oe a]) by simp [oL]] at e1
      rw [e1]
      exact hr _
    · simp only [if_neg hz]; trivial
theorem q_clrP {ox : α → O} {oe : γ → O} {hp : OEnv → R (Nat × List Nat)} {t : R ι} {ll : α → TR β l σ} (i : Nat) {p : ι → List Nat} {get : ι → α → Option (List γ)} {set : ι → α → List γ → α} (x : α) (hl : ∀ n, LQ ox (p n) (get n) oe (set n)) (h1 : TQ (fun n => (i, p n)) (hp ρ) t) (z : Z ρ) (hr : ∀ y, SQ E L er Z (k (ρ.set i (some (ox y)))) (ll y)) (hi : ρ[i]? = some (some (ox x)) := by rfl) :
    SQ E L er Z (seq (sMut0 (fun _ => some []) hp) k ρ) (t.tr fun n => tfd (get n x) fun ys => ll (set n x [])) := by
  show SQ E L er Z (SR.seq (R.sr _ _ _) k) _
  rw [seq_sr]
  refine SQ.sr h1 z fun n => ?_
  simp only [hi]
  cases hg : get n x with
  | none => trivial
  | some ys =>
    rw [(hl n).g x ys hg]
    simp only
    have e1 := (hl n).s x ys [] hg
    show SQ _ _ _ _ (k _) _
    rw [show O.lst [] = oL oe [] from rfl, e1]
    exact hr _
theorem q_setP {ox : α → O} {oe : γ → O} {hp : OEnv → R (Nat × List Nat)} {hk : OEnv → R PyData} {ho : OEnv → R (O × OEnv)} {t : R ι} {u : R γ} {w : R Int} {ll : α → TR β l σ} (i : Nat) {p : ι → List Nat} {get : ι → α → Option (List γ)} {set : ι → α → List γ → α} (x : α) (hl : ∀ n, LQ ox (p n) (get n) oe (set n)) (h0 : TQ (fun a => (oe a, ρ)) (ho ρ) u) (h1 : TQ (fun n => (i, p n)) (hp ρ) t) (h2 : TEq (hk ρ) w) (z : Z ρ) (hr : ∀ y, SQ E L er Z (k (ρ.set i (some (ox y)))) (ll y)) (hi : ρ[i]? = some (some (ox x)) := by rfl) :
    SQ E L er Z (seq (sSetP hp hk ho) k ρ) (u.tr fun a => t.tr fun n => tfd (get n x) fun ys => w.tr fun j => (tset ys j a).tr fun zs => ll (set n x zs)) := by
  show SQ E L er Z (SR.seq (R.sr _ _ _) k) _
  rw [seq_sr]
  refine SQ.sr h0 z fun a => ?_
  rw [seq_sr]
  refine SQ.sr h1 z fun n => ?_
  simp only [hi]
  cases hg : get n x with
  | none => trivial
  | some ys =>
    rw [(hl n).g x ys hg]
    simp only
    rw [seq_sr]
    refine SQ.sr h2 z fun j => ?_
    unfold tset
    show SQ _ _ _ _ (SR.seq (match ixN (ys.map oe).length j with | some m => _ | none => _) k) _
    rw [List.length_map]
    cases ixN ys.length j with
    | none => trivial
    | some m =>
      have e1 := (hl n).s x ys (ys.set m a) hg
      rw [show oL oe (ys.set m a) = O.lst ((ys.map oe).set m (oe a)) by simp [oL, List.map_set]] at e1
      show SQ _ _ _ _ (k _) (ll (set n x (ys.set m a)))
      rw [e1]
      exact hr _
def tins {α : Type} (xs : List α) (j : Int) (a : α) : R (List α) := if 0 ≤ j ∧ j < 16777216 ∧ xs.length < 16777216 then .ok (insAt xs j.toNat a) else .stuck
theorem q_insP {ox : α → O} {oe : γ → O} {hp : OEnv → R (Nat × List Nat)} {hk : OEnv → R PyData} {hn : OEnv → R O} {t : R ι} {u : R γ} {w : R Int} {ll : α → TR β l σ} (i : Nat) {p : ι → List Nat} {get : ι → α → Option (List γ)} {set : ι → α → List γ → α} (x : α) (hl : ∀ n, LQ ox (p n) (get n) oe (set n)) (h1 : TQ (fun n => (i, p n)) (hp ρ) t) (h2 : TEq (hk ρ) w) (h3 : TQ oe (hn ρ) u) (z : Z ρ) (hr : ∀ y, SQ E L er Z (k (ρ.set i (some (ox y)))) (ll y)) (hi : ρ[i]? = some (some (ox x)) := by rfl) :
    SQ E L er Z (seq (sInsP hp hk hn) k ρ) (t.tr fun n => tfd (get n x) fun ys => w.tr fun j => u.tr fun a => (tins ys j a).tr fun zs => ll (set n x zs)) := by
  show SQ E L er Z (SR.seq (R.sr _ _ _) k) _
  rw [seq_sr]
  refine SQ.sr h1 z fun n => ?_
  simp only [hi]
  cases hg : get n x with
  | none => trivial
  | some ys =>
    rw [(hl n).g x ys hg]
    simp only
    rw [seq_sr]
    refine SQ.sr h2 z fun j => ?_
    rw [seq_sr]
    refine SQ.sr h3 z fun a => ?_
    unfold tins
    show SQ _ _ _ _ (SR.seq (if 0 ≤ j ∧ j < 16777216 ∧ (ys.map oe).length < sizeLine then _ else _) k) _
    rw [List.length_map, szL]
    split
    · have e1 := (hl n).s x ys (insAt ys j.toNat a) hg
      rw [show oL oe (insAt ys j.toNat a) = O.lst (insAt (ys.map oe) j.toNat (oe a)) by simp [oL, insAt, List.map_take, List.map_drop]] at e1
      show SQ _ _ _ _ (k _) (ll (set n x (insAt ys j.toNat a)))
      rw [e1]
      exact hr _
    · trivial
/-- a, b = .. of one's own -/
theorem q_tupN2 {α2 : Type} {f1 : α → O} {f2 : γ → O} {ho : OEnv → R (O × OEnv)} {t : R (α × γ)} {ρ1 : OEnv} {ll : α → γ → TR β l σ} (i j : Nat) (h : TQ (fun p => (oT2 f1 f2 p, ρ1)) (ho ρ) t) (z : Z ρ) (hr : ∀ a b, SQ E L er Z (k ((ρ1.set i (some (f1 a))).set j (some (f2 b)))) (ll a b)) : SQ E L er Z (seq (sTupN [i, j] ho) k ρ) (t.tr fun p => ll p.1 p.2) := by
  show SQ E L er Z (SR.seq (R.sr _ _ _) k) _
  rw [seq_sr]
  refine SQ.sr h z fun p => ?_
  exact hr p.1 p.2
theorem q_tupN3 {δ : Type} {f1 : α → O} {f2 : γ → O} {f3 : δ → O} {ho : OEnv → R (O × OEnv)} {t : R (T3 α γ δ)} {ρ1 : OEnv} {ll : α → γ → δ → TR β l σ} (i j m : Nat) (h : TQ (fun p => (oT3 f1 f2 f3 p, ρ1)) (ho ρ) t) (z : Z ρ) (hr : ∀ a b c, SQ E L er Z (k (((ρ1.set i (some (f1 a))).set j (some (f2 b))).set m (some (f3 c)))) (ll a b c)) : SQ E L er Z (seq (sTupN [i, j, m] ho) k ρ) (t.tr fun p => ll p.a p.b p.c) := by
  show SQ E L er Z (SR.seq (R.sr _ _ _) k) _
  rw [seq_sr]
  refine SQ.sr h z fun p => ?_
  exact hr p.a p.b p.c
/-- a, b = data that comes by a change (pop) -/
theorem q_tupNF2 {αp : Type} [Enc α] [Enc γ] {ho : OEnv → R (O × OEnv)} {t : R αp} {val : αp → α × γ} {ρ1 : αp → OEnv} {ll : αp → TR β l σ} (i j : Nat) (h : TQ (fun p => (oF (val p), ρ1 p)) (ho ρ) t) (z : Z ρ) (hr : ∀ p, SQ E L er Z (k (((ρ1 p).set i (some (oF (val p).1))).set j (some (oF (val p).2)))) (ll p)) : SQ E L er Z (seq (sTupN [i, j] ho) k ρ) (t.tr ll) := by
  show SQ E L er Z (SR.seq (R.sr _ _ _) k) _
  rw [seq_sr]
  refine SQ.sr h z fun p => ?_
  exact hr p
end
end VL

namespace VL
open PySem PySem.Spec PyProof.Rows L2
open Enc (e)
/-! ### typed: try, except C as e -/
def tisE (tb : Str → Option Bool) (c : Str) : R Bool := match tb c with | some b => .ok b | none => .stuck
theorem tisE_of {tb : Str → Option Bool} {c : Str} {b : Bool} (h : tb c = some b) : tisE tb c = .ok b := by unfold tisE; rw [h]
theorem t_isE {a : Addr} {cn : Str} {tb : Str → Option Bool} {ρ : PEnv} (i : Nat) (h : ρ[i]? = some (some (O.data (.fz (excD a cn))))) : TEq (v1 (vIsE a cn tb) (vVar i) ρ) (tisE tb cn) := by
  have e1 : vVar i ρ = .ok (excD a cn) := by unfold vVar; rw [h, O.data_fz]
  show TEq (R.bind (vVar i ρ) (vIsE a cn tb)) _
  rw [e1]
  show TEq (vIsE a cn tb (excD a cn)) _
  rw [vIsE_ap]
  unfold tisE
  cases tb cn with
  | none => trivial
  | some b => exact rfl
theorem t_isEF {a : Addr} {cn : Str} {tb : Str → Option Bool} {ρ : PEnv} (i : Nat) (h : ρ[i]? = some (some (excD a cn))) : TEq (v1 (vIsE a cn tb) (vVar i) ρ) (tisE tb cn) := t_isE i (by rw [O.data_fz]; exact h)
def ttryA {β l σ : Type} (s : TR β l σ) (tb : Str → Option Bool) (h : Str → TR β l σ) : TR β l σ := match s with
  | .err c => match tb c with
    | some true => (match h c with
      | .err _ => .stuck
      | r => r)
    | some false => .err c
    | none => .stuck
  | r => r
section
variable {β l σ τ : Type}
@[simp] theorem ttryA_nx (s : σ) (tb : Str → Option Bool) (h : Str → TR β l σ) : ttryA (.nx s) tb h = .nx s := rfl
@[simp] theorem ttryA_rt (s : β) (tb : Str → Option Bool) (h : Str → TR β l σ) : ttryA (.rt s) tb h = .rt s := rfl
@[simp] theorem ttryA_ct (s : l) (tb : Str → Option Bool) (h : Str → TR β l σ) : ttryA (.ct s) tb h = .ct s := rfl
@[simp] theorem ttryA_bk (s : l) (tb : Str → Option Bool) (h : Str → TR β l σ) : ttryA (.bk s) tb h = .bk s := rfl
@[simp] theorem ttry_nx (s : σ) (tb : Str → Option Bool) (h : TR β l σ) : ttry (.nx s) tb h = .nx s := rfl
@[simp] theorem ttry_rt (s : β) (tb : Str → Option Bool) (h : TR β l σ) : ttry (.rt s) tb h = .rt s := rfl
@[simp] theorem ttry_ct (s : l) (tb : Str → Option Bool) (h : TR β l σ) : ttry (.ct s) tb h = .ct s := rfl
@[simp] theorem ttry_bk (s : l) (tb : Str → Option Bool) (h : TR β l σ) : ttry (.bk s) tb h = .bk s := rfl
theorem ttryA_err {tb : Str → Option Bool} {h : Str → TR β l σ} {c : Str} (e : tb c = some true) (hn : ∀ x, h c ≠ .err x) : ttryA (.err c) tb h = h c := by
  unfold ttryA; simp only [e]
theorem ttry_err {tb : Str → Option Bool} {h : TR β l σ} {c : Str} (e : tb c = some true) (hn : ∀ x, h ≠ .err x) : ttry (.err c) tb h = h := by
  unfold ttry; simp only [e]
variable {E : σ → OEnv → Prop} {L : l → OEnv → Prop} {er : O → β → Prop} {Z : OEnv → Prop} {ρ : OEnv} {k : OEnv → SR}
theorem q_tryA {gb : OEnv → SR} {gs : Addr → Str → OEnv → SR} {tb : Str → Option Bool} {i : Nat} {Zb : OEnv → Prop} {Es : τ → OEnv} {s : TR β l τ} {t : Str → TR β l τ} {ll : τ → TR β l σ} (EL : l → OEnv) (fo : β → O) (hL : ∀ x, L x (EL x)) (hfo : ∀ b, er (fo b) b) (h1 : SQ (fun s ρ => ρ = Es s) L er Zb (gb ρ) s)
    (h2 : ∀ a c ρ, Zb ρ → SQ (fun s ρ => ρ.set i none = Es s) (fun x ρ => ρ.set i none = EL x) (fun o b => o = fo b) (fun _ => True) (gs a c (ρ.set i (some (.fz (excD a c))))) (t c)) (hz : ∀ ρ, Zb ρ → Z ρ) (hr : ∀ s, SQ E L er Z (k (Es s)) (ll s)) : SQ E L er Z (seq (sTryAs gb tb i gs) k ρ) ((ttryA s tb t).bind ll) := by
  refine SQ.bind (E1 := fun s ρ => ρ = Es s) ?_ fun s ρ e1 => by rw [e1]; exact hr s
  show SQ _ _ _ _ (catchA tb i gs (gb ρ)) _
  cases s with
  | stuck => trivial
  | nx s => obtain ⟨ρ', e1, e2⟩ := h1; rw [e1]; exact ⟨_, rfl, e2⟩
  | ct s => obtain ⟨ρ', e1, e2⟩ := h1; rw [e1]; exact ⟨_, rfl, e2⟩
  | bk s => obtain ⟨ρ', e1, e2⟩ := h1; rw [e1]; exact ⟨_, rfl, e2⟩
  | rt s => obtain ⟨_, ρ', e1, e2⟩ := h1; rw [e1]; exact ⟨_, _, rfl, e2⟩
  | err c =>
    obtain ⟨ρ', e1, e2⟩ := h1
    rw [e1]
    unfold catchA ttryA
    dsimp only
    cases tb c with
    | none => trivial
    | some b =>
      cases b with
      | false => exact ⟨_, rfl, hz _ e2⟩
      | true =>
        have h3 := fun a => h2 a c ρ' e2
        dsimp only
        cases ht : t c with
        | stuck => trivial
        | err s => trivial
        | nx s =>
          have : ∀ a, (gs a c (ρ'.set i (some (.fz (excD a c))))).unset i = .nx (Es s) := fun a => by
            have := h3 a; rw [ht] at this; obtain ⟨ρ2, g1, g2⟩ := this; rw [g1, unset_nx, g2]
          rw [anyA_eq this]; exact ⟨_, rfl, rfl⟩
        | ct s =>
          have : ∀ a, (gs a c (ρ'.set i (some (.fz (excD a c))))).unset i = .ct (EL s) := fun a => by
            have := h3 a; rw [ht] at this; obtain ⟨ρ2, g1, g2⟩ := this; rw [g1, unset_ct, g2]
          rw [anyA_eq this]; exact ⟨_, rfl, hL s⟩
        | bk s =>
          have : ∀ a, (gs a c (ρ'.set i (some (.fz (excD a c))))).unset i = .bk (EL s) := fun a => by
            have := h3 a; rw [ht] at this; obtain ⟨ρ2, g1, g2⟩ := this; rw [g1, unset_bk, g2]
          rw [anyA_eq this]; exact ⟨_, rfl, hL s⟩
        | rt b =>
          have : ∀ a, (gs a c (ρ'.set i (some (.fz (excD a c))))).unset i = .rt (fo b) [] := fun a => by
            have := h3 a; rw [ht] at this; obtain ⟨o, ρ2, g1, g2⟩ := this; rw [g1, unset_rt, g2]
          rw [anyA_eq this]; exact ⟨_, _, rfl, hfo b⟩
/-- the slots that a handler starts with -/
theorem q_hand {g : OEnv → SR} {ks : List Nat} {ρ' : OEnv} {t : TR β l σ} (h : kill ks ρ = ρ') (hh : SQ E L er Z (g ρ') t) : SQ E L er Z (pre (kill ks) g ρ) t := by
  show SQ E L er Z (g (kill ks ρ)) t
  rw [h]; exact hh
theorem kill_set (i : Nat) (x : Option O) : ∀ (ks : List Nat) (ρ : OEnv), i ∉ ks → kill ks (ρ.set i x) = (kill ks ρ).set i x := by
  intro ks
  induction ks with
  | nil => intro ρ _; rfl
  | cons k ks ih =>
    intro ρ h
    rw [kill_cons, kill_cons, List.set_comm _ _ (show i ≠ k from fun z => h (by rw [z]; exact List.mem_cons_self)), ih _ fun z => h (List.mem_cons_of_mem _ z)]
end
theorem l_varO {β : Type} {ρ : OEnv} {oe : β → O} (i : Nat) (x : Option (List β)) (h : ρ[i]? = some (some (oO (oL oe) x)) := by rfl) : TQ (fun _ : Unit => (i, ([] : List Nat))) (pVar i ρ) (.ok ()) := by
  show pVar i ρ = _
  unfold pVar; rw [h]
  cases x <;> rfl
/-- the handler's slots, with the exception in its own -/
theorem hand_of {ks : List Nat} {ρ ρ' ρ'' : OEnv} (i : Nat) (x : Option O) (hz : (kill ks ρ).set i none = ρ') (hi : i ∉ ks := by decide) (h : ρ'.set i x = ρ'' := by rfl) : kill ks (ρ.set i x) = ρ'' := by
  rw [kill_set i x ks ρ hi, ← h, ← hz, List.set_set]
def cNever {α β : Type} (_ : α) : R β := .stuck
theorem Co.never {α β : Type} [Enc α] [Enc β] : Co (cNever : α → R β) := fun _ => trivial
@[simp] theorem cNever_ap {α β : Type} (a : α) : (cNever a : R β) = .stuck := rfl
end VL

namespace LW
open PySem PySem.Spec PyProof.Rows L2 VL
def topS (i : Nat) : Stmt := PySem.Challenge.pw_trackswhole_k15_rooms_that_overlap.main.body.getD i (.Pass ⟨0, 0, 0, 0⟩)
instance lit_0 : Bd (0 : Int) 4 := ⟨.lit⟩
instance lit_1 : Bd (1 : Int) 4 := ⟨.lit⟩
instance mod_1 (a : Int) : Bd (a % 1) 4 := bd_modl (by decide) (by decide)
instance lit_2 : Bd (2 : Int) 4 := ⟨.lit⟩
instance mod_2 (a : Int) : Bd (a % 2) 4 := bd_modl (by decide) (by decide)
instance lit_3 : Bd (3 : Int) 4 := ⟨.lit⟩
instance mod_3 (a : Int) : Bd (a % 3) 4 := bd_modl (by decide) (by decide)
instance lit_4 : Bd (4 : Int) 4 := ⟨.lit⟩
instance mod_4 (a : Int) : Bd (a % 4) 4 := bd_modl (by decide) (by decide)
instance lit_5 : Bd (5 : Int) 4 := ⟨.lit⟩
instance mod_5 (a : Int) : Bd (a % 5) 4 := bd_modl (by decide) (by decide)
instance lit_6 : Bd (6 : Int) 4 := ⟨.lit⟩
instance mod_6 (a : Int) : Bd (a % 6) 4 := bd_modl (by decide) (by decide)
instance lit_7 : Bd (7 : Int) 4 := ⟨.lit⟩
instance mod_7 (a : Int) : Bd (a % 7) 4 := bd_modl (by decide) (by decide)
instance lit_8 : Bd (8 : Int) 5 := ⟨.lit⟩
instance mod_8 (a : Int) : Bd (a % 8) 5 := bd_modl (by decide) (by decide)
instance lit_9 : Bd (9 : Int) 5 := ⟨.lit⟩
instance mod_9 (a : Int) : Bd (a % 9) 5 := bd_modl (by decide) (by decide)
instance lit_10 : Bd (10 : Int) 5 := ⟨.lit⟩
instance mod_10 (a : Int) : Bd (a % 10) 5 := bd_modl (by decide) (by decide)
instance lit_11 : Bd (11 : Int) 5 := ⟨.lit⟩
instance mod_11 (a : Int) : Bd (a % 11) 5 := bd_modl (by decide) (by decide)
instance lit_12 : Bd (12 : Int) 5 := ⟨.lit⟩
instance mod_12 (a : Int) : Bd (a % 12) 5 := bd_modl (by decide) (by decide)
instance lit_14 : Bd (14 : Int) 5 := ⟨.lit⟩
instance mod_14 (a : Int) : Bd (a % 14) 5 := bd_modl (by decide) (by decide)
instance lit_15 : Bd (15 : Int) 5 := ⟨.lit⟩
instance mod_15 (a : Int) : Bd (a % 15) 5 := bd_modl (by decide) (by decide)
instance lit_16 : Bd (16 : Int) 6 := ⟨.lit⟩
instance mod_16 (a : Int) : Bd (a % 16) 6 := bd_modl (by decide) (by decide)
instance lit_17 : Bd (17 : Int) 6 := ⟨.lit⟩
instance mod_17 (a : Int) : Bd (a % 17) 6 := bd_modl (by decide) (by decide)
instance lit_18 : Bd (18 : Int) 6 := ⟨.lit⟩
instance mod_18 (a : Int) : Bd (a % 18) 6 := bd_modl (by decide) (by decide)
instance lit_19 : Bd (19 : Int) 6 := ⟨.lit⟩
instance mod_19 (a : Int) : Bd (a % 19) 6 := bd_modl (by decide) (by decide)
instance lit_20 : Bd (20 : Int) 6 := ⟨.lit⟩
instance mod_20 (a : Int) : Bd (a % 20) 6 := bd_modl (by decide) (by decide)
instance lit_32 : Bd (32 : Int) 7 := ⟨.lit⟩
instance mod_32 (a : Int) : Bd (a % 32) 7 := bd_modl (by decide) (by decide)
instance lit_999 : Bd (999 : Int) 11 := ⟨.lit⟩
instance mod_999 (a : Int) : Bd (a % 999) 11 := bd_modl (by decide) (by decide)
instance lit_2000 : Bd (2000 : Int) 12 := ⟨.lit⟩
instance mod_2000 (a : Int) : Bd (a % 2000) 12 := bd_modl (by decide) (by decide)
instance lit_5040 : Bd (5040 : Int) 14 := ⟨.lit⟩
instance mod_5040 (a : Int) : Bd (a % 5040) 14 := bd_modl (by decide) (by decide)
instance lit_16807 : Bd (16807 : Int) 16 := ⟨.lit⟩
instance mod_16807 (a : Int) : Bd (a % 16807) 16 := bd_modl (by decide) (by decide)
instance lit_40692 : Bd (40692 : Int) 17 := ⟨.lit⟩
instance mod_40692 (a : Int) : Bd (a % 40692) 17 := bd_modl (by decide) (by decide)
instance lit_48271 : Bd (48271 : Int) 17 := ⟨.lit⟩
instance mod_48271 (a : Int) : Bd (a % 48271) 17 := bd_modl (by decide) (by decide)
instance lit_69621 : Bd (69621 : Int) 18 := ⟨.lit⟩
instance mod_69621 (a : Int) : Bd (a % 69621) 18 := bd_modl (by decide) (by decide)
instance lit_2147483399 : Bd (2147483399 : Int) 32 := ⟨.lit⟩
instance mod_2147483399 (a : Int) : Bd (a % 2147483399) 32 := bd_modl (by decide) (by decide)
instance lit_2147483647 : Bd (2147483647 : Int) 32 := ⟨.lit⟩
instance mod_2147483647 (a : Int) : Bd (a % 2147483647) 32 := bd_modl (by decide) (by decide)
@[simp] theorem sok_0 : PyData.strOk "cross" = true := by decide +kernel
@[simp] theorem sok_1 : PyData.strOk "curve" = true := by decide +kernel
@[simp] theorem sok_2 : PyData.strOk "left" = true := by decide +kernel
@[simp] theorem sok_3 : PyData.strOk "points" = true := by decide +kernel
@[simp] theorem sok_4 : PyData.strOk "right" = true := by decide +kernel
@[simp] theorem sne_0_1 : (("cross" : Str) = "curve") = False := eq_false (by decide)
@[simp] theorem sne_0_2 : (("cross" : Str) = "left") = False := eq_false (by decide)
@[simp] theorem sne_0_3 : (("cross" : Str) = "points") = False := eq_false (by decide)
@[simp] theorem sne_0_4 : (("cross" : Str) = "right") = False := eq_false (by decide)
@[simp] theorem sne_1_0 : (("curve" : Str) = "cross") = False := eq_false (by decide)
@[simp] theorem sne_1_2 : (("curve" : Str) = "left") = False := eq_false (by decide)
@[simp] theorem sne_1_3 : (("curve" : Str) = "points") = False := eq_false (by decide)
@[simp] theorem sne_1_4 : (("curve" : Str) = "right") = False := eq_false (by decide)
@[simp] theorem sne_2_0 : (("left" : Str) = "cross") = False := eq_false (by decide)
@[simp] theorem sne_2_1 : (("left" : Str) = "curve") = False := eq_false (by decide)
@[simp] theorem sne_2_3 : (("left" : Str) = "points") = False := eq_false (by decide)
@[simp] theorem sne_2_4 : (("left" : Str) = "right") = False := eq_false (by decide)
@[simp] theorem sne_3_0 : (("points" : Str) = "cross") = False := eq_false (by decide)
@[simp] theorem sne_3_1 : (("points" : Str) = "curve") = False := eq_false (by decide)
@[simp] theorem sne_3_2 : (("points" : Str) = "left") = False := eq_false (by decide)
@[simp] theorem sne_3_4 : (("points" : Str) = "right") = False := eq_false (by decide)
@[simp] theorem sne_4_0 : (("right" : Str) = "cross") = False := eq_false (by decide)
@[simp] theorem sne_4_1 : (("right" : Str) = "curve") = False := eq_false (by decide)
@[simp] theorem sne_4_2 : (("right" : Str) = "left") = False := eq_false (by decide)
@[simp] theorem sne_4_3 : (("right" : Str) = "points") = False := eq_false (by decide)
noncomputable section
abbrev s_spot_less : Stmt := topS 1
abbrev N_spot_less : List Str := ["one", "other"]
def g_spot_less : OEnv → SR := (sRet (oX (exF (vtup (aCons (v2 vsub (v2 vidx (vVar 0) (vC (.int 0))) (v2 vidx (vVar 1) (vC (.int 0)))) (aCons (v2 vsub (v2 vidx (vVar 0) (vC (.int 1))) (v2 vidx (vVar 1) (vC (.int 1)))) (aCons (v2 vsub (v2 vidx (vVar 0) (vC (.int 2))) (v2 vidx (vVar 1) (vC (.int 2)))) (aCons (v2 vsub (v2 vidx (vVar 0) (vC (.int 3))) (v2 vidx (vVar 1) (vC (.int 3)))) aNil))))))))
def m_spot_less : List PyData → R PyData := frz (runB 2 g_spot_less)
theorem r_spot_less (a0 a1 : PyData) : m_spot_less [a0, a1] = fin (g_spot_less [some (.fz a0), some (.fz a1)]) := frz_fin _ _ _
abbrev s_doubled : Stmt := topS 2
abbrev N_doubled : List Str := ["spot"]
def g_doubled : OEnv → SR := (sRet (oX (exF (vtup (aCons (vtup (aCons (v2 vmul (vC (.int 2)) (v2 vidx (vVar 0) (vC (.int 0)))) (aCons (v2 vsub (v2 vidx (vVar 0) (vC (.int 1))) (v2 vidx (vVar 0) (vC (.int 3)))) aNil))) (aCons (vtup (aCons (v2 vmul (vC (.int 2)) (v2 vidx (vVar 0) (vC (.int 2)))) (aCons (v2 vadd (v2 vidx (vVar 0) (vC (.int 1))) (v2 vidx (vVar 0) (vC (.int 3)))) aNil))) aNil))))))
def m_doubled : List PyData → R PyData := frz (runB 1 g_doubled)
theorem r_doubled (a0 : PyData) : m_doubled [a0] = fin (g_doubled [some (.fz a0)]) := frz_fin _ _ _
abbrev s_number_sign : Stmt := topS 4
abbrev N_number_sign : List Str := ["number"]
def g_number_sign : OEnv → SR := (seq (sIf (tB (tst (v2 vgt (vVar 0) (vC (.int 0)))))
    (sRet (oX (exF (vC (.int 1)))))
    sNx)
    (seq (sIf (tB (tst (v2 vlt (vVar 0) (vC (.int 0)))))
    (sRet (oX (exF (v1 vneg (vC (.int 1))))))
    (pre (kill [0]) sNx))
    (sRet (oX (exF (vC (.int 0)))))))
def m_number_sign : List PyData → R PyData := frz (runB 1 g_number_sign)
theorem r_number_sign (a0 : PyData) : m_number_sign [a0] = fin (g_number_sign [some (.fz a0)]) := frz_fin _ _ _
abbrev s_surd_sign : Stmt := topS 5
abbrev N_surd_sign : List Str := ["surd", "plain", "rooted", "one", "other"]
def g_surd_sign : OEnv → SR := (seq (sTup (gT (gC (gN 1) (gC (gN 2) gE))) (exF (vVar 0)))
    (seq (sSet 3 (oX (exF (vapp m_number_sign (aCons (vVar 1) aNil)))))
    (seq (sSet 4 (oX (exF (vapp m_number_sign (aCons (vVar 2) aNil)))))
    (seq (sIf (tB (tor (tst (v2 veq (vVar 3) (vC (.int 0)))) (tst (v2 veq (vVar 3) (vVar 4)))))
    (sRet (oX (exF (vif (tst (v2 veq (vVar 3) (vC (.int 0)))) (vVar 4) (vVar 3)))))
    (pre (kill [0]) sNx))
    (seq (sIf (tB (tst (v2 veq (vVar 4) (vC (.int 0)))))
    (sRet (oX (exF (vVar 3))))
    sNx)
    (seq (sIf (tB (tst (v2 vgt (v2 vmul (vVar 1) (vVar 1)) (v2 vmul (v2 vmul (vC (.int 2)) (vVar 2)) (vVar 2)))))
    (sRet (oX (exF (vVar 3))))
    (pre (kill [1, 2, 3]) sNx))
    (sRet (oX (exF (vVar 4))))))))))
def m_surd_sign : List PyData → R PyData := frz (runB 5 g_surd_sign)
theorem r_surd_sign (a0 : PyData) : m_surd_sign [a0] = fin (g_surd_sign [some (.fz a0), none, none, none, none]) := frz_fin _ _ _
abbrev s_surd_sum : Stmt := topS 6
abbrev N_surd_sum : List Str := ["one", "other"]
def g_surd_sum : OEnv → SR := (sRet (oX (exF (vtup (aCons (v2 vadd (v2 vidx (vVar 0) (vC (.int 0))) (v2 vidx (vVar 1) (vC (.int 0)))) (aCons (v2 vadd (v2 vidx (vVar 0) (vC (.int 1))) (v2 vidx (vVar 1) (vC (.int 1)))) aNil))))))
def m_surd_sum : List PyData → R PyData := frz (runB 2 g_surd_sum)
theorem r_surd_sum (a0 a1 : PyData) : m_surd_sum [a0, a1] = fin (g_surd_sum [some (.fz a0), some (.fz a1)]) := frz_fin _ _ _
abbrev s_surd_opposite : Stmt := topS 7
abbrev N_surd_opposite : List Str := ["surd"]
def g_surd_opposite : OEnv → SR := (sRet (oX (exF (vtup (aCons (v1 vneg (v2 vidx (vVar 0) (vC (.int 0)))) (aCons (v1 vneg (v2 vidx (vVar 0) (vC (.int 1)))) aNil))))))
def m_surd_opposite : List PyData → R PyData := frz (runB 1 g_surd_opposite)
theorem r_surd_opposite (a0 : PyData) : m_surd_opposite [a0] = fin (g_surd_opposite [some (.fz a0)]) := frz_fin _ _ _
abbrev s_surd_product : Stmt := topS 8
abbrev N_surd_product : List Str := ["one", "other"]
def g_surd_product : OEnv → SR := (sRet (oX (exF (vtup (aCons (v2 vadd (v2 vmul (v2 vidx (vVar 0) (vC (.int 0))) (v2 vidx (vVar 1) (vC (.int 0)))) (v2 vmul (v2 vmul (vC (.int 2)) (v2 vidx (vVar 0) (vC (.int 1)))) (v2 vidx (vVar 1) (vC (.int 1))))) (aCons (v2 vadd (v2 vmul (v2 vidx (vVar 0) (vC (.int 0))) (v2 vidx (vVar 1) (vC (.int 1)))) (v2 vmul (v2 vidx (vVar 0) (vC (.int 1))) (v2 vidx (vVar 1) (vC (.int 0))))) aNil))))))
def m_surd_product : List PyData → R PyData := frz (runB 2 g_surd_product)
theorem r_surd_product (a0 a1 : PyData) : m_surd_product [a0, a1] = fin (g_surd_product [some (.fz a0), some (.fz a1)]) := frz_fin _ _ _
abbrev s_turn_sign : Stmt := topS 10
abbrev N_turn_sign : List Str := ["start", "stop", "spot", "along", "aside", "one", "other"]
def g_turn_sign : OEnv → SR := (seq (sSet 3 (oX (exF (vapp m_doubled (aCons (vapp m_spot_less (aCons (vVar 1) (aCons (vVar 0) aNil))) aNil)))))
    (seq (sSet 4 (oX (exF (vapp m_doubled (aCons (vapp m_spot_less (aCons (vVar 2) (aCons (vVar 0) aNil))) aNil)))))
    (seq (sSet 5 (oX (exF (vapp m_surd_product (aCons (v2 vidx (vVar 3) (vC (.int 0))) (aCons (v2 vidx (vVar 4) (vC (.int 1))) aNil))))))
    (seq (sSet 6 (oX (exF (vapp m_surd_product (aCons (v2 vidx (vVar 3) (vC (.int 1))) (aCons (v2 vidx (vVar 4) (vC (.int 0))) aNil))))))
    (sRet (oX (exF (vapp m_surd_sign (aCons (vapp m_surd_sum (aCons (vVar 5) (aCons (vapp m_surd_opposite (aCons (vVar 6) aNil)) aNil))) aNil)))))))))
def m_turn_sign : List PyData → R PyData := frz (runB 7 g_turn_sign)
theorem r_turn_sign (a0 a1 a2 : PyData) : m_turn_sign [a0, a1, a2] = fin (g_turn_sign [some (.fz a0), some (.fz a1), some (.fz a2), none, none, none, none]) := frz_fin _ _ _
abbrev s_lies_outside : Stmt := topS 11
abbrev N_lies_outside : List Str := ["room", "start", "stop", "corner"]
def e_lies_outside_1 : PEnv → R PyData := (v2 vle (vapp m_turn_sign (aCons (vVar 1) (aCons (vVar 2) (aCons (vVar 3) aNil)))) (vC (.int 0)))
def g_lies_outside : OEnv → SR := (sRet (oX (exF (vapp vall (aCons (vlistOf (vcomp [3] (isq (vVar 0)) (gN 3) tyes (e_lies_outside_1))) aNil)))))
def m_lies_outside : List PyData → R PyData := frz (runB 4 g_lies_outside)
theorem r_lies_outside (a0 a1 a2 : PyData) : m_lies_outside [a0, a1, a2] = fin (g_lies_outside [some (.fz a0), some (.fz a1), some (.fz a2), none]) := frz_fin _ _ _
abbrev s_has_dividing_edge : Stmt := topS 12
abbrev N_has_dividing_edge : List Str := ["one", "other", "k"]
def b_has_dividing_edge_1 : OEnv → SR := (sIf (tB (ttr (vapp m_lies_outside (aCons (vVar 1) (aCons (v2 vidx (vVar 0) (v2 vsub (vVar 2) (vC (.int 1)))) (aCons (v2 vidx (vVar 0) (vVar 2)) aNil))))))
    (sRet (oX (exF (vC (.bool true)))))
    (pre (kill [2]) sNx))
def g_has_dividing_edge : OEnv → SR := (seq (sFor (x1 vrange1 (exF (vapp vlen (aCons (vVar 0) aNil)))) (gN 2) (kill [2]) (b_has_dividing_edge_1))
    (pre (kill [0, 1]) (sRet (oX (exF (vC (.bool false)))))))
def m_has_dividing_edge : List PyData → R PyData := frz (runB 3 g_has_dividing_edge)
theorem r_has_dividing_edge (a0 a1 : PyData) : m_has_dividing_edge [a0, a1] = fin (g_has_dividing_edge [some (.fz a0), some (.fz a1), none]) := frz_fin _ _ _
abbrev s_overlap : Stmt := topS 13
abbrev N_overlap : List Str := ["one", "other"]
def g_overlap : OEnv → SR := (sRet (oX (exF (vand (vnot (vapp m_has_dividing_edge (aCons (vVar 0) (aCons (vVar 1) aNil)))) (vnot (vapp m_has_dividing_edge (aCons (vVar 1) (aCons (vVar 0) aNil))))))))
def m_overlap : List PyData → R PyData := frz (runB 2 g_overlap)
theorem r_overlap (a0 a1 : PyData) : m_overlap [a0, a1] = fin (g_overlap [some (.fz a0), some (.fz a1)]) := frz_fin _ _ _
abbrev s_law_cell : Stmt := topS 15
abbrev N_law_cell : List Str := ["script", "k"]
def g_law_cell : OEnv → SR := (seq (sIf (tB (tst (v2 vlt (vVar 1) (vapp vlen (aCons (vVar 0) aNil)))))
    (sRet (oX (exF (vapp vint1 (aCons (v2 vidx (vVar 0) (vVar 1)) aNil)))))
    (pre (kill [0, 1]) sNx))
    (sRet (oX (exF (vC (.int 0))))))
def m_law_cell : List PyData → R PyData := frz (runB 2 g_law_cell)
theorem r_law_cell (a0 a1 : PyData) : m_law_cell [a0, a1] = fin (g_law_cell [some (.fz a0), some (.fz a1)]) := frz_fin _ _ _
abbrev s_law_numbers : Stmt := topS 16
abbrev N_law_numbers : List Str := ["cell", "count", "limit", "found", "k", "mixed"]
def b_law_numbers_1 : OEnv → SR := (seq (sApp 3 (oX (exF (v2 vmod (vapp vint1 (aCons (vVar 0) aNil)) (vVar 2)))))
    (sSet 0 (oX (exF (v2 vfdiv (vapp vint1 (aCons (vVar 0) aNil)) (vVar 2))))))
def b_law_numbers_2 : OEnv → SR := (seq (sSet 5 (oX (exF (v2 vmod (vapp vint1 (aCons (v2 vadd (v2 vadd (v2 vmul (vVar 0) (vC (.int 48271))) (v2 vmul (vVar 4) (vC (.int 69621)))) (vC (.int 7))) aNil)) (vC (.int 2147483647))))))
    (seq (sSet 5 (oX (exF (v2 vmod (vapp vint1 (aCons (v2 vadd (v2 vadd (v2 vadd (v2 vmul (vVar 5) (vVar 5)) (v2 vmul (vVar 5) (vC (.int 40692)))) (v2 vmul (vVar 4) (vC (.int 16807)))) (vC (.int 11))) aNil)) (vC (.int 2147483399))))))
    (sApp 3 (oX (exF (v2 vmod (vapp vint1 (aCons (v2 vfdiv (vVar 5) (vC (.int 32))) aNil)) (vVar 2)))))))
def g_law_numbers : OEnv → SR := (seq (sSet 3 (oFrF aNil))
    (seq (sIf (tB (tst (v2 vge (vVar 0) (v2 vpow (vC (.int 10)) (vC (.int 18))))))
    (seq (sForK (x1 vrange1 (exF (vVar 1))) (kill [1]) (gN 4) (kill [4]) (b_law_numbers_1))
    (pre (kill [0, 2, 4]) (pre (freeze [3]) (sRet (oX (exF (vVar 3)))))))
    sNx)
    (seq (sForK (x1 vrange1 (exF (vVar 1))) (kill [1]) (gN 4) (kill [4, 5]) (b_law_numbers_2))
    (pre (kill [0, 2, 4, 5]) (pre (freeze [3]) (sRet (oX (exF (vVar 3)))))))))
def m_law_numbers : List PyData → R PyData := frz (runB 6 g_law_numbers)
theorem r_law_numbers (a0 a1 a2 : PyData) : m_law_numbers [a0, a1, a2] = fin (g_law_numbers [some (.fz a0), some (.fz a1), some (.fz a2), none, none, none]) := frz_fin _ _ _
abbrev s_law_plus : Stmt := topS 17
abbrev N_law_plus : List Str := ["one", "other"]
def g_law_plus : OEnv → SR := (sRet (oX (exF (vtup (aCons (v2 vadd (v2 vidx (vVar 0) (vC (.int 0))) (v2 vidx (vVar 1) (vC (.int 0)))) (aCons (v2 vadd (v2 vidx (vVar 0) (vC (.int 1))) (v2 vidx (vVar 1) (vC (.int 1)))) (aCons (v2 vadd (v2 vidx (vVar 0) (vC (.int 2))) (v2 vidx (vVar 1) (vC (.int 2)))) (aCons (v2 vadd (v2 vidx (vVar 0) (vC (.int 3))) (v2 vidx (vVar 1) (vC (.int 3)))) aNil))))))))
def m_law_plus : List PyData → R PyData := frz (runB 2 g_law_plus)
theorem r_law_plus (a0 a1 : PyData) : m_law_plus [a0, a1] = fin (g_law_plus [some (.fz a0), some (.fz a1)]) := frz_fin _ _ _
abbrev s_law_turned : Stmt := topS 18
abbrev N_law_turned : List Str := ["spot", "k", "a", "b", "c", "d", "found"]
def g_law_turned : OEnv → SR := (seq (sTup (gT (gC (gN 2) (gC (gN 3) (gC (gN 4) (gC (gN 5) gE))))) (exF (vVar 0)))
    (seq (sSet 6 (oX (exF (vlistOf (aCons (vVar 2) (aCons (vVar 3) (aCons (vVar 4) (aCons (vVar 5) (aCons (v1 vneg (vVar 2)) (aCons (v1 vneg (vVar 3)) (aCons (v1 vneg (vVar 4)) (aCons (v1 vneg (vVar 5)) aNil))))))))))))
    (seq (sSet 1 (oX (exF (v2 vmod (vapp vint1 (aCons (vVar 1) aNil)) (vC (.int 8))))))
    (sRet (oX (exF (vtup (aCons (v2 vidx (vVar 6) (v2 vmod (vapp vint1 (aCons (v2 vsub (vC (.int 8)) (vVar 1)) aNil)) (vC (.int 8)))) (aCons (v2 vidx (vVar 6) (v2 vmod (vapp vint1 (aCons (v2 vsub (vC (.int 9)) (vVar 1)) aNil)) (vC (.int 8)))) (aCons (v2 vidx (vVar 6) (v2 vmod (vapp vint1 (aCons (v2 vsub (vC (.int 10)) (vVar 1)) aNil)) (vC (.int 8)))) (aCons (v2 vidx (vVar 6) (v2 vmod (vapp vint1 (aCons (v2 vsub (vC (.int 11)) (vVar 1)) aNil)) (vC (.int 8)))) aNil)))))))))))
def m_law_turned : List PyData → R PyData := frz (runB 7 g_law_turned)
theorem r_law_turned (a0 a1 : PyData) : m_law_turned [a0, a1] = fin (g_law_turned [some (.fz a0), some (.fz a1), none, none, none, none, none]) := frz_fin _ _ _
abbrev s_law_then : Stmt := topS 19
abbrev N_law_then : List Str := ["one", "other"]
def g_law_then : OEnv → SR := (sRet (oX (exF (vtup (aCons (vapp m_law_plus (aCons (v2 vidx (vVar 0) (vC (.int 0))) (aCons (vapp m_law_turned (aCons (v2 vidx (vVar 1) (vC (.int 0))) (aCons (v2 vidx (vVar 0) (vC (.int 1))) aNil))) aNil))) (aCons (v2 vmod (vapp vint1 (aCons (v2 vadd (v2 vidx (vVar 0) (vC (.int 1))) (v2 vidx (vVar 1) (vC (.int 1)))) aNil)) (vC (.int 8))) aNil))))))
def m_law_then : List PyData → R PyData := frz (runB 2 g_law_then)
theorem r_law_then (a0 a1 : PyData) : m_law_then [a0, a1] = fin (g_law_then [some (.fz a0), some (.fz a1)]) := frz_fin _ _ _
abbrev s_law_end : Stmt := topS 20
abbrev N_law_end : List Str := ["piece", "end", "radius", "half", "way"]
def g_law_end : OEnv → SR := (seq (sIf (tB (tst (v2 veq (vVar 1) (vC (.int 0)))))
    (sRet (oX (exF (vtup (aCons (vtup (aCons (vC (.int 0)) (aCons (vC (.int 0)) (aCons (vC (.int 0)) (aCons (vC (.int 0)) aNil))))) (aCons (vC (.int 4)) aNil))))))
    sNx)
    (seq (sIf (tB (tor (tst (v2 veq (v2 vidx (vVar 0) (vC (.int 0))) (vC (.str "curve")))) (tand (tst (v2 veq (v2 vidx (vVar 0) (vC (.int 0))) (vC (.str "points")))) (tst (v2 veq (vVar 1) (vC (.int 2)))))))
    (seq (sSet 2 (oX (exF (v2 vidx (vVar 0) (v2 vsub (vapp vlen (aCons (vVar 0) aNil)) (vC (.int 2)))))))
    (seq (sIf (tB (tst (v2 veq (v2 vidx (vVar 0) (v2 vsub (vapp vlen (aCons (vVar 0) aNil)) (vC (.int 1)))) (vC (.str "left")))))
    (sRet (oX (exF (vtup (aCons (vtup (aCons (vC (.int 0)) (aCons (vC (.int 0)) (aCons (vVar 2) (aCons (v1 vneg (vVar 2)) aNil))))) (aCons (vC (.int 1)) aNil))))))
    (pre (kill [0, 1]) sNx))
    (sRet (oX (exF (vtup (aCons (vtup (aCons (vC (.int 0)) (aCons (vVar 2) (aCons (v1 vneg (vVar 2)) (aCons (vC (.int 0)) aNil))))) (aCons (vC (.int 7)) aNil))))))))
    sNx)
    (seq (sIf (tB (tand (tst (v2 veq (v2 vidx (vVar 0) (vC (.int 0))) (vC (.str "cross")))) (tst (v2 vgt (vVar 1) (vC (.int 1))))))
    (seq (sSet 3 (oX (exF (v2 vfdiv (v2 vidx (vVar 0) (vC (.int 1))) (vC (.int 2))))))
    (seq (sSet 4 (oX (exF (v2 vmod (vapp vint1 (aCons (v2 vadd (v2 vadd (v2 vidx (vVar 0) (vC (.int 2))) (v2 vmul (vC (.int 4)) (v2 vsub (vVar 1) (vC (.int 2))))) (vC (.int 4))) aNil)) (vC (.int 8))))))
    (sRet (oX (exF (vtup (aCons (vapp m_law_plus (aCons (vtup (aCons (vVar 3) (aCons (vC (.int 0)) (aCons (vC (.int 0)) (aCons (vC (.int 0)) aNil))))) (aCons (vapp m_law_turned (aCons (vtup (aCons (vVar 3) (aCons (vC (.int 0)) (aCons (vC (.int 0)) (aCons (vC (.int 0)) aNil))))) (aCons (vVar 4) aNil))) aNil))) (aCons (vVar 4) aNil))))))))
    (pre (kill [1]) sNx))
    (sRet (oX (exF (vtup (aCons (vtup (aCons (v2 vidx (vVar 0) (vC (.int 1))) (aCons (vC (.int 0)) (aCons (vC (.int 0)) (aCons (vC (.int 0)) aNil))))) (aCons (vC (.int 0)) aNil)))))))))
def m_law_end : List PyData → R PyData := frz (runB 5 g_law_end)
theorem r_law_end (a0 a1 : PyData) : m_law_end [a0, a1] = fin (g_law_end [some (.fz a0), some (.fz a1), none, none, none]) := frz_fin _ _ _
abbrev s_law_ray : Stmt := topS 21
abbrev N_law_ray : List Str := ["units", "k"]
def g_law_ray : OEnv → SR := (sRet (oX (exF (vapp m_law_turned (aCons (vtup (aCons (vVar 0) (aCons (vC (.int 0)) (aCons (vC (.int 0)) (aCons (vC (.int 0)) aNil))))) (aCons (vVar 1) aNil))))))
def m_law_ray : List PyData → R PyData := frz (runB 2 g_law_ray)
theorem r_law_ray (a0 a1 : PyData) : m_law_ray [a0, a1] = fin (g_law_ray [some (.fz a0), some (.fz a1)]) := frz_fin _ _ _
abbrev s_law_minus : Stmt := topS 22
abbrev N_law_minus : List Str := ["one", "other"]
def g_law_minus : OEnv → SR := (sRet (oX (exF (vtup (aCons (v2 vsub (v2 vidx (vVar 0) (vC (.int 0))) (v2 vidx (vVar 1) (vC (.int 0)))) (aCons (v2 vsub (v2 vidx (vVar 0) (vC (.int 1))) (v2 vidx (vVar 1) (vC (.int 1)))) (aCons (v2 vsub (v2 vidx (vVar 0) (vC (.int 2))) (v2 vidx (vVar 1) (vC (.int 2)))) (aCons (v2 vsub (v2 vidx (vVar 0) (vC (.int 3))) (v2 vidx (vVar 1) (vC (.int 3)))) aNil))))))))
def m_law_minus : List PyData → R PyData := frz (runB 2 g_law_minus)
theorem r_law_minus (a0 a1 : PyData) : m_law_minus [a0, a1] = fin (g_law_minus [some (.fz a0), some (.fz a1)]) := frz_fin _ _ _
abbrev s_law_straight_room : Stmt := topS 23
abbrev N_law_straight_room : List Str := ["pose", "length", "width", "start", "k", "side", "far"]
def g_law_straight_room : OEnv → SR := (seq (sTup (gT (gC (gN 3) (gC (gN 4) gE))) (exF (vVar 0)))
    (seq (sSet 5 (oX (exF (vapp m_law_ray (aCons (vVar 2) (aCons (v2 vadd (vVar 4) (vC (.int 2))) aNil))))))
    (seq (sSet 6 (oX (exF (vapp m_law_plus (aCons (vVar 3) (aCons (vapp m_law_ray (aCons (vVar 1) (aCons (vVar 4) aNil))) aNil))))))
    (sRet (oX (exF (vlistOf (aCons (vapp m_law_minus (aCons (vVar 3) (aCons (vVar 5) aNil))) (aCons (vapp m_law_minus (aCons (vVar 6) (aCons (vVar 5) aNil))) (aCons (vapp m_law_plus (aCons (vVar 6) (aCons (vVar 5) aNil))) (aCons (vapp m_law_plus (aCons (vVar 3) (aCons (vVar 5) aNil))) aNil)))))))))))
def m_law_straight_room : List PyData → R PyData := frz (runB 7 g_law_straight_room)
theorem r_law_straight_room (a0 a1 a2 : PyData) : m_law_straight_room [a0, a1, a2] = fin (g_law_straight_room [some (.fz a0), some (.fz a1), some (.fz a2), none, none, none, none]) := frz_fin _ _ _
abbrev s_law_curve_room : Stmt := topS 24
abbrev N_law_curve_room : List Str := ["pose", "radius", "side", "width", "start", "k", "far", "n", "m", "size", "t"]
def g_law_curve_room : OEnv → SR := (seq (sTup (gT (gC (gN 4) (gC (gN 5) gE))) (exF (vVar 0)))
    (seq (sSet 6 (oX (exF (vapp m_law_then (aCons (vVar 0) (aCons (vapp m_law_end (aCons (vtup (aCons (vC (.str "curve")) (aCons (vVar 1) (aCons (vVar 2) aNil)))) (aCons (vC (.int 1)) aNil))) aNil))))))
    (seq (sSet 7 (oX (exF (vapp m_law_ray (aCons (vVar 3) (aCons (v2 vadd (vVar 5) (vC (.int 2))) aNil))))))
    (seq (sSet 8 (oX (exF (vapp m_law_ray (aCons (vVar 3) (aCons (v2 vadd (v2 vidx (vVar 6) (vC (.int 1))) (vC (.int 2))) aNil))))))
    (seq (sSet 9 (oX (exF (v2 vadd (vVar 1) (vVar 3)))))
    (seq (sSet 10 (oX (exF (vapp m_law_turned (aCons (vtup (aCons (v2 vsub (vC (.int 0)) (vVar 9)) (aCons (vVar 9) (aCons (vC (.int 0)) (aCons (v2 vsub (vC (.int 0)) (vVar 9)) aNil))))) (aCons (vVar 5) aNil))))))
    (seq (sIf (tB (tst (v2 veq (vVar 2) (vC (.str "left")))))
    (sRet (oX (exF (vlistOf (aCons (vapp m_law_minus (aCons (vVar 4) (aCons (vVar 7) aNil))) (aCons (vapp m_law_plus (aCons (vapp m_law_minus (aCons (vVar 4) (aCons (vVar 7) aNil))) (aCons (vVar 10) aNil))) (aCons (vapp m_law_minus (aCons (v2 vidx (vVar 6) (vC (.int 0))) (aCons (vVar 8) aNil))) (aCons (vapp m_law_plus (aCons (v2 vidx (vVar 6) (vC (.int 0))) (aCons (vVar 8) aNil))) (aCons (vapp m_law_plus (aCons (vVar 4) (aCons (vVar 7) aNil))) aNil)))))))))
    (pre (kill [0, 1, 2, 3, 5, 9]) sNx))
    (sRet (oX (exF (vlistOf (aCons (vapp m_law_minus (aCons (vVar 4) (aCons (vVar 7) aNil))) (aCons (vapp m_law_minus (aCons (v2 vidx (vVar 6) (vC (.int 0))) (aCons (vVar 8) aNil))) (aCons (vapp m_law_plus (aCons (v2 vidx (vVar 6) (vC (.int 0))) (aCons (vVar 8) aNil))) (aCons (vapp m_law_plus (aCons (vapp m_law_plus (aCons (vVar 4) (aCons (vVar 7) aNil))) (aCons (vVar 10) aNil))) (aCons (vapp m_law_plus (aCons (vVar 4) (aCons (vVar 7) aNil))) aNil))))))))))))))))
def m_law_curve_room : List PyData → R PyData := frz (runB 11 g_law_curve_room)
theorem r_law_curve_room (a0 a1 a2 a3 : PyData) : m_law_curve_room [a0, a1, a2, a3] = fin (g_law_curve_room [some (.fz a0), some (.fz a1), some (.fz a2), some (.fz a3), none, none, none, none, none, none, none]) := frz_fin _ _ _
abbrev s_law_surd_sign : Stmt := topS 25
abbrev N_law_surd_sign : List Str := ["m", "n"]
def g_law_surd_sign : OEnv → SR := (seq (sIf (tB (tand (tst (v2 vge (vVar 0) (vC (.int 0)))) (tst (v2 vge (vVar 1) (vC (.int 0))))))
    (sRet (oX (exF (vapp vint1 (aCons (v2 vgt (v2 vadd (vVar 0) (vVar 1)) (vC (.int 0))) aNil)))))
    sNx)
    (seq (sIf (tB (tand (tst (v2 vle (vVar 0) (vC (.int 0)))) (tst (v2 vle (vVar 1) (vC (.int 0))))))
    (sRet (oX (exF (v1 vneg (vC (.int 1))))))
    sNx)
    (seq (sIf (tB (tst (v2 vgt (v2 vmul (vVar 0) (vVar 0)) (v2 vmul (v2 vmul (vC (.int 2)) (vVar 1)) (vVar 1)))))
    (sRet (oX (exF (v2 vsub (vC (.int 1)) (v2 vmul (vC (.int 2)) (vapp vint1 (aCons (v2 vlt (vVar 0) (vC (.int 0))) aNil)))))))
    (pre (kill [0]) sNx))
    (sRet (oX (exF (v2 vsub (vC (.int 1)) (v2 vmul (vC (.int 2)) (vapp vint1 (aCons (v2 vlt (vVar 1) (vC (.int 0))) aNil))))))))))
def m_law_surd_sign : List PyData → R PyData := frz (runB 2 g_law_surd_sign)
theorem r_law_surd_sign (a0 a1 : PyData) : m_law_surd_sign [a0, a1] = fin (g_law_surd_sign [some (.fz a0), some (.fz a1)]) := frz_fin _ _ _
abbrev s_law_cross : Stmt := topS 26
abbrev N_law_cross : List Str := ["start", "stop", "spot", "a", "b", "c", "d", "e", "f", "g", "h"]
def g_law_cross : OEnv → SR := (seq (sSet 3 (oX (exF (v2 vmul (vC (.int 2)) (v2 vsub (v2 vidx (vVar 1) (vC (.int 0))) (v2 vidx (vVar 0) (vC (.int 0))))))))
    (seq (sSet 4 (oX (exF (v2 vadd (v2 vsub (v2 vsub (v2 vidx (vVar 1) (vC (.int 1))) (v2 vidx (vVar 0) (vC (.int 1)))) (v2 vidx (vVar 1) (vC (.int 3)))) (v2 vidx (vVar 0) (vC (.int 3)))))))
    (seq (sSet 5 (oX (exF (v2 vmul (vC (.int 2)) (v2 vsub (v2 vidx (vVar 1) (vC (.int 2))) (v2 vidx (vVar 0) (vC (.int 2))))))))
    (seq (sSet 6 (oX (exF (v2 vsub (v2 vadd (v2 vsub (v2 vidx (vVar 1) (vC (.int 1))) (v2 vidx (vVar 0) (vC (.int 1)))) (v2 vidx (vVar 1) (vC (.int 3)))) (v2 vidx (vVar 0) (vC (.int 3)))))))
    (seq (sSet 7 (oX (exF (v2 vmul (vC (.int 2)) (v2 vidx (vVar 2) (vC (.int 0)))))))
    (seq (sSet 8 (oX (exF (v2 vsub (v2 vidx (vVar 2) (vC (.int 1))) (v2 vidx (vVar 2) (vC (.int 3)))))))
    (seq (sSet 9 (oX (exF (v2 vmul (vC (.int 2)) (v2 vidx (vVar 2) (vC (.int 2)))))))
    (seq (sSet 10 (oX (exF (v2 vadd (v2 vidx (vVar 2) (vC (.int 1))) (v2 vidx (vVar 2) (vC (.int 3)))))))
    (sRet (oX (exF (vtup (aCons (v2 vsub (v2 vsub (v2 vadd (v2 vmul (vVar 3) (vVar 9)) (v2 vmul (v2 vmul (vC (.int 2)) (vVar 4)) (vVar 10))) (v2 vmul (vVar 5) (vVar 7))) (v2 vmul (v2 vmul (vC (.int 2)) (vVar 6)) (vVar 8))) (aCons (v2 vsub (v2 vsub (v2 vadd (v2 vmul (vVar 3) (vVar 10)) (v2 vmul (vVar 4) (vVar 9))) (v2 vmul (vVar 5) (vVar 8))) (v2 vmul (vVar 6) (vVar 7))) aNil))))))))))))))
def m_law_cross : List PyData → R PyData := frz (runB 11 g_law_cross)
theorem r_law_cross (a0 a1 a2 : PyData) : m_law_cross [a0, a1, a2] = fin (g_law_cross [some (.fz a0), some (.fz a1), some (.fz a2), none, none, none, none, none, none, none, none]) := frz_fin _ _ _
abbrev s_law_greatest : Stmt := topS 27
abbrev N_law_greatest : List Str := ["surds", "best", "surd"]
def b_law_greatest_1 : OEnv → SR := (sIf (tB (tst (v2 vgt (vapp m_law_surd_sign (aCons (v2 vsub (v2 vidx (vVar 2) (vC (.int 0))) (v2 vidx (vVar 1) (vC (.int 0)))) (aCons (v2 vsub (v2 vidx (vVar 2) (vC (.int 1))) (v2 vidx (vVar 1) (vC (.int 1)))) aNil))) (vC (.int 0)))))
    (seq (sSet 1 (oX (exF (vVar 2))))
    (pre (kill [0, 2]) sNx))
    (pre (kill [0, 2]) sNx))
def g_law_greatest : OEnv → SR := (seq (sSet 1 (oX (exF (v2 vidx (vVar 0) (vC (.int 0))))))
    (seq (sForK (ixF (isq (vVar 0))) (kill [0]) (gN 2) (kill [2]) (b_law_greatest_1))
    (sRet (oX (exF (vVar 1))))))
def m_law_greatest : List PyData → R PyData := frz (runB 3 g_law_greatest)
theorem r_law_greatest (a0 : PyData) : m_law_greatest [a0] = fin (g_law_greatest [some (.fz a0), none, none]) := frz_fin _ _ _
abbrev s_law_parted : Stmt := topS 28
abbrev N_law_parted : List Str := ["one", "other", "k", "far", "own", "spot"]
def e_law_parted_1 : PEnv → R PyData := (vapp m_law_cross (aCons (v2 vidx (vVar 0) (v2 vsub (vVar 2) (vC (.int 1)))) (aCons (v2 vidx (vVar 0) (vVar 2)) (aCons (vVar 5) aNil))))
def b_law_parted_2 : OEnv → SR := (seq (sSet 3 (oX (exF (vapp m_law_greatest (aCons (vlistOf (vcomp [5] (isq (vVar 1)) (gN 5) tyes (e_law_parted_1))) aNil)))))
    (seq (sSet 4 (oX (exF (vapp m_law_cross (aCons (v2 vidx (vVar 0) (v2 vsub (vVar 2) (vC (.int 1)))) (aCons (v2 vidx (vVar 0) (vVar 2)) (aCons (v2 vidx (vVar 0) (vVar 2)) aNil)))))))
    (sIf (tB (tst (v2 vle (vapp m_law_surd_sign (aCons (v2 vsub (v2 vidx (vVar 3) (vC (.int 0))) (v2 vidx (vVar 4) (vC (.int 0)))) (aCons (v2 vsub (v2 vidx (vVar 3) (vC (.int 1))) (v2 vidx (vVar 4) (vC (.int 1)))) aNil))) (vC (.int 0)))))
    (sRet (oX (exF (vC (.bool true)))))
    (pre (kill [2, 3, 4]) sNx))))
def g_law_parted : OEnv → SR := (seq (sFor (x1 vrange1 (exF (vapp vlen (aCons (vVar 0) aNil)))) (gN 2) (kill [2, 3, 4]) (b_law_parted_2))
    (pre (kill [0, 1]) (sRet (oX (exF (vC (.bool false)))))))
def m_law_parted : List PyData → R PyData := frz (runB 6 g_law_parted)
theorem r_law_parted (a0 a1 : PyData) : m_law_parted [a0, a1] = fin (g_law_parted [some (.fz a0), some (.fz a1), none, none, none, none]) := frz_fin _ _ _
abbrev s_law_overlap : Stmt := topS 29
abbrev N_law_overlap : List Str := ["one", "other"]
def g_law_overlap : OEnv → SR := (sRet (oX (exF (vand (vnot (vapp m_law_parted (aCons (vVar 0) (aCons (vVar 1) aNil)))) (vnot (vapp m_law_parted (aCons (vVar 1) (aCons (vVar 0) aNil))))))))
def m_law_overlap : List PyData → R PyData := frz (runB 2 g_law_overlap)
theorem r_law_overlap (a0 a1 : PyData) : m_law_overlap [a0, a1] = fin (g_law_overlap [some (.fz a0), some (.fz a1)]) := frz_fin _ _ _
abbrev s_law_same : Stmt := topS 30
abbrev N_law_same : List Str := ["told", "due", "k"]
def b_law_same_1 (self : List PyData → R PyData) : OEnv → SR := (sIf (tB (tnot (ttr (vapp self (aCons (v2 vidx (vVar 0) (vVar 2)) (aCons (v2 vidx (vVar 1) (vVar 2)) aNil))))))
    (sRet (oX (exF (vC (.bool false)))))
    (pre (kill [2]) sNx))
def g_law_same (self : List PyData → R PyData) : OEnv → SR := (seq (sIf (tB (ttr (v1 (visi "list") (vVar 1))))
    (sIf (tB (tor (tnot (ttr (v1 (visi "list") (vVar 0)))) (tst (v2 vne (vapp vlen (aCons (vVar 0) aNil)) (vapp vlen (aCons (vVar 1) aNil))))))
    (sRet (oX (exF (vC (.bool false)))))
    sNx)
    (sIf (tB (ttr (v1 (visi "tuple") (vVar 1))))
    (sIf (tB (tor (tnot (ttr (v1 (visi "tuple") (vVar 0)))) (tst (v2 vne (vapp vlen (aCons (vVar 0) aNil)) (vapp vlen (aCons (vVar 1) aNil))))))
    (sRet (oX (exF (vC (.bool false)))))
    sNx)
    (sIf (tB (tst (v1 visnone (vVar 1))))
    (sRet (oX (exF (v1 visnone (vVar 0)))))
    (sIf (tB (ttr (v1 (visi "bool") (vVar 1))))
    (sRet (oX (exF (vand (v1 (visi "bool") (vVar 0)) (v2 veq (vVar 0) (vVar 1))))))
    (sIf (tB (ttr (v1 (visi "int") (vVar 1))))
    (sRet (oX (exF (vand (v1 (visi "int") (vVar 0)) (vand (vnot (v1 (visi "bool") (vVar 0))) (v2 veq (vVar 0) (vVar 1)))))))
    (sRet (oX (exF (vand (v1 (visi "str") (vVar 0)) (v2 veq (vVar 0) (vVar 1)))))))))))
    (seq (sFor (x1 vrange1 (exF (vapp vlen (aCons (vVar 1) aNil)))) (gN 2) (kill [2]) (b_law_same_1 self))
    (pre (kill [0, 1]) (sRet (oX (exF (vC (.bool true))))))))
def m_law_same : Nat → List PyData → R PyData
  | 0 => fun _ => .stuck
  | n + 1 => frz (runB 3 (g_law_same (m_law_same n)))
theorem r_law_same (n : Nat) (a0 a1 : PyData) : m_law_same (n + 1) [a0, a1] = fin (g_law_same (m_law_same n) [some (.fz a0), some (.fz a1), none]) := frz_fin _ _ _
abbrev s_law_room : Stmt := topS 31
abbrev N_law_room : List Str := ["draws", "at", "width", "pose"]
def g_law_room : OEnv → SR := (seq (sSet 3 (oX (exF (vtup (aCons (vtup (aCons (v2 vsub (v2 vmod (v2 vidx (vVar 0) (vVar 1)) (vC (.int 9))) (vC (.int 4))) (aCons (v2 vsub (v2 vmod (v2 vidx (vVar 0) (v2 vadd (vVar 1) (vC (.int 1)))) (vC (.int 9))) (vC (.int 4))) (aCons (v2 vsub (v2 vmod (v2 vidx (vVar 0) (v2 vadd (vVar 1) (vC (.int 2)))) (vC (.int 9))) (vC (.int 4))) (aCons (v2 vsub (v2 vmod (v2 vidx (vVar 0) (v2 vadd (vVar 1) (vC (.int 3)))) (vC (.int 9))) (vC (.int 4))) aNil))))) (aCons (v2 vmod (v2 vidx (vVar 0) (v2 vadd (vVar 1) (vC (.int 4)))) (vC (.int 8))) aNil))))))
    (seq (sIf (tB (tst (v2 veq (v2 vmod (v2 vidx (vVar 0) (v2 vadd (vVar 1) (vC (.int 5)))) (vC (.int 2))) (vC (.int 0)))))
    (sRet (oX (exF (vapp m_law_straight_room (aCons (vVar 3) (aCons (v2 vadd (vC (.int 1)) (v2 vmod (v2 vidx (vVar 0) (v2 vadd (vVar 1) (vC (.int 6)))) (vC (.int 12)))) (aCons (vVar 2) aNil)))))))
    sNx)
    (sRet (oX (exF (vapp m_law_curve_room (aCons (vVar 3) (aCons (v2 vadd (v2 vadd (vVar 2) (vC (.int 1))) (v2 vmod (v2 vidx (vVar 0) (v2 vadd (vVar 1) (vC (.int 6)))) (vC (.int 12)))) (aCons (v2 vidx (vlistOf (aCons (vC (.str "left")) (aCons (vC (.str "right")) aNil))) (v2 vmod (v2 vfdiv (v2 vidx (vVar 0) (v2 vadd (vVar 1) (vC (.int 5)))) (vC (.int 2))) (vC (.int 2)))) (aCons (vVar 2) aNil))))))))))
def m_law_room : List PyData → R PyData := frz (runB 4 g_law_room)
theorem r_law_room (a0 a1 a2 : PyData) : m_law_room [a0, a1, a2] = fin (g_law_room [some (.fz a0), some (.fz a1), some (.fz a2), none]) := frz_fin _ _ _
abbrev s_law_moved : Stmt := topS 32
abbrev N_law_moved : List Str := ["room", "spot", "turn", "corner"]
def e_law_moved_1 : PEnv → R PyData := (vapp m_law_plus (aCons (vVar 1) (aCons (vapp m_law_turned (aCons (vVar 3) (aCons (vVar 2) aNil))) aNil)))
def g_law_moved : OEnv → SR := (sRet (oX (exF (vlistOf (vcomp [3] (isq (vVar 0)) (gN 3) tyes (e_law_moved_1))))))
def m_law_moved : List PyData → R PyData := frz (runB 4 g_law_moved)
theorem r_law_moved (a0 a1 a2 : PyData) : m_law_moved [a0, a1, a2] = fin (g_law_moved [some (.fz a0), some (.fz a1), some (.fz a2), none]) := frz_fin _ _ _
abbrev s_law_agrees : Stmt := topS 33
abbrev N_law_agrees : List Str := ["one", "other", "due", "first", "second", "told"]
def g_law_agrees : OEnv → SR := (seq (sSet 2 (oX (exF (vapp m_law_overlap (aCons (vVar 0) (aCons (vVar 1) aNil))))))
    (seq (sSet 3 (oX (exF (vlistOf (isq (vVar 0))))))
    (seq (sSet 4 (oX (exF (vlistOf (isq (vVar 1))))))
    (seq (sSet 5 (oX (exF (vapp m_overlap (aCons (vVar 3) (aCons (vVar 4) aNil))))))
    (seq (sIf (tB (tor (tnot (ttr (vapp (m_law_same 10) (aCons (vVar 5) (aCons (vVar 2) aNil))))) (tnot (ttr (vapp (m_law_same 10) (aCons (vapp m_overlap (aCons (vVar 4) (aCons (vVar 3) aNil))) (aCons (vVar 2) aNil)))))))
    (sRet (oX (exF (vC (.bool false)))))
    (pre (kill [2, 5]) sNx))
    (sRet (oX (exF (vand (v2 veq (vVar 3) (vVar 0)) (v2 veq (vVar 4) (vVar 1)))))))))))
def m_law_agrees : List PyData → R PyData := frz (runB 6 g_law_agrees)
theorem r_law_agrees (a0 a1 : PyData) : m_law_agrees [a0, a1] = fin (g_law_agrees [some (.fz a0), some (.fz a1), none, none, none, none]) := frz_fin _ _ _
abbrev s_law : Stmt := topS 34
abbrev N_law : List Str := ["script", "at", "draws", "width", "one", "other", "far", "turned", "pair", "due", "length", "pose", "track", "beside", "ahead", "near", "spot"]
def b_law_1 : OEnv → SR := (seq (sIf (tB (tnot (ttr (vapp m_law_agrees (aCons (v2 vidx (vVar 8) (vC (.int 0))) (aCons (v2 vidx (vVar 8) (vC (.int 1))) aNil))))))
    (sRet (oX (exF (vC (.bool false)))))
    (pre (kill [4, 5, 7]) sNx))
    (seq (sSet 9 (oX (exF (vapp m_law_overlap (aCons (v2 vidx (vVar 8) (vC (.int 0))) (aCons (v2 vidx (vVar 8) (vC (.int 1))) aNil))))))
    (sIf (tB (tst (v2 vne (vapp m_overlap (aCons (vapp m_law_moved (aCons (v2 vidx (vVar 8) (vC (.int 0))) (aCons (vVar 6) (aCons (v2 vidx (vVar 2) (vC (.int 19))) aNil)))) (aCons (vapp m_law_moved (aCons (v2 vidx (vVar 8) (vC (.int 1))) (aCons (vVar 6) (aCons (v2 vidx (vVar 2) (vC (.int 19))) aNil)))) aNil))) (vVar 9))))
    (sRet (oX (exF (vC (.bool false)))))
    (pre (kill [8, 9]) sNx))))
def b_law_2 : OEnv → SR := (sIf (tB (tnot (ttr (vapp (m_law_same 10) (aCons (vapp m_overlap (aCons (vVar 12) (aCons (vVar 16) aNil))) (aCons (vVar 9) aNil))))))
    (sRet (oX (exF (vC (.bool false)))))
    (pre (kill [9, 13, 14, 15, 16]) sNx))
def b_law_3 : OEnv → SR := (seq (sSet 2 (oX (exF (vapp m_law_numbers (aCons (vapp m_law_cell (aCons (vVar 0) (aCons (vVar 1) aNil))) (aCons (vC (.int 20)) (aCons (vC (.int 5040)) aNil)))))))
    (seq (sSet 3 (oX (exF (v2 vadd (vC (.int 1)) (v2 vmod (v2 vidx (vVar 2) (vC (.int 14))) (vC (.int 4)))))))
    (seq (sSet 4 (oX (exF (vapp m_law_room (aCons (vVar 2) (aCons (vC (.int 0)) (aCons (vVar 3) aNil)))))))
    (seq (sSet 5 (oX (exF (vapp m_law_room (aCons (vVar 2) (aCons (vC (.int 7)) (aCons (vVar 3) aNil)))))))
    (seq (sSet 6 (oX (exF (vtup (aCons (v2 vsub (v2 vidx (vVar 2) (vC (.int 15))) (vC (.int 2000))) (aCons (v2 vidx (vVar 2) (vC (.int 16))) (aCons (v2 vsub (v2 vidx (vVar 2) (vC (.int 17))) (vC (.int 999))) (aCons (v2 vidx (vVar 2) (vC (.int 18))) aNil))))))))
    (seq (sSet 7 (oX (exF (vapp m_law_moved (aCons (vVar 5) (aCons (vtup (aCons (vC (.int 0)) (aCons (vC (.int 0)) (aCons (vC (.int 0)) (aCons (vC (.int 0)) aNil))))) (aCons (v2 vidx (vVar 2) (vC (.int 19))) aNil)))))))
    (pre (kill [1]) (seq (sForK (ixF (isq (vlistOf (aCons (vtup (aCons (vVar 4) (aCons (vVar 5) aNil))) (aCons (vtup (aCons (vVar 4) (aCons (vVar 4) aNil))) (aCons (vtup (aCons (vVar 4) (aCons (vVar 7) aNil))) (aCons (vtup (aCons (vVar 5) (aCons (vapp m_law_moved (aCons (vVar 4) (aCons (vVar 6) (aCons (vC (.int 0)) aNil)))) aNil))) aNil))))))) (kill [4, 5, 7]) (gN 8) (kill [8, 9]) (b_law_1))
    (pre (kill [6]) (seq (sSet 10 (oX (exF (v2 vadd (vC (.int 1)) (v2 vmod (v2 vidx (vVar 2) (vC (.int 6))) (vC (.int 12)))))))
    (seq (sSet 11 (oX (exF (vtup (aCons (vtup (aCons (v2 vidx (vVar 2) (vC (.int 0))) (aCons (v2 vidx (vVar 2) (vC (.int 1))) (aCons (v2 vidx (vVar 2) (vC (.int 2))) (aCons (v2 vidx (vVar 2) (vC (.int 3))) aNil))))) (aCons (v2 vmod (v2 vidx (vVar 2) (vC (.int 4))) (vC (.int 8))) aNil))))))
    (seq (sSet 12 (oX (exF (vapp m_law_straight_room (aCons (vVar 11) (aCons (vVar 10) (aCons (vVar 3) aNil)))))))
    (seq (sSet 13 (oX (exF (vapp m_law_moved (aCons (vVar 12) (aCons (vapp m_law_ray (aCons (v2 vmul (vC (.int 2)) (vVar 3)) (aCons (v2 vadd (v2 vidx (vVar 11) (vC (.int 1))) (vC (.int 2))) aNil))) (aCons (vC (.int 0)) aNil)))))))
    (seq (sSet 14 (oX (exF (vapp m_law_moved (aCons (vVar 12) (aCons (vapp m_law_ray (aCons (vVar 10) (aCons (v2 vidx (vVar 11) (vC (.int 1))) aNil))) (aCons (vC (.int 0)) aNil)))))))
    (seq (sSet 15 (oX (exF (vapp m_law_moved (aCons (vVar 12) (aCons (vapp m_law_ray (aCons (v2 vsub (v2 vmul (vC (.int 2)) (vVar 3)) (vC (.int 1))) (aCons (v2 vadd (v2 vidx (vVar 11) (vC (.int 1))) (vC (.int 2))) aNil))) (aCons (vC (.int 0)) aNil)))))))
    (pre (kill [2, 3, 10, 11]) (sForK (ixF (isq (vlistOf (aCons (vtup (aCons (vVar 13) (aCons (vC (.bool false)) aNil))) (aCons (vtup (aCons (vVar 14) (aCons (vC (.bool false)) aNil))) (aCons (vtup (aCons (vVar 15) (aCons (vC (.bool true)) aNil))) (aCons (vtup (aCons (vVar 12) (aCons (vC (.bool true)) aNil))) aNil))))))) (kill [13, 14, 15]) (gT (gC (gN 16) (gC (gN 9) gE))) (kill [9, 16]) (b_law_2))))))))))))))))))
def g_law : OEnv → SR := (seq (sFor (x1 vrange1 (exF (vC (.int 4)))) (gN 1) (kill [1, 2, 3, 4, 5, 6, 7, 8, 9, 10, 11, 12, 13, 14, 15, 16]) (b_law_3))
    (pre (kill [0, 12]) (sRet (oX (exF (vC (.bool true)))))))
def m_law : List PyData → R PyData := frz (runB 17 g_law)
theorem r_law (a0 : PyData) : m_law [a0] = fin (g_law [some (.fz a0), none, none, none, none, none, none, none, none, none, none, none, none, none, none, none, none]) := frz_fin _ _ _
end
structure Txt (K : PySem.W.Frag) (mg : Str → Option Value) where
  f_spot_less : Addr
  d_spot_less : FuncData
  F_spot_less : Fun K "spot_less" "spot_less" s_spot_less f_spot_less d_spot_less
  g_spot_less : mg "spot_less" = some (.ref f_spot_less)
  B_spot_less : Binds K d_spot_less ["one", "other"] []
  f_doubled : Addr
  d_doubled : FuncData
  F_doubled : Fun K "doubled" "doubled" s_doubled f_doubled d_doubled
  g_doubled : mg "doubled" = some (.ref f_doubled)
  B_doubled : Binds K d_doubled ["spot"] []
  f_number_sign : Addr
  d_number_sign : FuncData
  F_number_sign : Fun K "number_sign" "number_sign" s_number_sign f_number_sign d_number_sign
  g_number_sign : mg "number_sign" = some (.ref f_number_sign)
  B_number_sign : Binds K d_number_sign ["number"] []
  f_surd_sign : Addr
  d_surd_sign : FuncData
  F_surd_sign : Fun K "surd_sign" "surd_sign" s_surd_sign f_surd_sign d_surd_sign
  g_surd_sign : mg "surd_sign" = some (.ref f_surd_sign)
  B_surd_sign : Binds K d_surd_sign ["surd"] []
  f_surd_sum : Addr
  d_surd_sum : FuncData
  F_surd_sum : Fun K "surd_sum" "surd_sum" s_surd_sum f_surd_sum d_surd_sum
  g_surd_sum : mg "surd_sum" = some (.ref f_surd_sum)
  B_surd_sum : Binds K d_surd_sum ["one", "other"] []
  f_surd_opposite : Addr
  d_surd_opposite : FuncData
  F_surd_opposite : Fun K "surd_opposite" "surd_opposite" s_surd_opposite f_surd_opposite d_surd_opposite
  g_surd_opposite : mg "surd_opposite" = some (.ref f_surd_opposite)
  B_surd_opposite : Binds K d_surd_opposite ["surd"] []
  f_surd_product : Addr
  d_surd_product : FuncData
  F_surd_product : Fun K "surd_product" "surd_product" s_surd_product f_surd_product d_surd_product
  g_surd_product : mg "surd_product" = some (.ref f_surd_product)
  B_surd_product : Binds K d_surd_product ["one", "other"] []
  f_turn_sign : Addr
  d_turn_sign : FuncData
  F_turn_sign : Fun K "turn_sign" "turn_sign" s_turn_sign f_turn_sign d_turn_sign
  g_turn_sign : mg "turn_sign" = some (.ref f_turn_sign)
  B_turn_sign : Binds K d_turn_sign ["start", "stop", "spot"] []
  f_lies_outside : Addr
  d_lies_outside : FuncData
  F_lies_outside : Fun K "lies_outside" "lies_outside" s_lies_outside f_lies_outside d_lies_outside
  g_lies_outside : mg "lies_outside" = some (.ref f_lies_outside)
  B_lies_outside : Binds K d_lies_outside ["room", "start", "stop"] []
  f_has_dividing_edge : Addr
  d_has_dividing_edge : FuncData
  F_has_dividing_edge : Fun K "has_dividing_edge" "has_dividing_edge" s_has_dividing_edge f_has_dividing_edge d_has_dividing_edge
  g_has_dividing_edge : mg "has_dividing_edge" = some (.ref f_has_dividing_edge)
  B_has_dividing_edge : Binds K d_has_dividing_edge ["one", "other"] []
  f_overlap : Addr
  d_overlap : FuncData
  F_overlap : Fun K "overlap" "overlap" s_overlap f_overlap d_overlap
  g_overlap : mg "overlap" = some (.ref f_overlap)
  B_overlap : Binds K d_overlap ["one", "other"] []
  f__law_cell : Addr
  d__law_cell : FuncData
  F__law_cell : Fun K "_law_cell" "_law_cell" s_law_cell f__law_cell d__law_cell
  g__law_cell : mg "_law_cell" = some (.ref f__law_cell)
  B__law_cell : Binds K d__law_cell ["script", "k"] []
  f__law_numbers : Addr
  d__law_numbers : FuncData
  F__law_numbers : Fun K "_law_numbers" "_law_numbers" s_law_numbers f__law_numbers d__law_numbers
  g__law_numbers : mg "_law_numbers" = some (.ref f__law_numbers)
  B__law_numbers : Binds K d__law_numbers ["cell", "count", "limit"] []
  f__law_plus : Addr
  d__law_plus : FuncData
  F__law_plus : Fun K "_law_plus" "_law_plus" s_law_plus f__law_plus d__law_plus
  g__law_plus : mg "_law_plus" = some (.ref f__law_plus)
  B__law_plus : Binds K d__law_plus ["one", "other"] []
  f__law_turned : Addr
  d__law_turned : FuncData
  F__law_turned : Fun K "_law_turned" "_law_turned" s_law_turned f__law_turned d__law_turned
  g__law_turned : mg "_law_turned" = some (.ref f__law_turned)
  B__law_turned : Binds K d__law_turned ["spot", "k"] []
  f__law_then : Addr
  d__law_then : FuncData
  F__law_then : Fun K "_law_then" "_law_then" s_law_then f__law_then d__law_then
  g__law_then : mg "_law_then" = some (.ref f__law_then)
  B__law_then : Binds K d__law_then ["one", "other"] []
  f__law_end : Addr
  d__law_end : FuncData
  F__law_end : Fun K "_law_end" "_law_end" s_law_end f__law_end d__law_end
  g__law_end : mg "_law_end" = some (.ref f__law_end)
  B__law_end : Binds K d__law_end ["piece", "end"] []
  f__law_ray : Addr
  d__law_ray : FuncData
  F__law_ray : Fun K "_law_ray" "_law_ray" s_law_ray f__law_ray d__law_ray
  g__law_ray : mg "_law_ray" = some (.ref f__law_ray)
  B__law_ray : Binds K d__law_ray ["units", "k"] []
  f__law_minus : Addr
  d__law_minus : FuncData
  F__law_minus : Fun K "_law_minus" "_law_minus" s_law_minus f__law_minus d__law_minus
  g__law_minus : mg "_law_minus" = some (.ref f__law_minus)
  B__law_minus : Binds K d__law_minus ["one", "other"] []
  f__law_straight_room : Addr
  d__law_straight_room : FuncData
  F__law_straight_room : Fun K "_law_straight_room" "_law_straight_room" s_law_straight_room f__law_straight_room d__law_straight_room
  g__law_straight_room : mg "_law_straight_room" = some (.ref f__law_straight_room)
  B__law_straight_room : Binds K d__law_straight_room ["pose", "length", "width"] []
  f__law_curve_room : Addr
  d__law_curve_room : FuncData
  F__law_curve_room : Fun K "_law_curve_room" "_law_curve_room" s_law_curve_room f__law_curve_room d__law_curve_room
  g__law_curve_room : mg "_law_curve_room" = some (.ref f__law_curve_room)
  B__law_curve_room : Binds K d__law_curve_room ["pose", "radius", "side", "width"] []
  f__law_surd_sign : Addr
  d__law_surd_sign : FuncData
  F__law_surd_sign : Fun K "_law_surd_sign" "_law_surd_sign" s_law_surd_sign f__law_surd_sign d__law_surd_sign
  g__law_surd_sign : mg "_law_surd_sign" = some (.ref f__law_surd_sign)
  B__law_surd_sign : Binds K d__law_surd_sign ["m", "n"] []
  f__law_cross : Addr
  d__law_cross : FuncData
  F__law_cross : Fun K "_law_cross" "_law_cross" s_law_cross f__law_cross d__law_cross
  g__law_cross : mg "_law_cross" = some (.ref f__law_cross)
  B__law_cross : Binds K d__law_cross ["start", "stop", "spot"] []
  f__law_greatest : Addr
  d__law_greatest : FuncData
  F__law_greatest : Fun K "_law_greatest" "_law_greatest" s_law_greatest f__law_greatest d__law_greatest
  g__law_greatest : mg "_law_greatest" = some (.ref f__law_greatest)
  B__law_greatest : Binds K d__law_greatest ["surds"] []
  f__law_parted : Addr
  d__law_parted : FuncData
  F__law_parted : Fun K "_law_parted" "_law_parted" s_law_parted f__law_parted d__law_parted
  g__law_parted : mg "_law_parted" = some (.ref f__law_parted)
  B__law_parted : Binds K d__law_parted ["one", "other"] []
  f__law_overlap : Addr
  d__law_overlap : FuncData
  F__law_overlap : Fun K "_law_overlap" "_law_overlap" s_law_overlap f__law_overlap d__law_overlap
  g__law_overlap : mg "_law_overlap" = some (.ref f__law_overlap)
  B__law_overlap : Binds K d__law_overlap ["one", "other"] []
  f__law_same : Addr
  d__law_same : FuncData
  F__law_same : Fun K "_law_same" "_law_same" s_law_same f__law_same d__law_same
  g__law_same : mg "_law_same" = some (.ref f__law_same)
  B__law_same : Binds K d__law_same ["told", "due"] []
  f__law_room : Addr
  d__law_room : FuncData
  F__law_room : Fun K "_law_room" "_law_room" s_law_room f__law_room d__law_room
  g__law_room : mg "_law_room" = some (.ref f__law_room)
  B__law_room : Binds K d__law_room ["draws", "at", "width"] []
  f__law_moved : Addr
  d__law_moved : FuncData
  F__law_moved : Fun K "_law_moved" "_law_moved" s_law_moved f__law_moved d__law_moved
  g__law_moved : mg "_law_moved" = some (.ref f__law_moved)
  B__law_moved : Binds K d__law_moved ["room", "spot", "turn"] []
  f__law_agrees : Addr
  d__law_agrees : FuncData
  F__law_agrees : Fun K "_law_agrees" "_law_agrees" s_law_agrees f__law_agrees d__law_agrees
  g__law_agrees : mg "_law_agrees" = some (.ref f__law_agrees)
  B__law_agrees : Binds K d__law_agrees ["one", "other"] []
  f_law : Addr
  d_law : FuncData
  F_law : Fun K "law" "law" s_law f_law d_law
  g_law : mg "law" = some (.ref f_law)
  B_law : Binds K d_law ["script"] []
  b_all : mg "all" = none
  b_bool : mg "bool" = none
  b_int : mg "int" = none
  b_isinstance : mg "isinstance" = none
  b_len : mg "len" = none
  b_list : mg "list" = none
  b_range : mg "range" = none
  b_str : mg "str" = none
  b_tuple : mg "tuple" = none
section
variable {P : Program} {w : World} {K : PySem.W.Frag} {mg : Str → Option Value} {base : Heap}
theorem sc_spot_less : FnScope N_spot_less ["one", "other"] (defScope s_spot_less) := ⟨rfl, rfl, rfl, by decide +kernel, rfl, by decide +kernel, by decide +kernel⟩
theorem ok_spot_less (T : Txt K mg) : FnOk P w K mg base (L2.CX P w) 1 T.f_spot_less T.d_spot_less ["one", "other"] (spV K mg 2 m_spot_less) := by
  refine fn_frz (g := runB 2 g_spot_less) ?_
  refine fn_vl T.F_spot_less sc_spot_less rfl fun cdv A outer s H E hr => ?_
  have hu := hu65 hr
  have nd := sc_spot_less.nd
  have tk := takes_of (X := cxOf (L2.CX P w) P w K mg base N_spot_less "spot_less" (defScope s_spot_less) T.f_spot_less cdv A outer s H E) rfl rfl rfl rfl
  have hp := passes_of (X := cxOf (L2.CX P w) P w K mg base N_spot_less "spot_less" (defScope s_spot_less) T.f_spot_less cdv A outer s H E) rfl
  exact (vss_one (vs_ret (vo_x (vxF (vtup_ (van_cons (vsub_ (vidx_ (vv 0) vint) (vidx_ (vv 1) vint)) (van_cons (vsub_ (vidx_ (vv 0) vint) (vidx_ (vv 1) vint)) (van_cons (vsub_ (vidx_ (vv 0) vint) (vidx_ (vv 1) vint)) (van_cons (vsub_ (vidx_ (vv 0) vint) (vidx_ (vv 1) vint)) van_nil)))))))))
theorem sc_doubled : FnScope N_doubled ["spot"] (defScope s_doubled) := ⟨rfl, rfl, rfl, by decide +kernel, rfl, by decide +kernel, by decide +kernel⟩
theorem ok_doubled (T : Txt K mg) : FnOk P w K mg base (L2.CX P w) 1 T.f_doubled T.d_doubled ["spot"] (spV K mg 1 m_doubled) := by
  refine fn_frz (g := runB 1 g_doubled) ?_
  refine fn_vl T.F_doubled sc_doubled rfl fun cdv A outer s H E hr => ?_
  have hu := hu65 hr
  have nd := sc_doubled.nd
  have tk := takes_of (X := cxOf (L2.CX P w) P w K mg base N_doubled "doubled" (defScope s_doubled) T.f_doubled cdv A outer s H E) rfl rfl rfl rfl
  have hp := passes_of (X := cxOf (L2.CX P w) P w K mg base N_doubled "doubled" (defScope s_doubled) T.f_doubled cdv A outer s H E) rfl
  exact (vss_one (vs_ret (vo_x (vxF (vtup_ (van_cons (vtup_ (van_cons (vmul_ vint (vidx_ (vv 0) vint)) (van_cons (vsub_ (vidx_ (vv 0) vint) (vidx_ (vv 0) vint)) van_nil))) (van_cons (vtup_ (van_cons (vmul_ vint (vidx_ (vv 0) vint)) (van_cons (vadd_ (vidx_ (vv 0) vint) (vidx_ (vv 0) vint)) van_nil))) van_nil)))))))
theorem sc_number_sign : FnScope N_number_sign ["number"] (defScope s_number_sign) := ⟨rfl, rfl, rfl, by decide +kernel, rfl, by decide +kernel, by decide +kernel⟩
theorem ok_number_sign (T : Txt K mg) : FnOk P w K mg base (L2.CX P w) 1 T.f_number_sign T.d_number_sign ["number"] (spV K mg 1 m_number_sign) := by
  refine fn_frz (g := runB 1 g_number_sign) ?_
  refine fn_vl T.F_number_sign sc_number_sign rfl fun cdv A outer s H E hr => ?_
  have hu := hu65 hr
  have nd := sc_number_sign.nd
  have tk := takes_of (X := cxOf (L2.CX P w) P w K mg base N_number_sign "number_sign" (defScope s_number_sign) T.f_number_sign cdv A outer s H E) rfl rfl rfl rfl
  have hp := passes_of (X := cxOf (L2.CX P w) P w K mg base N_number_sign "number_sign" (defScope s_number_sign) T.f_number_sign cdv A outer s H E) rfl
  exact (qs_cons (vs_if (qx_T (qgt (vv 0) vint))
      (vss_one (vs_ret (vo_x (vxF vint))))
      qs_nil)
      (qs_cons (vs_if (qx_T (qlt (vv 0) vint))
      (vss_one (vs_ret (vo_x (vxF (vneg_ vint)))))
      (qs_t (envT_kill _ [0]) qs_nil))
      (vss_one (vs_ret (vo_x (vxF vint))))))
theorem sc_surd_sign : FnScope N_surd_sign ["surd"] (defScope s_surd_sign) := ⟨rfl, rfl, rfl, by decide +kernel, rfl, by decide +kernel, by decide +kernel⟩
theorem ok_surd_sign (T : Txt K mg) : FnOk P w K mg base (L2.CX P w) 2 T.f_surd_sign T.d_surd_sign ["surd"] (spV K mg 1 m_surd_sign) := by
  refine fn_frz (g := runB 5 g_surd_sign) ?_
  refine fn_vl T.F_surd_sign sc_surd_sign rfl fun cdv A outer s H E hr => ?_
  have hu := hu65 hr
  have nd := sc_surd_sign.nd
  have tk := takes_of (X := cxOf (L2.CX P w) P w K mg base N_surd_sign "surd_sign" (defScope s_surd_sign) T.f_surd_sign cdv A outer s H E) rfl rfl rfl rfl
  have hp := passes_of (X := cxOf (L2.CX P w) P w K mg base N_surd_sign "surd_sign" (defScope s_surd_sign) T.f_surd_sign cdv A outer s H E) rfl
  exact (qs_cons (vs_tup (vg_tup rfl (vgs_cons (vg 1 nd) (vgs_cons (vg 2 nd) vgs_nil))) (vxF (vv 0)))
      (qs_cons (vs_set 3 nd (vo_x (vxF (vcall (ok_number_sign T) (hr.mono (by decide)) T.g_number_sign T.F_number_sign.kp T.B_number_sign tk (van_cons (vv 1) van_nil)))))
      (qs_cons (vs_set 4 nd (vo_x (vxF (vcall (ok_number_sign T) (hr.mono (by decide)) T.g_number_sign T.F_number_sign.kp T.B_number_sign tk (van_cons (vv 2) van_nil)))))
      (qs_cons (vs_if (qx_T (VW.vt (vw_or (qeq hu (vv 3) vint) (vw_or1 (qeq hu (vv 3) (vv 4))))))
      (vss_one (vs_ret (vo_x (vxF (vif_ (qeq hu (vv 3) vint) (vv 4) (vv 3))))))
      (qs_t (envT_kill _ [0]) qs_nil))
      (qs_cons (vs_if (qx_T (qeq hu (vv 4) vint))
      (vss_one (vs_ret (vo_x (vxF (vv 3)))))
      qs_nil)
      (qs_cons (vs_if (qx_T (qgt (vmul_ (vv 1) (vv 1)) (vmul_ (vmul_ vint (vv 2)) (vv 2))))
      (vss_one (vs_ret (vo_x (vxF (vv 3)))))
      (qs_t (envT_kill _ [1, 2, 3]) qs_nil))
      (vss_one (vs_ret (vo_x (vxF (vv 4)))))))))))
theorem sc_surd_sum : FnScope N_surd_sum ["one", "other"] (defScope s_surd_sum) := ⟨rfl, rfl, rfl, by decide +kernel, rfl, by decide +kernel, by decide +kernel⟩
theorem ok_surd_sum (T : Txt K mg) : FnOk P w K mg base (L2.CX P w) 1 T.f_surd_sum T.d_surd_sum ["one", "other"] (spV K mg 2 m_surd_sum) := by
  refine fn_frz (g := runB 2 g_surd_sum) ?_
  refine fn_vl T.F_surd_sum sc_surd_sum rfl fun cdv A outer s H E hr => ?_
  have hu := hu65 hr
  have nd := sc_surd_sum.nd
  have tk := takes_of (X := cxOf (L2.CX P w) P w K mg base N_surd_sum "surd_sum" (defScope s_surd_sum) T.f_surd_sum cdv A outer s H E) rfl rfl rfl rfl
  have hp := passes_of (X := cxOf (L2.CX P w) P w K mg base N_surd_sum "surd_sum" (defScope s_surd_sum) T.f_surd_sum cdv A outer s H E) rfl
  exact (vss_one (vs_ret (vo_x (vxF (vtup_ (van_cons (vadd_ (vidx_ (vv 0) vint) (vidx_ (vv 1) vint)) (van_cons (vadd_ (vidx_ (vv 0) vint) (vidx_ (vv 1) vint)) van_nil)))))))
theorem sc_surd_opposite : FnScope N_surd_opposite ["surd"] (defScope s_surd_opposite) := ⟨rfl, rfl, rfl, by decide +kernel, rfl, by decide +kernel, by decide +kernel⟩
theorem ok_surd_opposite (T : Txt K mg) : FnOk P w K mg base (L2.CX P w) 1 T.f_surd_opposite T.d_surd_opposite ["surd"] (spV K mg 1 m_surd_opposite) := by
  refine fn_frz (g := runB 1 g_surd_opposite) ?_
  refine fn_vl T.F_surd_opposite sc_surd_opposite rfl fun cdv A outer s H E hr => ?_
  have hu := hu65 hr
  have nd := sc_surd_opposite.nd
  have tk := takes_of (X := cxOf (L2.CX P w) P w K mg base N_surd_opposite "surd_opposite" (defScope s_surd_opposite) T.f_surd_opposite cdv A outer s H E) rfl rfl rfl rfl
  have hp := passes_of (X := cxOf (L2.CX P w) P w K mg base N_surd_opposite "surd_opposite" (defScope s_surd_opposite) T.f_surd_opposite cdv A outer s H E) rfl
  exact (vss_one (vs_ret (vo_x (vxF (vtup_ (van_cons (vneg_ (vidx_ (vv 0) vint)) (van_cons (vneg_ (vidx_ (vv 0) vint)) van_nil)))))))
theorem sc_surd_product : FnScope N_surd_product ["one", "other"] (defScope s_surd_product) := ⟨rfl, rfl, rfl, by decide +kernel, rfl, by decide +kernel, by decide +kernel⟩
theorem ok_surd_product (T : Txt K mg) : FnOk P w K mg base (L2.CX P w) 1 T.f_surd_product T.d_surd_product ["one", "other"] (spV K mg 2 m_surd_product) := by
  refine fn_frz (g := runB 2 g_surd_product) ?_
  refine fn_vl T.F_surd_product sc_surd_product rfl fun cdv A outer s H E hr => ?_
  have hu := hu65 hr
  have nd := sc_surd_product.nd
  have tk := takes_of (X := cxOf (L2.CX P w) P w K mg base N_surd_product "surd_product" (defScope s_surd_product) T.f_surd_product cdv A outer s H E) rfl rfl rfl rfl
  have hp := passes_of (X := cxOf (L2.CX P w) P w K mg base N_surd_product "surd_product" (defScope s_surd_product) T.f_surd_product cdv A outer s H E) rfl
  exact (vss_one (vs_ret (vo_x (vxF (vtup_ (van_cons (vadd_ (vmul_ (vidx_ (vv 0) vint) (vidx_ (vv 1) vint)) (vmul_ (vmul_ vint (vidx_ (vv 0) vint)) (vidx_ (vv 1) vint))) (van_cons (vadd_ (vmul_ (vidx_ (vv 0) vint) (vidx_ (vv 1) vint)) (vmul_ (vidx_ (vv 0) vint) (vidx_ (vv 1) vint))) van_nil)))))))
theorem sc_turn_sign : FnScope N_turn_sign ["start", "stop", "spot"] (defScope s_turn_sign) := ⟨rfl, rfl, rfl, by decide +kernel, rfl, by decide +kernel, by decide +kernel⟩
theorem ok_turn_sign (T : Txt K mg) : FnOk P w K mg base (L2.CX P w) 3 T.f_turn_sign T.d_turn_sign ["start", "stop", "spot"] (spV K mg 3 m_turn_sign) := by
  refine fn_frz (g := runB 7 g_turn_sign) ?_
  refine fn_vl T.F_turn_sign sc_turn_sign rfl fun cdv A outer s H E hr => ?_
  have hu := hu65 hr
  have nd := sc_turn_sign.nd
  have tk := takes_of (X := cxOf (L2.CX P w) P w K mg base N_turn_sign "turn_sign" (defScope s_turn_sign) T.f_turn_sign cdv A outer s H E) rfl rfl rfl rfl
  have hp := passes_of (X := cxOf (L2.CX P w) P w K mg base N_turn_sign "turn_sign" (defScope s_turn_sign) T.f_turn_sign cdv A outer s H E) rfl
  exact (qs_cons (vs_set 3 nd (vo_x (vxF (vcall (ok_doubled T) (hr.mono (by decide)) T.g_doubled T.F_doubled.kp T.B_doubled tk (van_cons (vcall (ok_spot_less T) (hr.mono (by decide)) T.g_spot_less T.F_spot_less.kp T.B_spot_less tk (van_cons (vv 1) (van_cons (vv 0) van_nil))) van_nil)))))
      (qs_cons (vs_set 4 nd (vo_x (vxF (vcall (ok_doubled T) (hr.mono (by decide)) T.g_doubled T.F_doubled.kp T.B_doubled tk (van_cons (vcall (ok_spot_less T) (hr.mono (by decide)) T.g_spot_less T.F_spot_less.kp T.B_spot_less tk (van_cons (vv 2) (van_cons (vv 0) van_nil))) van_nil)))))
      (qs_cons (vs_set 5 nd (vo_x (vxF (vcall (ok_surd_product T) (hr.mono (by decide)) T.g_surd_product T.F_surd_product.kp T.B_surd_product tk (van_cons (vidx_ (vv 3) vint) (van_cons (vidx_ (vv 4) vint) van_nil))))))
      (qs_cons (vs_set 6 nd (vo_x (vxF (vcall (ok_surd_product T) (hr.mono (by decide)) T.g_surd_product T.F_surd_product.kp T.B_surd_product tk (van_cons (vidx_ (vv 3) vint) (van_cons (vidx_ (vv 4) vint) van_nil))))))
      (vss_one (vs_ret (vo_x (vxF (vcall (ok_surd_sign T) (hr.mono (by decide)) T.g_surd_sign T.F_surd_sign.kp T.B_surd_sign tk (van_cons (vcall (ok_surd_sum T) (hr.mono (by decide)) T.g_surd_sum T.F_surd_sum.kp T.B_surd_sum tk (van_cons (vv 5) (van_cons (vcall (ok_surd_opposite T) (hr.mono (by decide)) T.g_surd_opposite T.F_surd_opposite.kp T.B_surd_opposite tk (van_cons (vv 6) van_nil)) van_nil))) van_nil))))))))))
theorem sc_lies_outside : FnScope N_lies_outside ["room", "start", "stop"] (defScope s_lies_outside) := ⟨rfl, rfl, rfl, by decide +kernel, rfl, by decide +kernel, by decide +kernel⟩
theorem ok_lies_outside (T : Txt K mg) : FnOk P w K mg base (L2.CX P w) 4 T.f_lies_outside T.d_lies_outside ["room", "start", "stop"] (spV K mg 3 m_lies_outside) := by
  refine fn_frz (g := runB 4 g_lies_outside) ?_
  refine fn_vl T.F_lies_outside sc_lies_outside rfl fun cdv A outer s H E hr => ?_
  have hu := hu65 hr
  have nd := sc_lies_outside.nd
  have tk := takes_of (X := cxOf (L2.CX P w) P w K mg base N_lies_outside "lies_outside" (defScope s_lies_outside) T.f_lies_outside cdv A outer s H E) rfl rfl rfl rfl
  have hp := passes_of (X := cxOf (L2.CX P w) P w K mg base N_lies_outside "lies_outside" (defScope s_lies_outside) T.f_lies_outside cdv A outer s H E) rfl
  exact (vss_one (vs_ret (vo_x (vxF (vall_ rfl T.b_all (VAn.va (van_cons (VFr.ve (qcomp rfl nd (vi_seq (vv 0)) (blkOk_by (own := [("corner", 3)]) (N := N_lies_outside) (sc := defScope s_lies_outside) (by decide +kernel)) rfl (fun _ _ _ _ _ => (vg 3 nd)) (by decide) (fun _ _ _ _ _ => vts_nil) (fun _ _ _ _ _ => (vle_ (vcall (ok_turn_sign T) (hr.mono (by decide)) T.g_turn_sign T.F_turn_sign.kp T.B_turn_sign VL.takes0 (van_cons (vv 1) (van_cons (vv 2) (van_cons (vv 3) van_nil)))) vint)))) van_nil)))))))
theorem sc_has_dividing_edge : FnScope N_has_dividing_edge ["one", "other"] (defScope s_has_dividing_edge) := ⟨rfl, rfl, rfl, by decide +kernel, rfl, by decide +kernel, by decide +kernel⟩
theorem ok_has_dividing_edge (T : Txt K mg) : FnOk P w K mg base (L2.CX P w) 5 T.f_has_dividing_edge T.d_has_dividing_edge ["one", "other"] (spV K mg 2 m_has_dividing_edge) := by
  refine fn_frz (g := runB 3 g_has_dividing_edge) ?_
  refine fn_vl T.F_has_dividing_edge sc_has_dividing_edge rfl fun cdv A outer s H E hr => ?_
  have hu := hu65 hr
  have nd := sc_has_dividing_edge.nd
  have tk := takes_of (X := cxOf (L2.CX P w) P w K mg base N_has_dividing_edge "has_dividing_edge" (defScope s_has_dividing_edge) T.f_has_dividing_edge cdv A outer s H E) rfl rfl rfl rfl
  have hp := passes_of (X := cxOf (L2.CX P w) P w K mg base N_has_dividing_edge "has_dividing_edge" (defScope s_has_dividing_edge) T.f_has_dividing_edge cdv A outer s H E) rfl
  exact (qs_cons (vs_for hp rfl (vix_range1 T.b_range (vxF (vlen_ T.b_len (VAn.va (van_cons (vv 0) van_nil))))) (vg 2 nd) (envT_kill _ [2])
      (vss_one (vs_if (qx_T (qtruth (vcall (ok_lies_outside T) (hr.mono (by decide)) T.g_lies_outside T.F_lies_outside.kp T.B_lies_outside tk (van_cons (vv 1) (van_cons (vidx_ (vv 0) (vsub_ (vv 2) vint)) (van_cons (vidx_ (vv 0) (vv 2)) van_nil))))))
      (vss_one (vs_ret (vo_x (vxF vbool))))
      (qs_t (envT_kill _ [2]) qs_nil))))
      (qs_t (envT_kill _ [0, 1]) (vss_one (vs_ret (vo_x (vxF vbool))))))
theorem sc_overlap : FnScope N_overlap ["one", "other"] (defScope s_overlap) := ⟨rfl, rfl, rfl, by decide +kernel, rfl, by decide +kernel, by decide +kernel⟩
theorem ok_overlap (T : Txt K mg) : FnOk P w K mg base (L2.CX P w) 6 T.f_overlap T.d_overlap ["one", "other"] (spV K mg 2 m_overlap) := by
  refine fn_frz (g := runB 2 g_overlap) ?_
  refine fn_vl T.F_overlap sc_overlap rfl fun cdv A outer s H E hr => ?_
  have hu := hu65 hr
  have nd := sc_overlap.nd
  have tk := takes_of (X := cxOf (L2.CX P w) P w K mg base N_overlap "overlap" (defScope s_overlap) T.f_overlap cdv A outer s H E) rfl rfl rfl rfl
  have hp := passes_of (X := cxOf (L2.CX P w) P w K mg base N_overlap "overlap" (defScope s_overlap) T.f_overlap cdv A outer s H E) rfl
  exact (vss_one (vs_ret (vo_x (vxF (vand_ (vnot_ (vcall (ok_has_dividing_edge T) (hr.mono (by decide)) T.g_has_dividing_edge T.F_has_dividing_edge.kp T.B_has_dividing_edge tk (van_cons (vv 0) (van_cons (vv 1) van_nil)))) (vone (vnot_ (vcall (ok_has_dividing_edge T) (hr.mono (by decide)) T.g_has_dividing_edge T.F_has_dividing_edge.kp T.B_has_dividing_edge tk (van_cons (vv 1) (van_cons (vv 0) van_nil))))))))))
theorem sc_law_cell : FnScope N_law_cell ["script", "k"] (defScope s_law_cell) := ⟨rfl, rfl, rfl, by decide +kernel, rfl, by decide +kernel, by decide +kernel⟩
theorem ok_law_cell (T : Txt K mg) : FnOk P w K mg base (L2.CX P w) 1 T.f__law_cell T.d__law_cell ["script", "k"] (spV K mg 2 m_law_cell) := by
  refine fn_frz (g := runB 2 g_law_cell) ?_
  refine fn_vl T.F__law_cell sc_law_cell rfl fun cdv A outer s H E hr => ?_
  have hu := hu65 hr
  have nd := sc_law_cell.nd
  have tk := takes_of (X := cxOf (L2.CX P w) P w K mg base N_law_cell "_law_cell" (defScope s_law_cell) T.f__law_cell cdv A outer s H E) rfl rfl rfl rfl
  have hp := passes_of (X := cxOf (L2.CX P w) P w K mg base N_law_cell "_law_cell" (defScope s_law_cell) T.f__law_cell cdv A outer s H E) rfl
  exact (qs_cons (vs_if (qx_T (qlt (vv 1) (vlen_ T.b_len (VAn.va (van_cons (vv 0) van_nil)))))
      (vss_one (vs_ret (vo_x (vxF (vint_ T.b_int (VAn.va (van_cons (vidx_ (vv 0) (vv 1)) van_nil)))))))
      (qs_t (envT_kill _ [0, 1]) qs_nil))
      (vss_one (vs_ret (vo_x (vxF vint)))))
theorem sc_law_numbers : FnScope N_law_numbers ["cell", "count", "limit"] (defScope s_law_numbers) := ⟨rfl, rfl, rfl, by decide +kernel, rfl, by decide +kernel, by decide +kernel⟩
theorem ok_law_numbers (T : Txt K mg) : FnOk P w K mg base (L2.CX P w) 1 T.f__law_numbers T.d__law_numbers ["cell", "count", "limit"] (spV K mg 3 m_law_numbers) := by
  refine fn_frz (g := runB 6 g_law_numbers) ?_
  refine fn_vl T.F__law_numbers sc_law_numbers rfl fun cdv A outer s H E hr => ?_
  have hu := hu65 hr
  have nd := sc_law_numbers.nd
  have tk := takes_of (X := cxOf (L2.CX P w) P w K mg base N_law_numbers "_law_numbers" (defScope s_law_numbers) T.f__law_numbers cdv A outer s H E) rfl rfl rfl rfl
  have hp := passes_of (X := cxOf (L2.CX P w) P w K mg base N_law_numbers "_law_numbers" (defScope s_law_numbers) T.f__law_numbers cdv A outer s H E) rfl
  exact (qs_cons (vs_set 3 nd (vo_frF (vlst_f van_nil)))
      (qs_cons (vs_if (qx_T (qge (vv 0) (vpow_ vint vint)))
      (qs_cons (vs_forK hp rfl (vix_range1 T.b_range (vxF (vv 1))) (vg 4 nd) (rs_kill _ [1]) (envT_kill _ [4])
      (qs_cons (vs_app 3 (fun p => pe_bm PySem.F.plainAttrs_list PySem.F.slot_list_append PySem.F.type_list_append mt_append (pv 3) (pa_cons p pa_nil)) (vo_x (vxF (vmod_ (vint_ T.b_int (VAn.va (van_cons (vv 0) van_nil))) (vv 2)))))
      (vss_one (vs_set 0 nd (vo_x (vxF (vfdiv_ (vint_ T.b_int (VAn.va (van_cons (vv 0) van_nil))) (vv 2))))))))
      (qs_t (envT_kill _ [0, 2, 4]) (qs_t (envT_freeze _ [3]) (vss_one (vs_ret (vo_x (vxF (vv 3))))))))
      qs_nil)
      (qs_cons (vs_forK hp rfl (vix_range1 T.b_range (vxF (vv 1))) (vg 4 nd) (rs_kill _ [1]) (envT_kill _ [4, 5])
      (qs_cons (vs_set 5 nd (vo_x (vxF (vmod_ (vint_ T.b_int (VAn.va (van_cons (vadd_ (vadd_ (vmul_ (vv 0) vint) (vmul_ (vv 4) vint)) vint) van_nil))) vint))))
      (qs_cons (vs_set 5 nd (vo_x (vxF (vmod_ (vint_ T.b_int (VAn.va (van_cons (vadd_ (vadd_ (vadd_ (vmul_ (vv 5) (vv 5)) (vmul_ (vv 5) vint)) (vmul_ (vv 4) vint)) vint) van_nil))) vint))))
      (vss_one (vs_app 3 (fun p => pe_bm PySem.F.plainAttrs_list PySem.F.slot_list_append PySem.F.type_list_append mt_append (pv 3) (pa_cons p pa_nil)) (vo_x (vxF (vmod_ (vint_ T.b_int (VAn.va (van_cons (vfdiv_ (vv 5) vint) van_nil))) (vv 2)))))))))
      (qs_t (envT_kill _ [0, 2, 4, 5]) (qs_t (envT_freeze _ [3]) (vss_one (vs_ret (vo_x (vxF (vv 3))))))))))
theorem sc_law_plus : FnScope N_law_plus ["one", "other"] (defScope s_law_plus) := ⟨rfl, rfl, rfl, by decide +kernel, rfl, by decide +kernel, by decide +kernel⟩
theorem ok_law_plus (T : Txt K mg) : FnOk P w K mg base (L2.CX P w) 1 T.f__law_plus T.d__law_plus ["one", "other"] (spV K mg 2 m_law_plus) := by
  refine fn_frz (g := runB 2 g_law_plus) ?_
  refine fn_vl T.F__law_plus sc_law_plus rfl fun cdv A outer s H E hr => ?_
  have hu := hu65 hr
  have nd := sc_law_plus.nd
  have tk := takes_of (X := cxOf (L2.CX P w) P w K mg base N_law_plus "_law_plus" (defScope s_law_plus) T.f__law_plus cdv A outer s H E) rfl rfl rfl rfl
  have hp := passes_of (X := cxOf (L2.CX P w) P w K mg base N_law_plus "_law_plus" (defScope s_law_plus) T.f__law_plus cdv A outer s H E) rfl
  exact (vss_one (vs_ret (vo_x (vxF (vtup_ (van_cons (vadd_ (vidx_ (vv 0) vint) (vidx_ (vv 1) vint)) (van_cons (vadd_ (vidx_ (vv 0) vint) (vidx_ (vv 1) vint)) (van_cons (vadd_ (vidx_ (vv 0) vint) (vidx_ (vv 1) vint)) (van_cons (vadd_ (vidx_ (vv 0) vint) (vidx_ (vv 1) vint)) van_nil)))))))))
theorem sc_law_turned : FnScope N_law_turned ["spot", "k"] (defScope s_law_turned) := ⟨rfl, rfl, rfl, by decide +kernel, rfl, by decide +kernel, by decide +kernel⟩
theorem ok_law_turned (T : Txt K mg) : FnOk P w K mg base (L2.CX P w) 1 T.f__law_turned T.d__law_turned ["spot", "k"] (spV K mg 2 m_law_turned) := by
  refine fn_frz (g := runB 7 g_law_turned) ?_
  refine fn_vl T.F__law_turned sc_law_turned rfl fun cdv A outer s H E hr => ?_
  have hu := hu65 hr
  have nd := sc_law_turned.nd
  have tk := takes_of (X := cxOf (L2.CX P w) P w K mg base N_law_turned "_law_turned" (defScope s_law_turned) T.f__law_turned cdv A outer s H E) rfl rfl rfl rfl
  have hp := passes_of (X := cxOf (L2.CX P w) P w K mg base N_law_turned "_law_turned" (defScope s_law_turned) T.f__law_turned cdv A outer s H E) rfl
  exact (qs_cons (vs_tup (vg_tup rfl (vgs_cons (vg 2 nd) (vgs_cons (vg 3 nd) (vgs_cons (vg 4 nd) (vgs_cons (vg 5 nd) vgs_nil))))) (vxF (vv 0)))
      (qs_cons (vs_set 6 nd (vo_x (vxF (VFr.ve (vlst_f (van_cons (vv 2) (van_cons (vv 3) (van_cons (vv 4) (van_cons (vv 5) (van_cons (vneg_ (vv 2)) (van_cons (vneg_ (vv 3)) (van_cons (vneg_ (vv 4)) (van_cons (vneg_ (vv 5)) van_nil)))))))))))))
      (qs_cons (vs_set 1 nd (vo_x (vxF (vmod_ (vint_ T.b_int (VAn.va (van_cons (vv 1) van_nil))) vint))))
      (vss_one (vs_ret (vo_x (vxF (vtup_ (van_cons (vidx_ (vv 6) (vmod_ (vint_ T.b_int (VAn.va (van_cons (vsub_ vint (vv 1)) van_nil))) vint)) (van_cons (vidx_ (vv 6) (vmod_ (vint_ T.b_int (VAn.va (van_cons (vsub_ vint (vv 1)) van_nil))) vint)) (van_cons (vidx_ (vv 6) (vmod_ (vint_ T.b_int (VAn.va (van_cons (vsub_ vint (vv 1)) van_nil))) vint)) (van_cons (vidx_ (vv 6) (vmod_ (vint_ T.b_int (VAn.va (van_cons (vsub_ vint (vv 1)) van_nil))) vint)) van_nil))))))))))))
theorem sc_law_then : FnScope N_law_then ["one", "other"] (defScope s_law_then) := ⟨rfl, rfl, rfl, by decide +kernel, rfl, by decide +kernel, by decide +kernel⟩
theorem ok_law_then (T : Txt K mg) : FnOk P w K mg base (L2.CX P w) 2 T.f__law_then T.d__law_then ["one", "other"] (spV K mg 2 m_law_then) := by
  refine fn_frz (g := runB 2 g_law_then) ?_
  refine fn_vl T.F__law_then sc_law_then rfl fun cdv A outer s H E hr => ?_
  have hu := hu65 hr
  have nd := sc_law_then.nd
  have tk := takes_of (X := cxOf (L2.CX P w) P w K mg base N_law_then "_law_then" (defScope s_law_then) T.f__law_then cdv A outer s H E) rfl rfl rfl rfl
  have hp := passes_of (X := cxOf (L2.CX P w) P w K mg base N_law_then "_law_then" (defScope s_law_then) T.f__law_then cdv A outer s H E) rfl
  exact (vss_one (vs_ret (vo_x (vxF (vtup_ (van_cons (vcall (ok_law_plus T) (hr.mono (by decide)) T.g__law_plus T.F__law_plus.kp T.B__law_plus tk (van_cons (vidx_ (vv 0) vint) (van_cons (vcall (ok_law_turned T) (hr.mono (by decide)) T.g__law_turned T.F__law_turned.kp T.B__law_turned tk (van_cons (vidx_ (vv 1) vint) (van_cons (vidx_ (vv 0) vint) van_nil))) van_nil))) (van_cons (vmod_ (vint_ T.b_int (VAn.va (van_cons (vadd_ (vidx_ (vv 0) vint) (vidx_ (vv 1) vint)) van_nil))) vint) van_nil)))))))
theorem sc_law_end : FnScope N_law_end ["piece", "end"] (defScope s_law_end) := ⟨rfl, rfl, rfl, by decide +kernel, rfl, by decide +kernel, by decide +kernel⟩
theorem ok_law_end (T : Txt K mg) : FnOk P w K mg base (L2.CX P w) 2 T.f__law_end T.d__law_end ["piece", "end"] (spV K mg 2 m_law_end) := by
  refine fn_frz (g := runB 5 g_law_end) ?_
  refine fn_vl T.F__law_end sc_law_end rfl fun cdv A outer s H E hr => ?_
  have hu := hu65 hr
  have nd := sc_law_end.nd
  have tk := takes_of (X := cxOf (L2.CX P w) P w K mg base N_law_end "_law_end" (defScope s_law_end) T.f__law_end cdv A outer s H E) rfl rfl rfl rfl
  have hp := passes_of (X := cxOf (L2.CX P w) P w K mg base N_law_end "_law_end" (defScope s_law_end) T.f__law_end cdv A outer s H E) rfl
  exact (qs_cons (vs_if (qx_T (qeq hu (vv 1) vint))
      (vss_one (vs_ret (vo_x (vxF (vtup_ (van_cons (vtup_ (van_cons vint (van_cons vint (van_cons vint (van_cons vint van_nil))))) (van_cons vint van_nil)))))))
      qs_nil)
      (qs_cons (vs_if (qx_T (VW.vt (vw_or (qeq hu (vidx_ (vv 0) vint) vstr) (vw_or1 (VW.vt (vw_and (qeq hu (vidx_ (vv 0) vint) vstr) (vw_and1 (qeq hu (vv 1) vint))))))))
      (qs_cons (vs_set 2 nd (vo_x (vxF (vidx_ (vv 0) (vsub_ (vlen_ T.b_len (VAn.va (van_cons (vv 0) van_nil))) vint)))))
      (qs_cons (vs_if (qx_T (qeq hu (vidx_ (vv 0) (vsub_ (vlen_ T.b_len (VAn.va (van_cons (vv 0) van_nil))) vint)) vstr))
      (vss_one (vs_ret (vo_x (vxF (vtup_ (van_cons (vtup_ (van_cons vint (van_cons vint (van_cons (vv 2) (van_cons (vneg_ (vv 2)) van_nil))))) (van_cons vint van_nil)))))))
      (qs_t (envT_kill _ [0, 1]) qs_nil))
      (vss_one (vs_ret (vo_x (vxF (vtup_ (van_cons (vtup_ (van_cons vint (van_cons (vv 2) (van_cons (vneg_ (vv 2)) (van_cons vint van_nil))))) (van_cons vint van_nil)))))))))
      qs_nil)
      (qs_cons (vs_if (qx_T (VW.vt (vw_and (qeq hu (vidx_ (vv 0) vint) vstr) (vw_and1 (qgt (vv 1) vint)))))
      (qs_cons (vs_set 3 nd (vo_x (vxF (vfdiv_ (vidx_ (vv 0) vint) vint))))
      (qs_cons (vs_set 4 nd (vo_x (vxF (vmod_ (vint_ T.b_int (VAn.va (van_cons (vadd_ (vadd_ (vidx_ (vv 0) vint) (vmul_ vint (vsub_ (vv 1) vint))) vint) van_nil))) vint))))
      (vss_one (vs_ret (vo_x (vxF (vtup_ (van_cons (vcall (ok_law_plus T) (hr.mono (by decide)) T.g__law_plus T.F__law_plus.kp T.B__law_plus tk (van_cons (vtup_ (van_cons (vv 3) (van_cons vint (van_cons vint (van_cons vint van_nil))))) (van_cons (vcall (ok_law_turned T) (hr.mono (by decide)) T.g__law_turned T.F__law_turned.kp T.B__law_turned tk (van_cons (vtup_ (van_cons (vv 3) (van_cons vint (van_cons vint (van_cons vint van_nil))))) (van_cons (vv 4) van_nil))) van_nil))) (van_cons (vv 4) van_nil)))))))))
      (qs_t (envT_kill _ [1]) qs_nil))
      (vss_one (vs_ret (vo_x (vxF (vtup_ (van_cons (vtup_ (van_cons (vidx_ (vv 0) vint) (van_cons vint (van_cons vint (van_cons vint van_nil))))) (van_cons vint van_nil))))))))))
theorem sc_law_ray : FnScope N_law_ray ["units", "k"] (defScope s_law_ray) := ⟨rfl, rfl, rfl, by decide +kernel, rfl, by decide +kernel, by decide +kernel⟩
theorem ok_law_ray (T : Txt K mg) : FnOk P w K mg base (L2.CX P w) 2 T.f__law_ray T.d__law_ray ["units", "k"] (spV K mg 2 m_law_ray) := by
  refine fn_frz (g := runB 2 g_law_ray) ?_
  refine fn_vl T.F__law_ray sc_law_ray rfl fun cdv A outer s H E hr => ?_
  have hu := hu65 hr
  have nd := sc_law_ray.nd
  have tk := takes_of (X := cxOf (L2.CX P w) P w K mg base N_law_ray "_law_ray" (defScope s_law_ray) T.f__law_ray cdv A outer s H E) rfl rfl rfl rfl
  have hp := passes_of (X := cxOf (L2.CX P w) P w K mg base N_law_ray "_law_ray" (defScope s_law_ray) T.f__law_ray cdv A outer s H E) rfl
  exact (vss_one (vs_ret (vo_x (vxF (vcall (ok_law_turned T) (hr.mono (by decide)) T.g__law_turned T.F__law_turned.kp T.B__law_turned tk (van_cons (vtup_ (van_cons (vv 0) (van_cons vint (van_cons vint (van_cons vint van_nil))))) (van_cons (vv 1) van_nil)))))))
theorem sc_law_minus : FnScope N_law_minus ["one", "other"] (defScope s_law_minus) := ⟨rfl, rfl, rfl, by decide +kernel, rfl, by decide +kernel, by decide +kernel⟩
theorem ok_law_minus (T : Txt K mg) : FnOk P w K mg base (L2.CX P w) 1 T.f__law_minus T.d__law_minus ["one", "other"] (spV K mg 2 m_law_minus) := by
  refine fn_frz (g := runB 2 g_law_minus) ?_
  refine fn_vl T.F__law_minus sc_law_minus rfl fun cdv A outer s H E hr => ?_
  have hu := hu65 hr
  have nd := sc_law_minus.nd
  have tk := takes_of (X := cxOf (L2.CX P w) P w K mg base N_law_minus "_law_minus" (defScope s_law_minus) T.f__law_minus cdv A outer s H E) rfl rfl rfl rfl
  have hp := passes_of (X := cxOf (L2.CX P w) P w K mg base N_law_minus "_law_minus" (defScope s_law_minus) T.f__law_minus cdv A outer s H E) rfl
  exact (vss_one (vs_ret (vo_x (vxF (vtup_ (van_cons (vsub_ (vidx_ (vv 0) vint) (vidx_ (vv 1) vint)) (van_cons (vsub_ (vidx_ (vv 0) vint) (vidx_ (vv 1) vint)) (van_cons (vsub_ (vidx_ (vv 0) vint) (vidx_ (vv 1) vint)) (van_cons (vsub_ (vidx_ (vv 0) vint) (vidx_ (vv 1) vint)) van_nil)))))))))
theorem sc_law_straight_room : FnScope N_law_straight_room ["pose", "length", "width"] (defScope s_law_straight_room) := ⟨rfl, rfl, rfl, by decide +kernel, rfl, by decide +kernel, by decide +kernel⟩
theorem ok_law_straight_room (T : Txt K mg) : FnOk P w K mg base (L2.CX P w) 3 T.f__law_straight_room T.d__law_straight_room ["pose", "length", "width"] (spV K mg 3 m_law_straight_room) := by
  refine fn_frz (g := runB 7 g_law_straight_room) ?_
  refine fn_vl T.F__law_straight_room sc_law_straight_room rfl fun cdv A outer s H E hr => ?_
  have hu := hu65 hr
  have nd := sc_law_straight_room.nd
  have tk := takes_of (X := cxOf (L2.CX P w) P w K mg base N_law_straight_room "_law_straight_room" (defScope s_law_straight_room) T.f__law_straight_room cdv A outer s H E) rfl rfl rfl rfl
  have hp := passes_of (X := cxOf (L2.CX P w) P w K mg base N_law_straight_room "_law_straight_room" (defScope s_law_straight_room) T.f__law_straight_room cdv A outer s H E) rfl
  exact (qs_cons (vs_tup (vg_tup rfl (vgs_cons (vg 3 nd) (vgs_cons (vg 4 nd) vgs_nil))) (vxF (vv 0)))
      (qs_cons (vs_set 5 nd (vo_x (vxF (vcall (ok_law_ray T) (hr.mono (by decide)) T.g__law_ray T.F__law_ray.kp T.B__law_ray tk (van_cons (vv 2) (van_cons (vadd_ (vv 4) vint) van_nil))))))
      (qs_cons (vs_set 6 nd (vo_x (vxF (vcall (ok_law_plus T) (hr.mono (by decide)) T.g__law_plus T.F__law_plus.kp T.B__law_plus tk (van_cons (vv 3) (van_cons (vcall (ok_law_ray T) (hr.mono (by decide)) T.g__law_ray T.F__law_ray.kp T.B__law_ray tk (van_cons (vv 1) (van_cons (vv 4) van_nil))) van_nil))))))
      (vss_one (vs_ret (vo_x (vxF (VFr.ve (vlst_f (van_cons (vcall (ok_law_minus T) (hr.mono (by decide)) T.g__law_minus T.F__law_minus.kp T.B__law_minus tk (van_cons (vv 3) (van_cons (vv 5) van_nil))) (van_cons (vcall (ok_law_minus T) (hr.mono (by decide)) T.g__law_minus T.F__law_minus.kp T.B__law_minus tk (van_cons (vv 6) (van_cons (vv 5) van_nil))) (van_cons (vcall (ok_law_plus T) (hr.mono (by decide)) T.g__law_plus T.F__law_plus.kp T.B__law_plus tk (van_cons (vv 6) (van_cons (vv 5) van_nil))) (van_cons (vcall (ok_law_plus T) (hr.mono (by decide)) T.g__law_plus T.F__law_plus.kp T.B__law_plus tk (van_cons (vv 3) (van_cons (vv 5) van_nil))) van_nil)))))))))))))
theorem sc_law_curve_room : FnScope N_law_curve_room ["pose", "radius", "side", "width"] (defScope s_law_curve_room) := ⟨rfl, rfl, rfl, by decide +kernel, rfl, by decide +kernel, by decide +kernel⟩
theorem ok_law_curve_room (T : Txt K mg) : FnOk P w K mg base (L2.CX P w) 3 T.f__law_curve_room T.d__law_curve_room ["pose", "radius", "side", "width"] (spV K mg 4 m_law_curve_room) := by
  refine fn_frz (g := runB 11 g_law_curve_room) ?_
  refine fn_vl T.F__law_curve_room sc_law_curve_room rfl fun cdv A outer s H E hr => ?_
  have hu := hu65 hr
  have nd := sc_law_curve_room.nd
  have tk := takes_of (X := cxOf (L2.CX P w) P w K mg base N_law_curve_room "_law_curve_room" (defScope s_law_curve_room) T.f__law_curve_room cdv A outer s H E) rfl rfl rfl rfl
  have hp := passes_of (X := cxOf (L2.CX P w) P w K mg base N_law_curve_room "_law_curve_room" (defScope s_law_curve_room) T.f__law_curve_room cdv A outer s H E) rfl
  exact (qs_cons (vs_tup (vg_tup rfl (vgs_cons (vg 4 nd) (vgs_cons (vg 5 nd) vgs_nil))) (vxF (vv 0)))
      (qs_cons (vs_set 6 nd (vo_x (vxF (vcall (ok_law_then T) (hr.mono (by decide)) T.g__law_then T.F__law_then.kp T.B__law_then tk (van_cons (vv 0) (van_cons (vcall (ok_law_end T) (hr.mono (by decide)) T.g__law_end T.F__law_end.kp T.B__law_end tk (van_cons (vtup_ (van_cons vstr (van_cons (vv 1) (van_cons (vv 2) van_nil)))) (van_cons vint van_nil))) van_nil))))))
      (qs_cons (vs_set 7 nd (vo_x (vxF (vcall (ok_law_ray T) (hr.mono (by decide)) T.g__law_ray T.F__law_ray.kp T.B__law_ray tk (van_cons (vv 3) (van_cons (vadd_ (vv 5) vint) van_nil))))))
      (qs_cons (vs_set 8 nd (vo_x (vxF (vcall (ok_law_ray T) (hr.mono (by decide)) T.g__law_ray T.F__law_ray.kp T.B__law_ray tk (van_cons (vv 3) (van_cons (vadd_ (vidx_ (vv 6) vint) vint) van_nil))))))
      (qs_cons (vs_set 9 nd (vo_x (vxF (vadd_ (vv 1) (vv 3)))))
      (qs_cons (vs_set 10 nd (vo_x (vxF (vcall (ok_law_turned T) (hr.mono (by decide)) T.g__law_turned T.F__law_turned.kp T.B__law_turned tk (van_cons (vtup_ (van_cons (vsub_ vint (vv 9)) (van_cons (vv 9) (van_cons vint (van_cons (vsub_ vint (vv 9)) van_nil))))) (van_cons (vv 5) van_nil))))))
      (qs_cons (vs_if (qx_T (qeq hu (vv 2) vstr))
      (vss_one (vs_ret (vo_x (vxF (VFr.ve (vlst_f (van_cons (vcall (ok_law_minus T) (hr.mono (by decide)) T.g__law_minus T.F__law_minus.kp T.B__law_minus tk (van_cons (vv 4) (van_cons (vv 7) van_nil))) (van_cons (vcall (ok_law_plus T) (hr.mono (by decide)) T.g__law_plus T.F__law_plus.kp T.B__law_plus tk (van_cons (vcall (ok_law_minus T) (hr.mono (by decide)) T.g__law_minus T.F__law_minus.kp T.B__law_minus tk (van_cons (vv 4) (van_cons (vv 7) van_nil))) (van_cons (vv 10) van_nil))) (van_cons (vcall (ok_law_minus T) (hr.mono (by decide)) T.g__law_minus T.F__law_minus.kp T.B__law_minus tk (van_cons (vidx_ (vv 6) vint) (van_cons (vv 8) van_nil))) (van_cons (vcall (ok_law_plus T) (hr.mono (by decide)) T.g__law_plus T.F__law_plus.kp T.B__law_plus tk (van_cons (vidx_ (vv 6) vint) (van_cons (vv 8) van_nil))) (van_cons (vcall (ok_law_plus T) (hr.mono (by decide)) T.g__law_plus T.F__law_plus.kp T.B__law_plus tk (van_cons (vv 4) (van_cons (vv 7) van_nil))) van_nil)))))))))))
      (qs_t (envT_kill _ [0, 1, 2, 3, 5, 9]) qs_nil))
      (vss_one (vs_ret (vo_x (vxF (VFr.ve (vlst_f (van_cons (vcall (ok_law_minus T) (hr.mono (by decide)) T.g__law_minus T.F__law_minus.kp T.B__law_minus tk (van_cons (vv 4) (van_cons (vv 7) van_nil))) (van_cons (vcall (ok_law_minus T) (hr.mono (by decide)) T.g__law_minus T.F__law_minus.kp T.B__law_minus tk (van_cons (vidx_ (vv 6) vint) (van_cons (vv 8) van_nil))) (van_cons (vcall (ok_law_plus T) (hr.mono (by decide)) T.g__law_plus T.F__law_plus.kp T.B__law_plus tk (van_cons (vidx_ (vv 6) vint) (van_cons (vv 8) van_nil))) (van_cons (vcall (ok_law_plus T) (hr.mono (by decide)) T.g__law_plus T.F__law_plus.kp T.B__law_plus tk (van_cons (vcall (ok_law_plus T) (hr.mono (by decide)) T.g__law_plus T.F__law_plus.kp T.B__law_plus tk (van_cons (vv 4) (van_cons (vv 7) van_nil))) (van_cons (vv 10) van_nil))) (van_cons (vcall (ok_law_plus T) (hr.mono (by decide)) T.g__law_plus T.F__law_plus.kp T.B__law_plus tk (van_cons (vv 4) (van_cons (vv 7) van_nil))) van_nil))))))))))))))))))
theorem sc_law_surd_sign : FnScope N_law_surd_sign ["m", "n"] (defScope s_law_surd_sign) := ⟨rfl, rfl, rfl, by decide +kernel, rfl, by decide +kernel, by decide +kernel⟩
theorem ok_law_surd_sign (T : Txt K mg) : FnOk P w K mg base (L2.CX P w) 1 T.f__law_surd_sign T.d__law_surd_sign ["m", "n"] (spV K mg 2 m_law_surd_sign) := by
  refine fn_frz (g := runB 2 g_law_surd_sign) ?_
  refine fn_vl T.F__law_surd_sign sc_law_surd_sign rfl fun cdv A outer s H E hr => ?_
  have hu := hu65 hr
  have nd := sc_law_surd_sign.nd
  have tk := takes_of (X := cxOf (L2.CX P w) P w K mg base N_law_surd_sign "_law_surd_sign" (defScope s_law_surd_sign) T.f__law_surd_sign cdv A outer s H E) rfl rfl rfl rfl
  have hp := passes_of (X := cxOf (L2.CX P w) P w K mg base N_law_surd_sign "_law_surd_sign" (defScope s_law_surd_sign) T.f__law_surd_sign cdv A outer s H E) rfl
  exact (qs_cons (vs_if (qx_T (VW.vt (vw_and (qge (vv 0) vint) (vw_and1 (qge (vv 1) vint)))))
      (vss_one (vs_ret (vo_x (vxF (vint_ T.b_int (VAn.va (van_cons (vgt_ (vadd_ (vv 0) (vv 1)) vint) van_nil)))))))
      qs_nil)
      (qs_cons (vs_if (qx_T (VW.vt (vw_and (qle (vv 0) vint) (vw_and1 (qle (vv 1) vint)))))
      (vss_one (vs_ret (vo_x (vxF (vneg_ vint)))))
      qs_nil)
      (qs_cons (vs_if (qx_T (qgt (vmul_ (vv 0) (vv 0)) (vmul_ (vmul_ vint (vv 1)) (vv 1))))
      (vss_one (vs_ret (vo_x (vxF (vsub_ vint (vmul_ vint (vint_ T.b_int (VAn.va (van_cons (vlt_ (vv 0) vint) van_nil)))))))))
      (qs_t (envT_kill _ [0]) qs_nil))
      (vss_one (vs_ret (vo_x (vxF (vsub_ vint (vmul_ vint (vint_ T.b_int (VAn.va (van_cons (vlt_ (vv 1) vint) van_nil))))))))))))
theorem sc_law_cross : FnScope N_law_cross ["start", "stop", "spot"] (defScope s_law_cross) := ⟨rfl, rfl, rfl, by decide +kernel, rfl, by decide +kernel, by decide +kernel⟩
theorem ok_law_cross (T : Txt K mg) : FnOk P w K mg base (L2.CX P w) 1 T.f__law_cross T.d__law_cross ["start", "stop", "spot"] (spV K mg 3 m_law_cross) := by
  refine fn_frz (g := runB 11 g_law_cross) ?_
  refine fn_vl T.F__law_cross sc_law_cross rfl fun cdv A outer s H E hr => ?_
  have hu := hu65 hr
  have nd := sc_law_cross.nd
  have tk := takes_of (X := cxOf (L2.CX P w) P w K mg base N_law_cross "_law_cross" (defScope s_law_cross) T.f__law_cross cdv A outer s H E) rfl rfl rfl rfl
  have hp := passes_of (X := cxOf (L2.CX P w) P w K mg base N_law_cross "_law_cross" (defScope s_law_cross) T.f__law_cross cdv A outer s H E) rfl
  exact (qs_cons (vs_set 3 nd (vo_x (vxF (vmul_ vint (vsub_ (vidx_ (vv 1) vint) (vidx_ (vv 0) vint))))))
      (qs_cons (vs_set 4 nd (vo_x (vxF (vadd_ (vsub_ (vsub_ (vidx_ (vv 1) vint) (vidx_ (vv 0) vint)) (vidx_ (vv 1) vint)) (vidx_ (vv 0) vint)))))
      (qs_cons (vs_set 5 nd (vo_x (vxF (vmul_ vint (vsub_ (vidx_ (vv 1) vint) (vidx_ (vv 0) vint))))))
      (qs_cons (vs_set 6 nd (vo_x (vxF (vsub_ (vadd_ (vsub_ (vidx_ (vv 1) vint) (vidx_ (vv 0) vint)) (vidx_ (vv 1) vint)) (vidx_ (vv 0) vint)))))
      (qs_cons (vs_set 7 nd (vo_x (vxF (vmul_ vint (vidx_ (vv 2) vint)))))
      (qs_cons (vs_set 8 nd (vo_x (vxF (vsub_ (vidx_ (vv 2) vint) (vidx_ (vv 2) vint)))))
      (qs_cons (vs_set 9 nd (vo_x (vxF (vmul_ vint (vidx_ (vv 2) vint)))))
      (qs_cons (vs_set 10 nd (vo_x (vxF (vadd_ (vidx_ (vv 2) vint) (vidx_ (vv 2) vint)))))
      (vss_one (vs_ret (vo_x (vxF (vtup_ (van_cons (vsub_ (vsub_ (vadd_ (vmul_ (vv 3) (vv 9)) (vmul_ (vmul_ vint (vv 4)) (vv 10))) (vmul_ (vv 5) (vv 7))) (vmul_ (vmul_ vint (vv 6)) (vv 8))) (van_cons (vsub_ (vsub_ (vadd_ (vmul_ (vv 3) (vv 10)) (vmul_ (vv 4) (vv 9))) (vmul_ (vv 5) (vv 8))) (vmul_ (vv 6) (vv 7))) van_nil)))))))))))))))
theorem sc_law_greatest : FnScope N_law_greatest ["surds"] (defScope s_law_greatest) := ⟨rfl, rfl, rfl, by decide +kernel, rfl, by decide +kernel, by decide +kernel⟩
theorem ok_law_greatest (T : Txt K mg) : FnOk P w K mg base (L2.CX P w) 2 T.f__law_greatest T.d__law_greatest ["surds"] (spV K mg 1 m_law_greatest) := by
  refine fn_frz (g := runB 3 g_law_greatest) ?_
  refine fn_vl T.F__law_greatest sc_law_greatest rfl fun cdv A outer s H E hr => ?_
  have hu := hu65 hr
  have nd := sc_law_greatest.nd
  have tk := takes_of (X := cxOf (L2.CX P w) P w K mg base N_law_greatest "_law_greatest" (defScope s_law_greatest) T.f__law_greatest cdv A outer s H E) rfl rfl rfl rfl
  have hp := passes_of (X := cxOf (L2.CX P w) P w K mg base N_law_greatest "_law_greatest" (defScope s_law_greatest) T.f__law_greatest cdv A outer s H E) rfl
  exact (qs_cons (vs_set 1 nd (vo_x (vxF (vidx_ (vv 0) vint))))
      (qs_cons (vs_forK hp rfl (qix_F (vi_seq (vv 0))) (vg 2 nd) (rs_kill _ [0]) (envT_kill _ [2])
      (vss_one (vs_if (qx_T (qgt (vcall (ok_law_surd_sign T) (hr.mono (by decide)) T.g__law_surd_sign T.F__law_surd_sign.kp T.B__law_surd_sign tk (van_cons (vsub_ (vidx_ (vv 2) vint) (vidx_ (vv 1) vint)) (van_cons (vsub_ (vidx_ (vv 2) vint) (vidx_ (vv 1) vint)) van_nil))) vint))
      (qs_cons (vs_set 1 nd (vo_x (vxF (vv 2))))
      (qs_t (envT_kill _ [0, 2]) qs_nil))
      (qs_t (envT_kill _ [0, 2]) qs_nil))))
      (vss_one (vs_ret (vo_x (vxF (vv 1)))))))
theorem sc_law_parted : FnScope N_law_parted ["one", "other"] (defScope s_law_parted) := ⟨rfl, rfl, rfl, by decide +kernel, rfl, by decide +kernel, by decide +kernel⟩
theorem ok_law_parted (T : Txt K mg) : FnOk P w K mg base (L2.CX P w) 3 T.f__law_parted T.d__law_parted ["one", "other"] (spV K mg 2 m_law_parted) := by
  refine fn_frz (g := runB 6 g_law_parted) ?_
  refine fn_vl T.F__law_parted sc_law_parted rfl fun cdv A outer s H E hr => ?_
  have hu := hu65 hr
  have nd := sc_law_parted.nd
  have tk := takes_of (X := cxOf (L2.CX P w) P w K mg base N_law_parted "_law_parted" (defScope s_law_parted) T.f__law_parted cdv A outer s H E) rfl rfl rfl rfl
  have hp := passes_of (X := cxOf (L2.CX P w) P w K mg base N_law_parted "_law_parted" (defScope s_law_parted) T.f__law_parted cdv A outer s H E) rfl
  exact (qs_cons (vs_for hp rfl (vix_range1 T.b_range (vxF (vlen_ T.b_len (VAn.va (van_cons (vv 0) van_nil))))) (vg 2 nd) (envT_kill _ [2, 3, 4])
      (qs_cons (vs_set 3 nd (vo_x (vxF (vcall (ok_law_greatest T) (hr.mono (by decide)) T.g__law_greatest T.F__law_greatest.kp T.B__law_greatest tk (van_cons (VFr.ve (qcomp rfl nd (vi_seq (vv 1)) (blkOk_by (own := [("spot", 5)]) (N := N_law_parted) (sc := defScope s_law_parted) (by decide +kernel)) rfl (fun _ _ _ _ _ => (vg 5 nd)) (by decide) (fun _ _ _ _ _ => vts_nil) (fun _ _ _ _ _ => (vcall (ok_law_cross T) (hr.mono (by decide)) T.g__law_cross T.F__law_cross.kp T.B__law_cross VL.takes0 (van_cons (vidx_ (vv 0) (vsub_ (vv 2) vint)) (van_cons (vidx_ (vv 0) (vv 2)) (van_cons (vv 5) van_nil))))))) van_nil)))))
      (qs_cons (vs_set 4 nd (vo_x (vxF (vcall (ok_law_cross T) (hr.mono (by decide)) T.g__law_cross T.F__law_cross.kp T.B__law_cross tk (van_cons (vidx_ (vv 0) (vsub_ (vv 2) vint)) (van_cons (vidx_ (vv 0) (vv 2)) (van_cons (vidx_ (vv 0) (vv 2)) van_nil)))))))
      (vss_one (vs_if (qx_T (qle (vcall (ok_law_surd_sign T) (hr.mono (by decide)) T.g__law_surd_sign T.F__law_surd_sign.kp T.B__law_surd_sign tk (van_cons (vsub_ (vidx_ (vv 3) vint) (vidx_ (vv 4) vint)) (van_cons (vsub_ (vidx_ (vv 3) vint) (vidx_ (vv 4) vint)) van_nil))) vint))
      (vss_one (vs_ret (vo_x (vxF vbool))))
      (qs_t (envT_kill _ [2, 3, 4]) qs_nil))))))
      (qs_t (envT_kill _ [0, 1]) (vss_one (vs_ret (vo_x (vxF vbool))))))
theorem sc_law_overlap : FnScope N_law_overlap ["one", "other"] (defScope s_law_overlap) := ⟨rfl, rfl, rfl, by decide +kernel, rfl, by decide +kernel, by decide +kernel⟩
theorem ok_law_overlap (T : Txt K mg) : FnOk P w K mg base (L2.CX P w) 4 T.f__law_overlap T.d__law_overlap ["one", "other"] (spV K mg 2 m_law_overlap) := by
  refine fn_frz (g := runB 2 g_law_overlap) ?_
  refine fn_vl T.F__law_overlap sc_law_overlap rfl fun cdv A outer s H E hr => ?_
  have hu := hu65 hr
  have nd := sc_law_overlap.nd
  have tk := takes_of (X := cxOf (L2.CX P w) P w K mg base N_law_overlap "_law_overlap" (defScope s_law_overlap) T.f__law_overlap cdv A outer s H E) rfl rfl rfl rfl
  have hp := passes_of (X := cxOf (L2.CX P w) P w K mg base N_law_overlap "_law_overlap" (defScope s_law_overlap) T.f__law_overlap cdv A outer s H E) rfl
  exact (vss_one (vs_ret (vo_x (vxF (vand_ (vnot_ (vcall (ok_law_parted T) (hr.mono (by decide)) T.g__law_parted T.F__law_parted.kp T.B__law_parted tk (van_cons (vv 0) (van_cons (vv 1) van_nil)))) (vone (vnot_ (vcall (ok_law_parted T) (hr.mono (by decide)) T.g__law_parted T.F__law_parted.kp T.B__law_parted tk (van_cons (vv 1) (van_cons (vv 0) van_nil))))))))))
theorem sc_law_same : FnScope N_law_same ["told", "due"] (defScope s_law_same) := ⟨rfl, rfl, rfl, by decide +kernel, rfl, by decide +kernel, by decide +kernel⟩
theorem ok_law_same (T : Txt K mg) : ∀ n : Nat, FnOk P w K mg base (L2.CX P w) (n + 0) T.f__law_same T.d__law_same ["told", "due"] (spV K mg 2 (m_law_same n))
  | 0 => ⟨fun vs H Q E h => by obtain ⟨_, _, _, _, _, z⟩ := h; exact z.elim, fun A outer s H ar us vs Q E _ _ _ _ h => by obtain ⟨_, _, _, _, _, z⟩ := h; exact z.elim⟩
  | n + 1 => by
    have IH := ok_law_same T n
    have e : n + 1 + 0 = (n + 0) + 1 := by omega
    rw [e]
    refine fn_frz ?_
    refine fn_vl T.F__law_same sc_law_same rfl fun cdv A outer s H E hr => ?_
    have hu := hu65 hr
    have nd := sc_law_same.nd
    have tk := takes_of (X := cxOf (L2.CX P w) P w K mg base N_law_same "_law_same" (defScope s_law_same) T.f__law_same cdv A outer s H E) rfl rfl rfl rfl
    have hp := passes_of (X := cxOf (L2.CX P w) P w K mg base N_law_same "_law_same" (defScope s_law_same) T.f__law_same cdv A outer s H E) rfl
    exact (qs_cons (vs_if (qx_T (qtruth (visi_ ty_list T.b_isinstance T.b_list (by decide +kernel) (vv 1))))
        (vss_one (vs_if (qx_T (VW.vt (vw_or (vt_not (qtruth (visi_ ty_list T.b_isinstance T.b_list (by decide +kernel) (vv 0)))) (vw_or1 (qne hu (vlen_ T.b_len (VAn.va (van_cons (vv 0) van_nil))) (vlen_ T.b_len (VAn.va (van_cons (vv 1) van_nil))))))))
        (vss_one (vs_ret (vo_x (vxF vbool))))
        qs_nil))
        (vss_one (vs_if (qx_T (qtruth (visi_ ty_tuple T.b_isinstance T.b_tuple (by decide +kernel) (vv 1))))
        (vss_one (vs_if (qx_T (VW.vt (vw_or (vt_not (qtruth (visi_ ty_tuple T.b_isinstance T.b_tuple (by decide +kernel) (vv 0)))) (vw_or1 (qne hu (vlen_ T.b_len (VAn.va (van_cons (vv 0) van_nil))) (vlen_ T.b_len (VAn.va (van_cons (vv 1) van_nil))))))))
        (vss_one (vs_ret (vo_x (vxF vbool))))
        qs_nil))
        (vss_one (vs_if (qx_T (qisnone (vv 1)))
        (vss_one (vs_ret (vo_x (vxF (visnone_ (vv 0))))))
        (vss_one (vs_if (qx_T (qtruth (visi_ ty_bool T.b_isinstance T.b_bool (by decide +kernel) (vv 1))))
        (vss_one (vs_ret (vo_x (vxF (vand_ (visi_ ty_bool T.b_isinstance T.b_bool (by decide +kernel) (vv 0)) (vone (veq_ hu (vv 0) (vv 1))))))))
        (vss_one (vs_if (qx_T (qtruth (visi_ ty_int T.b_isinstance T.b_int (by decide +kernel) (vv 1))))
        (vss_one (vs_ret (vo_x (vxF (vand_ (visi_ ty_int T.b_isinstance T.b_int (by decide +kernel) (vv 0)) (vand_ (vnot_ (visi_ ty_bool T.b_isinstance T.b_bool (by decide +kernel) (vv 0))) (vone (veq_ hu (vv 0) (vv 1)))))))))
        (vss_one (vs_ret (vo_x (vxF (vand_ (visi_ ty_str T.b_isinstance T.b_str (by decide +kernel) (vv 0)) (vone (veq_ hu (vv 0) (vv 1)))))))))))))))))
        (qs_cons (vs_for hp rfl (vix_range1 T.b_range (vxF (vlen_ T.b_len (VAn.va (van_cons (vv 1) van_nil))))) (vg 2 nd) (envT_kill _ [2])
        (vss_one (vs_if (qx_T (vt_not (qtruth (vcall IH hr T.g__law_same T.F__law_same.kp T.B__law_same tk (van_cons (vidx_ (vv 0) (vv 2)) (van_cons (vidx_ (vv 1) (vv 2)) van_nil))))))
        (vss_one (vs_ret (vo_x (vxF vbool))))
        (qs_t (envT_kill _ [2]) qs_nil))))
        (qs_t (envT_kill _ [0, 1]) (vss_one (vs_ret (vo_x (vxF vbool)))))))
theorem sc_law_room : FnScope N_law_room ["draws", "at", "width"] (defScope s_law_room) := ⟨rfl, rfl, rfl, by decide +kernel, rfl, by decide +kernel, by decide +kernel⟩
theorem ok_law_room (T : Txt K mg) : FnOk P w K mg base (L2.CX P w) 4 T.f__law_room T.d__law_room ["draws", "at", "width"] (spV K mg 3 m_law_room) := by
  refine fn_frz (g := runB 4 g_law_room) ?_
  refine fn_vl T.F__law_room sc_law_room rfl fun cdv A outer s H E hr => ?_
  have hu := hu65 hr
  have nd := sc_law_room.nd
  have tk := takes_of (X := cxOf (L2.CX P w) P w K mg base N_law_room "_law_room" (defScope s_law_room) T.f__law_room cdv A outer s H E) rfl rfl rfl rfl
  have hp := passes_of (X := cxOf (L2.CX P w) P w K mg base N_law_room "_law_room" (defScope s_law_room) T.f__law_room cdv A outer s H E) rfl
  exact (qs_cons (vs_set 3 nd (vo_x (vxF (vtup_ (van_cons (vtup_ (van_cons (vsub_ (vmod_ (vidx_ (vv 0) (vv 1)) vint) vint) (van_cons (vsub_ (vmod_ (vidx_ (vv 0) (vadd_ (vv 1) vint)) vint) vint) (van_cons (vsub_ (vmod_ (vidx_ (vv 0) (vadd_ (vv 1) vint)) vint) vint) (van_cons (vsub_ (vmod_ (vidx_ (vv 0) (vadd_ (vv 1) vint)) vint) vint) van_nil))))) (van_cons (vmod_ (vidx_ (vv 0) (vadd_ (vv 1) vint)) vint) van_nil))))))
      (qs_cons (vs_if (qx_T (qeq hu (vmod_ (vidx_ (vv 0) (vadd_ (vv 1) vint)) vint) vint))
      (vss_one (vs_ret (vo_x (vxF (vcall (ok_law_straight_room T) (hr.mono (by decide)) T.g__law_straight_room T.F__law_straight_room.kp T.B__law_straight_room tk (van_cons (vv 3) (van_cons (vadd_ vint (vmod_ (vidx_ (vv 0) (vadd_ (vv 1) vint)) vint)) (van_cons (vv 2) van_nil))))))))
      qs_nil)
      (vss_one (vs_ret (vo_x (vxF (vcall (ok_law_curve_room T) (hr.mono (by decide)) T.g__law_curve_room T.F__law_curve_room.kp T.B__law_curve_room tk (van_cons (vv 3) (van_cons (vadd_ (vadd_ (vv 2) vint) (vmod_ (vidx_ (vv 0) (vadd_ (vv 1) vint)) vint)) (van_cons (vidx_ (VFr.ve (vlst_f (van_cons vstr (van_cons vstr van_nil)))) (vmod_ (vfdiv_ (vidx_ (vv 0) (vadd_ (vv 1) vint)) vint) vint)) (van_cons (vv 2) van_nil)))))))))))
theorem sc_law_moved : FnScope N_law_moved ["room", "spot", "turn"] (defScope s_law_moved) := ⟨rfl, rfl, rfl, by decide +kernel, rfl, by decide +kernel, by decide +kernel⟩
theorem ok_law_moved (T : Txt K mg) : FnOk P w K mg base (L2.CX P w) 2 T.f__law_moved T.d__law_moved ["room", "spot", "turn"] (spV K mg 3 m_law_moved) := by
  refine fn_frz (g := runB 4 g_law_moved) ?_
  refine fn_vl T.F__law_moved sc_law_moved rfl fun cdv A outer s H E hr => ?_
  have hu := hu65 hr
  have nd := sc_law_moved.nd
  have tk := takes_of (X := cxOf (L2.CX P w) P w K mg base N_law_moved "_law_moved" (defScope s_law_moved) T.f__law_moved cdv A outer s H E) rfl rfl rfl rfl
  have hp := passes_of (X := cxOf (L2.CX P w) P w K mg base N_law_moved "_law_moved" (defScope s_law_moved) T.f__law_moved cdv A outer s H E) rfl
  exact (vss_one (vs_ret (vo_x (vxF (VFr.ve (qcomp rfl nd (vi_seq (vv 0)) (blkOk_by (own := [("corner", 3)]) (N := N_law_moved) (sc := defScope s_law_moved) (by decide +kernel)) rfl (fun _ _ _ _ _ => (vg 3 nd)) (by decide) (fun _ _ _ _ _ => vts_nil) (fun _ _ _ _ _ => (vcall (ok_law_plus T) (hr.mono (by decide)) T.g__law_plus T.F__law_plus.kp T.B__law_plus VL.takes0 (van_cons (vv 1) (van_cons (vcall (ok_law_turned T) (hr.mono (by decide)) T.g__law_turned T.F__law_turned.kp T.B__law_turned VL.takes0 (van_cons (vv 3) (van_cons (vv 2) van_nil))) van_nil))))))))))
theorem sc_law_agrees : FnScope N_law_agrees ["one", "other"] (defScope s_law_agrees) := ⟨rfl, rfl, rfl, by decide +kernel, rfl, by decide +kernel, by decide +kernel⟩
theorem ok_law_agrees (T : Txt K mg) : FnOk P w K mg base (L2.CX P w) 12 T.f__law_agrees T.d__law_agrees ["one", "other"] (spV K mg 2 m_law_agrees) := by
  refine fn_frz (g := runB 6 g_law_agrees) ?_
  refine fn_vl T.F__law_agrees sc_law_agrees rfl fun cdv A outer s H E hr => ?_
  have hu := hu65 hr
  have nd := sc_law_agrees.nd
  have tk := takes_of (X := cxOf (L2.CX P w) P w K mg base N_law_agrees "_law_agrees" (defScope s_law_agrees) T.f__law_agrees cdv A outer s H E) rfl rfl rfl rfl
  have hp := passes_of (X := cxOf (L2.CX P w) P w K mg base N_law_agrees "_law_agrees" (defScope s_law_agrees) T.f__law_agrees cdv A outer s H E) rfl
  exact (qs_cons (vs_set 2 nd (vo_x (vxF (vcall (ok_law_overlap T) (hr.mono (by decide)) T.g__law_overlap T.F__law_overlap.kp T.B__law_overlap tk (van_cons (vv 0) (van_cons (vv 1) van_nil))))))
      (qs_cons (vs_set 3 nd (vo_x (vxF (VFr.ve (vlist_f T.b_list (vv 0))))))
      (qs_cons (vs_set 4 nd (vo_x (vxF (VFr.ve (vlist_f T.b_list (vv 1))))))
      (qs_cons (vs_set 5 nd (vo_x (vxF (vcall (ok_overlap T) (hr.mono (by decide)) T.g_overlap T.F_overlap.kp T.B_overlap tk (van_cons (vv 3) (van_cons (vv 4) van_nil))))))
      (qs_cons (vs_if (qx_T (VW.vt (vw_or (vt_not (qtruth (vcall (ok_law_same T 10) (hr.mono (by decide)) T.g__law_same T.F__law_same.kp T.B__law_same tk (van_cons (vv 5) (van_cons (vv 2) van_nil))))) (vw_or1 (vt_not (qtruth (vcall (ok_law_same T 10) (hr.mono (by decide)) T.g__law_same T.F__law_same.kp T.B__law_same tk (van_cons (vcall (ok_overlap T) (hr.mono (by decide)) T.g_overlap T.F_overlap.kp T.B_overlap tk (van_cons (vv 4) (van_cons (vv 3) van_nil))) (van_cons (vv 2) van_nil)))))))))
      (vss_one (vs_ret (vo_x (vxF vbool))))
      (qs_t (envT_kill _ [2, 5]) qs_nil))
      (vss_one (vs_ret (vo_x (vxF (vand_ (veq_ hu (vv 3) (vv 0)) (vone (veq_ hu (vv 4) (vv 1)))))))))))))
theorem sc_law : FnScope N_law ["script"] (defScope s_law) := ⟨rfl, rfl, rfl, by decide +kernel, rfl, by decide +kernel, by decide +kernel⟩
theorem ok_law (T : Txt K mg) : FnOk P w K mg base (L2.CX P w) 13 T.f_law T.d_law ["script"] (spV K mg 1 m_law) := by
  refine fn_frz (g := runB 17 g_law) ?_
  refine fn_vl T.F_law sc_law rfl fun cdv A outer s H E hr => ?_
  have hu := hu65 hr
  have nd := sc_law.nd
  have tk := takes_of (X := cxOf (L2.CX P w) P w K mg base N_law "law" (defScope s_law) T.f_law cdv A outer s H E) rfl rfl rfl rfl
  have hp := passes_of (X := cxOf (L2.CX P w) P w K mg base N_law "law" (defScope s_law) T.f_law cdv A outer s H E) rfl
  exact (qs_cons (vs_for hp rfl (vix_range1 T.b_range (vxF vint)) (vg 1 nd) (envT_kill _ [1, 2, 3, 4, 5, 6, 7, 8, 9, 10, 11, 12, 13, 14, 15, 16])
      (qs_cons (vs_set 2 nd (vo_x (vxF (vcall (ok_law_numbers T) (hr.mono (by decide)) T.g__law_numbers T.F__law_numbers.kp T.B__law_numbers tk (van_cons (vcall (ok_law_cell T) (hr.mono (by decide)) T.g__law_cell T.F__law_cell.kp T.B__law_cell tk (van_cons (vv 0) (van_cons (vv 1) van_nil))) (van_cons vint (van_cons vint van_nil)))))))
      (qs_cons (vs_set 3 nd (vo_x (vxF (vadd_ vint (vmod_ (vidx_ (vv 2) vint) vint)))))
      (qs_cons (vs_set 4 nd (vo_x (vxF (vcall (ok_law_room T) (hr.mono (by decide)) T.g__law_room T.F__law_room.kp T.B__law_room tk (van_cons (vv 2) (van_cons vint (van_cons (vv 3) van_nil)))))))
      (qs_cons (vs_set 5 nd (vo_x (vxF (vcall (ok_law_room T) (hr.mono (by decide)) T.g__law_room T.F__law_room.kp T.B__law_room tk (van_cons (vv 2) (van_cons vint (van_cons (vv 3) van_nil)))))))
      (qs_cons (vs_set 6 nd (vo_x (vxF (vtup_ (van_cons (vsub_ (vidx_ (vv 2) vint) vint) (van_cons (vidx_ (vv 2) vint) (van_cons (vsub_ (vidx_ (vv 2) vint) vint) (van_cons (vidx_ (vv 2) vint) van_nil))))))))
      (qs_cons (vs_set 7 nd (vo_x (vxF (vcall (ok_law_moved T) (hr.mono (by decide)) T.g__law_moved T.F__law_moved.kp T.B__law_moved tk (van_cons (vv 5) (van_cons (vtup_ (van_cons vint (van_cons vint (van_cons vint (van_cons vint van_nil))))) (van_cons (vidx_ (vv 2) vint) van_nil)))))))
      (qs_t (envT_kill _ [1]) (qs_cons (vs_forK hp rfl (qix_F (vi_seq (VFr.ve (vlst_f (van_cons (vtup_ (van_cons (vv 4) (van_cons (vv 5) van_nil))) (van_cons (vtup_ (van_cons (vv 4) (van_cons (vv 4) van_nil))) (van_cons (vtup_ (van_cons (vv 4) (van_cons (vv 7) van_nil))) (van_cons (vtup_ (van_cons (vv 5) (van_cons (vcall (ok_law_moved T) (hr.mono (by decide)) T.g__law_moved T.F__law_moved.kp T.B__law_moved tk (van_cons (vv 4) (van_cons (vv 6) (van_cons vint van_nil)))) van_nil))) van_nil)))))))) (vg 8 nd) (rs_kill _ [4, 5, 7]) (envT_kill _ [8, 9])
      (qs_cons (vs_if (qx_T (vt_not (qtruth (vcall (ok_law_agrees T) (hr.mono (by decide)) T.g__law_agrees T.F__law_agrees.kp T.B__law_agrees tk (van_cons (vidx_ (vv 8) vint) (van_cons (vidx_ (vv 8) vint) van_nil))))))
      (vss_one (vs_ret (vo_x (vxF vbool))))
      (qs_t (envT_kill _ [4, 5, 7]) qs_nil))
      (qs_cons (vs_set 9 nd (vo_x (vxF (vcall (ok_law_overlap T) (hr.mono (by decide)) T.g__law_overlap T.F__law_overlap.kp T.B__law_overlap tk (van_cons (vidx_ (vv 8) vint) (van_cons (vidx_ (vv 8) vint) van_nil))))))
      (vss_one (vs_if (qx_T (qne hu (vcall (ok_overlap T) (hr.mono (by decide)) T.g_overlap T.F_overlap.kp T.B_overlap tk (van_cons (vcall (ok_law_moved T) (hr.mono (by decide)) T.g__law_moved T.F__law_moved.kp T.B__law_moved tk (van_cons (vidx_ (vv 8) vint) (van_cons (vv 6) (van_cons (vidx_ (vv 2) vint) van_nil)))) (van_cons (vcall (ok_law_moved T) (hr.mono (by decide)) T.g__law_moved T.F__law_moved.kp T.B__law_moved tk (van_cons (vidx_ (vv 8) vint) (van_cons (vv 6) (van_cons (vidx_ (vv 2) vint) van_nil)))) van_nil))) (vv 9)))
      (vss_one (vs_ret (vo_x (vxF vbool))))
      (qs_t (envT_kill _ [8, 9]) qs_nil))))))
      (qs_t (envT_kill _ [6]) (qs_cons (vs_set 10 nd (vo_x (vxF (vadd_ vint (vmod_ (vidx_ (vv 2) vint) vint)))))
      (qs_cons (vs_set 11 nd (vo_x (vxF (vtup_ (van_cons (vtup_ (van_cons (vidx_ (vv 2) vint) (van_cons (vidx_ (vv 2) vint) (van_cons (vidx_ (vv 2) vint) (van_cons (vidx_ (vv 2) vint) van_nil))))) (van_cons (vmod_ (vidx_ (vv 2) vint) vint) van_nil))))))
      (qs_cons (vs_set 12 nd (vo_x (vxF (vcall (ok_law_straight_room T) (hr.mono (by decide)) T.g__law_straight_room T.F__law_straight_room.kp T.B__law_straight_room tk (van_cons (vv 11) (van_cons (vv 10) (van_cons (vv 3) van_nil)))))))
      (qs_cons (vs_set 13 nd (vo_x (vxF (vcall (ok_law_moved T) (hr.mono (by decide)) T.g__law_moved T.F__law_moved.kp T.B__law_moved tk (van_cons (vv 12) (van_cons (vcall (ok_law_ray T) (hr.mono (by decide)) T.g__law_ray T.F__law_ray.kp T.B__law_ray tk (van_cons (vmul_ vint (vv 3)) (van_cons (vadd_ (vidx_ (vv 11) vint) vint) van_nil))) (van_cons vint van_nil)))))))
      (qs_cons (vs_set 14 nd (vo_x (vxF (vcall (ok_law_moved T) (hr.mono (by decide)) T.g__law_moved T.F__law_moved.kp T.B__law_moved tk (van_cons (vv 12) (van_cons (vcall (ok_law_ray T) (hr.mono (by decide)) T.g__law_ray T.F__law_ray.kp T.B__law_ray tk (van_cons (vv 10) (van_cons (vidx_ (vv 11) vint) van_nil))) (van_cons vint van_nil)))))))
      (qs_cons (vs_set 15 nd (vo_x (vxF (vcall (ok_law_moved T) (hr.mono (by decide)) T.g__law_moved T.F__law_moved.kp T.B__law_moved tk (van_cons (vv 12) (van_cons (vcall (ok_law_ray T) (hr.mono (by decide)) T.g__law_ray T.F__law_ray.kp T.B__law_ray tk (van_cons (vsub_ (vmul_ vint (vv 3)) vint) (van_cons (vadd_ (vidx_ (vv 11) vint) vint) van_nil))) (van_cons vint van_nil)))))))
      (qs_t (envT_kill _ [2, 3, 10, 11]) (vss_one (vs_forK hp rfl (qix_F (vi_seq (VFr.ve (vlst_f (van_cons (vtup_ (van_cons (vv 13) (van_cons vbool van_nil))) (van_cons (vtup_ (van_cons (vv 14) (van_cons vbool van_nil))) (van_cons (vtup_ (van_cons (vv 15) (van_cons vbool van_nil))) (van_cons (vtup_ (van_cons (vv 12) (van_cons vbool van_nil))) van_nil)))))))) (vg_tup rfl (vgs_cons (vg 16 nd) (vgs_cons (vg 9 nd) vgs_nil))) (rs_kill _ [13, 14, 15]) (envT_kill _ [9, 16])
      (vss_one (vs_if (qx_T (vt_not (qtruth (vcall (ok_law_same T 10) (hr.mono (by decide)) T.g__law_same T.F__law_same.kp T.B__law_same tk (van_cons (vcall (ok_overlap T) (hr.mono (by decide)) T.g_overlap T.F_overlap.kp T.B_overlap tk (van_cons (vv 12) (van_cons (vv 16) van_nil))) (van_cons (vv 9) van_nil))))))
      (vss_one (vs_ret (vo_x (vxF vbool))))
      (qs_t (envT_kill _ [9, 13, 14, 15, 16]) qs_nil))))))))))))))))))))))
      (qs_t (envT_kill _ [0, 12]) (vss_one (vs_ret (vo_x (vxF vbool))))))
end
end LW
namespace LW
open PySem PySem.Spec PyProof.Rows VL
noncomputable section
def t_spot_less (one : (T4 Int Int Int Int)) (other : (T4 Int Int Int Int)) : R (T4 Int Int Int Int) := TR.fn (l := Empty) (σ := Unit) ((b4 mk4 (b2 tsubI (b1 (pj T4.a) (R.ok one)) (b1 (pj T4.a) (R.ok other))) (b2 tsubI (b1 (pj T4.b) (R.ok one)) (b1 (pj T4.b) (R.ok other))) (b2 tsubI (b1 (pj T4.c) (R.ok one)) (b1 (pj T4.c) (R.ok other))) (b2 tsubI (b1 (pj T4.d) (R.ok one)) (b1 (pj T4.d) (R.ok other)))).tr fun r_ => .rt r_) (fun _ => .stuck)
def t_doubled (spot : (T4 Int Int Int Int)) : R ((Int × Int) × (Int × Int)) := TR.fn (l := Empty) (σ := Unit) ((b2 mk2 (b2 mk2 (b2 tmulI (R.ok (2 : Int)) (b1 (pj T4.a) (R.ok spot))) (b2 tsubI (b1 (pj T4.b) (R.ok spot)) (b1 (pj T4.d) (R.ok spot)))) (b2 mk2 (b2 tmulI (R.ok (2 : Int)) (b1 (pj T4.c) (R.ok spot))) (b2 taddI (b1 (pj T4.b) (R.ok spot)) (b1 (pj T4.d) (R.ok spot))))).tr fun r_ => .rt r_) (fun _ => .stuck)
def t_number_sign (number : Int) : R Int := TR.fn (l := Empty) (σ := Unit) (tite (b2 tgtI (R.ok number) (R.ok (0 : Int))) ((R.ok (1 : Int)).tr fun r_ => .rt r_) (tite (b2 tltI (R.ok number) (R.ok (0 : Int))) ((b1 tnegI (R.ok (1 : Int))).tr fun r_ => .rt r_) ((R.ok (0 : Int)).tr fun r_ => .rt r_))) (fun _ => .stuck)
def t_surd_sign (surd : (Int × Int)) : R Int := TR.fn (l := Empty) (σ := Unit) ((R.ok surd).tr fun ⟨plain, rooted⟩ => ((b1 t_number_sign (R.ok plain)).tr fun one => ((b1 t_number_sign (R.ok rooted)).tr fun other => (tite (torB (b2 teq (R.ok one) (R.ok (0 : Int))) (b2 teq (R.ok one) (R.ok other))) ((bite (b2 teq (R.ok one) (R.ok (0 : Int))) (R.ok other) (R.ok one)).tr fun r_ => .rt r_) (tite (b2 teq (R.ok other) (R.ok (0 : Int))) ((R.ok one).tr fun r_ => .rt r_) (tite (b2 tgtI (b2 tmulI (R.ok plain) (R.ok plain)) (b2 tmulI (b2 tmulI (R.ok (2 : Int)) (R.ok rooted)) (R.ok rooted))) ((R.ok one).tr fun r_ => .rt r_) ((R.ok other).tr fun r_ => .rt r_))))))) (fun _ => .stuck)
def t_surd_sum (one : (Int × Int)) (other : (Int × Int)) : R (Int × Int) := TR.fn (l := Empty) (σ := Unit) ((b2 mk2 (b2 taddI (b1 (pj Prod.fst) (R.ok one)) (b1 (pj Prod.fst) (R.ok other))) (b2 taddI (b1 (pj Prod.snd) (R.ok one)) (b1 (pj Prod.snd) (R.ok other)))).tr fun r_ => .rt r_) (fun _ => .stuck)
def t_surd_opposite (surd : (Int × Int)) : R (Int × Int) := TR.fn (l := Empty) (σ := Unit) ((b2 mk2 (b1 tnegI (b1 (pj Prod.fst) (R.ok surd))) (b1 tnegI (b1 (pj Prod.snd) (R.ok surd)))).tr fun r_ => .rt r_) (fun _ => .stuck)
def t_surd_product (one : (Int × Int)) (other : (Int × Int)) : R (Int × Int) := TR.fn (l := Empty) (σ := Unit) ((b2 mk2 (b2 taddI (b2 tmulI (b1 (pj Prod.fst) (R.ok one)) (b1 (pj Prod.fst) (R.ok other))) (b2 tmulI (b2 tmulI (R.ok (2 : Int)) (b1 (pj Prod.snd) (R.ok one))) (b1 (pj Prod.snd) (R.ok other)))) (b2 taddI (b2 tmulI (b1 (pj Prod.fst) (R.ok one)) (b1 (pj Prod.snd) (R.ok other))) (b2 tmulI (b1 (pj Prod.snd) (R.ok one)) (b1 (pj Prod.fst) (R.ok other))))).tr fun r_ => .rt r_) (fun _ => .stuck)
def t_turn_sign (start : (T4 Int Int Int Int)) (stop : (T4 Int Int Int Int)) (spot : (T4 Int Int Int Int)) : R Int := TR.fn (l := Empty) (σ := Unit) ((b1 t_doubled (b2 t_spot_less (R.ok stop) (R.ok start))).tr fun along => ((b1 t_doubled (b2 t_spot_less (R.ok spot) (R.ok start))).tr fun aside => ((b2 t_surd_product (b1 (pj Prod.fst) (R.ok along)) (b1 (pj Prod.snd) (R.ok aside))).tr fun one => ((b2 t_surd_product (b1 (pj Prod.snd) (R.ok along)) (b1 (pj Prod.fst) (R.ok aside))).tr fun other => ((b1 t_surd_sign (b2 t_surd_sum (R.ok one) (b1 t_surd_opposite (R.ok other)))).tr fun r_ => .rt r_))))) (fun _ => .stuck)
def t_lies_outside (room : (List (T4 Int Int Int Int))) (start : (T4 Int Int Int Int)) (stop : (T4 Int Int Int Int)) : R Bool := TR.fn (l := Empty) (σ := Unit) ((b1 tallB ((R.ok room).bind fun xs_ => (tmap (fun corner => (b2 tleI (b3 t_turn_sign (R.ok start) (R.ok stop) (R.ok corner)) (R.ok (0 : Int)))) xs_).calm)).tr fun r_ => .rt r_) (fun _ => .stuck)
def t_has_dividing_edge_1 (one : (List (T4 Int Int Int Int))) (other : (List (T4 Int Int Int Int))) (k : Int) : TR Bool Unit Unit := (tite (b1 tid (b3 t_lies_outside (R.ok other) (b2 tidx (R.ok one) (b2 tsubI (R.ok k) (R.ok (1 : Int)))) (b2 tidx (R.ok one) (R.ok k)))) ((R.ok true).tr fun r_ => .rt r_) (.nx ()))
abbrev E_has_dividing_edge_1 (one : (List (T4 Int Int Int Int))) (other : (List (T4 Int Int Int Int))) : Unit → OEnv := fun s_ => match s_ with | _ => [some (oF one), some (oF other), none]
def t_has_dividing_edge (one : (List (T4 Int Int Int Int))) (other : (List (T4 Int Int Int Int))) : R Bool := TR.fn (l := Empty) (σ := Unit) ((b1 trange1 (b1 tlen (R.ok one))).tr fun xs_ => (forT (fun k _ => t_has_dividing_edge_1 one other k) xs_ ()).bind fun _ => ((R.ok false).tr fun r_ => .rt r_)) (fun _ => .stuck)
def t_overlap (one : (List (T4 Int Int Int Int))) (other : (List (T4 Int Int Int Int))) : R Bool := TR.fn (l := Empty) (σ := Unit) ((tandB (b1 tnotB (b2 t_has_dividing_edge (R.ok one) (R.ok other))) (b1 tnotB (b2 t_has_dividing_edge (R.ok other) (R.ok one)))).tr fun r_ => .rt r_) (fun _ => .stuck)
def t_law_cell (script : (List Int)) (k : Int) : R Int := TR.fn (l := Empty) (σ := Unit) (tite (b2 tltI (R.ok k) (b1 tlen (R.ok script))) ((b1 tint (b2 tidx (R.ok script) (R.ok k))).tr fun r_ => .rt r_) ((R.ok (0 : Int)).tr fun r_ => .rt r_)) (fun _ => .stuck)
def t_law_numbers_1 (limit : Int) (k : Int) (cell : Int) (found : (List Int)) : TR (List Int) (Int × (List Int)) (Int × (List Int)) := ((b2 tmodI (b1 tint (R.ok cell)) (R.ok limit)).tr fun a_ => (tapp found a_).tr fun found => ((b2 tfdivI (b1 tint (R.ok cell)) (R.ok limit)).tr fun cell => (.nx (cell, found))))
abbrev E_law_numbers_1 (limit : Int) : (Int × (List Int)) → OEnv := fun s_ => match s_ with | ⟨cell, found⟩ => [some (oF cell), none, some (oF limit), some ((oL oF) found), none, none]
def t_law_numbers_2 (cell : Int) (limit : Int) (k : Int) (found : (List Int)) : TR (List Int) (List Int) (List Int) := ((b2 tmodI (b1 tint (b2 taddI (b2 taddI (b2 tmulI (R.ok cell) (R.ok (48271 : Int))) (b2 tmulI (R.ok k) (R.ok (69621 : Int)))) (R.ok (7 : Int)))) (R.ok (2147483647 : Int))).tr fun mixed => ((b2 tmodI (b1 tint (b2 taddI (b2 taddI (b2 taddI (b2 tmulI (R.ok mixed) (R.ok mixed)) (b2 tmulI (R.ok mixed) (R.ok (40692 : Int)))) (b2 tmulI (R.ok k) (R.ok (16807 : Int)))) (R.ok (11 : Int)))) (R.ok (2147483399 : Int))).tr fun mixed => ((b2 tmodI (b1 tint (b2 tfdivI (R.ok mixed) (R.ok (32 : Int)))) (R.ok limit)).tr fun a_ => (tapp found a_).tr fun found => (.nx found))))
abbrev E_law_numbers_2 (cell : Int) (limit : Int) : (List Int) → OEnv := fun s_ => match s_ with | found => [some (oF cell), none, some (oF limit), some ((oL oF) found), none, none]
def t_law_numbers (cell : Int) (count : Int) (limit : Int) : R (List Int) := TR.fn (l := Empty) (σ := Unit) ((R.ok ([] : List Int)).tr fun found => (tite (b2 tgeI (R.ok cell) (b2 tpowI (R.ok (10 : Int)) (R.ok (18 : Int)))) ((b1 trange1 (R.ok count)).tr fun xs_ => (forT (fun k ⟨cell, found⟩ => t_law_numbers_1 limit k cell found) xs_ (cell, found)).bind fun ⟨cell, found⟩ => ((R.ok found).tr fun r_ => .rt r_)) ((b1 trange1 (R.ok count)).tr fun xs_ => (forT (fun k found => t_law_numbers_2 cell limit k found) xs_ found).bind fun found => ((R.ok found).tr fun r_ => .rt r_)))) (fun _ => .stuck)
def t_law_plus (one : (T4 Int Int Int Int)) (other : (T4 Int Int Int Int)) : R (T4 Int Int Int Int) := TR.fn (l := Empty) (σ := Unit) ((b4 mk4 (b2 taddI (b1 (pj T4.a) (R.ok one)) (b1 (pj T4.a) (R.ok other))) (b2 taddI (b1 (pj T4.b) (R.ok one)) (b1 (pj T4.b) (R.ok other))) (b2 taddI (b1 (pj T4.c) (R.ok one)) (b1 (pj T4.c) (R.ok other))) (b2 taddI (b1 (pj T4.d) (R.ok one)) (b1 (pj T4.d) (R.ok other)))).tr fun r_ => .rt r_) (fun _ => .stuck)
def t_law_turned (spot : (T4 Int Int Int Int)) (k : Int) : R (T4 Int Int Int Int) := TR.fn (l := Empty) (σ := Unit) ((R.ok spot).tr fun ⟨a, b, c, d⟩ => ((tcons (R.ok a) (tcons (R.ok b) (tcons (R.ok c) (tcons (R.ok d) (tcons (b1 tnegI (R.ok a)) (tcons (b1 tnegI (R.ok b)) (tcons (b1 tnegI (R.ok c)) (tcons (b1 tnegI (R.ok d)) (R.ok ([] : List Int)))))))))).tr fun found => ((b2 tmodI (b1 tint (R.ok k)) (R.ok (8 : Int))).tr fun k => ((b4 mk4 (b2 tidx (R.ok found) (b2 tmodI (b1 tint (b2 tsubI (R.ok (8 : Int)) (R.ok k))) (R.ok (8 : Int)))) (b2 tidx (R.ok found) (b2 tmodI (b1 tint (b2 tsubI (R.ok (9 : Int)) (R.ok k))) (R.ok (8 : Int)))) (b2 tidx (R.ok found) (b2 tmodI (b1 tint (b2 tsubI (R.ok (10 : Int)) (R.ok k))) (R.ok (8 : Int)))) (b2 tidx (R.ok found) (b2 tmodI (b1 tint (b2 tsubI (R.ok (11 : Int)) (R.ok k))) (R.ok (8 : Int))))).tr fun r_ => .rt r_)))) (fun _ => .stuck)
def t_law_then (one : ((T4 Int Int Int Int) × Int)) (other : ((T4 Int Int Int Int) × Int)) : R ((T4 Int Int Int Int) × Int) := TR.fn (l := Empty) (σ := Unit) ((b2 mk2 (b2 t_law_plus (b1 (pj Prod.fst) (R.ok one)) (b2 t_law_turned (b1 (pj Prod.fst) (R.ok other)) (b1 (pj Prod.snd) (R.ok one)))) (b2 tmodI (b1 tint (b2 taddI (b1 (pj Prod.snd) (R.ok one)) (b1 (pj Prod.snd) (R.ok other)))) (R.ok (8 : Int)))).tr fun r_ => .rt r_) (fun _ => .stuck)
def t_law_end (piece : (T3 Str Int Str)) (end_ : Int) : R ((T4 Int Int Int Int) × Int) := TR.fn (l := Empty) (σ := Unit) (tite (b2 teq (R.ok end_) (R.ok (0 : Int))) ((b2 mk2 (b4 mk4 (R.ok (0 : Int)) (R.ok (0 : Int)) (R.ok (0 : Int)) (R.ok (0 : Int))) (R.ok (4 : Int))).tr fun r_ => .rt r_) (tite (torB (b2 teq (b1 (pj T3.a) (R.ok piece)) (R.ok ("curve" : Str))) (tandB (b2 teq (b1 (pj T3.a) (R.ok piece)) (R.ok ("points" : Str))) (b2 teq (R.ok end_) (R.ok (2 : Int))))) ((b1 (pj T3.b) (R.ok piece)).tr fun radius => (tite (b2 teq (b1 (pj T3.c) (R.ok piece)) (R.ok ("left" : Str))) ((b2 mk2 (b4 mk4 (R.ok (0 : Int)) (R.ok (0 : Int)) (R.ok radius) (b1 tnegI (R.ok radius))) (R.ok (1 : Int))).tr fun r_ => .rt r_) ((b2 mk2 (b4 mk4 (R.ok (0 : Int)) (R.ok radius) (b1 tnegI (R.ok radius)) (R.ok (0 : Int))) (R.ok (7 : Int))).tr fun r_ => .rt r_))) (tite (tandB (b2 teq (b1 (pj T3.a) (R.ok piece)) (R.ok ("cross" : Str))) (b2 tgtI (R.ok end_) (R.ok (1 : Int)))) ((b2 tfdivI (b1 (pj T3.b) (R.ok piece)) (R.ok (2 : Int))).tr fun half => ((b2 tmodI (b1 tint (b2 taddI (b2 taddI (b1 cNever (b1 (pj T3.c) (R.ok piece))) (b2 tmulI (R.ok (4 : Int)) (b2 tsubI (R.ok end_) (R.ok (2 : Int))))) (R.ok (4 : Int)))) (R.ok (8 : Int))).tr fun way => ((b2 mk2 (b2 t_law_plus (b4 mk4 (R.ok half) (R.ok (0 : Int)) (R.ok (0 : Int)) (R.ok (0 : Int))) (b2 t_law_turned (b4 mk4 (R.ok half) (R.ok (0 : Int)) (R.ok (0 : Int)) (R.ok (0 : Int))) (R.ok way))) (R.ok way)).tr fun r_ => .rt r_))) ((b2 mk2 (b4 mk4 (b1 (pj T3.b) (R.ok piece)) (R.ok (0 : Int)) (R.ok (0 : Int)) (R.ok (0 : Int))) (R.ok (0 : Int))).tr fun r_ => .rt r_)))) (fun _ => .stuck)
def t_law_ray (units : Int) (k : Int) : R (T4 Int Int Int Int) := TR.fn (l := Empty) (σ := Unit) ((b2 t_law_turned (b4 mk4 (R.ok units) (R.ok (0 : Int)) (R.ok (0 : Int)) (R.ok (0 : Int))) (R.ok k)).tr fun r_ => .rt r_) (fun _ => .stuck)
def t_law_minus (one : (T4 Int Int Int Int)) (other : (T4 Int Int Int Int)) : R (T4 Int Int Int Int) := TR.fn (l := Empty) (σ := Unit) ((b4 mk4 (b2 tsubI (b1 (pj T4.a) (R.ok one)) (b1 (pj T4.a) (R.ok other))) (b2 tsubI (b1 (pj T4.b) (R.ok one)) (b1 (pj T4.b) (R.ok other))) (b2 tsubI (b1 (pj T4.c) (R.ok one)) (b1 (pj T4.c) (R.ok other))) (b2 tsubI (b1 (pj T4.d) (R.ok one)) (b1 (pj T4.d) (R.ok other)))).tr fun r_ => .rt r_) (fun _ => .stuck)
def t_law_straight_room (pose : ((T4 Int Int Int Int) × Int)) (length : Int) (width : Int) : R (List (T4 Int Int Int Int)) := TR.fn (l := Empty) (σ := Unit) ((R.ok pose).tr fun ⟨start, k⟩ => ((b2 t_law_ray (R.ok width) (b2 taddI (R.ok k) (R.ok (2 : Int)))).tr fun side => ((b2 t_law_plus (R.ok start) (b2 t_law_ray (R.ok length) (R.ok k))).tr fun far => ((tcons (b2 t_law_minus (R.ok start) (R.ok side)) (tcons (b2 t_law_minus (R.ok far) (R.ok side)) (tcons (b2 t_law_plus (R.ok far) (R.ok side)) (tcons (b2 t_law_plus (R.ok start) (R.ok side)) (R.ok ([] : List (T4 Int Int Int Int))))))).tr fun r_ => .rt r_)))) (fun _ => .stuck)
def t_law_curve_room (pose : ((T4 Int Int Int Int) × Int)) (radius : Int) (side : Str) (width : Int) : R (List (T4 Int Int Int Int)) := TR.fn (l := Empty) (σ := Unit) ((R.ok pose).tr fun ⟨start, k⟩ => ((b2 t_law_then (R.ok pose) (b2 t_law_end (b3 mk3 (R.ok ("curve" : Str)) (R.ok radius) (R.ok side)) (R.ok (1 : Int)))).tr fun far => ((b2 t_law_ray (R.ok width) (b2 taddI (R.ok k) (R.ok (2 : Int)))).tr fun n => ((b2 t_law_ray (R.ok width) (b2 taddI (b1 (pj Prod.snd) (R.ok far)) (R.ok (2 : Int)))).tr fun m => ((b2 taddI (R.ok radius) (R.ok width)).tr fun size => ((b2 t_law_turned (b4 mk4 (b2 tsubI (R.ok (0 : Int)) (R.ok size)) (R.ok size) (R.ok (0 : Int)) (b2 tsubI (R.ok (0 : Int)) (R.ok size))) (R.ok k)).tr fun t => (tite (b2 teq (R.ok side) (R.ok ("left" : Str))) ((tcons (b2 t_law_minus (R.ok start) (R.ok n)) (tcons (b2 t_law_plus (b2 t_law_minus (R.ok start) (R.ok n)) (R.ok t)) (tcons (b2 t_law_minus (b1 (pj Prod.fst) (R.ok far)) (R.ok m)) (tcons (b2 t_law_plus (b1 (pj Prod.fst) (R.ok far)) (R.ok m)) (tcons (b2 t_law_plus (R.ok start) (R.ok n)) (R.ok ([] : List (T4 Int Int Int Int)))))))).tr fun r_ => .rt r_) ((tcons (b2 t_law_minus (R.ok start) (R.ok n)) (tcons (b2 t_law_minus (b1 (pj Prod.fst) (R.ok far)) (R.ok m)) (tcons (b2 t_law_plus (b1 (pj Prod.fst) (R.ok far)) (R.ok m)) (tcons (b2 t_law_plus (b2 t_law_plus (R.ok start) (R.ok n)) (R.ok t)) (tcons (b2 t_law_plus (R.ok start) (R.ok n)) (R.ok ([] : List (T4 Int Int Int Int)))))))).tr fun r_ => .rt r_)))))))) (fun _ => .stuck)
def t_law_surd_sign (m : Int) (n : Int) : R Int := TR.fn (l := Empty) (σ := Unit) (tite (tandB (b2 tgeI (R.ok m) (R.ok (0 : Int))) (b2 tgeI (R.ok n) (R.ok (0 : Int)))) ((b1 tintB (b2 tgtI (b2 taddI (R.ok m) (R.ok n)) (R.ok (0 : Int)))).tr fun r_ => .rt r_) (tite (tandB (b2 tleI (R.ok m) (R.ok (0 : Int))) (b2 tleI (R.ok n) (R.ok (0 : Int)))) ((b1 tnegI (R.ok (1 : Int))).tr fun r_ => .rt r_) (tite (b2 tgtI (b2 tmulI (R.ok m) (R.ok m)) (b2 tmulI (b2 tmulI (R.ok (2 : Int)) (R.ok n)) (R.ok n))) ((b2 tsubI (R.ok (1 : Int)) (b2 tmulI (R.ok (2 : Int)) (b1 tintB (b2 tltI (R.ok m) (R.ok (0 : Int)))))).tr fun r_ => .rt r_) ((b2 tsubI (R.ok (1 : Int)) (b2 tmulI (R.ok (2 : Int)) (b1 tintB (b2 tltI (R.ok n) (R.ok (0 : Int)))))).tr fun r_ => .rt r_)))) (fun _ => .stuck)
def t_law_cross (start : (T4 Int Int Int Int)) (stop : (T4 Int Int Int Int)) (spot : (T4 Int Int Int Int)) : R (Int × Int) := TR.fn (l := Empty) (σ := Unit) ((b2 tmulI (R.ok (2 : Int)) (b2 tsubI (b1 (pj T4.a) (R.ok stop)) (b1 (pj T4.a) (R.ok start)))).tr fun a => ((b2 taddI (b2 tsubI (b2 tsubI (b1 (pj T4.b) (R.ok stop)) (b1 (pj T4.b) (R.ok start))) (b1 (pj T4.d) (R.ok stop))) (b1 (pj T4.d) (R.ok start))).tr fun b => ((b2 tmulI (R.ok (2 : Int)) (b2 tsubI (b1 (pj T4.c) (R.ok stop)) (b1 (pj T4.c) (R.ok start)))).tr fun c => ((b2 tsubI (b2 taddI (b2 tsubI (b1 (pj T4.b) (R.ok stop)) (b1 (pj T4.b) (R.ok start))) (b1 (pj T4.d) (R.ok stop))) (b1 (pj T4.d) (R.ok start))).tr fun d => ((b2 tmulI (R.ok (2 : Int)) (b1 (pj T4.a) (R.ok spot))).tr fun e_ => ((b2 tsubI (b1 (pj T4.b) (R.ok spot)) (b1 (pj T4.d) (R.ok spot))).tr fun f => ((b2 tmulI (R.ok (2 : Int)) (b1 (pj T4.c) (R.ok spot))).tr fun g => ((b2 taddI (b1 (pj T4.b) (R.ok spot)) (b1 (pj T4.d) (R.ok spot))).tr fun h_ => ((b2 mk2 (b2 tsubI (b2 tsubI (b2 taddI (b2 tmulI (R.ok a) (R.ok g)) (b2 tmulI (b2 tmulI (R.ok (2 : Int)) (R.ok b)) (R.ok h_))) (b2 tmulI (R.ok c) (R.ok e_))) (b2 tmulI (b2 tmulI (R.ok (2 : Int)) (R.ok d)) (R.ok f))) (b2 tsubI (b2 tsubI (b2 taddI (b2 tmulI (R.ok a) (R.ok h_)) (b2 tmulI (R.ok b) (R.ok g))) (b2 tmulI (R.ok c) (R.ok f))) (b2 tmulI (R.ok d) (R.ok e_)))).tr fun r_ => .rt r_))))))))) (fun _ => .stuck)
def t_law_greatest_1 (surd : (Int × Int)) (best : (Int × Int)) : TR (Int × Int) (Int × Int) (Int × Int) := (tite (b2 tgtI (b2 t_law_surd_sign (b2 tsubI (b1 (pj Prod.fst) (R.ok surd)) (b1 (pj Prod.fst) (R.ok best))) (b2 tsubI (b1 (pj Prod.snd) (R.ok surd)) (b1 (pj Prod.snd) (R.ok best)))) (R.ok (0 : Int))) ((R.ok surd).tr fun best => (.nx best)) (.nx best))
abbrev E_law_greatest_1 : (Int × Int) → OEnv := fun s_ => match s_ with | best => [none, some (oF best), none]
def t_law_greatest (surds : (List (Int × Int))) : R (Int × Int) := TR.fn (l := Empty) (σ := Unit) ((b2 tidx (R.ok surds) (R.ok (0 : Int))).tr fun best => ((R.ok surds).tr fun xs_ => (forT (fun surd best => t_law_greatest_1 surd best) xs_ best).bind fun best => ((R.ok best).tr fun r_ => .rt r_))) (fun _ => .stuck)
def t_law_parted_2 (one : (List (T4 Int Int Int Int))) (other : (List (T4 Int Int Int Int))) (k : Int) : TR Bool Unit Unit := ((b1 t_law_greatest ((R.ok other).bind fun xs_ => (tmap (fun spot => (b3 t_law_cross (b2 tidx (R.ok one) (b2 tsubI (R.ok k) (R.ok (1 : Int)))) (b2 tidx (R.ok one) (R.ok k)) (R.ok spot))) xs_).calm)).tr fun far => ((b3 t_law_cross (b2 tidx (R.ok one) (b2 tsubI (R.ok k) (R.ok (1 : Int)))) (b2 tidx (R.ok one) (R.ok k)) (b2 tidx (R.ok one) (R.ok k))).tr fun own => (tite (b2 tleI (b2 t_law_surd_sign (b2 tsubI (b1 (pj Prod.fst) (R.ok far)) (b1 (pj Prod.fst) (R.ok own))) (b2 tsubI (b1 (pj Prod.snd) (R.ok far)) (b1 (pj Prod.snd) (R.ok own)))) (R.ok (0 : Int))) ((R.ok true).tr fun r_ => .rt r_) (.nx ()))))
abbrev E_law_parted_2 (one : (List (T4 Int Int Int Int))) (other : (List (T4 Int Int Int Int))) : Unit → OEnv := fun s_ => match s_ with | _ => [some (oF one), some (oF other), none, none, none, none]
def t_law_parted (one : (List (T4 Int Int Int Int))) (other : (List (T4 Int Int Int Int))) : R Bool := TR.fn (l := Empty) (σ := Unit) ((b1 trange1 (b1 tlen (R.ok one))).tr fun xs_ => (forT (fun k _ => t_law_parted_2 one other k) xs_ ()).bind fun _ => ((R.ok false).tr fun r_ => .rt r_)) (fun _ => .stuck)
def t_law_overlap (one : (List (T4 Int Int Int Int))) (other : (List (T4 Int Int Int Int))) : R Bool := TR.fn (l := Empty) (σ := Unit) ((tandB (b1 tnotB (b2 t_law_parted (R.ok one) (R.ok other))) (b1 tnotB (b2 t_law_parted (R.ok other) (R.ok one)))).tr fun r_ => .rt r_) (fun _ => .stuck)
def t_law_same_1 (self : PyData → PyData → R Bool) (told : PyData) (due : PyData) (k : Int) : TR Bool Unit Unit := (tite (b1 tnotB (b1 tid (b2 self (b2 vidx (R.ok told) (b1 cUp (R.ok k))) (b2 vidx (R.ok due) (b1 cUp (R.ok k)))))) ((R.ok false).tr fun r_ => .rt r_) (.nx ()))
abbrev E_law_same_1 (told : PyData) (due : PyData) : Unit → OEnv := fun s_ => match s_ with | _ => [some (oF told), some (oF due), none]
def t_law_same : Nat → PyData → PyData → R Bool
  | 0 => fun _ _ => .stuck
  | n_ + 1 => fun told due => (fun self => TR.fn (l := Empty) (σ := Unit) (TR.bind (σ := Unit) (tite (b1 tid (b1 (dB1 (visi "list")) (R.ok due))) (tite (torB (b1 tnotB (b1 tid (b1 (dB1 (visi "list")) (R.ok told)))) (b2 tne (b1 cInt (b1 (fun d => vlen [d]) (R.ok told))) (b1 cInt (b1 (fun d => vlen [d]) (R.ok due))))) ((R.ok false).tr fun r_ => .rt r_) (.nx ())) (tite (b1 tid (b1 (dB1 (visi "tuple")) (R.ok due))) (tite (torB (b1 tnotB (b1 tid (b1 (dB1 (visi "tuple")) (R.ok told)))) (b2 tne (b1 cInt (b1 (fun d => vlen [d]) (R.ok told))) (b1 cInt (b1 (fun d => vlen [d]) (R.ok due))))) ((R.ok false).tr fun r_ => .rt r_) (.nx ())) (tite (b1 tisnoneD (R.ok due)) ((b1 tisnoneD (R.ok told)).tr fun r_ => .rt r_) (tite (b1 tid (b1 (dB1 (visi "bool")) (R.ok due))) ((tandB (b1 (dB1 (visi "bool")) (R.ok told)) (b2 (dB veq) (R.ok told) (R.ok due))).tr fun r_ => .rt r_) (tite (b1 tid (b1 (dB1 (visi "int")) (R.ok due))) ((tandB (b1 (dB1 (visi "int")) (R.ok told)) (tandB (b1 tnotB (b1 (dB1 (visi "bool")) (R.ok told))) (b2 (dB veq) (R.ok told) (R.ok due)))).tr fun r_ => .rt r_) ((tandB (b1 (dB1 (visi "str")) (R.ok told)) (b2 (dB veq) (R.ok told) (R.ok due))).tr fun r_ => .rt r_)))))) fun _ => ((b1 trange1 (b1 cInt (b1 (fun d => vlen [d]) (R.ok due)))).tr fun xs_ => (forT (fun k _ => t_law_same_1 self told due k) xs_ ()).bind fun _ => ((R.ok true).tr fun r_ => .rt r_))) (fun _ => .stuck)) (t_law_same n_)
def t_law_room (draws : (List Int)) (at_ : Int) (width : Int) : R (List (T4 Int Int Int Int)) := TR.fn (l := Empty) (σ := Unit) ((b2 mk2 (b4 mk4 (b2 tsubI (b2 tmodI (b2 tidx (R.ok draws) (R.ok at_)) (R.ok (9 : Int))) (R.ok (4 : Int))) (b2 tsubI (b2 tmodI (b2 tidx (R.ok draws) (b2 taddI (R.ok at_) (R.ok (1 : Int)))) (R.ok (9 : Int))) (R.ok (4 : Int))) (b2 tsubI (b2 tmodI (b2 tidx (R.ok draws) (b2 taddI (R.ok at_) (R.ok (2 : Int)))) (R.ok (9 : Int))) (R.ok (4 : Int))) (b2 tsubI (b2 tmodI (b2 tidx (R.ok draws) (b2 taddI (R.ok at_) (R.ok (3 : Int)))) (R.ok (9 : Int))) (R.ok (4 : Int)))) (b2 tmodI (b2 tidx (R.ok draws) (b2 taddI (R.ok at_) (R.ok (4 : Int)))) (R.ok (8 : Int)))).tr fun pose => (tite (b2 teq (b2 tmodI (b2 tidx (R.ok draws) (b2 taddI (R.ok at_) (R.ok (5 : Int)))) (R.ok (2 : Int))) (R.ok (0 : Int))) ((b3 t_law_straight_room (R.ok pose) (b2 taddI (R.ok (1 : Int)) (b2 tmodI (b2 tidx (R.ok draws) (b2 taddI (R.ok at_) (R.ok (6 : Int)))) (R.ok (12 : Int)))) (R.ok width)).tr fun r_ => .rt r_) ((b4 t_law_curve_room (R.ok pose) (b2 taddI (b2 taddI (R.ok width) (R.ok (1 : Int))) (b2 tmodI (b2 tidx (R.ok draws) (b2 taddI (R.ok at_) (R.ok (6 : Int)))) (R.ok (12 : Int)))) (b2 tidx (tcons (R.ok ("left" : Str)) (tcons (R.ok ("right" : Str)) (R.ok ([] : List Str)))) (b2 tmodI (b2 tfdivI (b2 tidx (R.ok draws) (b2 taddI (R.ok at_) (R.ok (5 : Int)))) (R.ok (2 : Int))) (R.ok (2 : Int)))) (R.ok width)).tr fun r_ => .rt r_))) (fun _ => .stuck)
def t_law_moved (room : (List (T4 Int Int Int Int))) (spot : (T4 Int Int Int Int)) (turn : Int) : R (List (T4 Int Int Int Int)) := TR.fn (l := Empty) (σ := Unit) (((R.ok room).bind fun xs_ => (tmap (fun corner => (b2 t_law_plus (R.ok spot) (b2 t_law_turned (R.ok corner) (R.ok turn)))) xs_).calm).tr fun r_ => .rt r_) (fun _ => .stuck)
def t_law_agrees (one : (List (T4 Int Int Int Int))) (other : (List (T4 Int Int Int Int))) : R Bool := TR.fn (l := Empty) (σ := Unit) ((b2 t_law_overlap (R.ok one) (R.ok other)).tr fun due => ((R.ok one).tr fun first => ((R.ok other).tr fun second => ((b2 t_overlap (R.ok first) (R.ok second)).tr fun told => (tite (torB (b1 tnotB (b1 tid (b2 (t_law_same 10) (b1 cUp (R.ok told)) (b1 cUp (R.ok due))))) (b1 tnotB (b1 tid (b2 (t_law_same 10) (b1 cUp (b2 t_overlap (R.ok second) (R.ok first))) (b1 cUp (R.ok due)))))) ((R.ok false).tr fun r_ => .rt r_) ((tandB (b2 teq (R.ok first) (R.ok one)) (b2 teq (R.ok second) (R.ok other))).tr fun r_ => .rt r_)))))) (fun _ => .stuck)
def t_law_1 (draws : (List Int)) (far : (T4 Int Int Int Int)) (pair : ((List (T4 Int Int Int Int)) × (List (T4 Int Int Int Int)))) : TR Bool Unit Unit := (tite (b1 tnotB (b1 tid (b2 t_law_agrees (b1 (pj Prod.fst) (R.ok pair)) (b1 (pj Prod.snd) (R.ok pair))))) ((R.ok false).tr fun r_ => .rt r_) ((b2 t_law_overlap (b1 (pj Prod.fst) (R.ok pair)) (b1 (pj Prod.snd) (R.ok pair))).tr fun due => (tite (b2 tne (b2 t_overlap (b3 t_law_moved (b1 (pj Prod.fst) (R.ok pair)) (R.ok far) (b2 tidx (R.ok draws) (R.ok (19 : Int)))) (b3 t_law_moved (b1 (pj Prod.snd) (R.ok pair)) (R.ok far) (b2 tidx (R.ok draws) (R.ok (19 : Int))))) (R.ok due)) ((R.ok false).tr fun r_ => .rt r_) (.nx ()))))
abbrev E_law_1 (script : (List Int)) (draws : (List Int)) (width : Int) (far : (T4 Int Int Int Int)) : Unit → OEnv := fun s_ => match s_ with | _ => [some (oF script), none, some (oF draws), some (oF width), none, none, some (oF far), none, none, none, none, none, none, none, none, none, none]
def t_law_2 (track : (List (T4 Int Int Int Int))) (spot : (List (T4 Int Int Int Int))) (due : Bool) : TR Bool Unit Unit := (tite (b1 tnotB (b1 tid (b2 (t_law_same 10) (b1 cUp (b2 t_overlap (R.ok track) (R.ok spot))) (b1 cUp (R.ok due))))) ((R.ok false).tr fun r_ => .rt r_) (.nx ()))
abbrev E_law_2 (script : (List Int)) (track : (List (T4 Int Int Int Int))) : Unit → OEnv := fun s_ => match s_ with | _ => [some (oF script), none, none, none, none, none, none, none, none, none, none, none, some (oF track), none, none, none, none]
def t_law_3 (script : (List Int)) (at_ : Int) : TR Bool Unit Unit := ((b3 t_law_numbers (b2 t_law_cell (R.ok script) (R.ok at_)) (R.ok (20 : Int)) (R.ok (5040 : Int))).tr fun draws => ((b2 taddI (R.ok (1 : Int)) (b2 tmodI (b2 tidx (R.ok draws) (R.ok (14 : Int))) (R.ok (4 : Int)))).tr fun width => ((b3 t_law_room (R.ok draws) (R.ok (0 : Int)) (R.ok width)).tr fun one => ((b3 t_law_room (R.ok draws) (R.ok (7 : Int)) (R.ok width)).tr fun other => ((b4 mk4 (b2 tsubI (b2 tidx (R.ok draws) (R.ok (15 : Int))) (R.ok (2000 : Int))) (b2 tidx (R.ok draws) (R.ok (16 : Int))) (b2 tsubI (b2 tidx (R.ok draws) (R.ok (17 : Int))) (R.ok (999 : Int))) (b2 tidx (R.ok draws) (R.ok (18 : Int)))).tr fun far => ((b3 t_law_moved (R.ok other) (b4 mk4 (R.ok (0 : Int)) (R.ok (0 : Int)) (R.ok (0 : Int)) (R.ok (0 : Int))) (b2 tidx (R.ok draws) (R.ok (19 : Int)))).tr fun turned => ((tcons (b2 mk2 (R.ok one) (R.ok other)) (tcons (b2 mk2 (R.ok one) (R.ok one)) (tcons (b2 mk2 (R.ok one) (R.ok turned)) (tcons (b2 mk2 (R.ok other) (b3 t_law_moved (R.ok one) (R.ok far) (R.ok (0 : Int)))) (R.ok ([] : List ((List (T4 Int Int Int Int)) × (List (T4 Int Int Int Int))))))))).tr fun xs_ => (forT (fun pair _ => t_law_1 draws far pair) xs_ ()).bind fun _ => ((b2 taddI (R.ok (1 : Int)) (b2 tmodI (b2 tidx (R.ok draws) (R.ok (6 : Int))) (R.ok (12 : Int)))).tr fun length => ((b2 mk2 (b4 mk4 (b2 tidx (R.ok draws) (R.ok (0 : Int))) (b2 tidx (R.ok draws) (R.ok (1 : Int))) (b2 tidx (R.ok draws) (R.ok (2 : Int))) (b2 tidx (R.ok draws) (R.ok (3 : Int)))) (b2 tmodI (b2 tidx (R.ok draws) (R.ok (4 : Int))) (R.ok (8 : Int)))).tr fun pose => ((b3 t_law_straight_room (R.ok pose) (R.ok length) (R.ok width)).tr fun track => ((b3 t_law_moved (R.ok track) (b2 t_law_ray (b2 tmulI (R.ok (2 : Int)) (R.ok width)) (b2 taddI (b1 (pj Prod.snd) (R.ok pose)) (R.ok (2 : Int)))) (R.ok (0 : Int))).tr fun beside => ((b3 t_law_moved (R.ok track) (b2 t_law_ray (R.ok length) (b1 (pj Prod.snd) (R.ok pose))) (R.ok (0 : Int))).tr fun ahead => ((b3 t_law_moved (R.ok track) (b2 t_law_ray (b2 tsubI (b2 tmulI (R.ok (2 : Int)) (R.ok width)) (R.ok (1 : Int))) (b2 taddI (b1 (pj Prod.snd) (R.ok pose)) (R.ok (2 : Int)))) (R.ok (0 : Int))).tr fun near => ((tcons (b2 mk2 (R.ok beside) (R.ok false)) (tcons (b2 mk2 (R.ok ahead) (R.ok false)) (tcons (b2 mk2 (R.ok near) (R.ok true)) (tcons (b2 mk2 (R.ok track) (R.ok true)) (R.ok ([] : List ((List (T4 Int Int Int Int)) × Bool))))))).tr fun xs_ => (forT (fun ⟨spot, due⟩ _ => t_law_2 track spot due) xs_ ()).bind fun _ => (.nx ())))))))))))))))
abbrev E_law_3 (script : (List Int)) : Unit → OEnv := fun s_ => match s_ with | _ => [some (oF script), none, none, none, none, none, none, none, none, none, none, none, none, none, none, none, none]
def t_law (script : (List Int)) : R Bool := TR.fn (l := Empty) (σ := Unit) ((b1 trange1 (R.ok (4 : Int))).tr fun xs_ => (forT (fun at_ _ => t_law_3 script at_) xs_ ()).bind fun _ => ((R.ok true).tr fun r_ => .rt r_)) (fun _ => .stuck)
end
theorem ty_spot_less (one : (T4 Int Int Int Int)) (other : (T4 Int Int Int Int)) : TEq (m_spot_less [Enc.e one, Enc.e other]) (t_spot_less one other) := by
  rw [r_spot_less]
  unfold g_spot_less t_spot_less
  exact fn_T (E := fun _ _ => True) (L := fun _ _ => True) (q_end (q_ret (f := fun r_ => (r_ : (T4 Int Int Int Int))) (p_x (t_exF (t_tup4 (t_2 o_subI (o_pj (p := T4.a) (ha := (t_var 0 one))) (o_pj (p := T4.a) (ha := (t_var 1 other)))) (t_2 o_subI (o_pj (p := T4.b) (ha := (t_var 0 one))) (o_pj (p := T4.b) (ha := (t_var 1 other)))) (t_2 o_subI (o_pj (p := T4.c) (ha := (t_var 0 one))) (o_pj (p := T4.c) (ha := (t_var 1 other)))) (t_2 o_subI (o_pj (p := T4.d) (ha := (t_var 0 one))) (o_pj (p := T4.d) (ha := (t_var 1 other))))))) trivial (fun _ => dF _))) (fun _ => trivial)
theorem ty_doubled (spot : (T4 Int Int Int Int)) : TEq (m_doubled [Enc.e spot]) (t_doubled spot) := by
  rw [r_doubled]
  unfold g_doubled t_doubled
  exact fn_T (E := fun _ _ => True) (L := fun _ _ => True) (q_end (q_ret (f := fun r_ => (r_ : ((Int × Int) × (Int × Int)))) (p_x (t_exF (t_tup2 (t_tup2 (t_2 o_mulI (t_c (2 : Int)) (o_pj (p := T4.a) (ha := (t_var 0 spot)))) (t_2 o_subI (o_pj (p := T4.b) (ha := (t_var 0 spot))) (o_pj (p := T4.d) (ha := (t_var 0 spot))))) (t_tup2 (t_2 o_mulI (t_c (2 : Int)) (o_pj (p := T4.c) (ha := (t_var 0 spot)))) (t_2 o_addI (o_pj (p := T4.b) (ha := (t_var 0 spot))) (o_pj (p := T4.d) (ha := (t_var 0 spot)))))))) trivial (fun _ => dF _))) (fun _ => trivial)
theorem ty_number_sign (number : Int) : TEq (m_number_sign [Enc.e number]) (t_number_sign number) := by
  rw [r_number_sign]
  unfold g_number_sign t_number_sign
  exact fn_T (E := fun _ _ => True) (L := fun _ _ => True) (q_if (t_tst (t_2 o_gtI (t_varO 0 oF number dF) (t_c (0 : Int)))) trivial (q_ret (f := fun r_ => (r_ : Int)) (p_x (t_exF (t_c (1 : Int)))) trivial (fun _ => dF _)) (q_nxs (q_if (t_tst (t_2 o_ltI (t_varO 0 oF number dF) (t_c (0 : Int)))) trivial (q_ret (f := fun r_ => (r_ : Int)) (p_x (t_exF (t_1 o_negI (t_c (1 : Int))))) trivial (fun _ => dF _)) (q_pre (q_at (ρ' := [none]) rfl (q_nxs (q_end (q_ret (f := fun r_ => (r_ : Int)) (p_x (t_exF (t_c (0 : Int)))) trivial (fun _ => dF _))))))))) (fun _ => trivial)
theorem ty_surd_sign (surd : (Int × Int)) : TEq (m_surd_sign [Enc.e surd]) (t_surd_sign surd) := by
  rw [r_surd_sign]
  unfold g_surd_sign t_surd_sign
  exact fn_T (E := fun _ _ => True) (L := fun _ _ => True) (q_tup0 (fun ⟨plain, rooted⟩ => [(1, Enc.e plain), (2, Enc.e rooted)]) (t_exF (t_var 0 surd)) trivial (fun ⟨plain, rooted⟩ => rfl) fun ⟨plain, rooted⟩ => (q_at (ρ' := [some (oF surd), some (oF plain), some (oF rooted), none, none]) rfl (q_set (p_x (t_exF (t_call1 ty_number_sign (t_var 1 plain)))) trivial fun one => (q_at (ρ' := [some (oF surd), some (oF plain), some (oF rooted), some (oF one), none]) rfl (q_set (p_x (t_exF (t_call1 ty_number_sign (t_var 2 rooted)))) trivial fun other => (q_at (ρ' := [some (oF surd), some (oF plain), some (oF rooted), some (oF one), some (oF other)]) rfl (q_if (t_tor (t_tst (t_2 o_eq (t_varO 3 oF one dF) (t_c (0 : Int)))) (t_tst (t_2 o_eq (t_varO 3 oF one dF) (t_varO 4 oF other dF)))) trivial (q_ret (f := fun r_ => (r_ : Int)) (p_x (t_exF (t_vif (t_tst (t_2 o_eq (t_var 3 one) (t_c (0 : Int)))) (t_var 4 other) (t_var 3 one)))) trivial (fun _ => dF _)) (q_pre (q_at (ρ' := [none, some (oF plain), some (oF rooted), some (oF one), some (oF other)]) rfl (q_nxs (q_if (t_tst (t_2 o_eq (t_varO 4 oF other dF) (t_c (0 : Int)))) trivial (q_ret (f := fun r_ => (r_ : Int)) (p_x (t_exF (t_var 3 one))) trivial (fun _ => dF _)) (q_nxs (q_if (t_tst (t_2 o_gtI (t_2 o_mulI (t_varO 1 oF plain dF) (t_varO 1 oF plain dF)) (t_2 o_mulI (t_2 o_mulI (t_c (2 : Int)) (t_varO 2 oF rooted dF)) (t_varO 2 oF rooted dF)))) trivial (q_ret (f := fun r_ => (r_ : Int)) (p_x (t_exF (t_var 3 one))) trivial (fun _ => dF _)) (q_pre (q_at (ρ' := [none, none, none, none, some (oF other)]) rfl (q_nxs (q_end (q_ret (f := fun r_ => (r_ : Int)) (p_x (t_exF (t_var 4 other))) trivial (fun _ => dF _))))))))))))))))))) (fun _ => trivial)
theorem ty_surd_sum (one : (Int × Int)) (other : (Int × Int)) : TEq (m_surd_sum [Enc.e one, Enc.e other]) (t_surd_sum one other) := by
  rw [r_surd_sum]
  unfold g_surd_sum t_surd_sum
  exact fn_T (E := fun _ _ => True) (L := fun _ _ => True) (q_end (q_ret (f := fun r_ => (r_ : (Int × Int))) (p_x (t_exF (t_tup2 (t_2 o_addI (o_pj (p := Prod.fst) (ha := (t_var 0 one))) (o_pj (p := Prod.fst) (ha := (t_var 1 other)))) (t_2 o_addI (o_pj (p := Prod.snd) (ha := (t_var 0 one))) (o_pj (p := Prod.snd) (ha := (t_var 1 other))))))) trivial (fun _ => dF _))) (fun _ => trivial)
theorem ty_surd_opposite (surd : (Int × Int)) : TEq (m_surd_opposite [Enc.e surd]) (t_surd_opposite surd) := by
  rw [r_surd_opposite]
  unfold g_surd_opposite t_surd_opposite
  exact fn_T (E := fun _ _ => True) (L := fun _ _ => True) (q_end (q_ret (f := fun r_ => (r_ : (Int × Int))) (p_x (t_exF (t_tup2 (t_1 o_negI (o_pj (p := Prod.fst) (ha := (t_var 0 surd)))) (t_1 o_negI (o_pj (p := Prod.snd) (ha := (t_var 0 surd))))))) trivial (fun _ => dF _))) (fun _ => trivial)
theorem ty_surd_product (one : (Int × Int)) (other : (Int × Int)) : TEq (m_surd_product [Enc.e one, Enc.e other]) (t_surd_product one other) := by
  rw [r_surd_product]
  unfold g_surd_product t_surd_product
  exact fn_T (E := fun _ _ => True) (L := fun _ _ => True) (q_end (q_ret (f := fun r_ => (r_ : (Int × Int))) (p_x (t_exF (t_tup2 (t_2 o_addI (t_2 o_mulI (o_pj (p := Prod.fst) (ha := (t_var 0 one))) (o_pj (p := Prod.fst) (ha := (t_var 1 other)))) (t_2 o_mulI (t_2 o_mulI (t_c (2 : Int)) (o_pj (p := Prod.snd) (ha := (t_var 0 one)))) (o_pj (p := Prod.snd) (ha := (t_var 1 other))))) (t_2 o_addI (t_2 o_mulI (o_pj (p := Prod.fst) (ha := (t_var 0 one))) (o_pj (p := Prod.snd) (ha := (t_var 1 other)))) (t_2 o_mulI (o_pj (p := Prod.snd) (ha := (t_var 0 one))) (o_pj (p := Prod.fst) (ha := (t_var 1 other)))))))) trivial (fun _ => dF _))) (fun _ => trivial)
theorem ty_turn_sign (start : (T4 Int Int Int Int)) (stop : (T4 Int Int Int Int)) (spot : (T4 Int Int Int Int)) : TEq (m_turn_sign [Enc.e start, Enc.e stop, Enc.e spot]) (t_turn_sign start stop spot) := by
  rw [r_turn_sign]
  unfold g_turn_sign t_turn_sign
  exact fn_T (E := fun _ _ => True) (L := fun _ _ => True) (q_set (p_x (t_exF (t_call1 ty_doubled (t_call2 ty_spot_less (t_var 1 stop) (t_var 0 start))))) trivial fun along => (q_at (ρ' := [some (oF start), some (oF stop), some (oF spot), some (oF along), none, none, none]) rfl (q_set (p_x (t_exF (t_call1 ty_doubled (t_call2 ty_spot_less (t_var 2 spot) (t_var 0 start))))) trivial fun aside => (q_at (ρ' := [some (oF start), some (oF stop), some (oF spot), some (oF along), some (oF aside), none, none]) rfl (q_set (p_x (t_exF (t_call2 ty_surd_product (o_pj (p := Prod.fst) (ha := (t_var 3 along))) (o_pj (p := Prod.snd) (ha := (t_var 4 aside)))))) trivial fun one => (q_at (ρ' := [some (oF start), some (oF stop), some (oF spot), some (oF along), some (oF aside), some (oF one), none]) rfl (q_set (p_x (t_exF (t_call2 ty_surd_product (o_pj (p := Prod.snd) (ha := (t_var 3 along))) (o_pj (p := Prod.fst) (ha := (t_var 4 aside)))))) trivial fun other => (q_at (ρ' := [some (oF start), some (oF stop), some (oF spot), some (oF along), some (oF aside), some (oF one), some (oF other)]) rfl (q_end (q_ret (f := fun r_ => (r_ : Int)) (p_x (t_exF (t_call1 ty_surd_sign (t_call2 ty_surd_sum (t_var 5 one) (t_call1 ty_surd_opposite (t_var 6 other)))))) trivial (fun _ => dF _))))))))))) (fun _ => trivial)
theorem ty_lies_outside (room : (List (T4 Int Int Int Int))) (start : (T4 Int Int Int Int)) (stop : (T4 Int Int Int Int)) : TEq (m_lies_outside [Enc.e room, Enc.e start, Enc.e stop]) (t_lies_outside room start stop) := by
  rw [r_lies_outside]
  unfold g_lies_outside t_lies_outside
  exact fn_T (E := fun _ _ => True) (L := fun _ _ => True) (q_end (q_ret (f := fun r_ => (r_ : Bool)) (p_x (t_exF (t_call1 o_all (t_list (t_map (fun corner => [(3, Enc.e corner)]) (t_isq (t_var 0 room)) (fun corner => rfl) (fun corner => (t_2 o_leI (t_call3 ty_turn_sign (t_var 1 start) (t_var 2 stop) (t_var 3 corner)) (t_c (0 : Int))))))))) trivial (fun _ => dF _))) (fun _ => trivial)
theorem ty_has_dividing_edge_1 (one : (List (T4 Int Int Int Int))) (other : (List (T4 Int Int Int Int))) (k : Int) {Z : OEnv → Prop} : SQ (fun s ρ => kill [2] ρ = E_has_dividing_edge_1 one other s) (fun s ρ => ρ = E_has_dividing_edge_1 one other s) (fun o (b : Bool) => O.data o = Enc.e b) (fun _ => True) (b_has_dividing_edge_1 [some (oF one), some (oF other), some (oF k)]) (t_has_dividing_edge_1 one other k) := by
  unfold b_has_dividing_edge_1 t_has_dividing_edge_1
  exact (q_end (q_if (t_ttr o_truB (t_call3 ty_lies_outside (t_varO 1 oF other dF) (t_2 o_idx (t_varO 0 oF one dF) (t_2 o_subI (t_varO 2 oF k dF) (t_c (1 : Int)))) (t_2 o_idx (t_varO 0 oF one dF) (t_varO 2 oF k dF)))) trivial (q_ret (f := fun r_ => (r_ : Bool)) (p_x (t_exF (t_c true))) trivial (fun _ => dF _)) (q_pre (q_at (ρ' := [some (oF one), some (oF other), none]) rfl (q_nxs (q_nx () rfl))))))
theorem ty_has_dividing_edge (one : (List (T4 Int Int Int Int))) (other : (List (T4 Int Int Int Int))) : TEq (m_has_dividing_edge [Enc.e one, Enc.e other]) (t_has_dividing_edge one other) := by
  rw [r_has_dividing_edge]
  unfold g_has_dividing_edge t_has_dividing_edge
  exact fn_T (E := fun _ _ => True) (L := fun _ _ => True) (q_for (E_has_dividing_edge_1 one other) (fun k => [(2, Enc.e k)]) () (t_x1 o_range1 (t_exF (t_call1 o_len (t_var 0 one)))) trivial rfl (fun k => rfl) (fun _ => rfl) (fun k _ => ty_has_dividing_edge_1 one other k (Z := fun _ => True)) fun _ => (q_at (ρ' := [some (oF one), some (oF other), none]) rfl (q_pre0 (q_at (ρ' := [none, none, none]) rfl (q_end (q_ret (f := fun r_ => (r_ : Bool)) (p_x (t_exF (t_c false))) trivial (fun _ => dF _))))))) (fun _ => trivial)
theorem ty_overlap (one : (List (T4 Int Int Int Int))) (other : (List (T4 Int Int Int Int))) : TEq (m_overlap [Enc.e one, Enc.e other]) (t_overlap one other) := by
  rw [r_overlap]
  unfold g_overlap t_overlap
  exact fn_T (E := fun _ _ => True) (L := fun _ _ => True) (q_end (q_ret (f := fun r_ => (r_ : Bool)) (p_x (t_exF (t_vand (t_vnot (t_call2 ty_has_dividing_edge (t_var 0 one) (t_var 1 other))) (t_vnot (t_call2 ty_has_dividing_edge (t_var 1 other) (t_var 0 one)))))) trivial (fun _ => dF _))) (fun _ => trivial)
theorem ty_law_cell (script : (List Int)) (k : Int) : TEq (m_law_cell [Enc.e script, Enc.e k]) (t_law_cell script k) := by
  rw [r_law_cell]
  unfold g_law_cell t_law_cell
  exact fn_T (E := fun _ _ => True) (L := fun _ _ => True) (q_if (t_tst (t_2 o_ltI (t_varO 1 oF k dF) (t_call1 o_len (t_varO 0 oF script dF)))) trivial (q_ret (f := fun r_ => (r_ : Int)) (p_x (t_exF (t_call1 o_int (t_2 o_idx (t_var 0 script) (t_var 1 k))))) trivial (fun _ => dF _)) (q_pre (q_at (ρ' := [none, none]) rfl (q_nxs (q_end (q_ret (f := fun r_ => (r_ : Int)) (p_x (t_exF (t_c (0 : Int)))) trivial (fun _ => dF _))))))) (fun _ => trivial)
theorem ty_law_numbers_1 (limit : Int) (k : Int) (cell : Int) (found : (List Int)) {Z : OEnv → Prop} : SQ (fun s ρ => kill [4] ρ = E_law_numbers_1 limit s) (fun s ρ => ρ = E_law_numbers_1 limit s) (fun o (b : (List Int)) => O.data o = Enc.e b) (fun _ => True) (b_law_numbers_1 [some (oF cell), none, some (oF limit), some ((oL oF) found), some (oF k), none]) (t_law_numbers_1 limit k cell found) := by
  unfold b_law_numbers_1 t_law_numbers_1
  exact (q_app (ox := oF) 3 found (p_x (t_exF (t_2 o_modI (t_call1 o_int (t_var 0 cell)) (t_var 2 limit)))) trivial fun found => (q_at (ρ' := [some (oF cell), none, some (oF limit), some ((oL oF) found), some (oF k), none]) rfl (q_end (q_set (p_x (t_exF (t_2 o_fdivI (t_call1 o_int (t_var 0 cell)) (t_var 2 limit)))) trivial fun cell => (q_at (ρ' := [some (oF cell), none, some (oF limit), some ((oL oF) found), some (oF k), none]) rfl (q_nx (cell, found) rfl))))))
theorem ty_law_numbers_2 (cell : Int) (limit : Int) (k : Int) (found : (List Int)) {Z : OEnv → Prop} : SQ (fun s ρ => kill [4, 5] ρ = E_law_numbers_2 cell limit s) (fun s ρ => ρ = E_law_numbers_2 cell limit s) (fun o (b : (List Int)) => O.data o = Enc.e b) (fun _ => True) (b_law_numbers_2 [some (oF cell), none, some (oF limit), some ((oL oF) found), some (oF k), none]) (t_law_numbers_2 cell limit k found) := by
  unfold b_law_numbers_2 t_law_numbers_2
  exact (q_set (p_x (t_exF (t_2 o_modI (t_call1 o_int (t_2 o_addI (t_2 o_addI (t_2 o_mulI (t_var 0 cell) (t_c (48271 : Int))) (t_2 o_mulI (t_var 4 k) (t_c (69621 : Int)))) (t_c (7 : Int)))) (t_c (2147483647 : Int))))) trivial fun mixed => (q_at (ρ' := [some (oF cell), none, some (oF limit), some ((oL oF) found), some (oF k), some (oF mixed)]) rfl (q_set (p_x (t_exF (t_2 o_modI (t_call1 o_int (t_2 o_addI (t_2 o_addI (t_2 o_addI (t_2 o_mulI (t_var 5 mixed) (t_var 5 mixed)) (t_2 o_mulI (t_var 5 mixed) (t_c (40692 : Int)))) (t_2 o_mulI (t_var 4 k) (t_c (16807 : Int)))) (t_c (11 : Int)))) (t_c (2147483399 : Int))))) trivial fun mixed => (q_at (ρ' := [some (oF cell), none, some (oF limit), some ((oL oF) found), some (oF k), some (oF mixed)]) rfl (q_end (q_app (ox := oF) 3 found (p_x (t_exF (t_2 o_modI (t_call1 o_int (t_2 o_fdivI (t_var 5 mixed) (t_c (32 : Int)))) (t_var 2 limit)))) trivial fun found => (q_at (ρ' := [some (oF cell), none, some (oF limit), some ((oL oF) found), some (oF k), some (oF mixed)]) rfl (q_nx found rfl))))))))
theorem ty_law_numbers (cell : Int) (count : Int) (limit : Int) : TEq (m_law_numbers [Enc.e cell, Enc.e count, Enc.e limit]) (t_law_numbers cell count limit) := by
  rw [r_law_numbers]
  unfold g_law_numbers t_law_numbers
  exact fn_T (E := fun _ _ => True) (L := fun _ _ => True) (q_set (p_frF (t_nil (α := Int))) trivial fun found => (q_at (ρ' := [some (oF cell), some (oF count), some (oF limit), some ((oL oF) found), none, none]) rfl (q_if (t_tst (t_2 o_geI (t_varO 0 oF cell dF) (t_2 o_powI (t_c (10 : Int)) (t_c (18 : Int))))) trivial (q_assoc (q_forK (E_law_numbers_1 limit) (fun k => [(4, Enc.e k)]) (cell, found) (t_x1 o_range1 (t_exF (t_var 1 count))) trivial rfl (fun k => rfl) (fun ⟨cell, found⟩ => rfl) (fun k ⟨cell, found⟩ => ty_law_numbers_1 limit k cell found (Z := fun _ => True)) fun ⟨cell, found⟩ => (q_at (ρ' := [some (oF cell), none, some (oF limit), some ((oL oF) found), none, none]) rfl (q_pre (q_at (ρ' := [none, none, none, some ((oL oF) found), none, none]) rfl (q_pre (q_at (freeze1 (ox := (oL oF)) 3 found (dL dF)) (q_at (ρ' := [none, none, none, some (oF found), none, none]) rfl (q_ret (f := fun r_ => (r_ : (List Int))) (p_x (t_exF (t_var 3 found))) trivial (fun _ => dF _)))))))))) (q_nxs (q_forK (E_law_numbers_2 cell limit) (fun k => [(4, Enc.e k)]) found (t_x1 o_range1 (t_exF (t_var 1 count))) trivial rfl (fun k => rfl) (fun found => rfl) (fun k found => ty_law_numbers_2 cell limit k found (Z := fun _ => True)) fun found => (q_at (ρ' := [some (oF cell), none, some (oF limit), some ((oL oF) found), none, none]) rfl (q_pre0 (q_at (ρ' := [none, none, none, some ((oL oF) found), none, none]) rfl (q_pre0 (q_at (freeze1 (ox := (oL oF)) 3 found (dL dF)) (q_at (ρ' := [none, none, none, some (oF found), none, none]) rfl (q_end (q_ret (f := fun r_ => (r_ : (List Int))) (p_x (t_exF (t_var 3 found))) trivial (fun _ => dF _)))))))))))))) (fun _ => trivial)
theorem ty_law_plus (one : (T4 Int Int Int Int)) (other : (T4 Int Int Int Int)) : TEq (m_law_plus [Enc.e one, Enc.e other]) (t_law_plus one other) := by
  rw [r_law_plus]
  unfold g_law_plus t_law_plus
  exact fn_T (E := fun _ _ => True) (L := fun _ _ => True) (q_end (q_ret (f := fun r_ => (r_ : (T4 Int Int Int Int))) (p_x (t_exF (t_tup4 (t_2 o_addI (o_pj (p := T4.a) (ha := (t_var 0 one))) (o_pj (p := T4.a) (ha := (t_var 1 other)))) (t_2 o_addI (o_pj (p := T4.b) (ha := (t_var 0 one))) (o_pj (p := T4.b) (ha := (t_var 1 other)))) (t_2 o_addI (o_pj (p := T4.c) (ha := (t_var 0 one))) (o_pj (p := T4.c) (ha := (t_var 1 other)))) (t_2 o_addI (o_pj (p := T4.d) (ha := (t_var 0 one))) (o_pj (p := T4.d) (ha := (t_var 1 other))))))) trivial (fun _ => dF _))) (fun _ => trivial)
theorem ty_law_turned (spot : (T4 Int Int Int Int)) (k : Int) : TEq (m_law_turned [Enc.e spot, Enc.e k]) (t_law_turned spot k) := by
  rw [r_law_turned]
  unfold g_law_turned t_law_turned
  exact fn_T (E := fun _ _ => True) (L := fun _ _ => True) (q_tup0 (fun ⟨a, b, c, d⟩ => [(2, Enc.e a), (3, Enc.e b), (4, Enc.e c), (5, Enc.e d)]) (t_exF (t_var 0 spot)) trivial (fun ⟨a, b, c, d⟩ => rfl) fun ⟨a, b, c, d⟩ => (q_at (ρ' := [some (oF spot), some (oF k), some (oF a), some (oF b), some (oF c), some (oF d), none]) rfl (q_set (p_x (t_exF (t_list (t_cons (t_var 2 a) (t_cons (t_var 3 b) (t_cons (t_var 4 c) (t_cons (t_var 5 d) (t_cons (t_1 o_negI (t_var 2 a)) (t_cons (t_1 o_negI (t_var 3 b)) (t_cons (t_1 o_negI (t_var 4 c)) (t_cons (t_1 o_negI (t_var 5 d)) (t_nil (α := Int))))))))))))) trivial fun found => (q_at (ρ' := [some (oF spot), some (oF k), some (oF a), some (oF b), some (oF c), some (oF d), some (oF found)]) rfl (q_set (p_x (t_exF (t_2 o_modI (t_call1 o_int (t_var 1 k)) (t_c (8 : Int))))) trivial fun k => (q_at (ρ' := [some (oF spot), some (oF k), some (oF a), some (oF b), some (oF c), some (oF d), some (oF found)]) rfl (q_end (q_ret (f := fun r_ => (r_ : (T4 Int Int Int Int))) (p_x (t_exF (t_tup4 (t_2 o_idx (t_var 6 found) (t_2 o_modI (t_call1 o_int (t_2 o_subI (t_c (8 : Int)) (t_var 1 k))) (t_c (8 : Int)))) (t_2 o_idx (t_var 6 found) (t_2 o_modI (t_call1 o_int (t_2 o_subI (t_c (9 : Int)) (t_var 1 k))) (t_c (8 : Int)))) (t_2 o_idx (t_var 6 found) (t_2 o_modI (t_call1 o_int (t_2 o_subI (t_c (10 : Int)) (t_var 1 k))) (t_c (8 : Int)))) (t_2 o_idx (t_var 6 found) (t_2 o_modI (t_call1 o_int (t_2 o_subI (t_c (11 : Int)) (t_var 1 k))) (t_c (8 : Int))))))) trivial (fun _ => dF _))))))))) (fun _ => trivial)
theorem ty_law_then (one : ((T4 Int Int Int Int) × Int)) (other : ((T4 Int Int Int Int) × Int)) : TEq (m_law_then [Enc.e one, Enc.e other]) (t_law_then one other) := by
  rw [r_law_then]
  unfold g_law_then t_law_then
  exact fn_T (E := fun _ _ => True) (L := fun _ _ => True) (q_end (q_ret (f := fun r_ => (r_ : ((T4 Int Int Int Int) × Int))) (p_x (t_exF (t_tup2 (t_call2 ty_law_plus (o_pj (p := Prod.fst) (ha := (t_var 0 one))) (t_call2 ty_law_turned (o_pj (p := Prod.fst) (ha := (t_var 1 other))) (o_pj (p := Prod.snd) (ha := (t_var 0 one))))) (t_2 o_modI (t_call1 o_int (t_2 o_addI (o_pj (p := Prod.snd) (ha := (t_var 0 one))) (o_pj (p := Prod.snd) (ha := (t_var 1 other))))) (t_c (8 : Int)))))) trivial (fun _ => dF _))) (fun _ => trivial)
theorem ty_law_end (piece : (T3 Str Int Str)) (end_ : Int) : TEq (m_law_end [Enc.e piece, Enc.e end_]) (t_law_end piece end_) := by
  rw [r_law_end]
  unfold g_law_end t_law_end
  exact fn_T (E := fun _ _ => True) (L := fun _ _ => True) (q_if (t_tst (t_2 o_eq (t_varO 1 oF end_ dF) (t_c (0 : Int)))) trivial (q_ret (f := fun r_ => (r_ : ((T4 Int Int Int Int) × Int))) (p_x (t_exF (t_tup2 (t_tup4 (t_c (0 : Int)) (t_c (0 : Int)) (t_c (0 : Int)) (t_c (0 : Int))) (t_c (4 : Int))))) trivial (fun _ => dF _)) (q_nxs (q_if (t_tor (t_tst (t_2 o_eq (o_pj (p := T3.a) (ha := (t_varO 0 oF piece dF))) (t_c ("curve" : Str)))) (t_tand (t_tst (t_2 o_eq (o_pj (p := T3.a) (ha := (t_varO 0 oF piece dF))) (t_c ("points" : Str)))) (t_tst (t_2 o_eq (t_varO 1 oF end_ dF) (t_c (2 : Int)))))) trivial (q_assoc (q_set (p_x (t_exF (o_pjL (p := T3.b) (ha := (t_var 0 piece))))) trivial fun radius => (q_at (ρ' := [some (oF piece), some (oF end_), some (oF radius), none, none]) rfl (q_assoc (q_if (t_tst (t_2 o_eq (o_pjL (p := T3.c) (ha := (t_varO 0 oF piece dF))) (t_c ("left" : Str)))) trivial (q_ret (f := fun r_ => (r_ : ((T4 Int Int Int Int) × Int))) (p_x (t_exF (t_tup2 (t_tup4 (t_c (0 : Int)) (t_c (0 : Int)) (t_var 2 radius) (t_1 o_negI (t_var 2 radius))) (t_c (1 : Int))))) trivial (fun _ => dF _)) (q_pre (q_at (ρ' := [none, none, some (oF radius), none, none]) rfl (q_nxs (q_ret (f := fun r_ => (r_ : ((T4 Int Int Int Int) × Int))) (p_x (t_exF (t_tup2 (t_tup4 (t_c (0 : Int)) (t_var 2 radius) (t_1 o_negI (t_var 2 radius)) (t_c (0 : Int))) (t_c (7 : Int))))) trivial (fun _ => dF _)))))))))) (q_nxs (q_if (t_tand (t_tst (t_2 o_eq (o_pj (p := T3.a) (ha := (t_varO 0 oF piece dF))) (t_c ("cross" : Str)))) (t_tst (t_2 o_gtI (t_varO 1 oF end_ dF) (t_c (1 : Int))))) trivial (q_assoc (q_set (p_x (t_exF (t_2 o_fdivI (o_pj (p := T3.b) (ha := (t_var 0 piece))) (t_c (2 : Int))))) trivial fun half => (q_at (ρ' := [some (oF piece), some (oF end_), none, some (oF half), none]) rfl (q_assoc (q_set (p_x (t_exF (t_2 o_modI (t_call1 o_int (t_2 o_addI (t_2 o_addI (t_co Co.never (o_pj (p := T3.c) (ha := (t_var 0 piece)))) (t_2 o_mulI (t_c (4 : Int)) (t_2 o_subI (t_var 1 end_) (t_c (2 : Int))))) (t_c (4 : Int)))) (t_c (8 : Int))))) trivial fun way => (q_at (ρ' := [some (oF piece), some (oF end_), none, some (oF half), some (oF way)]) rfl (q_ret (f := fun r_ => (r_ : ((T4 Int Int Int Int) × Int))) (p_x (t_exF (t_tup2 (t_call2 ty_law_plus (t_tup4 (t_var 3 half) (t_c (0 : Int)) (t_c (0 : Int)) (t_c (0 : Int))) (t_call2 ty_law_turned (t_tup4 (t_var 3 half) (t_c (0 : Int)) (t_c (0 : Int)) (t_c (0 : Int))) (t_var 4 way))) (t_var 4 way)))) trivial (fun _ => dF _)))))))) (q_pre (q_at (ρ' := [some (oF piece), none, none, none, none]) rfl (q_nxs (q_end (q_ret (f := fun r_ => (r_ : ((T4 Int Int Int Int) × Int))) (p_x (t_exF (t_tup2 (t_tup4 (o_pj (p := T3.b) (ha := (t_var 0 piece))) (t_c (0 : Int)) (t_c (0 : Int)) (t_c (0 : Int))) (t_c (0 : Int))))) trivial (fun _ => dF _))))))))))) (fun _ => trivial)
theorem ty_law_ray (units : Int) (k : Int) : TEq (m_law_ray [Enc.e units, Enc.e k]) (t_law_ray units k) := by
  rw [r_law_ray]
  unfold g_law_ray t_law_ray
  exact fn_T (E := fun _ _ => True) (L := fun _ _ => True) (q_end (q_ret (f := fun r_ => (r_ : (T4 Int Int Int Int))) (p_x (t_exF (t_call2 ty_law_turned (t_tup4 (t_var 0 units) (t_c (0 : Int)) (t_c (0 : Int)) (t_c (0 : Int))) (t_var 1 k)))) trivial (fun _ => dF _))) (fun _ => trivial)
theorem ty_law_minus (one : (T4 Int Int Int Int)) (other : (T4 Int Int Int Int)) : TEq (m_law_minus [Enc.e one, Enc.e other]) (t_law_minus one other) := by
  rw [r_law_minus]
  unfold g_law_minus t_law_minus
  exact fn_T (E := fun _ _ => True) (L := fun _ _ => True) (q_end (q_ret (f := fun r_ => (r_ : (T4 Int Int Int Int))) (p_x (t_exF (t_tup4 (t_2 o_subI (o_pj (p := T4.a) (ha := (t_var 0 one))) (o_pj (p := T4.a) (ha := (t_var 1 other)))) (t_2 o_subI (o_pj (p := T4.b) (ha := (t_var 0 one))) (o_pj (p := T4.b) (ha := (t_var 1 other)))) (t_2 o_subI (o_pj (p := T4.c) (ha := (t_var 0 one))) (o_pj (p := T4.c) (ha := (t_var 1 other)))) (t_2 o_subI (o_pj (p := T4.d) (ha := (t_var 0 one))) (o_pj (p := T4.d) (ha := (t_var 1 other))))))) trivial (fun _ => dF _))) (fun _ => trivial)
theorem ty_law_straight_room (pose : ((T4 Int Int Int Int) × Int)) (length : Int) (width : Int) : TEq (m_law_straight_room [Enc.e pose, Enc.e length, Enc.e width]) (t_law_straight_room pose length width) := by
  rw [r_law_straight_room]
  unfold g_law_straight_room t_law_straight_room
  exact fn_T (E := fun _ _ => True) (L := fun _ _ => True) (q_tup0 (fun ⟨start, k⟩ => [(3, Enc.e start), (4, Enc.e k)]) (t_exF (t_var 0 pose)) trivial (fun ⟨start, k⟩ => rfl) fun ⟨start, k⟩ => (q_at (ρ' := [some (oF pose), some (oF length), some (oF width), some (oF start), some (oF k), none, none]) rfl (q_set (p_x (t_exF (t_call2 ty_law_ray (t_var 2 width) (t_2 o_addI (t_var 4 k) (t_c (2 : Int)))))) trivial fun side => (q_at (ρ' := [some (oF pose), some (oF length), some (oF width), some (oF start), some (oF k), some (oF side), none]) rfl (q_set (p_x (t_exF (t_call2 ty_law_plus (t_var 3 start) (t_call2 ty_law_ray (t_var 1 length) (t_var 4 k))))) trivial fun far => (q_at (ρ' := [some (oF pose), some (oF length), some (oF width), some (oF start), some (oF k), some (oF side), some (oF far)]) rfl (q_end (q_ret (f := fun r_ => (r_ : (List (T4 Int Int Int Int)))) (p_x (t_exF (t_list (t_cons (t_call2 ty_law_minus (t_var 3 start) (t_var 5 side)) (t_cons (t_call2 ty_law_minus (t_var 6 far) (t_var 5 side)) (t_cons (t_call2 ty_law_plus (t_var 6 far) (t_var 5 side)) (t_cons (t_call2 ty_law_plus (t_var 3 start) (t_var 5 side)) (t_nil (α := (T4 Int Int Int Int)))))))))) trivial (fun _ => dF _))))))))) (fun _ => trivial)
theorem ty_law_curve_room (pose : ((T4 Int Int Int Int) × Int)) (radius : Int) (side : Str) (width : Int) : TEq (m_law_curve_room [Enc.e pose, Enc.e radius, Enc.e side, Enc.e width]) (t_law_curve_room pose radius side width) := by
  rw [r_law_curve_room]
  unfold g_law_curve_room t_law_curve_room
  exact fn_T (E := fun _ _ => True) (L := fun _ _ => True) (q_tup0 (fun ⟨start, k⟩ => [(4, Enc.e start), (5, Enc.e k)]) (t_exF (t_var 0 pose)) trivial (fun ⟨start, k⟩ => rfl) fun ⟨start, k⟩ => (q_at (ρ' := [some (oF pose), some (oF radius), some (oF side), some (oF width), some (oF start), some (oF k), none, none, none, none, none]) rfl (q_set (p_x (t_exF (t_call2 ty_law_then (t_var 0 pose) (t_call2 ty_law_end (t_tup3 (t_c ("curve" : Str)) (t_var 1 radius) (t_var 2 side)) (t_c (1 : Int)))))) trivial fun far => (q_at (ρ' := [some (oF pose), some (oF radius), some (oF side), some (oF width), some (oF start), some (oF k), some (oF far), none, none, none, none]) rfl (q_set (p_x (t_exF (t_call2 ty_law_ray (t_var 3 width) (t_2 o_addI (t_var 5 k) (t_c (2 : Int)))))) trivial fun n => (q_at (ρ' := [some (oF pose), some (oF radius), some (oF side), some (oF width), some (oF start), some (oF k), some (oF far), some (oF n), none, none, none]) rfl (q_set (p_x (t_exF (t_call2 ty_law_ray (t_var 3 width) (t_2 o_addI (o_pj (p := Prod.snd) (ha := (t_var 6 far))) (t_c (2 : Int)))))) trivial fun m => (q_at (ρ' := [some (oF pose), some (oF radius), some (oF side), some (oF width), some (oF start), some (oF k), some (oF far), some (oF n), some (oF m), none, none]) rfl (q_set (p_x (t_exF (t_2 o_addI (t_var 1 radius) (t_var 3 width)))) trivial fun size => (q_at (ρ' := [some (oF pose), some (oF radius), some (oF side), some (oF width), some (oF start), some (oF k), some (oF far), some (oF n), some (oF m), some (oF size), none]) rfl (q_set (p_x (t_exF (t_call2 ty_law_turned (t_tup4 (t_2 o_subI (t_c (0 : Int)) (t_var 9 size)) (t_var 9 size) (t_c (0 : Int)) (t_2 o_subI (t_c (0 : Int)) (t_var 9 size))) (t_var 5 k)))) trivial fun t => (q_at (ρ' := [some (oF pose), some (oF radius), some (oF side), some (oF width), some (oF start), some (oF k), some (oF far), some (oF n), some (oF m), some (oF size), some (oF t)]) rfl (q_if (t_tst (t_2 o_eq (t_varO 2 oF side dF) (t_c ("left" : Str)))) trivial (q_ret (f := fun r_ => (r_ : (List (T4 Int Int Int Int)))) (p_x (t_exF (t_list (t_cons (t_call2 ty_law_minus (t_var 4 start) (t_var 7 n)) (t_cons (t_call2 ty_law_plus (t_call2 ty_law_minus (t_var 4 start) (t_var 7 n)) (t_var 10 t)) (t_cons (t_call2 ty_law_minus (o_pj (p := Prod.fst) (ha := (t_var 6 far))) (t_var 8 m)) (t_cons (t_call2 ty_law_plus (o_pj (p := Prod.fst) (ha := (t_var 6 far))) (t_var 8 m)) (t_cons (t_call2 ty_law_plus (t_var 4 start) (t_var 7 n)) (t_nil (α := (T4 Int Int Int Int))))))))))) trivial (fun _ => dF _)) (q_pre (q_at (ρ' := [none, none, none, none, some (oF start), none, some (oF far), some (oF n), some (oF m), none, some (oF t)]) rfl (q_nxs (q_end (q_ret (f := fun r_ => (r_ : (List (T4 Int Int Int Int)))) (p_x (t_exF (t_list (t_cons (t_call2 ty_law_minus (t_var 4 start) (t_var 7 n)) (t_cons (t_call2 ty_law_minus (o_pj (p := Prod.fst) (ha := (t_var 6 far))) (t_var 8 m)) (t_cons (t_call2 ty_law_plus (o_pj (p := Prod.fst) (ha := (t_var 6 far))) (t_var 8 m)) (t_cons (t_call2 ty_law_plus (t_call2 ty_law_plus (t_var 4 start) (t_var 7 n)) (t_var 10 t)) (t_cons (t_call2 ty_law_plus (t_var 4 start) (t_var 7 n)) (t_nil (α := (T4 Int Int Int Int))))))))))) trivial (fun _ => dF _))))))))))))))))))) (fun _ => trivial)
theorem ty_law_surd_sign (m : Int) (n : Int) : TEq (m_law_surd_sign [Enc.e m, Enc.e n]) (t_law_surd_sign m n) := by
  rw [r_law_surd_sign]
  unfold g_law_surd_sign t_law_surd_sign
  exact fn_T (E := fun _ _ => True) (L := fun _ _ => True) (q_if (t_tand (t_tst (t_2 o_geI (t_varO 0 oF m dF) (t_c (0 : Int)))) (t_tst (t_2 o_geI (t_varO 1 oF n dF) (t_c (0 : Int))))) trivial (q_ret (f := fun r_ => (r_ : Int)) (p_x (t_exF (t_call1 o_intB (t_2 o_gtI (t_2 o_addI (t_var 0 m) (t_var 1 n)) (t_c (0 : Int)))))) trivial (fun _ => dF _)) (q_nxs (q_if (t_tand (t_tst (t_2 o_leI (t_varO 0 oF m dF) (t_c (0 : Int)))) (t_tst (t_2 o_leI (t_varO 1 oF n dF) (t_c (0 : Int))))) trivial (q_ret (f := fun r_ => (r_ : Int)) (p_x (t_exF (t_1 o_negI (t_c (1 : Int))))) trivial (fun _ => dF _)) (q_nxs (q_if (t_tst (t_2 o_gtI (t_2 o_mulI (t_varO 0 oF m dF) (t_varO 0 oF m dF)) (t_2 o_mulI (t_2 o_mulI (t_c (2 : Int)) (t_varO 1 oF n dF)) (t_varO 1 oF n dF)))) trivial (q_ret (f := fun r_ => (r_ : Int)) (p_x (t_exF (t_2 o_subI (t_c (1 : Int)) (t_2 o_mulI (t_c (2 : Int)) (t_call1 o_intB (t_2 o_ltI (t_var 0 m) (t_c (0 : Int)))))))) trivial (fun _ => dF _)) (q_pre (q_at (ρ' := [none, some (oF n)]) rfl (q_nxs (q_end (q_ret (f := fun r_ => (r_ : Int)) (p_x (t_exF (t_2 o_subI (t_c (1 : Int)) (t_2 o_mulI (t_c (2 : Int)) (t_call1 o_intB (t_2 o_ltI (t_var 1 n) (t_c (0 : Int)))))))) trivial (fun _ => dF _))))))))))) (fun _ => trivial)
theorem ty_law_cross (start : (T4 Int Int Int Int)) (stop : (T4 Int Int Int Int)) (spot : (T4 Int Int Int Int)) : TEq (m_law_cross [Enc.e start, Enc.e stop, Enc.e spot]) (t_law_cross start stop spot) := by
  rw [r_law_cross]
  unfold g_law_cross t_law_cross
  exact fn_T (E := fun _ _ => True) (L := fun _ _ => True) (q_set (p_x (t_exF (t_2 o_mulI (t_c (2 : Int)) (t_2 o_subI (o_pj (p := T4.a) (ha := (t_var 1 stop))) (o_pj (p := T4.a) (ha := (t_var 0 start))))))) trivial fun a => (q_at (ρ' := [some (oF start), some (oF stop), some (oF spot), some (oF a), none, none, none, none, none, none, none]) rfl (q_set (p_x (t_exF (t_2 o_addI (t_2 o_subI (t_2 o_subI (o_pj (p := T4.b) (ha := (t_var 1 stop))) (o_pj (p := T4.b) (ha := (t_var 0 start)))) (o_pj (p := T4.d) (ha := (t_var 1 stop)))) (o_pj (p := T4.d) (ha := (t_var 0 start)))))) trivial fun b => (q_at (ρ' := [some (oF start), some (oF stop), some (oF spot), some (oF a), some (oF b), none, none, none, none, none, none]) rfl (q_set (p_x (t_exF (t_2 o_mulI (t_c (2 : Int)) (t_2 o_subI (o_pj (p := T4.c) (ha := (t_var 1 stop))) (o_pj (p := T4.c) (ha := (t_var 0 start))))))) trivial fun c => (q_at (ρ' := [some (oF start), some (oF stop), some (oF spot), some (oF a), some (oF b), some (oF c), none, none, none, none, none]) rfl (q_set (p_x (t_exF (t_2 o_subI (t_2 o_addI (t_2 o_subI (o_pj (p := T4.b) (ha := (t_var 1 stop))) (o_pj (p := T4.b) (ha := (t_var 0 start)))) (o_pj (p := T4.d) (ha := (t_var 1 stop)))) (o_pj (p := T4.d) (ha := (t_var 0 start)))))) trivial fun d => (q_at (ρ' := [some (oF start), some (oF stop), some (oF spot), some (oF a), some (oF b), some (oF c), some (oF d), none, none, none, none]) rfl (q_set (p_x (t_exF (t_2 o_mulI (t_c (2 : Int)) (o_pj (p := T4.a) (ha := (t_var 2 spot)))))) trivial fun e_ => (q_at (ρ' := [some (oF start), some (oF stop), some (oF spot), some (oF a), some (oF b), some (oF c), some (oF d), some (oF e_), none, none, none]) rfl (q_set (p_x (t_exF (t_2 o_subI (o_pj (p := T4.b) (ha := (t_var 2 spot))) (o_pj (p := T4.d) (ha := (t_var 2 spot)))))) trivial fun f => (q_at (ρ' := [some (oF start), some (oF stop), some (oF spot), some (oF a), some (oF b), some (oF c), some (oF d), some (oF e_), some (oF f), none, none]) rfl (q_set (p_x (t_exF (t_2 o_mulI (t_c (2 : Int)) (o_pj (p := T4.c) (ha := (t_var 2 spot)))))) trivial fun g => (q_at (ρ' := [some (oF start), some (oF stop), some (oF spot), some (oF a), some (oF b), some (oF c), some (oF d), some (oF e_), some (oF f), some (oF g), none]) rfl (q_set (p_x (t_exF (t_2 o_addI (o_pj (p := T4.b) (ha := (t_var 2 spot))) (o_pj (p := T4.d) (ha := (t_var 2 spot)))))) trivial fun h_ => (q_at (ρ' := [some (oF start), some (oF stop), some (oF spot), some (oF a), some (oF b), some (oF c), some (oF d), some (oF e_), some (oF f), some (oF g), some (oF h_)]) rfl (q_end (q_ret (f := fun r_ => (r_ : (Int × Int))) (p_x (t_exF (t_tup2 (t_2 o_subI (t_2 o_subI (t_2 o_addI (t_2 o_mulI (t_var 3 a) (t_var 9 g)) (t_2 o_mulI (t_2 o_mulI (t_c (2 : Int)) (t_var 4 b)) (t_var 10 h_))) (t_2 o_mulI (t_var 5 c) (t_var 7 e_))) (t_2 o_mulI (t_2 o_mulI (t_c (2 : Int)) (t_var 6 d)) (t_var 8 f))) (t_2 o_subI (t_2 o_subI (t_2 o_addI (t_2 o_mulI (t_var 3 a) (t_var 10 h_)) (t_2 o_mulI (t_var 4 b) (t_var 9 g))) (t_2 o_mulI (t_var 5 c) (t_var 8 f))) (t_2 o_mulI (t_var 6 d) (t_var 7 e_)))))) trivial (fun _ => dF _))))))))))))))))))) (fun _ => trivial)
theorem ty_law_greatest_1 (surd : (Int × Int)) (best : (Int × Int)) {Z : OEnv → Prop} : SQ (fun s ρ => kill [2] ρ = E_law_greatest_1 s) (fun s ρ => ρ = E_law_greatest_1 s) (fun o (b : (Int × Int)) => O.data o = Enc.e b) (fun _ => True) (b_law_greatest_1 [none, some (oF best), some (oF surd)]) (t_law_greatest_1 surd best) := by
  unfold b_law_greatest_1 t_law_greatest_1
  exact (q_end (q_if (t_tst (t_2 o_gtI (t_call2 ty_law_surd_sign (t_2 o_subI (o_pj (p := Prod.fst) (ha := (t_varO 2 oF surd dF))) (o_pj (p := Prod.fst) (ha := (t_varO 1 oF best dF)))) (t_2 o_subI (o_pj (p := Prod.snd) (ha := (t_varO 2 oF surd dF))) (o_pj (p := Prod.snd) (ha := (t_varO 1 oF best dF))))) (t_c (0 : Int)))) trivial (q_assoc (q_set (p_x (t_exF (t_var 2 surd))) trivial fun best => (q_at (ρ' := [none, some (oF best), some (oF surd)]) rfl (q_pre (q_at (ρ' := [none, some (oF best), none]) rfl (q_nxs (q_nx best rfl))))))) (q_pre (q_at (ρ' := [none, some (oF best), none]) rfl (q_nxs (q_nx best rfl))))))
theorem ty_law_greatest (surds : (List (Int × Int))) : TEq (m_law_greatest [Enc.e surds]) (t_law_greatest surds) := by
  rw [r_law_greatest]
  unfold g_law_greatest t_law_greatest
  exact fn_T (E := fun _ _ => True) (L := fun _ _ => True) (q_set (p_x (t_exF (t_2 o_idx (t_var 0 surds) (t_c (0 : Int))))) trivial fun best => (q_at (ρ' := [some (oF surds), some (oF best), none]) rfl (q_forK (E_law_greatest_1) (fun surd => [(2, Enc.e surd)]) best (t_isq (t_var 0 surds)) trivial rfl (fun surd => rfl) (fun best => rfl) (fun surd best => ty_law_greatest_1 surd best (Z := fun _ => True)) fun best => (q_at (ρ' := [none, some (oF best), none]) rfl (q_end (q_ret (f := fun r_ => (r_ : (Int × Int))) (p_x (t_exF (t_var 1 best))) trivial (fun _ => dF _))))))) (fun _ => trivial)
theorem ty_law_parted_2 (one : (List (T4 Int Int Int Int))) (other : (List (T4 Int Int Int Int))) (k : Int) {Z : OEnv → Prop} : SQ (fun s ρ => kill [2, 3, 4] ρ = E_law_parted_2 one other s) (fun s ρ => ρ = E_law_parted_2 one other s) (fun o (b : Bool) => O.data o = Enc.e b) (fun _ => True) (b_law_parted_2 [some (oF one), some (oF other), some (oF k), none, none, none]) (t_law_parted_2 one other k) := by
  unfold b_law_parted_2 t_law_parted_2
  exact (q_set (p_x (t_exF (t_call1 ty_law_greatest (t_list (t_map (fun spot => [(5, Enc.e spot)]) (t_isq (t_var 1 other)) (fun spot => rfl) (fun spot => (t_call3 ty_law_cross (t_2 o_idx (t_var 0 one) (t_2 o_subI (t_var 2 k) (t_c (1 : Int)))) (t_2 o_idx (t_var 0 one) (t_var 2 k)) (t_var 5 spot)))))))) trivial fun far => (q_at (ρ' := [some (oF one), some (oF other), some (oF k), some (oF far), none, none]) rfl (q_set (p_x (t_exF (t_call3 ty_law_cross (t_2 o_idx (t_var 0 one) (t_2 o_subI (t_var 2 k) (t_c (1 : Int)))) (t_2 o_idx (t_var 0 one) (t_var 2 k)) (t_2 o_idx (t_var 0 one) (t_var 2 k))))) trivial fun own => (q_at (ρ' := [some (oF one), some (oF other), some (oF k), some (oF far), some (oF own), none]) rfl (q_end (q_if (t_tst (t_2 o_leI (t_call2 ty_law_surd_sign (t_2 o_subI (o_pj (p := Prod.fst) (ha := (t_varO 3 oF far dF))) (o_pj (p := Prod.fst) (ha := (t_varO 4 oF own dF)))) (t_2 o_subI (o_pj (p := Prod.snd) (ha := (t_varO 3 oF far dF))) (o_pj (p := Prod.snd) (ha := (t_varO 4 oF own dF))))) (t_c (0 : Int)))) trivial (q_ret (f := fun r_ => (r_ : Bool)) (p_x (t_exF (t_c true))) trivial (fun _ => dF _)) (q_pre (q_at (ρ' := [some (oF one), some (oF other), none, none, none, none]) rfl (q_nxs (q_nx () rfl))))))))))
theorem ty_law_parted (one : (List (T4 Int Int Int Int))) (other : (List (T4 Int Int Int Int))) : TEq (m_law_parted [Enc.e one, Enc.e other]) (t_law_parted one other) := by
  rw [r_law_parted]
  unfold g_law_parted t_law_parted
  exact fn_T (E := fun _ _ => True) (L := fun _ _ => True) (q_for (E_law_parted_2 one other) (fun k => [(2, Enc.e k)]) () (t_x1 o_range1 (t_exF (t_call1 o_len (t_var 0 one)))) trivial rfl (fun k => rfl) (fun _ => rfl) (fun k _ => ty_law_parted_2 one other k (Z := fun _ => True)) fun _ => (q_at (ρ' := [some (oF one), some (oF other), none, none, none, none]) rfl (q_pre0 (q_at (ρ' := [none, none, none, none, none, none]) rfl (q_end (q_ret (f := fun r_ => (r_ : Bool)) (p_x (t_exF (t_c false))) trivial (fun _ => dF _))))))) (fun _ => trivial)
theorem ty_law_overlap (one : (List (T4 Int Int Int Int))) (other : (List (T4 Int Int Int Int))) : TEq (m_law_overlap [Enc.e one, Enc.e other]) (t_law_overlap one other) := by
  rw [r_law_overlap]
  unfold g_law_overlap t_law_overlap
  exact fn_T (E := fun _ _ => True) (L := fun _ _ => True) (q_end (q_ret (f := fun r_ => (r_ : Bool)) (p_x (t_exF (t_vand (t_vnot (t_call2 ty_law_parted (t_var 0 one) (t_var 1 other))) (t_vnot (t_call2 ty_law_parted (t_var 1 other) (t_var 0 one)))))) trivial (fun _ => dF _))) (fun _ => trivial)
theorem ty_law_same_1 (n_ : Nat) (self : PyData → PyData → R Bool) (IH : ∀ (x0_ : PyData) (x1_ : PyData), TEq (m_law_same n_ [Enc.e x0_, Enc.e x1_]) (self x0_ x1_)) (told : PyData) (due : PyData) (k : Int) {Z : OEnv → Prop} : SQ (fun s ρ => kill [2] ρ = E_law_same_1 told due s) (fun s ρ => ρ = E_law_same_1 told due s) (fun o (b : Bool) => O.data o = Enc.e b) (fun _ => True) ((b_law_same_1 (m_law_same n_)) [some (oF told), some (oF due), some (oF k)]) (t_law_same_1 self told due k) := by
  unfold b_law_same_1 t_law_same_1
  exact (q_end (q_if (t_tnot (t_ttr o_truB (t_call2 IH (t_2 o_D2 (t_varO 0 oF told dF) (t_co Co.up (t_varO 2 oF k dF))) (t_2 o_D2 (t_varO 1 oF due dF) (t_co Co.up (t_varO 2 oF k dF)))))) trivial (q_ret (f := fun r_ => (r_ : Bool)) (p_x (t_exF (t_c false))) trivial (fun _ => dF _)) (q_pre (q_at (ρ' := [some (oF told), some (oF due), none]) rfl (q_nxs (q_nx () rfl))))))
theorem ty_law_same : ∀ (n_ : Nat) (told : PyData) (due : PyData), TEq (m_law_same n_ [Enc.e told, Enc.e due]) (t_law_same n_ told due)
  | 0, _, _ => trivial
  | n_ + 1, told, due => by
    have IH := ty_law_same n_
    rw [r_law_same]
    show TEq (fin (g_law_same (m_law_same n_) _)) ((fun self => TR.fn (l := Empty) (σ := Unit) (TR.bind (σ := Unit) (tite (b1 tid (b1 (dB1 (visi "list")) (R.ok due))) (tite (torB (b1 tnotB (b1 tid (b1 (dB1 (visi "list")) (R.ok told)))) (b2 tne (b1 cInt (b1 (fun d => vlen [d]) (R.ok told))) (b1 cInt (b1 (fun d => vlen [d]) (R.ok due))))) ((R.ok false).tr fun r_ => .rt r_) (.nx ())) (tite (b1 tid (b1 (dB1 (visi "tuple")) (R.ok due))) (tite (torB (b1 tnotB (b1 tid (b1 (dB1 (visi "tuple")) (R.ok told)))) (b2 tne (b1 cInt (b1 (fun d => vlen [d]) (R.ok told))) (b1 cInt (b1 (fun d => vlen [d]) (R.ok due))))) ((R.ok false).tr fun r_ => .rt r_) (.nx ())) (tite (b1 tisnoneD (R.ok due)) ((b1 tisnoneD (R.ok told)).tr fun r_ => .rt r_) (tite (b1 tid (b1 (dB1 (visi "bool")) (R.ok due))) ((tandB (b1 (dB1 (visi "bool")) (R.ok told)) (b2 (dB veq) (R.ok told) (R.ok due))).tr fun r_ => .rt r_) (tite (b1 tid (b1 (dB1 (visi "int")) (R.ok due))) ((tandB (b1 (dB1 (visi "int")) (R.ok told)) (tandB (b1 tnotB (b1 (dB1 (visi "bool")) (R.ok told))) (b2 (dB veq) (R.ok told) (R.ok due)))).tr fun r_ => .rt r_) ((tandB (b1 (dB1 (visi "str")) (R.ok told)) (b2 (dB veq) (R.ok told) (R.ok due))).tr fun r_ => .rt r_)))))) fun _ => ((b1 trange1 (b1 cInt (b1 (fun d => vlen [d]) (R.ok due)))).tr fun xs_ => (forT (fun k _ => t_law_same_1 self told due k) xs_ ()).bind fun _ => ((R.ok true).tr fun r_ => .rt r_))) (fun _ => .stuck)) (t_law_same n_))
    generalize t_law_same n_ = self at IH ⊢
    unfold g_law_same
    exact fn_T (E := fun _ _ => True) (L := fun _ _ => True) (q_join (τ := Unit) (Es := fun s_ => match s_ with | _ => [some (oF told), some (oF due), none]) (q_end (q_if (t_ttr o_truB (t_1 o_DB1 (t_varO 1 oF due dF))) trivial (q_asn (q_end (q_if (t_tor (t_tnot (t_ttr o_truB (t_1 o_DB1 (t_varO 0 oF told dF)))) (t_tst (t_2 o_ne (t_co Co.int (t_call1 o_D1L (t_varO 0 oF told dF))) (t_co Co.int (t_call1 o_D1L (t_varO 1 oF due dF)))))) trivial (q_ret (f := fun r_ => (r_ : Bool)) (p_x (t_exF (t_c false))) trivial (fun _ => dF _)) (q_nxs (q_nx () rfl))))) (q_asn (q_end (q_if (t_ttr o_truB (t_1 o_DB1 (t_varO 1 oF due dF))) trivial (q_if (t_tor (t_tnot (t_ttr o_truB (t_1 o_DB1 (t_varO 0 oF told dF)))) (t_tst (t_2 o_ne (t_co Co.int (t_call1 o_D1L (t_varO 0 oF told dF))) (t_co Co.int (t_call1 o_D1L (t_varO 1 oF due dF)))))) trivial (q_ret (f := fun r_ => (r_ : Bool)) (p_x (t_exF (t_c false))) trivial (fun _ => dF _)) (q_nxs (q_nx () rfl))) (q_if (t_tst (t_1 o_isnoneD (t_varO 1 oF due dF))) trivial (q_ret (f := fun r_ => (r_ : Bool)) (p_x (t_exF (t_1 o_isnoneD (t_var 0 told)))) trivial (fun _ => dF _)) (q_if (t_ttr o_truB (t_1 o_DB1 (t_varO 1 oF due dF))) trivial (q_ret (f := fun r_ => (r_ : Bool)) (p_x (t_exF (t_vand (t_1 o_DB1 (t_var 0 told)) (t_2 o_DB2 (t_var 0 told) (t_var 1 due))))) trivial (fun _ => dF _)) (q_if (t_ttr o_truB (t_1 o_DB1 (t_varO 1 oF due dF))) trivial (q_ret (f := fun r_ => (r_ : Bool)) (p_x (t_exF (t_vand (t_1 o_DB1 (t_var 0 told)) (t_vand (t_vnot (t_1 o_DB1 (t_var 0 told))) (t_2 o_DB2 (t_var 0 told) (t_var 1 due)))))) trivial (fun _ => dF _)) (q_ret (f := fun r_ => (r_ : Bool)) (p_x (t_exF (t_vand (t_1 o_DB1 (t_var 0 told)) (t_2 o_DB2 (t_var 0 told) (t_var 1 due))))) trivial (fun _ => dF _)))))))))) fun _ => (q_for (E_law_same_1 told due) (fun k => [(2, Enc.e k)]) () (t_x1 o_range1 (t_exF (t_co Co.int (t_call1 o_D1L (t_var 1 due))))) trivial rfl (fun k => rfl) (fun _ => rfl) (fun k _ => ty_law_same_1 n_ self IH told due k (Z := fun _ => True)) fun _ => (q_at (ρ' := [some (oF told), some (oF due), none]) rfl (q_pre0 (q_at (ρ' := [none, none, none]) rfl (q_end (q_ret (f := fun r_ => (r_ : Bool)) (p_x (t_exF (t_c true))) trivial (fun _ => dF _)))))))) (fun _ => trivial)
theorem ty_law_room (draws : (List Int)) (at_ : Int) (width : Int) : TEq (m_law_room [Enc.e draws, Enc.e at_, Enc.e width]) (t_law_room draws at_ width) := by
  rw [r_law_room]
  unfold g_law_room t_law_room
  exact fn_T (E := fun _ _ => True) (L := fun _ _ => True) (q_set (p_x (t_exF (t_tup2 (t_tup4 (t_2 o_subI (t_2 o_modI (t_2 o_idx (t_var 0 draws) (t_var 1 at_)) (t_c (9 : Int))) (t_c (4 : Int))) (t_2 o_subI (t_2 o_modI (t_2 o_idx (t_var 0 draws) (t_2 o_addI (t_var 1 at_) (t_c (1 : Int)))) (t_c (9 : Int))) (t_c (4 : Int))) (t_2 o_subI (t_2 o_modI (t_2 o_idx (t_var 0 draws) (t_2 o_addI (t_var 1 at_) (t_c (2 : Int)))) (t_c (9 : Int))) (t_c (4 : Int))) (t_2 o_subI (t_2 o_modI (t_2 o_idx (t_var 0 draws) (t_2 o_addI (t_var 1 at_) (t_c (3 : Int)))) (t_c (9 : Int))) (t_c (4 : Int)))) (t_2 o_modI (t_2 o_idx (t_var 0 draws) (t_2 o_addI (t_var 1 at_) (t_c (4 : Int)))) (t_c (8 : Int)))))) trivial fun pose => (q_at (ρ' := [some (oF draws), some (oF at_), some (oF width), some (oF pose)]) rfl (q_if (t_tst (t_2 o_eq (t_2 o_modI (t_2 o_idx (t_varO 0 oF draws dF) (t_2 o_addI (t_varO 1 oF at_ dF) (t_c (5 : Int)))) (t_c (2 : Int))) (t_c (0 : Int)))) trivial (q_ret (f := fun r_ => (r_ : (List (T4 Int Int Int Int)))) (p_x (t_exF (t_call3 ty_law_straight_room (t_var 3 pose) (t_2 o_addI (t_c (1 : Int)) (t_2 o_modI (t_2 o_idx (t_var 0 draws) (t_2 o_addI (t_var 1 at_) (t_c (6 : Int)))) (t_c (12 : Int)))) (t_var 2 width)))) trivial (fun _ => dF _)) (q_nxs (q_end (q_ret (f := fun r_ => (r_ : (List (T4 Int Int Int Int)))) (p_x (t_exF (t_call4 ty_law_curve_room (t_var 3 pose) (t_2 o_addI (t_2 o_addI (t_var 2 width) (t_c (1 : Int))) (t_2 o_modI (t_2 o_idx (t_var 0 draws) (t_2 o_addI (t_var 1 at_) (t_c (6 : Int)))) (t_c (12 : Int)))) (t_2 o_idx (t_list (t_cons (t_c ("left" : Str)) (t_cons (t_c ("right" : Str)) (t_nil (α := Str))))) (t_2 o_modI (t_2 o_fdivI (t_2 o_idx (t_var 0 draws) (t_2 o_addI (t_var 1 at_) (t_c (5 : Int)))) (t_c (2 : Int))) (t_c (2 : Int)))) (t_var 2 width)))) trivial (fun _ => dF _))))))) (fun _ => trivial)
theorem ty_law_moved (room : (List (T4 Int Int Int Int))) (spot : (T4 Int Int Int Int)) (turn : Int) : TEq (m_law_moved [Enc.e room, Enc.e spot, Enc.e turn]) (t_law_moved room spot turn) := by
  rw [r_law_moved]
  unfold g_law_moved t_law_moved
  exact fn_T (E := fun _ _ => True) (L := fun _ _ => True) (q_end (q_ret (f := fun r_ => (r_ : (List (T4 Int Int Int Int)))) (p_x (t_exF (t_list (t_map (fun corner => [(3, Enc.e corner)]) (t_isq (t_var 0 room)) (fun corner => rfl) (fun corner => (t_call2 ty_law_plus (t_var 1 spot) (t_call2 ty_law_turned (t_var 3 corner) (t_var 2 turn)))))))) trivial (fun _ => dF _))) (fun _ => trivial)
theorem ty_law_agrees (one : (List (T4 Int Int Int Int))) (other : (List (T4 Int Int Int Int))) : TEq (m_law_agrees [Enc.e one, Enc.e other]) (t_law_agrees one other) := by
  rw [r_law_agrees]
  unfold g_law_agrees t_law_agrees
  exact fn_T (E := fun _ _ => True) (L := fun _ _ => True) (q_set (p_x (t_exF (t_call2 ty_law_overlap (t_var 0 one) (t_var 1 other)))) trivial fun due => (q_at (ρ' := [some (oF one), some (oF other), some (oF due), none, none, none]) rfl (q_set (p_x (t_exF (t_list (t_isq (t_var 0 one))))) trivial fun first => (q_at (ρ' := [some (oF one), some (oF other), some (oF due), some (oF first), none, none]) rfl (q_set (p_x (t_exF (t_list (t_isq (t_var 1 other))))) trivial fun second => (q_at (ρ' := [some (oF one), some (oF other), some (oF due), some (oF first), some (oF second), none]) rfl (q_set (p_x (t_exF (t_call2 ty_overlap (t_var 3 first) (t_var 4 second)))) trivial fun told => (q_at (ρ' := [some (oF one), some (oF other), some (oF due), some (oF first), some (oF second), some (oF told)]) rfl (q_if (t_tor (t_tnot (t_ttr o_truB (t_call2 (ty_law_same 10) (t_co Co.up (t_varO 5 oF told dF)) (t_co Co.up (t_varO 2 oF due dF))))) (t_tnot (t_ttr o_truB (t_call2 (ty_law_same 10) (t_co Co.up (t_call2 ty_overlap (t_varO 4 oF second dF) (t_varO 3 oF first dF))) (t_co Co.up (t_varO 2 oF due dF)))))) trivial (q_ret (f := fun r_ => (r_ : Bool)) (p_x (t_exF (t_c false))) trivial (fun _ => dF _)) (q_pre (q_at (ρ' := [some (oF one), some (oF other), none, some (oF first), some (oF second), none]) rfl (q_nxs (q_end (q_ret (f := fun r_ => (r_ : Bool)) (p_x (t_exF (t_vand (t_2 o_eq (t_var 3 first) (t_var 0 one)) (t_2 o_eq (t_var 4 second) (t_var 1 other))))) trivial (fun _ => dF _))))))))))))))) (fun _ => trivial)
theorem ty_law_1 (script : (List Int)) (draws : (List Int)) (width : Int) (far : (T4 Int Int Int Int)) (pair : ((List (T4 Int Int Int Int)) × (List (T4 Int Int Int Int)))) {Z : OEnv → Prop} : SQ (fun s ρ => kill [8, 9] ρ = E_law_1 script draws width far s) (fun s ρ => ρ = E_law_1 script draws width far s) (fun o (b : Bool) => O.data o = Enc.e b) (fun _ => True) (b_law_1 [some (oF script), none, some (oF draws), some (oF width), none, none, some (oF far), none, some (oF pair), none, none, none, none, none, none, none, none]) (t_law_1 draws far pair) := by
  unfold b_law_1 t_law_1
  exact (q_if (t_tnot (t_ttr o_truB (t_call2 ty_law_agrees (o_pj (p := Prod.fst) (ha := (t_varO 8 oF pair dF))) (o_pj (p := Prod.snd) (ha := (t_varO 8 oF pair dF)))))) trivial (q_ret (f := fun r_ => (r_ : Bool)) (p_x (t_exF (t_c false))) trivial (fun _ => dF _)) (q_pre (q_at (ρ' := [some (oF script), none, some (oF draws), some (oF width), none, none, some (oF far), none, some (oF pair), none, none, none, none, none, none, none, none]) rfl (q_nxs (q_set (p_x (t_exF (t_call2 ty_law_overlap (o_pj (p := Prod.fst) (ha := (t_var 8 pair))) (o_pj (p := Prod.snd) (ha := (t_var 8 pair)))))) trivial fun due => (q_at (ρ' := [some (oF script), none, some (oF draws), some (oF width), none, none, some (oF far), none, some (oF pair), some (oF due), none, none, none, none, none, none, none]) rfl (q_end (q_if (t_tst (t_2 o_ne (t_call2 ty_overlap (t_call3 ty_law_moved (o_pj (p := Prod.fst) (ha := (t_varO 8 oF pair dF))) (t_varO 6 oF far dF) (t_2 o_idx (t_varO 2 oF draws dF) (t_c (19 : Int)))) (t_call3 ty_law_moved (o_pj (p := Prod.snd) (ha := (t_varO 8 oF pair dF))) (t_varO 6 oF far dF) (t_2 o_idx (t_varO 2 oF draws dF) (t_c (19 : Int))))) (t_varO 9 oF due dF))) trivial (q_ret (f := fun r_ => (r_ : Bool)) (p_x (t_exF (t_c false))) trivial (fun _ => dF _)) (q_pre (q_at (ρ' := [some (oF script), none, some (oF draws), some (oF width), none, none, some (oF far), none, none, none, none, none, none, none, none, none, none]) rfl (q_nxs (q_nx () rfl))))))))))))
theorem ty_law_2 (script : (List Int)) (track : (List (T4 Int Int Int Int))) (spot : (List (T4 Int Int Int Int))) (due : Bool) {Z : OEnv → Prop} : SQ (fun s ρ => kill [9, 16] ρ = E_law_2 script track s) (fun s ρ => ρ = E_law_2 script track s) (fun o (b : Bool) => O.data o = Enc.e b) (fun _ => True) (b_law_2 [some (oF script), none, none, none, none, none, none, none, none, some (oF due), none, none, some (oF track), none, none, none, some (oF spot)]) (t_law_2 track spot due) := by
  unfold b_law_2 t_law_2
  exact (q_end (q_if (t_tnot (t_ttr o_truB (t_call2 (ty_law_same 10) (t_co Co.up (t_call2 ty_overlap (t_varO 12 oF track dF) (t_varO 16 oF spot dF))) (t_co Co.up (t_varO 9 oF due dF))))) trivial (q_ret (f := fun r_ => (r_ : Bool)) (p_x (t_exF (t_c false))) trivial (fun _ => dF _)) (q_pre (q_at (ρ' := [some (oF script), none, none, none, none, none, none, none, none, none, none, none, some (oF track), none, none, none, none]) rfl (q_nxs (q_nx () rfl))))))
theorem ty_law_3 (script : (List Int)) (at_ : Int) {Z : OEnv → Prop} : SQ (fun s ρ => kill [1, 2, 3, 4, 5, 6, 7, 8, 9, 10, 11, 12, 13, 14, 15, 16] ρ = E_law_3 script s) (fun s ρ => ρ = E_law_3 script s) (fun o (b : Bool) => O.data o = Enc.e b) (fun _ => True) (b_law_3 [some (oF script), some (oF at_), none, none, none, none, none, none, none, none, none, none, none, none, none, none, none]) (t_law_3 script at_) := by
  unfold b_law_3 t_law_3
  exact (q_set (p_x (t_exF (t_call3 ty_law_numbers (t_call2 ty_law_cell (t_var 0 script) (t_var 1 at_)) (t_c (20 : Int)) (t_c (5040 : Int))))) trivial fun draws => (q_at (ρ' := [some (oF script), some (oF at_), some (oF draws), none, none, none, none, none, none, none, none, none, none, none, none, none, none]) rfl (q_set (p_x (t_exF (t_2 o_addI (t_c (1 : Int)) (t_2 o_modI (t_2 o_idx (t_var 2 draws) (t_c (14 : Int))) (t_c (4 : Int)))))) trivial fun width => (q_at (ρ' := [some (oF script), some (oF at_), some (oF draws), some (oF width), none, none, none, none, none, none, none, none, none, none, none, none, none]) rfl (q_set (p_x (t_exF (t_call3 ty_law_room (t_var 2 draws) (t_c (0 : Int)) (t_var 3 width)))) trivial fun one => (q_at (ρ' := [some (oF script), some (oF at_), some (oF draws), some (oF width), some (oF one), none, none, none, none, none, none, none, none, none, none, none, none]) rfl (q_set (p_x (t_exF (t_call3 ty_law_room (t_var 2 draws) (t_c (7 : Int)) (t_var 3 width)))) trivial fun other => (q_at (ρ' := [some (oF script), some (oF at_), some (oF draws), some (oF width), some (oF one), some (oF other), none, none, none, none, none, none, none, none, none, none, none]) rfl (q_set (p_x (t_exF (t_tup4 (t_2 o_subI (t_2 o_idx (t_var 2 draws) (t_c (15 : Int))) (t_c (2000 : Int))) (t_2 o_idx (t_var 2 draws) (t_c (16 : Int))) (t_2 o_subI (t_2 o_idx (t_var 2 draws) (t_c (17 : Int))) (t_c (999 : Int))) (t_2 o_idx (t_var 2 draws) (t_c (18 : Int)))))) trivial fun far => (q_at (ρ' := [some (oF script), some (oF at_), some (oF draws), some (oF width), some (oF one), some (oF other), some (oF far), none, none, none, none, none, none, none, none, none, none]) rfl (q_set (p_x (t_exF (t_call3 ty_law_moved (t_var 5 other) (t_tup4 (t_c (0 : Int)) (t_c (0 : Int)) (t_c (0 : Int)) (t_c (0 : Int))) (t_2 o_idx (t_var 2 draws) (t_c (19 : Int)))))) trivial fun turned => (q_at (ρ' := [some (oF script), some (oF at_), some (oF draws), some (oF width), some (oF one), some (oF other), some (oF far), some (oF turned), none, none, none, none, none, none, none, none, none]) rfl (q_pre0 (q_at (ρ' := [some (oF script), none, some (oF draws), some (oF width), some (oF one), some (oF other), some (oF far), some (oF turned), none, none, none, none, none, none, none, none, none]) rfl (q_forK (E_law_1 script draws width far) (fun pair => [(8, Enc.e pair)]) () (t_isq (t_list (t_cons (t_tup2 (t_var 4 one) (t_var 5 other)) (t_cons (t_tup2 (t_var 4 one) (t_var 4 one)) (t_cons (t_tup2 (t_var 4 one) (t_var 7 turned)) (t_cons (t_tup2 (t_var 5 other) (t_call3 ty_law_moved (t_var 4 one) (t_var 6 far) (t_c (0 : Int)))) (t_nil (α := ((List (T4 Int Int Int Int)) × (List (T4 Int Int Int Int))))))))))) trivial rfl (fun pair => rfl) (fun _ => rfl) (fun pair _ => ty_law_1 script draws width far pair (Z := fun _ => True)) fun _ => (q_at (ρ' := [some (oF script), none, some (oF draws), some (oF width), none, none, some (oF far), none, none, none, none, none, none, none, none, none, none]) rfl (q_pre0 (q_at (ρ' := [some (oF script), none, some (oF draws), some (oF width), none, none, none, none, none, none, none, none, none, none, none, none, none]) rfl (q_set (p_x (t_exF (t_2 o_addI (t_c (1 : Int)) (t_2 o_modI (t_2 o_idx (t_var 2 draws) (t_c (6 : Int))) (t_c (12 : Int)))))) trivial fun length => (q_at (ρ' := [some (oF script), none, some (oF draws), some (oF width), none, none, none, none, none, none, some (oF length), none, none, none, none, none, none]) rfl (q_set (p_x (t_exF (t_tup2 (t_tup4 (t_2 o_idx (t_var 2 draws) (t_c (0 : Int))) (t_2 o_idx (t_var 2 draws) (t_c (1 : Int))) (t_2 o_idx (t_var 2 draws) (t_c (2 : Int))) (t_2 o_idx (t_var 2 draws) (t_c (3 : Int)))) (t_2 o_modI (t_2 o_idx (t_var 2 draws) (t_c (4 : Int))) (t_c (8 : Int)))))) trivial fun pose => (q_at (ρ' := [some (oF script), none, some (oF draws), some (oF width), none, none, none, none, none, none, some (oF length), some (oF pose), none, none, none, none, none]) rfl (q_set (p_x (t_exF (t_call3 ty_law_straight_room (t_var 11 pose) (t_var 10 length) (t_var 3 width)))) trivial fun track => (q_at (ρ' := [some (oF script), none, some (oF draws), some (oF width), none, none, none, none, none, none, some (oF length), some (oF pose), some (oF track), none, none, none, none]) rfl (q_set (p_x (t_exF (t_call3 ty_law_moved (t_var 12 track) (t_call2 ty_law_ray (t_2 o_mulI (t_c (2 : Int)) (t_var 3 width)) (t_2 o_addI (o_pj (p := Prod.snd) (ha := (t_var 11 pose))) (t_c (2 : Int)))) (t_c (0 : Int))))) trivial fun beside => (q_at (ρ' := [some (oF script), none, some (oF draws), some (oF width), none, none, none, none, none, none, some (oF length), some (oF pose), some (oF track), some (oF beside), none, none, none]) rfl (q_set (p_x (t_exF (t_call3 ty_law_moved (t_var 12 track) (t_call2 ty_law_ray (t_var 10 length) (o_pj (p := Prod.snd) (ha := (t_var 11 pose)))) (t_c (0 : Int))))) trivial fun ahead => (q_at (ρ' := [some (oF script), none, some (oF draws), some (oF width), none, none, none, none, none, none, some (oF length), some (oF pose), some (oF track), some (oF beside), some (oF ahead), none, none]) rfl (q_set (p_x (t_exF (t_call3 ty_law_moved (t_var 12 track) (t_call2 ty_law_ray (t_2 o_subI (t_2 o_mulI (t_c (2 : Int)) (t_var 3 width)) (t_c (1 : Int))) (t_2 o_addI (o_pj (p := Prod.snd) (ha := (t_var 11 pose))) (t_c (2 : Int)))) (t_c (0 : Int))))) trivial fun near => (q_at (ρ' := [some (oF script), none, some (oF draws), some (oF width), none, none, none, none, none, none, some (oF length), some (oF pose), some (oF track), some (oF beside), some (oF ahead), some (oF near), none]) rfl (q_pre0 (q_at (ρ' := [some (oF script), none, none, none, none, none, none, none, none, none, none, none, some (oF track), some (oF beside), some (oF ahead), some (oF near), none]) rfl (q_end (q_forK (E_law_2 script track) (fun ⟨spot, due⟩ => [(16, Enc.e spot), (9, Enc.e due)]) () (t_isq (t_list (t_cons (t_tup2 (t_var 13 beside) (t_c false)) (t_cons (t_tup2 (t_var 14 ahead) (t_c false)) (t_cons (t_tup2 (t_var 15 near) (t_c true)) (t_cons (t_tup2 (t_var 12 track) (t_c true)) (t_nil (α := ((List (T4 Int Int Int Int)) × Bool))))))))) trivial rfl (fun ⟨spot, due⟩ => rfl) (fun _ => rfl) (fun ⟨spot, due⟩ _ => ty_law_2 script track spot due (Z := fun _ => True)) fun _ => (q_at (ρ' := [some (oF script), none, none, none, none, none, none, none, none, none, none, none, some (oF track), none, none, none, none]) rfl (q_nx () rfl))))))))))))))))))))))))))))))))))))
theorem ty_law (script : (List Int)) : TEq (m_law [Enc.e script]) (t_law script) := by
  rw [r_law]
  unfold g_law t_law
  exact fn_T (E := fun _ _ => True) (L := fun _ _ => True) (q_for (E_law_3 script) (fun at_ => [(1, Enc.e at_)]) () (t_x1 o_range1 (t_exF (t_c (4 : Int)))) trivial rfl (fun at_ => rfl) (fun _ => rfl) (fun at_ _ => ty_law_3 script at_ (Z := fun _ => True)) fun _ => (q_at (ρ' := [some (oF script), none, none, none, none, none, none, none, none, none, none, none, none, none, none, none, none]) rfl (q_pre0 (q_at (ρ' := [none, none, none, none, none, none, none, none, none, none, none, none, none, none, none, none, none]) rfl (q_end (q_ret (f := fun r_ => (r_ : Bool)) (p_x (t_exF (t_c true))) trivial (fun _ => dF _))))))) (fun _ => trivial)
theorem law_T (h : ∀ ns : List Int, ns.length ≤ 63 → t_law ns = .ok true) : ∀ ns : List Int, ns.length ≤ 63 → m_law [.list (ns.map PyData.int)] = .ok (.bool true) := fun ns hl => (ty_law ns).ok (h ns hl)
theorem cellT (ns : List Int) (k : Nat) : t_law_cell ns (k : Int) = .ok (ns.getD k 0) := by
  by_cases h1 : k < ns.length
  · simp [t_law_cell, h1, tidx_lt h1]
  · simp [t_law_cell, h1]

theorem numbersT (c : Int) (n : Nat) (m lim : Int) (hm : m = (n : Int)) (hn : n ≤ 100000) (h0 : 0 < lim) (h1 : lim < 2 ^ 250) : ∃ ds, Dr n lim ds ∧ t_law_numbers c m lim = .ok ds := by
  subst hm
  have p1 : tpowI 10 18 = .ok (1000000000000000000 : Int) := tpowI_ok (by decide)
  have tr := trange1_nat (show n ≤ 16777216 by omega)
  by_cases hb : (1000000000000000000 : Int) ≤ c
  · obtain ⟨⟨c', ds⟩, e1, e2⟩ := forT_ix (l := Empty) (f := fun k (s : Int × List Int) => t_law_numbers_1 lim k s.1 s.2) (fun i s => Dr i lim s.2) (rangeI 0 n) 0 (c, []) ⟨rfl, fun _ h => nomatch h⟩ (fun i a s hi hs => by
      obtain ⟨c', ds⟩ := s
      have hi' := (rangeI_get hi).1
      have hl : ds.length < 16777216 := by have := hs.1; simp at this; omega
      refine ⟨(c' / lim, ds ++ [c' % lim]), .inl ?_, hs.snoc (Int.emod_nonneg _ (by omega)) (Int.emod_lt_of_pos _ h0)⟩
      simp [t_law_numbers_1, h0, tapp_ok hl, tfdivI_pos h0 h1])
    refine ⟨ds, by simpa using e2, ?_⟩
    simp [t_law_numbers, p1, hb, tr]
    erw [e1]
    rfl
  · obtain ⟨ds, e1, e2⟩ := forT_ix (l := Empty) (f := fun k s => t_law_numbers_2 c lim k s) (fun i s => Dr i lim s) (rangeI 0 n) 0 [] ⟨rfl, fun _ h => nomatch h⟩ (fun i a ds hi hs => by
      have hi' := (rangeI_get hi).1
      have hl : ds.length < 16777216 := by have := hs.1; omega
      have m0 : tmulI c 48271 = .ok (c * 48271) := tmulI_r .lit
      have m1 : tmulI a 69621 = .ok (a * 69621) := tmulI_r .lit
      have m2 : tmulI a 16807 = .ok (a * 16807) := tmulI_r .lit
      have m3 : ∀ x, tmulI (x % 2147483647) 40692 = .ok (x % 2147483647 * 40692) := fun x => tmulI_r .lit
      have m4 : ∀ x, tmulI (x % 2147483647) (x % 2147483647) = .ok (x % 2147483647 * (x % 2147483647)) := fun x => tmulI_r (sm_of (by
        have a1 := Int.emod_nonneg x (b := 2147483647) (by omega)
        have a2 := Int.emod_lt_of_pos x (b := 2147483647) (by omega)
        omega))
      have m5 : ∀ x, tfdivI x 32 = .ok (x / 32) := fun x => tfdivI_pos (by omega) (by decide)
      have st : ∃ x, t_law_numbers_2 c lim a ds = .nx (ds ++ [x % lim]) := ⟨_, by simp [t_law_numbers_2, h0, tapp_ok hl, m0, m1, m2, m3, m4, m5]; rfl⟩
      obtain ⟨x, st⟩ := st
      exact ⟨_, .inl st, hs.snoc (Int.emod_nonneg _ (by omega)) (Int.emod_lt_of_pos _ h0)⟩)
    refine ⟨ds, by simpa using e2, ?_⟩
    simp [t_law_numbers, p1, hb, tr, e1]

theorem same_itemsT {n : Nat} {d : PyData} {xs : List PyData} (hv : ∀ (i : Nat) x, xs[i]? = some x → vidx d (.int (i : Int)) = .ok x) (ih : ∀ x ∈ xs, t_law_same n x x = .ok true) :
    (forT (fun k (_ : Unit) => t_law_same_1 (t_law_same n) d d k) (rangeI 0 xs.length) () : TR Bool Empty Unit) = .nx () :=
  forT_pass fun a ha => by
    obtain ⟨k, hk, rfl⟩ := rangeI_mem.mp ha
    have e3 : xs[k]? = some xs[k] := by simp [hk]
    have e4 := hv k _ e3
    have e5 := ih xs[k] (List.getElem_mem hk)
    refine .inl ?_
    rw [Int.zero_add]
    have e6 : Enc.e (k : Int) = PyData.int (k : Int) := rfl
    simp [t_law_same_1, e4, e5, e6]
theorem sameT : ∀ (n : Nat) (d : PyData), okS n d → t_law_same n d d = .ok true
  | 0, _, h => h.elim
  | n + 1, d, h => by
    unfold t_law_same
    cases d with
    | none => simp [dB1]
    | bool b => simp [dB1]
    | int b => simp [dB1]
    | str b => simp [dB1, veq_str h h]
    | list xs =>
      have e := same_itemsT (n := n) (fun i x hx => vidx_list hx) fun x hx => sameT n x (h.2 x hx)
      simp [dB1, trange1_nat h.1, e]
    | tuple xs =>
      have e := same_itemsT (n := n) (fun i x hx => vidx_tuple hx) fun x hx => sameT n x (h.2 x hx)
      simp [dB1, trange1_nat h.1, e]
    | dict _ => exact h.elim

/-! ### a + b r2, by sign -/
def sgI (a : Int) : Int := if 0 < a then 1 else if a < 0 then -1 else 0
def sgS (a b : Int) : Int := if 2 * b * b < a * a then sgI a else sgI b
theorem sq_nonneg (a : Int) : 0 ≤ a * a := by
  rcases Int.le_total 0 a with h | h
  · exact Int.mul_nonneg h h
  · exact Int.mul_nonneg_of_nonpos_of_nonpos h h
theorem sq_pos {a : Int} (h : a ≠ 0) : 0 < a * a := by
  rcases Int.lt_or_gt_of_ne h with h | h
  · exact Int.mul_pos_of_neg_of_neg h h
  · exact Int.mul_pos h h
theorem sgI_pos {a : Int} (h : 0 < a) : sgI a = 1 := if_pos h
theorem sgI_neg {a : Int} (h : a < 0) : sgI a = -1 := by unfold sgI; rw [if_neg (by omega), if_pos h]
theorem sgI_zero : sgI 0 = 0 := rfl
theorem sgI_eq0 {a : Int} : sgI a = 0 ↔ a = 0 := by unfold sgI; (split <;> first | omega | (split <;> omega))
/-- 0 ≤ a + b r2 -/
def NN2 (a b : Int) : Prop := (0 ≤ a ∧ 0 ≤ b) ∨ (0 ≤ a ∧ 2 * (b * b) ≤ a * a) ∨ (0 ≤ b ∧ a * a ≤ 2 * (b * b))
theorem sq_le {x y : Int} (hy : 0 ≤ y) (h : x * x ≤ y * y) : x ≤ y := by
  rcases Int.lt_or_le y x with q | q
  · have a := Int.mul_le_mul_of_nonneg_left (Int.le_of_lt q) hy
    have b := Int.mul_lt_mul_of_pos_right q (show 0 < x by omega)
    omega
  · exact q
theorem sq_lt {x y : Int} (hy : 0 ≤ y) (h : x * x < y * y) : x < y := by
  rcases Int.lt_or_le x y with q | q
  · exact q
  · have := Int.mul_le_mul q q hy (by omega)
    omega
theorem mono_sq {x y : Int} (hx : 0 ≤ x) (h : x ≤ y) : x * x ≤ y * y := Int.mul_le_mul h h hx (by omega)
theorem mul_ge {x y f g : Int} (hx : 0 ≤ x) (hy : 0 ≤ y) (h1 : 2 * (f * f) ≤ x * x) (h2 : 2 * (g * g) ≤ y * y) : 2 * (f * g) ≤ x * y := by
  have a := Int.mul_le_mul h1 h2 (by have := sq_nonneg g; omega) (sq_nonneg x)
  refine sq_le (Int.mul_nonneg hx hy) ?_
  have e1 : 2 * (f * g) * (2 * (f * g)) = 2 * (f * f) * (2 * (g * g)) := by grind
  have e2 : x * y * (x * y) = x * x * (y * y) := by grind
  rw [e1, e2]; exact a
theorem mul_le2 {x y f g : Int} (hf : 0 ≤ f) (hg : 0 ≤ g) (h1 : x * x ≤ 2 * (f * f)) (h2 : y * y ≤ 2 * (g * g)) : x * y ≤ 2 * (f * g) := by
  have a := Int.mul_le_mul h1 h2 (sq_nonneg y) (by have := sq_nonneg f; omega)
  refine sq_le (by have := Int.mul_nonneg hf hg; omega) ?_
  have e1 : 2 * (f * g) * (2 * (f * g)) = 2 * (f * f) * (2 * (g * g)) := by grind
  have e2 : x * y * (x * y) = x * x * (y * y) := by grind
  rw [e1, e2]; exact a
theorem sq_add (x y : Int) : (x + y) * (x + y) = x * x + y * y + 2 * (x * y) := by grind
/-- one of b, d below zero -/
theorem nn_mix {a b c d : Int} (h1 : NN2 a b) (hb : 0 ≤ b) (hd : d < 0) (hc : 0 ≤ c) (h2 : 2 * (d * d) ≤ c * c) : NN2 (a + c) (b + d) := by
  obtain ⟨g, hg⟩ : ∃ g, d = -g := ⟨-d, by omega⟩
  subst hg
  have h2 : 2 * (g * g) ≤ c * c := by have : -g * -g = g * g := by grind
                                      omega
  by_cases ha : 0 ≤ a
  · by_cases hs : g ≤ b
    · exact .inl ⟨by omega, by omega⟩
    · refine .inr (.inl ⟨by omega, ?_⟩)
      have e1 := mono_sq (x := g - b) (y := g) (by omega) (by omega)
      have e2 := mono_sq (x := c) (y := a + c) hc (by omega)
      have e3 : (b + -g) * (b + -g) = (g - b) * (g - b) := by grind
      omega
  · obtain ⟨x, hx⟩ : ∃ x, a = -x := ⟨-a, by omega⟩
    subst hx
    have ax : x * x ≤ 2 * (b * b) := by
      have e : -x * -x = x * x := by grind
      rcases h1 with q | q | q
      · omega
      · omega
      · omega
    by_cases hs : g ≤ b
    · by_cases hq : x ≤ c
      · exact .inl ⟨by omega, by omega⟩
      · refine .inr (.inr ⟨by omega, ?_⟩)
        rcases Int.lt_or_le (2 * ((b - g) * (b - g))) ((x - c) * (x - c)) with z | z
        · exfalso
          have m := mul_ge (x := x - c) (y := c) (f := b - g) (g := g) (by omega) hc (by omega) h2
          have e1 := sq_add (x - c) c
          have e2 := sq_add (b - g) g
          rw [show x - c + c = x by omega] at e1
          rw [show b - g + g = b by omega] at e2
          omega
        · have e1 : (-x + c) * (-x + c) = (x - c) * (x - c) := by grind
          have e2 : (b + -g) * (b + -g) = (b - g) * (b - g) := by grind
          omega
    · have hxc : x < c := by
        refine sq_lt hc ?_
        have e1 := mono_sq (x := b + 1) (y := g) (by omega) (by omega)
        have e2 := sq_add b 1
        omega
      refine .inr (.inl ⟨by omega, ?_⟩)
      rcases Int.lt_or_le ((c - x) * (c - x)) (2 * ((g - b) * (g - b))) with z | z
      · exfalso
        have m := mul_le2 (x := c - x) (y := x) (f := g - b) (g := b) (by omega) hb (by omega) ax
        have e1 := sq_add (c - x) x
        have e2 := sq_add (g - b) b
        rw [show c - x + x = c by omega] at e1
        rw [show g - b + b = g by omega] at e2
        omega
      · have e1 : (-x + c) * (-x + c) = (c - x) * (c - x) := by grind
        have e2 : (b + -g) * (b + -g) = (g - b) * (g - b) := by grind
        omega
theorem nn_add {a b c d : Int} (h1 : NN2 a b) (h2 : NN2 c d) : NN2 (a + c) (b + d) := by
  by_cases hb : 0 ≤ b
  · by_cases hd : 0 ≤ d
    · by_cases hs : 0 ≤ a + c
      · exact .inl ⟨hs, by omega⟩
      · refine .inr (.inr ⟨by omega, ?_⟩)
        by_cases ha : 0 ≤ a
        · have hc : c * c ≤ 2 * (d * d) := by
            rcases h2 with q | q | q
            · omega
            · omega
            · exact q.2
          have e1 := mono_sq (x := -(a + c)) (y := -c) (by omega) (by omega)
          have e2 := mono_sq (x := d) (y := b + d) hd (by omega)
          have e3 : -(a + c) * -(a + c) = (a + c) * (a + c) := by grind
          have e4 : -c * -c = c * c := by grind
          omega
        · have ha2 : a * a ≤ 2 * (b * b) := by
            rcases h1 with q | q | q
            · omega
            · omega
            · exact q.2
          by_cases hc : 0 ≤ c
          · have e1 := mono_sq (x := -(a + c)) (y := -a) (by omega) (by omega)
            have e2 := mono_sq (x := b) (y := b + d) hb (by omega)
            have e3 : -(a + c) * -(a + c) = (a + c) * (a + c) := by grind
            have e4 : -a * -a = a * a := by grind
            omega
          · have hc2 : c * c ≤ 2 * (d * d) := by
              rcases h2 with q | q | q
              · omega
              · omega
              · exact q.2
            have m := mul_le2 hb hd ha2 hc2
            have e1 := sq_add a c
            have e2 := sq_add b d
            omega
    · have hc : 0 ≤ c ∧ 2 * (d * d) ≤ c * c := by
        rcases h2 with q | q | q
        · omega
        · exact q
        · omega
      exact nn_mix h1 hb (by omega) hc.1 hc.2
  · have ha : 0 ≤ a ∧ 2 * (b * b) ≤ a * a := by
      rcases h1 with q | q | q
      · omega
      · exact q
      · omega
    by_cases hd : 0 ≤ d
    · have := nn_mix h2 hd (show b < 0 by omega) ha.1 ha.2
      rwa [Int.add_comm a c, Int.add_comm b d]
    · have hc : 0 ≤ c ∧ 2 * (d * d) ≤ c * c := by
        rcases h2 with q | q | q
        · omega
        · exact q
        · omega
      refine .inr (.inl ⟨by omega, ?_⟩)
      have m := mul_ge ha.1 hc.1 ha.2 hc.2
      have e1 := sq_add a c
      have e2 := sq_add b d
      omega
theorem nn_iff (a b : Int) : 0 ≤ sgS a b ↔ NN2 a b := by
  unfold sgS NN2
  have e : 2 * b * b = 2 * (b * b) := by grind
  rw [e]
  have sa := sq_nonneg a
  have sb := sq_nonneg b
  by_cases h : 2 * (b * b) < a * a
  · rw [if_pos h]
    unfold sgI
    split
    · exact ⟨fun _ => .inr (.inl ⟨by omega, by omega⟩), fun _ => by omega⟩
    · split
      · have : ¬ (0 : Int) ≤ -1 := by omega
        simp only [this, false_iff]
        omega
      · have : a = 0 := by omega
        subst this
        omega
  · rw [if_neg h]
    unfold sgI
    split
    · simp only [Int.le_refl, true_iff, show (0 : Int) ≤ 1 by omega]; omega
    · split
      · have : ¬ (0 : Int) ≤ -1 := by omega
        simp only [this, false_iff]
        have := sq_pos (show b ≠ 0 by omega)
        rintro (q | q | q)
        · omega
        · obtain ⟨q1, q2⟩ := q
          -- a * a = 2 * (b * b)
          exact absurd (show a * a = 2 * (b * b) by omega) (by
            intro z
            have key : ∀ (n : Nat) (x y : Int), y.natAbs ≤ n → x * x = 2 * (y * y) → y = 0 := by
              intro n
              induction n with
              | zero => intro x y hy _; omega
              | succ n ih =>
                intro x y hy hxy
                have hx2 : x % 2 = 0 := by
                  rcases Int.emod_two_eq x with q | q
                  · exact q
                  · exfalso
                    obtain ⟨k, hk⟩ : ∃ k, x = 2 * k + 1 := ⟨x / 2, by omega⟩
                    subst hk
                    have : (2 * k + 1) * (2 * k + 1) = 2 * (2 * (k * k) + 2 * k) + 1 := by grind
                    omega
                obtain ⟨k, hk⟩ : ∃ k, x = 2 * k := ⟨x / 2, by omega⟩
                subst hk
                have e1 : 2 * k * (2 * k) = 4 * (k * k) := by grind
                have hyk : y * y = 2 * (k * k) := by omega
                have hy2 : y % 2 = 0 := by
                  rcases Int.emod_two_eq y with q | q
                  · exact q
                  · exfalso
                    obtain ⟨m, hm⟩ : ∃ m, y = 2 * m + 1 := ⟨y / 2, by omega⟩
                    subst hm
                    have : (2 * m + 1) * (2 * m + 1) = 2 * (2 * (m * m) + 2 * m) + 1 := by grind
                    omega
                obtain ⟨m, hm⟩ : ∃ m, y = 2 * m := ⟨y / 2, by omega⟩
                subst hm
                have e2 : 2 * m * (2 * m) = 4 * (m * m) := by grind
                by_cases hm0 : m = 0
                · subst hm0; rfl
                · have := ih k m (by omega) (by omega)
                  omega
            have := key b.natAbs a b (Nat.le_refl _) z
            omega)
        · omega
      · have : b = 0 := by omega
        subst this
        simp only [Int.le_refl, true_iff]
        have ha0 : a = 0 := Decidable.byContradiction fun z => by have := sq_pos z; omega
        omega
theorem sgS_neg (a b : Int) : sgS (-a) (-b) = - sgS a b := by
  unfold sgS
  have e1 : 2 * -b * -b = 2 * b * b := by grind
  have e2 : -a * -a = a * a := by grind
  have e3 : ∀ z : Int, sgI (-z) = - sgI z := fun z => by unfold sgI; (split <;> (try split) <;> (try split) <;> (try split) <;> omega)
  rw [e1, e2, e3, e3]
  split <;> rfl
theorem sgS_three (a b : Int) : sgS a b = 1 ∨ sgS a b = 0 ∨ sgS a b = -1 := by
  have e : ∀ z : Int, sgI z = 1 ∨ sgI z = 0 ∨ sgI z = -1 := fun z => by unfold sgI; (split <;> (try split) <;> omega)
  unfold sgS; split <;> exact e _
theorem sg_le_add {a b c d : Int} (h1 : sgS a b ≤ 0) (h2 : sgS c d ≤ 0) : sgS (a + c) (b + d) ≤ 0 := by
  have g1 : NN2 (-a) (-b) := (nn_iff _ _).mp (by rw [sgS_neg]; omega)
  have g2 : NN2 (-c) (-d) := (nn_iff _ _).mp (by rw [sgS_neg]; omega)
  have := (nn_iff _ _).mpr (nn_add g1 g2)
  rw [show -a + -c = -(a + c) by omega, show -b + -d = -(b + d) by omega, sgS_neg] at this
  omega

/-! ### spots -/
abbrev SP := T4 Int Int Int Int
def bd (B : Int) (p : SP) : Prop := (-B ≤ p.a ∧ p.a ≤ B) ∧ (-B ≤ p.b ∧ p.b ≤ B) ∧ (-B ≤ p.c ∧ p.c ≤ B) ∧ (-B ≤ p.d ∧ p.d ≤ B)
def pl (p q : SP) : SP := ⟨p.a + q.a, p.b + q.b, p.c + q.c, p.d + q.d⟩
def mi (p q : SP) : SP := ⟨p.a - q.a, p.b - q.b, p.c - q.c, p.d - q.d⟩
def r1 (p : SP) : SP := ⟨-p.d, p.a, p.b, p.c⟩
def rt : Nat → SP → SP
  | 0, p => p
  | n + 1, p => r1 (rt n p)
theorem bd_mono {B C : Int} {p : SP} (h : bd B p) (g : B ≤ C) : bd C p := by unfold bd at *; omega
theorem bd_pl {B C : Int} {p q : SP} (h : bd B p) (g : bd C q) : bd (B + C) (pl p q) := by unfold bd pl at *; dsimp only; omega
theorem bd_mi {B C : Int} {p q : SP} (h : bd B p) (g : bd C q) : bd (B + C) (mi p q) := by unfold bd mi at *; dsimp only; omega
theorem bd_r1 {B : Int} {p : SP} (h : bd B p) : bd B (r1 p) := by unfold bd r1 at *; dsimp only; omega
theorem bd_rt {B : Int} {p : SP} : ∀ n, bd B p → bd B (rt n p)
  | 0, h => h
  | n + 1, h => bd_r1 (bd_rt n h)
theorem rt_add (p : SP) (m : Nat) : ∀ n, rt (m + n) p = rt n (rt m p)
  | 0 => rfl
  | n + 1 => congrArg r1 (rt_add p m n)
theorem rt_8 (p : SP) : rt 8 p = p := by
  obtain ⟨a, b, c, d⟩ := p
  simp [rt, r1]
theorem rt_mod (p : SP) (n : Nat) : rt (n % 8) p = rt n p := by
  have h : ∀ k, rt (8 * k) p = p := by
    intro k
    induction k with
    | zero => rfl
    | succ k ih => rw [show 8 * (k + 1) = 8 * k + 8 by omega, rt_add, ih, rt_8]
  rw [show n = 8 * (n / 8) + n % 8 by omega, rt_add, h]
  congr 1; omega
theorem r1_pl (p q : SP) : r1 (pl p q) = pl (r1 p) (r1 q) := by simp [r1, pl]; omega
theorem r1_mi (p q : SP) : r1 (mi p q) = mi (r1 p) (r1 q) := by simp [r1, mi]; omega
theorem rt_pl (p q : SP) : ∀ n, rt n (pl p q) = pl (rt n p) (rt n q)
  | 0 => rfl
  | n + 1 => (congrArg r1 (rt_pl p q n)).trans (r1_pl _ _)
theorem rt_mi (p q : SP) : ∀ n, rt n (mi p q) = mi (rt n p) (rt n q)
  | 0 => rfl
  | n + 1 => (congrArg r1 (rt_mi p q n)).trans (r1_mi _ _)
theorem pl_assoc (p q r : SP) : pl (pl p q) r = pl p (pl q r) := by simp [pl]; omega
theorem pl_comm (p q : SP) : pl p q = pl q p := by simp [pl]; omega
theorem plT (p q : SP) : t_law_plus p q = .ok (pl p q) := by simp [t_law_plus, pl]
theorem miT (p q : SP) : t_law_minus p q = .ok (mi p q) := by simp [t_law_minus, mi]
/-- the direction of a turn -/
def dir (k : Int) : Nat := (k % 8).toNat
theorem turnT (p : SP) (k : Int) : t_law_turned p k = .ok (rt (dir k) p) := by
  obtain ⟨a, b, c, d⟩ := p
  have h1 := Int.emod_nonneg k (b := 8) (by omega)
  have h2 := Int.emod_lt_of_pos k (b := 8) (by omega)
  unfold dir
  have hk : tmodI k 8 = .ok (k % 8) := tmodI_pos (by omega)
  generalize k % 8 = y at h1 h2 hk
  have i8 : ∀ (x0 x1 x2 x3 x4 x5 x6 x7 : Int), tidx [x0, x1, x2, x3, x4, x5, x6, x7] 7 = .ok x7 := fun _ _ _ _ _ _ _ _ => by simp
  obtain rfl | rfl | rfl | rfl | rfl | rfl | rfl | rfl : y = 0 ∨ y = 1 ∨ y = 2 ∨ y = 3 ∨ y = 4 ∨ y = 5 ∨ y = 6 ∨ y = 7 := by omega
  all_goals (simp only [t_law_turned, b1_ap, b2_ap, b4_ap, R.bind_ok, R.tr_ok, tint_ap, tcons_ap, tnegI_ap, hk]; simp [rt, r1])
theorem dir_lt (k : Int) : dir k < 8 := by unfold dir; have := Int.emod_lt_of_pos k (b := 8) (by omega); have := Int.emod_nonneg k (b := 8) (by omega); omega
theorem dir_add (j k : Int) (p : SP) : rt (dir (j + k)) p = rt (dir j) (rt (dir k) p) := by
  rw [← rt_add, ← rt_mod p (dir k + dir j)]
  congr 1
  unfold dir
  have := Int.emod_nonneg j (b := 8) (by omega); have := Int.emod_nonneg k (b := 8) (by omega); have := Int.emod_nonneg (j + k) (b := 8) (by omega)
  omega
theorem rayT (u k : Int) : t_law_ray u k = .ok (rt (dir k) ⟨u, 0, 0, 0⟩) := by simp [t_law_ray, turnT]

/-! ### rooms -/
theorem signT (a : Int) : t_number_sign a = .ok (sgI a) := by
  unfold sgI
  by_cases h1 : 0 < a
  · simp [t_number_sign, h1]
  · by_cases h2 : a < 0
    · simp [t_number_sign, h1, h2]
    · simp [t_number_sign, h1, h2]
theorem sgS_ss (a b : Int) : (if sgI a = 0 ∨ sgI a = sgI b then (if sgI a = 0 then sgI b else sgI a) else if sgI b = 0 then sgI a else if 2 * b * b < a * a then sgI a else sgI b) = sgS a b := by
  unfold sgS
  by_cases ha : a = 0
  · have h1 : sgI a = 0 := sgI_eq0.mpr ha
    have h2 : ¬ 2 * b * b < a * a := by
      subst ha
      have := sq_nonneg b
      rw [Int.mul_assoc]
      omega
    simp [h1, h2]
  · have h1 : sgI a ≠ 0 := fun z => ha (sgI_eq0.mp z)
    by_cases hb : b = 0
    · have h2 : sgI b = 0 := sgI_eq0.mpr hb
      have h3 : 2 * b * b < a * a := by
        subst hb
        have := sq_pos ha
        simpa using this
      simp [h1, h2, h3]
    · have h2 : sgI b ≠ 0 := fun z => hb (sgI_eq0.mp z)
      by_cases h3 : sgI a = sgI b
      · simp [h1, h2, h3]
      · simp [h1, h2, h3]
def smS (p : Int × Int) : Prop := (-10000000000000000 ≤ p.1 ∧ p.1 ≤ 10000000000000000) ∧ (-10000000000000000 ≤ p.2 ∧ p.2 ≤ 10000000000000000)
theorem surdT {p : Int × Int} (h : smS p) : t_surd_sign p = .ok (sgS p.1 p.2) := by
  obtain ⟨a, b⟩ := p
  obtain ⟨h1, h2⟩ := h
  have m1 : tmulI a a = .ok (a * a) := tmulI_r (sm_of (by have : (2 : Int) ^ 64 = 18446744073709551616 := rfl; simp only at h1; omega))
  have m2 : tmulI (2 * b) b = .ok (2 * b * b) := tmulI_r (sm_of (by have : (2 : Int) ^ 64 = 18446744073709551616 := rfl; simp only at h2; omega))
  have m3 : tmulI 2 b = .ok (2 * b) := tmulI_l .lit
  show _ = R.ok (sgS a b)
  rw [← sgS_ss]
  by_cases h1 : sgI a = 0
  · by_cases h2 : sgI b = 0
    · simp [t_surd_sign, signT, h1, h2]
    · simp [t_surd_sign, signT, h1, h2]
  · by_cases h2 : sgI a = sgI b
    · simp [t_surd_sign, signT, h1, h2]
    · by_cases h3 : sgI b = 0
      · simp [t_surd_sign, signT, h1, h2, h3]
      · by_cases h4 : 2 * b * b < a * a
        · simp [t_surd_sign, signT, h1, h2, h3, h4, m1, m2, m3]
        · simp [t_surd_sign, signT, h1, h2, h3, h4, m1, m2, m3]
theorem lawsgT {a b : Int} (h : smS (a, b)) : t_law_surd_sign a b = .ok (sgS a b) := by
  obtain ⟨h1, h2⟩ := h
  have m1 : tmulI a a = .ok (a * a) := tmulI_r (sm_of (by have : (2 : Int) ^ 64 = 18446744073709551616 := rfl; simp only at h1; omega))
  have m2 : tmulI (2 * b) b = .ok (2 * b * b) := tmulI_r (sm_of (by have : (2 : Int) ^ 64 = 18446744073709551616 := rfl; simp only at h2; omega))
  have m3 : tmulI 2 b = .ok (2 * b) := tmulI_l .lit
  have m4 : tmulI 2 1 = .ok 2 := tmulI_l .lit
  have m5 : tmulI 2 0 = .ok 0 := tmulI_l .lit
  have sa := sq_nonneg a
  have sb := sq_nonneg b
  have eb : 2 * b * b = 2 * (b * b) := by grind
  by_cases ha : 0 ≤ a
  · by_cases hb : 0 ≤ b
    · have e : sgS a b = if 0 < a + b then 1 else 0 := by
        unfold sgS sgI
        by_cases h0 : a = 0
        · subst h0
          rw [if_neg (by omega)]
          by_cases h1 : 0 < b
          · rw [if_pos h1, if_pos (by omega)]
          · rw [if_neg h1, if_neg (by omega), if_neg (by omega)]
        · rw [if_pos (show 0 < a by omega), if_pos (show 0 < a + b by omega)]
          split
          · rfl
          · have : b ≠ 0 := fun z => by subst z; have := sq_pos h0; omega
            rw [if_pos (by omega)]
      rw [e]
      simp [t_law_surd_sign, ha, hb, tintB]
    · by_cases ha0 : a = 0
      · subst ha0
        have e : sgS 0 b = -1 := by unfold sgS; rw [if_neg (by omega)]; exact sgI_neg (by omega)
        rw [e]
        have hb' : b ≤ 0 := by omega
        simp [t_law_surd_sign, hb, hb']
      · have a1 : ¬ a ≤ 0 := by omega
        have a2 : ¬ a < 0 := by omega
        have b2 : b < 0 := by omega
        by_cases q : 2 * b * b < a * a
        · have e : sgS a b = 1 := by unfold sgS; rw [if_pos q]; exact sgI_pos (by omega)
          rw [e]
          simp [t_law_surd_sign, ha, hb, a1, m1, m2, m3, q, tintB, a2, m5]
        · have e : sgS a b = -1 := by unfold sgS; rw [if_neg q]; exact sgI_neg (by omega)
          rw [e]
          simp [t_law_surd_sign, ha, hb, a1, m1, m2, m3, q, tintB, b2, m4]
  · have a1 : a ≤ 0 := by omega
    have a2 : a < 0 := by omega
    by_cases hb : b ≤ 0
    · have e : sgS a b = -1 := by
        unfold sgS
        split
        · exact sgI_neg a2
        · refine sgI_neg ?_
          have : b ≠ 0 := fun z => by subst z; have := sq_pos (show a ≠ 0 by omega); omega
          omega
      rw [e]
      simp [t_law_surd_sign, ha, a1, hb]
    · have b2 : ¬ b < 0 := by omega
      by_cases q : 2 * b * b < a * a
      · have e : sgS a b = -1 := by unfold sgS; rw [if_pos q]; exact sgI_neg a2
        rw [e]
        simp [t_law_surd_sign, ha, hb, a1, m1, m2, m3, q, tintB, a2, m4]
      · have e : sgS a b = 1 := by unfold sgS; rw [if_neg q]; exact sgI_pos (by omega)
        rw [e]
        simp [t_law_surd_sign, ha, hb, a1, m1, m2, m3, q, tintB, b2, m5]
/-- how p lies beside the way from s to t -/
def cr (u v : SP) : Int × Int := (2 * u.a * (2 * v.c) + 2 * (u.b - u.d) * (v.b + v.d) - (2 * u.c * (2 * v.a) + 2 * (u.b + u.d) * (v.b - v.d)),
  2 * u.a * (v.b + v.d) + (u.b - u.d) * (2 * v.c) - (2 * u.c * (v.b - v.d) + (u.b + u.d) * (2 * v.a)))
theorem bmul {a b : Int} {A B : Int} (ha : -A ≤ a ∧ a ≤ A) (hb : -B ≤ b ∧ b ≤ B) : -(A * B) ≤ a * b ∧ a * b ≤ A * B := by
  have hA : 0 ≤ A := by omega
  have hB : 0 ≤ B := by omega
  have h1 : a.natAbs ≤ A.natAbs := by omega
  have h2 : b.natAbs ≤ B.natAbs := by omega
  have h3 := Nat.mul_le_mul h1 h2
  rw [← Int.natAbs_mul, ← Int.natAbs_mul] at h3
  have := Int.mul_nonneg hA hB
  omega
theorem cr_sm {u v : SP} (hu : bd 200000 u) (hv : bd 200000 v) : smS (cr u v) := by
  obtain ⟨u1, u2, u3, u4⟩ := hu
  obtain ⟨v1, v2, v3, v4⟩ := hv
  have a1 := bmul (a := 2 * u.a) (b := 2 * v.c) (A := 400000) (B := 400000) (by omega) (by omega)
  have a2 := bmul (a := 2 * (u.b - u.d)) (b := v.b + v.d) (A := 800000) (B := 400000) (by omega) (by omega)
  have a3 := bmul (a := 2 * u.c) (b := 2 * v.a) (A := 400000) (B := 400000) (by omega) (by omega)
  have a4 := bmul (a := 2 * (u.b + u.d)) (b := v.b - v.d) (A := 800000) (B := 400000) (by omega) (by omega)
  have a5 := bmul (a := 2 * u.a) (b := v.b + v.d) (A := 400000) (B := 400000) (by omega) (by omega)
  have a6 := bmul (a := u.b - u.d) (b := 2 * v.c) (A := 400000) (B := 400000) (by omega) (by omega)
  have a7 := bmul (a := 2 * u.c) (b := v.b - v.d) (A := 400000) (B := 400000) (by omega) (by omega)
  have a8 := bmul (a := u.b + u.d) (b := 2 * v.a) (A := 400000) (B := 400000) (by omega) (by omega)
  unfold smS cr
  dsimp only
  omega
theorem m64 {a b : Int} (h : -1000000 ≤ b ∧ b ≤ 1000000) : tmulI a b = .ok (a * b) := tmulI_r (sm_of (by have : (2 : Int) ^ 64 = 18446744073709551616 := rfl; omega))
theorem lessT (p q : SP) : t_spot_less p q = .ok (mi p q) := by simp [t_spot_less, mi]
theorem dblT (p : SP) : t_doubled p = .ok ((2 * p.a, p.b - p.d), (2 * p.c, p.b + p.d)) := by
  have m : ∀ z : Int, tmulI 2 z = .ok (2 * z) := fun z => tmulI_l .lit
  simp [t_doubled, m]
theorem prodT {x y : Int × Int} (h1 : -1000000 ≤ y.1 ∧ y.1 ≤ 1000000) (h2 : -1000000 ≤ y.2 ∧ y.2 ≤ 1000000) : t_surd_product x y = .ok (x.1 * y.1 + 2 * x.2 * y.2, x.1 * y.2 + x.2 * y.1) := by
  have m : tmulI 2 x.2 = .ok (2 * x.2) := tmulI_l .lit
  have m1 : tmulI x.1 y.1 = .ok (x.1 * y.1) := m64 h1
  have m2 : tmulI (2 * x.2) y.2 = .ok (2 * x.2 * y.2) := m64 h2
  have m3 : tmulI x.1 y.2 = .ok (x.1 * y.2) := m64 h2
  have m4 : tmulI x.2 y.1 = .ok (x.2 * y.1) := m64 h1
  simp [t_surd_product, m, m1, m2, m3, m4]
theorem tsT {s t p : SP} (hs : bd 100000 s) (ht : bd 100000 t) (hp : bd 100000 p) : t_turn_sign s t p = .ok (sgS (cr (mi t s) (mi p s)).1 (cr (mi t s) (mi p s)).2) := by
  have b1 := bd_mi ht hs
  have b2 := bd_mi hp hs
  have sm := cr_sm b1 b2
  have l1 := lessT t s
  have l2 := lessT p s
  generalize mi t s = u at b1 sm l1
  generalize mi p s = v at b2 sm l2
  have c1 : -1000000 ≤ 2 * v.c ∧ 2 * v.c ≤ 1000000 := by unfold bd at b2; omega
  have c2 : -1000000 ≤ v.b + v.d ∧ v.b + v.d ≤ 1000000 := by unfold bd at b2; omega
  have c3 : -1000000 ≤ 2 * v.a ∧ 2 * v.a ≤ 1000000 := by unfold bd at b2; omega
  have c4 : -1000000 ≤ v.b - v.d ∧ v.b - v.d ≤ 1000000 := by unfold bd at b2; omega
  have p1 := prodT (x := (2 * u.a, u.b - u.d)) (y := (2 * v.c, v.b + v.d)) c1 c2
  have p2 := prodT (x := (2 * u.c, u.b + u.d)) (y := (2 * v.a, v.b - v.d)) c3 c4
  have e := surdT sm
  simp only [t_turn_sign, b1_ap, b2_ap, R.bind_ok, R.tr_ok, l1, l2, dblT, pj_ap, p1, p2, t_surd_sum, t_surd_opposite, mk2_ap, taddI_ap, tnegI_ap, TR.fn_rt]
  unfold cr at e ⊢
  dsimp only at e ⊢
  simp only [Int.sub_eq_add_neg] at e ⊢
  rw [e]
  rfl
/-- the law's own -/
def lc (s t p : SP) : Int × Int := let a := 2 * (t.a - s.a); let b := t.b - s.b - t.d + s.d; let c := 2 * (t.c - s.c); let d := t.b - s.b + t.d - s.d
  (a * (2 * p.c) + 2 * b * (p.b + p.d) - c * (2 * p.a) - 2 * d * (p.b - p.d), a * (p.b + p.d) + b * (2 * p.c) - c * (p.b - p.d) - d * (2 * p.a))
theorem lcT {s t p : SP} (hp : bd 100000 p) : t_law_cross s t p = .ok (lc s t p) := by
  have m : ∀ z : Int, tmulI 2 z = .ok (2 * z) := fun z => tmulI_l .lit
  have c1 : ∀ z, tmulI z (2 * p.c) = .ok (z * (2 * p.c)) := fun z => m64 (by unfold bd at hp; omega)
  have c2 : ∀ z, tmulI z (p.b + p.d) = .ok (z * (p.b + p.d)) := fun z => m64 (by unfold bd at hp; omega)
  have c3 : ∀ z, tmulI z (2 * p.a) = .ok (z * (2 * p.a)) := fun z => m64 (by unfold bd at hp; omega)
  have c4 : ∀ z, tmulI z (p.b - p.d) = .ok (z * (p.b - p.d)) := fun z => m64 (by unfold bd at hp; omega)
  simp only [t_law_cross, b1_ap, b2_ap, R.bind_ok, R.tr_ok, pj_ap, m, c1, c2, c3, c4, taddI_ap, tsubI_ap, mk2_ap, TR.fn_rt, lc]
theorem lc_sub (s t p q : SP) : ((lc s t p).1 - (lc s t q).1, (lc s t p).2 - (lc s t q).2) = cr (mi t s) (mi p q) := by
  unfold lc cr mi
  dsimp only
  refine Prod.ext ?_ ?_
  · dsimp only; grind
  · dsimp only; grind
theorem cr_end (s t p : SP) : cr (mi t s) (mi p t) = cr (mi t s) (mi p s) := by
  unfold cr mi
  dsimp only
  refine Prod.ext ?_ ?_
  · dsimp only; grind
  · dsimp only; grind
theorem greatT (xs : List (Int × Int)) (hne : xs ≠ []) (hs : ∀ x ∈ xs, ∀ y ∈ xs, smS (x.1 - y.1, x.2 - y.2)) : ∃ g ∈ xs, t_law_greatest xs = .ok g ∧ ∀ x ∈ xs, sgS (x.1 - g.1) (x.2 - g.2) ≤ 0 := by
  have h0 : xs[0]? = some (xs[0]'(List.length_pos_iff.mpr hne)) := by simp
  have i0 : tidx xs 0 = .ok (xs[0]'(List.length_pos_iff.mpr hne)) := tidx_of (k := 0) rfl h0
  obtain ⟨g, e1, e2, e3⟩ := forT_ix (l := Empty) (β := Int × Int) (f := fun surd best => t_law_greatest_1 surd best) (fun i b => b ∈ xs ∧ ∀ j x, j < i → xs[j]? = some x → sgS (x.1 - b.1) (x.2 - b.2) ≤ 0) xs 0 (xs[0]'(List.length_pos_iff.mpr hne)) ⟨List.getElem_mem _, fun j x hj => by omega⟩ (fun i a b ha hb => by
    have ham := List.mem_of_getElem? ha
    have e := lawsgT (hs a ham b hb.1)
    by_cases c : 0 < sgS (a.1 - b.1) (a.2 - b.2)
    · refine ⟨a, .inl (by simp [t_law_greatest_1, e, c]), ham, fun j x hj hx => ?_⟩
      by_cases q : j < 0 + i
      · have h1 := hb.2 j x q hx
        have h2 : sgS (b.1 - a.1) (b.2 - a.2) ≤ 0 := by
          rw [show b.1 - a.1 = -(a.1 - b.1) by omega, show b.2 - a.2 = -(a.2 - b.2) by omega, sgS_neg]; omega
        have := sg_le_add h1 h2
        rwa [show x.1 - b.1 + (b.1 - a.1) = x.1 - a.1 by omega, show x.2 - b.2 + (b.2 - a.2) = x.2 - a.2 by omega] at this
      · have : j = i := by omega
        subst this
        rw [ha] at hx
        injection hx with hx
        subst hx
        rw [Int.sub_self, Int.sub_self]
        decide
    · refine ⟨b, .inl (by simp [t_law_greatest_1, e, c]), hb.1, fun j x hj hx => ?_⟩
      by_cases q : j < 0 + i
      · exact hb.2 j x q hx
      · have : j = i := by omega
        subst this
        rw [ha] at hx
        injection hx with hx
        subst hx
        omega)
  refine ⟨g, e2, by simp [t_law_greatest, i0, e1], fun x hx => ?_⟩
  obtain ⟨j, hj, rfl⟩ := List.getElem_of_mem hx
  exact e3 j _ (by omega) (by simp)
/-! what is said of two rooms -/
def zz : SP := ⟨0, 0, 0, 0⟩
def nth (xs : List SP) (k : Nat) : SP := xs.getD k zz
def prv (xs : List SP) (k : Nat) : SP := xs.getD (if k = 0 then xs.length - 1 else k - 1) zz
def leS (p : Int × Int) : Bool := decide (sgS p.1 p.2 ≤ 0)
def outB (room : List SP) (s t : SP) : Bool := room.all fun c => leS (cr (mi t s) (mi c s))
def divB (one other : List SP) : Bool := (List.range one.length).any fun k => outB other (prv one k) (nth one k)
def ov (one other : List SP) : Bool := !divB one other && !divB other one
structure Rm (B : Int) (xs : List SP) : Prop where
  ne : xs ≠ []
  few : xs.length ≤ 100
  bd : ∀ p ∈ xs, bd B p
theorem nth_mem {xs : List SP} {k : Nat} (h : k < xs.length) : nth xs k ∈ xs := by unfold nth; simp [h]
theorem prv_mem {xs : List SP} {k : Nat} (h : k < xs.length) : prv xs k ∈ xs := by
  unfold prv
  have : (if k = 0 then xs.length - 1 else k - 1) < xs.length := by split <;> omega
  simp [this]
theorem nth_ix {xs : List SP} {k : Nat} (h : k < xs.length) : tidx xs (k : Int) = .ok (nth xs k) := tidx_nat (by unfold nth; simp [h])
theorem prv_ix {xs : List SP} {k : Nat} (h : k < xs.length) : tidx xs ((k : Int) - 1) = .ok (prv xs k) := by
  unfold prv
  by_cases hk : k = 0
  · subst hk
    exact tidx_last (by rw [List.getLast?_eq_getElem?]; simp [show xs.length - 1 < xs.length by omega])
  · rw [if_neg hk]
    exact tidx_of (k := k - 1) (by omega) (by simp [show k - 1 < xs.length by omega])
theorem outT {room : List SP} {s t : SP} (h : ∀ p ∈ room, bd 100000 p) (hs : bd 100000 s) (ht : bd 100000 t) : t_lies_outside room s t = .ok (outB room s t) := by
  have e := tmap_ok (f := fun corner => b2 tleI (t_turn_sign s t corner) (R.ok (0 : Int))) (fun c => leS (cr (mi t s) (mi c s))) (xs := room) (fun c hc => by
    rw [tsT hs ht (h c hc)]; rfl)
  simp only [b2_ap, R.bind_ok, tleI_ap] at e
  simp [t_lies_outside, e, outB, List.all_map, Function.comp_def]
theorem divT {one other : List SP} (h1 : Rm 100000 one) (h2 : Rm 100000 other) : t_has_dividing_edge one other = .ok (divB one other) := by
  have tr := trange1_nat (show one.length ≤ 16777216 by have := h1.few; omega)
  have ck := forT_chk (l := Empty) (β := Bool) (f := fun k (_ : Unit) => t_has_dividing_edge_1 one other k) (fun k => outB other (prv one k.toNat) (nth one k.toNat)) true (s := ()) (xs := rangeI 0 one.length) (fun a ha => by
    obtain ⟨k, hk, rfl⟩ := rangeI_mem.mp ha
    rw [Int.zero_add, Int.toNat_natCast]
    have e := outT h2.bd (h1.bd _ (prv_mem hk)) (h1.bd _ (nth_mem hk))
    have i1 := prv_ix hk
    have i2 := nth_ix hk
    exact ⟨fun c => by simp [t_has_dividing_edge_1, i1, i2, e, c], fun c => .inl (by simp [t_has_dividing_edge_1, i1, i2, e, c])⟩)
  have : (rangeI 0 one.length).any (fun k => outB other (prv one k.toNat) (nth one k.toNat)) = divB one other := by
    unfold rangeI divB
    rw [List.any_map]
    congr 1
    funext k
    simp
  rw [this] at ck
  cases hd : divB one other with
  | true => rw [hd] at ck; simp [t_has_dividing_edge, tr, ck]
  | false => rw [hd] at ck; simp [t_has_dividing_edge, tr, ck]
theorem partT {one other : List SP} (h1 : Rm 100000 one) (h2 : Rm 100000 other) : t_law_parted one other = .ok (divB one other) := by
  have tr := trange1_nat (show one.length ≤ 16777216 by have := h1.few; omega)
  have ck := forT_chk (l := Empty) (β := Bool) (f := fun k (_ : Unit) => t_law_parted_2 one other k) (fun k => outB other (prv one k.toNat) (nth one k.toNat)) true (s := ()) (xs := rangeI 0 one.length) (fun a ha => by
    obtain ⟨k, hk, rfl⟩ := rangeI_mem.mp ha
    rw [Int.zero_add, Int.toNat_natCast]
    have i1 := prv_ix hk
    have i2 := nth_ix hk
    have bs := h1.bd _ (prv_mem hk)
    have bt := h1.bd _ (nth_mem hk)
    generalize prv one k = s at i1 bs
    generalize nth one k = t at i2 bt
    have mp := tmap_ok (f := fun spot => t_law_cross s t spot) (fun p => lc s t p) (xs := other) (fun p hp => lcT (h2.bd p hp))
    have dsm : ∀ p q : SP, bd 100000 p → bd 100000 q → smS ((lc s t p).1 - (lc s t q).1, (lc s t p).2 - (lc s t q).2) := fun p q hp hq => by
      rw [lc_sub]
      exact cr_sm (bd_mi bt bs) (bd_mi hp hq)
    obtain ⟨g, hg, e1, e2⟩ := greatT (other.map (lc s t)) (by simp [h2.ne]) (fun x hx y hy => by
      obtain ⟨p, hp, rfl⟩ := List.mem_map.mp hx
      obtain ⟨q, hq, rfl⟩ := List.mem_map.mp hy
      exact dsm p q (h2.bd p hp) (h2.bd q hq))
    obtain ⟨m, hm, rfl⟩ := List.mem_map.mp hg
    have own := lcT (s := s) (t := t) bt
    have e3 := lawsgT (dsm m t (h2.bd m hm) bt)
    have sub : ∀ p, ((lc s t p).1 - (lc s t t).1, (lc s t p).2 - (lc s t t).2) = cr (mi t s) (mi p s) := fun p => by rw [lc_sub, cr_end]
    have key : sgS ((lc s t m).1 - (lc s t t).1) ((lc s t m).2 - (lc s t t).2) ≤ 0 ↔ outB other s t = true := by
      unfold outB leS
      rw [List.all_eq_true]
      constructor
      · intro h p hp
        rw [decide_eq_true_eq, ← sub p]
        dsimp only
        have := sg_le_add (e2 (lc s t p) (List.mem_map.mpr ⟨p, hp, rfl⟩)) h
        rwa [show (lc s t p).1 - (lc s t m).1 + ((lc s t m).1 - (lc s t t).1) = (lc s t p).1 - (lc s t t).1 by omega, show (lc s t p).2 - (lc s t m).2 + ((lc s t m).2 - (lc s t t).2) = (lc s t p).2 - (lc s t t).2 by omega] at this
      · intro h
        have := h m hm
        rw [decide_eq_true_eq, ← sub m] at this
        exact this
    exact ⟨fun c => by
      have := key.mpr c
      simp [t_law_parted_2, i1, i2, mp, e1, own, e3, this], fun c => .inl (by
      have : ¬ sgS ((lc s t m).1 - (lc s t t).1) ((lc s t m).2 - (lc s t t).2) ≤ 0 := fun z => by rw [key.mp z] at c; cases c
      simp [t_law_parted_2, i1, i2, mp, e1, own, e3, this])⟩)
  have : (rangeI 0 one.length).any (fun k => outB other (prv one k.toNat) (nth one k.toNat)) = divB one other := by
    unfold rangeI divB
    rw [List.any_map]
    congr 1
    funext k
    simp
  rw [this] at ck
  cases hd : divB one other with
  | true => rw [hd] at ck; simp [t_law_parted, tr, ck]
  | false => rw [hd] at ck; simp [t_law_parted, tr, ck]
theorem ovT {one other : List SP} (h1 : Rm 100000 one) (h2 : Rm 100000 other) : t_overlap one other = .ok (ov one other) := by
  unfold ov
  cases q1 : divB one other <;> cases q2 : divB other one <;> simp [t_overlap, divT h1 h2, divT h2 h1, q1, q2]
theorem ovlT {one other : List SP} (h1 : Rm 100000 one) (h2 : Rm 100000 other) : t_law_overlap one other = .ok (ov one other) := by
  unfold ov
  cases q1 : divB one other <;> cases q2 : divB other one <;> simp [t_law_overlap, partT h1 h2, partT h2 h1, q1, q2]
theorem ov_comm (one other : List SP) : ov one other = ov other one := by unfold ov; rw [Bool.and_comm]
/-! moved -/
theorem cr_r1 (u v : SP) : cr (r1 u) (r1 v) = cr u v := by
  unfold cr r1
  dsimp only
  refine Prod.ext ?_ ?_
  · dsimp only; grind
  · dsimp only; grind
theorem cr_rt (u v : SP) : ∀ n, cr (rt n u) (rt n v) = cr u v
  | 0 => rfl
  | n + 1 => (cr_r1 _ _).trans (cr_rt u v n)
theorem mi_pl (s p q : SP) : mi (pl s p) (pl s q) = mi p q := by simp [mi, pl]; omega
def mvd (s : SP) (n : Nat) (p : SP) : SP := pl s (rt n p)
theorem cr_mvd (x : SP) (n : Nat) (s t c : SP) : cr (mi (mvd x n t) (mvd x n s)) (mi (mvd x n c) (mvd x n s)) = cr (mi t s) (mi c s) := by
  unfold mvd
  rw [mi_pl, mi_pl, ← rt_mi, ← rt_mi, cr_rt]
theorem div_mvd (x : SP) (n : Nat) (one other : List SP) : divB (one.map (mvd x n)) (other.map (mvd x n)) = divB one other := by
  unfold divB
  rw [List.length_map, Bool.eq_iff_iff, List.any_eq_true, List.any_eq_true]
  have e : ∀ k, k < one.length → outB (other.map (mvd x n)) (prv (one.map (mvd x n)) k) (nth (one.map (mvd x n)) k) = outB other (prv one k) (nth one k) := fun k hk => by
    have e1 : nth (one.map (mvd x n)) k = mvd x n (nth one k) := by unfold nth; simp [hk]
    have e2 : prv (one.map (mvd x n)) k = mvd x n (prv one k) := by
      unfold prv
      have : (if k = 0 then one.length - 1 else k - 1) < one.length := by split <;> omega
      simp [this]
    rw [e1, e2]
    unfold outB
    rw [List.all_map]
    congr 1
    funext c
    simp only [Function.comp]
    rw [cr_mvd]
  constructor
  · rintro ⟨k, hk, h⟩
    exact ⟨k, hk, by rw [← e k (List.mem_range.mp hk)]; exact h⟩
  · rintro ⟨k, hk, h⟩
    exact ⟨k, hk, by rw [e k (List.mem_range.mp hk)]; exact h⟩
theorem ov_mvd (x : SP) (n : Nat) (one other : List SP) : ov (one.map (mvd x n)) (other.map (mvd x n)) = ov one other := by
  unfold ov; rw [div_mvd, div_mvd]
theorem movT (room : List SP) (x : SP) (k : Int) : t_law_moved room x k = .ok (room.map (mvd x (dir k))) := by
  have e := tmap_ok (f := fun corner => b2 t_law_plus (R.ok x) (t_law_turned corner k)) (mvd x (dir k)) (xs := room) (fun p _ => by rw [turnT]; simp only [b2_ap, R.bind_ok, plT]; rfl)
  simp only [b2_ap, R.bind_ok] at e
  simp [t_law_moved, e]
theorem rm_mvd {B C : Int} {xs : List SP} {x : SP} (n : Nat) (h : Rm B xs) (hx : bd C x) : Rm (C + B) (xs.map (mvd x n)) where
  ne := by simp [h.ne]
  few := by rw [List.length_map]; exact h.few
  bd := fun p hp => by
    obtain ⟨q, hq, rfl⟩ := List.mem_map.mp hp
    exact bd_pl hx (bd_rt n (h.bd q hq))
theorem Rm.mono {B C : Int} {xs : List SP} (h : Rm B xs) (g : B ≤ C) : Rm C xs := ⟨h.ne, h.few, fun p hp => bd_mono (h.bd p hp) g⟩
/-! straight ones -/
def ng (p : SP) : SP := ⟨-p.a, -p.b, -p.c, -p.d⟩
theorem rt_ng (p : SP) : ∀ n, rt n (ng p) = ng (rt n p)
  | 0 => rfl
  | n + 1 => (congrArg r1 (rt_ng p n)).trans (by show r1 (ng (rt n p)) = ng (r1 (rt n p)); simp [r1, ng])
theorem rt_zz : ∀ n, rt n zz = zz
  | 0 => rfl
  | n + 1 => (congrArg r1 (rt_zz n)).trans (by simp [r1, zz])
def base (L w : Int) : List SP := [⟨0, 0, -w, 0⟩, ⟨L, 0, -w, 0⟩, ⟨L, 0, w, 0⟩, ⟨0, 0, w, 0⟩]
theorem side_eq (k w : Int) : rt (dir (k + 2)) ⟨w, 0, 0, 0⟩ = rt (dir k) ⟨0, 0, w, 0⟩ := by
  rw [dir_add]
  congr 1
theorem srT (s : SP) (k L w : Int) : t_law_straight_room (s, k) L w = .ok ((base L w).map (mvd s (dir k))) := by
  have e1 := side_eq k w
  have x1 : mvd s (dir k) ⟨0, 0, -w, 0⟩ = mi s (rt (dir k) ⟨0, 0, w, 0⟩) := by
    have := rt_ng ⟨0, 0, w, 0⟩ (dir k)
    simp only [ng, Int.neg_zero] at this
    unfold mvd
    rw [this]
    simp [pl, mi]; omega
  have x2 : mvd s (dir k) ⟨L, 0, -w, 0⟩ = mi (pl s (rt (dir k) ⟨L, 0, 0, 0⟩)) (rt (dir k) ⟨0, 0, w, 0⟩) := by
    have h1 := rt_mi ⟨L, 0, 0, 0⟩ ⟨0, 0, w, 0⟩ (dir k)
    simp only [mi, Int.sub_zero, Int.zero_sub] at h1
    unfold mvd
    rw [h1]
    simp [pl, mi]; omega
  have x3 : mvd s (dir k) ⟨L, 0, w, 0⟩ = pl (pl s (rt (dir k) ⟨L, 0, 0, 0⟩)) (rt (dir k) ⟨0, 0, w, 0⟩) := by
    have h1 := rt_pl ⟨L, 0, 0, 0⟩ ⟨0, 0, w, 0⟩ (dir k)
    simp only [pl, Int.add_zero, Int.zero_add] at h1
    unfold mvd
    rw [h1]
    simp [pl]; omega
  have x4 : mvd s (dir k) ⟨0, 0, w, 0⟩ = pl s (rt (dir k) ⟨0, 0, w, 0⟩) := rfl
  simp [t_law_straight_room, rayT, e1, plT, miT, base, x1, x2, x3, x4]
theorem base_ck : ∀ L : Nat, L < 12 → ∀ w : Nat, w < 4 → ov (base (L + 1 : Int) (w + 1 : Int)) ((base (L + 1 : Int) (w + 1 : Int)).map (mvd ⟨0, 0, 2 * (w + 1 : Int), 0⟩ 0)) = false ∧ ov (base (L + 1 : Int) (w + 1 : Int)) ((base (L + 1 : Int) (w + 1 : Int)).map (mvd ⟨L + 1, 0, 0, 0⟩ 0)) = false ∧
    ov (base (L + 1 : Int) (w + 1 : Int)) ((base (L + 1 : Int) (w + 1 : Int)).map (mvd ⟨0, 0, 2 * (w + 1 : Int) - 1, 0⟩ 0)) = true ∧ ov (base (L + 1 : Int) (w + 1 : Int)) (base (L + 1 : Int) (w + 1 : Int)) = true := by decide +kernel
theorem mvd_mvd (s q : SP) (n : Nat) (xs : List SP) : (xs.map (mvd s n)).map (mvd (rt n q) 0) = (xs.map (mvd q 0)).map (mvd s n) := by
  rw [List.map_map, List.map_map]
  congr 1
  funext p
  simp only [Function.comp, mvd, rt]
  rw [rt_pl, ← pl_assoc, pl_comm (rt n q) s, pl_assoc]
theorem rm_base {L w : Int} (h : 0 ≤ L ∧ L ≤ 100) (g : 0 ≤ w ∧ w ≤ 100) : Rm 100 (base L w) where
  ne := by simp [base]
  few := by simp [base]
  bd := fun p hp => by
    simp only [base, List.mem_cons, List.not_mem_nil, or_false] at hp
    rcases hp with rfl | rfl | rfl | rfl <;> (unfold bd; dsimp only; omega)
/-! ### the drawn rooms -/
theorem sLL : teq ("left" : Str) "left" = .ok true := teq_rfl (show PyData.strOk _ = true by decide +kernel)
theorem sRL : teq ("right" : Str) "left" = .ok false := (teq_ok (show PyData.strOk _ = true by decide +kernel) (show PyData.strOk _ = true by decide +kernel)).trans (congrArg R.ok (decide_eq_false (by decide +kernel)))
theorem sCC : teq ("curve" : Str) "curve" = .ok true := teq_rfl (show PyData.strOk _ = true by decide +kernel)
theorem curT (s : SP) (k r w : Int) (side : Str) (hs : side = "left" ∨ side = "right") (hk : 0 ≤ r ∧ r ≤ 1000) (hw : 0 ≤ w ∧ w ≤ 100) (hb : bd 10000 s) : ∃ xs, t_law_curve_room (s, k) r side w = .ok xs ∧ Rm 50000 xs := by
  have bt : ∀ n : Nat, bd 100 (rt n ⟨w, 0, 0, 0⟩) := fun n => bd_rt n (by unfold bd; dsimp only; omega)
  have bz : ∀ n : Nat, bd 2000 (rt n ⟨0 - (r + w), r + w, 0, 0 - (r + w)⟩) := fun n => bd_rt n (by unfold bd; dsimp only; omega)
  rcases hs with rfl | rfl
  · have be : ∀ n : Nat, bd 1000 (rt n ⟨0, 0, r, -r⟩) := fun n => bd_rt n (by unfold bd; dsimp only; omega)
    have e1 : t_law_end ⟨"curve", r, "left"⟩ 1 = .ok (⟨0, 0, r, -r⟩, 1) := by simp [t_law_end, sCC, sLL]
    have e2 : t_law_then (s, k) (⟨0, 0, r, -r⟩, 1) = .ok (pl s (rt (dir k) ⟨0, 0, r, -r⟩), (k + 1) % 8) := by simp [t_law_then, turnT, plT]
    refine ⟨_, by simp [t_law_curve_room, e1, e2, rayT, turnT, sLL, miT, plT]; rfl, by simp, by simp, fun p hp => ?_⟩
    simp only [List.mem_cons, List.not_mem_nil, or_false] at hp
    have f := bd_pl hb (be (dir k))
    rcases hp with rfl | rfl | rfl | rfl | rfl
    · exact bd_mono (bd_mi hb (bt _)) (by decide)
    · exact bd_mono (bd_pl (bd_mi hb (bt _)) (bd_rt _ (by unfold bd; dsimp only; omega : bd 2000 _))) (by decide)
    · exact bd_mono (bd_mi f (bt _)) (by decide)
    · exact bd_mono (bd_pl f (bt _)) (by decide)
    · exact bd_mono (bd_pl hb (bt _)) (by decide)
  · have be : ∀ n : Nat, bd 1000 (rt n ⟨0, r, -r, 0⟩) := fun n => bd_rt n (by unfold bd; dsimp only; omega)
    have e1 : t_law_end ⟨"curve", r, "right"⟩ 1 = .ok (⟨0, r, -r, 0⟩, 7) := by simp [t_law_end, sCC, sRL]
    have e2 : t_law_then (s, k) (⟨0, r, -r, 0⟩, 7) = .ok (pl s (rt (dir k) ⟨0, r, -r, 0⟩), (k + 7) % 8) := by simp [t_law_then, turnT, plT]
    refine ⟨_, by simp [t_law_curve_room, e1, e2, rayT, turnT, sRL, miT, plT]; rfl, by simp, by simp, fun p hp => ?_⟩
    simp only [List.mem_cons, List.not_mem_nil, or_false] at hp
    have f := bd_pl hb (be (dir k))
    rcases hp with rfl | rfl | rfl | rfl | rfl
    · exact bd_mono (bd_mi hb (bt _)) (by decide)
    · exact bd_mono (bd_mi f (bt _)) (by decide)
    · exact bd_mono (bd_pl f (bt _)) (by decide)
    · exact bd_mono (bd_pl (bd_pl hb (bt _)) (bd_rt _ (by unfold bd; dsimp only; omega : bd 2000 _))) (by decide)
    · exact bd_mono (bd_pl hb (bt _)) (by decide)
theorem strT {s : SP} {k L w : Int} (hs : bd 10000 s) (h : 0 ≤ L ∧ L ≤ 100) (g : 0 ≤ w ∧ w ≤ 100) : Rm 50000 ((base L w).map (mvd s (dir k))) := (rm_mvd _ (rm_base h g) hs).mono (by decide)
theorem roomT (ds : List Int) (hd : Dr 20 5040 ds) (a : Nat) (ha : a ≤ 7) (w : Int) (hw : 0 ≤ w ∧ w ≤ 50) : ∃ xs, t_law_room ds (a : Int) w = .ok xs ∧ Rm 50000 xs := by
  obtain ⟨d0, i0, _, _⟩ := hd.ix (a : Int)
  obtain ⟨d1, i1, _, _⟩ := hd.ix ((a : Int) + 1)
  obtain ⟨d2, i2, _, _⟩ := hd.ix ((a : Int) + 2)
  obtain ⟨d3, i3, _, _⟩ := hd.ix ((a : Int) + 3)
  obtain ⟨d4, i4, _, _⟩ := hd.ix ((a : Int) + 4)
  obtain ⟨d5, i5, z5, _⟩ := hd.ix ((a : Int) + 5)
  obtain ⟨d6, i6, _, _⟩ := hd.ix ((a : Int) + 6)
  have hb : bd 10000 ⟨d0 % 9 - 4, d1 % 9 - 4, d2 % 9 - 4, d3 % 9 - 4⟩ := by unfold bd; dsimp only; omega
  by_cases c : d5 % 2 = 0
  · refine ⟨_, by simp [t_law_room, i0, i1, i2, i3, i4, i5, i6, c, srT]; rfl, strT hb (by omega) (by omega)⟩
  · have f2 : tfdivI d5 2 = .ok (d5 / 2) := tfdivI_pos (by omega) (by decide)
    obtain ⟨side, hside, e⟩ : ∃ side : Str, (side = "left" ∨ side = "right") ∧ tidx [("left" : Str), "right"] (d5 / 2 % 2) = .ok side := by
      rcases Int.emod_two_eq (d5 / 2) with q | q
      · exact ⟨_, .inl rfl, by rw [q]; simp⟩
      · exact ⟨_, .inr rfl, by rw [q]; simp⟩
    obtain ⟨xs, e1, e2⟩ := curT ⟨d0 % 9 - 4, d1 % 9 - 4, d2 % 9 - 4, d3 % 9 - 4⟩ (d4 % 8) (w + 1 + d6 % 12) w side hside (by omega) (by omega) hb
    exact ⟨xs, by simp [t_law_room, i0, i1, i2, i3, i4, i5, i6, c, f2, e, e1], e2⟩
/-! ### the law -/
theorem same_b (b : Bool) : t_law_same 10 (Enc.e b) (Enc.e b) = .ok true := sameT 10 _ trivial
theorem okR {B : Int} {xs : List SP} (h : Rm B xs) : teq xs xs = .ok true := teq_rfl ⟨by have := h.few; omega, fun p _ => ⟨trivial, trivial, trivial, trivial⟩⟩
theorem agreeT {one other : List SP} (h1 : Rm 100000 one) (h2 : Rm 100000 other) : t_law_agrees one other = .ok true := by
  have e1 := ovT h1 h2
  have e2 := ovT h2 h1
  have e3 := ovlT h1 h2
  rw [ov_comm other one] at e2
  simp [t_law_agrees, e1, e2, e3, same_b, okR h1, okR h2]
theorem pairT (ds : List Int) (d19 : Int) (i19 : tidx ds 19 = .ok d19) (far : SP) (hf : bd 10000 far) {one other : List SP} (h1 : Rm 80000 one) (h2 : Rm 80000 other) : (t_law_1 ds far (one, other)).go () := by
  have a1 := h1.mono (show (80000 : Int) ≤ 100000 by decide)
  have a2 := h2.mono (show (80000 : Int) ≤ 100000 by decide)
  have e1 := agreeT a1 a2
  have e2 := ovlT a1 a2
  have e3 := ovT ((rm_mvd (dir d19) h1 hf).mono (show (10000 + 80000 : Int) ≤ 100000 by decide)) ((rm_mvd (dir d19) h2 hf).mono (by decide))
  rw [ov_mvd] at e3
  exact .inl (by simp [t_law_1, e1, e2, i19, movT, e3])
theorem law3T (ns : List Int) (a : Nat) : (t_law_3 ns (a : Int)).go () := by
  obtain ⟨ds, hd, e1⟩ := numbersT (ns.getD a 0) 20 20 5040 rfl (by omega) (by omega) (by decide)
  have c0 := cellT ns a
  obtain ⟨d0, i0, z0, y0⟩ := hd.ix 0
  obtain ⟨d1, i1, z1, y1⟩ := hd.ix 1
  obtain ⟨d2, i2, z2, y2⟩ := hd.ix 2
  obtain ⟨d3, i3, z3, y3⟩ := hd.ix 3
  obtain ⟨d4, i4, z4, y4⟩ := hd.ix 4
  obtain ⟨d6, i6, z6, y6⟩ := hd.ix 6
  obtain ⟨d14, i14, z14, y14⟩ := hd.ix 14
  obtain ⟨d15, i15, z15, y15⟩ := hd.ix 15
  obtain ⟨d16, i16, z16, y16⟩ := hd.ix 16
  obtain ⟨d17, i17, z17, y17⟩ := hd.ix 17
  obtain ⟨d18, i18, z18, y18⟩ := hd.ix 18
  obtain ⟨d19, i19, z19, y19⟩ := hd.ix 19
  obtain ⟨w, hw⟩ : ∃ w : Nat, d14 % 4 = w := ⟨(d14 % 4).toNat, by omega⟩
  obtain ⟨L, hL⟩ : ∃ L : Nat, d6 % 12 = L := ⟨(d6 % 12).toNat, by omega⟩
  have hw4 : w < 4 := by omega
  have hL12 : L < 12 := by omega
  obtain ⟨one, r1', g1⟩ := roomT ds hd 0 (by omega) (1 + (w : Int)) (by omega)
  obtain ⟨oth, r2', g2⟩ := roomT ds hd 7 (by omega) (1 + (w : Int)) (by omega)
  have r1'' : t_law_room ds 0 (1 + (w : Int)) = .ok one := r1'
  have r2'' : t_law_room ds 7 (1 + (w : Int)) = .ok oth := r2'
  have hf : bd 10000 ⟨d15 - 2000, d16, d17 - 999, d18⟩ := by unfold bd; dsimp only; omega
  have hz : bd 0 ⟨0, 0, 0, 0⟩ := by unfold bd; dsimp only; omega
  have k1 := g1.mono (show (50000 : Int) ≤ 80000 by decide)
  have k2 := g2.mono (show (50000 : Int) ≤ 80000 by decide)
  have p1 := pairT ds d19 i19 _ hf k1 k2
  have p2 := pairT ds d19 i19 _ hf k1 k1
  have p3 := pairT ds d19 i19 _ hf k1 ((rm_mvd (dir d19) g2 hz).mono (by decide))
  have p4 := pairT ds d19 i19 _ hf k2 ((rm_mvd (dir 0) g1 hf).mono (by decide))
  have f1 := forT_pass (l := Unit) (β := Bool) (f := fun pair (_ : Unit) => t_law_1 ds ⟨d15 - 2000, d16, d17 - 999, d18⟩ pair) (s := ()) (xs := [(one, oth), (one, one), (one, oth.map (mvd ⟨0, 0, 0, 0⟩ (dir d19))), (oth, one.map (mvd ⟨d15 - 2000, d16, d17 - 999, d18⟩ (dir 0)))]) (fun x hx => by
    simp only [List.mem_cons, List.not_mem_nil, or_false] at hx
    rcases hx with rfl | rfl | rfl | rfl
    · exact p1
    · exact p2
    · exact p3
    · exact p4)
  -- tracks side by side
  obtain ⟨q1, q2, q3, q4⟩ := base_ck L hL12 w hw4
  have hs : bd 10000 ⟨d0, d1, d2, d3⟩ := by unfold bd; dsimp only; omega
  have bs := rm_base (L := 1 + (L : Int)) (w := 1 + (w : Int)) (by omega) (by omega)
  have cL : (L : Int) + 1 = 1 + (L : Int) := by omega
  have cw : (w : Int) + 1 = 1 + (w : Int) := by omega
  rw [cL, cw] at q1 q2 q3 q4
  have tk := (rm_mvd (dir (d4 % 8)) bs hs).mono (show (10000 + 100 : Int) ≤ 100000 by decide)
  have sd : ∀ (q : SP), bd 1000 q → ∀ b, ov (base (1 + (L : Int)) (1 + (w : Int))) ((base (1 + (L : Int)) (1 + (w : Int))).map (mvd q 0)) = b → t_law_2 ((base (1 + (L : Int)) (1 + (w : Int))).map (mvd ⟨d0, d1, d2, d3⟩ (dir (d4 % 8)))) (((base (1 + (L : Int)) (1 + (w : Int))).map (mvd ⟨d0, d1, d2, d3⟩ (dir (d4 % 8)))).map (mvd (rt (dir (d4 % 8)) q) (dir 0))) b = .nx () := fun q hq b hb => by
    have e := ovT tk ((rm_mvd (dir 0) (rm_mvd (dir (d4 % 8)) bs hs) (bd_rt (dir (d4 % 8)) hq)).mono (show (1000 + (10000 + 100) : Int) ≤ 100000 by decide))
    rw [show dir 0 = 0 from rfl] at e ⊢
    rw [mvd_mvd, ov_mvd, hb] at e
    rw [mvd_mvd]
    simp [t_law_2, e, same_b, -List.map_map]
  have s1 := sd ⟨0, 0, 2 * (1 + (w : Int)), 0⟩ (by unfold bd; dsimp only; omega) _ q1
  have s2 := sd ⟨1 + (L : Int), 0, 0, 0⟩ (by unfold bd; dsimp only; omega) _ q2
  have s3 := sd ⟨0, 0, 2 * (1 + (w : Int)) - 1, 0⟩ (by unfold bd; dsimp only; omega) _ q3
  have s4 : t_law_2 ((base (1 + (L : Int)) (1 + (w : Int))).map (mvd ⟨d0, d1, d2, d3⟩ (dir (d4 % 8)))) ((base (1 + (L : Int)) (1 + (w : Int))).map (mvd ⟨d0, d1, d2, d3⟩ (dir (d4 % 8)))) true = .nx () := by
    have e := ovT tk tk
    rw [ov_mvd, q4] at e
    simp [t_law_2, e, same_b]
  have m2 : tmulI 2 (1 + (w : Int)) = .ok (2 * (1 + (w : Int))) := tmulI_l .lit
  have hm4 : tmodI d14 4 = .ok (w : Int) := by rw [tmodI_pos (by omega), hw]
  have hm12 : tmodI d6 12 = .ok (L : Int) := by rw [tmodI_pos (by omega), hL]
  have hm8 : tmodI d4 8 = .ok (d4 % 8) := tmodI_pos (by omega)
  have ra1 := side_eq (d4 % 8) (2 * (1 + (w : Int)))
  have ra3 := side_eq (d4 % 8) (2 * (1 + (w : Int)) - 1)
  refine .inl ?_
  simp only [t_law_3, b1_ap, b2_ap, b3_ap, b4_ap, R.bind_ok, R.tr_ok, c0, e1, i0, i1, i2, i3, i4, i6, i14, i15, i16, i17, i18, i19, hm4, hm12, hm8, taddI_ap, tsubI_ap, r1'', r2'', mk2_ap, mk4_ap, movT, tcons_ap, f1, TR.bind_nx, srT, m2, pj_ap, rayT, ra1, ra3]
  rw [forT_nx s1, forT_nx s2, forT_nx s3, forT_nx s4]
  rfl
theorem mathT : ∀ ns : List Int, ns.length ≤ 63 → t_law ns = .ok true := fun ns _ => by
  have tr : trange1 4 = .ok (rangeI 0 4) := trange1_of (n := 4) rfl (by decide)
  have e := forT_pass (l := Empty) (β := Bool) (f := fun at_ (_ : Unit) => t_law_3 ns at_) (s := ()) (xs := rangeI 0 4) (fun a ha => by
    obtain ⟨k, hk, rfl⟩ := rangeI_mem.mp ha
    rw [Int.zero_add]
    exact law3T ns k)
  simp [t_law, tr, e]

theorem math : ∀ ns : List Int, ns.length ≤ 63 → m_law [.list (ns.map PyData.int)] = .ok (.bool true) := law_T mathT
end LW
namespace LW
open PySem PySem.Spec PyProof.Rows L2 VL
theorem txt_mk {K : PySem.W.Frag} {h : Heap} {mg : Str → Option Value} (X : K.In h) (G : h.Ns mainGlobals mg)
    {f1 : Addr} {od1 an1 : Option Addr} {sl1 : Array (Option Value)} {oc1 kV1 dc1 pm1 cd1 ct1 : Value}
    (a1 : PySem.W.nsIn K mainGlobals "spot_less" = some (some (.ref f1)))
    (l1 : K.lookup f1 = some ⟨oc1, od1, .func (PySem.W.fnOf "spot_less" "spot_less" (defArgs s_spot_less) (defBody s_spot_less) (defScope s_spot_less) .none kV1 dc1 pm1 an1 cd1 ct1), sl1⟩) (c1 : PySem.W.codeIn K cd1 "spot_less" = true) (k1 : PySem.W.keepIn K (.ref f1) = true)
    {f2 : Addr} {od2 an2 : Option Addr} {sl2 : Array (Option Value)} {oc2 kV2 dc2 pm2 cd2 ct2 : Value}
    (a2 : PySem.W.nsIn K mainGlobals "doubled" = some (some (.ref f2)))
    (l2 : K.lookup f2 = some ⟨oc2, od2, .func (PySem.W.fnOf "doubled" "doubled" (defArgs s_doubled) (defBody s_doubled) (defScope s_doubled) .none kV2 dc2 pm2 an2 cd2 ct2), sl2⟩) (c2 : PySem.W.codeIn K cd2 "doubled" = true) (k2 : PySem.W.keepIn K (.ref f2) = true)
    {f3 : Addr} {od3 an3 : Option Addr} {sl3 : Array (Option Value)} {oc3 kV3 dc3 pm3 cd3 ct3 : Value}
    (a3 : PySem.W.nsIn K mainGlobals "number_sign" = some (some (.ref f3)))
    (l3 : K.lookup f3 = some ⟨oc3, od3, .func (PySem.W.fnOf "number_sign" "number_sign" (defArgs s_number_sign) (defBody s_number_sign) (defScope s_number_sign) .none kV3 dc3 pm3 an3 cd3 ct3), sl3⟩) (c3 : PySem.W.codeIn K cd3 "number_sign" = true) (k3 : PySem.W.keepIn K (.ref f3) = true)
    {f4 : Addr} {od4 an4 : Option Addr} {sl4 : Array (Option Value)} {oc4 kV4 dc4 pm4 cd4 ct4 : Value}
    (a4 : PySem.W.nsIn K mainGlobals "surd_sign" = some (some (.ref f4)))
    (l4 : K.lookup f4 = some ⟨oc4, od4, .func (PySem.W.fnOf "surd_sign" "surd_sign" (defArgs s_surd_sign) (defBody s_surd_sign) (defScope s_surd_sign) .none kV4 dc4 pm4 an4 cd4 ct4), sl4⟩) (c4 : PySem.W.codeIn K cd4 "surd_sign" = true) (k4 : PySem.W.keepIn K (.ref f4) = true)
    {f5 : Addr} {od5 an5 : Option Addr} {sl5 : Array (Option Value)} {oc5 kV5 dc5 pm5 cd5 ct5 : Value}
    (a5 : PySem.W.nsIn K mainGlobals "surd_sum" = some (some (.ref f5)))
    (l5 : K.lookup f5 = some ⟨oc5, od5, .func (PySem.W.fnOf "surd_sum" "surd_sum" (defArgs s_surd_sum) (defBody s_surd_sum) (defScope s_surd_sum) .none kV5 dc5 pm5 an5 cd5 ct5), sl5⟩) (c5 : PySem.W.codeIn K cd5 "surd_sum" = true) (k5 : PySem.W.keepIn K (.ref f5) = true)
    {f6 : Addr} {od6 an6 : Option Addr} {sl6 : Array (Option Value)} {oc6 kV6 dc6 pm6 cd6 ct6 : Value}
    (a6 : PySem.W.nsIn K mainGlobals "surd_opposite" = some (some (.ref f6)))
    (l6 : K.lookup f6 = some ⟨oc6, od6, .func (PySem.W.fnOf "surd_opposite" "surd_opposite" (defArgs s_surd_opposite) (defBody s_surd_opposite) (defScope s_surd_opposite) .none kV6 dc6 pm6 an6 cd6 ct6), sl6⟩) (c6 : PySem.W.codeIn K cd6 "surd_opposite" = true) (k6 : PySem.W.keepIn K (.ref f6) = true)
    {f7 : Addr} {od7 an7 : Option Addr} {sl7 : Array (Option Value)} {oc7 kV7 dc7 pm7 cd7 ct7 : Value}
    (a7 : PySem.W.nsIn K mainGlobals "surd_product" = some (some (.ref f7)))
    (l7 : K.lookup f7 = some ⟨oc7, od7, .func (PySem.W.fnOf "surd_product" "surd_product" (defArgs s_surd_product) (defBody s_surd_product) (defScope s_surd_product) .none kV7 dc7 pm7 an7 cd7 ct7), sl7⟩) (c7 : PySem.W.codeIn K cd7 "surd_product" = true) (k7 : PySem.W.keepIn K (.ref f7) = true)
    {f8 : Addr} {od8 an8 : Option Addr} {sl8 : Array (Option Value)} {oc8 kV8 dc8 pm8 cd8 ct8 : Value}
    (a8 : PySem.W.nsIn K mainGlobals "turn_sign" = some (some (.ref f8)))
    (l8 : K.lookup f8 = some ⟨oc8, od8, .func (PySem.W.fnOf "turn_sign" "turn_sign" (defArgs s_turn_sign) (defBody s_turn_sign) (defScope s_turn_sign) .none kV8 dc8 pm8 an8 cd8 ct8), sl8⟩) (c8 : PySem.W.codeIn K cd8 "turn_sign" = true) (k8 : PySem.W.keepIn K (.ref f8) = true)
    {f9 : Addr} {od9 an9 : Option Addr} {sl9 : Array (Option Value)} {oc9 kV9 dc9 pm9 cd9 ct9 : Value}
    (a9 : PySem.W.nsIn K mainGlobals "lies_outside" = some (some (.ref f9)))
    (l9 : K.lookup f9 = some ⟨oc9, od9, .func (PySem.W.fnOf "lies_outside" "lies_outside" (defArgs s_lies_outside) (defBody s_lies_outside) (defScope s_lies_outside) .none kV9 dc9 pm9 an9 cd9 ct9), sl9⟩) (c9 : PySem.W.codeIn K cd9 "lies_outside" = true) (k9 : PySem.W.keepIn K (.ref f9) = true)
    {f10 : Addr} {od10 an10 : Option Addr} {sl10 : Array (Option Value)} {oc10 kV10 dc10 pm10 cd10 ct10 : Value}
    (a10 : PySem.W.nsIn K mainGlobals "has_dividing_edge" = some (some (.ref f10)))
    (l10 : K.lookup f10 = some ⟨oc10, od10, .func (PySem.W.fnOf "has_dividing_edge" "has_dividing_edge" (defArgs s_has_dividing_edge) (defBody s_has_dividing_edge) (defScope s_has_dividing_edge) .none kV10 dc10 pm10 an10 cd10 ct10), sl10⟩) (c10 : PySem.W.codeIn K cd10 "has_dividing_edge" = true) (k10 : PySem.W.keepIn K (.ref f10) = true)
    {f11 : Addr} {od11 an11 : Option Addr} {sl11 : Array (Option Value)} {oc11 kV11 dc11 pm11 cd11 ct11 : Value}
    (a11 : PySem.W.nsIn K mainGlobals "overlap" = some (some (.ref f11)))
    (l11 : K.lookup f11 = some ⟨oc11, od11, .func (PySem.W.fnOf "overlap" "overlap" (defArgs s_overlap) (defBody s_overlap) (defScope s_overlap) .none kV11 dc11 pm11 an11 cd11 ct11), sl11⟩) (c11 : PySem.W.codeIn K cd11 "overlap" = true) (k11 : PySem.W.keepIn K (.ref f11) = true)
    {f12 : Addr} {od12 an12 : Option Addr} {sl12 : Array (Option Value)} {oc12 kV12 dc12 pm12 cd12 ct12 : Value}
    (a12 : PySem.W.nsIn K mainGlobals "_law_cell" = some (some (.ref f12)))
    (l12 : K.lookup f12 = some ⟨oc12, od12, .func (PySem.W.fnOf "_law_cell" "_law_cell" (defArgs s_law_cell) (defBody s_law_cell) (defScope s_law_cell) .none kV12 dc12 pm12 an12 cd12 ct12), sl12⟩) (c12 : PySem.W.codeIn K cd12 "_law_cell" = true) (k12 : PySem.W.keepIn K (.ref f12) = true)
    {f13 : Addr} {od13 an13 : Option Addr} {sl13 : Array (Option Value)} {oc13 kV13 dc13 pm13 cd13 ct13 : Value}
    (a13 : PySem.W.nsIn K mainGlobals "_law_numbers" = some (some (.ref f13)))
    (l13 : K.lookup f13 = some ⟨oc13, od13, .func (PySem.W.fnOf "_law_numbers" "_law_numbers" (defArgs s_law_numbers) (defBody s_law_numbers) (defScope s_law_numbers) .none kV13 dc13 pm13 an13 cd13 ct13), sl13⟩) (c13 : PySem.W.codeIn K cd13 "_law_numbers" = true) (k13 : PySem.W.keepIn K (.ref f13) = true)
    {f14 : Addr} {od14 an14 : Option Addr} {sl14 : Array (Option Value)} {oc14 kV14 dc14 pm14 cd14 ct14 : Value}
    (a14 : PySem.W.nsIn K mainGlobals "_law_plus" = some (some (.ref f14)))
    (l14 : K.lookup f14 = some ⟨oc14, od14, .func (PySem.W.fnOf "_law_plus" "_law_plus" (defArgs s_law_plus) (defBody s_law_plus) (defScope s_law_plus) .none kV14 dc14 pm14 an14 cd14 ct14), sl14⟩) (c14 : PySem.W.codeIn K cd14 "_law_plus" = true) (k14 : PySem.W.keepIn K (.ref f14) = true)
    {f15 : Addr} {od15 an15 : Option Addr} {sl15 : Array (Option Value)} {oc15 kV15 dc15 pm15 cd15 ct15 : Value}
    (a15 : PySem.W.nsIn K mainGlobals "_law_turned" = some (some (.ref f15)))
    (l15 : K.lookup f15 = some ⟨oc15, od15, .func (PySem.W.fnOf "_law_turned" "_law_turned" (defArgs s_law_turned) (defBody s_law_turned) (defScope s_law_turned) .none kV15 dc15 pm15 an15 cd15 ct15), sl15⟩) (c15 : PySem.W.codeIn K cd15 "_law_turned" = true) (k15 : PySem.W.keepIn K (.ref f15) = true)
    {f16 : Addr} {od16 an16 : Option Addr} {sl16 : Array (Option Value)} {oc16 kV16 dc16 pm16 cd16 ct16 : Value}
    (a16 : PySem.W.nsIn K mainGlobals "_law_then" = some (some (.ref f16)))
    (l16 : K.lookup f16 = some ⟨oc16, od16, .func (PySem.W.fnOf "_law_then" "_law_then" (defArgs s_law_then) (defBody s_law_then) (defScope s_law_then) .none kV16 dc16 pm16 an16 cd16 ct16), sl16⟩) (c16 : PySem.W.codeIn K cd16 "_law_then" = true) (k16 : PySem.W.keepIn K (.ref f16) = true)
    {f17 : Addr} {od17 an17 : Option Addr} {sl17 : Array (Option Value)} {oc17 kV17 dc17 pm17 cd17 ct17 : Value}
    (a17 : PySem.W.nsIn K mainGlobals "_law_end" = some (some (.ref f17)))
    (l17 : K.lookup f17 = some ⟨oc17, od17, .func (PySem.W.fnOf "_law_end" "_law_end" (defArgs s_law_end) (defBody s_law_end) (defScope s_law_end) .none kV17 dc17 pm17 an17 cd17 ct17), sl17⟩) (c17 : PySem.W.codeIn K cd17 "_law_end" = true) (k17 : PySem.W.keepIn K (.ref f17) = true)
    {f18 : Addr} {od18 an18 : Option Addr} {sl18 : Array (Option Value)} {oc18 kV18 dc18 pm18 cd18 ct18 : Value}
    (a18 : PySem.W.nsIn K mainGlobals "_law_ray" = some (some (.ref f18)))
    (l18 : K.lookup f18 = some ⟨oc18, od18, .func (PySem.W.fnOf "_law_ray" "_law_ray" (defArgs s_law_ray) (defBody s_law_ray) (defScope s_law_ray) .none kV18 dc18 pm18 an18 cd18 ct18), sl18⟩) (c18 : PySem.W.codeIn K cd18 "_law_ray" = true) (k18 : PySem.W.keepIn K (.ref f18) = true)
    {f19 : Addr} {od19 an19 : Option Addr} {sl19 : Array (Option Value)} {oc19 kV19 dc19 pm19 cd19 ct19 : Value}
    (a19 : PySem.W.nsIn K mainGlobals "_law_minus" = some (some (.ref f19)))
    (l19 : K.lookup f19 = some ⟨oc19, od19, .func (PySem.W.fnOf "_law_minus" "_law_minus" (defArgs s_law_minus) (defBody s_law_minus) (defScope s_law_minus) .none kV19 dc19 pm19 an19 cd19 ct19), sl19⟩) (c19 : PySem.W.codeIn K cd19 "_law_minus" = true) (k19 : PySem.W.keepIn K (.ref f19) = true)
    {f20 : Addr} {od20 an20 : Option Addr} {sl20 : Array (Option Value)} {oc20 kV20 dc20 pm20 cd20 ct20 : Value}
    (a20 : PySem.W.nsIn K mainGlobals "_law_straight_room" = some (some (.ref f20)))
    (l20 : K.lookup f20 = some ⟨oc20, od20, .func (PySem.W.fnOf "_law_straight_room" "_law_straight_room" (defArgs s_law_straight_room) (defBody s_law_straight_room) (defScope s_law_straight_room) .none kV20 dc20 pm20 an20 cd20 ct20), sl20⟩) (c20 : PySem.W.codeIn K cd20 "_law_straight_room" = true) (k20 : PySem.W.keepIn K (.ref f20) = true)
    {f21 : Addr} {od21 an21 : Option Addr} {sl21 : Array (Option Value)} {oc21 kV21 dc21 pm21 cd21 ct21 : Value}
    (a21 : PySem.W.nsIn K mainGlobals "_law_curve_room" = some (some (.ref f21)))
    (l21 : K.lookup f21 = some ⟨oc21, od21, .func (PySem.W.fnOf "_law_curve_room" "_law_curve_room" (defArgs s_law_curve_room) (defBody s_law_curve_room) (defScope s_law_curve_room) .none kV21 dc21 pm21 an21 cd21 ct21), sl21⟩) (c21 : PySem.W.codeIn K cd21 "_law_curve_room" = true) (k21 : PySem.W.keepIn K (.ref f21) = true)
    {f22 : Addr} {od22 an22 : Option Addr} {sl22 : Array (Option Value)} {oc22 kV22 dc22 pm22 cd22 ct22 : Value}
    (a22 : PySem.W.nsIn K mainGlobals "_law_surd_sign" = some (some (.ref f22)))
    (l22 : K.lookup f22 = some ⟨oc22, od22, .func (PySem.W.fnOf "_law_surd_sign" "_law_surd_sign" (defArgs s_law_surd_sign) (defBody s_law_surd_sign) (defScope s_law_surd_sign) .none kV22 dc22 pm22 an22 cd22 ct22), sl22⟩) (c22 : PySem.W.codeIn K cd22 "_law_surd_sign" = true) (k22 : PySem.W.keepIn K (.ref f22) = true)
    {f23 : Addr} {od23 an23 : Option Addr} {sl23 : Array (Option Value)} {oc23 kV23 dc23 pm23 cd23 ct23 : Value}
    (a23 : PySem.W.nsIn K mainGlobals "_law_cross" = some (some (.ref f23)))
    (l23 : K.lookup f23 = some ⟨oc23, od23, .func (PySem.W.fnOf "_law_cross" "_law_cross" (defArgs s_law_cross) (defBody s_law_cross) (defScope s_law_cross) .none kV23 dc23 pm23 an23 cd23 ct23), sl23⟩) (c23 : PySem.W.codeIn K cd23 "_law_cross" = true) (k23 : PySem.W.keepIn K (.ref f23) = true)
    {f24 : Addr} {od24 an24 : Option Addr} {sl24 : Array (Option Value)} {oc24 kV24 dc24 pm24 cd24 ct24 : Value}
    (a24 : PySem.W.nsIn K mainGlobals "_law_greatest" = some (some (.ref f24)))
    (l24 : K.lookup f24 = some ⟨oc24, od24, .func (PySem.W.fnOf "_law_greatest" "_law_greatest" (defArgs s_law_greatest) (defBody s_law_greatest) (defScope s_law_greatest) .none kV24 dc24 pm24 an24 cd24 ct24), sl24⟩) (c24 : PySem.W.codeIn K cd24 "_law_greatest" = true) (k24 : PySem.W.keepIn K (.ref f24) = true)
    {f25 : Addr} {od25 an25 : Option Addr} {sl25 : Array (Option Value)} {oc25 kV25 dc25 pm25 cd25 ct25 : Value}
    (a25 : PySem.W.nsIn K mainGlobals "_law_parted" = some (some (.ref f25)))
    (l25 : K.lookup f25 = some ⟨oc25, od25, .func (PySem.W.fnOf "_law_parted" "_law_parted" (defArgs s_law_parted) (defBody s_law_parted) (defScope s_law_parted) .none kV25 dc25 pm25 an25 cd25 ct25), sl25⟩) (c25 : PySem.W.codeIn K cd25 "_law_parted" = true) (k25 : PySem.W.keepIn K (.ref f25) = true)
    {f26 : Addr} {od26 an26 : Option Addr} {sl26 : Array (Option Value)} {oc26 kV26 dc26 pm26 cd26 ct26 : Value}
    (a26 : PySem.W.nsIn K mainGlobals "_law_overlap" = some (some (.ref f26)))
    (l26 : K.lookup f26 = some ⟨oc26, od26, .func (PySem.W.fnOf "_law_overlap" "_law_overlap" (defArgs s_law_overlap) (defBody s_law_overlap) (defScope s_law_overlap) .none kV26 dc26 pm26 an26 cd26 ct26), sl26⟩) (c26 : PySem.W.codeIn K cd26 "_law_overlap" = true) (k26 : PySem.W.keepIn K (.ref f26) = true)
    {f27 : Addr} {od27 an27 : Option Addr} {sl27 : Array (Option Value)} {oc27 kV27 dc27 pm27 cd27 ct27 : Value}
    (a27 : PySem.W.nsIn K mainGlobals "_law_same" = some (some (.ref f27)))
    (l27 : K.lookup f27 = some ⟨oc27, od27, .func (PySem.W.fnOf "_law_same" "_law_same" (defArgs s_law_same) (defBody s_law_same) (defScope s_law_same) .none kV27 dc27 pm27 an27 cd27 ct27), sl27⟩) (c27 : PySem.W.codeIn K cd27 "_law_same" = true) (k27 : PySem.W.keepIn K (.ref f27) = true)
    {f28 : Addr} {od28 an28 : Option Addr} {sl28 : Array (Option Value)} {oc28 kV28 dc28 pm28 cd28 ct28 : Value}
    (a28 : PySem.W.nsIn K mainGlobals "_law_room" = some (some (.ref f28)))
    (l28 : K.lookup f28 = some ⟨oc28, od28, .func (PySem.W.fnOf "_law_room" "_law_room" (defArgs s_law_room) (defBody s_law_room) (defScope s_law_room) .none kV28 dc28 pm28 an28 cd28 ct28), sl28⟩) (c28 : PySem.W.codeIn K cd28 "_law_room" = true) (k28 : PySem.W.keepIn K (.ref f28) = true)
    {f29 : Addr} {od29 an29 : Option Addr} {sl29 : Array (Option Value)} {oc29 kV29 dc29 pm29 cd29 ct29 : Value}
    (a29 : PySem.W.nsIn K mainGlobals "_law_moved" = some (some (.ref f29)))
    (l29 : K.lookup f29 = some ⟨oc29, od29, .func (PySem.W.fnOf "_law_moved" "_law_moved" (defArgs s_law_moved) (defBody s_law_moved) (defScope s_law_moved) .none kV29 dc29 pm29 an29 cd29 ct29), sl29⟩) (c29 : PySem.W.codeIn K cd29 "_law_moved" = true) (k29 : PySem.W.keepIn K (.ref f29) = true)
    {f30 : Addr} {od30 an30 : Option Addr} {sl30 : Array (Option Value)} {oc30 kV30 dc30 pm30 cd30 ct30 : Value}
    (a30 : PySem.W.nsIn K mainGlobals "_law_agrees" = some (some (.ref f30)))
    (l30 : K.lookup f30 = some ⟨oc30, od30, .func (PySem.W.fnOf "_law_agrees" "_law_agrees" (defArgs s_law_agrees) (defBody s_law_agrees) (defScope s_law_agrees) .none kV30 dc30 pm30 an30 cd30 ct30), sl30⟩) (c30 : PySem.W.codeIn K cd30 "_law_agrees" = true) (k30 : PySem.W.keepIn K (.ref f30) = true)
    {f31 : Addr} {od31 an31 : Option Addr} {sl31 : Array (Option Value)} {oc31 kV31 dc31 pm31 cd31 ct31 : Value}
    (a31 : PySem.W.nsIn K mainGlobals "law" = some (some (.ref f31)))
    (l31 : K.lookup f31 = some ⟨oc31, od31, .func (PySem.W.fnOf "law" "law" (defArgs s_law) (defBody s_law) (defScope s_law) .none kV31 dc31 pm31 an31 cd31 ct31), sl31⟩) (c31 : PySem.W.codeIn K cd31 "law" = true) (k31 : PySem.W.keepIn K (.ref f31) = true)
    (z_all : PySem.W.nsIn K mainGlobals "all" = some none)
    (z_bool : PySem.W.nsIn K mainGlobals "bool" = some none)
    (z_int : PySem.W.nsIn K mainGlobals "int" = some none)
    (z_isinstance : PySem.W.nsIn K mainGlobals "isinstance" = some none)
    (z_len : PySem.W.nsIn K mainGlobals "len" = some none)
    (z_list : PySem.W.nsIn K mainGlobals "list" = some none)
    (z_range : PySem.W.nsIn K mainGlobals "range" = some none)
    (z_str : PySem.W.nsIn K mainGlobals "str" = some none)
    (z_tuple : PySem.W.nsIn K mainGlobals "tuple" = some none) : ∃ T : Txt K mg, T.f_law = f31 ∧ ∀ (s : Shared) (v : Value), BindsTo s T.d_law ⟨[v], []⟩ [("script", v)] :=
  ⟨{ f_spot_less := f1, d_spot_less := _, F_spot_less := fun_mk (st := s_spot_less) l1 c1 k1, g_spot_less := PySem.W.mg_of X G a1, B_spot_less := ((fun_mk (st := s_spot_less) l1 c1 k1).binds fun _ _ _ _ _ _ us hl => match us, hl with | [_, _], _ => rfl),
        f_doubled := f2, d_doubled := _, F_doubled := fun_mk (st := s_doubled) l2 c2 k2, g_doubled := PySem.W.mg_of X G a2, B_doubled := ((fun_mk (st := s_doubled) l2 c2 k2).binds fun _ _ _ _ _ _ us hl => match us, hl with | [_], _ => rfl),
        f_number_sign := f3, d_number_sign := _, F_number_sign := fun_mk (st := s_number_sign) l3 c3 k3, g_number_sign := PySem.W.mg_of X G a3, B_number_sign := ((fun_mk (st := s_number_sign) l3 c3 k3).binds fun _ _ _ _ _ _ us hl => match us, hl with | [_], _ => rfl),
        f_surd_sign := f4, d_surd_sign := _, F_surd_sign := fun_mk (st := s_surd_sign) l4 c4 k4, g_surd_sign := PySem.W.mg_of X G a4, B_surd_sign := ((fun_mk (st := s_surd_sign) l4 c4 k4).binds fun _ _ _ _ _ _ us hl => match us, hl with | [_], _ => rfl),
        f_surd_sum := f5, d_surd_sum := _, F_surd_sum := fun_mk (st := s_surd_sum) l5 c5 k5, g_surd_sum := PySem.W.mg_of X G a5, B_surd_sum := ((fun_mk (st := s_surd_sum) l5 c5 k5).binds fun _ _ _ _ _ _ us hl => match us, hl with | [_, _], _ => rfl),
        f_surd_opposite := f6, d_surd_opposite := _, F_surd_opposite := fun_mk (st := s_surd_opposite) l6 c6 k6, g_surd_opposite := PySem.W.mg_of X G a6, B_surd_opposite := ((fun_mk (st := s_surd_opposite) l6 c6 k6).binds fun _ _ _ _ _ _ us hl => match us, hl with | [_], _ => rfl),
        f_surd_product := f7, d_surd_product := _, F_surd_product := fun_mk (st := s_surd_product) l7 c7 k7, g_surd_product := PySem.W.mg_of X G a7, B_surd_product := ((fun_mk (st := s_surd_product) l7 c7 k7).binds fun _ _ _ _ _ _ us hl => match us, hl with | [_, _], _ => rfl),
        f_turn_sign := f8, d_turn_sign := _, F_turn_sign := fun_mk (st := s_turn_sign) l8 c8 k8, g_turn_sign := PySem.W.mg_of X G a8, B_turn_sign := ((fun_mk (st := s_turn_sign) l8 c8 k8).binds fun _ _ _ _ _ _ us hl => match us, hl with | [_, _, _], _ => rfl),
        f_lies_outside := f9, d_lies_outside := _, F_lies_outside := fun_mk (st := s_lies_outside) l9 c9 k9, g_lies_outside := PySem.W.mg_of X G a9, B_lies_outside := ((fun_mk (st := s_lies_outside) l9 c9 k9).binds fun _ _ _ _ _ _ us hl => match us, hl with | [_, _, _], _ => rfl),
        f_has_dividing_edge := f10, d_has_dividing_edge := _, F_has_dividing_edge := fun_mk (st := s_has_dividing_edge) l10 c10 k10, g_has_dividing_edge := PySem.W.mg_of X G a10, B_has_dividing_edge := ((fun_mk (st := s_has_dividing_edge) l10 c10 k10).binds fun _ _ _ _ _ _ us hl => match us, hl with | [_, _], _ => rfl),
        f_overlap := f11, d_overlap := _, F_overlap := fun_mk (st := s_overlap) l11 c11 k11, g_overlap := PySem.W.mg_of X G a11, B_overlap := ((fun_mk (st := s_overlap) l11 c11 k11).binds fun _ _ _ _ _ _ us hl => match us, hl with | [_, _], _ => rfl),
        f__law_cell := f12, d__law_cell := _, F__law_cell := fun_mk (st := s_law_cell) l12 c12 k12, g__law_cell := PySem.W.mg_of X G a12, B__law_cell := ((fun_mk (st := s_law_cell) l12 c12 k12).binds fun _ _ _ _ _ _ us hl => match us, hl with | [_, _], _ => rfl),
        f__law_numbers := f13, d__law_numbers := _, F__law_numbers := fun_mk (st := s_law_numbers) l13 c13 k13, g__law_numbers := PySem.W.mg_of X G a13, B__law_numbers := ((fun_mk (st := s_law_numbers) l13 c13 k13).binds fun _ _ _ _ _ _ us hl => match us, hl with | [_, _, _], _ => rfl),
        f__law_plus := f14, d__law_plus := _, F__law_plus := fun_mk (st := s_law_plus) l14 c14 k14, g__law_plus := PySem.W.mg_of X G a14, B__law_plus := ((fun_mk (st := s_law_plus) l14 c14 k14).binds fun _ _ _ _ _ _ us hl => match us, hl with | [_, _], _ => rfl),
        f__law_turned := f15, d__law_turned := _, F__law_turned := fun_mk (st := s_law_turned) l15 c15 k15, g__law_turned := PySem.W.mg_of X G a15, B__law_turned := ((fun_mk (st := s_law_turned) l15 c15 k15).binds fun _ _ _ _ _ _ us hl => match us, hl with | [_, _], _ => rfl),
        f__law_then := f16, d__law_then := _, F__law_then := fun_mk (st := s_law_then) l16 c16 k16, g__law_then := PySem.W.mg_of X G a16, B__law_then := ((fun_mk (st := s_law_then) l16 c16 k16).binds fun _ _ _ _ _ _ us hl => match us, hl with | [_, _], _ => rfl),
        f__law_end := f17, d__law_end := _, F__law_end := fun_mk (st := s_law_end) l17 c17 k17, g__law_end := PySem.W.mg_of X G a17, B__law_end := ((fun_mk (st := s_law_end) l17 c17 k17).binds fun _ _ _ _ _ _ us hl => match us, hl with | [_, _], _ => rfl),
        f__law_ray := f18, d__law_ray := _, F__law_ray := fun_mk (st := s_law_ray) l18 c18 k18, g__law_ray := PySem.W.mg_of X G a18, B__law_ray := ((fun_mk (st := s_law_ray) l18 c18 k18).binds fun _ _ _ _ _ _ us hl => match us, hl with | [_, _], _ => rfl),
        f__law_minus := f19, d__law_minus := _, F__law_minus := fun_mk (st := s_law_minus) l19 c19 k19, g__law_minus := PySem.W.mg_of X G a19, B__law_minus := ((fun_mk (st := s_law_minus) l19 c19 k19).binds fun _ _ _ _ _ _ us hl => match us, hl with | [_, _], _ => rfl),
        f__law_straight_room := f20, d__law_straight_room := _, F__law_straight_room := fun_mk (st := s_law_straight_room) l20 c20 k20, g__law_straight_room := PySem.W.mg_of X G a20, B__law_straight_room := ((fun_mk (st := s_law_straight_room) l20 c20 k20).binds fun _ _ _ _ _ _ us hl => match us, hl with | [_, _, _], _ => rfl),
        f__law_curve_room := f21, d__law_curve_room := _, F__law_curve_room := fun_mk (st := s_law_curve_room) l21 c21 k21, g__law_curve_room := PySem.W.mg_of X G a21, B__law_curve_room := ((fun_mk (st := s_law_curve_room) l21 c21 k21).binds fun _ _ _ _ _ _ us hl => match us, hl with | [_, _, _, _], _ => rfl),
        f__law_surd_sign := f22, d__law_surd_sign := _, F__law_surd_sign := fun_mk (st := s_law_surd_sign) l22 c22 k22, g__law_surd_sign := PySem.W.mg_of X G a22, B__law_surd_sign := ((fun_mk (st := s_law_surd_sign) l22 c22 k22).binds fun _ _ _ _ _ _ us hl => match us, hl with | [_, _], _ => rfl),
        f__law_cross := f23, d__law_cross := _, F__law_cross := fun_mk (st := s_law_cross) l23 c23 k23, g__law_cross := PySem.W.mg_of X G a23, B__law_cross := ((fun_mk (st := s_law_cross) l23 c23 k23).binds fun _ _ _ _ _ _ us hl => match us, hl with | [_, _, _], _ => rfl),
        f__law_greatest := f24, d__law_greatest := _, F__law_greatest := fun_mk (st := s_law_greatest) l24 c24 k24, g__law_greatest := PySem.W.mg_of X G a24, B__law_greatest := ((fun_mk (st := s_law_greatest) l24 c24 k24).binds fun _ _ _ _ _ _ us hl => match us, hl with | [_], _ => rfl),
        f__law_parted := f25, d__law_parted := _, F__law_parted := fun_mk (st := s_law_parted) l25 c25 k25, g__law_parted := PySem.W.mg_of X G a25, B__law_parted := ((fun_mk (st := s_law_parted) l25 c25 k25).binds fun _ _ _ _ _ _ us hl => match us, hl with | [_, _], _ => rfl),
        f__law_overlap := f26, d__law_overlap := _, F__law_overlap := fun_mk (st := s_law_overlap) l26 c26 k26, g__law_overlap := PySem.W.mg_of X G a26, B__law_overlap := ((fun_mk (st := s_law_overlap) l26 c26 k26).binds fun _ _ _ _ _ _ us hl => match us, hl with | [_, _], _ => rfl),
        f__law_same := f27, d__law_same := _, F__law_same := fun_mk (st := s_law_same) l27 c27 k27, g__law_same := PySem.W.mg_of X G a27, B__law_same := ((fun_mk (st := s_law_same) l27 c27 k27).binds fun _ _ _ _ _ _ us hl => match us, hl with | [_, _], _ => rfl),
        f__law_room := f28, d__law_room := _, F__law_room := fun_mk (st := s_law_room) l28 c28 k28, g__law_room := PySem.W.mg_of X G a28, B__law_room := ((fun_mk (st := s_law_room) l28 c28 k28).binds fun _ _ _ _ _ _ us hl => match us, hl with | [_, _, _], _ => rfl),
        f__law_moved := f29, d__law_moved := _, F__law_moved := fun_mk (st := s_law_moved) l29 c29 k29, g__law_moved := PySem.W.mg_of X G a29, B__law_moved := ((fun_mk (st := s_law_moved) l29 c29 k29).binds fun _ _ _ _ _ _ us hl => match us, hl with | [_, _, _], _ => rfl),
        f__law_agrees := f30, d__law_agrees := _, F__law_agrees := fun_mk (st := s_law_agrees) l30 c30 k30, g__law_agrees := PySem.W.mg_of X G a30, B__law_agrees := ((fun_mk (st := s_law_agrees) l30 c30 k30).binds fun _ _ _ _ _ _ us hl => match us, hl with | [_, _], _ => rfl),
        f_law := f31, d_law := _, F_law := fun_mk (st := s_law) l31 c31 k31, g_law := PySem.W.mg_of X G a31, B_law := ((fun_mk (st := s_law) l31 c31 k31).binds fun _ _ _ _ _ _ us hl => match us, hl with | [_], _ => rfl),
        b_all := PySem.W.mg_none_of X G z_all,
        b_bool := PySem.W.mg_none_of X G z_bool,
        b_int := PySem.W.mg_none_of X G z_int,
        b_isinstance := PySem.W.mg_none_of X G z_isinstance,
        b_len := PySem.W.mg_none_of X G z_len,
        b_list := PySem.W.mg_none_of X G z_list,
        b_range := PySem.W.mg_none_of X G z_range,
        b_str := PySem.W.mg_none_of X G z_str,
        b_tuple := PySem.W.mg_none_of X G z_tuple }, rfl, fun s v => .of_eq rfl⟩
theorem law_ok {P : Program} {w : World} {K : PySem.W.Frag} {mg : Str → Option Value} {base : Heap} (T : Txt K mg) (math : ∀ ns : List Int, ns.length ≤ 63 → m_law [.list (ns.map PyData.int)] = .ok (.bool true)) : FnOk P w K mg base (L2.CX P w) 13 T.f_law T.d_law ["script"] spL := fn_law (ok_law T) math
end LW
open PySem PySem.W PyProof.Rows
set_option maxHeartbeats 0 in
theorem PySem.Challenge.cw_trackswhole_k15_rooms_that_overlap_holds : PySem.Challenge.rw_trackswhole_k15_rooms_that_overlap.Holds := by
  w_on; o_law; k_head; (case hw => w_witness2)
  k_fill
  refine L2.walk_of (l := PySem.Challenge.rw_trackswhole_k15_rooms_that_overlap) (n := 63) (k := 13) (x := "script") (CX := fun w => L2.CX PySem.Challenge.rw_trackswhole_k15_rooms_that_overlap.prog w) (sp := fun _ => VL.spL) rfl (by decide) rfl ⟨rfl, by decide, by decide⟩ (fun w h Y => PySem.W.kIn_of Y) ?F ?S (fun _ _ _ _ _ h => VL.cx_false h)
  case S =>
    intro w H a ns hl hO hS
    exact VL.spL_of hl hS (by kernel_rfl)
  case F =>
    intro w mg fa h KX G hmg
    obtain ⟨T, e, hb⟩ := LW.txt_mk KX G (a1 := by k_is) (l1 := by k_is) (c1 := by k_is) (k1 := by k_is) (a2 := by k_is) (l2 := by k_is) (c2 := by k_is) (k2 := by k_is) (a3 := by k_is) (l3 := by k_is) (c3 := by k_is) (k3 := by k_is) (a4 := by k_is) (l4 := by k_is) (c4 := by k_is) (k4 := by k_is) (a5 := by k_is) (l5 := by k_is) (c5 := by k_is) (k5 := by k_is) (a6 := by k_is) (l6 := by k_is) (c6 := by k_is) (k6 := by k_is) (a7 := by k_is) (l7 := by k_is) (c7 := by k_is) (k7 := by k_is) (a8 := by k_is) (l8 := by k_is) (c8 := by k_is) (k8 := by k_is) (a9 := by k_is) (l9 := by k_is) (c9 := by k_is) (k9 := by k_is) (a10 := by k_is) (l10 := by k_is) (c10 := by k_is) (k10 := by k_is) (a11 := by k_is) (l11 := by k_is) (c11 := by k_is) (k11 := by k_is) (a12 := by k_is) (l12 := by k_is) (c12 := by k_is) (k12 := by k_is) (a13 := by k_is) (l13 := by k_is) (c13 := by k_is) (k13 := by k_is) (a14 := by k_is) (l14 := by k_is) (c14 := by k_is) (k14 := by k_is) (a15 := by k_is) (l15 := by k_is) (c15 := by k_is) (k15 := by k_is) (a16 := by k_is) (l16 := by k_is) (c16 := by k_is) (k16 := by k_is) (a17 := by k_is) (l17 := by k_is) (c17 := by k_is) (k17 := by k_is) (a18 := by k_is) (l18 := by k_is) (c18 := by k_is) (k18 := by k_is) (a19 := by k_is) (l19 := by k_is) (c19 := by k_is) (k19 := by k_is) (a20 := by k_is) (l20 := by k_is) (c20 := by k_is) (k20 := by k_is) (a21 := by k_is) (l21 := by k_is) (c21 := by k_is) (k21 := by k_is) (a22 := by k_is) (l22 := by k_is) (c22 := by k_is) (k22 := by k_is) (a23 := by k_is) (l23 := by k_is) (c23 := by k_is) (k23 := by k_is) (a24 := by k_is) (l24 := by k_is) (c24 := by k_is) (k24 := by k_is) (a25 := by k_is) (l25 := by k_is) (c25 := by k_is) (k25 := by k_is) (a26 := by k_is) (l26 := by k_is) (c26 := by k_is) (k26 := by k_is) (a27 := by k_is) (l27 := by k_is) (c27 := by k_is) (k27 := by k_is) (a28 := by k_is) (l28 := by k_is) (c28 := by k_is) (k28 := by k_is) (a29 := by k_is) (l29 := by k_is) (c29 := by k_is) (k29 := by k_is) (a30 := by k_is) (l30 := by k_is) (c30 := by k_is) (k30 := by k_is) (a31 := by k_is) (l31 := by k_is) (c31 := by k_is) (k31 := by k_is) (z_all := by k_is) (z_bool := by k_is) (z_int := by k_is) (z_isinstance := by k_is) (z_len := by k_is) (z_list := by k_is) (z_range := by k_is) (z_str := by k_is) (z_tuple := by k_is)
    have e2 := hmg.symm.trans T.g_law
    cases e2
    exact ⟨T.d_law, hb, fun base _ _ => LW.law_ok T LW.math⟩
