import PyProof.Rows.All
import HandS.ForMost
import HandS.Deep
import HandS.Exc
import HandS.ExcOwn
import HandS.TryOnly
import HandS.CallSlots
import HandS.WordsExc
import HandS.TupAny
import HandS.Wide
import HandS.IsInst
import HandS.Flow
import HandS.Conv
import HandS.Ends
import HandS.ExcIs
import HandS.Flt
import HandS.SetFor
import HandS.SortInts
import HandS.Style
import HandS.Rev
import HandS.GenList
import Open.Row
import PySem.Challenge.RW_trackswhole_k73_the_ring_that_rounds_fin
set_option Elab.async false
set_option linter.all false
set_option maxRecDepth 100000
set_option maxHeartbeats 1000000
namespace VL
open PySem PySem.Spec PyProof.Rows L2

/-! ### results -/
inductive R (α : Type) where
  | stuck
  | err (c : Str)
  | ok (a : α)
def R.bind {α β : Type} (x : R α) (f : α → R β) : R β := match x with
  | .stuck => .stuck
  | .err c => .err c
  | .ok a => f a
instance : Monad R where
  pure := R.ok
  bind := R.bind
@[simp] theorem R.bind_ok {α β : Type} (a : α) (f : α → R β) : R.bind (.ok a) f = f a := rfl
@[simp] theorem R.bind_err {α β : Type} (c : Str) (f : α → R β) : R.bind (.err c) f = .err c := rfl
@[simp] theorem R.bind_stuck {α β : Type} (f : α → R β) : R.bind .stuck f = .stuck := rfl
abbrev D := PyData
/-- the keys of a dict: ints and texts, or tuples of these -/
abbrev KS := Sum (List L2.Key) (List (List L2.Key))
def keyD : L2.Key → PyData
  | .inl i => .int i
  | .inr x => .str x
def KS.data : KS → List PyData
  | .inl ks => ks.map keyD
  | .inr ks => ks.map fun k => .tuple (k.map keyD)
def KS.len : KS → Nat
  | .inl ks => ks.length
  | .inr ks => ks.length
def hoD : KS → List V → HO
  | .inl ks, vs => .dK (ks.zip vs)
  | .inr ks, vs => .dT (ks.zip vs)
theorem KS.data_len (ks : KS) : ks.data.length = ks.len := by cases ks <;> simp [KS.data, KS.len]
/-- the class that stands under a name -/
def clsOf (K : PySem.W.Frag) (c : Str) : Option Addr := match PySem.W.nsIn K mainGlobals c with
  | some (some (.ref C)) => some C
  | _ => none
def insD (c : Str) (ns : List Str) (ds : List PyData) : PyData := .dict ((.none, .str c) :: (ns.map PyData.str).zip ds)
/-- a dict's data: its kind ahead -/
def KS.kind : KS → Bool
  | .inl _ => false
  | .inr _ => true
def dctD (ks : KS) (ds : List PyData) : PyData := .dict ((.none, .bool ks.kind) :: ks.data.zip ds)
/-- what is never a tuple -/
def NoT (o : HO) : Prop := (∀ ys, o ≠ .tup ys) ∧ ∀ u ys, o ≠ .frz u (.tup ys)
theorem NoT.lst (vs : List V) : NoT (.lst vs) := ⟨fun ys h => (nomatch h), fun u ys h => (nomatch h)⟩
theorem NoT.hoD (ks : KS) (vs : List V) : NoT (hoD ks vs) := by cases ks <;> exact ⟨fun ys h => (nomatch h), fun u ys h => (nomatch h)⟩
theorem NoT.ins (C dx : Addr) (fs : List (Str × V)) : NoT (.ins C dx fs) := ⟨fun ys h => (nomatch h), fun u ys h => (nomatch h)⟩
theorem NoT.own (a : Addr) : NoT (.own a) := ⟨fun ys h => (nomatch h), fun u ys h => (nomatch h)⟩

/-- a tuple: tracked, or kept from the start -/
def TupAt (K : PySem.W.Frag) (F : Hp) (a : Addr) (xs : List V) : Prop :=
  F a = some (.tup xs) ∨
    ∃ (o : Obj) (its : Array Value) (n : Nat), K.lookup a = some o ∧ o.cls = .type "tuple" ∧ o.data = .seq its n ∧ its.size ≤ sizeLine ∧ Vals xs its.toList
theorem TupAt.sq {K : PySem.W.Frag} {F : Hp} {a : Addr} {xs : List V} (h : TupAt K F a xs) : SqT K F a xs := h.elim (fun z => .inl (.inl z)) .inr
theorem TupAt.mono {K : PySem.W.Frag} {H H' : Hp} {a : Addr} {xs : List V} (e : Same H H') (h : TupAt K H a xs) : TupAt K H' a xs := h.elim (fun z => .inl (e _ _ z)) .inr
mutual
/- the value v is the data d, its lists and tuples in the heap F -/
inductive Is (K : PySem.W.Frag) (F : Hp) : V → D → Prop
  | non : Is K F .non .none
  | bl (b : Bool) : Is K F (.bl b) (.bool b)
  | int (i : Int) : Is K F (.int i) (.int i)
  | str (x : Str) : Is K F (.str x) (.str x)
  | lst {a : Addr} {xs : List V} {ds : List D} : Rd F a (.lst xs) → IsAll K F xs ds → Is K F (.ref a) (.list ds)
  | tup {a : Addr} {xs : List V} {ds : List D} : TupAt K F a xs → IsAll K F xs ds → Is K F (.ref a) (.tuple ds)
  /- a caught exception at a, of the class that stands under the name c -/
  | exc (a : Addr) (c : Str) : Is K F (.ref a) (.dict [(.none, .int (a : Int)), (.none, .str c)])
  | dct {a : Addr} {ks : KS} {vs : List V} {ds : List D} : Rd F a (hoD ks vs) → ks.len = vs.length → IsAll K F vs ds → Is K F (.ref a) (dctD ks ds)
  | ins {a C dx : Addr} {c : Str} {ns : List Str} {vs : List V} {ds : List D} : clsOf K c = some C → F a = some (.ins C dx (ns.zip vs)) → ns.length = vs.length → IsAll K F vs ds → Is K F (.ref a) (insD c ns ds)
inductive IsAll (K : PySem.W.Frag) (F : Hp) : List V → List D → Prop
  | nil : IsAll K F [] []
  | cons {v : V} {vs : List V} {d : D} {ds : List D} : Is K F v d → IsAll K F vs ds → IsAll K F (v :: vs) (d :: ds)
end
mutual
theorem Is.dp {K : PySem.W.Frag} {F : Hp} : ∀ {d : D} {v : V}, d.canLay0 = true → Is K F v d → Dp K F v d
  | .none, _, _, h => by cases h; exact .non
  | .bool b, _, _, h => by cases h; exact .bl b
  | .int i, _, _, h => by cases h; exact .int i
  | .str x, _, _, h => by cases h; exact .str x
  | .list ds, _, l, h => by cases h with | lst hs ha => exact .lst (.inl hs) (IsAll.dp (by simpa only [PyData.canLay0] using l) ha)
  | .tuple ds, _, l, h => by cases h with | tup hs ha => exact .tup hs.sq (IsAll.dp (by simpa only [PyData.canLay0] using l) ha)
  | .dict _, _, l, h => by simp [PyData.canLay0] at l
theorem IsAll.dp {K : PySem.W.Frag} {F : Hp} : ∀ {ds : List D} {vs : List V}, PyData.canLayAll0 ds = true → IsAll K F vs ds → DpAll K F vs ds
  | [], _, _, h => by cases h; exact .nil
  | d :: ds, _, l, h => by
    cases h with
    | cons h1 h2 =>
      simp only [PyData.canLayAll0, Bool.and_eq_true] at l
      exact .cons (Is.dp l.1 h1) (IsAll.dp l.2 h2)
end
theorem Rd.mono {H H' : Hp} {a : Addr} {o : HO} (e : Same H H') (h : Rd H a o) : Rd H' a o := by
  rcases h with h | ⟨u, h⟩
  · exact .inl (e _ _ h)
  · exact .inr ⟨u, e _ _ h⟩
/-! ### heaps that grow -/
theorem Same.tupl {K : PySem.W.Frag} {H H' : Hp} {a : Addr} {xs : List V} (e : Same H H') (h : TupAt K H a xs) : SqT K H' a xs := (h.mono e).sq
theorem Is.mono {K : PySem.W.Frag} {F F' : Hp} (e : Same F F') {d : D} {v : V} (h : Is K F v d) : Is K F' v d :=
  Is.rec (motive_1 := fun v d _ => Is K F' v d) (motive_2 := fun vs ds _ => IsAll K F' vs ds) .non (fun b => .bl b) (fun i => .int i) (fun x => .str x) (fun hs _ ih => .lst (Rd.mono e hs) ih) (fun hs _ ih => .tup (TupAt.mono e hs) ih)
    (fun a c => .exc a c) (fun hr hl _ ih => .dct (Rd.mono e hr) hl ih) (fun hc hr hl _ ih => .ins hc (e _ _ hr) hl ih) .nil (fun _ _ i1 i2 => .cons i1 i2) h
theorem IsAll.mono {K : PySem.W.Frag} {F F' : Hp} (e : Same F F') : ∀ {ds : List D} {vs : List V}, IsAll K F vs ds → IsAll K F' vs ds
  | [], _, h => by cases h; exact .nil
  | d :: ds, _, h => by cases h with | cons h1 h2 => exact .cons (Is.mono e h1) (IsAll.mono e h2)
theorem IsAll.len {K : PySem.W.Frag} {F : Hp} : ∀ {ds : List D} {vs : List V}, IsAll K F vs ds → vs.length = ds.length
  | [], _, h => by cases h; rfl
  | d :: ds, _, h => by
    cases h with
    | cons h1 h2 => rw [List.length_cons, List.length_cons, IsAll.len h2]
theorem IsAll.get {K : PySem.W.Frag} {F : Hp} : ∀ {ds : List D} {vs : List V} {i : Nat} {v : V}, IsAll K F vs ds → vs[i]? = some v → ∃ d, ds[i]? = some d ∧ Is K F v d
  | [], _, i, v, h, e => by cases h; simp at e
  | d :: ds, _, 0, v, h, e => by
    cases h with
    | cons h1 h2 => simp at e; subst e; exact ⟨d, rfl, h1⟩
  | d :: ds, _, i + 1, v, h, e => by
    cases h with
    | cons h1 h2 =>
      obtain ⟨x, h3, h4⟩ := IsAll.get (i := i) h2 (by simpa using e)
      exact ⟨x, by simpa using h3, h4⟩
theorem IsAll.get' {K : PySem.W.Frag} {F : Hp} : ∀ {ds : List D} {vs : List V} {i : Nat} {d : D}, IsAll K F vs ds → ds[i]? = some d → ∃ v, vs[i]? = some v ∧ Is K F v d
  | [], _, i, v, h, e => by simp at e
  | d :: ds, _, 0, v, h, e => by
    cases h with
    | cons h1 h2 => simp at e; subst e; exact ⟨_, rfl, h1⟩
  | d :: ds, _, i + 1, v, h, e => by
    cases h with
    | cons h1 h2 =>
      obtain ⟨x, h3, h4⟩ := IsAll.get' (i := i) h2 (by simpa using e)
      exact ⟨x, by simpa using h3, h4⟩
theorem IsAll.append {K : PySem.W.Frag} {F : Hp} : ∀ {ds es : List D} {vs us : List V}, IsAll K F vs ds → IsAll K F us es → IsAll K F (vs ++ us) (ds ++ es)
  | [], _, _, _, h, g => by cases h; exact g
  | d :: ds, es, _, us, h, g => by
    cases h with
    | cons h1 h2 => exact .cons h1 (IsAll.append h2 g)
theorem IsAll.take {K : PySem.W.Frag} {F : Hp} : ∀ (n : Nat) {ds : List D} {vs : List V}, IsAll K F vs ds → IsAll K F (vs.take n) (ds.take n)
  | 0, _, _, h => by simp; exact .nil
  | n + 1, [], _, h => by cases h; simp; exact .nil
  | n + 1, d :: ds, _, h => by
    cases h with
    | cons h1 h2 => exact .cons h1 (IsAll.take n h2)
theorem IsAll.drop {K : PySem.W.Frag} {F : Hp} : ∀ (n : Nat) {ds : List D} {vs : List V}, IsAll K F vs ds → IsAll K F (vs.drop n) (ds.drop n)
  | 0, _, _, h => by simpa using h
  | n + 1, [], _, h => by cases h; simp; exact .nil
  | n + 1, d :: ds, _, h => by
    cases h with
    | cons h1 h2 => simpa using IsAll.drop n h2
theorem IsAll.set {K : PySem.W.Frag} {F : Hp} {x : D} {u : V} (hx : Is K F u x) : ∀ (n : Nat) {ds : List D} {vs : List V}, IsAll K F vs ds → IsAll K F (vs.set n u) (ds.set n x)
  | _, [], _, h => by cases h; simp; exact .nil
  | 0, d :: ds, _, h => by
    cases h with
    | cons h1 h2 => exact .cons hx h2
  | n + 1, d :: ds, _, h => by
    cases h with
    | cons h1 h2 => exact .cons h1 (IsAll.set hx n h2)
theorem IsAll.reverse {K : PySem.W.Frag} {F : Hp} : ∀ {ds : List D} {vs : List V}, IsAll K F vs ds → IsAll K F vs.reverse ds.reverse
  | [], _, h => by cases h; exact .nil
  | d :: ds, _, h => by
    cases h with
    | cons h1 h2 =>
      rw [List.reverse_cons, List.reverse_cons]
      exact IsAll.append (IsAll.reverse h2) (.cons h1 .nil)
/- data without lists -/
mutual
def lf : D → Bool
  | .list _ => false
  | .dict _ => false
  | .tuple xs => lfs xs
  | _ => true
def lfs : List D → Bool
  | [] => true
  | x :: xs => lf x && lfs xs
end
@[simp] theorem lf_int (i : Int) : lf (.int i) = true := by simp [lf]
@[simp] theorem lf_bool (i : Bool) : lf (.bool i) = true := by simp [lf]
@[simp] theorem lf_str (i : Str) : lf (.str i) = true := by simp [lf]
@[simp] theorem lf_none : lf .none = true := by simp [lf]
@[simp] theorem lf_tuple (xs : List D) : lf (.tuple xs) = lfs xs := by simp [lf]
@[simp] theorem lf_list (xs : List D) : lf (.list xs) = false := by simp [lf]
@[simp] theorem lfs_nil : lfs [] = true := by simp [lfs]
@[simp] theorem lfs_cons (x : D) (xs : List D) : lfs (x :: xs) = (lf x && lfs xs) := by simp [lfs]
theorem rd_keep {F F' : Hp} {a : Addr} {xs : List V} (e : ∀ b, (∃ ys, Rd F b (.tup ys)) → F' b = F b) (h : Rd F a (.tup xs)) : Rd F' a (.tup xs) := by
  have := e a ⟨xs, h⟩
  rcases h with h | ⟨o, h⟩
  · exact .inl (by rw [this]; exact h)
  · exact .inr ⟨o, by rw [this]; exact h⟩
mutual
theorem Is.lfree {K : PySem.W.Frag} {F F' : Hp} (e : ∀ b, (∃ ys, Rd F b (.tup ys)) → F' b = F b) : ∀ {d : D} {v : V}, lf d = true → Is K F v d → Is K F' v d
  | .none, _, _, h => by cases h; exact .non
  | .bool b, _, _, h => by cases h; exact .bl b
  | .int i, _, _, h => by cases h; exact .int i
  | .str x, _, _, h => by cases h; exact .str x
  | .list ds, _, l, h => by simp at l
  | .tuple ds, _, l, h => by
    cases h with
    | tup hs ha =>
      refine .tup ?_ (IsAll.lfree e (by simpa using l) ha)
      rcases hs with hs | hs
      · exact .inl ((e _ ⟨_, .inl hs⟩).trans hs)
      · exact .inr hs
  | .dict _, _, l, h => by simp [lf] at l
theorem IsAll.lfree {K : PySem.W.Frag} {F F' : Hp} (e : ∀ b, (∃ ys, Rd F b (.tup ys)) → F' b = F b) : ∀ {ds : List D} {vs : List V}, lfs ds = true → IsAll K F vs ds → IsAll K F' vs ds
  | [], _, _, h => by cases h; exact .nil
  | d :: ds, _, l, h => by
    cases h with
    | cons h1 h2 =>
      simp at l
      exact .cons (Is.lfree e l.1 h1) (IsAll.lfree e l.2 h2)
end

/-- the heap has grown, and so has its frozen part; what is newly frozen is new -/
structure Ext (B H B' H' : Hp) : Prop where
  hh : Same H H'
  bb : Same B B'
  bh : Same B' H'
  nw : ∀ a, B a = none → B' a ≠ none → H a = none
theorem Ext.refl {B H : Hp} (h : Same B H) : Ext B H B H := ⟨Same.refl H, Same.refl B, h, fun a x y => absurd x y⟩
theorem Ext.trans {B H B1 H1 B2 H2 : Hp} (a : Ext B H B1 H1) (b : Ext B1 H1 B2 H2) : Ext B H B2 H2 :=
  ⟨a.hh.trans b.hh, a.bb.trans b.bb, b.bh, fun x h1 h2 => by
    cases e : B1 x with
    | none => exact Same.free a.hh (b.nw x e h2)
    | some o => exact a.nw x h1 (by rw [e]; exact fun z => nomatch z)⟩
theorem same_upd {H : Hp} {p : Addr} {o : HO} (h : H p = none) : Same H (upd H p o) := fun b u e => by
  rw [upd_ne (ne_of_none e h)]
  exact e
/-- a new object, frozen at once -/
theorem Ext.new {B H : Hp} {p : Addr} {o : HO} (h : Same B H) (n : H p = none) : Ext B H (upd B p o) (upd H p o) := by
  refine ⟨same_upd n, same_upd (Same.free h n), fun b x e => ?_, fun a h1 h2 => ?_⟩
  · by_cases hb : b = p
    · subst hb; rw [upd_same] at e ⊢; exact e
    · rw [upd_ne hb] at e ⊢; exact h _ _ e
  · by_cases hb : a = p
    · subst hb; exact n
    · rw [upd_ne hb] at h2; exact absurd h1 h2
/-- a new object that stays one's own -/
theorem Ext.own {B H : Hp} {p : Addr} {o : HO} (h : Same B H) (n : H p = none) : Ext B H B (upd H p o) :=
  ⟨same_upd n, Same.refl B, h.trans (same_upd n), fun a x y => absurd x y⟩

/-! ### sizes that every state knows -/
def Small (K : PySem.W.Frag) (H : Hp) : Prop := ∀ a xs, SqL K H a xs ∨ SqT K H a xs → xs.length ≤ sizeLine
theorem Inv.small {X : Cx} {pins : List (Addr × Obj)} {σ : L2.St} {H : Hp} {s : Shared} (I : Inv X pins σ H s) : Small X.K H := fun a xs h => by
  rcases h with h | h
  · obtain ⟨_, _, _, z⟩ := I.list h; exact z
  · obtain ⟨_, _, _, z⟩ := I.tuple h; exact z
theorem pe_small {X : Cx} {e : Expr} {t : TE} (h : PE X e t) : PE X e (fun σ H Q => t σ H fun v H' => Small X.K H' → Q v H') := ⟨fun pins s σ H Q I hw =>
  thn (h.run pins s σ H _ I hw) fun u s' ⟨v, H', I', r, q⟩ => ⟨v, H', I', r, q (Inv.small I')⟩⟩
theorem pi_small {X : Cx} {tg it : Expr} {t : TI} (h : PI X tg it t) : PI X tg it (fun σ H Q => t σ H fun J H' => Small X.K H' → Q J H') := ⟨fun pins s σ H R I hw =>
  thn (h.run pins s σ H _ I hw) fun v s1 h1 => thn h1 fun itv s2 ⟨it, fp, tn, J, H', e1, I2, T, st, fo, q⟩ => ⟨it, fp, tn, J, H', e1, I2, T, st, fo, q (Inv.small I2)⟩⟩
theorem Small.list {K : PySem.W.Frag} {B H : Hp} {v : V} {ds : List D} (s : Small K H) (e : Same B H) (h : Is K B v (.list ds)) : ds.length ≤ sizeLine := by
  cases h with
  | lst hs ha => rw [← IsAll.len ha]; exact s _ _ (.inl (.inl (Rd.mono e hs)))
theorem Small.tuple {K : PySem.W.Frag} {B H : Hp} {v : V} {ds : List D} (s : Small K H) (e : Same B H) (h : Is K B v (.tuple ds)) : ds.length ≤ sizeLine := by
  cases h with
  | tup hs ha => rw [← IsAll.len ha]; exact s _ _ (.inr (Same.tupl e hs))

/-! ### pure expressions -/
abbrev PEnv := List (Option D)
structure RF (K : PySem.W.Frag) (B : Hp) (σ : L2.St) (ρ : PEnv) : Prop where
  len : σ.length = ρ.length
  at_ : ∀ (i : Nat) (d : D), ρ[i]? = some (some d) → ∃ v, σ[i]? = some (some v) ∧ Is K B v d
theorem RF.mono {K : PySem.W.Frag} {B B' : Hp} {σ : L2.St} {ρ : PEnv} (h : RF K B σ ρ) (e : Same B B') : RF K B' σ ρ := ⟨h.len, fun i d x => by
  obtain ⟨v, h1, h2⟩ := h.at_ i d x
  exact ⟨v, h1, Is.mono e h2⟩⟩
/-- an error of the class that stands under the name c -/
def ErrAt (X : Cx) (W : WX) (c : Str) (σ : L2.St) (H : Hp) : Prop := ∃ C, X.mg c = some (.ref C) ∧ W (.ref C) none σ H
def Pst {α : Type} (X : Cx) (W : WX) (σ : L2.St) (H : Hp) (k : α → Prop) : R α → Prop
  | .stuck => False
  | .err c => ∀ H', Same H H' → ErrAt X W c σ H'
  | .ok a => k a
theorem Pst.imp {α : Type} {X : Cx} {W : WX} {σ : L2.St} {H : Hp} {k k' : α → Prop} (h : ∀ a, k a → k' a) : ∀ {r : R α}, Pst X W σ H k r → Pst X W σ H k' r
  | .stuck, x => x
  | .err _, x => x
  | .ok a, x => h a x
/-- the wanted end for a pure value -/
def KV1 (X : Cx) (B H : Hp) (Q : VK) (d : D) : Prop := ∀ v H' B', Ext B H B' H' → Small X.K H' → Is X.K B' v d → Q v H'
structure VE (X : Cx) (W : WX) (e : Expr) (f : PEnv → R D) : Prop where
  ex : ∃ t, PE X e t ∧ ∀ σ H B ρ Q, Same B H → RF X.K B σ ρ → Pst X W σ H (KV1 X B H Q) (f ρ) → t σ H Q
def KB1 (B H : Hp) (Q : Bool → Hp → Prop) (b : Bool) : Prop := ∀ H' B', Ext B H B' H' → Q b H'
structure VT (X : Cx) (W : WX) (e : Expr) (f : PEnv → R Bool) : Prop where
  ex : ∃ t, PT X e t ∧ ∀ σ H B ρ Q, Same B H → RF X.K B σ ρ → Pst X W σ H (KB1 B H Q) (f ρ) → t σ H Q
def KA1 (X : Cx) (B H : Hp) (Q : List V → Hp → Prop) (ds : List D) : Prop := ∀ vs H' B', Ext B H B' H' → IsAll X.K B' vs ds → Q vs H'
structure VA (X : Cx) (W : WX) (es : List Expr) (f : PEnv → R (List D)) : Prop where
  ex : ∃ t, PA X es t ∧ ∀ σ H B ρ Q, Same B H → RF X.K B σ ρ → Pst X W σ H (KA1 X B H Q) (f ρ) → t σ H Q

section
variable {X : Cx} {W : WX} {a b c : Expr} {es : List Expr} {pos : Pos} {fa fb fc : PEnv → R D}
/-- a rule for VE from a PE; the small sizes come by themselves -/
theorem VE.mk' {e : Expr} {f : PEnv → R D} {t : TE} (h : PE X e t)
    (q : ∀ σ H B ρ Q, Same B H → RF X.K B σ ρ → Pst X W σ H (fun d => ∀ v H' B', Ext B H B' H' → Is X.K B' v d → Q v H') (f ρ) → t σ H Q) : VE X W e f :=
  ⟨_, pe_small h, fun σ H B ρ Q s r p => q σ H B ρ _ s r (Pst.imp (fun d k v H' B' e dp sm => k v H' B' e sm dp) p)⟩

def vVar (i : Nat) : PEnv → R D := fun ρ => match ρ[i]? with
  | some (some d) => .ok d
  | _ => .stuck
def vC (d : D) : PEnv → R D := fun _ => .ok d
theorem vv (i : Nat) {x : Str} (hN : X.N[i]? = some x := by rfl) (hv : Vis X.env.scope x := by first | exact Or.inl rfl | exact Or.inr (Or.inl rfl) | exact Or.inr (Or.inr rfl)) (hd : (x == ("__debug__" : Str)) = false := by decide)
    (hcd : (x == ("__classdict__" : Str)) = false := by decide) : VE X W (.Name x pos) (vVar i) := by
  refine VE.mk' (pe_var hN hv hd hcd) fun σ H B ρ Q s r p => ?_
  unfold vVar at p
  split at p
  · rename_i d e
    obtain ⟨v, e1, dp⟩ := r.at_ i d e
    exact ⟨v, e1, p v H B (.refl s) dp⟩
  · exact p.elim
theorem vint {i j} : VE X W (.Constant (.int i) j pos) (vC (.int i)) := VE.mk' pe_int fun σ H B ρ Q s r p => p _ H B (.refl s) (.int i)
theorem vbool {i j} : VE X W (.Constant (.bool i) j pos) (vC (.bool i)) := VE.mk' pe_bl fun σ H B ρ Q s r p => p _ H B (.refl s) (.bl i)
theorem vnone {j} : VE X W (.Constant .none j pos) (vC .none) := VE.mk' pe_non fun σ H B ρ Q s r p => p _ H B (.refl s) .non
theorem vstr {i j} : VE X W (.Constant (.str i) j pos) (vC (.str i)) := VE.mk' pe_str fun σ H B ρ Q s r p => p _ H B (.refl s) (.str i)
/-- a constant of the module: a value that stands by itself in the written part -/
theorem vglob {x : Str} {v : V} {u : Value} {d : D} (hg : Gl X x) (hm : X.mg x = some u) (r : RelV v u) (hd : ∀ H, Is X.K H v d) (hdb : (x == ("__debug__" : Str)) = false := by decide) : VE X W (.Name x pos) (vC d) :=
  VE.mk' (pe_glob hg hm r hdb) fun σ H B ρ Q s _ p => p v H B (.refl s) (hd B)

/-! two values -/
def v2 (g : D → D → R D) (fa fb : PEnv → R D) : PEnv → R D := fun ρ => (fa ρ).bind fun d => (fb ρ).bind fun e => g d e
def v1 (g : D → R D) (fa : PEnv → R D) : PEnv → R D := fun ρ => (fa ρ).bind g
/-- from the state, two values one after another -/
theorem two {ta tb : TE} (ha : ∀ σ H B ρ Q, Same B H → RF X.K B σ ρ → Pst X W σ H (KV1 X B H Q) (fa ρ) → ta σ H Q) (hb : ∀ σ H B ρ Q, Same B H → RF X.K B σ ρ → Pst X W σ H (KV1 X B H Q) (fb ρ) → tb σ H Q)
    {α : Type} {σ : L2.St} {H B : Hp} {ρ : PEnv} {g : D → D → R α} {K : α → Prop} {Q : V → V → Hp → Prop} (s : Same B H) (r : RF X.K B σ ρ)
    (p : Pst X W σ H K ((fa ρ).bind fun d => (fb ρ).bind fun e => g d e))
    (q : ∀ d e x y H' B', Ext B H B' H' → Small X.K H' → Is X.K B' x d → Is X.K B' y e → Pst X W σ H' K (g d e) → Q x y H') : ta σ H fun x H1 => tb σ H1 fun y H2 => Q x y H2 := by
  refine ha σ H B ρ _ s r ?_
  generalize hfa : fa ρ = ra at p ⊢
  cases ra with
  | stuck => exact p
  | err c => exact p
  | ok d =>
    intro x H1 B1 e1 sm1 d1
    refine hb σ H1 B1 ρ _ e1.bh (r.mono e1.bb) ?_
    simp only [R.bind_ok] at p
    generalize hfb : fb ρ = rb at p ⊢
    cases rb with
    | stuck => exact p
    | err c => exact fun H' z => p H' (e1.hh.trans z)
    | ok e =>
      intro y H2 B2 e2 sm2 d2
      refine q d e x y H2 B2 (e1.trans e2) sm2 (Is.mono e2.bb d1) d2 ?_
      simp only [R.bind_ok] at p
      generalize g d e = rg at p ⊢
      cases rg with
      | stuck => exact p
      | err c => exact fun H' z => p H' ((e1.trans e2).hh.trans z)
      | ok z => exact p
theorem one {ta : TE} (ha : ∀ σ H B ρ Q, Same B H → RF X.K B σ ρ → Pst X W σ H (KV1 X B H Q) (fa ρ) → ta σ H Q)
    {α : Type} {σ : L2.St} {H B : Hp} {ρ : PEnv} {g : D → R α} {K : α → Prop} {Q : V → Hp → Prop} (s : Same B H) (r : RF X.K B σ ρ)
    (p : Pst X W σ H K ((fa ρ).bind g))
    (q : ∀ d x H' B', Ext B H B' H' → Small X.K H' → Is X.K B' x d → Pst X W σ H' K (g d) → Q x H') : ta σ H Q := by
  refine ha σ H B ρ _ s r ?_
  generalize hfa : fa ρ = ra at p ⊢
  cases ra with
  | stuck => exact p
  | err c => exact p
  | ok d =>
    intro x H1 B1 e1 sm1 d1
    refine q d x H1 B1 e1 sm1 d1 ?_
    simp only [R.bind_ok] at p
    generalize g d = rg at p ⊢
    cases rg with
    | stuck => exact p
    | err c => exact fun H' z => p H' (e1.hh.trans z)
    | ok z => exact p
/-- what a two-place rule asks is given by g -/
def Rule2 (X : Cx) (W : WX) (r : R2) (g : D → D → R D) : Prop := ∀ d e x y σ H B Q, Same B H → Small X.K H → Is X.K B x d → Is X.K B y e → Pst X W σ H (fun d' => ∀ v H' B', Ext B H B' H' → Is X.K B' v d' → Q v H') (g d e) → r x y H Q
def Rule1 (X : Cx) (W : WX) (r : V → Hp → VK → Prop) (g : D → R D) : Prop := ∀ d x σ H B Q, Same B H → Small X.K H → Is X.K B x d → Pst X W σ H (fun d' => ∀ v H' B', Ext B H B' H' → Is X.K B' v d' → Q v H') (g d) → r x H Q
theorem kv_ext {B H B1 H1 : Hp} {Q : VK} {d : D} (e : Ext B H B1 H1) (p : ∀ v H' B', Ext B H B' H' → Is X.K B' v d → Q v H') : ∀ v H' B', Ext B1 H1 B' H' → Is X.K B' v d → Q v H' := fun v H' B' e' dp => p v H' B' (e.trans e') dp
theorem ve2 {e : Expr} {r : R2} {g : D → D → R D} (mk : ∀ {ta tb : TE}, PE X a ta → PE X b tb → PE X e (tOp r ta tb)) (hr : Rule2 X W r g) (ha : VE X W a fa) (hb : VE X W b fb) : VE X W e (v2 g fa fb) := by
  obtain ⟨ta, pa, qa⟩ := ha.ex
  obtain ⟨tb, pb, qb⟩ := hb.ex
  refine VE.mk' (mk pa pb) fun σ H B ρ Q s rf p => ?_
  exact two qa qb s rf p fun d e x y H' B' ex sm dx dy pg => hr d e x y σ H' B' Q ex.bh sm dx dy (Pst.imp (fun a k => kv_ext ex k) pg)
theorem ve1 {e : Expr} {r : V → Hp → VK → Prop} {g : D → R D} (mk : ∀ {ta : TE}, PE X a ta → PE X e (tUn r ta)) (hr : Rule1 X W r g) (ha : VE X W a fa) : VE X W e (v1 g fa) := by
  obtain ⟨ta, pa, qa⟩ := ha.ex
  refine VE.mk' (mk pa) fun σ H B ρ Q s rf p => ?_
  exact one qa s rf p fun d x H' B' ex sm dx pg => hr d x σ H' B' Q ex.bh sm dx (Pst.imp (fun a k => kv_ext ex k) pg)
end
end VL

namespace VL
open PySem PySem.Spec PyProof.Rows L2

noncomputable instance (a b : Int) : Decidable (IntMulOk a b) := Classical.propDecidable _

/-! ### what the operators give on data -/
def vadd : D → D → R D
  | .int i, .int j => .ok (.int (i + j))
  | .str x, .str y => if x.length + y.length ≤ sizeLine then .ok (.str (x ++ y)) else .stuck
  | .list xs, .list ys => if xs.length + ys.length ≤ sizeLine then .ok (.list (xs ++ ys)) else .stuck
  | .tuple xs, .tuple ys => if xs.length + ys.length ≤ sizeLine then .ok (.tuple (xs ++ ys)) else .stuck
  | _, _ => .stuck
def vsub : D → D → R D
  | .int i, .int j => .ok (.int (i - j))
  | _, _ => .stuck
noncomputable def vmul : D → D → R D
  | .int i, .int j => if IntMulOk i j then .ok (.int (i * j)) else .stuck
  | _, _ => .stuck
noncomputable def vfdiv : D → D → R D
  | .int i, .int j => @ite _ (0 < j ∧ j < 2 ^ 250) (Classical.propDecidable _) (.ok (.int (i / j))) .stuck
  | _, _ => .stuck
def vmod : D → D → R D
  | .int i, .int j => if 0 < j then .ok (.int (i % j)) else .stuck
  | _, _ => .stuck
noncomputable def vpow : D → D → R D
  | .int i, .int j => @ite _ (0 ≤ j ∧ j ≤ 1000 ∧ i.natAbs < 2 ^ 64) (Classical.propDecidable _) (.ok (.int (i ^ j.toNat))) .stuck
  | _, _ => .stuck
def vneg : D → R D
  | .int i => .ok (.int (-i))
  | _ => .stuck
def vlt : D → D → R D
  | .int i, .int j => .ok (.bool (decide (i < j)))
  | _, _ => .stuck
def vle : D → D → R D
  | .int i, .int j => .ok (.bool (decide (i ≤ j)))
  | _, _ => .stuck
def vgt : D → D → R D
  | .int i, .int j => .ok (.bool (decide (j < i)))
  | _, _ => .stuck
def vge : D → D → R D
  | .int i, .int j => .ok (.bool (decide (j ≤ i)))
  | _, _ => .stuck
/-- == -/
def vEq (d e : D) : R Bool := if SeqAt.shaped d = true ∧ SeqAt.shaped e = true then .ok (PyData.eqv d e) else .stuck
def veq (d e : D) : R D := (vEq d e).bind fun b => .ok (.bool b)
def vne (d e : D) : R D := (vEq d e).bind fun b => .ok (.bool (!b))
def visnone : D → R D := fun d => .ok (.bool (match d with | .none => true | _ => false))
def vidx : D → D → R D
  | .list xs, .int i => match atI xs i with | some d => .ok d | none => .stuck
  | .tuple xs, .int i => match atI xs i with | some d => .ok d | none => .stuck
  | .str z, .int i => match atI z.cps.toList i with | some c => if z.length ≤ sizeLine then .ok (.str ⟨#[c]⟩) else .stuck | none => .stuck
  | _, _ => .stuck
def vin (d : D) : D → R Bool
  | .list ds => if SeqAt.shaped d = true ∧ SeqAt.shaped (.list ds) = true then .ok (ds.any fun z => PyData.eqv z d) else .stuck
  | _ => .stuck

section
variable {X : Cx} {W : WX} {a b c : Expr} {es : List Expr} {pos : Pos} {fa fb fc : PEnv → R D} {k : Nat}

theorem atI_all {K : PySem.W.Frag} {F : Hp} {vs : List V} {ds : List D} {i : Int} {d : D} (h : IsAll K F vs ds) (e : atI ds i = some d) : ∃ v, atI vs i = some v ∧ Is K F v d := by
  unfold atI at e ⊢
  rw [IsAll.len h]
  cases q : ixN ds.length i with
  | none => rw [q] at e; simp at e
  | some j =>
    rw [q] at e
    simp only [Option.bind_some] at e ⊢
    exact IsAll.get' h e

theorem r_int {K : Int → Int → Prop} {g : Int → Int → V} {G : D → D → R D} {T : Int → Int → D} (hG : ∀ d e, G d e ≠ .stuck → ∃ i j, d = .int i ∧ e = .int j ∧ K i j ∧ G d e = .ok (T i j)) (hg : ∀ i j F, Is X.K F (g i j) (T i j)) : Rule2 X W (rI K g) G := by
  intro d e x y σ H B Q s sm dx dy p
  have h0 : G d e ≠ .stuck := fun z => by rw [z] at p; exact p
  obtain ⟨i, j, rfl, rfl, hk, eG⟩ := hG d e h0
  rw [eG] at p
  cases dx
  cases dy
  exact ⟨i, j, rfl, rfl, hk, p _ H B (.refl s) (hg i j B)⟩
theorem r_int0 {g : Int → Int → V} {G : D → D → R D} {T : Int → Int → D} (hG : ∀ d e, G d e ≠ .stuck → ∃ i j, d = .int i ∧ e = .int j ∧ G d e = .ok (T i j)) (hg : ∀ i j F, Is X.K F (g i j) (T i j)) : Rule2 X W (rI0 g) G := by
  intro d e x y σ H B Q s sm dx dy p
  have h0 : G d e ≠ .stuck := fun z => by rw [z] at p; exact p
  obtain ⟨i, j, rfl, rfl, eG⟩ := hG d e h0
  rw [eG] at p
  cases dx
  cases dy
  exact ⟨i, j, rfl, rfl, p _ H B (.refl s) (hg i j B)⟩

theorem vsub_ (ha : VE X W a fa) (hb : VE X W b fb) : VE X W (.BinOp a .Sub b pos) (v2 vsub fa fb) :=
  ve2 (fun p q => pe_op op_sub p q) (r_int0 (T := fun i j => .int (i - j)) (fun d e h => by cases d <;> first | exact absurd rfl h | (cases e <;> first | exact absurd rfl h | exact ⟨_, _, rfl, rfl, rfl⟩)) fun _ _ _ => .int _) ha hb
theorem vmul_ (ha : VE X W a fa) (hb : VE X W b fb) : VE X W (.BinOp a .Mult b pos) (v2 vmul fa fb) :=
  ve2 (fun p q => pe_op (r := rI IntMulOk fun i j => .int (i * j)) (opI fun _ _ _ _ _ _ _ hc q => mul_int q hc) p q) (r_int (T := fun i j => .int (i * j)) (fun d e h => by
    cases d <;> first | exact absurd rfl h | (cases e <;> first | exact absurd rfl h | skip)
    simp only [vmul] at h ⊢
    split at h
    · rename_i hm; exact ⟨_, _, rfl, rfl, hm, if_pos hm⟩
    · exact absurd rfl h) fun _ _ _ => .int _) ha hb
theorem log2_250 {j : Int} (h0 : 0 < j) (h : j < 2 ^ 250) : CDivW 0 j := wide_div h0 (b := 250) (by omega) (by omega) (by omega)
theorem vfdiv_ (ha : VE X W a fa) (hb : VE X W b fb) : VE X W (.BinOp a .FloorDiv b pos) (v2 vfdiv fa fb) :=
  ve2 (fun p q => pe_op op_fdivW p q) (r_int (K := CDivW) (T := fun i j => .int (i / j)) (fun d e h => by
    cases d <;> first | exact absurd rfl h | (cases e <;> first | exact absurd rfl h | skip)
    simp only [vfdiv] at h ⊢
    split at h
    · rename_i hm; exact ⟨_, _, rfl, rfl, log2_250 hm.1 hm.2, if_pos hm⟩
    · exact absurd rfl h) fun _ _ _ => .int _) ha hb
theorem vmod_ (ha : VE X W a fa) (hb : VE X W b fb) : VE X W (.BinOp a .Mod b pos) (v2 vmod fa fb) :=
  ve2 (fun p q => pe_op op_mod p q) (r_int (T := fun i j => .int (i % j)) (fun d e h => by
    cases d <;> first | exact absurd rfl h | (cases e <;> first | exact absurd rfl h | skip)
    simp only [vmod] at h ⊢
    split at h
    · rename_i hm; exact ⟨_, _, rfl, rfl, hm, if_pos hm⟩
    · exact absurd rfl h) fun _ _ _ => .int _) ha hb
theorem vpow_ (ha : VE X W a fa) (hb : VE X W b fb) : VE X W (.BinOp a .Pow b pos) (v2 vpow fa fb) :=
  ve2 (fun p q => pe_op op_pow p q) (r_int (T := fun i j => .int (i ^ j.toNat)) (fun d e h => by
    cases d <;> first | exact absurd rfl h | (cases e <;> first | exact absurd rfl h | skip)
    simp only [vpow] at h ⊢
    split at h
    · rename_i hm; exact ⟨_, _, rfl, rfl, ⟨hm.1, by omega, hm.2.2⟩, if_pos hm⟩
    · exact absurd rfl h) fun _ _ _ => .int _) ha hb
theorem vneg_ (ha : VE X W a fa) : VE X W (.UnaryOp .USub a pos) (v1 vneg fa) :=
  ve1 (fun p => pe_un un_neg p) (fun d x σ H B Q s sm dx p => by
    cases dx <;> first | exact p.elim | exact ⟨_, rfl, p _ H B (.refl s) (.int _)⟩) ha
/-- comparisons of ints -/
theorem vlt_ (ha : VE X W a fa) (hb : VE X W b fb) : VE X W (.Compare a [.Lt] [b] pos) (v2 vlt fa fb) :=
  ve2 (fun p q => pe_cmpR op_lt p q (nomark _)) (r_int0 (T := fun i j => .bool (decide (i < j))) (fun d e h => by cases d <;> first | exact absurd rfl h | (cases e <;> first | exact absurd rfl h | exact ⟨_, _, rfl, rfl, rfl⟩)) fun _ _ _ => .bl _) ha hb
theorem vle_ (ha : VE X W a fa) (hb : VE X W b fb) : VE X W (.Compare a [.LtE] [b] pos) (v2 vle fa fb) :=
  ve2 (fun p q => pe_cmpR op_le p q (nomark _)) (r_int0 (T := fun i j => .bool (decide (i ≤ j))) (fun d e h => by cases d <;> first | exact absurd rfl h | (cases e <;> first | exact absurd rfl h | exact ⟨_, _, rfl, rfl, rfl⟩)) fun _ _ _ => .bl _) ha hb
theorem vgt_ (ha : VE X W a fa) (hb : VE X W b fb) : VE X W (.Compare a [.Gt] [b] pos) (v2 vgt fa fb) :=
  ve2 (fun p q => pe_cmpR op_gt p q (nomark _)) (r_int0 (T := fun i j => .bool (decide (j < i))) (fun d e h => by cases d <;> first | exact absurd rfl h | (cases e <;> first | exact absurd rfl h | exact ⟨_, _, rfl, rfl, rfl⟩)) fun _ _ _ => .bl _) ha hb
theorem vge_ (ha : VE X W a fa) (hb : VE X W b fb) : VE X W (.Compare a [.GtE] [b] pos) (v2 vge fa fb) :=
  ve2 (fun p q => pe_cmpR op_ge p q (nomark _)) (r_int0 (T := fun i j => .bool (decide (j ≤ i))) (fun d e h => by cases d <;> first | exact absurd rfl h | (cases e <;> first | exact absurd rfl h | exact ⟨_, _, rfl, rfl, rfl⟩)) fun _ _ _ => .bl _) ha hb
theorem rule_eq : Rule2 X W (rEqD X.K) veq := fun d e x y σ H B Q s sm dx dy p => by
  unfold veq vEq at p
  split at p
  · rename_i h
    exact ⟨d, e, (Is.mono s dx).dp (SeqAt.canLay_of_shaped h.1), (Is.mono s dy).dp (SeqAt.canLay_of_shaped h.2), h.1, h.2, p _ H B (.refl s) (.bl _)⟩
  · exact p.elim
theorem rule_ne : Rule2 X W (rNeD X.K) vne := fun d e x y σ H B Q s sm dx dy p => by
  unfold vne vEq at p
  split at p
  · rename_i h
    exact ⟨d, e, (Is.mono s dx).dp (SeqAt.canLay_of_shaped h.1), (Is.mono s dy).dp (SeqAt.canLay_of_shaped h.2), h.1, h.2, p _ H B (.refl s) (.bl _)⟩
  · exact p.elim
theorem lt65 {n : Nat} (h : n + 65 < cLine) : n + 64 < cLine := by omega
theorem veq_ (hu : X.A.units + 65 < cLine) (ha : VE X W a fa) (hb : VE X W b fb) : VE X W (.Compare a [.Eq] [b] pos) (v2 veq fa fb) := ve2 (fun p q => pe_cmpR (op_eqD (lt65 hu)) p q (nomark _)) rule_eq ha hb
theorem vne_ (hu : X.A.units + 65 < cLine) (ha : VE X W a fa) (hb : VE X W b fb) : VE X W (.Compare a [.NotEq] [b] pos) (v2 vne fa fb) := ve2 (fun p q => pe_cmpR (op_neD (lt65 hu)) p q (nomark _)) rule_ne ha hb
theorem hu65 {A : Around} (hr : Room k A) : A.units + 65 < cLine := by have := hr.un; omega
theorem vin_ (hu : X.A.units + 65 < cLine) (ha : VE X W a fa) (hb : VE X W b fb) (hm : behindInMarks .In b = false := by with_unfolding_all rfl) : VE X W (.Compare a [.In] [b] pos) (v2 (fun d e => (vin d e).bind fun b => .ok (.bool b)) fa fb) :=
  ve2 (fun p q => pe_cmpR (op_inD hu) p q hm) (fun d e x y σ H B Q s sm dx dy p => by
    unfold vin at p
    cases e <;> first | exact p.elim | skip
    dsimp only at p
    split at p
    · rename_i h
      exact ⟨_, _, (Is.mono s dx).dp (SeqAt.canLay_of_shaped h.1), (Is.mono s dy).dp (SeqAt.canLay_of_shaped h.2), h.1, h.2, p _ H B (.refl s) (.bl _)⟩
    · exact p.elim) ha hb
theorem vnotin_ (hu : X.A.units + 65 < cLine) (ha : VE X W a fa) (hb : VE X W b fb) (hm : behindInMarks .NotIn b = false := by with_unfolding_all rfl) : VE X W (.Compare a [.NotIn] [b] pos) (v2 (fun d e => (vin d e).bind fun b => .ok (.bool (!b))) fa fb) :=
  ve2 (fun p q => pe_cmpR (op_notInD hu) p q hm) (fun d e x y σ H B Q s sm dx dy p => by
    unfold vin at p
    cases e <;> first | exact p.elim | skip
    dsimp only at p
    split at p
    · rename_i h
      exact ⟨_, _, (Is.mono s dx).dp (SeqAt.canLay_of_shaped h.1), (Is.mono s dy).dp (SeqAt.canLay_of_shaped h.2), h.1, h.2, p _ H B (.refl s) (.bl _)⟩
    · exact p.elim) ha hb
theorem visnone_ {j pos'} (ha : VE X W a fa) : VE X W (.Compare a [.Is] [.Constant .none j pos'] pos) (v1 visnone fa) := by
  obtain ⟨ta, pa, qa⟩ := ha.ex
  refine VE.mk' (pe_cmp (pc_isN pa) rfl) fun σ H B ρ Q s rf p => ?_
  refine one qa s rf p fun d x H' B' ex sm dx pg => ?_
  unfold visnone at pg
  cases dx <;> exact pg _ H' B' ex (.bl _)
theorem vnotnone_ {j pos'} (ha : VE X W a fa) : VE X W (.Compare a [.IsNot] [.Constant .none j pos'] pos) (v1 (fun d => (visnone d).bind fun b => match b with | .bool b => .ok (.bool (!b)) | _ => .stuck) fa) := by
  obtain ⟨ta, pa, qa⟩ := ha.ex
  refine VE.mk' (pe_cmp (pc_notN pa) rfl) fun σ H B ρ Q s rf p => ?_
  refine one qa s rf p fun d x H' B' ex sm dx pg => ?_
  unfold visnone at pg
  cases dx <;> exact pg _ H' B' ex (.bl _)

/-! a + b of ints, texts, lists, tuples -/
def rCatL : R2 := fun x y H Q => ∃ l b xs zs, x = .ref l ∧ y = .ref b ∧ Rd H l (.lst xs) ∧ Rd H b (.lst zs) ∧ xs.length + zs.length ≤ sizeLine ∧ ∀ p, H p = none → Q (.ref p) (upd H p (.lst (xs ++ zs)))
theorem op_catL : OpR X (binaryOp .Add) rCatL := by
  intro pins t σ G x y vv uu Q J rX rY hh
  obtain ⟨a, b, xs, zs, rfl, rfl, hH, hB, hz, q⟩ := hh
  cases rX
  cases rY
  obtain ⟨z, us, n, r, e1⟩ : xs.length ≤ sizeLine ∧ ∃ (us : List Value) (n : Nat), Vals xs us ∧ t.heap.get? a = some { cls := .type "list", data := .seq us.toArray n } := hH.ok J.hok
  obtain ⟨z2, us2, n2, r2, e2⟩ : zs.length ≤ sizeLine ∧ ∃ (us : List Value) (n : Nat), Vals zs us ∧ t.heap.get? b = some { cls := .type "list", data := .seq us.toArray n } := hB.ok J.hok
  have hl := r.length
  have hl2 := r2.length
  refine PySem.P.add_list e1 e2 ?_ (by rw [List.size_toArray, List.size_toArray]; omega)
  have eu : us.toArray ++ us2.toArray = (us ++ us2).toArray := by simp
  rw [eu]
  exact ⟨.ref _, _, J.lnew (t' := t.toks) (r.append r2) (by rw [List.length_append]; omega), rfl, q _ J.fresh⟩
theorem vadd_ (ha : VE X W a fa) (hb : VE X W b fb) : VE X W (.BinOp a .Add b pos) (v2 vadd fa fb) := by
  refine ve2 (fun p q => pe_op (L2.OpR.or op_add (L2.OpR.or op_add_str (L2.OpR.or op_catL op_catA))) p q) (fun d e x y σ H B Q s sm dx dy p => ?_) ha hb
  cases dx with
  | int i =>
    cases dy <;> first | exact p.elim | exact .inl ⟨_, _, rfl, rfl, p _ H B (.refl s) (.int _)⟩
  | str z =>
    cases dy <;> first | exact p.elim | skip
    simp only [vadd] at p
    split at p
    · rename_i hz
      exact .inr (.inl ⟨_, _, rfl, rfl, hz, p _ H B (.refl s) (.str _)⟩)
    · exact p.elim
  | lst h1 h2 =>
    cases dy <;> first | exact p.elim | skip
    rename_i h3 h4
    simp only [vadd] at p
    split at p
    · rename_i hz
      refine .inr (.inr (.inl ⟨_, _, _, _, rfl, rfl, Rd.mono s h1, Rd.mono s h3, by rw [IsAll.len h2, IsAll.len h4]; exact hz, fun q hq => ?_⟩))
      exact p _ _ _ (Ext.new s hq) (.lst (.inl upd_same) (IsAll.append (IsAll.mono (Ext.new s hq).bb h2) (IsAll.mono (Ext.new s hq).bb h4)))
    · exact p.elim
  | tup h1 h2 =>
    cases dy <;> first | exact p.elim | skip
    rename_i ds1 a2 xs2 ds2 h3 h4
    simp only [vadd] at p
    split at p
    · rename_i hz
      have l1 := IsAll.len h2
      have l2 := IsAll.len h4
      refine .inr (.inr (.inr ⟨_, _, _, _, rfl, rfl, Same.tupl s h1, Same.tupl s h3, by rw [l1, l2]; exact hz, fun e1 => ?_, fun _ e2 => ?_, fun _ _ q hq => ?_⟩))
      · subst e1
        have : ds1 = [] := List.eq_nil_of_length_eq_zero (by rw [← l1]; rfl)
        subst this
        exact p _ H B (.refl s) (.tup h3 h4)
      · subst e2
        have : ds2 = [] := List.eq_nil_of_length_eq_zero (by rw [← l2]; rfl)
        subst this
        rw [List.append_nil] at p
        exact p _ H B (.refl s) (.tup h1 h2)
      · exact p _ _ _ (Ext.new s hq) (.tup (.inl upd_same) (IsAll.append (IsAll.mono (Ext.new s hq).bb h2) (IsAll.mono (Ext.new s hq).bb h4)))
    · exact p.elim
  | non => cases dy <;> exact p.elim
  | bl _ => cases dy <;> exact p.elim
  | exc _ _ => cases dy <;> exact p.elim
  | dct _ _ _ => cases dy <;> exact p.elim
  | ins _ _ _ _ => cases dy <;> exact p.elim

/-! a[i] -/
theorem rule_idx : Rule2 X W (rIx X.K) vidx := fun d e x y σ H B Q s sm dx dy p => by
  cases dx with
  | lst h1 h2 =>
    cases dy <;> first | exact p.elim | skip
    simp only [vidx] at p
    split at p
    · rename_i d' he
      obtain ⟨v, e1, dp⟩ := atI_all h2 he
      exact .inl ⟨_, _, _, v, rfl, rfl, .inl (Rd.mono s h1), e1, p v H B (.refl s) dp⟩
    · exact p.elim
  | tup h1 h2 =>
    cases dy <;> first | exact p.elim | skip
    simp only [vidx] at p
    split at p
    · rename_i d' he
      obtain ⟨v, e1, dp⟩ := atI_all h2 he
      exact .inr (.inl ⟨_, _, _, v, rfl, rfl, Same.tupl s h1, e1, p v H B (.refl s) dp⟩)
    · exact p.elim
  | str z =>
    cases dy <;> first | exact p.elim | skip
    simp only [vidx] at p
    split at p
    · rename_i c' he
      split at p
      · rename_i hz
        exact .inr (.inr ⟨_, _, _, rfl, rfl, hz, he, p _ H B (.refl s) (.str _)⟩)
      · exact p.elim
    · exact p.elim
  | int _ => cases dy <;> exact p.elim
  | non => cases dy <;> exact p.elim
  | bl _ => cases dy <;> exact p.elim
  | exc _ _ => cases dy <;> exact p.elim
  | dct _ _ _ => cases dy <;> exact p.elim
  | ins _ _ _ _ => cases dy <;> exact p.elim
theorem vidx_ (ha : VE X W a fa) (hb : VE X W b fb) (hs : PlainIx b := by exact fun _ _ => rfl) : VE X W (.Subscript a b pos) (v2 vidx fa fb) := ve2 (fun p q => pe_ix ix_seq p q hs) rule_idx ha hb

/-! ### argument lists, displays -/
def aNil : PEnv → R (List D) := fun _ => .ok []
def aCons (f : PEnv → R D) (g : PEnv → R (List D)) : PEnv → R (List D) := fun ρ => (f ρ).bind fun d => (g ρ).bind fun ds => .ok (d :: ds)
theorem va_nil : VA X W [] aNil := ⟨tNil, pa_nil, fun σ H B ρ Q s r p => p [] H B (.refl s) .nil⟩
theorem va_cons {e : Expr} {f : PEnv → R D} {g : PEnv → R (List D)} (h : VE X W e f) (t : VA X W es g) (hs : starEach (e :: es) X.env = (false, eval e X.env) :: starEach es X.env := by rfl) : VA X W (e :: es) (aCons f g) := by
  obtain ⟨ta, pa, qa⟩ := h.ex
  obtain ⟨tb, pb, qb⟩ := t.ex
  refine ⟨_, pa_cons pa pb hs, fun σ H B ρ Q s r p => ?_⟩
  refine qa σ H B ρ _ s r ?_
  unfold aCons at p
  generalize f ρ = rf at p ⊢
  cases rf with
  | stuck => exact p
  | err c => exact p
  | ok d =>
    intro x H1 B1 e1 sm1 d1
    refine qb σ H1 B1 ρ _ e1.bh (r.mono e1.bb) ?_
    simp only [R.bind_ok] at p
    generalize g ρ = rg at p ⊢
    cases rg with
    | stuck => exact p
    | err c => exact fun H' z => p H' (e1.hh.trans z)
    | ok ds =>
      intro xs H2 B2 e2 d2
      exact p _ _ _ (e1.trans e2) (.cons (Is.mono e2.bb d1) d2)
/-- from the state, the arguments, then something of them -/
theorem args {g : PEnv → R (List D)} {t : TA} (ht : ∀ σ H B ρ Q, Same B H → RF X.K B σ ρ → Pst X W σ H (KA1 X B H Q) (g ρ) → t σ H Q)
    {α : Type} {σ : L2.St} {H B : Hp} {ρ : PEnv} {G : List D → R α} {K : α → Prop} {Q : List V → Hp → Prop} (s : Same B H) (r : RF X.K B σ ρ)
    (p : Pst X W σ H K ((g ρ).bind G))
    (q : ∀ ds xs H' B', Ext B H B' H' → IsAll X.K B' xs ds → Pst X W σ H' K (G ds) → Q xs H') : t σ H Q := by
  refine ht σ H B ρ _ s r ?_
  generalize g ρ = rg at p ⊢
  cases rg with
  | stuck => exact p
  | err c => exact p
  | ok ds =>
    intro xs H1 B1 e1 d1
    refine q ds xs H1 B1 e1 d1 ?_
    simp only [R.bind_ok] at p
    generalize G ds = rr at p ⊢
    cases rr with
    | stuck => exact p
    | err c => exact fun H' z => p H' (e1.hh.trans z)
    | ok z => exact p
def vtup (g : PEnv → R (List D)) : PEnv → R D := fun ρ => (g ρ).bind fun ds => .ok (.tuple ds)
def vlst (g : PEnv → R (List D)) : PEnv → R D := fun ρ => (g ρ).bind fun ds => .ok (.list ds)
theorem es_len {es : List Expr} {t : TA} (hz : es.length ≤ 1000) : es.length ≤ sizeLine := Nat.le_trans hz (by decide)
/-- the number of the arguments -/
structure VAn (X : Cx) (W : WX) (n : Nat) (es : List Expr) (f : PEnv → R (List D)) : Prop where
  va : VA X W es f
  len : ∀ ρ ds, f ρ = .ok ds → ds.length = n
theorem van_nil : VAn X W 0 [] aNil := ⟨va_nil, fun ρ ds h => by cases h; rfl⟩
theorem van_cons {n : Nat} {e : Expr} {f : PEnv → R D} {g : PEnv → R (List D)} (h : VE X W e f) (t : VAn X W n es g) (hs : starEach (e :: es) X.env = (false, eval e X.env) :: starEach es X.env := by rfl) : VAn X W (n + 1) (e :: es) (aCons f g) :=
  ⟨va_cons h t.va hs, fun ρ ds q => by
    unfold aCons at q
    generalize f ρ = rf at q
    cases rf with
    | stuck => cases q
    | err c => cases q
    | ok d =>
      simp only [R.bind_ok] at q
      generalize hg : g ρ = rg at q
      cases rg with
      | stuck => cases q
      | err c => cases q
      | ok es' =>
        cases q
        rw [List.length_cons, t.len ρ es' hg]⟩
theorem vtup_ {n : Nat} {x1} {g : PEnv → R (List D)} (h : VAn X W n es g) (hz : n ≤ 1000 := by decide) : VE X W (.Tuple es x1 pos) (vtup g) := by
  obtain ⟨t, pt, qt⟩ := h.va.ex
  refine VE.mk' (pe_tup pt) fun σ H B ρ Q s r p => ?_
  cases hg : g ρ with
  | stuck => unfold vtup at p; rw [hg] at p; exact p.elim
  | err c => unfold vtup at p; rw [hg] at p; exact qt σ H B ρ _ s r (by rw [hg]; exact p)
  | ok ds =>
    unfold vtup at p
    rw [hg] at p
    refine qt σ H B ρ _ s r ?_
    rw [hg]
    intro xs H1 B1 e1 d1
    refine ⟨by rw [IsAll.len d1, h.len ρ ds hg]; exact Nat.le_trans hz (by decide), fun q hq => ?_⟩
    have E := Ext.new (o := HO.tup xs) e1.bh hq
    exact p _ _ _ (e1.trans E) (.tup (.inl upd_same) (IsAll.mono E.bb d1))
theorem vlst_ {n : Nat} {g : PEnv → R (List D)} (h : VAn X W n es g) (hz : n ≤ 1000 := by decide) : VE X W (.List es pos) (vlst g) := by
  obtain ⟨t, pt, qt⟩ := h.va.ex
  refine VE.mk' (pe_lst pt) fun σ H B ρ Q s r p => ?_
  cases hg : g ρ with
  | stuck => unfold vlst at p; rw [hg] at p; exact p.elim
  | err c => unfold vlst at p; rw [hg] at p; exact qt σ H B ρ _ s r (by rw [hg]; exact p)
  | ok ds =>
    unfold vlst at p
    rw [hg] at p
    refine qt σ H B ρ _ s r ?_
    rw [hg]
    intro xs H1 B1 e1 d1
    refine ⟨by rw [IsAll.len d1, h.len ρ ds hg]; exact Nat.le_trans hz (by decide), fun q hq => ?_⟩
    have E := Ext.new (o := HO.lst xs) e1.bh hq
    exact p _ _ _ (e1.trans E) (.lst (.inl upd_same) (IsAll.mono E.bb d1))
end
end VL

namespace VL
open PySem PySem.Spec PyProof.Rows L2

/-! ### tests -/
def tbool : D → R Bool
  | .bool b => .ok b
  | _ => .stuck
def vtruth : D → R Bool
  | .none => .ok false
  | .bool b => .ok b
  | .int i => .ok (i != 0)
  | .str y => if y.length ≤ sizeLine then .ok ((y.length : Int) != 0) else .stuck
  | .list xs => .ok (!xs.isEmpty)
  | .tuple xs => .ok (!xs.isEmpty)
  | .dict _ => .stuck
section
variable {X : Cx} {W : WX} {a b c : Expr} {es : List Expr} {pos : Pos} {fa fb fc : PEnv → R D} {ft fu : PEnv → R Bool} {k : Nat}

/-- a test that is a comparison -/
theorem vt2 {e : Expr} {r : R2} {g : D → D → R D} (mk : ∀ {ta tb : TE}, PE X a ta → PE X b tb → PT X e (tTest (tOp r ta tb))) (hr : Rule2 X W r g) (hg : ∀ d e z, g d e = .ok z → ∃ k, z = .bool k) (ha : VE X W a fa) (hb : VE X W b fb) :
    VT X W e (fun ρ => (v2 g fa fb ρ).bind tbool) := by
  obtain ⟨ta, pa, qa⟩ := ha.ex
  obtain ⟨tb, pb, qb⟩ := hb.ex
  refine ⟨_, mk pa pb, fun σ H B ρ Q s rf p => ?_⟩
  have p' : Pst X W σ H (KB1 B H Q) ((fa ρ).bind fun d => (fb ρ).bind fun e => (g d e).bind tbool) := by
    unfold v2 at p
    generalize fa ρ = ra at p ⊢
    cases ra with
    | stuck => exact p
    | err c => exact p
    | ok d =>
      simp only [R.bind_ok] at p ⊢
      generalize fb ρ = rb at p ⊢
      cases rb <;> exact p
  refine two qa qb s rf p' fun d e x y H' B' ex sm dx dy pg => ?_
  refine hr d e x y σ H' B' _ ex.bh sm dx dy ?_
  generalize hge : g d e = rg at pg ⊢
  cases rg with
  | stuck => exact pg
  | err c => exact pg
  | ok z =>
    obtain ⟨k, rfl⟩ := hg d e z hge
    intro v H2 B2 e2 dv
    cases dv
    exact ⟨k, rfl, pg H2 B2 (ex.trans e2)⟩
theorem vlt_t (ha : VE X W a fa) (hb : VE X W b fb) : VT X W (.Compare a [.Lt] [b] pos) (fun ρ => (v2 vlt fa fb ρ).bind tbool) :=
  vt2 (fun p q => pt_cmpR op_lt p q (nomark _)) (r_int0 (T := fun i j => .bool (decide (i < j))) (fun d e h => by cases d <;> first | exact absurd rfl h | (cases e <;> first | exact absurd rfl h | exact ⟨_, _, rfl, rfl, rfl⟩)) fun _ _ _ => .bl _) (fun d e z h => by cases d <;> first | (cases h; done) | (cases e <;> first | (cases h; done) | (cases h; exact ⟨_, rfl⟩))) ha hb
theorem vle_t (ha : VE X W a fa) (hb : VE X W b fb) : VT X W (.Compare a [.LtE] [b] pos) (fun ρ => (v2 vle fa fb ρ).bind tbool) :=
  vt2 (fun p q => pt_cmpR op_le p q (nomark _)) (r_int0 (T := fun i j => .bool (decide (i ≤ j))) (fun d e h => by cases d <;> first | exact absurd rfl h | (cases e <;> first | exact absurd rfl h | exact ⟨_, _, rfl, rfl, rfl⟩)) fun _ _ _ => .bl _) (fun d e z h => by cases d <;> first | (cases h; done) | (cases e <;> first | (cases h; done) | (cases h; exact ⟨_, rfl⟩))) ha hb
theorem vgt_t (ha : VE X W a fa) (hb : VE X W b fb) : VT X W (.Compare a [.Gt] [b] pos) (fun ρ => (v2 vgt fa fb ρ).bind tbool) :=
  vt2 (fun p q => pt_cmpR op_gt p q (nomark _)) (r_int0 (T := fun i j => .bool (decide (j < i))) (fun d e h => by cases d <;> first | exact absurd rfl h | (cases e <;> first | exact absurd rfl h | exact ⟨_, _, rfl, rfl, rfl⟩)) fun _ _ _ => .bl _) (fun d e z h => by cases d <;> first | (cases h; done) | (cases e <;> first | (cases h; done) | (cases h; exact ⟨_, rfl⟩))) ha hb
theorem vge_t (ha : VE X W a fa) (hb : VE X W b fb) : VT X W (.Compare a [.GtE] [b] pos) (fun ρ => (v2 vge fa fb ρ).bind tbool) :=
  vt2 (fun p q => pt_cmpR op_ge p q (nomark _)) (r_int0 (T := fun i j => .bool (decide (j ≤ i))) (fun d e h => by cases d <;> first | exact absurd rfl h | (cases e <;> first | exact absurd rfl h | exact ⟨_, _, rfl, rfl, rfl⟩)) fun _ _ _ => .bl _) (fun d e z h => by cases d <;> first | (cases h; done) | (cases e <;> first | (cases h; done) | (cases h; exact ⟨_, rfl⟩))) ha hb
theorem veq_t (hu : X.A.units + 65 < cLine) (ha : VE X W a fa) (hb : VE X W b fb) : VT X W (.Compare a [.Eq] [b] pos) (fun ρ => (v2 veq fa fb ρ).bind tbool) :=
  vt2 (fun p q => pt_cmpR (op_eqD (lt65 hu)) p q (nomark _)) rule_eq (fun d e z h => by
    unfold veq at h
    generalize vEq d e = r at h
    cases r <;> first | (cases h; done) | (cases h; exact ⟨_, rfl⟩)) ha hb
theorem vne_t (hu : X.A.units + 65 < cLine) (ha : VE X W a fa) (hb : VE X W b fb) : VT X W (.Compare a [.NotEq] [b] pos) (fun ρ => (v2 vne fa fb ρ).bind tbool) :=
  vt2 (fun p q => pt_cmpR (op_neD (lt65 hu)) p q (nomark _)) rule_ne (fun d e z h => by
    unfold vne at h
    generalize vEq d e = r at h
    cases r <;> first | (cases h; done) | (cases h; exact ⟨_, rfl⟩)) ha hb
def vIn (d e : D) : R D := (vin d e).bind fun b => .ok (.bool b)
def vNotIn (d e : D) : R D := (vin d e).bind fun b => .ok (.bool (!b))
theorem rule_in : Rule2 X W (rInD X.K) vIn := fun d e x y σ H B Q s sm dx dy p => by
  unfold vIn at p
  cases e <;> first | exact p.elim | skip
  simp only [vin] at p
  split at p
  · rename_i h
    exact ⟨_, _, (Is.mono s dx).dp (SeqAt.canLay_of_shaped h.1), (Is.mono s dy).dp (SeqAt.canLay_of_shaped h.2), h.1, h.2, p _ H B (.refl s) (.bl _)⟩
  · exact p.elim
theorem rule_notin : Rule2 X W (rNotInD X.K) vNotIn := fun d e x y σ H B Q s sm dx dy p => by
  unfold vNotIn at p
  cases e <;> first | exact p.elim | skip
  simp only [vin] at p
  split at p
  · rename_i h
    exact ⟨_, _, (Is.mono s dx).dp (SeqAt.canLay_of_shaped h.1), (Is.mono s dy).dp (SeqAt.canLay_of_shaped h.2), h.1, h.2, p _ H B (.refl s) (.bl _)⟩
  · exact p.elim
theorem vin_t (hu : X.A.units + 65 < cLine) (ha : VE X W a fa) (hb : VE X W b fb) (hm : behindInMarks .In b = false := by with_unfolding_all rfl) : VT X W (.Compare a [.In] [b] pos) (fun ρ => (v2 vIn fa fb ρ).bind tbool) :=
  vt2 (fun p q => pt_cmpR (op_inD hu) p q hm) rule_in (fun d e z h => by
    unfold vIn at h
    generalize vin d e = r at h
    cases r <;> first | (cases h; done) | (cases h; exact ⟨_, rfl⟩)) ha hb
theorem vnotin_t (hu : X.A.units + 65 < cLine) (ha : VE X W a fa) (hb : VE X W b fb) (hm : behindInMarks .NotIn b = false := by with_unfolding_all rfl) : VT X W (.Compare a [.NotIn] [b] pos) (fun ρ => (v2 vNotIn fa fb ρ).bind tbool) :=
  vt2 (fun p q => pt_cmpR (op_notInD hu) p q hm) rule_notin (fun d e z h => by
    unfold vNotIn at h
    generalize vin d e = r at h
    cases r <;> first | (cases h; done) | (cases h; exact ⟨_, rfl⟩)) ha hb
/-- any value, by its truth -/
theorem vt_truth (h : VE X W a fa) (he : ∀ whole, isTrue a X.env whole = (do let v ← whole; standAt a.pos; holding [v] (truthy v)) := by intro _; rfl) : VT X W a (fun ρ => (fa ρ).bind vtruth) := by
  obtain ⟨ta, pa, qa⟩ := h.ex
  refine ⟨_, pt_truth pa he, fun σ H B ρ Q s rf p => ?_⟩
  refine one qa s rf p fun d x H' B' ex sm dx pg => ?_
  cases dx with
  | non => exact ⟨_, rfl, pg H' B' ex⟩
  | exc _ _ => exact pg.elim
  | dct _ _ _ => exact pg.elim
  | ins _ _ _ _ => exact pg.elim
  | bl b => exact ⟨_, rfl, pg H' B' ex⟩
  | int i => exact ⟨_, rfl, pg H' B' ex⟩
  | str y =>
    simp only [vtruth] at pg
    split at pg
    · rename_i hz
      exact ⟨_, ⟨hz, rfl⟩, pg H' B' ex⟩
    · exact pg.elim
  | lst h1 h2 => 
    refine ⟨_, .inl ⟨_, .inl (Rd.mono ex.bh h1), rfl⟩, ?_⟩
    have e : ∀ {vs : List V} {ds : List D}, IsAll X.K B' vs ds → (!vs.isEmpty) = (!ds.isEmpty) := fun h => by cases h <;> rfl
    rw [e h2]
    exact pg H' B' ex
  | tup h1 h2 =>
    refine ⟨_, .inr (.inl ⟨_, Same.tupl ex.bh h1, rfl⟩), ?_⟩
    have e : ∀ {vs : List V} {ds : List D}, IsAll X.K B' vs ds → (!vs.isEmpty) = (!ds.isEmpty) := fun h => by cases h <;> rfl
    rw [e h2]
    exact pg H' B' ex
/-- x is None, x is not None as tests -/
theorem visnone_t {j pos'} (ha : VE X W a fa) : VT X W (.Compare a [.Is] [.Constant .none j pos'] pos) (fun ρ => (v1 visnone fa ρ).bind tbool) := by
  obtain ⟨ta, pa, qa⟩ := ha.ex
  refine ⟨_, pt_cmp (pc_isN pa) rfl, fun σ H B ρ Q s rf p => ?_⟩
  have p' : Pst X W σ H (KB1 B H Q) ((fa ρ).bind fun d => (visnone d).bind tbool) := by
    unfold v1 at p
    generalize fa ρ = ra at p ⊢
    cases ra <;> exact p
  refine one qa s rf p' fun d x H' B' ex sm dx pg => ?_
  unfold visnone at pg
  cases dx <;> exact ⟨_, rfl, pg H' B' ex⟩
theorem vnotnone_t {j pos'} (ha : VE X W a fa) : VT X W (.Compare a [.IsNot] [.Constant .none j pos'] pos) (fun ρ => (v1 visnone fa ρ).bind fun d => (tbool d).bind fun b => .ok (!b)) := by
  obtain ⟨ta, pa, qa⟩ := ha.ex
  refine ⟨_, pt_cmp (pc_notN pa) rfl, fun σ H B ρ Q s rf p => ?_⟩
  have p' : Pst X W σ H (KB1 B H Q) ((fa ρ).bind fun d => (visnone d).bind fun d => (tbool d).bind fun b => .ok (!b)) := by
    unfold v1 at p
    generalize fa ρ = ra at p ⊢
    cases ra <;> exact p
  refine one qa s rf p' fun d x H' B' ex sm dx pg => ?_
  unfold visnone at pg
  cases dx <;> exact ⟨_, rfl, pg H' B' ex⟩

/-! and, or, not -/
structure VW (X : Cx) (W : WX) (e : Expr) (f : PEnv → R Bool) : Prop where
  ex : ∃ t, PW X e t ∧ ∀ σ H B ρ Q, Same B H → RF X.K B σ ρ → Pst X W σ H (KB1 B H Q) (f ρ) → t σ H Q
theorem VW.vt {e : Expr} (h : VW X W e ft) : VT X W e ft := by
  obtain ⟨t, p, q⟩ := h.ex
  exact ⟨t, p.pt, q⟩
def tand (f g : PEnv → R Bool) : PEnv → R Bool := fun ρ => (f ρ).bind fun b => if b then g ρ else .ok false
def tor (f g : PEnv → R Bool) : PEnv → R Bool := fun ρ => (f ρ).bind fun b => if b then .ok true else g ρ
def tnot (f : PEnv → R Bool) : PEnv → R Bool := fun ρ => (f ρ).bind fun b => .ok (!b)
theorem oneT {ta : TT} (ha : ∀ σ H B ρ Q, Same B H → RF X.K B σ ρ → Pst X W σ H (KB1 B H Q) (ft ρ) → ta σ H Q)
    {α : Type} {σ : L2.St} {H B : Hp} {ρ : PEnv} {g : Bool → R α} {K : α → Prop} {Q : Bool → Hp → Prop} (s : Same B H) (r : RF X.K B σ ρ)
    (p : Pst X W σ H K ((ft ρ).bind g))
    (q : ∀ b H' B', Ext B H B' H' → Pst X W σ H' K (g b) → Q b H') : ta σ H Q := by
  refine ha σ H B ρ _ s r ?_
  generalize ft ρ = ra at p ⊢
  cases ra with
  | stuck => exact p
  | err c => exact p
  | ok d =>
    intro H1 B1 e1
    refine q d H1 B1 e1 ?_
    simp only [R.bind_ok] at p
    generalize g d = rg at p ⊢
    cases rg with
    | stuck => exact p
    | err c => exact fun H' z => p H' (e1.hh.trans z)
    | ok z => exact p
theorem kb_ext {B H B1 H1 : Hp} {Q : Bool → Hp → Prop} {d : Bool} (e : Ext B H B1 H1) (p : KB1 B H Q d) : KB1 B1 H1 Q d := fun H' B' e' => p H' B' (e.trans e')
theorem kv1_ext {B H B1 H1 : Hp} {Q : VK} {d : D} (e : Ext B H B1 H1) (p : KV1 X B H Q d) : KV1 X B1 H1 Q d := fun v H' B' e' sm dp => p v H' B' (e.trans e') sm dp
theorem vw_and1 (h : VT X W a ft) : VW X W (.BoolOp .And [a] pos) ft := by
  obtain ⟨t, p, q⟩ := h.ex
  exact ⟨t, pw_and1 p, q⟩
theorem vw_or1 (h : VT X W a ft) : VW X W (.BoolOp .Or [a] pos) ft := by
  obtain ⟨t, p, q⟩ := h.ex
  exact ⟨t, pw_or1 p, q⟩
theorem vw_and (h : VT X W a ft) (g : VW X W (.BoolOp .And (b :: es) pos) fu) : VW X W (.BoolOp .And (a :: b :: es) pos) (tand ft fu) := by
  obtain ⟨t, p, q⟩ := h.ex
  obtain ⟨t2, p2, q2⟩ := g.ex
  refine ⟨_, pw_and p p2, fun σ H B ρ Q s rf pr => ?_⟩
  refine oneT q s rf pr fun d H' B' ex pg => ?_
  cases d with
  | true => exact iteT (q2 σ H' B' ρ Q ex.bh (rf.mono ex.bb) (Pst.imp (fun a k => kb_ext ex k) pg))
  | false => exact iteF (pg H' B' ex)
theorem vw_or (h : VT X W a ft) (g : VW X W (.BoolOp .Or (b :: es) pos) fu) : VW X W (.BoolOp .Or (a :: b :: es) pos) (tor ft fu) := by
  obtain ⟨t, p, q⟩ := h.ex
  obtain ⟨t2, p2, q2⟩ := g.ex
  refine ⟨_, pw_or p p2, fun σ H B ρ Q s rf pr => ?_⟩
  refine oneT q s rf pr fun d H' B' ex pg => ?_
  cases d with
  | false => exact iteF (q2 σ H' B' ρ Q ex.bh (rf.mono ex.bb) (Pst.imp (fun a k => kb_ext ex k) pg))
  | true => exact iteT (pg H' B' ex)
theorem vt_not (h : VT X W a ft) : VT X W (.UnaryOp .Not a pos) (tnot ft) := by
  obtain ⟨t, p, q⟩ := h.ex
  refine ⟨_, pt_not p, fun σ H B ρ Q s rf pr => ?_⟩
  exact oneT q s rf pr fun d H' B' ex pg => pg H' B' ex
/-- a if t else b -/
def vif (t : PEnv → R Bool) (f g : PEnv → R D) : PEnv → R D := fun ρ => (t ρ).bind fun b => if b then f ρ else g ρ
theorem vif_ (h : VT X W c ft) (ha : VE X W a fa) (hb : VE X W b fb) : VE X W (.IfExp c a b pos) (vif ft fa fb) := by
  obtain ⟨t, p, q⟩ := h.ex
  obtain ⟨ta, pa, qa⟩ := ha.ex
  obtain ⟨tb, pb, qb⟩ := hb.ex
  refine ⟨_, pe_ifExp p pa pb, fun σ H B ρ Q s rf pr => ?_⟩
  refine oneT q s rf pr fun d H' B' ex pg => ?_
  cases d with
  | true => exact iteT (qa σ H' B' ρ Q ex.bh (rf.mono ex.bb) (Pst.imp (fun a k => kv1_ext ex k) pg))
  | false => exact iteF (qb σ H' B' ρ Q ex.bh (rf.mono ex.bb) (Pst.imp (fun a k => kv1_ext ex k) pg))
/-! .. as values -/
def vand (f g : PEnv → R D) : PEnv → R D := fun ρ => (f ρ).bind fun d => (tbool d).bind fun b => if b then g ρ else .ok (.bool false)
def vor (f g : PEnv → R D) : PEnv → R D := fun ρ => (f ρ).bind fun d => (tbool d).bind fun b => if b then .ok (.bool true) else g ρ
def vnot (f : PEnv → R D) : PEnv → R D := fun ρ => (f ρ).bind fun d => (tbool d).bind fun b => .ok (.bool (!b))
theorem vone {op} (h : VE X W a fa) : VE X W (.BoolOp op [a] pos) fa := by
  obtain ⟨t, p, q⟩ := h.ex
  exact ⟨t, pe_one p, q⟩
theorem vand_ (h : VE X W a fa) (g : VE X W (.BoolOp .And (b :: es) pos) fb) : VE X W (.BoolOp .And (a :: b :: es) pos) (vand fa fb) := by
  obtain ⟨t, p, q⟩ := h.ex
  obtain ⟨t2, p2, q2⟩ := g.ex
  refine ⟨_, pe_and p p2, fun σ H B ρ Q s rf pr => ?_⟩
  refine one q s rf pr fun d x H' B' ex sm dx pg => ?_
  cases dx <;> first | exact pg.elim | skip
  rename_i b
  refine ⟨b, rfl, ?_⟩
  cases b with
  | true => exact iteT (q2 σ H' B' ρ Q ex.bh (rf.mono ex.bb) (Pst.imp (fun a k => kv1_ext ex k) pg))
  | false => exact iteF (pg _ H' B' ex sm (.bl _))
theorem vor_ (h : VE X W a fa) (g : VE X W (.BoolOp .Or (b :: es) pos) fb) : VE X W (.BoolOp .Or (a :: b :: es) pos) (vor fa fb) := by
  obtain ⟨t, p, q⟩ := h.ex
  obtain ⟨t2, p2, q2⟩ := g.ex
  refine ⟨_, pe_or p p2, fun σ H B ρ Q s rf pr => ?_⟩
  refine one q s rf pr fun d x H' B' ex sm dx pg => ?_
  cases dx <;> first | exact pg.elim | skip
  rename_i b
  refine ⟨b, rfl, ?_⟩
  cases b with
  | false => exact iteF (q2 σ H' B' ρ Q ex.bh (rf.mono ex.bb) (Pst.imp (fun a k => kv1_ext ex k) pg))
  | true => exact iteT (pg _ H' B' ex sm (.bl _))
theorem vnot_ (h : VE X W a fa) : VE X W (.UnaryOp .Not a pos) (vnot fa) := by
  obtain ⟨t, p, q⟩ := h.ex
  refine VE.mk' (pe_not p) fun σ H B ρ Q s rf pr => ?_
  refine one q s rf pr fun d x H' B' ex sm dx pg => ?_
  cases dx <;> first | exact pg.elim | exact ⟨_, rfl, pg _ H' B' ex (.bl _)⟩
/-! a op b op' c, ints -/
def vchain (g g' : D → D → R D) (fa fb fc : PEnv → R D) : PEnv → R D := fun ρ => (fa ρ).bind fun d => (fb ρ).bind fun e => (g d e).bind fun z => (tbool z).bind fun k => if k then (fc ρ).bind fun f => g' e f else .ok (.bool false)
/-- what a comparison of ints asks and gives -/
structure IntCmp (X : Cx) (op : CmpOp) (p : Int → Int → Bool) (g : D → D → R D) : Prop where
  op : OpR X (compareOp op) (rI0 fun i j => .bl (p i j))
  g : ∀ d e, g d e ≠ .stuck → ∃ i j, d = .int i ∧ e = .int j ∧ g d e = .ok (.bool (p i j))
theorem ic_lt : IntCmp X .Lt (fun i j => decide (i < j)) vlt := ⟨op_lt, fun d e h => by cases d <;> first | exact absurd rfl h | (cases e <;> first | exact absurd rfl h | exact ⟨_, _, rfl, rfl, rfl⟩)⟩
theorem ic_le : IntCmp X .LtE (fun i j => decide (i ≤ j)) vle := ⟨op_le, fun d e h => by cases d <;> first | exact absurd rfl h | (cases e <;> first | exact absurd rfl h | exact ⟨_, _, rfl, rfl, rfl⟩)⟩
theorem ic_gt : IntCmp X .Gt (fun i j => decide (j < i)) vgt := ⟨op_gt, fun d e h => by cases d <;> first | exact absurd rfl h | (cases e <;> first | exact absurd rfl h | exact ⟨_, _, rfl, rfl, rfl⟩)⟩
theorem ic_ge : IntCmp X .GtE (fun i j => decide (j ≤ i)) vge := ⟨op_ge, fun d e h => by cases d <;> first | exact absurd rfl h | (cases e <;> first | exact absurd rfl h | exact ⟨_, _, rfl, rfl, rfl⟩)⟩
theorem chain_ok {op op' : CmpOp} {p p' : Int → Int → Bool} {g g' : D → D → R D} {ta tb tc : TE} (i1 : IntCmp X op p g) (i2 : IntCmp X op' p' g') (ha : ∀ σ H B ρ Q, Same B H → RF X.K B σ ρ → Pst X W σ H (KV1 X B H Q) (fa ρ) → ta σ H Q) (hb : ∀ σ H B ρ Q, Same B H → RF X.K B σ ρ → Pst X W σ H (KV1 X B H Q) (fb ρ) → tb σ H Q)
    (hc : ∀ σ H B ρ Q, Same B H → RF X.K B σ ρ → Pst X W σ H (KV1 X B H Q) (fc ρ) → tc σ H Q) {σ : L2.St} {H B : Hp} {ρ : PEnv} {Q : VK} (s : Same B H) (rf : RF X.K B σ ρ)
    (pr : Pst X W σ H (fun d => ∀ v H' B', Ext B H B' H' → Is X.K B' v d → Q v H') (vchain g g' fa fb fc ρ)) : tChain (rI0 fun i j => .bl (p i j)) (rI0 fun i j => .bl (p' i j)) ta tb tc σ H Q := by
  unfold vchain at pr
  refine two ha hb s rf pr fun d e x y H' B' ex sm dx dy pg => ?_
  have h0 : g d e ≠ .stuck := fun z => by rw [z] at pg; exact pg
  obtain ⟨i, j, rfl, rfl, eg⟩ := i1.g d e h0
  rw [eg] at pg
  cases dx
  cases dy
  refine ⟨i, j, rfl, rfl, p i j, rfl, ?_⟩
  simp only [R.bind_ok, tbool] at pg
  cases hp : p i j with
  | false =>
    rw [hp] at pg
    exact iteF (pg _ H' B' ex (.bl _))
  | true =>
    rw [hp] at pg
    refine iteT ?_
    simp only [if_true] at pg
    refine one hc ex.bh (rf.mono ex.bb) pg fun f z H2 B2 ex2 sm2 dz pg2 => ?_
    have h1 : g' (.int j) f ≠ .stuck := fun z => by rw [z] at pg2; exact pg2
    obtain ⟨j', m, ej, rfl, eg2⟩ := i2.g _ f h1
    cases ej
    rw [eg2] at pg2
    cases dz
    exact ⟨_, m, rfl, rfl, pg2 _ H2 B2 (ex.trans ex2) (.bl _)⟩
theorem vchain_ {op op' : CmpOp} {p p' : Int → Int → Bool} {g g' : D → D → R D} (i1 : IntCmp X op p g) (i2 : IntCmp X op' p' g') (ha : VE X W a fa) (hb : VE X W b fb) (hc : VE X W c fc) (hm : lastMarks [op, op'] [b, c] = false := by with_unfolding_all rfl) :
    VE X W (.Compare a [op, op'] [b, c] pos) (vchain g g' fa fb fc) := by
  obtain ⟨ta, pa, qa⟩ := ha.ex
  obtain ⟨tb, pb, qb⟩ := hb.ex
  obtain ⟨tc, pc, qc⟩ := hc.ex
  exact VE.mk' (pe_chain i1.op i2.op pa pb pc hm) fun σ H B ρ Q s rf pr => chain_ok i1 i2 qa qb qc s rf pr
theorem vchain_t {op op' : CmpOp} {p p' : Int → Int → Bool} {g g' : D → D → R D} (i1 : IntCmp X op p g) (i2 : IntCmp X op' p' g') (ha : VE X W a fa) (hb : VE X W b fb) (hc : VE X W c fc) (hm : lastMarks [op, op'] [b, c] = false := by with_unfolding_all rfl) :
    VT X W (.Compare a [op, op'] [b, c] pos) (fun ρ => (vchain g g' fa fb fc ρ).bind tbool) := by
  obtain ⟨ta, pa, qa⟩ := ha.ex
  obtain ⟨tb, pb, qb⟩ := hb.ex
  obtain ⟨tc, pc, qc⟩ := hc.ex
  refine ⟨_, pt_chain i1.op i2.op pa pb pc hm, fun σ H B ρ Q s rf pr => ?_⟩
  refine chain_ok i1 i2 qa qb qc s rf ?_
  generalize vchain g g' fa fb fc ρ = r at pr ⊢
  cases r with
  | stuck => exact pr
  | err c => exact pr
  | ok z =>
    intro v H' B' ex dz
    simp only [R.bind_ok] at pr
    cases dz <;> first | exact pr.elim | exact ⟨_, rfl, pr H' B' ex⟩

/-! ### calls -/
/-- what a built-in's rule asks is given by g -/
def RuleC (X : Cx) (W : WX) (r : List V → Hp → VK → Prop) (g : List D → R D) : Prop := ∀ ds vs σ H B Q, Same B H → IsAll X.K B vs ds → Pst X W σ H (fun d' => ∀ v H' B', Ext B H B' H' → Is X.K B' v d' → Q v H') (g ds) → r vs H Q
def vapp (g : List D → R D) (f : PEnv → R (List D)) : PEnv → R D := fun ρ => (f ρ).bind g
theorem vcB {x : Str} {id : String} {r : List V → Hp → VK → Prop} {g : List D → R D} {f : PEnv → R (List D)} {p : Pos} {e : Expr} (hc : CallR X (.builtin id) r) (hr : RuleC X W r g) (hm : X.mg x = none) (hv : bootBuiltins x = some (.builtin id)) (ha : VA X W (e :: es) f)
    (hg : Gl X x := by rfl) (hn : x ≠ "__name__" := by decide) (hdb : (x == ("__debug__" : Str)) = false := by decide)
    (he : starEach (e :: es) X.env = (false, eval e X.env) :: starEach es X.env := by rfl) (hpl : (backTo pos (starEach es X.env)).any (·.1) = false := by rfl) : VE X W (.Call (.Name x p) (e :: es) [] pos) (vapp g f) := by
  obtain ⟨t, pt, qt⟩ := ha.ex
  refine VE.mk' (pe_callB hc hg hm hv pt hn hdb he hpl) fun σ H B ρ Q s rf pr => ?_
  exact args qt s rf pr fun ds xs H' B' ex dx pg => hr ds xs σ H' B' Q ex.bh dx (Pst.imp (fun a k => kv_ext ex k) pg)
theorem vcT {x : Str} {T : String} {r : List V → Hp → VK → Prop} {g : List D → R D} {f : PEnv → R (List D)} {p : Pos} {e : Expr} (hc : CallR X (.type T) r) (hr : RuleC X W r g) (hm : X.mg x = none) (hv : bootBuiltins x = some (.type T)) (ha : VA X W (e :: es) f)
    (hg : Gl X x := by rfl) (hn : x ≠ "__name__" := by decide) (hdb : (x == ("__debug__" : Str)) = false := by decide)
    (he : starEach (e :: es) X.env = (false, eval e X.env) :: starEach es X.env := by rfl) (hpl : (backTo pos (starEach es X.env)).any (·.1) = false := by rfl) : VE X W (.Call (.Name x p) (e :: es) [] pos) (vapp g f) := by
  obtain ⟨t, pt, qt⟩ := ha.ex
  refine VE.mk' (pe_callTy hc hg hm hv pt hn hdb he hpl) fun σ H B ρ Q s rf pr => ?_
  exact args qt s rf pr fun ds xs H' B' ex dx pg => hr ds xs σ H' B' Q ex.bh dx (Pst.imp (fun a k => kv_ext ex k) pg)
/-- what a def promises: its n arguments are data, its answer is g of them -/
def spV (K : PySem.W.Frag) (mg : Str → Option Value) (n : Nat) (g : List D → R D) : Sp := fun vs H Q E => vs.length = n ∧ ∃ ds B, Same B H ∧ IsAll K B vs ds ∧
  match g ds with
  | .stuck => False
  | .err c => ∀ H', Same H H' → ∃ C, mg c = some (.ref C) ∧ E (.ref C) none H'
  | .ok d => ∀ v H' B', Ext B H B' H' → Is K B' v d → Q v H'
theorem vcall {x : Str} {f : Addr} {fd : FuncData} {ps : List Str} {n : Nat} {g : List D → R D} {fa : PEnv → R (List D)} {p : Pos} {e : Expr} (F : FnOk X.prog X.w X.K X.mg X.base (L2.CX X.prog X.w) k f fd ps (spV X.K X.mg n g)) (hr : Room k X.A) (hm : X.mg x = some (.ref f)) (hk : PySem.W.keepIn X.K (.ref f) = true) (hb : Binds X.K fd ps [])
    (tk : Takes X W) (ha : VAn X W n (e :: es) fa) (hg : Gl X x := by rfl) (hdb : (x == ("__debug__" : Str)) = false := by decide) (he : starEach (e :: es) X.env = (false, eval e X.env) :: starEach es X.env := by rfl) (hpl : (backTo pos (starEach es X.env)).any (·.1) = false := by rfl) :
    VE X W (.Call (.Name x p) (e :: es) [] pos) (vapp g fa) := by
  obtain ⟨t, pt, qt⟩ := ha.va.ex
  refine VE.mk' (pe_callS F hr hg hm hk hb (fun σ => passAt tk σ) pt hdb he hpl) fun σ H B ρ Q s rf pr => ?_
  have hl := ha.len ρ
  unfold vapp at pr
  generalize hfa : fa ρ = rr at pr hl
  cases rr with
  | stuck => exact pr.elim
  | err c => exact qt σ H B ρ _ s rf (by rw [hfa]; exact pr)
  | ok ds =>
    refine qt σ H B ρ _ s rf ?_
    rw [hfa]
    intro xs H1 B1 e1 dx
    refine ⟨by rw [IsAll.len dx]; exact hl ds rfl, ds, B1, e1.bh, dx, ?_⟩
    simp only [R.bind_ok] at pr
    generalize g ds = rg at pr ⊢
    cases rg with
    | stuck => exact pr
    | err c => exact fun H' z => pr H' (e1.hh.trans z)
    | ok d => exact fun v H' B' e' dv => pr v H' B' (e1.trans e') dv
theorem vcall0 {x : Str} {f : Addr} {fd : FuncData} {ps : List Str} {g : List D → R D} {p : Pos} (F : FnOk X.prog X.w X.K X.mg X.base (L2.CX X.prog X.w) k f fd ps (spV X.K X.mg 0 g)) (hr : Room k X.A) (hm : X.mg x = some (.ref f)) (hk : PySem.W.keepIn X.K (.ref f) = true) (hb : Binds X.K fd ps [])
    (tk : Takes X W) (hg : Gl X x := by rfl) (hdb : (x == ("__debug__" : Str)) = false := by decide) : VE X W (.Call (.Name x p) [] [] pos) (fun _ => g []) := by
  have mk : PE X (.Call (.Name x p) [] [] pos) (tCallS (spV X.K X.mg 0 g) (WE W) tNil) := by
    refine ⟨fun pins s σ H Q J hh => wpAny_Call_Name_kw (ld_glob J hg hm ?_ hdb)⟩
    exact PySem.W.callWith_K0 J.kIn hk (run_fnS (us := []) (E := WE W) F hr hb (passAt tk σ) J .nil hh)
  refine VE.mk' mk fun σ H B ρ Q s rf pr => ?_
  refine ⟨rfl, [], B, s, .nil, ?_⟩
  generalize g [] = rg at pr ⊢
  cases rg <;> exact pr
end
end VL

namespace VL
open PySem PySem.Spec PyProof.Rows L2

/-! ### built-ins on data -/
def vlen : List D → R D
  | [.list xs] => .ok (.int xs.length)
  | [.tuple xs] => .ok (.int xs.length)
  | [.str z] => if z.length ≤ sizeLine then .ok (.int z.length) else .stuck
  | _ => .stuck
def vint1 : List D → R D
  | [.int i] => .ok (.int i)
  | [.bool k] => .ok (.int (if k then 1 else 0))
  | _ => .stuck
def vabs : List D → R D
  | [.int i] => .ok (.int (if i < 0 then -i else i))
  | _ => .stuck
def vtuple1 : List D → R D
  | [.list xs] => .ok (.tuple xs)
  | [.tuple xs] => .ok (.tuple xs)
  | _ => .stuck
def vlist1 : List D → R D
  | [.list xs] => .ok (.list xs)
  | [.tuple xs] => .ok (.list xs)
  | _ => .stuck
/-- the ints of a list of data -/
def intsOf : List D → Option (List Int)
  | [] => some []
  | .int i :: r => (intsOf r).map (i :: ·)
  | _ :: _ => none
def boolsOf : List D → Option (List Bool)
  | [] => some []
  | .bool i :: r => (boolsOf r).map (i :: ·)
  | _ :: _ => none
def vsum : List D → R D
  | [.list xs] => match intsOf xs with | some ns => .ok (.int ns.sum) | none => .stuck
  | _ => .stuck
def vmax1 (ns : List Int) : R D := match ns.max? with | some m => .ok (.int m) | none => .stuck
def vmin1 (ns : List Int) : R D := match ns.min? with | some m => .ok (.int m) | none => .stuck
def vmax : List D → R D
  | [.list xs] => match intsOf xs with | some ns => vmax1 ns | none => .stuck
  | [.int i, .int j] => .ok (.int (if j > i then j else i))
  | _ => .stuck
def vmin : List D → R D
  | [.list xs] => match intsOf xs with | some ns => vmin1 ns | none => .stuck
  | [.int i, .int j] => .ok (.int (if j < i then j else i))
  | _ => .stuck
def vall : List D → R D
  | [.list xs] => match boolsOf xs with | some bs => .ok (.bool (bs.all id)) | none => .stuck
  | _ => .stuck
def vany : List D → R D
  | [.list xs] => match boolsOf xs with | some bs => .ok (.bool (bs.any id)) | none => .stuck
  | _ => .stuck
theorem intsOf_some : ∀ {ds : List D} {ns : List Int}, intsOf ds = some ns → ds = ns.map PyData.int
  | [], ns, h => by cases h; rfl
  | .int i :: r, ns, h => by
    simp only [intsOf] at h
    cases q : intsOf r with
    | none => rw [q] at h; cases h
    | some ms =>
      rw [q] at h
      cases h
      rw [List.map_cons, intsOf_some q]
  | .none :: _, _, h => by cases h
  | .bool _ :: _, _, h => by cases h
  | .str _ :: _, _, h => by cases h
  | .list _ :: _, _, h => by cases h
  | .tuple _ :: _, _, h => by cases h
  | .dict _ :: _, _, h => by cases h
theorem boolsOf_some : ∀ {ds : List D} {ns : List Bool}, boolsOf ds = some ns → ds = ns.map PyData.bool
  | [], ns, h => by cases h; rfl
  | .bool i :: r, ns, h => by
    simp only [boolsOf] at h
    cases q : boolsOf r with
    | none => rw [q] at h; cases h
    | some ms =>
      rw [q] at h
      cases h
      rw [List.map_cons, boolsOf_some q]
  | .none :: _, _, h => by cases h
  | .int _ :: _, _, h => by cases h
  | .str _ :: _, _, h => by cases h
  | .list _ :: _, _, h => by cases h
  | .tuple _ :: _, _, h => by cases h
  | .dict _ :: _, _, h => by cases h
theorem intsOf_map (ns : List Int) : intsOf (ns.map PyData.int) = some ns := by
  induction ns with
  | nil => rfl
  | cons n r ih => rw [List.map_cons]; simp only [intsOf, ih]; rfl
theorem boolsOf_map (ns : List Bool) : boolsOf (ns.map PyData.bool) = some ns := by
  induction ns with
  | nil => rfl
  | cons n r ih => rw [List.map_cons]; simp only [boolsOf, ih]; rfl
theorem is_ints {K : PySem.W.Frag} {F : Hp} : ∀ {ns : List Int} {vs : List V}, IsAll K F vs (ns.map PyData.int) → vs = ns.map V.int
  | [], _, h => by cases h; rfl
  | n :: r, _, h => by
    rw [List.map_cons] at h
    cases h with
    | cons h1 h2 => cases h1; rw [is_ints h2, List.map_cons]
theorem is_bools {K : PySem.W.Frag} {F : Hp} : ∀ {ns : List Bool} {vs : List V}, IsAll K F vs (ns.map PyData.bool) → vs = ns.map V.bl
  | [], _, h => by cases h; rfl
  | n :: r, _, h => by
    rw [List.map_cons] at h
    cases h with
    | cons h1 h2 => cases h1; rw [is_bools h2, List.map_cons]
theorem CallR.or {X : Cx} {f : Value} {r r' : List V → Hp → VK → Prop} (h : CallR X f r) (h' : CallR X f r') : CallR X f (fun xs H Q => r xs H Q ∨ r' xs H Q) := L2.CallR.or h h'

section
variable {X : Cx} {W : WX} {a b c : Expr} {es : List Expr} {pos : Pos} {fa fb fc : PEnv → R D} {ft fu : PEnv → R Bool} {k : Nat}

theorem rc_len : RuleC X W (fun xs H Q => (∃ p ys, xs = [.ref p] ∧ (SqL X.K H p ys ∨ SqT X.K H p ys) ∧ Q (.int ys.length) H) ∨ ∃ z, xs = [.str z] ∧ z.length ≤ sizeLine ∧ Q (.int z.length) H) vlen := fun ds vs σ H B Q s dx p => by
  cases dx with
  | nil => exact p.elim
  | cons h1 h2 =>
    cases h2 with
    | cons _ _ => cases h1 <;> exact p.elim
    | nil =>
      cases h1 <;> first | exact p.elim | skip
      · simp only [vlen] at p
        split at p
        · rename_i hz
          exact .inr ⟨_, rfl, hz, p _ H B (.refl s) (.int _)⟩
        · exact p.elim
      · rename_i h3 h4
        refine .inl ⟨_, _, rfl, .inl (.inl (Rd.mono s h3)), ?_⟩
        rw [IsAll.len h4]
        exact p _ H B (.refl s) (.int _)
      · rename_i h3 h4
        refine .inl ⟨_, _, rfl, .inr (Same.tupl s h3), ?_⟩
        rw [IsAll.len h4]
        exact p _ H B (.refl s) (.int _)
theorem vlen_ {f : PEnv → R (List D)} {p : Pos} {e : Expr} (hm : X.mg "len" = none) (ha : VA X W [e] f) (hg : Gl X "len" := by rfl) (he : starEach [e] X.env = (false, eval e X.env) :: starEach [] X.env := by rfl) (hpl : (backTo pos (starEach [] X.env)).any (·.1) = false := by rfl) :
    VE X W (.Call (.Name "len" p) [e] [] pos) (vapp vlen f) := vcB (L2.CallR.or call_len_seq call_len_str) rc_len hm boot_len ha hg (by decide) (by decide) he hpl
theorem rc_int : RuleC X W (fun xs H Q => (∃ i, xs = [.int i] ∧ Q (.int i) H) ∨ ∃ k, xs = [.bl k] ∧ Q (.int (if k then 1 else 0)) H) vint1 := fun ds vs σ H B Q s dx p => by
  cases dx with
  | nil => exact p.elim
  | cons h1 h2 =>
    cases h2 with
    | cons _ _ => cases h1 <;> exact p.elim
    | nil =>
      cases h1 <;> first | exact p.elim | skip
      · exact .inr ⟨_, rfl, p _ H B (.refl s) (.int _)⟩
      · exact .inl ⟨_, rfl, p _ H B (.refl s) (.int _)⟩
theorem vint_ {f : PEnv → R (List D)} {p : Pos} {e : Expr} (hm : X.mg "int" = none) (ha : VA X W [e] f) (hg : Gl X "int" := by rfl) (he : starEach [e] X.env = (false, eval e X.env) :: starEach [] X.env := by rfl) (hpl : (backTo pos (starEach [] X.env)).any (·.1) = false := by rfl) :
    VE X W (.Call (.Name "int" p) [e] [] pos) (vapp vint1 f) := vcT call_int1 rc_int hm boot_int ha hg (by decide) (by decide) he hpl
theorem rc_abs : RuleC X W (fun xs H Q => ∃ i, xs = [.int i] ∧ Q (.int (if i < 0 then -i else i)) H) vabs := fun ds vs σ H B Q s dx p => by
  cases dx with
  | nil => exact p.elim
  | cons h1 h2 =>
    cases h2 with
    | cons _ _ => cases h1 <;> exact p.elim
    | nil =>
      cases h1 <;> first | exact p.elim | exact ⟨_, rfl, p _ H B (.refl s) (.int _)⟩
theorem vabs_ {f : PEnv → R (List D)} {p : Pos} {e : Expr} (hm : X.mg "abs" = none) (ha : VA X W [e] f) (hg : Gl X "abs" := by rfl) (he : starEach [e] X.env = (false, eval e X.env) :: starEach [] X.env := by rfl) (hpl : (backTo pos (starEach [] X.env)).any (·.1) = false := by rfl) :
    VE X W (.Call (.Name "abs" p) [e] [] pos) (vapp vabs f) := vcB call_abs rc_abs hm (by decide +kernel) ha hg (by decide) (by decide) he hpl
def rTup1 (K : PySem.W.Frag) : List V → Hp → VK → Prop := fun xs H Q => ∃ p ys, xs = [.ref p] ∧ ((SqL K H p ys ∧ ∀ l, H l = none → Q (.ref l) (upd H l (.tup ys))) ∨ (SqT K H p ys ∧ Q (.ref p) H))
theorem rc_tuple : RuleC X W (rTup1 X.K) vtuple1 := fun ds vs σ H B Q s dx p => by
  cases dx with
  | nil => exact p.elim
  | cons h1 h2 =>
    cases h2 with
    | cons _ _ => cases h1 <;> exact p.elim
    | nil =>
      cases h1 <;> first | exact p.elim | skip
      · rename_i h3 h4
        exact ⟨_, _, rfl, .inl ⟨.inl (Rd.mono s h3), fun l hl => p _ _ _ (Ext.new s hl) (.tup (.inl upd_same) (IsAll.mono (Ext.new s hl).bb h4))⟩⟩
      · rename_i h3 h4
        exact ⟨_, _, rfl, .inr ⟨Same.tupl s h3, p _ H B (.refl s) (.tup h3 h4)⟩⟩
theorem vtuple_ {f : PEnv → R (List D)} {p : Pos} {e : Expr} (hm : X.mg "tuple" = none) (ha : VA X W [e] f) (hg : Gl X "tuple" := by rfl) (he : starEach [e] X.env = (false, eval e X.env) :: starEach [] X.env := by rfl) (hpl : (backTo pos (starEach [] X.env)).any (·.1) = false := by rfl) :
    VE X W (.Call (.Name "tuple" p) [e] [] pos) (vapp vtuple1 f) := vcT call_tuple_of rc_tuple hm (by decide +kernel) ha hg (by decide) (by decide) he hpl
def rList1 (K : PySem.W.Frag) : List V → Hp → VK → Prop := fun xs H Q => ∃ p ys, xs = [.ref p] ∧ (SqL K H p ys ∨ SqT K H p ys) ∧ ∀ l, H l = none → Q (.ref l) (upd H l (.lst ys))
theorem rc_list : RuleC X W (rList1 X.K) vlist1 := fun ds vs σ H B Q s dx p => by
  cases dx with
  | nil => exact p.elim
  | cons h1 h2 =>
    cases h2 with
    | cons _ _ => cases h1 <;> exact p.elim
    | nil =>
      cases h1 <;> first | exact p.elim | skip
      · rename_i h3 h4
        exact ⟨_, _, rfl, .inl (.inl (Rd.mono s h3)), fun l hl => p _ _ _ (Ext.new s hl) (.lst (.inl upd_same) (IsAll.mono (Ext.new s hl).bb h4))⟩
      · rename_i h3 h4
        exact ⟨_, _, rfl, .inr (Same.tupl s h3), fun l hl => p _ _ _ (Ext.new s hl) (.lst (.inl upd_same) (IsAll.mono (Ext.new s hl).bb h4))⟩
theorem vlist_ {f : PEnv → R (List D)} {p : Pos} {e : Expr} (hm : X.mg "list" = none) (ha : VA X W [e] f) (hg : Gl X "list" := by rfl) (he : starEach [e] X.env = (false, eval e X.env) :: starEach [] X.env := by rfl) (hpl : (backTo pos (starEach [] X.env)).any (·.1) = false := by rfl) :
    VE X W (.Call (.Name "list" p) [e] [] pos) (vapp vlist1 f) := vcT call_list_of rc_list hm (by decide +kernel) ha hg (by decide) (by decide) he hpl
/-- one list of ints -/
theorem one_list {r : List V → Hp → VK → Prop} {g : List D → R D} {h : List Int → R D} (hg : ∀ ds, g ds ≠ .stuck → ∃ xs ns, ds = [.list xs] ∧ intsOf xs = some ns ∧ g ds = h ns)
    (hr : ∀ a ns σ H B Q, Same B H → SqL X.K H a (ns.map V.int) → Pst X W σ H (fun d' => ∀ v H' B', Ext B H B' H' → Is X.K B' v d' → Q v H') (h ns) → r [.ref a] H Q) : RuleC X W r g := fun ds vs σ H B Q s dx p => by
  have h0 : g ds ≠ .stuck := fun z => by rw [z] at p; exact p
  obtain ⟨xs, ns, rfl, hi, eg⟩ := hg ds h0
  rw [eg] at p
  cases dx with
  | cons h1 h2 =>
    cases h2
    cases h1 with
    | lst h3 h4 =>
      rw [intsOf_some hi] at h4
      have e := is_ints h4
      subst e
      exact hr _ ns σ H B Q s (.inl (Rd.mono s h3)) p
theorem list_case {g : List D → R D} {h : List Int → R D} {g' : List D → R D} (e1 : ∀ xs, g [.list xs] = match intsOf xs with | some ns => h ns | none => .stuck) (ds : List D) (h0 : g ds ≠ .stuck) (hd : ∃ xs, ds = [.list xs]) : ∃ xs ns, ds = [.list xs] ∧ intsOf xs = some ns ∧ g ds = h ns := by
  obtain ⟨xs, rfl⟩ := hd
  rw [e1] at h0 ⊢
  cases q : intsOf xs with
  | none => rw [q] at h0; exact absurd rfl h0
  | some ns => exact ⟨xs, ns, rfl, q, rfl⟩
theorem rc_sum : RuleC X W (rSum X.K) vsum := one_list (h := fun ns => .ok (.int ns.sum)) (fun ds h0 => list_case (g' := vsum) (fun xs => rfl) ds h0 (by
    cases ds with
    | nil => exact absurd rfl h0
    | cons d r => cases r with
      | nil => cases d <;> first | exact absurd rfl h0 | exact ⟨_, rfl⟩
      | cons _ _ => cases d <;> exact absurd rfl h0))
  fun a ns σ H B Q s h p => ⟨a, ns, rfl, h, p _ H B (.refl s) (.int _)⟩
theorem vsum_ {f : PEnv → R (List D)} {p : Pos} {e : Expr} (hc : X.calm = true) (hm : X.mg "sum" = none) (ha : VA X W [e] f) (hg : Gl X "sum" := by rfl) (he : starEach [e] X.env = (false, eval e X.env) :: starEach [] X.env := by rfl) (hpl : (backTo pos (starEach [] X.env)).any (·.1) = false := by rfl) :
    VE X W (.Call (.Name "sum" p) [e] [] pos) (vapp vsum f) := vcB (cr_sum hc) rc_sum hm (by decide +kernel) ha hg (by decide) (by decide) he hpl
theorem max_eq {ns : List Int} {m : Int} (h : m ∈ ns) (hl : ∀ y, y ∈ ns → y ≤ m) : ns.max? = some m := (List.max?_eq_some_iff).mpr ⟨h, hl⟩
theorem min_eq {ns : List Int} {m : Int} (h : m ∈ ns) (hl : ∀ y, y ∈ ns → m ≤ y) : ns.min? = some m := (List.min?_eq_some_iff).mpr ⟨h, hl⟩
theorem rc_max : RuleC X W (fun xs H Q => rMax X.K xs H Q ∨ ∃ i j, xs = [.int i, .int j] ∧ Q (.int (if j > i then j else i)) H) vmax := fun ds vs σ H B Q s dx p => by
  cases dx with
  | nil => exact p.elim
  | cons h1 h2 =>
    cases h2 with
    | cons h3 h4 =>
      cases h4 with
      | nil => cases h1 <;> first | exact p.elim | (cases h3 <;> first | exact p.elim | exact .inr ⟨_, _, rfl, p _ H B (.refl s) (.int _)⟩)
      | cons _ _ => cases h1 <;> first | exact p.elim | (cases h3 <;> exact p.elim)
    | nil =>
      cases h1 <;> first | exact p.elim | skip
      rename_i h3 h4
      simp only [vmax] at p
      split at p
      · rename_i ns hi
        rw [intsOf_some hi] at h4
        have e := is_ints h4
        subst e
        refine .inl ⟨_, ns, rfl, .inl (Rd.mono s h3), ?_, fun m hm hl => ?_⟩
        · cases ns with
          | nil => exact p.elim
          | cons _ _ => simp
        · unfold vmax1 at p
          rw [max_eq hm hl] at p
          exact p _ H B (.refl s) (.int _)
      · exact p.elim
theorem rc_min : RuleC X W (fun xs H Q => rMin X.K xs H Q ∨ ∃ i j, xs = [.int i, .int j] ∧ Q (.int (if j < i then j else i)) H) vmin := fun ds vs σ H B Q s dx p => by
  cases dx with
  | nil => exact p.elim
  | cons h1 h2 =>
    cases h2 with
    | cons h3 h4 =>
      cases h4 with
      | nil => cases h1 <;> first | exact p.elim | (cases h3 <;> first | exact p.elim | exact .inr ⟨_, _, rfl, p _ H B (.refl s) (.int _)⟩)
      | cons _ _ => cases h1 <;> first | exact p.elim | (cases h3 <;> exact p.elim)
    | nil =>
      cases h1 <;> first | exact p.elim | skip
      rename_i h3 h4
      simp only [vmin] at p
      split at p
      · rename_i ns hi
        rw [intsOf_some hi] at h4
        have e := is_ints h4
        subst e
        refine .inl ⟨_, ns, rfl, .inl (Rd.mono s h3), ?_, fun m hm hl => ?_⟩
        · cases ns with
          | nil => exact p.elim
          | cons _ _ => simp
        · unfold vmin1 at p
          rw [min_eq hm hl] at p
          exact p _ H B (.refl s) (.int _)
      · exact p.elim
theorem vmax_ {f : PEnv → R (List D)} {p : Pos} {e : Expr} (hc : X.calm = true) (hm : X.mg "max" = none) (ha : VA X W (e :: es) f) (hg : Gl X "max" := by rfl) (he : starEach (e :: es) X.env = (false, eval e X.env) :: starEach es X.env := by rfl) (hpl : (backTo pos (starEach es X.env)).any (·.1) = false := by rfl) :
    VE X W (.Call (.Name "max" p) (e :: es) [] pos) (vapp vmax f) := vcB (L2.CallR.or (cr_max hc) (call_max2 hc)) rc_max hm (by decide +kernel) ha hg (by decide) (by decide) he hpl
theorem vmin_ {f : PEnv → R (List D)} {p : Pos} {e : Expr} (hc : X.calm = true) (hm : X.mg "min" = none) (ha : VA X W (e :: es) f) (hg : Gl X "min" := by rfl) (he : starEach (e :: es) X.env = (false, eval e X.env) :: starEach es X.env := by rfl) (hpl : (backTo pos (starEach es X.env)).any (·.1) = false := by rfl) :
    VE X W (.Call (.Name "min" p) (e :: es) [] pos) (vapp vmin f) := vcB (L2.CallR.or (cr_min hc) (call_min2 hc)) rc_min hm (by decide +kernel) ha hg (by decide) (by decide) he hpl
theorem rc_all : RuleC X W (rAll X.K) vall := fun ds vs σ H B Q s dx p => by
  cases dx with
  | nil => exact p.elim
  | cons h1 h2 =>
    cases h2 with
    | cons _ _ => cases h1 <;> exact p.elim
    | nil =>
      cases h1 <;> first | exact p.elim | skip
      rename_i h3 h4
      simp only [vall] at p
      split at p
      · rename_i ns hi
        rw [boolsOf_some hi] at h4
        have e := is_bools h4
        subst e
        exact ⟨_, ns, rfl, .inl (Rd.mono s h3), p _ H B (.refl s) (.bl _)⟩
      · exact p.elim
theorem rc_any : RuleC X W (rAny X.K) vany := fun ds vs σ H B Q s dx p => by
  cases dx with
  | nil => exact p.elim
  | cons h1 h2 =>
    cases h2 with
    | cons _ _ => cases h1 <;> exact p.elim
    | nil =>
      cases h1 <;> first | exact p.elim | skip
      rename_i h3 h4
      simp only [vany] at p
      split at p
      · rename_i ns hi
        rw [boolsOf_some hi] at h4
        have e := is_bools h4
        subst e
        exact ⟨_, ns, rfl, .inl (Rd.mono s h3), p _ H B (.refl s) (.bl _)⟩
      · exact p.elim
theorem vall_ {f : PEnv → R (List D)} {p : Pos} {e : Expr} (hc : X.calm = true) (hm : X.mg "all" = none) (ha : VA X W [e] f) (hg : Gl X "all" := by rfl) (he : starEach [e] X.env = (false, eval e X.env) :: starEach [] X.env := by rfl) (hpl : (backTo pos (starEach [] X.env)).any (·.1) = false := by rfl) :
    VE X W (.Call (.Name "all" p) [e] [] pos) (vapp vall f) := vcB (cr_all hc) rc_all hm (by decide +kernel) ha hg (by decide) (by decide) he hpl
theorem vany_ {f : PEnv → R (List D)} {p : Pos} {e : Expr} (hc : X.calm = true) (hm : X.mg "any" = none) (ha : VA X W [e] f) (hg : Gl X "any" := by rfl) (he : starEach [e] X.env = (false, eval e X.env) :: starEach [] X.env := by rfl) (hpl : (backTo pos (starEach [] X.env)).any (·.1) = false := by rfl) :
    VE X W (.Call (.Name "any" p) [e] [] pos) (vapp vany f) := vcB (cr_any hc) rc_any hm (by decide +kernel) ha hg (by decide) (by decide) he hpl

/-! isinstance of a built-in type -/
def tyName : D → String
  | .none => "NoneType"
  | .bool _ => "bool"
  | .int _ => "int"
  | .str _ => "str"
  | .list _ => "list"
  | .tuple _ => "tuple"
  | .dict _ => "dict"
def isiT (T : String) (n : String) : Bool := n == T || (n == "bool" && T == "int")
def visi (T : String) : D → R D
  | .dict _ => .stuck
  | d => .ok (.bool (isiT T (tyName d)))
/-- the type T is asked about -/
structure TyOk (T : String) : Prop where
  k : ∀ n ∈ ["NoneType", "bool", "int", "str", "list", "tuple"], kitB n T = some (isiT T n)
theorem ty_int : TyOk "int" := ⟨by decide +kernel⟩
theorem ty_bool : TyOk "bool" := ⟨by decide +kernel⟩
theorem ty_str : TyOk "str" := ⟨by decide +kernel⟩
theorem ty_list : TyOk "list" := ⟨by decide +kernel⟩
theorem ty_tuple : TyOk "tuple" := ⟨by decide +kernel⟩
theorem is_ty {K : PySem.W.Frag} {B H : Hp} (s : Same B H) {d : D} {v : V} (nd : ∀ k, d ≠ .dict k) (h : Is K B v d) : TyX K H v (.type (tyName d)) := by
  cases h with
  | non => exact .base .non
  | bl b => exact .base (.bl b)
  | int i => exact .base (.int i)
  | str z => exact .base (.str z)
  | lst h1 h2 =>
    rcases h1 with h | ⟨o, h⟩
    · exact .base (.lst (s _ _ h))
    · exact .base (.frz (s _ _ h))
  | exc _ _ => exact absurd rfl (nd _)
  | dct _ _ _ => exact absurd rfl (nd _)
  | ins _ _ _ _ => exact absurd rfl (nd _)
  | tup h1 h2 =>
    rcases h1 with h | ⟨o, its, n, h, c, _⟩
    · exact .base (.tup (s _ _ h))
    · exact .kTuple h c
theorem visi_ {T : String} {p p2 : Pos} (hT : TyOk T) (hm : X.mg "isinstance" = none) {x : Str} (hx : X.mg x = none) (hv : bootBuiltins x = some (.type T)) (ha : VE X W a fa)
    (hg : Gl X "isinstance" := by rfl) (hgx : Gl X x := by rfl) (hn : x ≠ "__name__" := by decide) (hdb : (x == ("__debug__" : Str)) = false := by decide)
    (he : starEach [a, .Name x p2] X.env = (false, eval a X.env) :: starEach [.Name x p2] X.env := by rfl) (he2 : starEach [.Name x p2] X.env = (false, eval (.Name x p2) X.env) :: starEach [] X.env := by rfl) (hpl : (backTo pos (starEach [.Name x p2] X.env)).any (·.1) = false := by rfl) :
    VE X W (.Call (.Name "isinstance" p) [a, .Name x p2] [] pos) (v1 (visi T) fa) := by
  obtain ⟨ta, pa, qa⟩ := ha.ex
  have p2' : PE X (.Name x p2) (tC (.ty T)) := pe_bltn hgx hx hv rfl hn hdb
  refine VE.mk' (pe_callB call_isi hg hm (by decide +kernel) (pa_cons pa (pa_cons p2' pa_nil he2) he) (by decide) (by decide) he hpl) fun σ H B ρ Q s rf p => ?_
  refine one qa s rf p fun d v H' B' ex sm dx pg => ?_
  have nd : ∀ k, d ≠ .dict k := fun k e => by subst e; exact pg.elim
  have ev : visi T d = .ok (.bool (isiT T (tyName d))) := by
    cases d <;> first | rfl | exact absurd rfl (nd _)
  rw [ev] at pg
  refine ⟨v, .ty T, .type (tyName d), .type T, isiT T (tyName d), rfl, .ty T, is_ty ex.bh nd dx, kit_ty (hT.k _ ?_), pg _ H' B' ex (.bl _)⟩
  cases dx <;> first | exact absurd rfl (nd _) | simp [tyName]

/-! slices -/
def cutL (xs : List D) (lo hi : Option Int) : List D := (xs.drop (HT.sIx xs.length 0 lo)).take (HT.sIx xs.length xs.length hi - HT.sIx xs.length 0 lo)
theorem IsAll.cut {K : PySem.W.Frag} {F : Hp} {vs : List V} {ds : List D} (h : IsAll K F vs ds) (lo hi : Option Int) : IsAll K F (cutV vs lo hi) (cutL ds lo hi) := by
  unfold cutV cutL
  rw [IsAll.len h]
  exact IsAll.take _ (IsAll.drop _ h)
def vcut (lo hi : Option Int) : D → R D
  | .list xs => .ok (.list (cutL xs lo hi))
  | .tuple xs => .ok (.tuple (cutL xs lo hi))
  | _ => .stuck
structure VO1 (X : Cx) (W : WX) (e : Option Expr) (f : PEnv → R (Option Int)) : Prop where
  ex : ∃ t, PO X e t ∧ ∀ σ H B ρ Q, Same B H → RF X.K B σ ρ → Pst X W σ H (fun i => ∀ H' B', Ext B H B' H' → Q i H') (f ρ) → t σ H Q
def oInt : D → R (Option Int)
  | .int i => .ok (some i)
  | _ => .stuck
theorem vo_none : VO1 X W none (fun _ => .ok none) := ⟨_, po_none, fun σ H B ρ Q s rf p => p H B (.refl s)⟩
theorem vo_some (h : VE X W a fa) : VO1 X W (some a) (fun ρ => (fa ρ).bind oInt) := by
  obtain ⟨t, p, q⟩ := h.ex
  refine ⟨_, po_some p, fun σ H B ρ Q s rf pr => ?_⟩
  refine one q s rf pr fun d x H' B' ex sm dx pg => ?_
  cases dx <;> first | exact pg.elim | exact ⟨_, rfl, pg H' B' ex⟩
def vslice (f : PEnv → R D) (l u : PEnv → R (Option Int)) : PEnv → R D := fun ρ => (f ρ).bind fun d => (l ρ).bind fun lo => (u ρ).bind fun hi => vcut lo hi d
theorem whole_cut (xs : List D) (lo hi : Option Int) (h : HT.sIx xs.length 0 lo = 0 ∧ HT.sIx xs.length xs.length hi = xs.length) : cutL xs lo hi = xs := by
  unfold cutL
  rw [h.1, h.2]
  simp
theorem vslice_ {lo hi : Option Expr} {p2 : Pos} {fl fu : PEnv → R (Option Int)} (ha : VE X W a fa) (hl : VO1 X W lo fl) (hu : VO1 X W hi fu) : VE X W (.Subscript a (.Slice lo hi none p2) pos) (vslice fa fl fu) := by
  obtain ⟨ta, pa, qa⟩ := ha.ex
  obtain ⟨tl, pl, ql⟩ := hl.ex
  obtain ⟨tu, pu, qu⟩ := hu.ex
  refine VE.mk' (pe_slice (SlR.or sl_list sl_tupA) pa pl pu) fun σ H B ρ Q s rf p => ?_
  unfold vslice at p
  refine one qa s rf p fun d x H1 B1 e1 sm dx p1 => ?_
  refine ql σ H1 B1 ρ _ e1.bh (rf.mono e1.bb) ?_
  generalize fl ρ = rl at p1 ⊢
  cases rl with
  | stuck => exact p1
  | err c => exact p1
  | ok lo' =>
    intro H2 B2 e2
    refine qu σ H2 B2 ρ _ e2.bh (rf.mono (e1.trans e2).bb) ?_
    simp only [R.bind_ok] at p1
    generalize fu ρ = ru at p1 ⊢
    cases ru with
    | stuck => exact p1
    | err c => exact fun H' z => p1 H' (e2.hh.trans z)
    | ok hi' =>
      intro H3 B3 e3
      simp only [R.bind_ok] at p1
      have E := (e1.trans e2).trans e3
      have dx3 := Is.mono (e2.trans e3).bb dx
      cases dx3 <;> first | exact p1.elim | skip
      · rename_i h1 h2
        refine .inl ⟨_, _, rfl, .inl (Rd.mono e3.bh h1), fun q hq => ?_⟩
        exact p1 _ _ _ (E.trans (Ext.new e3.bh hq)) (.lst (.inl upd_same) (IsAll.cut (IsAll.mono (Ext.new e3.bh hq).bb h2) _ _))
      · rename_i h1 h2
        refine .inr ⟨_, _, rfl, Same.tupl e3.bh h1, fun hw => ?_, fun _ q hq => ?_⟩
        · rw [IsAll.len h2] at hw
          rw [show vcut lo' hi' (.tuple _) = .ok (.tuple (cutL _ lo' hi')) from rfl, whole_cut _ _ _ hw] at p1
          exact p1 _ H3 B3 E (.tup h1 h2)
        · exact p1 _ _ _ (E.trans (Ext.new e3.bh hq)) (.tup (.inl upd_same) (IsAll.cut (IsAll.mono (Ext.new e3.bh hq).bb h2) _ _))
end
end VL

namespace VL
open PySem PySem.Spec PyProof.Rows L2

/-! ### what is walked -/
structure Walks (K : PySem.W.Frag) (J : It) (ds : List D) (B : Hp) : Prop where
  go : ∀ i H, Same B H → i < ds.length → J.go i H
  yld : ∀ i H x H' B1, Same B B1 → Same B1 H → i < ds.length → J.yld i H x H' → ∃ d B2, ds[i]? = some d ∧ Ext B1 H B2 H' ∧ Is K B2 x d
  stop : ∀ H, Same B H → J.stop ds.length H
  small : ds.length ≤ sizeLine
def KI1 (X : Cx) (B H : Hp) (Rr : It → Hp → Prop) (ds : List D) : Prop := ∀ J H' B', Ext B H B' H' → Walks X.K J ds B' → Rr J H'
structure VI (X : Cx) (W : WX) (tg iter : Expr) (f : PEnv → R (List D)) : Prop where
  ex : ∃ wi, PI X tg iter wi ∧ ∀ σ H B ρ Rr, Same B H → RF X.K B σ ρ → Pst X W σ H (KI1 X B H Rr) (f ρ) → wi σ H Rr
theorem walks_list {K : PySem.W.Frag} {B : Hp} {a : Addr} {vs : List V} {ds : List D} (h : Rd B a (.lst vs)) (hd : IsAll K B vs ds) (hz : ds.length ≤ sizeLine) : Walks K (Itl K a) ds B where
  go := fun i H s hi => by
    have hl := IsAll.len hd
    exact ⟨vs, vs[i]'(by omega), .inl (Rd.mono s h), by simp⟩
  yld := fun i H x H' B1 s1 s2 hi y => by
    obtain ⟨rfl, y⟩ := y
    have e := y vs (.inl (Rd.mono (s1.trans s2) h))
    obtain ⟨d, e2, e3⟩ := IsAll.get hd e
    exact ⟨d, B1, e2, .refl s2, Is.mono s1 e3⟩
  stop := fun H s => ⟨vs, .inl (Rd.mono s h), by rw [IsAll.len hd]; exact Nat.le_refl _⟩
  small := hz
theorem walks_tup {K : PySem.W.Frag} {B : Hp} {a : Addr} {vs : List V} {ds : List D} (h : TupAt K B a vs) (hd : IsAll K B vs ds) (hz : ds.length ≤ sizeLine) : Walks K (Itt K a) ds B where
  go := fun i H s hi => by
    have hl := IsAll.len hd
    exact ⟨vs, vs[i]'(by omega), Same.tupl s h, by simp⟩
  yld := fun i H x H' B1 s1 s2 hi y => by
    obtain ⟨rfl, y⟩ := y
    have e := y vs (Same.tupl (s1.trans s2) h)
    obtain ⟨d, e2, e3⟩ := IsAll.get hd e
    exact ⟨d, B1, e2, .refl s2, Is.mono s1 e3⟩
  stop := fun H s => ⟨vs, Same.tupl s h, by rw [IsAll.len hd]; exact Nat.le_refl _⟩
  small := hz
def rangeD (lo : Int) (n : Nat) : List D := (List.range n).map fun (i : Nat) => PyData.int (lo + (i : Int))
theorem rangeD_len (lo : Int) (n : Nat) : (rangeD lo n).length = n := by unfold rangeD; simp
theorem rangeD_at {lo : Int} {n i : Nat} (h : i < n) : (rangeD lo n)[i]? = some (.int (lo + (i : Int))) := by
  unfold rangeD
  rw [List.getElem?_map, List.getElem?_range h]
  rfl
theorem walks_range {K : PySem.W.Frag} {B : Hp} {lo : Int} {n : Nat} (hz : n ≤ sizeLine) : Walks K (Itr lo n) (rangeD lo n) B where
  go := fun i H s hi => by rw [rangeD_len] at hi; exact hi
  yld := fun i H x H' B1 s1 s2 hi y => by
    obtain ⟨rfl, rfl⟩ := y
    rw [rangeD_len] at hi
    exact ⟨_, B1, rangeD_at hi, .refl s2, .int _⟩
  stop := fun H s => by rw [rangeD_len]; exact Nat.le_refl _
  small := by rw [rangeD_len]; exact hz
def rangeCD (lo c : Int) (n : Nat) : List D := (List.range n).map fun (i : Nat) => PyData.int (lo + (i : Int) * c)
theorem rangeCD_len (lo c : Int) (n : Nat) : (rangeCD lo c n).length = n := by unfold rangeCD; simp
theorem rangeCD_at {lo c : Int} {n i : Nat} (h : i < n) : (rangeCD lo c n)[i]? = some (.int (lo + (i : Int) * c)) := by
  unfold rangeCD
  rw [List.getElem?_map, List.getElem?_range h]
  rfl
theorem walks_rangeC {K : PySem.W.Frag} {B : Hp} {lo c : Int} {n : Nat} (hz : n ≤ sizeLine) : Walks K (Itc lo c n) (rangeCD lo c n) B where
  go := fun i H s hi => by rw [rangeCD_len] at hi; exact hi
  yld := fun i H x H' B1 s1 s2 hi y => by
    obtain ⟨rfl, rfl⟩ := y
    rw [rangeCD_len] at hi
    exact ⟨_, B1, rangeCD_at hi, .refl s2, .int _⟩
  stop := fun H s => by rw [rangeCD_len]; exact Nat.le_refl _
  small := by rw [rangeCD_len]; exact hz
theorem walks_rev {K : PySem.W.Frag} {B : Hp} {a : Addr} {vs : List V} {ds : List D} (h : Rd B a (.lst vs)) (hd : IsAll K B vs ds) (hz : ds.length ≤ sizeLine) : Walks K (Itv K a vs.length) ds.reverse B where
  go := fun i H s hi => by
    have hl := IsAll.len hd
    rw [List.length_reverse] at hi
    exact ⟨by omega, vs, vs[vs.length - 1 - i]'(by omega), .inl (Rd.mono s h), by simp⟩
  yld := fun i H x H' B1 s1 s2 hi y => by
    obtain ⟨rfl, y⟩ := y
    have hl := IsAll.len hd
    rw [List.length_reverse] at hi
    have e := y vs (.inl (Rd.mono (s1.trans s2) h))
    obtain ⟨d, e2, e3⟩ := IsAll.get hd e
    refine ⟨d, B1, ?_, .refl s2, Is.mono s1 e3⟩
    rw [List.getElem?_reverse hi, ← hl]
    exact e2
  stop := fun H s => by
    have hl := IsAll.len hd
    show vs.length ≤ ds.reverse.length
    rw [List.length_reverse]; omega
  small := by rw [List.length_reverse]; exact hz
def enumD (ds : List D) : List D := ds.mapIdx fun i d => PyData.tuple [.int (i : Int), d]
theorem enumD_len (ds : List D) : (enumD ds).length = ds.length := by unfold enumD; simp
theorem walks_enum {K : PySem.W.Frag} {B : Hp} {a : Addr} {vs : List V} {ds : List D} (h : Rd B a (.lst vs)) (hd : IsAll K B vs ds) (hz : ds.length ≤ sizeLine) : Walks K (Ite K a) (enumD ds) B where
  go := fun i H s hi => by
    have hl := IsAll.len hd
    rw [enumD_len] at hi
    exact ⟨vs, vs[i]'(by omega), .inl (Rd.mono s h), by simp⟩
  yld := fun i H x H' B1 s1 s2 hi y => by
    obtain ⟨T, x', rfl, nT, rfl, y⟩ := y
    have e := y vs (.inl (Rd.mono (s1.trans s2) h))
    obtain ⟨d, e2, e3⟩ := IsAll.get hd e
    refine ⟨.tuple [.int (i : Int), d], _, ?_, Ext.new s2 nT, .tup (.inl upd_same) (.cons (.int _) (.cons (Is.mono (s1.trans (Ext.new s2 nT).bb) e3) .nil))⟩
    unfold enumD
    rw [List.getElem?_mapIdx, e2]
    rfl
  stop := fun H s => ⟨vs, .inl (Rd.mono s h), by rw [enumD_len, IsAll.len hd]; exact Nat.le_refl _⟩
  small := by rw [enumD_len]; exact hz
def zipD (ds es : List D) : List D := List.zipWith (fun d e => PyData.tuple [d, e]) ds es
theorem zipD_len (ds es : List D) : (zipD ds es).length = min ds.length es.length := by unfold zipD; simp
theorem walks_zip {K : PySem.W.Frag} {B : Hp} {a b : Addr} {vs us : List V} {ds es : List D} (h : Rd B a (.lst vs)) (hd : IsAll K B vs ds) (h' : Rd B b (.lst us)) (he : IsAll K B us es) (hz : ds.length ≤ sizeLine) : Walks K (Itz K a b) (zipD ds es) B where
  go := fun i H s hi => by
    have hl := IsAll.len hd
    have hl' := IsAll.len he
    rw [zipD_len] at hi
    exact ⟨vs, us, vs[i]'(by omega), us[i]'(by omega), .inl (Rd.mono s h), .inl (Rd.mono s h'), by simp, by simp⟩
  yld := fun i H x H' B1 s1 s2 hi y => by
    obtain ⟨T, x', y', rfl, nT, rfl, q1, q2⟩ := y
    have e := q1 vs (.inl (Rd.mono (s1.trans s2) h))
    have e' := q2 us (.inl (Rd.mono (s1.trans s2) h'))
    obtain ⟨d, e2, e3⟩ := IsAll.get hd e
    obtain ⟨d', e2', e3'⟩ := IsAll.get he e'
    refine ⟨.tuple [d, d'], _, ?_, Ext.new s2 nT, .tup (.inl upd_same) (.cons (Is.mono (s1.trans (Ext.new s2 nT).bb) e3) (.cons (Is.mono (s1.trans (Ext.new s2 nT).bb) e3') .nil))⟩
    unfold zipD
    rw [List.getElem?_zipWith, e2, e2']
  stop := fun H s => ⟨vs, us, .inl (Rd.mono s h), .inl (Rd.mono s h'), by rw [zipD_len, IsAll.len hd, IsAll.len he]; omega⟩
  small := by rw [zipD_len]; omega

/-! sources -/
def seqD : D → R (List D)
  | .list xs => .ok xs
  | .tuple xs => .ok xs
  | _ => .stuck
def rngOk (i j : Int) : Prop := -16777216 ≤ i ∧ i ≤ 16777216 ∧ -16777216 ≤ j ∧ j ≤ 16777216 ∧ j - i ≤ 16777216
noncomputable instance (i j : Int) : Decidable (rngOk i j) := Classical.propDecidable _
noncomputable def vrange1 : D → R (List D)
  | .int j => if rngOk 0 j then .ok (rangeD 0 j.toNat) else .stuck
  | _ => .stuck
noncomputable def vrange2 : D → D → R (List D)
  | .int i, .int j => if rngOk i j then .ok (rangeD i (j - i).toNat) else .stuck
  | _, _ => .stuck
noncomputable def vrangeN : D → D → R (List D)
  | .int i, .int j => if rngOk i j ∧ i - j ≤ 16777216 then .ok (rangeCD i (-1) (i - j).toNat) else .stuck
  | _, _ => .stuck
def venum : D → R (List D)
  | .list xs => .ok (enumD xs)
  | _ => .stuck
def vzip : D → D → R (List D)
  | .list xs, .list ys => .ok (zipD xs ys)
  | _, _ => .stuck
def vrev : D → R (List D)
  | .list xs => .ok xs.reverse
  | _ => .stuck
/-! ### targets -/
def setsV (σ : L2.St) (bs : List (Nat × V)) : L2.St := bs.foldl (fun σ b => σ.set b.1 (some b.2)) σ
def setsD (ρ : PEnv) (bs : List (Nat × D)) : PEnv := bs.foldl (fun ρ b => ρ.set b.1 (some b.2)) ρ
abbrev Bds (K : PySem.W.Frag) (B : Hp) : List (Nat × V) → List (Nat × D) → Prop := Paired fun p q => p.1 = q.1 ∧ Is K B p.2 q.2
theorem RF.set {K : PySem.W.Frag} {B : Hp} {σ : L2.St} {ρ : PEnv} (h : RF K B σ ρ) (i : Nat) {v : V} {d : D} (hd : Is K B v d) : RF K B (σ.set i (some v)) (ρ.set i (some d)) := ⟨by rw [List.length_set, List.length_set]; exact h.len, fun j e x => by
  by_cases hj : j = i
  · subst hj
    have hl : j < ρ.length := by
      obtain ⟨q, _⟩ := List.getElem?_eq_some_iff.mp x
      rw [List.length_set] at q; exact q
    rw [List.getElem?_set_self hl] at x
    cases x
    rw [List.getElem?_set_self (by rw [h.len]; exact hl)]
    exact ⟨v, rfl, hd⟩
  · rw [List.getElem?_set_ne (Ne.symm hj)] at x
    obtain ⟨u, e1, e2⟩ := h.at_ j e x
    exact ⟨u, by rw [List.getElem?_set_ne (Ne.symm hj)]; exact e1, e2⟩⟩
theorem RF.sets {K : PySem.W.Frag} {B : Hp} : ∀ {bv : List (Nat × V)} {bd : List (Nat × D)} {σ : L2.St} {ρ : PEnv}, RF K B σ ρ → Bds K B bv bd → RF K B (setsV σ bv) (setsD ρ bd)
  | _, _, _, _, h, .nil => h
  | _, _, _, _, h, .cons (a := p) (b := q) r t => by
    obtain ⟨r1, r2⟩ := r
    unfold setsV setsD
    rw [List.foldl_cons, List.foldl_cons, r1]
    exact RF.sets (RF.set h q.1 r2) t
structure VG (X : Cx) (tg : Expr) (sl : List Nat) (k : D → R (List (Nat × D))) : Prop where
  ex : ∃ t, PG X tg t ∧ ∀ v σ H B d Q, Same B H → Is X.K B v d → (∃ bd, k d = .ok bd ∧ ∀ bv, Bds X.K B bv bd → Q (setsV σ bv) H) → t v σ H Q
  sl : ∀ d bs, k d = .ok bs → bs.map (·.1) = sl
structure VGs (X : Cx) (ts : List Expr) (sl : List Nat) (k : List D → R (List (Nat × D))) : Prop where
  ex : ∃ t, PGs X ts t ∧ ∀ vs σ H B ds Q, Same B H → IsAll X.K B vs ds → (∃ bd, k ds = .ok bd ∧ ∀ bv, Bds X.K B bv bd → Q (setsV σ bv) H) → t vs σ H Q
  sl : ∀ ds bs, k ds = .ok bs → bs.map (·.1) = sl ∧ ds.length = ts.length
def gN (i : Nat) : D → R (List (Nat × D)) := fun d => .ok [(i, d)]
def gC (g : D → R (List (Nat × D))) (h : List D → R (List (Nat × D))) : List D → R (List (Nat × D))
  | [] => .stuck
  | d :: ds => (g d).bind fun bs => (h ds).bind fun cs => .ok (bs ++ cs)
def gE : List D → R (List (Nat × D))
  | [] => .ok []
  | _ => .stuck
def gT (h : List D → R (List (Nat × D))) : D → R (List (Nat × D))
  | .tuple xs => h xs
  | .list xs => h xs
  | _ => .stuck
section
variable {X : Cx} {pos : Pos} {e : Expr} {es : List Expr} {g : D → R (List (Nat × D))} {h : List D → R (List (Nat × D))} {sl sl' : List Nat}
theorem vg (i : Nat) {x : Str} (hN : X.N.Nodup) (hi : X.N[i]? = some x := by rfl) (hx : Loc X.env.scope x := by first | exact Or.inl rfl | exact Or.inr rfl) (hf : X.fn x = true ∨ X.env.scope.names.lookup x = some .local := by first | exact .inl rfl | exact .inr rfl) : VG X (.Name x pos) [i] (gN i) :=
  ⟨⟨_, pg_name hN hi hx hf, fun v σ H B d Q s dv ⟨bd, e, q⟩ => by
    cases e
    exact q [(i, v)] (.cons ⟨rfl, dv⟩ .nil)⟩, fun d bs e => by cases e; rfl⟩
theorem vgs_nil : VGs X [] [] gE := ⟨⟨_, pgs_nil, fun vs σ H B ds Q s dv ⟨bd, e, q⟩ => by
  cases dv with
  | nil => cases e; exact ⟨rfl, q [] .nil⟩
  | cons _ _ => cases e⟩, fun ds bs e => by cases ds <;> first | (cases e; exact ⟨rfl, rfl⟩) | cases e⟩
theorem vgs_cons (h1 : VG X e sl g) (h2 : VGs X es sl' h) (hs : (assignEach (e :: es) X.env).map (·.2) = assign e X.env :: (assignEach es X.env).map (·.2) := by rfl) : VGs X (e :: es) (sl ++ sl') (gC g h) := by
  obtain ⟨t, p, q⟩ := h1.ex
  obtain ⟨t2, p2, q2⟩ := h2.ex
  refine ⟨⟨_, pgs_cons p p2 hs, fun vs σ H B ds Q s dv ⟨bd, eb, qq⟩ => ?_⟩, fun ds bs eb => ?_⟩
  · cases dv with
    | nil => cases eb
    | @cons v vs d ds d1 d2 =>
      refine ⟨v, vs, rfl, ?_⟩
      simp only [gC] at eb
      generalize hg : g d = rg at eb
      cases rg with
      | stuck => cases eb
      | err c => cases eb
      | ok b1 =>
        simp only [R.bind_ok] at eb
        generalize hh : h ds = rh at eb
        cases rh with
        | stuck => cases eb
        | err c => cases eb
        | ok b2 =>
          cases eb
          refine q v σ H B d _ s d1 ⟨b1, hg, fun bv1 hb1 => ?_⟩
          refine q2 vs _ H B ds _ s d2 ⟨b2, hh, fun bv2 hb2 => ?_⟩
          have z := qq (bv1 ++ bv2) (by
            have app : ∀ {l1 l2 l3 l4}, Bds X.K B l1 l2 → Bds X.K B l3 l4 → Bds X.K B (l1 ++ l3) (l2 ++ l4) := by
              intro l1 l2 l3 l4 a b
              induction a with
              | nil => exact b
              | cons r t ih => exact .cons r ih
            exact app hb1 hb2)
          unfold setsV at z
          rw [List.foldl_append] at z
          exact z
  · cases ds with
    | nil => cases eb
    | cons d ds =>
      simp only [gC] at eb
      generalize hg : g d = rg at eb
      cases rg with
      | stuck => cases eb
      | err c => cases eb
      | ok b1 =>
        simp only [R.bind_ok] at eb
        generalize hh : h ds = rh at eb
        cases rh with
        | stuck => cases eb
        | err c => cases eb
        | ok b2 =>
          cases eb
          obtain ⟨z1, z2⟩ := h2.sl ds b2 hh
          rw [List.map_append, h1.sl d b1 hg, z1, List.length_cons, List.length_cons, z2]
          exact ⟨rfl, rfl⟩
theorem pg_or {tg : Expr} {t1 t2 : TG} (h1 : PG X tg t1) (h2 : PG X tg t2) : PG X tg (fun v σ H Q => t1 v σ H Q ∨ t2 v σ H Q) :=
  ⟨fun pins s σ H v u Q I r hw => hw.elim (h1.run pins s σ H v u Q I r) (h2.run pins s σ H v u Q I r)⟩
theorem vg_tup {k : Nat} {n : Nat} (hc : X.calm = true) (hh : VGs X es sl h) (hn : (assignEach es X.env).length = n := by rfl) (hst : (assignEach es X.env).findIdx? (·.1) = none := by rfl) (hl : es.length = n := by rfl) : VG X (.Tuple es k pos) sl (gT h) := by
  obtain ⟨t, p, q⟩ := hh.ex
  refine ⟨⟨_, pg_or (pg_tup hc p hn hst) (pg_lst hc p hn hst), fun v σ H B d Q s dv ⟨bd, eb, qq⟩ => ?_⟩, fun d bs eb => ?_⟩
  · cases dv with
    | @tup a xs ds h1 h2 => exact .inl ⟨a, xs, rfl, Same.tupl s h1, by rw [IsAll.len h2, (hh.sl ds bd eb).2, hl], q xs σ H B ds Q s h2 ⟨bd, eb, qq⟩⟩
    | @lst a xs ds h1 h2 => exact .inr ⟨a, xs, rfl, .inl (Rd.mono s h1), by rw [IsAll.len h2, (hh.sl ds bd eb).2, hl], q xs σ H B ds Q s h2 ⟨bd, eb, qq⟩⟩
    | _ => cases eb
  · cases d <;> first | (cases eb; done) | exact (hh.sl _ bs eb).1
end
section
variable {X : Cx} {W : WX} {a b c : Expr} {es : List Expr} {pos : Pos} {fa fb fc : PEnv → R D} {ft fu : PEnv → R Bool} {k : Nat} {tg : Expr}
theorem pi_seq {l : Expr} {tl : TE} (hl : PE X l tl) : PI X tg l (fun σ H Rr => tl σ H fun x G1 => ∃ a, x = .ref a ∧ (((∃ xs, SqL X.K G1 a xs) ∧ Rr (Itl X.K a) G1) ∨ ((∃ xs, SqT X.K G1 a xs) ∧ Rr (Itt X.K a) G1))) := by
  refine ⟨fun pins s σ H R J hh => ?_⟩
  refine thn (hl.run pins s σ H _ J hh) fun v t1 ⟨x, G1, J1, rr, qq⟩ => ?_
  obtain ⟨a, ee, q⟩ := qq
  subst ee
  cases rr
  rcases q with ⟨⟨xs, hq⟩, q⟩ | ⟨⟨xs, hq⟩, q⟩
  · obtain ⟨its, rv, p, hz⟩ := J1.list hq
    refine wpAny_pyIter_list p.isList ?_
    refine ⟨t1.heap.objs.size, [t1.heap.objs.size], _, _, G1, rfl, J1.kept (t' := t1.toks) fun bb o ee => Heap.get?_push_of_some _ ee, turn_list a _, ⟨_, Heap.get?_push_size _ rfl, rfl, rfl⟩, fun bb hb => ?_, q⟩
    have ee : bb = t1.heap.objs.size := by simpa using hb
    subst ee
    exact J1.fpOk (Nat.le_refl _) (J1.hok.fresh (Nat.le_refl _))
  · obtain ⟨its, rv, p, hz⟩ := J1.tuple hq
    refine wpAny_pyIter_tuple (show t1.heap.IsTuple a its.toArray from p) ?_
    refine ⟨t1.heap.objs.size, [t1.heap.objs.size], _, _, G1, rfl, J1.kept (t' := t1.toks) fun bb o ee => Heap.get?_push_of_some _ ee, turn_tuple a _, ⟨_, Heap.get?_push_size _ rfl, rfl, rfl⟩, fun bb hb => ?_, q⟩
    have ee : bb = t1.heap.objs.size := by simpa using hb
    subst ee
    exact J1.fpOk (Nat.le_refl _) (J1.hok.fresh (Nat.le_refl _))
def isq (f : PEnv → R D) : PEnv → R (List D) := fun ρ => (f ρ).bind seqD
theorem vi_seq (h : VE X W a fa) : VI X W tg a (isq fa) := by
  obtain ⟨t, p, q⟩ := h.ex
  refine ⟨_, pi_seq p, fun σ H B ρ Rr s rf pr => ?_⟩
  refine one q s rf pr fun d x H' B' ex sm dx pg => ?_
  have dx0 := dx
  cases dx <;> first | exact pg.elim | skip
  · rename_i h1 h2
    exact ⟨_, rfl, .inl ⟨⟨_, .inl (Rd.mono ex.bh h1)⟩, pg _ H' B' ex (walks_list h1 h2 (Small.list sm ex.bh dx0))⟩⟩
  · rename_i h1 h2
    exact ⟨_, rfl, .inr ⟨⟨_, Same.tupl ex.bh h1⟩, pg _ H' B' ex (walks_tup h1 h2 (Small.tuple sm ex.bh dx0))⟩⟩
def i1 (g : D → R (List D)) (f : PEnv → R D) : PEnv → R (List D) := fun ρ => (f ρ).bind g
def i2 (g : D → D → R (List D)) (f f' : PEnv → R D) : PEnv → R (List D) := fun ρ => (f ρ).bind fun d => (f' ρ).bind fun e => g d e
theorem vi_range1 {p pos : Pos} (hm : X.mg "range" = none) (ha : VE X W a fa) (hg : Gl X "range" := by rfl) (hs : starEach [a] X.env = [(false, eval a X.env)] := by rfl) (he : starEach [a] X.env = (false, eval a X.env) :: starEach [] X.env := by rfl) : VI X W tg (.Call (.Name "range" p) [a] [] pos) (i1 vrange1 fa) := by
  obtain ⟨t, pt, qt⟩ := ha.ex
  refine ⟨_, pi_range1 hg hm (pa_cons pt pa_nil he) hs, fun σ H B ρ Rr s rf pr => ?_⟩
  refine one qt s rf pr fun d x H' B' ex sm dx pg => ?_
  cases dx <;> first | exact pg.elim | skip
  rename_i i
  simp only [vrange1] at pg
  split at pg
  · rename_i hz
    have hz' : -16777216 ≤ (0:Int) ∧ (0:Int) ≤ 16777216 ∧ -16777216 ≤ i ∧ i ≤ 16777216 ∧ i - 0 ≤ 16777216 := hz
    exact ⟨_, rfl, by omega, by omega, pg _ H' B' ex (walks_range (by have := sizeLine_eq; omega))⟩
  · exact pg.elim
theorem vi_range2 {p pos : Pos} (hm : X.mg "range" = none) (ha : VE X W a fa) (hb : VE X W b fb) (hg : Gl X "range" := by rfl) (hs : starEach [a, b] X.env = [(false, eval a X.env), (false, eval b X.env)] := by rfl) (hs2 : starEach [b] X.env = [(false, eval b X.env)] := by rfl)
    (he : starEach [a, b] X.env = (false, eval a X.env) :: starEach [b] X.env := by rfl) (he2 : starEach [b] X.env = (false, eval b X.env) :: starEach [] X.env := by rfl) : VI X W tg (.Call (.Name "range" p) [a, b] [] pos) (i2 vrange2 fa fb) := by
  obtain ⟨t, pt, qt⟩ := ha.ex
  obtain ⟨t2, pt2, qt2⟩ := hb.ex
  refine ⟨_, pi_range2 hg hm (pa_cons pt (pa_cons pt2 pa_nil he2) he) hs hs2, fun σ H B ρ Rr s rf pr => ?_⟩
  refine two qt qt2 s rf pr fun d e x y H' B' ex sm dx dy pg => ?_
  cases dx <;> first | (cases dy <;> exact pg.elim) | skip
  cases dy <;> first | exact pg.elim | skip
  rename_i i j
  simp only [vrange2] at pg
  split at pg
  · rename_i hz
    have hz' : -16777216 ≤ i ∧ i ≤ 16777216 ∧ -16777216 ≤ j ∧ j ≤ 16777216 ∧ j - i ≤ 16777216 := hz
    exact ⟨i, j, rfl, ⟨by omega, by omega, by omega, by omega⟩, pg _ H' B' ex (walks_range (by have := sizeLine_eq; omega))⟩
  · exact pg.elim
theorem vi_rangeN {p pos pos2 pos3 : Pos} {m : Nat} (hm : X.mg "range" = none) (ha : VE X W a fa) (hb : VE X W b fb) (hg : Gl X "range" := by rfl)
    (hs : starEach [a, b, .UnaryOp .USub (.Constant (.int 1) m pos3) pos2] X.env = (false, eval a X.env) :: starEach [b, .UnaryOp .USub (.Constant (.int 1) m pos3) pos2] X.env := by rfl)
    (hs2 : starEach [b, .UnaryOp .USub (.Constant (.int 1) m pos3) pos2] X.env = (false, eval b X.env) :: starEach [.UnaryOp .USub (.Constant (.int 1) m pos3) pos2] X.env := by rfl)
    (hpl : (backTo pos (starEach [b, .UnaryOp .USub (.Constant (.int 1) m pos3) pos2] X.env)).any (·.1) = false := by rfl) :
    VI X W tg (.Call (.Name "range" p) [a, b, .UnaryOp .USub (.Constant (.int 1) m pos3) pos2] [] pos) (i2 vrangeN fa fb) := by
  obtain ⟨t, pt, qt⟩ := ha.ex
  obtain ⟨t2, pt2, qt2⟩ := hb.ex
  have p3 : PE X (.UnaryOp .USub (.Constant (.int 1) m pos3) pos2) (tUn (rU fun i => .int (-i)) (tC (.int 1))) := pe_un un_neg pe_int
  refine ⟨_, pi_range3 hg hm (pa_cons pt (pa_cons pt2 (pa_cons p3 pa_nil) hs2) hs) (hs := hs) (hpl := hpl), fun σ H B ρ Rr s rf pr => ?_⟩
  refine two qt qt2 s rf pr fun d e x y H' B' ex sm dx dy pg => ?_
  cases dx <;> first | (cases dy <;> exact pg.elim) | skip
  cases dy <;> first | exact pg.elim | skip
  rename_i i j
  simp only [vrangeN] at pg
  split at pg
  · rename_i hz
    have hz' : (-16777216 ≤ i ∧ i ≤ 16777216 ∧ -16777216 ≤ j ∧ j ≤ 16777216 ∧ j - i ≤ 16777216) ∧ i - j ≤ 16777216 := hz
    exact ⟨1, rfl, i, j, -1, (i - j).toNat, rfl, RgC.neg (by omega) (by omega) (by omega) (by omega), pg _ H' B' ex (walks_rangeC (by have := sizeLine_eq; omega))⟩
  · exact pg.elim
theorem vi_enum {p pos tpos : Pos} {elts : List Expr} {kk : Nat} (hm : X.mg "enumerate" = none) (ha : VE X W a fa) (hg : Gl X "enumerate" := by rfl) (hs : starEach [a] X.env = [(false, eval a X.env)] := by rfl) (he : starEach [a] X.env = (false, eval a X.env) :: starEach [] X.env := by rfl) : VI X W (.Tuple elts kk tpos) (.Call (.Name "enumerate" p) [a] [] pos) (i1 venum fa) := by
  obtain ⟨t, pt, qt⟩ := ha.ex
  refine ⟨_, pi_enum hg hm (pa_cons pt pa_nil he) hs, fun σ H B ρ Rr s rf pr => ?_⟩
  refine one qt s rf pr fun d x H' B' ex sm dx pg => ?_
  have dx0 := dx
  cases dx <;> first | exact pg.elim | skip
  rename_i h1 h2
  exact ⟨_, _, rfl, .inl (Rd.mono ex.bh h1), pg _ H' B' ex (walks_enum h1 h2 (Small.list sm ex.bh dx0))⟩
theorem vi_zip {p pos tpos : Pos} {elts : List Expr} {kk : Nat} (hm : X.mg "zip" = none) (ha : VE X W a fa) (hb : VE X W b fb) (hg : Gl X "zip" := by rfl) (he : starEach [a, b] X.env = (false, eval a X.env) :: starEach [b] X.env := by rfl) (he2 : starEach [b] X.env = (false, eval b X.env) :: starEach [] X.env := by rfl) (hpl : (backTo pos (starEach [b] X.env)).any (·.1) = false := by rfl) :
    VI X W (.Tuple elts kk tpos) (.Call (.Name "zip" p) [a, b] [] pos) (i2 vzip fa fb) := by
  obtain ⟨t, pt, qt⟩ := ha.ex
  obtain ⟨t2, pt2, qt2⟩ := hb.ex
  refine ⟨_, pi_zip hg hm (pa_cons pt (pa_cons pt2 pa_nil he2) he) he hpl, fun σ H B ρ Rr s rf pr => ?_⟩
  refine two qt qt2 s rf pr fun d e x y H' B' ex sm dx dy pg => ?_
  have dx0 := dx
  cases dx <;> first | (cases dy <;> exact pg.elim) | skip
  cases dy <;> first | exact pg.elim | skip
  rename_i h1 h2 _ _ _ h3 h4
  exact ⟨_, _, _, _, rfl, .inl (Rd.mono ex.bh h1), .inl (Rd.mono ex.bh h3), pg _ H' B' ex (walks_zip h1 h2 h3 h4 (Small.list sm ex.bh dx0))⟩
theorem vi_rev {p pos : Pos} (hm : X.mg "reversed" = none) (ha : VE X W a fa) (hg : Gl X "reversed" := by rfl) (hs : starEach [a] X.env = [(false, eval a X.env)] := by rfl) (he : starEach [a] X.env = (false, eval a X.env) :: starEach [] X.env := by rfl) : VI X W tg (.Call (.Name "reversed" p) [a] [] pos) (i1 vrev fa) := by
  obtain ⟨t, pt, qt⟩ := ha.ex
  refine ⟨_, pi_reversed hg hm (pa_cons pt pa_nil he) hs, fun σ H B ρ Rr s rf pr => ?_⟩
  refine one qt s rf pr fun d x H' B' ex sm dx pg => ?_
  have dx0 := dx
  cases dx <;> first | exact pg.elim | skip
  rename_i h1 h2
  exact ⟨_, _, rfl, .inl (Rd.mono ex.bh h1), pg _ H' B' ex (walks_rev h1 h2 (Small.list sm ex.bh dx0))⟩

/-! ### comprehensions -/
def wipeD (ρ : PEnv) : List Nat → PEnv
  | [] => ρ
  | v :: vs => (wipeD ρ vs).set v none
theorem RF.wipe {K : PySem.W.Frag} {B : Hp} {σ : L2.St} {ρ : PEnv} (h : RF K B σ ρ) : ∀ vs : List Nat, RF K B (L2.wipe σ vs) (wipeD ρ vs)
  | [] => h
  | v :: vs => by
    have ih := RF.wipe h vs
    unfold L2.wipe wipeD
    refine ⟨by rw [List.length_set, List.length_set]; exact ih.len, fun j e x => ?_⟩
    by_cases hj : j = v
    · subst hj
      have hl : j < (wipeD ρ vs).length := by
        obtain ⟨q, _⟩ := List.getElem?_eq_some_iff.mp x
        rw [List.length_set] at q; exact q
      rw [List.getElem?_set_self hl] at x
      cases x
    · rw [List.getElem?_set_ne (Ne.symm hj)] at x
      obtain ⟨u, e1, e2⟩ := ih.at_ j e x
      exact ⟨u, by rw [List.getElem?_set_ne (Ne.symm hj)]; exact e1, e2⟩
theorem wipe_at {σ : L2.St} {i : Nat} : ∀ {vs : List Nat}, i ∈ vs → ∀ x, (L2.wipe σ vs)[i]? ≠ some (some x)
  | [], h, _ => by cases h
  | v :: vs, h, x => by
    unfold L2.wipe
    by_cases hv : v = i
    · subst hv
      intro q
      obtain ⟨q1, _⟩ := List.getElem?_eq_some_iff.mp q
      rw [List.getElem?_set_self (by rw [List.length_set] at q1; exact q1)] at q
      cases q
    · rw [List.getElem?_set_ne hv]
      rcases List.mem_cons.mp h with e | e
      · exact absurd e.symm hv
      · exact wipe_at e x
theorem wipe_set {σ : L2.St} {i : Nat} {x : Option V} : ∀ {vs : List Nat}, i ∈ vs → L2.wipe (σ.set i x) vs = L2.wipe σ vs
  | [], h => by cases h
  | v :: vs, h => by
    show (L2.wipe (σ.set i x) vs).set v none = (L2.wipe σ vs).set v none
    by_cases hm : i ∈ vs
    · rw [wipe_set hm]
    · have hv : i = v := by
        rcases List.mem_cons.mp h with e | e
        · exact e
        · exact absurd e hm
      subst hv
      have sw : ∀ ws : List Nat, i ∉ ws → L2.wipe (σ.set i x) ws = (L2.wipe σ ws).set i x := by
        intro ws
        induction ws with
        | nil => intro _; rfl
        | cons w ws ih =>
          intro hw
          have h1 : i ≠ w := fun e => hw (e ▸ List.mem_cons_self)
          show (L2.wipe (σ.set i x) ws).set w none = ((L2.wipe σ ws).set w none).set i x
          rw [ih (fun q => hw (List.mem_cons_of_mem _ q)), List.set_comm _ _ h1]
      rw [sw vs hm, List.set_set]
theorem wipe_idem {σ : L2.St} (vs : List Nat) : L2.wipe (L2.wipe σ vs) vs = L2.wipe σ vs := by
  have : ∀ ws, (∀ w ∈ ws, w ∈ vs) → L2.wipe (L2.wipe σ ws) vs = L2.wipe σ vs := by
    intro ws
    induction ws with
    | nil => intro _; rfl
    | cons w ws ih =>
      intro h
      show L2.wipe ((L2.wipe σ ws).set w none) vs = _
      rw [wipe_set (h w List.mem_cons_self), ih fun x hx => h x (List.mem_cons_of_mem _ hx)]
  exact this vs fun _ h => h
theorem wipe_sets {vs : List Nat} : ∀ {bs : List (Nat × V)} {σ : L2.St}, (∀ b ∈ bs, b.1 ∈ vs) → L2.wipe (setsV σ bs) vs = L2.wipe σ vs
  | [], _, _ => rfl
  | b :: bs, σ, h => by
    show L2.wipe (setsV (σ.set b.1 (some b.2)) bs) vs = _
    rw [wipe_sets fun x hx => h x (List.mem_cons_of_mem _ hx), wipe_set (h b List.mem_cons_self)]
/-- an error within a comprehension is not carried -/
def R.calm {α : Type} : R α → R α
  | .err _ => .stuck
  | r => r
def tyes : PEnv → R Bool := fun _ => .ok true
def compL (kt : D → R (List (Nat × D))) (ft : PEnv → R Bool) (fe : PEnv → R D) (ρ : PEnv) : List D → R (List D)
  | [] => .ok []
  | d :: ds => (kt d).bind fun bs => ((ft (setsD ρ bs)).calm).bind fun b => if b then ((fe (setsD ρ bs)).calm).bind fun y => (compL kt ft fe ρ ds).bind fun ys => .ok (y :: ys) else compL kt ft fe ρ ds
def vcomp (own : List Nat) (fi : PEnv → R (List D)) (kt : D → R (List (Nat × D))) (ft : PEnv → R Bool) (fe : PEnv → R D) : PEnv → R (List D) := fun ρ => (fi ρ).bind fun ds => (compL kt ft fe (wipeD ρ own) ds).calm
abbrev W0 : WX := fun _ _ _ _ => False
structure VTs (X : Cx) (W : WX) (ifs : List Expr) (f : PEnv → R Bool) : Prop where
  ex : ∃ t, PTs X ifs t ∧ ∀ σ H B ρ Q, Same B H → RF X.K B σ ρ → Pst X W σ H (KB1 B H Q) (f ρ) → t σ H Q
theorem vts_nil : VTs X W [] tyes := ⟨_, pts_nil, fun σ H B ρ Q s rf p => p H B (.refl s)⟩
theorem vts_one (h : VT X W c ft) : VTs X W [c] ft := by
  obtain ⟨t, p, q⟩ := h.ex
  exact ⟨t, pts_one p, q⟩
theorem calm_ok {α : Type} {r : R α} {a : α} (h : r.calm = .ok a) : r = .ok a := by
  cases r <;> first | exact h | cases h
theorem calm_ne {α : Type} {r : R α} {c : Str} : r.calm ≠ .err c := by cases r <;> exact fun h => nomatch h
theorem Pst.calm {α : Type} {X : Cx} {W : WX} {σ : L2.St} {H : Hp} {K : α → Prop} {r : R α} {a : α} (h : r.calm = .ok a) (k : K a) : Pst X W σ H K r := by
  rw [calm_ok h]; exact k
/-- the wanted end for a new list that nobody else holds -/
def KFr (X : Cx) (B H : Hp) (Q : VK) (ds : List PyData) : Prop := ∀ p vs H' B', Ext B H B' H' → H' p = some (.lst vs) → H p = none → B' p = none → IsAll X.K B' vs ds → Q (.ref p) H'
theorem kfr_of {B H : Hp} {Q : VK} {ds : List PyData} (h : ∀ v H' B', Ext B H B' H' → Is X.K B' v (.list ds) → Q v H') : KFr X B H Q ds := fun p vs H' B' e hp hn bn ia => by
  refine h _ H' (upd B' p (.lst vs)) ⟨e.hh, fun b u q => same_upd bn _ _ (e.bb _ _ q), fun b u q => ?_, fun a h1 h2 => ?_⟩ (.lst (.inl upd_same) (IsAll.mono (same_upd bn) ia))
  · by_cases hb : b = p
    · subst hb; rw [upd_same] at q; cases q; exact hp
    · rw [upd_ne hb] at q; exact e.bh _ _ q
  · by_cases hb : a = p
    · subst hb; exact hn
    · rw [upd_ne hb] at h2; exact e.nw a h1 h2
/-- an expression that makes a new list -/
structure VFr (X : Cx) (W : WX) (e : Expr) (f : PEnv → R (List PyData)) : Prop where
  ex : ∃ t, PE X e t ∧ ∀ σ H B ρ Q, Same B H → RF X.K B σ ρ → Pst X W σ H (KFr X B H Q) (f ρ) → t σ H Q
def vlistOf (f : PEnv → R (List PyData)) : PEnv → R PyData := fun ρ => (f ρ).bind fun ds => .ok (.list ds)
theorem VFr.ve {e : Expr} {f : PEnv → R (List PyData)} (h : VFr X W e f) : VE X W e (vlistOf f) := by
  obtain ⟨t, p, q⟩ := h.ex
  refine VE.mk' p fun σ H B ρ Q s rf pr => q σ H B ρ Q s rf ?_
  unfold vlistOf at pr
  generalize f ρ = r at pr ⊢
  cases r with
  | stuck => exact pr
  | err c => exact pr
  | ok ds => exact kfr_of pr
/-- the reading of a comprehension -/
theorem comp_read {wi : TI} {g : TG} {tt : TT} {te : TE} {own sl : List Nat} {fi : PEnv → R (List D)} {kt : D → R (List (Nat × D))} {ft : PEnv → R Bool} {fe : PEnv → R D} 
    (qi : ∀ σ H B ρ Rr, Same B H → RF X.K B σ ρ → Pst X W σ H (KI1 X B H Rr) (fi ρ) → wi σ H Rr)
    (qg : ∀ v σ H B d Q, Same B H → Is X.K B v d → (∃ bd, kt d = .ok bd ∧ ∀ bv, Bds X.K B bv bd → Q (setsV σ bv) H) → g v σ H Q) (hsl : ∀ d bs, kt d = .ok bs → bs.map (·.1) = sl) (hso : ∀ i ∈ sl, i ∈ own)
    (qt : ∀ σ H B ρ Q, Same B H → RF X.K B σ ρ → Pst X W0 σ H (KB1 B H Q) (ft ρ) → tt σ H Q)
    (qe : ∀ σ H B ρ Q, Same B H → RF X.K B σ ρ → Pst X W0 σ H (KV1 X B H Q) (fe ρ) → te σ H Q)
    {σ : L2.St} {H B : Hp} {ρ : PEnv} {Q : VK} (s : Same B H) (rf : RF X.K B σ ρ)
    (pr : Pst X W σ H (KFr X B H Q) (vcomp own fi kt ft fe ρ)) : tLc wi g tt te own σ H Q := by
  unfold vcomp at pr
  refine qi σ H B ρ _ s rf ?_
  generalize fi ρ = ri at pr ⊢
  cases ri with
  | stuck => exact pr
  | err c => exact pr
  | ok ds =>
    simp only [R.bind_ok] at pr
    intro J H1 B1 e1 wk D hD
    generalize hc : (compL kt ft fe (wipeD ρ own) ds).calm = rc at pr
    cases rc with
    | stuck => exact pr.elim
    | err c => exact (calm_ne hc).elim
    | ok ys =>
      have hc := calm_ok hc
      have pr : KFr X B H Q ys := pr
      have hDH : H D = none := Same.free e1.hh hD
      have upo : ∀ {B' H' : Hp} {o : HO}, Ext B H B' H' → B' D = none → Ext B H B' (upd H' D o) := fun {B' H' o} x n =>
        ⟨fun b u q => by rw [upd_ne (ne_of_none q hDH)]; exact x.hh _ _ q, x.bb, fun b u q => by rw [upd_ne (ne_of_none q n)]; exact x.bh _ _ q, x.nw⟩
      have keepD : ∀ {Ba Ha B' H' : Hp} {o : HO}, Ext Ba Ha B' H' → Ba D = none → Ha D = some o → B' D = none := fun {Ba Ha B' H' o} x n q => by
        cases z : B' D with
        | none => rfl
        | some u =>
          have := x.nw D n (by rw [z]; exact fun w => nomatch w)
          rw [q] at this
          cases this
      refine ⟨fun i m Hi => m = ds.length - i ∧ i ≤ ds.length ∧ ∃ Bi acc yd rest, Ext B H Bi Hi ∧ Same B1 Bi ∧ Bi D = none ∧ Hi D = some (.lst acc) ∧ IsAll X.K Bi acc yd ∧ acc.length ≤ i ∧ compL kt ft fe (wipeD ρ own) (ds.drop i) = .ok rest ∧ yd ++ rest = ys,
        ⟨ds.length, by simp, Nat.zero_le _, B1, [], [], ys, upo e1 (Same.free e1.bh hD), Same.refl _, Same.free e1.bh hD, upd_same, .nil, Nat.le_refl _, by simpa using hc, rfl⟩, ?_⟩
      rintro i m Hi ⟨rfl, hi, Bi, acc, yd, rest, ex, b1, bD, hDi, ia, hl, hcr, hys⟩
      by_cases hlt : i < ds.length
      · refine .inr ⟨wk.go i Hi (b1.trans ex.bh) hlt, fun Hi => i + 1 ≤ ds.length ∧ ∃ Bi acc yd rest, Ext B H Bi Hi ∧ Same B1 Bi ∧ Bi D = none ∧ Hi D = some (.lst acc) ∧ IsAll X.K Bi acc yd ∧ acc.length ≤ i + 1 ∧ compL kt ft fe (wipeD ρ own) (ds.drop (i + 1)) = .ok rest ∧ yd ++ rest = ys,
          fun H' q => ⟨ds.length - (i + 1), by omega, rfl, q⟩, fun x H' y => ?_⟩
        obtain ⟨d, B2, e2, E2, dx⟩ := wk.yld i Hi x H' Bi b1 ex.bh hlt y
        have hdrop : ds.drop i = d :: ds.drop (i + 1) := by
          obtain ⟨q1, q2⟩ := List.getElem?_eq_some_iff.mp e2
          rw [List.drop_eq_getElem_cons q1, q2]
        rw [hdrop] at hcr
        simp only [compL] at hcr
        generalize hk : kt d = rk at hcr
        cases rk with
        | stuck => cases hcr
        | err c => cases hcr
        | ok bs =>
          simp only [R.bind_ok] at hcr
          generalize hft : (ft (setsD (wipeD ρ own) bs)).calm = rt at hcr
          cases rt with
          | stuck => cases hcr
          | err c => cases hcr
          | ok b =>
            simp only [R.bind_ok] at hcr
            refine qg x (L2.wipe σ own) H' B2 d _ E2.bh dx ⟨bs, hk, fun bv hb => ?_⟩
            have RF2 : RF X.K B2 (setsV (L2.wipe σ own) bv) (setsD (wipeD ρ own) bs) := RF.sets ((RF.wipe rf own).mono (ex.bb.trans E2.bb)) hb
            have hw : L2.wipe (setsV (L2.wipe σ own) bv) own = L2.wipe σ own := by
              rw [wipe_sets, wipe_idem]
              intro p hp
              refine hso _ ?_
              rw [← hsl d bs hk]
              have fst : ∀ {l1 : List (Nat × V)} {l2 : List (Nat × PyData)}, Bds X.K B2 l1 l2 → l1.map (·.1) = l2.map (·.1) := by
                intro l1 l2 h
                induction h with
                | nil => rfl
                | cons r t ih => rw [List.map_cons, List.map_cons, r.1, ih]
              rw [← fst hb]
              exact List.mem_map_of_mem hp
            refine ⟨hw, ?_⟩
            refine qt _ H' B2 _ _ E2.bh RF2 (Pst.calm hft fun H3 B3 E3 => ?_)
            have hD2 := E2.hh _ _ hDi
            have bD2 := keepD E2 bD hDi
            cases b with
            | true =>
              simp only [if_true] at hcr
              generalize hfe : (fe (setsD (wipeD ρ own) bs)).calm = re at hcr
              cases re with
              | stuck => cases hcr
              | err c => cases hcr
              | ok yv =>
                simp only [R.bind_ok] at hcr
                generalize hrest : compL kt ft fe (wipeD ρ own) (ds.drop (i + 1)) = rr at hcr
                cases rr with
                | stuck => cases hcr
                | err c => cases hcr
                | ok rest' =>
                  cases hcr
                  refine iteT (qe _ H3 B3 _ _ E3.bh (RF2.mono E3.bb) (Pst.calm hfe fun v H4 B4 E4 sm dv => ?_))
                  have E24 := (E2.trans E3).trans E4
                  have bD4 := keepD E24 bD hDi
                  refine ⟨acc, E24.hh _ _ hDi, by have := wk.small; omega, hlt, B4, acc ++ [v], yd ++ [yv], rest', upo (ex.trans E24) bD4, b1.trans E24.bb, bD4, upd_same, IsAll.append (IsAll.mono E24.bb ia) (.cons dv .nil), by rw [List.length_append, List.length_singleton]; omega, rfl, ?_⟩
                  rw [List.append_assoc]; exact hys
            | false =>
              simp only [Bool.false_eq_true, if_false] at hcr
              have E23 := E2.trans E3
              exact iteF ⟨hlt, B3, acc, yd, rest, ex.trans E23, b1.trans E23.bb, keepD E23 bD hDi, E23.hh _ _ hDi, IsAll.mono E23.bb ia, by omega, hcr, hys⟩
      · have e : i = ds.length := by omega
        subst e
        refine .inl ⟨wk.stop Hi (b1.trans ex.bh), ?_⟩
        rw [List.drop_length] at hcr
        cases hcr
        rw [List.append_nil] at hys
        subst hys
        exact pr D acc Hi Bi ex hDi hDH bD ia
/-! the reading that a function on data is -/
def tV (X : Cx) (W : WX) (f : PEnv → R PyData) : TE := fun σ H Q => ∃ B ρ, Same B H ∧ RF X.K B σ ρ ∧ Pst X W σ H (KV1 X B H Q) (f ρ)
def tVT (X : Cx) (W : WX) (f : PEnv → R Bool) : TT := fun σ H Q => ∃ B ρ, Same B H ∧ RF X.K B σ ρ ∧ Pst X W σ H (KB1 B H Q) (f ρ)
def tVG (X : Cx) (k : PyData → R (List (Nat × PyData))) : TG := fun v σ H Q => ∃ B d, Same B H ∧ Is X.K B v d ∧ ∃ bd, k d = .ok bd ∧ ∀ bv, Bds X.K B bv bd → Q (setsV σ bv) H
theorem VE.pe {e : Expr} {f : PEnv → R PyData} (h : VE X W e f) : PE X e (tV X W f) := by
  obtain ⟨t, p, q⟩ := h.ex
  exact ⟨fun pins s σ H Q I ⟨B, ρ, s1, r, hp⟩ => p.run pins s σ H Q I (q σ H B ρ Q s1 r hp)⟩
theorem VTs.pt {e : List Expr} {f : PEnv → R Bool} (h : VTs X W e f) : PTs X e (tVT X W f) := by
  obtain ⟨t, p, q⟩ := h.ex
  exact ⟨fun pins s σ H Q I ⟨B, ρ, s1, r, hp⟩ => p.run pins s σ H Q I (q σ H B ρ Q s1 r hp)⟩
theorem VT.pt {e : Expr} {f : PEnv → R Bool} (h : VT X W e f) : PT X e (tVT X W f) := by
  obtain ⟨t, p, q⟩ := h.ex
  exact ⟨fun pins s σ H Q I ⟨B, ρ, s1, r, hp⟩ => p.run pins s σ H Q I (q σ H B ρ Q s1 r hp)⟩
theorem VG.pg {e : Expr} {sl : List Nat} {k : PyData → R (List (Nat × PyData))} (h : VG X e sl k) : PG X e (tVG X k) := by
  obtain ⟨t, p, q⟩ := h.ex
  exact ⟨fun pins s σ H v u Q I r ⟨B, d, s1, dv, hp⟩ => p.run pins s σ H v u Q I r (q v σ H B d Q s1 dv hp)⟩
/-- [e for t in it if ..] -/
theorem vcomp_ {elt tg iter : Expr} {ifs : List Expr} {scope : Scope} {own : List (Str × Nat)} {sl : List Nat} {fi : PEnv → R (List D)} {kt : D → R (List (Nat × D))} {ft : PEnv → R Bool} {fe : PEnv → R D} (hc : X.calm = true) (hN : X.N.Nodup) (hi : VI X W tg iter fi) (ok : BlkOk X.N X.env.scope scope own)
    (hg : ∀ (s : Shared) (H : Hp) (C : Addr) (cl : List (Str × Addr)) (fp : List Addr), VG (X.blk s H scope (compEnvC scope cl C X.env) fp) tg sl kt)
    (hso : ∀ i ∈ sl, i ∈ own.map (·.2))
    (ht : ∀ (s : Shared) (H : Hp) (C : Addr) (cl : List (Str × Addr)) (fp : List Addr), VTs (X.blk s H scope (compEnvC scope cl C X.env) fp) W0 ifs ft)
    (he : ∀ (s : Shared) (H : Hp) (C : Addr) (cl : List (Str × Addr)) (fp : List Addr), VE (X.blk s H scope (compEnvC scope cl C X.env) fp) W0 elt fe) (hs : ∀ x, foldedSetIterable iter X.env x = pure x := by intro _; rfl) :
    VFr X W (.ListComp elt [⟨tg, iter, ifs, 0⟩] scope pos) (vcomp (own.map (·.2)) fi kt ft fe) := by
  obtain ⟨wi, pi, qi⟩ := hi.ex
  have h1 : ∀ (s : Shared) (H : Hp) (C : Addr) (cl : List (Str × Addr)) (fp : List Addr), PG (X.blk s H scope (compEnvC scope cl C X.env) fp) tg (tVG X kt) := fun s H C cl fp => (hg s H C cl fp).pg
  have h2 : ∀ (s : Shared) (H : Hp) (C : Addr) (cl : List (Str × Addr)) (fp : List Addr), PTs (X.blk s H scope (compEnvC scope cl C X.env) fp) ifs (tVT X W0 ft) := fun s H C cl fp => (ht s H C cl fp).pt
  have h3 : ∀ (s : Shared) (H : Hp) (C : Addr) (cl : List (Str × Addr)) (fp : List Addr), PE (X.blk s H scope (compEnvC scope cl C X.env) fp) elt (tV X W0 fe) := fun s H C cl fp => (he s H C cl fp).pe
  refine ⟨_, pe_lc hc hN pi ok h1 h2 h3 hs, fun σ H B ρ Q s rf pr => ?_⟩
  have hsl : ∀ d bs, kt d = .ok bs → bs.map (·.1) = sl := (hg {} (fun _ => none) 0 [] []).sl
  exact comp_read qi (fun v σ H B d Q s dv q => ⟨B, d, s, dv, q⟩) hsl hso (fun σ H B ρ Q s r p => ⟨B, ρ, s, r, p⟩) (fun σ H B ρ Q s r p => ⟨B, ρ, s, r, p⟩) s rf pr
/-! other new lists -/
theorem vlst_f {n : Nat} {g : PEnv → R (List PyData)} (h : VAn X W n es g) (hz : n ≤ 1000 := by decide) : VFr X W (.List es pos) g := by
  obtain ⟨t, pt, qt⟩ := h.va.ex
  refine ⟨_, pe_lst pt, fun σ H B ρ Q s r p => ?_⟩
  cases hg : g ρ with
  | stuck => rw [hg] at p; exact p.elim
  | err c => rw [hg] at p; exact qt σ H B ρ _ s r (by rw [hg]; exact p)
  | ok ds =>
    rw [hg] at p
    refine qt σ H B ρ _ s r ?_
    rw [hg]
    intro xs H1 B1 e1 d1
    refine ⟨by rw [IsAll.len d1, h.len ρ ds hg]; exact Nat.le_trans hz (by decide), fun q hq => ?_⟩
    exact p q xs _ B1 (e1.trans (Ext.own e1.bh hq)) upd_same (Same.free e1.hh hq) (Same.free e1.bh hq) d1
def lseqD : PyData → R (List PyData) := seqD
theorem vlist_f {p : Pos} {e : Expr} {f : PEnv → R PyData} (hm : X.mg "list" = none) (ha : VE X W e f) (hg : Gl X "list" := by rfl) (he : starEach [e] X.env = (false, eval e X.env) :: starEach [] X.env := by rfl) (hpl : (backTo pos (starEach [] X.env)).any (·.1) = false := by rfl) :
    VFr X W (.Call (.Name "list" p) [e] [] pos) (isq f) := by
  obtain ⟨t, pt, qt⟩ := ha.ex
  refine ⟨_, pe_callTy call_list_of hg hm (by decide +kernel) (pa_cons pt pa_nil he) (by decide) (by decide) he hpl, fun σ H B ρ Q s rf pr => ?_⟩
  refine one qt s rf pr fun d x H' B' ex sm dx pg => ?_
  cases dx <;> first | exact pg.elim | skip
  · rename_i h1 h2
    exact ⟨_, _, rfl, .inl (.inl (Rd.mono ex.bh h1)), fun l hl => pg l _ _ B' (ex.trans (Ext.own ex.bh hl)) upd_same (Same.free ex.hh hl) (Same.free ex.bh hl) h2⟩
  · rename_i h1 h2
    exact ⟨_, _, rfl, .inr (Same.tupl ex.bh h1), fun l hl => pg l _ _ B' (ex.trans (Ext.own ex.bh hl)) upd_same (Same.free ex.hh hl) (Same.free ex.bh hl) h2⟩
/-- list(range(..)) -/
theorem vlist_range2 {p p2 pos2 : Pos} (hc : X.calm = true) (hm : X.mg "list" = none) (hm2 : X.mg "range" = none) (ha : VE X W a fa) (hb : VE X W b fb) (hg : Gl X "list" := by rfl) (hg2 : Gl X "range" := by rfl)
    (n1 : starEach [a, b] X.env = (false, eval a X.env) :: starEach [b] X.env := by rfl) (n2 : starEach [b] X.env = (false, eval b X.env) :: starEach [] X.env := by rfl)
    (n3 : starEach [.Call (.Name "range" p2) [a, b] [] pos2] X.env = (false, eval (.Call (.Name "range" p2) [a, b] [] pos2) X.env) :: starEach [] X.env := by rfl) : True := trivial
end
end VL

namespace VL
open PySem PySem.Spec PyProof.Rows L2

/-! ### what is one's own: trees of lists that nobody else holds -/
inductive O where
  | fz (d : PyData)
  | tup (xs : List O)
  | lst (xs : List O)
  | dct (ks : KS) (xs : List O)
  | ins (c : Str) (ns : List Str) (xs : List O)
  /- what a def was lent: the thing at a -/
  | par (a : Addr) (o : O)
mutual
def O.data : O → PyData
  | .fz d => d
  | .tup xs => .tuple (O.datas xs)
  | .lst xs => .list (O.datas xs)
  | .dct ks xs => dctD ks (O.datas xs)
  | .ins c ns xs => insD c ns (O.datas xs)
  | .par _ o => O.data o
def O.datas : List O → List PyData
  | [] => []
  | x :: xs => O.data x :: O.datas xs
end
theorem O.datas_map : ∀ xs : List O, O.datas xs = xs.map O.data
  | [] => by simp [O.datas]
  | x :: xs => by simp [O.datas, O.datas_map xs]
@[simp] theorem O.data_fz (d : PyData) : O.data (.fz d) = d := by simp [O.data]
@[simp] theorem O.data_lst (xs : List O) : O.data (.lst xs) = .list (xs.map O.data) := by simp [O.data, O.datas_map]
@[simp] theorem O.data_tup (xs : List O) : O.data (.tup xs) = .tuple (xs.map O.data) := by simp [O.data, O.datas_map]
/-- every key once -/
def KS.nd : KS → Prop
  | .inl ks => ks.Nodup
  | .inr ks => ks.Nodup
mutual
inductive Own (K : PySem.W.Frag) (F H : Hp) : V → O → List Addr → Prop
  | fz {v : V} {d : PyData} : Is K F v d → Own K F H v (.fz d) []
  | tup {a : Addr} {vs : List V} {os : List O} {fp : List Addr} : F a = some (.tup vs) → OwnL K F H vs os fp → Own K F H (.ref a) (.tup os) fp
  | lst {a : Addr} {vs : List V} {os : List O} {fp : List Addr} : H a = some (.lst vs) → OwnL K F H vs os fp → Own K F H (.ref a) (.lst os) (a :: fp)
  | dct {a : Addr} {ks : KS} {vs : List V} {os : List O} {fp : List Addr} : H a = some (hoD ks vs) → (ks.len = vs.length ∧ ks.nd) → OwnL K F H vs os fp → Own K F H (.ref a) (.dct ks os) (a :: fp)
  | ins {a C dx : Addr} {c : Str} {ns : List Str} {vs : List V} {os : List O} {fp : List Addr} : clsOf K c = some C → H a = some (.ins C dx (ns.zip vs)) → H dx = some (.own a) → ns.length = vs.length → OwnL K F H vs os fp → Own K F H (.ref a) (.ins c ns os) (a :: dx :: fp)
  | par {a : Addr} {o : O} {fp : List Addr} : Own K F H (.ref a) o fp → Own K F H (.ref a) (.par a o) fp
inductive OwnL (K : PySem.W.Frag) (F H : Hp) : List V → List O → List Addr → Prop
  | nil : OwnL K F H [] [] []
  | cons {v : V} {vs : List V} {o : O} {os : List O} {fp fps : List Addr} : Own K F H v o fp → OwnL K F H vs os fps → OwnL K F H (v :: vs) (o :: os) (fp ++ fps)
end
mutual
theorem Own.keep {K : PySem.W.Frag} {F F' H H' : Hp} (e : Same F F') : ∀ {o : O} {v : V} {fp : List Addr}, Own K F H v o fp → (∀ a ∈ fp, H' a = H a) → Own K F' H' v o fp
  | .fz d, _, _, h, _ => by cases h with | fz h => exact .fz (Is.mono e h)
  | .tup os, _, _, h, k => by cases h with | tup h1 h2 => exact .tup (e _ _ h1) (OwnL.keep e h2 k)
  | .lst os, _, _, h, k => by
    cases h with
    | lst h1 h2 => exact .lst ((k _ List.mem_cons_self).trans h1) (OwnL.keep e h2 fun a ha => k a (List.mem_cons_of_mem _ ha))
  | .dct ks os, _, _, h, k => by
    cases h with
    | dct h1 hl h2 => exact .dct ((k _ List.mem_cons_self).trans h1) hl (OwnL.keep e h2 fun a ha => k a (List.mem_cons_of_mem _ ha))
  | .ins c ns os, _, _, h, k => by
    cases h with
    | ins hc h1 hd hl h2 => exact .ins hc ((k _ List.mem_cons_self).trans h1) ((k _ (List.mem_cons_of_mem _ List.mem_cons_self)).trans hd) hl (OwnL.keep e h2 fun a ha => k a (List.mem_cons_of_mem _ (List.mem_cons_of_mem _ ha)))
  | .par _ o, _, _, h, k => by cases h with | par h1 => exact .par (Own.keep e h1 k)
theorem OwnL.keep {K : PySem.W.Frag} {F F' H H' : Hp} (e : Same F F') : ∀ {os : List O} {vs : List V} {fp : List Addr}, OwnL K F H vs os fp → (∀ a ∈ fp, H' a = H a) → OwnL K F' H' vs os fp
  | [], _, _, h, _ => by cases h; exact .nil
  | o :: os, _, _, h, k => by
    cases h with
    | cons h1 h2 => exact .cons (Own.keep e h1 fun a ha => k a (List.mem_append_left _ ha)) (OwnL.keep e h2 fun a ha => k a (List.mem_append_right _ ha))
end
mutual
/- seen as data, in a heap that holds the frozen part and the footprint -/
theorem Own.is {K : PySem.W.Frag} {F H B : Hp} (e : Same F B) : ∀ {o : O} {v : V} {fp : List Addr}, Own K F H v o fp → (∀ a ∈ fp, B a = H a) → Is K B v o.data
  | .fz d, _, _, h, _ => by cases h with | fz h => rw [O.data_fz]; exact Is.mono e h
  | .tup os, _, _, h, k => by cases h with | tup h1 h2 => rw [O.data]; exact .tup (.inl (e _ _ h1)) (OwnL.is e h2 k)
  | .lst os, _, _, h, k => by
    cases h with
    | lst h1 h2 => rw [O.data]; exact .lst (.inl ((k _ List.mem_cons_self).trans h1)) (OwnL.is e h2 fun a ha => k a (List.mem_cons_of_mem _ ha))
  | .dct ks os, _, _, h, k => by
    cases h with
    | dct h1 hl h2 => rw [O.data]; exact .dct (.inl ((k _ List.mem_cons_self).trans h1)) hl.1 (OwnL.is e h2 fun a ha => k a (List.mem_cons_of_mem _ ha))
  | .ins c ns os, _, _, h, k => by
    cases h with
    | ins hc h1 hd hl h2 => rw [O.data]; exact .ins hc ((k _ List.mem_cons_self).trans h1) hl (OwnL.is e h2 fun a ha => k a (List.mem_cons_of_mem _ (List.mem_cons_of_mem _ ha)))
  | .par _ o, _, _, h, k => by cases h with | par h1 => rw [O.data]; exact Own.is e h1 k
theorem OwnL.is {K : PySem.W.Frag} {F H B : Hp} (e : Same F B) : ∀ {os : List O} {vs : List V} {fp : List Addr}, OwnL K F H vs os fp → (∀ a ∈ fp, B a = H a) → IsAll K B vs (O.datas os)
  | [], _, _, h, _ => by cases h; rw [O.datas]; exact .nil
  | o :: os, _, _, h, k => by
    cases h with
    | cons h1 h2 => rw [O.datas]; exact .cons (Own.is e h1 fun a ha => k a (List.mem_append_left _ ha)) (OwnL.is e h2 fun a ha => k a (List.mem_append_right _ ha))
end
mutual
theorem Own.lstAt {K : PySem.W.Frag} {F H : Hp} : ∀ {o : O} {v : V} {fp : List Addr}, Own K F H v o fp → ∀ a ∈ fp, ∃ u, H a = some u ∧ NoT u
  | .fz d, _, _, h, a, ha => by cases h with | fz h => cases ha
  | .tup os, _, _, h, a, ha => by cases h with | tup h1 h2 => exact OwnL.lstAt h2 a ha
  | .lst os, _, _, h, a, ha => by
    cases h with
    | lst h1 h2 =>
      rcases List.mem_cons.mp ha with e | e
      · subst e; exact ⟨_, h1, .lst _⟩
      · exact OwnL.lstAt h2 a e
  | .dct ks os, _, _, h, a, ha => by
    cases h with
    | dct h1 hl h2 =>
      rcases List.mem_cons.mp ha with e | e
      · subst e; exact ⟨_, h1, .hoD _ _⟩
      · exact OwnL.lstAt h2 a e
  | .ins c ns os, _, _, h, a, ha => by
    cases h with
    | ins hc h1 hd hl h2 =>
      rcases List.mem_cons.mp ha with e | e
      · subst e; exact ⟨_, h1, .ins _ _ _⟩
      · rcases List.mem_cons.mp e with e | e
        · subst e; exact ⟨_, hd, .own _⟩
        · exact OwnL.lstAt h2 a e
  | .par _ o, _, _, h, a, ha => by cases h with | par h1 => exact Own.lstAt h1 a ha
theorem OwnL.lstAt {K : PySem.W.Frag} {F H : Hp} : ∀ {os : List O} {vs : List V} {fp : List Addr}, OwnL K F H vs os fp → ∀ a ∈ fp, ∃ u, H a = some u ∧ NoT u
  | [], _, _, h, a, ha => by cases h; cases ha
  | o :: os, _, _, h, a, ha => by
    cases h with
    | cons h1 h2 =>
      rcases List.mem_append.mp ha with e | e
      · exact Own.lstAt h1 a e
      · exact OwnL.lstAt h2 a e
end
theorem OwnL.len {K : PySem.W.Frag} {F H : Hp} : ∀ {os : List O} {vs : List V} {fp : List Addr}, OwnL K F H vs os fp → vs.length = os.length
  | [], _, _, h => by cases h; rfl
  | o :: os, _, _, h => by
    cases h with
    | cons h1 h2 => rw [List.length_cons, List.length_cons, OwnL.len h2]
theorem OwnL.append {K : PySem.W.Frag} {F H : Hp} : ∀ {os ps : List O} {vs us : List V} {f g : List Addr}, OwnL K F H vs os f → OwnL K F H us ps g → OwnL K F H (vs ++ us) (os ++ ps) (f ++ g)
  | [], _, _, _, _, _, h, q => by cases h; exact q
  | o :: os, _, _, _, _, _, h, q => by
    cases h with
    | cons h1 h2 => rw [List.append_assoc]; exact .cons h1 (OwnL.append h2 q)
/-- frozen items -/
theorem OwnL.fzs {K : PySem.W.Frag} {F H : Hp} : ∀ {ds : List PyData} {vs : List V}, IsAll K F vs ds → OwnL K F H vs (ds.map O.fz) []
  | [], _, h => by cases h; exact .nil
  | d :: ds, _, h => by
    cases h with
    | cons h1 h2 => exact .cons (.fz h1) (OwnL.fzs h2)

/-! ### the slots -/
abbrev OEnv := List (Option O)
inductive Slots (K : PySem.W.Frag) (F H : Hp) : L2.St → OEnv → List Addr → Prop
  | nil : Slots K F H [] [] []
  | un {s : Option V} {σ : L2.St} {ρ : OEnv} {fps : List Addr} : Slots K F H σ ρ fps → Slots K F H (s :: σ) (none :: ρ) fps
  | ow {v : V} {o : O} {fp : List Addr} {σ : L2.St} {ρ : OEnv} {fps : List Addr} : Own K F H v o fp → Slots K F H σ ρ fps → Slots K F H (some v :: σ) (some o :: ρ) (fp ++ fps)
section
variable {K : PySem.W.Frag} {F F' H H' B : Hp} {σ : L2.St} {ρ : OEnv} {fps : List Addr}
theorem Slots.len (h : Slots K F H σ ρ fps) : σ.length = ρ.length := by
  induction h with
  | nil => rfl
  | un _ ih => rw [List.length_cons, List.length_cons, ih]
  | ow _ _ ih => rw [List.length_cons, List.length_cons, ih]
theorem Slots.keep (h : Slots K F H σ ρ fps) (e : Same F F') (k : ∀ a ∈ fps, H' a = H a) : Slots K F' H' σ ρ fps := by
  induction h with
  | nil => exact .nil
  | un _ ih => exact .un (ih k)
  | ow h1 _ ih => exact .ow (h1.keep e fun a ha => k a (List.mem_append_left _ ha)) (ih fun a ha => k a (List.mem_append_right _ ha))
theorem Slots.lstAt (h : Slots K F H σ ρ fps) : ∀ a ∈ fps, ∃ u, H a = some u ∧ NoT u := by
  induction h with
  | nil => intro a ha; cases ha
  | un _ ih => exact ih
  | ow h1 _ ih =>
    intro a ha
    rcases List.mem_append.mp ha with e | e
    · exact h1.lstAt a e
    · exact ih a e
/-- slot i out of the slots, and something else into it -/
theorem Slots.split (h : Slots K F H σ ρ fps) : ∀ {i : Nat} {o : O}, ρ[i]? = some (some o) → ∃ v fp fpr, σ[i]? = some (some v) ∧ Own K F H v o fp ∧ fps.Perm (fp ++ fpr) ∧
    (∀ s, Slots K F H (σ.set i s) (ρ.set i none) fpr) ∧ ∀ F' H' v' o' fp', Own K F' H' v' o' fp' → Same F F' → (∀ a ∈ fpr, H' a = H a) → ∃ fps', Slots K F' H' (σ.set i (some v')) (ρ.set i (some o')) fps' ∧ fps'.Perm (fp' ++ fpr) := by
  induction h with
  | nil => intro i o e; simp at e
  | @un s σ ρ fps h ih =>
    intro i o e
    cases i with
    | zero => simp at e
    | succ i =>
      obtain ⟨v, fp, fpr, e1, e2, e3, e4, e5⟩ := ih (i := i) (by simpa using e)
      refine ⟨v, fp, fpr, by simpa using e1, e2, e3, fun s => .un (e4 s), fun F' H' v' o' fp' q1 q2 q3 => ?_⟩
      obtain ⟨fps', z1, z2⟩ := e5 F' H' v' o' fp' q1 q2 q3
      exact ⟨fps', .un z1, z2⟩
  | @ow v o' fp σ ρ fps h1 h ih =>
    intro i o e
    cases i with
    | zero =>
      simp at e
      subst e
      exact ⟨v, fp, fps, rfl, h1, .refl _, fun s => .un h, fun F' H' v' o' fp' q1 q2 q3 => ⟨fp' ++ fps, .ow q1 (h.keep q2 q3), .refl _⟩⟩
    | succ i =>
      obtain ⟨v2, fp2, fpr, e1, e2, e3, e4, e5⟩ := ih (i := i) (by simpa using e)
      refine ⟨v2, fp2, fp ++ fpr, by simpa using e1, e2, ?_, fun s => .ow h1 (e4 s), fun F' H' v' o'' fp' q1 q2 q3 => ?_⟩
      · refine (List.Perm.append_left fp e3).trans ?_
        rw [← List.append_assoc, ← List.append_assoc]
        exact List.Perm.append_right _ List.perm_append_comm
      · obtain ⟨fps', z1, z2⟩ := e5 F' H' v' o'' fp' q1 q2 fun a ha => q3 a (List.mem_append_right _ ha)
        refine ⟨fp ++ fps', .ow (h1.keep q2 fun a ha => q3 a (List.mem_append_left _ ha)) z1, ?_⟩
        refine (List.Perm.append_left fp z2).trans ?_
        rw [← List.append_assoc, ← List.append_assoc]
        exact List.Perm.append_right _ List.perm_append_comm
/-- slot i is forgotten -/
theorem Slots.drop (h : Slots K F H σ ρ fps) : ∀ (i : Nat) (s : Option V), ∃ fpr, Slots K F H (σ.set i s) (ρ.set i none) fpr ∧ fpr.Sublist fps := by
  induction h with
  | nil => intro i s; exact ⟨[], by simp; exact .nil, .refl _⟩
  | @un s' σ ρ fps h ih =>
    intro i s
    cases i with
    | zero => exact ⟨fps, .un h, .refl _⟩
    | succ i => obtain ⟨f, z1, z2⟩ := ih i s; exact ⟨f, .un z1, z2⟩
  | @ow v o' fp σ ρ fps h1 h ih =>
    intro i s
    cases i with
    | zero => exact ⟨fps, .un h, List.sublist_append_right _ _⟩
    | succ i => obtain ⟨f, z1, z2⟩ := ih i s; exact ⟨fp ++ f, .ow h1 z1, List.Sublist.append_left z2 _⟩
/-- a value comes into slot i -/
theorem Slots.put (h : Slots K F H σ ρ fps) {v : V} {o : O} {fp : List Addr} (ho : Own K F H v o fp) : ∀ (i : Nat), i < ρ.length → ∃ fps', Slots K F H (σ.set i (some v)) (ρ.set i (some o)) fps' ∧ ∃ fpr, fps'.Perm (fp ++ fpr) ∧ fpr.Sublist fps := by
  induction h with
  | nil => intro i hi; simp at hi
  | @un s' σ ρ fps h ih =>
    intro i hi
    cases i with
    | zero => exact ⟨fp ++ fps, .ow ho h, fps, .refl _, .refl _⟩
    | succ i => obtain ⟨f, z1, g, z2, z3⟩ := ih i (by simpa using hi); exact ⟨f, .un z1, g, z2, z3⟩
  | @ow v' o' fp' σ ρ fps h1 h ih =>
    intro i hi
    cases i with
    | zero => exact ⟨fp ++ fps, .ow ho h, fps, .refl _, List.sublist_append_right _ _⟩
    | succ i =>
      obtain ⟨f, z1, g, z2, z3⟩ := ih i (by simpa using hi)
      refine ⟨fp' ++ f, .ow h1 z1, fp' ++ g, ?_, List.Sublist.append_left z3 _⟩
      refine (List.Perm.append_left fp' z2).trans ?_
      rw [← List.append_assoc, ← List.append_assoc]
      exact List.Perm.append_right _ List.perm_append_comm
end
/-- the slots seen as data -/
def viewB (ρ : OEnv) : PEnv := ρ.map (Option.map O.data)
def fzOf : Option O → Option PyData
  | some (.fz d) => some d
  | _ => none
def viewF (ρ : OEnv) : PEnv := ρ.map fzOf
theorem Slots.rfB {K : PySem.W.Frag} {F H B : Hp} {σ : L2.St} {ρ : OEnv} {fps : List Addr} (e : Same F B) (h : Slots K F H σ ρ fps) (k : ∀ a ∈ fps, B a = H a) : RF K B σ (viewB ρ) := by
  refine ⟨by unfold viewB; rw [List.length_map]; exact h.len, ?_⟩
  induction h with
  | nil => intro i d x; simp [viewB] at x
  | un _ ih =>
    intro i d x
    cases i with
    | zero => simp [viewB] at x
    | succ i => obtain ⟨v, z1, z2⟩ := ih k i d (by simpa [viewB] using x); exact ⟨v, by simpa using z1, z2⟩
  | @ow v o fp σ ρ fps h1 _ ih =>
    intro i d x
    cases i with
    | zero =>
      simp [viewB] at x
      subst x
      exact ⟨v, rfl, h1.is e fun a ha => k a (List.mem_append_left _ ha)⟩
    | succ i => obtain ⟨v, z1, z2⟩ := ih (fun a ha => k a (List.mem_append_right _ ha)) i d (by simpa [viewB] using x); exact ⟨v, by simpa using z1, z2⟩
theorem Slots.rfF {K : PySem.W.Frag} {F H : Hp} {σ : L2.St} {ρ : OEnv} {fps : List Addr} (h : Slots K F H σ ρ fps) : RF K F σ (viewF ρ) := by
  refine ⟨by unfold viewF; rw [List.length_map]; exact h.len, ?_⟩
  induction h with
  | nil => intro i d x; simp [viewF] at x
  | un _ ih =>
    intro i d x
    cases i with
    | zero => simp [viewF, fzOf] at x
    | succ i => obtain ⟨v, z1, z2⟩ := ih i d (by simpa [viewF] using x); exact ⟨v, by simpa using z1, z2⟩
  | @ow v o fp σ ρ fps h1 _ ih =>
    intro i d x
    cases i with
    | zero =>
      cases o with
      | fz d' =>
        simp [viewF, fzOf] at x
        subst x
        cases h1 with | fz h1 => exact ⟨v, rfl, h1⟩
      | tup _ => simp [viewF, fzOf] at x
      | lst _ => simp [viewF, fzOf] at x
      | dct _ _ => simp [viewF, fzOf] at x
      | ins _ _ _ => simp [viewF, fzOf] at x
      | par _ _ => simp [viewF, fzOf] at x
    | succ i => obtain ⟨v, z1, z2⟩ := ih i d (by simpa [viewF] using x); exact ⟨v, by simpa using z1, z2⟩

/-! ### the state of a def's body: F0, H0 the frozen part and the heap at its entry -/
structure Hs (F0 H0 F H : Hp) (fps : List Addr) : Prop where
  nd : fps.Nodup
  ow : ∀ a ∈ fps, F a = none ∧ H0 a = none
  fh : Same F H
  f0 : Same F0 F
  h0 : Same H0 H
  nw : ∀ a, F0 a = none → F a ≠ none → H0 a = none
theorem Hs.perm {F0 H0 F H : Hp} {fps fps' : List Addr} (h : Hs F0 H0 F H fps) (p : fps.Perm fps') : Hs F0 H0 F H fps' := ⟨p.nodup_iff.mp h.nd, fun a ha => h.ow a (p.mem_iff.mpr ha), h.fh, h.f0, h.h0, h.nw⟩
theorem Hs.sub {F0 H0 F H : Hp} {fps fps' : List Addr} (h : Hs F0 H0 F H fps) (p : fps'.Sublist fps) : Hs F0 H0 F H fps' := ⟨h.nd.sublist p, fun a ha => h.ow a (p.subset ha), h.fh, h.f0, h.h0, h.nw⟩
/-- the heap grows -/
theorem Hs.ext {F0 H0 F H F' H' : Hp} {fps : List Addr} (h : Hs F0 H0 F H fps) (e : Ext F H F' H') (l : ∀ a ∈ fps, ∃ u, H a = some u ∧ NoT u) : Hs F0 H0 F' H' fps :=
  ⟨h.nd, fun a ha => ⟨(by
    cases q : F' a with
    | none => rfl
    | some o =>
      obtain ⟨vs, z, zt⟩ := l a ha
      have := e.nw a (h.ow a ha).1 (by rw [q]; exact fun w => nomatch w)
      rw [z] at this
      cases this), (h.ow a ha).2⟩, e.bh, h.f0.trans e.bb, h.h0.trans e.hh, fun a h1 h2 => by
    cases q : F a with
    | some o => exact h.nw a h1 (by rw [q]; exact fun w => nomatch w)
    | none => exact Same.free h.h0 (e.nw a q h2)⟩
structure RS (K : PySem.W.Frag) (F0 H0 F H : Hp) (σ : L2.St) (ρ : OEnv) : Prop where
  ex : ∃ fps, Slots K F H σ ρ fps ∧ Hs F0 H0 F H fps
theorem RS.ext {K : PySem.W.Frag} {F0 H0 F H F' H' : Hp} {σ : L2.St} {ρ : OEnv} (h : RS K F0 H0 F H σ ρ) (e : Ext F H F' H') : RS K F0 H0 F' H' σ ρ := by
  obtain ⟨fps, s, hs⟩ := h.ex
  exact ⟨fps, s.keep e.bb fun a ha => by
    obtain ⟨vs, z, zt⟩ := s.lstAt a ha
    rw [z]; exact e.hh _ _ z, hs.ext e s.lstAt⟩
theorem RS.grow {K : PySem.W.Frag} {F0 H0 F H H' : Hp} {σ : L2.St} {ρ : OEnv} (h : RS K F0 H0 F H σ ρ) (e : Same H H') : RS K F0 H0 F H' σ ρ := by
  obtain ⟨fps, s, hs⟩ := id h.ex
  exact h.ext ⟨e, Same.refl F, hs.fh.trans e, fun a x y => absurd x y⟩
/-- the heap in which everything is seen as data -/
def bor (F H : Hp) (fps : List Addr) : Hp := fun a => if a ∈ fps then H a else F a
theorem bor_own {F H : Hp} {fps : List Addr} {a : Addr} (h : a ∈ fps) : bor F H fps a = H a := if_pos h
theorem bor_not {F H : Hp} {fps : List Addr} {a : Addr} (h : a ∉ fps) : bor F H fps a = F a := if_neg h
theorem Hs.bor {F0 H0 F H : Hp} {fps : List Addr} (h : Hs F0 H0 F H fps) : Same F (bor F H fps) ∧ Same (VL.bor F H fps) H := by
  refine ⟨fun a o e => ?_, fun a o e => ?_⟩
  · rw [bor_not (fun ha => by rw [(h.ow a ha).1] at e; cases e)]; exact e
  · by_cases ha : a ∈ fps
    · rw [bor_own ha] at e; exact e
    · rw [bor_not ha] at e; exact h.fh _ _ e
/-- behind an expression that saw everything: what is new is frozen -/
theorem Hs.unbor {F0 H0 F H B' H' : Hp} {fps : List Addr} (h : Hs F0 H0 F H fps) (l : ∀ a ∈ fps, ∃ u, H a = some u ∧ NoT u) (e : Ext (VL.bor F H fps) H B' H') :
    ∃ F', Ext F H F' H' ∧ (∀ b, (∃ ys, Rd B' b (.tup ys)) → F' b = B' b) ∧ Same F' B' := by
  obtain ⟨b1, b2⟩ := h.bor
  refine ⟨fun a => if a ∈ fps then none else B' a, ⟨e.hh, fun a o q => ?_, fun a o q => ?_, fun a h1 h2 => ?_⟩, fun b ⟨ys, hb⟩ => ?_, fun a o q => ?_⟩
  · show (if a ∈ fps then none else B' a) = some o
    rw [if_neg (fun ha => by rw [(h.ow a ha).1] at q; cases q)]
    exact e.bb _ _ (b1 _ _ q)
  · by_cases ha : a ∈ fps
    · rw [if_pos ha] at q; cases q
    · rw [if_neg ha] at q; exact e.bh _ _ q
  · by_cases ha : a ∈ fps
    · exact absurd (if_pos ha) h2
    · have h2 : B' a ≠ none := fun z => h2 ((if_neg ha).trans z)
      exact e.nw a (by rw [bor_not ha]; exact h1) h2
  · refine if_neg fun ha => ?_
    obtain ⟨vs, z, zt⟩ := l b ha
    have q := e.bb b _ ((bor_own ha).trans z)
    rcases hb with hb | ⟨o, hb⟩
    · rw [q] at hb; exact zt.1 _ (Option.some.inj hb)
    · rw [q] at hb; exact zt.2 _ _ (Option.some.inj hb)
  · have q : (if a ∈ fps then none else B' a) = some o := q
    by_cases ha : a ∈ fps
    · rw [if_pos ha] at q; cases q
    · rw [if_neg ha] at q; exact q
end VL

namespace VL
open PySem PySem.Spec PyProof.Rows L2

/-! ### expressions in a def's body -/
def lfok (d : PyData) : R PyData := if lf d then .ok d else .stuck
def exF (f : PEnv → R PyData) : OEnv → R PyData := fun ρ => f (viewF ρ)
def exB (f : PEnv → R PyData) : OEnv → R PyData := fun ρ => (f (viewB ρ)).bind lfok
def KX (X : Cx) (F H : Hp) (Q : VK) (d : PyData) : Prop := ∀ v H' F', Ext F H F' H' → Is X.K F' v d → Q v H'
structure VX (X : Cx) (W : WX) (e : Expr) (h : OEnv → R PyData) : Prop where
  ex : ∃ t, PE X e t ∧ ∀ σ H F0 H0 F ρ Q, RS X.K F0 H0 F H σ ρ → Pst X W σ H (KX X F H Q) (h ρ) → t σ H Q
def KXT (F H : Hp) (Q : Bool → Hp → Prop) (b : Bool) : Prop := ∀ H' F', Ext F H F' H' → Q b H'
structure VXT (X : Cx) (W : WX) (e : Expr) (h : OEnv → R Bool) : Prop where
  ex : ∃ t, PT X e t ∧ ∀ σ H F0 H0 F ρ Q, RS X.K F0 H0 F H σ ρ → Pst X W σ H (KXT F H Q) (h ρ) → t σ H Q
section
variable {X : Cx} {W : WX} {a b c e : Expr} {es : List Expr} {pos : Pos} {fa fb fc f : PEnv → R PyData} {ft fu : PEnv → R Bool} {k : Nat}
theorem vxF (h : VE X W e f) : VX X W e (exF f) := by
  obtain ⟨t, p, q⟩ := h.ex
  refine ⟨t, p, fun σ H F0 H0 F ρ Q r pr => ?_⟩
  obtain ⟨fps, s, hs⟩ := r.ex
  exact q σ H F _ Q hs.fh s.rfF (Pst.imp (fun d kx v H' B' ex sm dv => kx v H' B' ex dv) pr)
theorem vxB (h : VE X W e f) : VX X W e (exB f) := by
  obtain ⟨t, p, q⟩ := h.ex
  refine ⟨t, p, fun σ H F0 H0 F ρ Q r pr => ?_⟩
  obtain ⟨fps, s, hs⟩ := r.ex
  obtain ⟨b1, b2⟩ := hs.bor
  refine q σ H (bor F H fps) _ Q b2 (s.rfB b1 fun a ha => bor_own ha) ?_
  unfold exB at pr
  generalize f (viewB ρ) = rr at pr ⊢
  cases rr with
  | stuck => exact pr
  | err c => exact pr
  | ok d =>
    simp only [R.bind_ok, lfok] at pr
    split at pr
    · rename_i hl
      intro v H' B' ex sm dv
      obtain ⟨F', e1, e2, e3⟩ := hs.unbor s.lstAt ex
      exact pr v H' F' e1 (Is.lfree e2 hl dv)
    · exact pr.elim
theorem vxT (h : VT X W e ft) : VXT X W e (fun ρ => ft (viewB ρ)) := by
  obtain ⟨t, p, q⟩ := h.ex
  refine ⟨t, p, fun σ H F0 H0 F ρ Q r pr => ?_⟩
  obtain ⟨fps, s, hs⟩ := r.ex
  obtain ⟨b1, b2⟩ := hs.bor
  refine q σ H (bor F H fps) _ Q b2 (s.rfB b1 fun a ha => bor_own ha) (Pst.imp (fun d kx H' B' ex => ?_) pr)
  obtain ⟨F', e1, e2, e3⟩ := hs.unbor s.lstAt ex
  exact kx H' F' e1
end

/-! ### expressions that hand on what is one's own -/
def KO (X : Cx) (F0 H0 : Hp) (σ : L2.St) (Q : VK) (o : O × OEnv) : Prop := ∀ v H' F', RS X.K F0 H0 F' H' (some v :: σ) (some o.1 :: o.2) → Q v H'
structure VO (X : Cx) (W : WX) (e : Expr) (h : OEnv → R (O × OEnv)) : Prop where
  ex : ∃ t, PE X e t ∧ ∀ σ H F0 H0 F ρ Q, RS X.K F0 H0 F H σ ρ → Pst X W σ H (KO X F0 H0 σ Q) (h ρ) → t σ H Q
def oX (h : OEnv → R PyData) : OEnv → R (O × OEnv) := fun ρ => (h ρ).bind fun d => .ok (.fz d, ρ)
def oMv (i : Nat) : OEnv → R (O × OEnv) := fun ρ => match ρ[i]? with
  | some (some o) => .ok (o, ρ.set i none)
  | _ => .stuck
def oFrF (f : PEnv → R (List PyData)) : OEnv → R (O × OEnv) := fun ρ => (f (viewF ρ)).bind fun ds => .ok (.lst (ds.map O.fz), ρ)
def oFrB (f : PEnv → R (List PyData)) : OEnv → R (O × OEnv) := fun ρ => (f (viewB ρ)).bind fun ds => if lfs ds then .ok (.lst (ds.map O.fz), ρ) else .stuck
section
variable {X : Cx} {W : WX} {a b c e : Expr} {es : List Expr} {pos : Pos} {h : OEnv → R PyData} {f : PEnv → R (List PyData)} {k : Nat}
theorem vo_x (g : VX X W e h) : VO X W e (oX h) := by
  obtain ⟨t, p, q⟩ := g.ex
  refine ⟨t, p, fun σ H F0 H0 F ρ Q r pr => ?_⟩
  refine q σ H F0 H0 F ρ Q r ?_
  unfold oX at pr
  generalize h ρ = rr at pr ⊢
  cases rr with
  | stuck => exact pr
  | err c => exact pr
  | ok d =>
    intro v H' F' ex dv
    obtain ⟨fps, s, hs⟩ := (r.ext ex).ex
    exact pr v H' F' ⟨fps, .ow (.fz dv) s, hs⟩
theorem vo_mv (i : Nat) {x : Str} (hN : X.N[i]? = some x := by rfl) (hv : Vis X.env.scope x := by first | exact Or.inl rfl | exact Or.inr (Or.inl rfl) | exact Or.inr (Or.inr rfl)) (hd : (x == ("__debug__" : Str)) = false := by decide)
    (hcd : (x == ("__classdict__" : Str)) = false := by decide) : VO X W (.Name x pos) (oMv i) := by
  refine ⟨_, pe_var hN hv hd hcd, fun σ H F0 H0 F ρ Q r pr => ?_⟩
  obtain ⟨fps, s, hs⟩ := r.ex
  unfold oMv at pr
  split at pr
  · rename_i o e
    obtain ⟨v, fp, fpr, e1, e2, e3, e4, e5⟩ := s.split e
    refine ⟨v, e1, pr v H F ⟨fp ++ fpr, .ow e2 ?_, hs.perm e3⟩⟩
    have z := e4 (some v)
    have q : σ.set i (some v) = σ := by
      refine List.ext_getElem? fun j => ?_
      by_cases hj : j = i
      · subst hj
        obtain ⟨q1, q2⟩ := List.getElem?_eq_some_iff.mp e1
        rw [List.getElem?_set_self q1, e1]
      · rw [List.getElem?_set_ne (Ne.symm hj)]
    rw [q] at z
    exact z
  · exact pr.elim
theorem vo_frF (g : VFr X W e f) : VO X W e (oFrF f) := by
  obtain ⟨t, p, q⟩ := g.ex
  refine ⟨t, p, fun σ H F0 H0 F ρ Q r pr => ?_⟩
  obtain ⟨fps, s, hs⟩ := r.ex
  refine q σ H F _ Q hs.fh s.rfF ?_
  unfold oFrF at pr
  generalize f (viewF ρ) = rr at pr ⊢
  cases rr with
  | stuck => exact pr
  | err c => exact pr
  | ok ds =>
    intro pa vs H' B' ex hp hn bn ia
    have hs' := hs.ext ex s.lstAt
    have s' : Slots X.K B' H' σ ρ fps := s.keep ex.bb fun a ha => by
      obtain ⟨us, z, _⟩ := s.lstAt a ha
      rw [z]; exact ex.hh _ _ z
    refine pr (.ref pa) H' B' ⟨[pa] ++ fps, .ow (.lst hp (OwnL.fzs ia)) s', ?_, ?_, hs'.fh, hs'.f0, hs'.h0, hs'.nw⟩
    · refine List.nodup_cons.mpr ⟨fun hm => ?_, hs'.nd⟩
      obtain ⟨us, z, _⟩ := s.lstAt pa hm
      rw [hn] at z; cases z
    · intro a ha
      rcases List.mem_cons.mp ha with e | e
      · subst e; exact ⟨bn, Same.free hs.h0 hn⟩
      · exact hs'.ow a e
theorem vo_frB (g : VFr X W e f) : VO X W e (oFrB f) := by
  obtain ⟨t, p, q⟩ := g.ex
  refine ⟨t, p, fun σ H F0 H0 F ρ Q r pr => ?_⟩
  obtain ⟨fps, s, hs⟩ := r.ex
  obtain ⟨b1, b2⟩ := hs.bor
  refine q σ H (bor F H fps) _ Q b2 (s.rfB b1 fun a ha => bor_own ha) ?_
  unfold oFrB at pr
  generalize f (viewB ρ) = rr at pr ⊢
  cases rr with
  | stuck => exact pr
  | err c => exact pr
  | ok ds =>
    simp only [R.bind_ok] at pr
    split at pr
    · rename_i hl
      intro pa vs H' B' ex hp hn bn ia
      obtain ⟨F', e1, e2, e3⟩ := hs.unbor s.lstAt ex
      have hs' := hs.ext e1 s.lstAt
      have s' : Slots X.K F' H' σ ρ fps := s.keep e1.bb fun a ha => by
        obtain ⟨us, z, _⟩ := s.lstAt a ha
        rw [z]; exact e1.hh _ _ z
      have hpa : pa ∉ fps := fun hm => by
        obtain ⟨us, z, _⟩ := s.lstAt pa hm
        rw [hn] at z; cases z
      have fn : F' pa = none := by
        cases z : F' pa with
        | none => rfl
        | some o => have w := e3 _ _ z; rw [bn] at w; cases w
      refine pr (.ref pa) H' F' ⟨[pa] ++ fps, .ow (.lst hp (OwnL.fzs (IsAll.lfree e2 hl ia))) s', ?_, ?_, hs'.fh, hs'.f0, hs'.h0, hs'.nw⟩
      · exact List.nodup_cons.mpr ⟨hpa, hs'.nd⟩
      · intro a ha
        rcases List.mem_cons.mp ha with e | e
        · subst e; exact ⟨fn, Same.free hs.h0 hn⟩
        · exact hs'.ow a e
    · exact pr.elim
end

/-! ### statements -/
inductive SR where
  | stuck
  | err (c : Str) (ρ : OEnv)
  | nx (ρ : OEnv)
  | rt (o : O) (ρ : OEnv)
  | bk (ρ : OEnv)
  | ct (ρ : OEnv)
def RV (K : PySem.W.Frag) (F0 H0 F H : Hp) (v : V) (o : O) : Prop := ∃ fp, Own K F H v o fp ∧ Hs F0 H0 F H fp
def SPst (X : Cx) (W : WX) (F0 H0 : Hp) (D : Ends) : SR → Prop
  | .stuck => False
  | .err c ρ => ∀ σ' H' F', RS X.K F0 H0 F' H' σ' ρ → ErrAt X W c σ' H'
  | .nx ρ => ∀ σ' H' F', RS X.K F0 H0 F' H' σ' ρ → D.nx σ' H'
  | .bk ρ => ∀ σ' H' F', RS X.K F0 H0 F' H' σ' ρ → D.bk σ' H'
  | .ct ρ => ∀ σ' H' F', RS X.K F0 H0 F' H' σ' ρ → D.ct σ' H'
  | .rt o ρ => ∀ v σ' H' F', RS X.K F0 H0 F' H' (some v :: σ') (some o :: ρ) → D.rt v H'
structure VS (X : Cx) (W : WX) (st : Stmt) (g : OEnv → SR) : Prop where
  ex : ∃ t, PS X st t ∧ ∀ D σ H F0 H0 F ρ, RS X.K F0 H0 F H σ ρ → SPst X W F0 H0 D (g ρ) → t D σ H
structure VSs (X : Cx) (W : WX) (sts : List Stmt) (g : OEnv → SR) : Prop where
  ex : ∃ t, PSs X sts t ∧ ∀ D σ H F0 H0 F ρ, RS X.K F0 H0 F H σ ρ → SPst X W F0 H0 D (g ρ) → t D σ H
def SR.seq (r : SR) (g : OEnv → SR) : SR := match r with
  | .nx ρ => g ρ
  | r => r
/-- what an expression gives goes on; what it raises leaves with the slots as they were -/
def R.sr {α : Type} (x : R α) (ρ : OEnv) (f : α → SR) : SR := match x with
  | .stuck => .stuck
  | .err c => .err c ρ
  | .ok a => f a
@[simp] theorem R.sr_ok {α : Type} (a : α) (ρ : OEnv) (f : α → SR) : R.sr (.ok a) ρ f = f a := rfl
@[simp] theorem R.sr_err {α : Type} (c : Str) (ρ : OEnv) (f : α → SR) : R.sr (.err c : R α) ρ f = .err c ρ := rfl
@[simp] theorem R.sr_stuck {α : Type} (ρ : OEnv) (f : α → SR) : R.sr (.stuck : R α) ρ f = .stuck := rfl
@[simp] theorem SR.seq_nx (ρ : OEnv) (g : OEnv → SR) : SR.seq (.nx ρ) g = g ρ := rfl
@[simp] theorem SR.seq_rt (o : O) (ρ : OEnv) (g : OEnv → SR) : SR.seq (.rt o ρ) g = .rt o ρ := rfl
@[simp] theorem SR.seq_err (c : Str) (ρ : OEnv) (g : OEnv → SR) : SR.seq (.err c ρ) g = .err c ρ := rfl
@[simp] theorem SR.seq_bk (ρ : OEnv) (g : OEnv → SR) : SR.seq (.bk ρ) g = .bk ρ := rfl
@[simp] theorem SR.seq_ct (ρ : OEnv) (g : OEnv → SR) : SR.seq (.ct ρ) g = .ct ρ := rfl
theorem sr_pst {α : Type} {X : Cx} {W : WX} {F0 H0 F H : Hp} {D : Ends} {σ : L2.St} {ρ : OEnv} {x : R α} {f : α → SR} {K : α → Prop} (r : RS X.K F0 H0 F H σ ρ) (p : SPst X W F0 H0 D (x.sr ρ f)) (h : ∀ a, SPst X W F0 H0 D (f a) → K a) : Pst X W σ H K x := by
  cases x with
  | stuck => exact p
  | err c => exact fun H' e => p σ H' F (r.grow e)
  | ok a => exact h a p
section
variable {X : Cx} {W : WX} {a b c e : Expr} {st : Stmt} {sts rest : List Stmt} {pos : Pos} {g h : OEnv → SR} {hx : OEnv → R PyData} {ho : OEnv → R (O × OEnv)} {k : Nat}
theorem vss_nil : VSs X W [] (fun ρ => .nx ρ) := ⟨_, pss_nil, fun D σ H F0 H0 F ρ r p => p σ H F r⟩
theorem vss_cons (h1 : VS X W st g) (h2 : VSs X W rest h) : VSs X W (st :: rest) (fun ρ => (g ρ).seq h) := by
  obtain ⟨t, p, q⟩ := h1.ex
  obtain ⟨t2, p2, q2⟩ := h2.ex
  refine ⟨_, pss_cons p p2, fun D σ H F0 H0 F ρ r pr => ?_⟩
  refine q _ σ H F0 H0 F ρ r ?_
  generalize g ρ = rr at pr ⊢
  cases rr with
  | nx ρ' => exact fun σ' H' F' r' => q2 D σ' H' F0 H0 F' ρ' r' pr
  | stuck => exact pr
  | err c ρ' => exact pr
  | rt o _ => exact pr
  | bk ρ' => exact pr
  | ct ρ' => exact pr
theorem vss_one (h1 : VS X W st g) : VSs X W [st] g := by
  obtain ⟨t, p, q⟩ := h1.ex
  exact ⟨_, pss_one p, q⟩
/-- knowledge that is let go, or changed, between two statements -/
def EnvT (K : PySem.W.Frag) (T : OEnv → OEnv) : Prop := ∀ F0 H0 F H σ ρ, RS K F0 H0 F H σ ρ → ∃ F', RS K F0 H0 F' H σ (T ρ)
theorem vss_t {T : OEnv → OEnv} (hT : EnvT X.K T) (h1 : VSs X W sts g) : VSs X W sts (fun ρ => g (T ρ)) := by
  obtain ⟨t, p, q⟩ := h1.ex
  refine ⟨t, p, fun D σ H F0 H0 F ρ r pr => ?_⟩
  obtain ⟨F', r'⟩ := hT F0 H0 F H σ ρ r
  exact q D σ H F0 H0 F' (T ρ) r' pr
def kill (is : List Nat) (ρ : OEnv) : OEnv := is.foldl (fun ρ i => ρ.set i none) ρ
def freezeAt (ρ : OEnv) (i : Nat) : OEnv := match ρ[i]? with
  | some (some o) => ρ.set i (some (.fz o.data))
  | _ => ρ
def freeze (is : List Nat) (ρ : OEnv) : OEnv := is.foldl freezeAt ρ
theorem RS.drop {K : PySem.W.Frag} {F0 H0 F H : Hp} {σ : L2.St} {ρ : OEnv} (r : RS K F0 H0 F H σ ρ) (i : Nat) : RS K F0 H0 F H σ (ρ.set i none) := by
  obtain ⟨fps, s, hs⟩ := r.ex
  by_cases hi : i < σ.length
  · obtain ⟨fpr, z1, z2⟩ := s.drop i σ[i]
    rw [List.set_getElem_self] at z1
    exact ⟨fpr, z1, hs.sub z2⟩
  · rw [List.set_eq_of_length_le (by rw [← s.len]; omega)]
    exact ⟨fps, s, hs⟩
theorem envT_kill (K : PySem.W.Frag) : ∀ is : List Nat, EnvT K (kill is)
  | [], F0, H0, F, H, σ, ρ, r => ⟨F, r⟩
  | i :: is, F0, H0, F, H, σ, ρ, r => envT_kill K is F0 H0 F H σ (ρ.set i none) (r.drop i)
theorem set_same {σ : L2.St} {i : Nat} {v : V} (e : σ[i]? = some (some v)) : σ.set i (some v) = σ := by
  refine List.ext_getElem? fun j => ?_
  by_cases hj : j = i
  · subst hj
    obtain ⟨q1, q2⟩ := List.getElem?_eq_some_iff.mp e
    rw [List.getElem?_set_self q1, e]
  · rw [List.getElem?_set_ne (Ne.symm hj)]
theorem RS.freeze {K : PySem.W.Frag} {F0 H0 F H : Hp} {σ : L2.St} {ρ : OEnv} (r : RS K F0 H0 F H σ ρ) (i : Nat) : ∃ F', RS K F0 H0 F' H σ (freezeAt ρ i) := by
  unfold freezeAt
  split
  · rename_i o eo
    obtain ⟨fps, s, hs⟩ := r.ex
    obtain ⟨v, fp, fpr, e1, e2, e3, e4, e5⟩ := s.split eo
    have hp := hs.perm e3
    have nd := List.nodup_append.mp hp.nd
    have own : ∀ a ∈ fp, F a = none ∧ H0 a = none := fun a ha => hp.ow a (List.mem_append_left _ ha)
    refine ⟨bor F H fp, ?_⟩
    have b1 : Same F (bor F H fp) := fun a u q => by
      rw [bor_not (fun ha => by rw [(own a ha).1] at q; cases q)]; exact q
    obtain ⟨fps', z1, z2⟩ := e5 (bor F H fp) H v (.fz o.data) [] (.fz (e2.is b1 fun a ha => bor_own ha)) b1 (fun _ _ => rfl)
    rw [set_same e1] at z1
    refine ⟨fps', z1, (Hs.perm ⟨?_, fun a ha => ⟨?_, ?_⟩, fun a u q => ?_, hs.f0.trans b1, hs.h0, fun a h1 h2 => ?_⟩ z2.symm)⟩
    · exact nd.2.1
    · have ha : a ∈ fpr := ha
      rw [bor_not (fun hm => nd.2.2 a hm a ha rfl)]
      exact (hp.ow a (List.mem_append_right _ ha)).1
    · exact (hp.ow a (List.mem_append_right _ ha)).2
    · by_cases ha : a ∈ fp
      · rw [bor_own ha] at q; exact q
      · rw [bor_not ha] at q; exact hs.fh _ _ q
    · by_cases ha : a ∈ fp
      · exact (own a ha).2
      · rw [bor_not ha] at h2; exact hs.nw a h1 h2
  · exact ⟨F, r⟩
theorem envT_freeze (K : PySem.W.Frag) : ∀ is : List Nat, EnvT K (freeze is)
  | [], F0, H0, F, H, σ, ρ, r => ⟨F, r⟩
  | i :: is, F0, H0, F, H, σ, ρ, r => by
    obtain ⟨F', r'⟩ := r.freeze i
    exact envT_freeze K is F0 H0 F' H σ _ r'

/-! simple statements -/
theorem vs_pass : VS X W (.Pass pos) (fun ρ => .nx ρ) := ⟨_, ps_pass, fun D σ H F0 H0 F ρ r p => p σ H F r⟩
theorem vs_break : VS X W (.Break pos) (fun ρ => .bk ρ) := ⟨_, ps_break, fun D σ H F0 H0 F ρ r p => p σ H F r⟩
theorem vs_continue : VS X W (.Continue pos) (fun ρ => .ct ρ) := ⟨_, ps_continue, fun D σ H F0 H0 F ρ r p => p σ H F r⟩
theorem RS.put {K : PySem.W.Frag} {F0 H0 F H : Hp} {σ : L2.St} {ρ : OEnv} {v : V} {o : O} (r : RS K F0 H0 F H (some v :: σ) (some o :: ρ)) (i : Nat) : RS K F0 H0 F H (σ.set i (some v)) (ρ.set i (some o)) := by
  obtain ⟨fps, s, hs⟩ := r.ex
  cases s with
  | @ow v o fp σ ρ fps h1 s =>
    by_cases hi : i < ρ.length
    · obtain ⟨fps', z1, g, z2, z3⟩ := s.put h1 i hi
      exact ⟨fps', z1, (hs.sub (List.Sublist.append_left z3 fp)).perm z2.symm⟩
    · have l := s.len
      rw [List.set_eq_of_length_le (show σ.length ≤ i by omega), List.set_eq_of_length_le (show ρ.length ≤ i by omega)]
      exact ⟨fps, s, hs.sub (List.sublist_append_right _ _)⟩
/-- x = e -/
def sSet (i : Nat) (h : OEnv → R (O × OEnv)) : OEnv → SR := fun ρ => (h ρ).sr ρ fun p => .nx (p.2.set i (some p.1))
theorem vs_set (i : Nat) {x : Str} {pos' : Pos} (hN : X.N.Nodup) (he : VO X W e ho) (hi : X.N[i]? = some x := by rfl) (hxl : Loc X.env.scope x := by first | exact Or.inl rfl | exact Or.inr rfl) (hs : swapsWith e (some (.Name x pos')) pos.line X.env = pure false := by rfl) (hf : X.fn x = true ∨ X.env.scope.names.lookup x = some .local := by first | exact .inl rfl | exact .inr rfl) :
    VS X W (.Assign [.Name x pos'] e pos) (sSet i ho) := by
  obtain ⟨t, p, q⟩ := he.ex
  refine ⟨_, ps_set hN hi hxl p hs hf, fun D σ H F0 H0 F ρ r pr => ?_⟩
  refine q σ H F0 H0 F ρ _ r (sr_pst r pr fun o po v H' F' r' => ?_)
  exact po _ _ _ (r'.put i)
/-- x = [e for t in it if ..] on one line, x a local -/
theorem vs_setLc (i : Nat) {x : Str} {py : Pos} {elt tg iter : Expr} {ifs : List Expr} {scope : Scope} {own : List (Str × Nat)} {sl : List Nat} {fi : PEnv → R (List PyData)} {kt : PyData → R (List (Nat × PyData))} {ft : PEnv → R Bool} {fe : PEnv → R PyData} {cpos : Pos}
    {hh : OEnv → R (O × OEnv)} (mode : ∀ {t : TE}, (∀ σ H B ρ Q, Same B H → RF X.K B σ ρ → Pst X W σ H (KFr X B H Q) (vcomp (own.map (·.2)) fi kt ft fe ρ) → t σ H Q) → ∀ σ H F0 H0 F ρ Q, RS X.K F0 H0 F H σ ρ → Pst X W σ H (KO X F0 H0 σ Q) (hh ρ) → t σ H Q)
    (hc : X.calm = true) (hN : X.N.Nodup) (hy : X.N[i]? = some x) (hyl : X.env.scope.names.lookup x = some .local) (hsw : swapsWith (.ListComp elt [⟨tg, iter, ifs, 0⟩] scope cpos) (some (.Name x py)) pos.line X.env = pure true)
    (hi : VI X W tg iter fi) (ok : BlkOk X.N X.env.scope scope own)
    (hg : ∀ (s : Shared) (H : Hp) (C : Addr) (cl : List (Str × Addr)) (fp : List Addr), VG (X.blk s H scope (compEnvC scope cl C X.env) fp) tg sl kt)
    (hso : ∀ i ∈ sl, i ∈ own.map (·.2))
    (ht : ∀ (s : Shared) (H : Hp) (C : Addr) (cl : List (Str × Addr)) (fp : List Addr), VTs (X.blk s H scope (compEnvC scope cl C X.env) fp) W0 ifs ft)
    (hee : ∀ (s : Shared) (H : Hp) (C : Addr) (cl : List (Str × Addr)) (fp : List Addr), VE (X.blk s H scope (compEnvC scope cl C X.env) fp) W0 elt fe) (hs : ∀ x, foldedSetIterable iter X.env x = pure x := by intro _; rfl) :
    VS X W (.Assign [.Name x py] (.ListComp elt [⟨tg, iter, ifs, 0⟩] scope cpos) pos) (sSet i hh) := by
  obtain ⟨wi, pi, qi⟩ := hi.ex
  have h1 : ∀ (s : Shared) (H : Hp) (C : Addr) (cl : List (Str × Addr)) (fp : List Addr), PG (X.blk s H scope (compEnvC scope cl C X.env) fp) tg (tVG X kt) := fun s H C cl fp => (hg s H C cl fp).pg
  have h2 : ∀ (s : Shared) (H : Hp) (C : Addr) (cl : List (Str × Addr)) (fp : List Addr), PTs (X.blk s H scope (compEnvC scope cl C X.env) fp) ifs (tVT X W0 ft) := fun s H C cl fp => (ht s H C cl fp).pt
  have h3 : ∀ (s : Shared) (H : Hp) (C : Addr) (cl : List (Str × Addr)) (fp : List Addr), PE (X.blk s H scope (compEnvC scope cl C X.env) fp) elt (tV X W0 fe) := fun s H C cl fp => (hee s H C cl fp).pe
  have hsl : ∀ d bs, kt d = .ok bs → bs.map (·.1) = sl := (hg {} (fun _ => none) 0 [] []).sl
  refine ⟨_, ps_setLc hc hN hy hyl hsw pi ok h1 h2 h3 hs, fun D σ H F0 H0 F ρ r pr => ?_⟩
  refine mode (fun σ H B ρ Q s rf pr => comp_read qi (fun v σ H B d Q s dv q => ⟨B, d, s, dv, q⟩) hsl hso (fun σ H B ρ Q s r p => ⟨B, ρ, s, r, p⟩) (fun σ H B ρ Q s r p => ⟨B, ρ, s, r, p⟩) s rf pr) σ H F0 H0 F ρ _ r (sr_pst r pr fun o po v H' F' r' => ?_)
  exact po _ _ _ (r'.put i)
def sRet (h : OEnv → R (O × OEnv)) : OEnv → SR := fun ρ => (h ρ).sr ρ fun p => .rt p.1 p.2
theorem vs_ret (he : VO X W e ho) : VS X W (.Return (some e) pos) (sRet ho) := by
  obtain ⟨t, p, q⟩ := he.ex
  refine ⟨_, ps_ret p, fun D σ H F0 H0 F ρ r pr => ?_⟩
  refine q σ H F0 H0 F ρ _ r (sr_pst r pr fun o po v H' F' r' => ?_)
  exact po v σ H' F' r'
theorem vs_retN : VS X W (.Return none pos) (fun ρ => .rt (.fz .none) ρ) := by
  refine ⟨_, ps_retN, fun D σ H F0 H0 F ρ r pr => ?_⟩
  obtain ⟨fps, s, hs⟩ := r.ex
  exact pr .non σ H F ⟨[] ++ fps, .ow (.fz .non) s, hs⟩
def sExpr (h : OEnv → R (O × OEnv)) : OEnv → SR := fun ρ => (h ρ).sr ρ fun p => .nx p.2
theorem vs_expr (he : VO X W e ho) (hs : swapsWith e none pos.line X.env = pure false := by rfl) : VS X W (.Expr e pos) (sExpr ho) := by
  obtain ⟨t, p, q⟩ := he.ex
  refine ⟨_, ps_expr p hs, fun D σ H F0 H0 F ρ r pr => ?_⟩
  refine q σ H F0 H0 F ρ _ r (sr_pst r pr fun o po v H' F' r' => ?_)
  obtain ⟨fps, s, hs⟩ := r'.ex
  cases s with
  | ow h1 s => exact po σ H' F' ⟨_, s, hs.sub (List.sublist_append_right _ _)⟩
def sIf (t : OEnv → R Bool) (g h : OEnv → SR) : OEnv → SR := fun ρ => (t ρ).sr ρ fun b => if b then g ρ else h ρ
theorem vs_if {ts us : List Stmt} {ht : OEnv → R Bool} (h0 : VXT X W c ht) (h1 : VSs X W ts g) (h2 : VSs X W us h) : VS X W (.If c ts us pos) (sIf ht g h) := by
  obtain ⟨t, p, q⟩ := h0.ex
  obtain ⟨t1, p1, q1⟩ := h1.ex
  obtain ⟨t2, p2, q2⟩ := h2.ex
  refine ⟨_, ps_if p p1 p2, fun D σ H F0 H0 F ρ r pr => ?_⟩
  refine q σ H F0 H0 F ρ _ r (sr_pst r pr fun b pb H' F' ex => ?_)
  cases b with
  | true => exact iteT (q1 D σ H' F0 H0 F' ρ (r.ext ex) pb)
  | false => exact iteF (q2 D σ H' F0 H0 F' ρ (r.ext ex) pb)
end
end VL

namespace VL
open PySem PySem.Spec PyProof.Rows L2

theorem Hs.rebase {F0 H0 F1 F H : Hp} {fps : List Addr} (h : Hs F1 H0 F H fps) (s : Same F0 F1) (n : ∀ a, F0 a = none → F1 a ≠ none → H0 a = none) : Hs F0 H0 F H fps :=
  ⟨h.nd, h.ow, h.fh, s.trans h.f0, h.h0, fun a h1 h2 => by
    cases q : F1 a with
    | none => exact h.nw a q h2
    | some o => exact n a h1 (by rw [q]; exact fun w => nomatch w)⟩
theorem RS.self {K : PySem.W.Frag} {F0 H0 F H : Hp} {σ : L2.St} {ρ : OEnv} (r : RS K F0 H0 F H σ ρ) : RS K F H0 F H σ ρ ∧ Same F0 F ∧ ∀ a, F0 a = none → F a ≠ none → H0 a = none := by
  obtain ⟨fps, s, hs⟩ := r.ex
  exact ⟨⟨fps, s, hs.nd, hs.ow, hs.fh, Same.refl F, hs.h0, fun a x y => absurd x y⟩, hs.f0, hs.nw⟩
theorem RS.rebase {K : PySem.W.Frag} {F0 H0 F1 F H : Hp} {σ : L2.St} {ρ : OEnv} (r : RS K F1 H0 F H σ ρ) (s : Same F0 F1) (n : ∀ a, F0 a = none → F1 a ≠ none → H0 a = none) : RS K F0 H0 F H σ ρ := by
  obtain ⟨fps, sl, hs⟩ := r.ex
  exact ⟨fps, sl, hs.rebase s n⟩
theorem RV.rebase {K : PySem.W.Frag} {F0 H0 F1 F H : Hp} {v : V} {o : O} (r : RV K F1 H0 F H v o) (s : Same F0 F1) (n : ∀ a, F0 a = none → F1 a ≠ none → H0 a = none) : RV K F0 H0 F H v o := by
  obtain ⟨fps, sl, hs⟩ := r
  exact ⟨fps, sl, hs.rebase s n⟩
theorem RS.tail {K : PySem.W.Frag} {F0 H0 F H : Hp} {σ : L2.St} {ρ : OEnv} {s : Option V} {o : Option O} (r : RS K F0 H0 F H (s :: σ) (o :: ρ)) : RS K F0 H0 F H σ ρ := by
  obtain ⟨fps, sl, hs⟩ := r.ex
  cases sl with
  | un s => exact ⟨_, s, hs⟩
  | ow h1 s => exact ⟨_, s, hs.sub (List.sublist_append_right _ _)⟩
theorem RS.consFz {K : PySem.W.Frag} {F0 H0 F H : Hp} {σ : L2.St} {ρ : OEnv} {v : V} {d : PyData} (r : RS K F0 H0 F H σ ρ) (h : Is K F v d) : RS K F0 H0 F H (some v :: σ) (some (.fz d) :: ρ) := by
  obtain ⟨fps, sl, hs⟩ := r.ex
  exact ⟨_, .ow (.fz h) sl, hs⟩
def setsO (ρ : OEnv) (bs : List (Nat × PyData)) : OEnv := bs.foldl (fun ρ b => ρ.set b.1 (some (.fz b.2))) ρ
theorem RS.sets {K : PySem.W.Frag} {F0 H0 F H : Hp} : ∀ {bv : List (Nat × V)} {bd : List (Nat × PyData)} {σ : L2.St} {ρ : OEnv}, RS K F0 H0 F H σ ρ → Bds K F bv bd → RS K F0 H0 F H (setsV σ bv) (setsO ρ bd)
  | _, _, _, _, r, .nil => r
  | _, _, _, _, r, .cons (a := p) (b := q) h t => by
    obtain ⟨r1, r2⟩ := h
    unfold setsV setsO
    rw [List.foldl_cons, List.foldl_cons, r1]
    exact RS.sets ((r.consFz r2).put q.1) t

/-! a list of one's own is changed -/
theorem OwnL.setAt {K : PySem.W.Frag} {F H : Hp} {y : V} {o : O} {fpo : List Addr} (ho : Own K F H y o fpo) : ∀ {os : List O} {vs : List V} {fp : List Addr} (j : Nat), OwnL K F H vs os fp → ∃ fp', OwnL K F H (vs.set j y) (os.set j o) fp' ∧ ∃ fp'', fp'.Perm fp'' ∧ fp''.Sublist (fp ++ fpo)
  | [], _, _, j, h => by cases h; exact ⟨[], by simp; exact .nil, [], .refl _, List.nil_sublist _⟩
  | p :: os, _, _, 0, h => by
    cases h with
    | @cons v vs _ _ f1 f2 h1 h2 =>
      refine ⟨fpo ++ f2, .cons ho h2, f2 ++ fpo, List.perm_append_comm, ?_⟩
      rw [List.append_assoc]
      exact List.sublist_append_right _ _
  | p :: os, _, _, j + 1, h => by
    cases h with
    | @cons v vs _ _ f1 f2 h1 h2 =>
      obtain ⟨f3, z1, f4, z2, z3⟩ := OwnL.setAt ho j h2
      refine ⟨f1 ++ f3, .cons h1 z1, f1 ++ f4, List.Perm.append_left f1 z2, ?_⟩
      rw [List.append_assoc]
      exact List.Sublist.append_left z3 f1
/-- a change of a list's items by one value -/
structure Chg (tv : List V → V → List V) (to : List O → O → List O) : Prop where
  own : ∀ {K : PySem.W.Frag} {F H : Hp} {vs : List V} {os : List O} {y : V} {o : O} {fp fpo : List Addr}, OwnL K F H vs os fp → Own K F H y o fpo → ∃ fp', OwnL K F H (tv vs y) (to os o) fp' ∧ ∃ fp'', fp'.Perm fp'' ∧ fp''.Sublist (fp ++ fpo)
theorem chg_app : Chg (fun vs y => vs ++ [y]) (fun os o => os ++ [o]) := ⟨fun {K F H vs os y o fp fpo} h1 h2 => by
  refine ⟨fp ++ fpo, ?_, fp ++ fpo, .refl _, .refl _⟩
  have z := OwnL.append h1 (.cons h2 .nil)
  rw [List.append_nil] at z
  exact z⟩
theorem chg_set (j : Nat) : Chg (fun vs y => vs.set j y) (fun os o => os.set j o) := ⟨fun h1 h2 => OwnL.setAt h2 j h1⟩
theorem RS.mut {K : PySem.W.Frag} {F0 H0 F H : Hp} {σ : L2.St} {ρ : OEnv} {y : V} {o : O} {i : Nat} {os : List O} {tv : List V → V → List V} {to : List O → O → List O} (c : Chg tv to) (r : RS K F0 H0 F H (some y :: σ) (some o :: ρ)) (ei : ρ[i]? = some (some (.lst os))) :
    ∃ a vs, σ[i]? = some (some (.ref a)) ∧ H a = some (.lst vs) ∧ vs.length = os.length ∧ RS K F0 H0 F (upd H a (.lst (tv vs y))) σ (ρ.set i (some (.lst (to os o)))) := by
  obtain ⟨fps, sl, hs⟩ := r.ex
  cases sl with
  | @ow _ _ fpo _ _ fpt h1 s =>
    obtain ⟨v, fp, fpr, e1, e2, e3, e4, e5⟩ := s.split ei
    cases e2 with
    | @lst a vs _ fpi ha hl =>
      refine ⟨a, vs, e1, ha, hl.len, ?_⟩
      have hp : Hs F0 H0 F H (fpo ++ ((a :: fpi) ++ fpr)) := hs.perm (List.Perm.append_left fpo e3)
      have nd := List.nodup_append.mp hp.nd
      have nd2 := List.nodup_append.mp nd.2.1
      have na_o : a ∉ fpo := fun m => nd.2.2 a m a (List.mem_append_left _ List.mem_cons_self) rfl
      have na_i : a ∉ fpi := (List.nodup_cons.mp nd2.1).1
      have na_r : a ∉ fpr := fun m => nd2.2.2 a List.mem_cons_self a m rfl
      have hk : ∀ b, b ≠ a → upd H a (.lst (tv vs y)) b = H b := fun b hb => upd_ne hb
      have o1 : Own K F (upd H a (.lst (tv vs y))) y o fpo := h1.keep (Same.refl F) fun b hb => hk b fun e => na_o (e ▸ hb)
      have l1 : OwnL K F (upd H a (.lst (tv vs y))) vs os fpi := hl.keep (Same.refl F) fun b hb => hk b fun e => na_i (e ▸ hb)
      obtain ⟨fp', z1, fp'', z2, z3⟩ := c.own l1 o1
      obtain ⟨fps', w1, w2⟩ := e5 F (upd H a (.lst (tv vs y))) (.ref a) (.lst (to os o)) (a :: fp') (.lst upd_same z1) (Same.refl F) fun b hb => hk b fun e => na_r (e ▸ hb)
      rw [set_same e1] at w1
      have an : F a = none ∧ H0 a = none := hp.ow a (List.mem_append_right _ (List.mem_append_left _ List.mem_cons_self))
      have base : Hs F0 H0 F (upd H a (.lst (tv vs y))) (fpo ++ ((a :: fpi) ++ fpr)) := ⟨hp.nd, hp.ow, fun b u q => by
        rw [hk b (fun e => by rw [e, an.1] at q; cases q)]; exact hp.fh _ _ q, hp.f0, fun b u q => by
        rw [hk b (fun e => by rw [e, an.2] at q; cases q)]; exact hp.h0 _ _ q, hp.nw⟩
      have p1 : (fpo ++ ((a :: fpi) ++ fpr)).Perm (a :: ((fpi ++ fpo) ++ fpr)) := by
        have : (fpo ++ ((a :: fpi) ++ fpr)).Perm (((a :: fpi) ++ fpo) ++ fpr) := by
          rw [← List.append_assoc]
          exact List.Perm.append_right _ List.perm_append_comm
        simpa using this
      have p2 : Hs F0 H0 F (upd H a (.lst (tv vs y))) (a :: (fp'' ++ fpr)) := (base.perm p1).sub (List.Sublist.cons_cons a (List.Sublist.append_right z3 fpr))
      refine ⟨fps', w1, (p2.perm ?_).perm w2.symm⟩
      exact List.Perm.cons a (List.Perm.append_right fpr z2.symm)

section
variable {X : Cx} {W : WX} {a b c e : Expr} {st : Stmt} {sts rest : List Stmt} {pos : Pos} {g h : OEnv → SR} {hx hx' : OEnv → R PyData} {ho : OEnv → R (O × OEnv)} {k : Nat}
/-- x.append(e) -/
def sApp (i : Nat) (h : OEnv → R (O × OEnv)) : OEnv → SR := fun ρ => match ρ[i]? with
  | some (some (.lst _)) => (h ρ).sr ρ fun p => match p.2[i]? with
    | some (some (.lst os)) => if os.length < sizeLine then .nx (p.2.set i (some (.lst (os ++ [p.1])))) else .stuck
    | _ => .stuck
  | _ => .stuck
theorem vs_app (i : Nat) {x : Str} {p1 p2 p3 : Pos} (mk : ∀ {t : TE}, PE X e t → PE X (.Call (.Attribute (.Name x p1) "append" p2) [e] [] p3) (tBM X.K "list" rAppend (tVar i) (tCons t tNil))) (he : VO X W e ho)
    (hs : swapsWith (.Call (.Attribute (.Name x p1) "append" p2) [e] [] p3) none pos.line X.env = pure false := by rfl) :
    VS X W (.Expr (.Call (.Attribute (.Name x p1) "append" p2) [e] [] p3) pos) (sApp i ho) := by
  obtain ⟨t, p, q⟩ := he.ex
  refine ⟨_, ps_expr (mk p) hs, fun D σ H F0 H0 F ρ r pr => ?_⟩
  unfold sApp at pr
  split at pr
  · rename_i os0 e0
    obtain ⟨fps, sl, hss⟩ := r.ex
    obtain ⟨v, fp, fpr, e1, e2, e3, e4, e5⟩ := sl.split e0
    cases e2 with
    | @lst ad vs _ fpi ha hl =>
      refine ⟨.ref ad, e1, .inl ⟨rfl, _, .inl (.inl ha)⟩, ?_⟩
      refine q σ H F0 H0 F ρ _ r (sr_pst r pr fun o po y H' F' r' => ?_)
      split at po
      · rename_i os eo
        split at po
        · rename_i hz
          obtain ⟨ad', vs', e6, e7, e8, r2⟩ := r'.mut chg_app eo
          rw [e1] at e6
          cases e6
          exact ⟨ad, vs', y, rfl, rfl, e7, by rw [e8]; exact hz, po _ _ _ r2⟩
        · exact po.elim
      · exact po.elim
  · exact pr.elim
/-- x[k] = e -/
def sSetI (i : Nat) (hk : OEnv → R PyData) (h : OEnv → R (O × OEnv)) : OEnv → SR := fun ρ => (h ρ).sr ρ fun p => match p.2[i]? with
  | some (some (.lst os)) => (hk p.2).sr p.2 fun d => match d with
    | .int j => (match ixN os.length j with
      | some n => .nx (p.2.set i (some (.lst (os.set n p.1))))
      | none => .stuck)
    | _ => .stuck
  | _ => .stuck
theorem vs_setI (i : Nat) {x : Str} {p1 p2 : Pos} (mk : ∀ {te tk : TE}, PE X e te → PE X b tk → PS X (.Assign [.Subscript (.Name x p1) b p2] e pos) (tAsg te (gSub (tVar i) tk rSetL))) (hk : VX X W b hx) (he : VO X W e ho) :
    VS X W (.Assign [.Subscript (.Name x p1) b p2] e pos) (sSetI i hx ho) := by
  obtain ⟨t, p, q⟩ := he.ex
  obtain ⟨tk, pk, qk⟩ := hk.ex
  refine ⟨_, mk p pk, fun D σ H F0 H0 F ρ r pr => ?_⟩
  unfold sSetI at pr
  refine q σ H F0 H0 F ρ _ r (sr_pst r pr fun o po y H' F' r' => ?_)
  have rt := r'.tail
  split at po
  · rename_i os eo
    obtain ⟨fps, sl, hss⟩ := rt.ex
    obtain ⟨v, fp, fpr, e1, e2, e3, e4, e5⟩ := sl.split eo
    refine ⟨v, e1, ?_⟩
    refine qk σ H' F0 H0 F' o.2 _ rt (sr_pst rt po fun d pd => ?_)
    intro iv H2 F2 ex di
    cases di <;> first | exact pd.elim | skip
    rename_i j
    simp only at pd
    split at pd
    · rename_i n en
      obtain ⟨ad, vs, e6, e7, e8, r2⟩ := (r'.ext ex).mut (chg_set n) eo
      rw [e1] at e6
      cases e6
      exact ⟨ad, vs, j, n, rfl, rfl, e7, by rw [e8]; exact en, pd _ _ _ r2⟩
    · exact pd.elim
  · exact po.elim
/-- x += e, x -= e of ints -/
def sAug (f : Int → Int → Int) (i : Nat) (h : OEnv → R PyData) : OEnv → SR := fun ρ => match ρ[i]? with
  | some (some (.fz (.int a))) => (h ρ).sr ρ fun d => match d with
    | .int b => .nx (ρ.set i (some (.fz (.int (f a b)))))
    | _ => .stuck
  | _ => .stuck
theorem vs_aug {f : Int → Int → Int} {op : Operator} (hop : PIp X op (ipI f)) (i : Nat) {x : Str} {p1 : Pos} (hN : X.N.Nodup) (he : VX X W e hx) (hi : X.N[i]? = some x := by rfl) (hxl : Loc X.env.scope x := by first | exact Or.inl rfl | exact Or.inr rfl) (hf : X.fn x = true ∨ X.env.scope.names.lookup x = some .local := by first | exact .inl rfl | exact .inr rfl) :
    VS X W (.AugAssign (.Name x p1) op e pos) (sAug f i hx) := by
  obtain ⟨t, p, q⟩ := he.ex
  refine ⟨_, ps_aug hN hi hxl p hop hf, fun D σ H F0 H0 F ρ r pr => ?_⟩
  unfold sAug at pr
  split at pr
  · rename_i n en
    obtain ⟨fps, sl, hss⟩ := r.ex
    obtain ⟨v, fp, fpr, e1, e2, e3, e4, e5⟩ := sl.split en
    cases e2 with
    | fz hv =>
      cases hv
      refine ⟨_, e1, ?_⟩
      refine q σ H F0 H0 F ρ _ r (sr_pst r pr fun d pd y H' F' ex dy => ?_)
      cases dy <;> first | exact pd.elim | skip
      rename_i m
      exact ⟨n, m, rfl, rfl, pd _ H' F' (((r.ext ex).consFz (.int (f n m))).put i)⟩
  · exact pr.elim
/-- a, b = e: a tuple of data -/
def sTup (k : PyData → R (List (Nat × PyData))) (h : OEnv → R PyData) : OEnv → SR := fun ρ => (h ρ).sr ρ fun d => match k d with | .ok bd => .nx (setsO ρ bd) | _ => .stuck
theorem vs_tup {tg : Expr} {sl : List Nat} {k : PyData → R (List (Nat × PyData))} (hg : VG X tg sl k) (he : VX X W e hx) (h1 : swapsWithSole [tg] e pos.line X.env = pure false := by rfl) (h2 : swappedStores [tg] e X.env = pure none := by rfl) (h3 : (assignEach [tg] X.env).map (·.2) = [assign tg X.env] := by rfl) :
    VS X W (.Assign [tg] e pos) (sTup k hx) := by
  obtain ⟨t, p, q⟩ := he.ex
  obtain ⟨tg', pg, qg⟩ := hg.ex
  refine ⟨_, ps_asg p pg h1 h2 h3, fun D σ H F0 H0 F ρ r pr => ?_⟩
  unfold sTup at pr
  refine q σ H F0 H0 F ρ _ r (sr_pst r pr fun d pd v H' F' ex dv => ?_)
  have r' := r.ext ex
  obtain ⟨fps, sl', hss⟩ := r'.ex
  generalize hk : k d = rk at pd
  cases rk with
  | stuck => exact pd.elim
  | err c => exact pd.elim
  | ok bd => exact qg v σ H' F' d _ hss.fh dv ⟨bd, hk, fun bv hb => pd _ H' F' (RS.sets r' hb)⟩
end
end VL

namespace VL
open PySem PySem.Spec PyProof.Rows L2

/-! ### sources of a for in a def's body -/
def KIX (X : Cx) (F H : Hp) (Rr : It → Hp → Prop) (ds : List PyData) : Prop := ∀ J H' F', Ext F H F' H' → Walks X.K J ds F' → Rr J H'
structure VIX (X : Cx) (W : WX) (tg iter : Expr) (h : OEnv → R (List PyData)) : Prop where
  ex : ∃ wi, PI X tg iter wi ∧ ∀ σ H F0 H0 F ρ Rr, RS X.K F0 H0 F H σ ρ → Pst X W σ H (KIX X F H Rr) (h ρ) → wi σ H Rr
section
variable {X : Cx} {W : WX} {a b c e tg iter : Expr} {st : Stmt} {sts rest : List Stmt} {pos : Pos} {g h : OEnv → SR} {hx hx' ha hb : OEnv → R PyData} {ho : OEnv → R (O × OEnv)} {k : Nat}
theorem vix_F {f : PEnv → R (List PyData)} (h : VI X W tg iter f) : VIX X W tg iter (fun ρ => f (viewF ρ)) := by
  obtain ⟨wi, p, q⟩ := h.ex
  refine ⟨wi, p, fun σ H F0 H0 F ρ Rr r pr => ?_⟩
  obtain ⟨fps, s, hs⟩ := r.ex
  exact q σ H F _ Rr hs.fh s.rfF pr
def x1 (g : PyData → R (List PyData)) (h : OEnv → R PyData) : OEnv → R (List PyData) := fun ρ => (h ρ).bind g
def x2 (g : PyData → PyData → R (List PyData)) (h h' : OEnv → R PyData) : OEnv → R (List PyData) := fun ρ => (h ρ).bind fun d => (h' ρ).bind fun e => g d e
theorem oneX {ta : TE} (hq : ∀ σ H F0 H0 F ρ Q, RS X.K F0 H0 F H σ ρ → Pst X W σ H (KX X F H Q) (hx ρ) → ta σ H Q)
    {α : Type} {σ : L2.St} {F0 H0 H F : Hp} {ρ : OEnv} {g : PyData → R α} {K : α → Prop} {Q : V → Hp → Prop} (r : RS X.K F0 H0 F H σ ρ)
    (p : Pst X W σ H K ((hx ρ).bind g))
    (q : ∀ d x H' F', Ext F H F' H' → Is X.K F' x d → Pst X W σ H' K (g d) → Q x H') : ta σ H Q := by
  refine hq σ H F0 H0 F ρ _ r ?_
  generalize hx ρ = ra at p ⊢
  cases ra with
  | stuck => exact p
  | err c => exact p
  | ok d =>
    intro x H1 F1 e1 d1
    refine q d x H1 F1 e1 d1 ?_
    simp only [R.bind_ok] at p
    generalize g d = rg at p ⊢
    cases rg with
    | stuck => exact p
    | err c => exact fun H' z => p H' (e1.hh.trans z)
    | ok z => exact p
theorem vix_range1 {p pos : Pos} (hm : X.mg "range" = none) (h1 : VX X W a ha) (hg : Gl X "range" := by rfl) (hs : starEach [a] X.env = [(false, eval a X.env)] := by rfl) (he : starEach [a] X.env = (false, eval a X.env) :: starEach [] X.env := by rfl) : VIX X W tg (.Call (.Name "range" p) [a] [] pos) (x1 vrange1 ha) := by
  obtain ⟨t, pt, qt⟩ := h1.ex
  refine ⟨_, pi_range1 hg hm (pa_cons pt pa_nil he) hs, fun σ H F0 H0 F ρ Rr r pr => ?_⟩
  refine oneX qt r pr fun d x H' F' ex dx pg => ?_
  cases dx <;> first | exact pg.elim | skip
  rename_i i
  simp only [vrange1] at pg
  split at pg
  · rename_i hz
    have hz' : -16777216 ≤ (0:Int) ∧ (0:Int) ≤ 16777216 ∧ -16777216 ≤ i ∧ i ≤ 16777216 ∧ i - 0 ≤ 16777216 := hz
    exact ⟨_, rfl, by omega, by omega, pg _ H' F' ex (walks_range (by have := sizeLine_eq; omega))⟩
  · exact pg.elim
theorem vix_range2 {p pos : Pos} (hm : X.mg "range" = none) (h1 : VX X W a ha) (h2 : VX X W b hb) (hg : Gl X "range" := by rfl) (hs : starEach [a, b] X.env = [(false, eval a X.env), (false, eval b X.env)] := by rfl) (hs2 : starEach [b] X.env = [(false, eval b X.env)] := by rfl)
    (he : starEach [a, b] X.env = (false, eval a X.env) :: starEach [b] X.env := by rfl) (he2 : starEach [b] X.env = (false, eval b X.env) :: starEach [] X.env := by rfl) : VIX X W tg (.Call (.Name "range" p) [a, b] [] pos) (x2 vrange2 ha hb) := by
  obtain ⟨t, pt, qt⟩ := h1.ex
  obtain ⟨t2, pt2, qt2⟩ := h2.ex
  refine ⟨_, pi_range2 hg hm (pa_cons pt (pa_cons pt2 pa_nil he2) he) hs hs2, fun σ H F0 H0 F ρ Rr r pr => ?_⟩
  refine oneX qt r pr fun d x H1 F1 ex1 dx p1 => ?_
  refine oneX qt2 (r.ext ex1) p1 fun e y H' F' ex dy pg => ?_
  cases dx <;> first | (cases dy <;> exact pg.elim) | skip
  cases dy <;> first | exact pg.elim | skip
  rename_i i j
  simp only [vrange2] at pg
  split at pg
  · rename_i hz
    have hz' : -16777216 ≤ i ∧ i ≤ 16777216 ∧ -16777216 ≤ j ∧ j ≤ 16777216 ∧ j - i ≤ 16777216 := hz
    exact ⟨i, j, rfl, ⟨by omega, by omega, by omega, by omega⟩, pg _ H' F' (ex1.trans ex) (walks_range (by have := sizeLine_eq; omega))⟩
  · exact pg.elim

/-! ### for -/
def forL (kt : PyData → R (List (Nat × PyData))) (kl : OEnv → OEnv) (gb : OEnv → SR) : List PyData → OEnv → SR
  | [], ρ => .nx ρ
  | d :: ds, ρ => match kt d with
    | .ok bs => (match gb (setsO ρ bs) with
      | .nx ρ' => forL kt kl gb ds (kl ρ')
      | .ct ρ' => forL kt kl gb ds (kl ρ')
      | .bk ρ' => .nx ρ'
      | r => r)
    | _ => .stuck
def sFor (hi : OEnv → R (List PyData)) (kt : PyData → R (List (Nat × PyData))) (kl : OEnv → OEnv) (gb : OEnv → SR) : OEnv → SR := fun ρ => (hi ρ).sr ρ fun ds => forL kt kl gb ds ρ
theorem RS.head {K : PySem.W.Frag} {F0 H0 F H : Hp} {σ : L2.St} {ρ : OEnv} {v : V} {o : O} (r : RS K F0 H0 F H (some v :: σ) (some o :: ρ)) : RV K F0 H0 F H v o := by
  obtain ⟨fps, sl, hs⟩ := r.ex
  cases sl with
  | ow h1 s => exact ⟨_, h1, hs.sub (List.sublist_append_left _ _)⟩
theorem SPst.rebase {F0 H0 F1 : Hp} {D D' : Ends} (s : Same F0 F1) (n : ∀ a, F0 a = none → F1 a ≠ none → H0 a = none) {r : SR} (hn : ∀ ρ, (r = .nx ρ → ∀ σ' H' F', RS X.K F1 H0 F' H' σ' ρ → D'.nx σ' H') ∧ (r = .bk ρ → ∀ σ' H' F', RS X.K F1 H0 F' H' σ' ρ → D'.bk σ' H') ∧ (r = .ct ρ → ∀ σ' H' F', RS X.K F1 H0 F' H' σ' ρ → D'.ct σ' H'))
    (hrt : D'.rt = D.rt) (p : ∀ ρ, r ≠ .nx ρ → r ≠ .bk ρ → r ≠ .ct ρ → SPst X W F0 H0 D r) (hs : r ≠ .stuck) : SPst X W F1 H0 D' r := by
  cases r with
  | stuck => exact absurd rfl hs
  | err c ρ => exact fun σ' H' F' x => p ρ (fun z => nomatch z) (fun z => nomatch z) (fun z => nomatch z) σ' H' F' (x.rebase s n)
  | nx ρ => exact (hn ρ).1 rfl
  | bk ρ => exact (hn ρ).2.1 rfl
  | ct ρ => exact (hn ρ).2.2 rfl
  | rt o ρ => exact fun v σ' H' F' x => by rw [hrt]; exact p [] (fun z => nomatch z) (fun z => nomatch z) (fun z => nomatch z) v σ' H' F' (x.rebase s n)
theorem vs_for {body : List Stmt} {sl : List Nat} {kt : PyData → R (List (Nat × PyData))} {hi : OEnv → R (List PyData)} {kl : OEnv → OEnv} {gb : OEnv → SR} (hp : PassesOwn (model X.prog X.w) X.A X.env X.xe) (hc : X.calm = true) (h1 : VIX X W tg iter hi) (h2 : VG X tg sl kt) (hk : EnvT X.K kl) (h3 : VSs X W body gb)
    (hs : ∀ x, foldedSetIterable iter X.env x = pure x := by intro _; rfl) : VS X W (.For tg iter body [] pos) (sFor hi kt kl gb) := by
  obtain ⟨wi, pi, qi⟩ := h1.ex
  obtain ⟨tg', pg, qg⟩ := h2.ex
  obtain ⟨tb, pb, qb⟩ := h3.ex
  refine ⟨_, ps_for hp hc pi pg pb hs, fun D σ H F0 H0 F ρ r pr => ?_⟩
  refine qi σ H F0 H0 F ρ _ r (sr_pst r pr fun ds pd J H1 F1 ex wk => ?_)
  have r1 := r.ext ex
  refine ⟨fun i m σ H => m = ds.length - i ∧ i ≤ ds.length ∧ ∃ F' ρ', RS X.K F0 H0 F' H σ ρ' ∧ Same F1 F' ∧ SPst X W F0 H0 D (forL kt kl gb (ds.drop i) ρ'), ⟨ds.length, by simp, Nat.zero_le _, F1, ρ, r1, Same.refl _, by simpa using pd⟩, ?_⟩
  rintro i m σ' Hi ⟨rfl, hi', F', ρ', r', s1, pd'⟩
  obtain ⟨rs, b1, b2⟩ := r'.self
  have fh : Same F' Hi := by obtain ⟨_, _, hs⟩ := rs.ex; exact hs.fh
  by_cases hlt : i < ds.length
  · refine .inr ⟨wk.go i Hi (s1.trans fh) hlt, fun σ' H => i + 1 ≤ ds.length ∧ ∃ F' ρ', RS X.K F0 H0 F' H σ' ρ' ∧ Same F1 F' ∧ SPst X W F0 H0 D (forL kt kl gb (ds.drop (i + 1)) ρ'), fun σ'' H'' q => ⟨ds.length - (i + 1), by omega, rfl, q⟩, fun x H' y => ?_⟩
    obtain ⟨d, F2, e2, E2, dx⟩ := wk.yld i Hi x H' F' s1 fh hlt y
    have hdrop : ds.drop i = d :: ds.drop (i + 1) := by
      obtain ⟨q1, q2⟩ := List.getElem?_eq_some_iff.mp e2
      rw [List.drop_eq_getElem_cons q1, q2]
    rw [hdrop] at pd'
    simp only [forL] at pd'
    generalize hkd : kt d = rk at pd'
    cases rk with
    | stuck => exact pd'.elim
    | err c => exact pd'.elim
    | ok bs =>
      simp only at pd'
      refine qg x σ' H' F2 d _ E2.bh dx ⟨bs, hkd, fun bv hb => ?_⟩
      have r2 : RS X.K F' H0 F2 H' (setsV σ' bv) (setsO ρ' bs) := RS.sets (rs.ext E2) hb
      have again : ∀ {σ3 : L2.St} {H3 F3 : Hp} {ρ3 : OEnv}, RS X.K F' H0 F3 H3 σ3 ρ3 → SPst X W F0 H0 D (forL kt kl gb (ds.drop (i + 1)) (kl ρ3)) → i + 1 ≤ ds.length ∧ ∃ F' ρ', RS X.K F0 H0 F' H3 σ3 ρ' ∧ Same F1 F' ∧ SPst X W F0 H0 D (forL kt kl gb (ds.drop (i + 1)) ρ') := fun {σ3 H3 F3 ρ3} r3 p3 => by
        obtain ⟨F4, r4⟩ := hk F' H0 F3 H3 σ3 ρ3 r3
        refine ⟨hlt, F4, kl ρ3, r4.rebase b1 b2, s1.trans ?_, p3⟩
        obtain ⟨_, _, hs⟩ := r4.ex
        exact hs.f0
      refine qb _ (setsV σ' bv) H' F' H0 F2 (setsO ρ' bs) r2 ?_
      generalize hgb : gb (setsO ρ' bs) = rg at pd'
      cases rg with
      | stuck => exact pd'.elim
      | err c ρ3 => exact fun σ3 H3 F3 r3 => pd' σ3 H3 F3 (r3.rebase b1 b2)
      | nx ρ3 => exact fun σ3 H3 F3 r3 => again r3 pd'
      | ct ρ3 => exact fun σ3 H3 F3 r3 => again r3 pd'
      | bk ρ3 => exact fun σ3 H3 F3 r3 => pd' σ3 H3 F3 (r3.rebase b1 b2)
      | rt o _ => exact fun v σ3 H3 F3 r3 => pd' v σ3 H3 F3 (r3.rebase b1 b2)
  · have e : i = ds.length := by omega
    subst e
    refine .inl ⟨wk.stop Hi (s1.trans fh), ?_⟩
    rw [List.drop_length] at pd'
    exact pd' σ' Hi F' r'

def sForK (hi : OEnv → R (List PyData)) (T : OEnv → OEnv) (kt : PyData → R (List (Nat × PyData))) (kl : OEnv → OEnv) (gb : OEnv → SR) : OEnv → SR := fun ρ => (hi ρ).sr ρ fun ds => forL kt kl gb ds (T ρ)
/-- the same; what the source alone asked for is let go behind it -/
theorem vs_forK {body : List Stmt} {sl : List Nat} {kt : PyData → R (List (Nat × PyData))} {hi : OEnv → R (List PyData)} {T kl : OEnv → OEnv} {gb : OEnv → SR} (hp : PassesOwn (model X.prog X.w) X.A X.env X.xe) (hc : X.calm = true) (h1 : VIX X W tg iter hi) (h2 : VG X tg sl kt) (hT : ∀ F0 H0 F H σ ρ, RS X.K F0 H0 F H σ ρ → RS X.K F0 H0 F H σ (T ρ)) (hk : EnvT X.K kl) (h3 : VSs X W body gb)
    (hs : ∀ x, foldedSetIterable iter X.env x = pure x := by intro _; rfl) : VS X W (.For tg iter body [] pos) (sForK hi T kt kl gb) := by
  obtain ⟨wi, pi, qi⟩ := h1.ex
  obtain ⟨tg', pg, qg⟩ := h2.ex
  obtain ⟨tb, pb, qb⟩ := h3.ex
  refine ⟨_, ps_for hp hc pi pg pb hs, fun D σ H F0 H0 F ρ r pr => ?_⟩
  refine qi σ H F0 H0 F ρ _ r (sr_pst r pr fun ds pd J H1 F1 ex wk => ?_)
  have r1 := hT _ _ _ _ _ _ (r.ext ex)
  refine ⟨fun i m σ H => m = ds.length - i ∧ i ≤ ds.length ∧ ∃ F' ρ', RS X.K F0 H0 F' H σ ρ' ∧ Same F1 F' ∧ SPst X W F0 H0 D (forL kt kl gb (ds.drop i) ρ'), ⟨ds.length, by simp, Nat.zero_le _, F1, T ρ, r1, Same.refl _, by simpa using pd⟩, ?_⟩
  rintro i m σ' Hi ⟨rfl, hi', F', ρ', r', s1, pd'⟩
  obtain ⟨rs, b1, b2⟩ := r'.self
  have fh : Same F' Hi := by obtain ⟨_, _, hs⟩ := rs.ex; exact hs.fh
  by_cases hlt : i < ds.length
  · refine .inr ⟨wk.go i Hi (s1.trans fh) hlt, fun σ' H => i + 1 ≤ ds.length ∧ ∃ F' ρ', RS X.K F0 H0 F' H σ' ρ' ∧ Same F1 F' ∧ SPst X W F0 H0 D (forL kt kl gb (ds.drop (i + 1)) ρ'), fun σ'' H'' q => ⟨ds.length - (i + 1), by omega, rfl, q⟩, fun x H' y => ?_⟩
    obtain ⟨d, F2, e2, E2, dx⟩ := wk.yld i Hi x H' F' s1 fh hlt y
    have hdrop : ds.drop i = d :: ds.drop (i + 1) := by
      obtain ⟨q1, q2⟩ := List.getElem?_eq_some_iff.mp e2
      rw [List.drop_eq_getElem_cons q1, q2]
    rw [hdrop] at pd'
    simp only [forL] at pd'
    generalize hkd : kt d = rk at pd'
    cases rk with
    | stuck => exact pd'.elim
    | err c => exact pd'.elim
    | ok bs =>
      simp only at pd'
      refine qg x σ' H' F2 d _ E2.bh dx ⟨bs, hkd, fun bv hb => ?_⟩
      have r2 : RS X.K F' H0 F2 H' (setsV σ' bv) (setsO ρ' bs) := RS.sets (rs.ext E2) hb
      have again : ∀ {σ3 : L2.St} {H3 F3 : Hp} {ρ3 : OEnv}, RS X.K F' H0 F3 H3 σ3 ρ3 → SPst X W F0 H0 D (forL kt kl gb (ds.drop (i + 1)) (kl ρ3)) → i + 1 ≤ ds.length ∧ ∃ F' ρ', RS X.K F0 H0 F' H3 σ3 ρ' ∧ Same F1 F' ∧ SPst X W F0 H0 D (forL kt kl gb (ds.drop (i + 1)) ρ') := fun {σ3 H3 F3 ρ3} r3 p3 => by
        obtain ⟨F4, r4⟩ := hk F' H0 F3 H3 σ3 ρ3 r3
        refine ⟨hlt, F4, kl ρ3, r4.rebase b1 b2, s1.trans ?_, p3⟩
        obtain ⟨_, _, hs⟩ := r4.ex
        exact hs.f0
      refine qb _ (setsV σ' bv) H' F' H0 F2 (setsO ρ' bs) r2 ?_
      generalize hgb : gb (setsO ρ' bs) = rg at pd'
      cases rg with
      | stuck => exact pd'.elim
      | err c ρ3 => exact fun σ3 H3 F3 r3 => pd' σ3 H3 F3 (r3.rebase b1 b2)
      | nx ρ3 => exact fun σ3 H3 F3 r3 => again r3 pd'
      | ct ρ3 => exact fun σ3 H3 F3 r3 => again r3 pd'
      | bk ρ3 => exact fun σ3 H3 F3 r3 => pd' σ3 H3 F3 (r3.rebase b1 b2)
      | rt o _ => exact fun v σ3 H3 F3 r3 => pd' v σ3 H3 F3 (r3.rebase b1 b2)
  · have e : i = ds.length := by omega
    subst e
    refine .inl ⟨wk.stop Hi (s1.trans fh), ?_⟩
    rw [List.drop_length] at pd'
    exact pd' σ' Hi F' r'

theorem rs_kill (K : PySem.W.Frag) : ∀ (is : List Nat) F0 H0 F H σ ρ, RS K F0 H0 F H σ ρ → RS K F0 H0 F H σ (kill is ρ)
  | [], _, _, _, _, _, _, r => r
  | i :: is, F0, H0, F, H, σ, ρ, r => rs_kill K is F0 H0 F H σ (ρ.set i none) (r.drop i)

/-! ### while -/
def whileN (t : OEnv → R Bool) (kl : OEnv → OEnv) (gb : OEnv → SR) : Nat → OEnv → SR
  | 0, _ => .stuck
  | n + 1, ρ => (t ρ).sr ρ fun b => if b then (match gb ρ with
      | .nx ρ' => whileN t kl gb n (kl ρ')
      | .ct ρ' => whileN t kl gb n (kl ρ')
      | .bk ρ' => .nx ρ'
      | r => r) else .nx ρ
/-- what it comes to, if it comes to something -/
noncomputable def sWhile (t : OEnv → R Bool) (kl : OEnv → OEnv) (gb : OEnv → SR) : OEnv → SR := fun ρ =>
  open Classical in if h : ∃ n, whileN t kl gb n ρ ≠ .stuck then whileN t kl gb (Classical.choose h) ρ else .stuck
theorem whileN_mono (t : OEnv → R Bool) (kl : OEnv → OEnv) (gb : OEnv → SR) : ∀ (n m : Nat) (ρ : OEnv), n ≤ m → whileN t kl gb n ρ ≠ .stuck → whileN t kl gb m ρ = whileN t kl gb n ρ := by
  intro n
  induction n with
  | zero => intro m ρ _ h; exact absurd rfl h
  | succ n ih =>
    intro m ρ hm h
    cases m with
    | zero => omega
    | succ m =>
      simp only [whileN] at h ⊢
      generalize t ρ = rt at h ⊢
      cases rt with
      | stuck => rfl
      | err c => rfl
      | ok b =>
        simp only [R.sr_ok] at h ⊢
        cases b with
        | false => rfl
        | true =>
          simp only [if_true] at h ⊢
          generalize gb ρ = rg at h ⊢
          cases rg with
          | nx ρ' => exact ih m _ (by omega) h
          | ct ρ' => exact ih m _ (by omega) h
          | stuck => rfl
          | err c ρ' => rfl
          | bk ρ' => rfl
          | rt o _ => rfl
theorem sWhile_eq {t : OEnv → R Bool} {kl : OEnv → OEnv} {gb : OEnv → SR} {n : Nat} {ρ : OEnv} {r : SR} (h : whileN t kl gb n ρ = r) (hr : r ≠ .stuck) : sWhile t kl gb ρ = r := by
  unfold sWhile
  have ex : ∃ n, whileN t kl gb n ρ ≠ .stuck := ⟨n, by rw [h]; exact hr⟩
  rw [dif_pos ex]
  have hc := Classical.choose_spec ex
  have h2 : whileN t kl gb n ρ ≠ .stuck := by rw [h]; exact hr
  rw [← h]
  by_cases hle : Classical.choose ex ≤ n
  · exact (whileN_mono t kl gb _ _ ρ hle hc).symm
  · exact whileN_mono t kl gb _ _ ρ (by omega) h2
theorem vs_while {body : List Stmt} {t : OEnv → R Bool} {kl : OEnv → OEnv} {gb : OEnv → SR} (hp : PassesOwn (model X.prog X.w) X.A X.env X.xe) (h1 : VXT X W c t) (hk : EnvT X.K kl) (h3 : VSs X W body gb) : VS X W (.While c body [] pos) (sWhile t kl gb) := by
  obtain ⟨tc, pc, qc⟩ := h1.ex
  obtain ⟨tb, pb, qb⟩ := h3.ex
  refine ⟨_, ps_while hp pc pb, fun D σ H F0 H0 F ρ r pr => ?_⟩
  have ex : ∃ n, whileN t kl gb n ρ ≠ .stuck := by
    refine Classical.byContradiction fun z => ?_
    unfold sWhile at pr
    rw [dif_neg z] at pr
    exact pr
  obtain ⟨n, hn⟩ := ex
  rw [sWhile_eq rfl hn] at pr
  refine ⟨fun m σ H => ∃ F ρ, RS X.K F0 H0 F H σ ρ ∧ SPst X W F0 H0 D (whileN t kl gb m ρ), ⟨n, F, ρ, r, pr⟩, ?_⟩
  rintro m σ1 H1 ⟨F1, ρ1, r1, p1⟩
  cases m with
  | zero => exact p1.elim
  | succ m =>
    simp only [whileN] at p1
    refine qc σ1 H1 F0 H0 F1 ρ1 _ r1 (sr_pst r1 p1 fun b pb' H2 F2 E2 => ?_)
    have r2 := r1.ext E2
    cases b with
    | false => exact iteF (pb' σ1 H2 F2 r2)
    | true =>
      simp only [if_true] at pb'
      refine iteT ⟨fun σ H => ∃ F ρ, RS X.K F0 H0 F H σ ρ ∧ SPst X W F0 H0 D (whileN t kl gb m ρ), fun σ' H' q => ⟨m, Nat.lt_succ_self m, q⟩, ?_⟩
      refine qb _ σ1 H2 F0 H0 F2 ρ1 r2 ?_
      have again : ∀ {σ3 : L2.St} {H3 F3 : Hp} {ρ3 : OEnv}, RS X.K F0 H0 F3 H3 σ3 ρ3 → SPst X W F0 H0 D (whileN t kl gb m (kl ρ3)) → ∃ F ρ, RS X.K F0 H0 F H3 σ3 ρ ∧ SPst X W F0 H0 D (whileN t kl gb m ρ) := fun {σ3 H3 F3 ρ3} r3 p3 => by
        obtain ⟨F4, r4⟩ := hk F0 H0 F3 H3 σ3 ρ3 r3
        exact ⟨F4, kl ρ3, r4, p3⟩
      generalize hgb : gb ρ1 = rg at pb'
      cases rg with
      | stuck => exact pb'.elim
      | err c ρ3 => exact pb'
      | nx ρ3 => exact fun σ3 H3 F3 r3 => again r3 pb'
      | ct ρ3 => exact fun σ3 H3 F3 r3 => again r3 pb'
      | bk ρ3 => exact pb'
      | rt o _ => exact pb'

/-! ### a, b = x, y (names) -/
def sPar (i j : Nat) (h h' : OEnv → R PyData) : OEnv → SR := fun ρ => (h ρ).sr ρ fun d => (h' ρ).sr ρ fun e => .nx ((ρ.set i (some (.fz d))).set j (some (.fz e)))
theorem vs_par (i j : Nat) {x y : Str} {px py pt : Pos} {kt k2 pt2} (mk : ∀ {ta : TA}, PA X [a, b] ta → PS X (.Assign [.Tuple [.Name x px, .Name y py] kt pt] (.Tuple [a, b] k2 pt2) pos) (tPar i j ta)) (h1 : VX X W a hx) (h2 : VX X W b hx')
    (he : starEach [a, b] X.env = (false, eval a X.env) :: starEach [b] X.env := by rfl) (he2 : starEach [b] X.env = (false, eval b X.env) :: starEach [] X.env := by rfl) :
    VS X W (.Assign [.Tuple [.Name x px, .Name y py] kt pt] (.Tuple [a, b] k2 pt2) pos) (sPar i j hx hx') := by
  obtain ⟨t, p, q⟩ := h1.ex
  obtain ⟨t2, p2, q2⟩ := h2.ex
  refine ⟨_, mk (pa_cons p (pa_cons p2 pa_nil he2) he), fun D σ H F0 H0 F ρ r pr => ?_⟩
  unfold sPar at pr
  refine q σ H F0 H0 F ρ _ r (sr_pst r pr fun d pd v H1 F1 e1 dv => ?_)
  have r1 := r.ext e1
  refine q2 σ H1 F0 H0 F1 ρ _ r1 (sr_pst r1 pd fun e pe v2 H2 F2 e2 dv2 => ?_)
  have r2 := r1.ext e2
  exact ⟨v, v2, rfl, pe _ H2 F2 ((((r2.consFz (Is.mono e2.bb dv)).put i).consFz dv2).put j)⟩
end

/-! ### defs -/
/-- what a def promises: its n arguments are data, its answer is what g says -/
def spO (K : PySem.W.Frag) (mg : Str → Option Value) (n : Nat) (g : List PyData → R O) : Sp := fun vs H Q E => vs.length = n ∧ ∃ ds B, Same B H ∧ IsAll K B vs ds ∧
  match g ds with
  | .stuck => False
  | .err c => ∀ H', Same H H' → ∃ C, mg c = some (.ref C) ∧ E (.ref C) none H'
  | .ok o => ∀ v H' F', RV K B H F' H' v o → Q v H'
def startO (n : Nat) (ds : List PyData) : OEnv := ds.map (fun d => some (.fz d)) ++ List.replicate (n - ds.length) none
def runB (n : Nat) (g : OEnv → SR) (ds : List PyData) : R O := match g (startO n ds) with
  | .rt o _ => .ok o
  | .nx _ => .ok (.fz .none)
  | .err c _ => .err c
  | _ => .stuck
theorem slots_start {K : PySem.W.Frag} {B H : Hp} : ∀ {ds : List PyData} {vs : List V} (m : Nat), IsAll K B vs ds → Slots K B H (vs.map some ++ List.replicate m none) (ds.map (fun d => some (O.fz d)) ++ List.replicate m none) []
  | [], _, m, h => by
    cases h
    induction m with
    | zero => exact .nil
    | succ m ih => exact .un ih
  | d :: ds, _, m, h => by
    cases h with
    | cons h1 h2 => exact .ow (fp := []) (.fz h1) (slots_start m h2)
section
variable {P : Program} {w : World} {K : PySem.W.Frag} {mg : Str → Option Value} {base : Heap}
/-- THE RULE for a def -/
theorem fn_vl {x qual : Str} {st : Stmt} {f : Addr} {fd : FuncData} {N ps : List Str} {k n : Nat} {g : OEnv → SR} (F : Fun K x qual st f fd) (S : FnScope N ps (defScope st)) (hn : n = ps.length)
    (hb : ∀ (cdv : Value) (A : Around) (outer : List Env) (s : Shared) (H : Hp) (E : XK), Room k (A.deeper (envOfC qual (defScope st) s.heap.objs.size f cdv)) →
      VSs (cxOf (L2.CX P w) P w K mg base N qual (defScope st) f cdv A outer s H E) (fun cls d _ H => E cls d H) (defBody st) g) :
    FnOk P w K mg base (L2.CX P w) (k + 1) f fd ps (spO K mg n (runB N.length g)) := by
  refine F.okX S (fun vs H Q E h => by rw [h.1, hn]) (fun cdv A outer s H vs Q E hr h => ?_)
  obtain ⟨hl, ds, B, sb, ia, post⟩ := h
  obtain ⟨t, p, q⟩ := (hb cdv A outer s H E hr).ex
  refine ⟨t, p, q _ _ H B H B (startO N.length ds) ?_ ?_⟩
  · refine ⟨[], ?_, List.nodup_nil, fun a ha => (nomatch ha), sb, Same.refl _, Same.refl _, fun a x y => absurd x y⟩
    unfold L2.start startO
    rw [IsAll.len ia]
    exact slots_start _ ia
  · unfold runB at post
    generalize g (startO N.length ds) = r at post ⊢
    cases r with
    | stuck => exact post
    | err c ρ =>
      intro σ' H' F' x
      obtain ⟨_, _, hs⟩ := x.ex
      exact post H' hs.h0
    | nx ρ =>
      intro σ' H' F' x
      obtain ⟨fps, _, hs⟩ := x.ex
      exact post .non H' F' ⟨[], .fz .non, hs.sub (List.nil_sublist _)⟩
    | bk ρ => exact post.elim
    | ct ρ => exact post.elim
    | rt o _ => exact fun v σ' H' F' x => post v H' F' x.head
/-- its answer frozen -/
def frz (g : List PyData → R O) : List PyData → R PyData := fun ds => (g ds).bind fun o => .ok o.data
theorem fn_frz {f : Addr} {fd : FuncData} {ps : List Str} {k n : Nat} {g : List PyData → R O} (F : FnOk P w K mg base (L2.CX P w) k f fd ps (spO K mg n g)) : FnOk P w K mg base (L2.CX P w) k f fd ps (spV K mg n (frz g)) := by
  refine F.imp fun vs H Q E h => ?_
  obtain ⟨hl, ds, B, sb, ia, post⟩ := h
  refine ⟨hl, ds, B, sb, ia, ?_⟩
  unfold frz at post
  generalize g ds = r at post ⊢
  cases r with
  | stuck => exact post
  | err c => exact post
  | ok o =>
    intro v H' F' rv
    obtain ⟨fp, ow, hs⟩ := rv
    obtain ⟨b1, b2⟩ := hs.bor
    refine post v H' (bor F' H' fp) ⟨hs.h0, hs.f0.trans b1, b2, fun a h1 h2 => ?_⟩ (ow.is b1 fun a ha => bor_own ha)
    by_cases ha : a ∈ fp
    · exact (hs.ow a ha).2
    · rw [bor_not ha] at h2; exact hs.nw a h1 h2
/-- a promise by another function that is the same -/
theorem fn_eq {f : Addr} {fd : FuncData} {ps : List Str} {k n : Nat} {g g' : List PyData → R PyData} (F : FnOk P w K mg base (L2.CX P w) k f fd ps (spV K mg n g)) (h : ∀ ds, g' ds ≠ .stuck → g ds = g' ds) : FnOk P w K mg base (L2.CX P w) k f fd ps (spV K mg n g') := by
  refine F.imp fun vs H Q E q => ?_
  obtain ⟨hl, ds, B, sb, ia, post⟩ := q
  refine ⟨hl, ds, B, sb, ia, ?_⟩
  have h0 : g' ds ≠ .stuck := fun z => by rw [z] at post; exact post
  rw [h ds h0]
  exact post
end
end VL

namespace VL
open PySem PySem.Spec PyProof.Rows L2

/-! ### the names that a derivation's meaning is written in -/
def tst (f : PEnv → R PyData) : PEnv → R Bool := fun ρ => (f ρ).bind tbool
def tnn (f : PEnv → R PyData) : PEnv → R Bool := fun ρ => (v1 visnone f ρ).bind fun d => (tbool d).bind fun b => .ok (!b)
def ttr (f : PEnv → R PyData) : PEnv → R Bool := fun ρ => (f ρ).bind vtruth
def vnn (f : PEnv → R PyData) : PEnv → R PyData := v1 (fun d => (visnone d).bind fun b => match b with | .bool b => .ok (.bool (!b)) | _ => .stuck) f
def vpart (f : PEnv → R PyData) : PEnv → R (Option Int) := fun ρ => (f ρ).bind oInt
def vnopart : PEnv → R (Option Int) := fun _ => .ok none
def seq (g h : OEnv → SR) : OEnv → SR := fun ρ => (g ρ).seq h
def pre (T : OEnv → OEnv) (g : OEnv → SR) : OEnv → SR := fun ρ => g (T ρ)
def tB (t : PEnv → R Bool) : OEnv → R Bool := fun ρ => t (viewB ρ)
def ixF (f : PEnv → R (List PyData)) : OEnv → R (List PyData) := fun ρ => f (viewF ρ)
def sNx : OEnv → SR := fun ρ => .nx ρ
def sBk : OEnv → SR := fun ρ => .bk ρ
def sCt : OEnv → SR := fun ρ => .ct ρ
def sRetN : OEnv → SR := fun ρ => .rt (.fz .none) ρ
/-! `in` a tuple -/
def vInT : PyData → PyData → R PyData
  | d, .tuple ds => if SeqAt.shaped d = true ∧ SeqAt.shaped (.tuple ds) = true then .ok (.bool (ds.any fun z => PyData.eqv z d)) else .stuck
  | _, _ => .stuck
def vNotInT : PyData → PyData → R PyData
  | d, .tuple ds => if SeqAt.shaped d = true ∧ SeqAt.shaped (.tuple ds) = true then .ok (.bool (!ds.any fun z => PyData.eqv z d)) else .stuck
  | _, _ => .stuck
def rInTD (K : PySem.W.Frag) (neg : Bool) : R2 := fun x y H Q => ∃ d ds, Dp K H x d ∧ Dp K H y (.tuple ds) ∧ SeqAt.shaped d = true ∧ SeqAt.shaped (.tuple ds) = true ∧ Q (.bl (if neg then !ds.any fun z => PyData.eqv z d else ds.any fun z => PyData.eqv z d)) H
theorem roomT {A : Around} {d : PyData} {ds : List PyData} (h : SeqAt.shaped d = true) (hu : A.units + 65 < cLine) : A.units + 1 + min (PyData.depthAll ds) d.depth < cLine := by
  have := SeqAt.depth_of_shaped h
  have := Nat.min_le_right (PyData.depthAll ds) d.depth
  omega
theorem op_inTD {X : Cx} (hu : X.A.units + 65 < cLine) : OpR X (compareOp .In) (rInTD X.K false) := by
  intro pins t σ G x y vv uu Q J rX rY hh
  obtain ⟨d, ds, hd, he, sd, se, q⟩ := hh
  obtain ⟨as, k1⟩ := Dp.reads J d x vv hd rX
  obtain ⟨bs, k2⟩ := Dp.reads J (.tuple ds) y uu he rY
  exact SeqAt.in_tuple_reads k2 k1 (SeqAt.canLay_of_shaped se) (SeqAt.canLay_of_shaped sd) (roomT sd hu) ⟨.bl _, G, J, rfl, q⟩
theorem op_notInTD {X : Cx} (hu : X.A.units + 65 < cLine) : OpR X (compareOp .NotIn) (rInTD X.K true) := by
  intro pins t σ G x y vv uu Q J rX rY hh
  obtain ⟨d, ds, hd, he, sd, se, q⟩ := hh
  obtain ⟨as, k1⟩ := Dp.reads J d x vv hd rX
  obtain ⟨bs, k2⟩ := Dp.reads J (.tuple ds) y uu he rY
  exact SeqAt.notIn_tuple_reads k2 k1 (SeqAt.canLay_of_shaped se) (SeqAt.canLay_of_shaped sd) (roomT sd hu) ⟨.bl _, G, J, rfl, q⟩
end VL

namespace VL
open PySem PySem.Spec PyProof.Rows L2
section
variable {X : Cx} {W : WX} {a b c e tg iter : Expr} {es : List Expr} {st : Stmt} {sts rest : List Stmt} {pos : Pos} {g h : OEnv → SR} {fa fb fc : PEnv → R PyData} {ft fu : PEnv → R Bool} {k : Nat}
/-! ### the rules under the names that a derivation's meaning is written in -/
theorem qs_nil : VSs X W [] sNx := vss_nil
theorem qs_cons (h1 : VS X W st g) (h2 : VSs X W rest h) : VSs X W (st :: rest) (seq g h) := vss_cons h1 h2
theorem qs_t {T : OEnv → OEnv} (hT : EnvT X.K T) (h1 : VSs X W sts g) : VSs X W sts (pre T g) := vss_t (g := g) (T := T) hT h1
theorem q_pass : VS X W (.Pass pos) sNx := vs_pass
theorem q_break : VS X W (.Break pos) sBk := vs_break
theorem q_continue : VS X W (.Continue pos) sCt := vs_continue
theorem q_retN : VS X W (.Return none pos) sRetN := vs_retN
theorem qx_T (h : VT X W e ft) : VXT X W e (tB ft) := vxT h
theorem qix_F {f : PEnv → R (List PyData)} (h : VI X W tg iter f) : VIX X W tg iter (ixF f) := vix_F h
theorem qlt (ha : VE X W a fa) (hb : VE X W b fb) : VT X W (.Compare a [.Lt] [b] pos) (tst (v2 vlt fa fb)) := vlt_t ha hb
theorem qle (ha : VE X W a fa) (hb : VE X W b fb) : VT X W (.Compare a [.LtE] [b] pos) (tst (v2 vle fa fb)) := vle_t ha hb
theorem qgt (ha : VE X W a fa) (hb : VE X W b fb) : VT X W (.Compare a [.Gt] [b] pos) (tst (v2 vgt fa fb)) := vgt_t ha hb
theorem qge (ha : VE X W a fa) (hb : VE X W b fb) : VT X W (.Compare a [.GtE] [b] pos) (tst (v2 vge fa fb)) := vge_t ha hb
theorem qeq (hu : X.A.units + 65 < cLine) (ha : VE X W a fa) (hb : VE X W b fb) : VT X W (.Compare a [.Eq] [b] pos) (tst (v2 veq fa fb)) := veq_t hu ha hb
theorem qne (hu : X.A.units + 65 < cLine) (ha : VE X W a fa) (hb : VE X W b fb) : VT X W (.Compare a [.NotEq] [b] pos) (tst (v2 vne fa fb)) := vne_t hu ha hb
theorem qin (hu : X.A.units + 65 < cLine) (ha : VE X W a fa) (hb : VE X W b fb) (hm : behindInMarks .In b = false := by with_unfolding_all rfl) : VT X W (.Compare a [.In] [b] pos) (tst (v2 vIn fa fb)) := vin_t hu ha hb hm
theorem qnotin (hu : X.A.units + 65 < cLine) (ha : VE X W a fa) (hb : VE X W b fb) (hm : behindInMarks .NotIn b = false := by with_unfolding_all rfl) : VT X W (.Compare a [.NotIn] [b] pos) (tst (v2 vNotIn fa fb)) := vnotin_t hu ha hb hm
theorem win (hu : X.A.units + 65 < cLine) (ha : VE X W a fa) (hb : VE X W b fb) (hm : behindInMarks .In b = false := by with_unfolding_all rfl) : VE X W (.Compare a [.In] [b] pos) (v2 vIn fa fb) := vin_ hu ha hb hm
theorem wnotin (hu : X.A.units + 65 < cLine) (ha : VE X W a fa) (hb : VE X W b fb) (hm : behindInMarks .NotIn b = false := by with_unfolding_all rfl) : VE X W (.Compare a [.NotIn] [b] pos) (v2 vNotIn fa fb) := vnotin_ hu ha hb hm
theorem qtruth (h : VE X W a fa) (he : ∀ whole, isTrue a X.env whole = (do let v ← whole; standAt a.pos; holding [v] (truthy v)) := by intro _; rfl) : VT X W a (ttr fa) := vt_truth h he
theorem qisnone {j pos'} (ha : VE X W a fa) : VT X W (.Compare a [.Is] [.Constant .none j pos'] pos) (tst (v1 visnone fa)) := visnone_t ha
theorem qnotnone {j pos'} (ha : VE X W a fa) : VT X W (.Compare a [.IsNot] [.Constant .none j pos'] pos) (tnn fa) := vnotnone_t ha
theorem wnotnone {j pos'} (ha : VE X W a fa) : VE X W (.Compare a [.IsNot] [.Constant .none j pos'] pos) (vnn fa) := vnotnone_ ha
theorem qchain {op op' : CmpOp} {p p' : Int → Int → Bool} {g g' : D → D → R D} (i1 : IntCmp X op p g) (i2 : IntCmp X op' p' g') (ha : VE X W a fa) (hb : VE X W b fb) (hc : VE X W c fc) (hm : lastMarks [op, op'] [b, c] = false := by with_unfolding_all rfl) :
    VT X W (.Compare a [op, op'] [b, c] pos) (tst (vchain g g' fa fb fc)) := vchain_t i1 i2 ha hb hc hm
theorem qo_some (h : VE X W a fa) : VO1 X W (some a) (vpart fa) := vo_some h
theorem qo_none : VO1 X W none vnopart := vo_none
/-! in a flat tuple -/
theorem rule_inT : Rule2 X W (rInTD X.K false) vInT := fun d e x y σ H B Q s sm dx dy p => by
  cases e <;> first | (cases d <;> exact p.elim) | skip
  simp only [vInT] at p
  split at p
  · rename_i hf
    exact ⟨_, _, (Is.mono s dx).dp (SeqAt.canLay_of_shaped hf.1), (Is.mono s dy).dp (SeqAt.canLay_of_shaped hf.2), hf.1, hf.2, p _ H B (.refl s) (.bl _)⟩
  · exact p.elim
theorem rule_notInT : Rule2 X W (rInTD X.K true) vNotInT := fun d e x y σ H B Q s sm dx dy p => by
  cases e <;> first | (cases d <;> exact p.elim) | skip
  simp only [vNotInT] at p
  split at p
  · rename_i hf
    exact ⟨_, _, (Is.mono s dx).dp (SeqAt.canLay_of_shaped hf.1), (Is.mono s dy).dp (SeqAt.canLay_of_shaped hf.2), hf.1, hf.2, p _ H B (.refl s) (.bl _)⟩
  · exact p.elim
theorem winT (hu : X.A.units + 65 < cLine) (ha : VE X W a fa) (hb : VE X W b fb) (hm : behindInMarks .In b = false := by with_unfolding_all rfl) : VE X W (.Compare a [.In] [b] pos) (v2 vInT fa fb) := ve2 (fun p q => pe_cmpR (op_inTD hu) p q hm) rule_inT ha hb
theorem wnotinT (hu : X.A.units + 65 < cLine) (ha : VE X W a fa) (hb : VE X W b fb) (hm : behindInMarks .NotIn b = false := by with_unfolding_all rfl) : VE X W (.Compare a [.NotIn] [b] pos) (v2 vNotInT fa fb) := ve2 (fun p q => pe_cmpR (op_notInTD hu) p q hm) rule_notInT ha hb
theorem inT_bool {d e z : PyData} (h : vInT d e = .ok z) : ∃ k, z = .bool k := by
  cases e <;> first | (cases d <;> (cases h; done)) | skip
  simp only [vInT] at h
  split at h <;> cases h
  exact ⟨_, rfl⟩
theorem notInT_bool {d e z : PyData} (h : vNotInT d e = .ok z) : ∃ k, z = .bool k := by
  cases e <;> first | (cases d <;> (cases h; done)) | skip
  simp only [vNotInT] at h
  split at h <;> cases h
  exact ⟨_, rfl⟩
theorem qinT (hu : X.A.units + 65 < cLine) (ha : VE X W a fa) (hb : VE X W b fb) (hm : behindInMarks .In b = false := by with_unfolding_all rfl) : VT X W (.Compare a [.In] [b] pos) (tst (v2 vInT fa fb)) := vt2 (fun p q => pt_cmpR (op_inTD hu) p q hm) rule_inT (fun _ _ _ h => inT_bool h) ha hb
theorem qnotinT (hu : X.A.units + 65 < cLine) (ha : VE X W a fa) (hb : VE X W b fb) (hm : behindInMarks .NotIn b = false := by with_unfolding_all rfl) : VT X W (.Compare a [.NotIn] [b] pos) (tst (v2 vNotInT fa fb)) := vt2 (fun p q => pt_cmpR (op_notInTD hu) p q hm) rule_notInT (fun _ _ _ h => notInT_bool h) ha hb
end
theorem takes0 {X : Cx} : Takes X W0 := fun u s' ⟨_, _, _, _, _, _, _, _, _, _, _, _, _, _, _, _, w⟩ => w.elim
/-! ### constants of the module -/
def Cst (K : PySem.W.Frag) (mg : Str → Option Value) (x : Str) (d : PyData) : Prop := ∃ (u : Value) (v : V), mg x = some u ∧ RelV v u ∧ ∀ H, Is K H v d
theorem vglobT {X : Cx} {W : WX} {pos : Pos} {x : Str} {d : PyData} (h : Cst X.K X.mg x d) (hg : Gl X x := by rfl) (hdb : (x == ("__debug__" : Str)) = false := by decide) : VE X W (.Name x pos) (vC d) := by
  obtain ⟨u, v, h1, h2, h3⟩ := h
  exact vglob hg h1 h2 h3 hdb
theorem is_ktup {K : PySem.W.Frag} {q : Addr} {dd : Option Addr} {ss : Array (Option Value)} {its : Array Value} {n : Nat} {vs : List V} {ds : List PyData} (h : K.lookup q = some ⟨.type "tuple", dd, .seq its n, ss⟩) (hz : its.size ≤ sizeLine) (hv : Vals vs its.toList) (hd : ∀ H, IsAll K H vs ds) : ∀ H, Is K H (.ref q) (.tuple ds) :=
  fun H => .tup (.inr ⟨_, its, n, h, rfl, rfl, hz, hv⟩) (hd H)

/-! ### where a new list comes to stand -/
section
variable {X : Cx} {W : WX} {f : PEnv → R (List PyData)} {t : TE}
theorem mode_F (q : ∀ σ H B ρ Q, Same B H → RF X.K B σ ρ → Pst X W σ H (KFr X B H Q) (f ρ) → t σ H Q) : ∀ σ H F0 H0 F ρ Q, RS X.K F0 H0 F H σ ρ → Pst X W σ H (KO X F0 H0 σ Q) (oFrF f ρ) → t σ H Q := fun σ H F0 H0 F ρ Q r pr => by
  obtain ⟨fps, s, hs⟩ := r.ex
  refine q σ H F _ Q hs.fh s.rfF ?_
  unfold oFrF at pr
  generalize f (viewF ρ) = rr at pr ⊢
  cases rr with
  | stuck => exact pr
  | err c => exact pr
  | ok ds =>
    intro pa vs H' B' ex hp hn bn ia
    have hs' := hs.ext ex s.lstAt
    have s' : Slots X.K B' H' σ ρ fps := s.keep ex.bb fun a ha => by
      obtain ⟨us, z, _⟩ := s.lstAt a ha
      rw [z]; exact ex.hh _ _ z
    refine pr (.ref pa) H' B' ⟨[pa] ++ fps, .ow (.lst hp (OwnL.fzs ia)) s', ?_, ?_, hs'.fh, hs'.f0, hs'.h0, hs'.nw⟩
    · refine List.nodup_cons.mpr ⟨fun hm => ?_, hs'.nd⟩
      obtain ⟨us, z, _⟩ := s.lstAt pa hm
      rw [hn] at z; cases z
    · intro a ha
      rcases List.mem_cons.mp ha with e | e
      · subst e; exact ⟨bn, Same.free hs.h0 hn⟩
      · exact hs'.ow a e
theorem mode_B (q : ∀ σ H B ρ Q, Same B H → RF X.K B σ ρ → Pst X W σ H (KFr X B H Q) (f ρ) → t σ H Q) : ∀ σ H F0 H0 F ρ Q, RS X.K F0 H0 F H σ ρ → Pst X W σ H (KO X F0 H0 σ Q) (oFrB f ρ) → t σ H Q := fun σ H F0 H0 F ρ Q r pr => by
  obtain ⟨fps, s, hs⟩ := r.ex
  obtain ⟨b1, b2⟩ := hs.bor
  refine q σ H (bor F H fps) _ Q b2 (s.rfB b1 fun a ha => bor_own ha) ?_
  unfold oFrB at pr
  generalize f (viewB ρ) = rr at pr ⊢
  cases rr with
  | stuck => exact pr
  | err c => exact pr
  | ok ds =>
    simp only [R.bind_ok] at pr
    split at pr
    · rename_i hl
      intro pa vs H' B' ex hp hn bn ia
      obtain ⟨F', e1, e2, e3⟩ := hs.unbor s.lstAt ex
      have hs' := hs.ext e1 s.lstAt
      have s' : Slots X.K F' H' σ ρ fps := s.keep e1.bb fun a ha => by
        obtain ⟨us, z, _⟩ := s.lstAt a ha
        rw [z]; exact e1.hh _ _ z
      have hpa : pa ∉ fps := fun hm => by
        obtain ⟨us, z, _⟩ := s.lstAt pa hm
        rw [hn] at z; cases z
      have fn : F' pa = none := by
        cases z : F' pa with
        | none => rfl
        | some o => have w := e3 _ _ z; rw [bn] at w; cases w
      refine pr (.ref pa) H' F' ⟨[pa] ++ fps, .ow (.lst hp (OwnL.fzs (IsAll.lfree e2 hl ia))) s', ?_, ?_, hs'.fh, hs'.f0, hs'.h0, hs'.nw⟩
      · exact List.nodup_cons.mpr ⟨hpa, hs'.nd⟩
      · intro a ha
        rcases List.mem_cons.mp ha with e | e
        · subst e; exact ⟨fn, Same.free hs.h0 hn⟩
        · exact hs'.ow a e
    · exact pr.elim
theorem mode_Z (q : ∀ σ H B ρ Q, Same B H → RF X.K B σ ρ → Pst X W σ H (KFr X B H Q) (f ρ) → t σ H Q) : ∀ σ H F0 H0 F ρ Q, RS X.K F0 H0 F H σ ρ → Pst X W σ H (KO X F0 H0 σ Q) (oX (exF (vlistOf f)) ρ) → t σ H Q := fun σ H F0 H0 F ρ Q r pr => by
  have r0 := r
  obtain ⟨fps, s, hs⟩ := r.ex
  refine q σ H F _ Q hs.fh s.rfF ?_
  unfold oX exF vlistOf at pr
  generalize f (viewF ρ) = rr at pr ⊢
  cases rr with
  | stuck => exact pr
  | err c => exact pr
  | ok ds =>
    refine kfr_of fun v H' F' ex dv => ?_
    obtain ⟨fps, s, hs⟩ := (r0.ext ex).ex
    exact pr v H' F' ⟨fps, .ow (.fz dv) s, hs⟩
end
section
variable {X : Cx} {W : WX} {a b c e tg iter elt : Expr} {ifs : List Expr} {pos : Pos} {scope : Scope} {own : List (Str × Nat)} {sl ownl : List Nat} {fi : PEnv → R (List D)} {kt : D → R (List (Nat × D))} {ft : PEnv → R Bool} {fe : PEnv → R D} {k : Nat}
theorem qcomp (hc : X.calm = true) (hN : X.N.Nodup) (hi : VI X W tg iter fi) (ok : BlkOk X.N X.env.scope scope own) (ho : own.map (·.2) = ownl)
    (hg : ∀ (s : Shared) (H : Hp) (C : Addr) (cl : List (Str × Addr)) (fp : List Addr), VG (X.blk s H scope (compEnvC scope cl C X.env) fp) tg sl kt)
    (hso : ∀ i ∈ sl, i ∈ ownl)
    (ht : ∀ (s : Shared) (H : Hp) (C : Addr) (cl : List (Str × Addr)) (fp : List Addr), VTs (X.blk s H scope (compEnvC scope cl C X.env) fp) W0 ifs ft)
    (he : ∀ (s : Shared) (H : Hp) (C : Addr) (cl : List (Str × Addr)) (fp : List Addr), VE (X.blk s H scope (compEnvC scope cl C X.env) fp) W0 elt fe) (hs : ∀ x, foldedSetIterable iter X.env x = pure x := by intro _; rfl) :
    VFr X W (.ListComp elt [⟨tg, iter, ifs, 0⟩] scope pos) (vcomp ownl fi kt ft fe) := by
  subst ho
  exact vcomp_ hc hN hi ok hg hso ht he hs
theorem qsetLc {cpos : Pos} {x : Str} {py : Pos} {hh : OEnv → R (O × OEnv)} (i : Nat) (mode : ∀ {t : TE}, (∀ σ H B ρ Q, Same B H → RF X.K B σ ρ → Pst X W σ H (KFr X B H Q) (vcomp ownl fi kt ft fe ρ) → t σ H Q) → ∀ σ H F0 H0 F ρ Q, RS X.K F0 H0 F H σ ρ → Pst X W σ H (KO X F0 H0 σ Q) (hh ρ) → t σ H Q)
    (hc : X.calm = true) (hN : X.N.Nodup) (hy : X.N[i]? = some x) (hyl : X.env.scope.names.lookup x = some .local) (hsw : swapsWith (.ListComp elt [⟨tg, iter, ifs, 0⟩] scope cpos) (some (.Name x py)) pos.line X.env = pure true)
    (hi : VI X W tg iter fi) (ok : BlkOk X.N X.env.scope scope own) (ho : own.map (·.2) = ownl)
    (hg : ∀ (s : Shared) (H : Hp) (C : Addr) (cl : List (Str × Addr)) (fp : List Addr), VG (X.blk s H scope (compEnvC scope cl C X.env) fp) tg sl kt)
    (hso : ∀ i ∈ sl, i ∈ ownl)
    (ht : ∀ (s : Shared) (H : Hp) (C : Addr) (cl : List (Str × Addr)) (fp : List Addr), VTs (X.blk s H scope (compEnvC scope cl C X.env) fp) W0 ifs ft)
    (hee : ∀ (s : Shared) (H : Hp) (C : Addr) (cl : List (Str × Addr)) (fp : List Addr), VE (X.blk s H scope (compEnvC scope cl C X.env) fp) W0 elt fe) (hs : ∀ x, foldedSetIterable iter X.env x = pure x := by intro _; rfl) :
    VS X W (.Assign [.Name x py] (.ListComp elt [⟨tg, iter, ifs, 0⟩] scope cpos) pos) (sSet i hh) := by
  subst ho
  exact vs_setLc i mode hc hN hy hyl hsw hi ok hg hso ht hee hs
/-! list(range(..)) -/
theorem ints_is {K : PySem.W.Frag} {F : Hp} : ∀ ns : List Int, IsAll K F (ns.map V.int) (ns.map PyData.int)
  | [] => .nil
  | n :: ns => .cons (.int n) (ints_is ns)
theorem rgV_is {K : PySem.W.Frag} {F : Hp} (i j : Int) : IsAll K F (rgV i j) (rangeD i (j - i).toNat) := by
  have := ints_is (K := K) (F := F) ((List.range (j - i).toNat).map fun n : Nat => i + (n : Int))
  unfold rgV rangeD
  rw [List.map_map, List.map_map] at this
  exact this
theorem rgOk_of {i j : Int} (h : rngOk i j) : RgOk i j := by
  obtain ⟨h1, h2, h3, h4, h5⟩ := h
  exact ⟨by omega, by omega, by omega, by omega, by omega⟩
theorem qlist_rg1 {p p2 pos2 : Pos} {fa : PEnv → R PyData} (hc : X.calm = true) (hm : X.mg "list" = none) (hm2 : X.mg "range" = none) (ha : VE X W a fa) (hg : Gl X "list" := by rfl) (hg2 : Gl X "range" := by rfl)
    (n1 : starEach [a] X.env = (false, eval a X.env) :: starEach [] X.env := by rfl)
    (n3 : starEach [.Call (.Name "range" p2) [a] [] pos2] X.env = (false, eval (.Call (.Name "range" p2) [a] [] pos2) X.env) :: starEach [] X.env := by rfl) : VFr X W (.Call (.Name "list" p) [.Call (.Name "range" p2) [a] [] pos2] [] pos) (i1 vrange1 fa) := by
  obtain ⟨t, pt, qt⟩ := ha.ex
  refine ⟨_, pe_listRg hc hg hm (prg_1 hg2 hm2 pt n1) n3, fun σ H B ρ Q s rf pr => ?_⟩
  refine one qt s rf pr fun d x H' B' ex sm dx pg => ?_
  cases dx <;> first | exact pg.elim | skip
  rename_i j
  simp only [vrange1] at pg
  split at pg
  · rename_i hz
    refine ⟨j, rfl, rgOk_of hz, fun q hq => ?_⟩
    have pg : KFr X B H Q (rangeD 0 j.toNat) := pg
    have e := rgV_is (K := X.K) (F := B') 0 j
    rw [Int.sub_zero] at e
    exact pg q _ _ B' (ex.trans (Ext.own ex.bh hq)) upd_same (Same.free ex.hh hq) (Same.free ex.bh hq) e
  · exact pg.elim
theorem qlist_rg2 {p p2 pos2 : Pos} {fa fb : PEnv → R PyData} (hc : X.calm = true) (hm : X.mg "list" = none) (hm2 : X.mg "range" = none) (ha : VE X W a fa) (hb : VE X W b fb) (hg : Gl X "list" := by rfl) (hg2 : Gl X "range" := by rfl)
    (n1 : starEach [a, b] X.env = (false, eval a X.env) :: starEach [b] X.env := by rfl) (n2 : starEach [b] X.env = (false, eval b X.env) :: starEach [] X.env := by rfl) (hp : (backTo pos2 (starEach [b] X.env)).any (·.1) = false := by rfl)
    (n3 : starEach [.Call (.Name "range" p2) [a, b] [] pos2] X.env = (false, eval (.Call (.Name "range" p2) [a, b] [] pos2) X.env) :: starEach [] X.env := by rfl) : VFr X W (.Call (.Name "list" p) [.Call (.Name "range" p2) [a, b] [] pos2] [] pos) (i2 vrange2 fa fb) := by
  obtain ⟨t, pt, qt⟩ := ha.ex
  obtain ⟨t2, pt2, qt2⟩ := hb.ex
  refine ⟨_, pe_listRg hc hg hm (prg_2 hg2 hm2 pt pt2 n1 n2 hp) n3, fun σ H B ρ Q s rf pr => ?_⟩
  refine two qt qt2 s rf pr fun d e x y H' B' ex sm dx dy pg => ?_
  cases dx <;> first | (cases dy <;> exact pg.elim) | skip
  cases dy <;> first | exact pg.elim | skip
  rename_i i j
  simp only [vrange2] at pg
  split at pg
  · rename_i hz
    refine ⟨i, j, rfl, rfl, rgOk_of hz, fun q hq => ?_⟩
    have pg : KFr X B H Q (rangeD i (j - i).toNat) := pg
    exact pg q _ _ B' (ex.trans (Ext.own ex.bh hq)) upd_same (Same.free ex.hh hq) (Same.free ex.bh hq) (rgV_is i j)
  · exact pg.elim
end
/-! ### the law's own end -/
/-- what `law` promises: of a list of at most 63 ints, True -/
def spL : Sp := fun vs H Q _ => ∃ (a : Addr) (ns : List Int), vs = [.ref a] ∧ ns.length ≤ 63 ∧ Rd H a (.lst (ns.map V.int)) ∧ ∀ H', Same H H' → Q (.bl true) H'
def noLst (K : PySem.W.Frag) : Bool := K.all fun p => match p.2.cls with | .type "list" => false | _ => true
theorem lookup_all {K : PySem.W.Frag} {p : Addr × Obj → Bool} : ∀ {K : List (Addr × Obj)} {a : Addr} {o : Obj}, K.all p = true → K.lookup a = some o → ∃ b, p (b, o) = true
  | [], a, o, _, e => by cases e
  | (b, u) :: K, a, o, h, e => by
    rw [List.all_cons, Bool.and_eq_true] at h
    rw [List.lookup_cons] at e
    split at e
    · cases e; exact ⟨b, h.1⟩
    · exact lookup_all (K := K) h.2 e
theorem spL_of {K : PySem.W.Frag} {H : Hp} {a : Addr} {ns : List Int} (hl : ns.length ≤ 63) (hS : SqL K H a (ns.map V.int)) (hK : noLst K = true) : spL [.ref a] H (fun v _ => v = .bl true) fun _ _ _ => False := by
  rcases hS with h | ⟨o, its, n, h1, h2, _⟩
  · exact ⟨a, ns, rfl, hl, h, fun _ _ => rfl⟩
  · obtain ⟨b, hb⟩ := lookup_all (K := K) (p := fun p => match p.2.cls with | .type "list" => false | _ => true) hK h1
    simp only [h2] at hb
    cases hb
theorem fn_law {P : Program} {w : World} {K : PySem.W.Frag} {mg : Str → Option Value} {base : Heap} {f : Addr} {fd : FuncData} {ps : List Str} {k : Nat} {g : List PyData → R PyData} (F : FnOk P w K mg base (L2.CX P w) k f fd ps (spV K mg 1 g))
    (math : ∀ ns : List Int, ns.length ≤ 63 → g [.list (ns.map PyData.int)] = .ok (.bool true)) : FnOk P w K mg base (L2.CX P w) k f fd ps spL := by
  refine F.imp fun vs H Q E q => ?_
  obtain ⟨a, ns, rfl, hl, hr, post⟩ := q
  refine ⟨rfl, [.list (ns.map PyData.int)], H, Same.refl H, .cons (.lst hr (ints_is ns)) .nil, ?_⟩
  rw [math ns hl]
  intro v H' B' ex dv
  cases dv
  exact post H' ex.hh
theorem cx_false {P : Program} {w : World} {H : Hp} {s : Shared} {e : Value} {s' : Shared} (h : L2.CX P w [] H s (fun _ _ _ => False) e s') : False := by
  obtain ⟨_, _, _, _, _, _, _, _, _, _, _, _, h⟩ := h
  exact h
end VL

namespace VL
open PySem PySem.Spec PyProof.Rows

/-! ### evaluation -/
def fin : SR → R PyData
  | .rt o _ => .ok o.data
  | .nx _ => .ok .none
  | .err c _ => .err c
  | _ => .stuck
@[simp] theorem fin_rt (o : O) (ρ : OEnv) : fin (.rt o ρ) = .ok o.data := rfl
@[simp] theorem fin_nx (ρ : OEnv) : fin (.nx ρ) = .ok .none := rfl
@[simp] theorem fin_err (c : Str) (ρ : OEnv) : fin (.err c ρ) = .err c := rfl
theorem frz_fin (n : Nat) (g : OEnv → SR) (ds : List PyData) : frz (runB n g) ds = fin (g (startO n ds)) := by
  unfold frz runB
  cases g (startO n ds) <;> rfl
@[simp] theorem seq_ap (g h : OEnv → SR) (ρ : OEnv) : seq g h ρ = (g ρ).seq h := rfl
@[simp] theorem pre_ap (T : OEnv → OEnv) (g : OEnv → SR) (ρ : OEnv) : pre T g ρ = g (T ρ) := rfl
@[simp] theorem tB_ap (t : PEnv → R Bool) (ρ : OEnv) : tB t ρ = t (viewB ρ) := rfl
@[simp] theorem ixF_ap (t : PEnv → R (List PyData)) (ρ : OEnv) : ixF t ρ = t (viewF ρ) := rfl
@[simp] theorem sRet_ap (h : OEnv → R (O × OEnv)) (ρ : OEnv) : sRet h ρ = (h ρ).sr ρ fun p => .rt p.1 p.2 := rfl
@[simp] theorem sSet_ap (i : Nat) (h : OEnv → R (O × OEnv)) (ρ : OEnv) : sSet i h ρ = (h ρ).sr ρ fun p => .nx (p.2.set i (some p.1)) := rfl
@[simp] theorem sExpr_ap (h : OEnv → R (O × OEnv)) (ρ : OEnv) : sExpr h ρ = (h ρ).sr ρ fun p => .nx p.2 := rfl
@[simp] theorem sIf_ap (t : OEnv → R Bool) (g h : OEnv → SR) (ρ : OEnv) : sIf t g h ρ = (t ρ).sr ρ fun b => if b then g ρ else h ρ := rfl
@[simp] theorem sNx_ap (ρ : OEnv) : sNx ρ = .nx ρ := rfl
@[simp] theorem sBk_ap (ρ : OEnv) : sBk ρ = .bk ρ := rfl
@[simp] theorem sCt_ap (ρ : OEnv) : sCt ρ = .ct ρ := rfl
@[simp] theorem sRetN_ap (ρ : OEnv) : sRetN ρ = .rt (.fz .none) ρ := rfl
@[simp] theorem oX_ap (h : OEnv → R PyData) (ρ : OEnv) : oX h ρ = (h ρ).bind fun d => .ok (.fz d, ρ) := rfl
@[simp] theorem exF_ap (f : PEnv → R PyData) (ρ : OEnv) : exF f ρ = f (viewF ρ) := rfl
@[simp] theorem exB_ap (f : PEnv → R PyData) (ρ : OEnv) : exB f ρ = (f (viewB ρ)).bind lfok := rfl
@[simp] theorem oFrF_ap (f : PEnv → R (List PyData)) (ρ : OEnv) : oFrF f ρ = (f (viewF ρ)).bind fun ds => .ok (.lst (ds.map O.fz), ρ) := rfl
@[simp] theorem oFrB_ap (f : PEnv → R (List PyData)) (ρ : OEnv) : oFrB f ρ = (f (viewB ρ)).bind fun ds => if lfs ds then .ok (.lst (ds.map O.fz), ρ) else .stuck := rfl
@[simp] theorem sPar_ap (i j : Nat) (h h' : OEnv → R PyData) (ρ : OEnv) : sPar i j h h' ρ = (h ρ).sr ρ fun d => (h' ρ).sr ρ fun e => .nx ((ρ.set i (some (.fz d))).set j (some (.fz e))) := rfl
@[simp] theorem sTup_ap (k : PyData → R (List (Nat × PyData))) (h : OEnv → R PyData) (ρ : OEnv) : sTup k h ρ = (h ρ).sr ρ fun d => match k d with | .ok bd => .nx (setsO ρ bd) | _ => .stuck := rfl
@[simp] theorem sFor_ap (hi : OEnv → R (List PyData)) (kt : PyData → R (List (Nat × PyData))) (kl : OEnv → OEnv) (gb : OEnv → SR) (ρ : OEnv) : sFor hi kt kl gb ρ = (hi ρ).sr ρ fun ds => forL kt kl gb ds ρ := rfl
@[simp] theorem sForK_ap (hi : OEnv → R (List PyData)) (T : OEnv → OEnv) (kt : PyData → R (List (Nat × PyData))) (kl : OEnv → OEnv) (gb : OEnv → SR) (ρ : OEnv) : sForK hi T kt kl gb ρ = (hi ρ).sr ρ fun ds => forL kt kl gb ds (T ρ) := rfl
@[simp] theorem lfok_ap (d : PyData) : lfok d = if lf d then .ok d else .stuck := rfl
@[simp] theorem kill_nil (ρ : OEnv) : kill [] ρ = ρ := rfl
@[simp] theorem kill_cons (i : Nat) (is : List Nat) (ρ : OEnv) : kill (i :: is) ρ = kill is (ρ.set i none) := rfl
@[simp] theorem freeze_nil (ρ : OEnv) : freeze [] ρ = ρ := rfl
@[simp] theorem freeze_cons (i : Nat) (is : List Nat) (ρ : OEnv) : freeze (i :: is) ρ = freeze is (freezeAt ρ i) := rfl
@[simp] theorem setsO_nil (ρ : OEnv) : setsO ρ [] = ρ := rfl
@[simp] theorem setsO_cons (b : Nat × PyData) (bs : List (Nat × PyData)) (ρ : OEnv) : setsO ρ (b :: bs) = setsO (ρ.set b.1 (some (.fz b.2))) bs := rfl
@[simp] theorem setsD_nil (ρ : PEnv) : setsD ρ [] = ρ := rfl
@[simp] theorem setsD_cons (b : Nat × PyData) (bs : List (Nat × PyData)) (ρ : PEnv) : setsD ρ (b :: bs) = setsD (ρ.set b.1 (some b.2)) bs := rfl
@[simp] theorem wipeD_nil (ρ : PEnv) : wipeD ρ [] = ρ := rfl
@[simp] theorem wipeD_cons (i : Nat) (is : List Nat) (ρ : PEnv) : wipeD ρ (i :: is) = (wipeD ρ is).set i none := rfl
@[simp] theorem viewF_nil : viewF [] = [] := rfl
@[simp] theorem viewF_none (ρ : OEnv) : viewF (none :: ρ) = none :: viewF ρ := rfl
@[simp] theorem viewF_fz (d : PyData) (ρ : OEnv) : viewF (some (.fz d) :: ρ) = some d :: viewF ρ := rfl
@[simp] theorem viewF_lst (xs : List O) (ρ : OEnv) : viewF (some (.lst xs) :: ρ) = none :: viewF ρ := rfl
@[simp] theorem viewB_nil : viewB [] = [] := rfl
@[simp] theorem viewB_none (ρ : OEnv) : viewB (none :: ρ) = none :: viewB ρ := rfl
@[simp] theorem viewB_some (o : O) (ρ : OEnv) : viewB (some o :: ρ) = some o.data :: viewB ρ := rfl
@[simp] theorem v2_ap (g : D → D → R D) (fa fb : PEnv → R D) (ρ : PEnv) : v2 g fa fb ρ = (fa ρ).bind fun d => (fb ρ).bind fun e => g d e := rfl
@[simp] theorem v1_ap (g : D → R D) (fa : PEnv → R D) (ρ : PEnv) : v1 g fa ρ = (fa ρ).bind g := rfl
@[simp] theorem vC_ap (d : D) (ρ : PEnv) : vC d ρ = .ok d := rfl
@[simp] theorem vnn_ap (f : PEnv → R PyData) (ρ : PEnv) : vnn f ρ = (f ρ).bind fun d => .ok (.bool (match d with | .none => false | _ => true)) := by
  unfold vnn v1 visnone
  generalize f ρ = r
  cases r with
  | stuck => rfl
  | err c => rfl
  | ok d => cases d <;> rfl
@[simp] theorem tnn_ap (f : PEnv → R PyData) (ρ : PEnv) : tnn f ρ = (f ρ).bind fun d => .ok (match d with | .none => false | _ => true) := by
  unfold tnn v1 visnone
  generalize f ρ = r
  cases r with
  | stuck => rfl
  | err c => rfl
  | ok d => cases d <;> rfl
@[simp] theorem tst_ap (f : PEnv → R PyData) (ρ : PEnv) : tst f ρ = (f ρ).bind tbool := rfl
@[simp] theorem ttr_ap (f : PEnv → R PyData) (ρ : PEnv) : ttr f ρ = (f ρ).bind vtruth := rfl
@[simp] theorem vpart_ap (f : PEnv → R PyData) (ρ : PEnv) : vpart f ρ = (f ρ).bind oInt := rfl
@[simp] theorem vnopart_ap (ρ : PEnv) : vnopart ρ = .ok none := rfl
@[simp] theorem oInt_int (i : Int) : oInt (.int i) = .ok (some i) := rfl
@[simp] theorem tbool_bool (b : Bool) : tbool (.bool b) = .ok b := rfl
@[simp] theorem tand_ap (f g : PEnv → R Bool) (ρ : PEnv) : tand f g ρ = (f ρ).bind fun b => if b then g ρ else .ok false := rfl
@[simp] theorem tor_ap (f g : PEnv → R Bool) (ρ : PEnv) : tor f g ρ = (f ρ).bind fun b => if b then .ok true else g ρ := rfl
@[simp] theorem tnot_ap (f : PEnv → R Bool) (ρ : PEnv) : tnot f ρ = (f ρ).bind fun b => .ok (!b) := rfl
@[simp] theorem tyes_ap (ρ : PEnv) : tyes ρ = .ok true := rfl
@[simp] theorem vif_ap (t : PEnv → R Bool) (f g : PEnv → R D) (ρ : PEnv) : vif t f g ρ = (t ρ).bind fun b => if b then f ρ else g ρ := rfl
@[simp] theorem vand_ap (f g : PEnv → R D) (ρ : PEnv) : vand f g ρ = (f ρ).bind fun d => (tbool d).bind fun b => if b then g ρ else .ok (.bool false) := rfl
@[simp] theorem vor_ap (f g : PEnv → R D) (ρ : PEnv) : vor f g ρ = (f ρ).bind fun d => (tbool d).bind fun b => if b then .ok (.bool true) else g ρ := rfl
@[simp] theorem vnot_ap (f : PEnv → R D) (ρ : PEnv) : vnot f ρ = (f ρ).bind fun d => (tbool d).bind fun b => .ok (.bool (!b)) := rfl
@[simp] theorem vchain_ap (g g' : D → D → R D) (fa fb fc : PEnv → R D) (ρ : PEnv) : vchain g g' fa fb fc ρ = (fa ρ).bind fun d => (fb ρ).bind fun e => (g d e).bind fun z => (tbool z).bind fun k => if k then (fc ρ).bind fun f => g' e f else .ok (.bool false) := rfl
@[simp] theorem aNil_ap (ρ : PEnv) : aNil ρ = .ok [] := rfl
@[simp] theorem aCons_ap (f : PEnv → R D) (g : PEnv → R (List D)) (ρ : PEnv) : aCons f g ρ = (f ρ).bind fun d => (g ρ).bind fun ds => .ok (d :: ds) := rfl
@[simp] theorem vtup_ap (g : PEnv → R (List D)) (ρ : PEnv) : vtup g ρ = (g ρ).bind fun ds => .ok (.tuple ds) := rfl
@[simp] theorem vlistOf_ap (g : PEnv → R (List D)) (ρ : PEnv) : vlistOf g ρ = (g ρ).bind fun ds => .ok (.list ds) := rfl
@[simp] theorem vapp_ap (g : List D → R D) (f : PEnv → R (List D)) (ρ : PEnv) : vapp g f ρ = (f ρ).bind g := rfl
@[simp] theorem vslice_ap (f : PEnv → R D) (l u : PEnv → R (Option Int)) (ρ : PEnv) : vslice f l u ρ = (f ρ).bind fun d => (l ρ).bind fun lo => (u ρ).bind fun hi => vcut lo hi d := rfl
@[simp] theorem x1_ap (g : PyData → R (List PyData)) (h : OEnv → R PyData) (ρ : OEnv) : x1 g h ρ = (h ρ).bind g := rfl
@[simp] theorem x2_ap (g : PyData → PyData → R (List PyData)) (h h' : OEnv → R PyData) (ρ : OEnv) : x2 g h h' ρ = (h ρ).bind fun d => (h' ρ).bind fun e => g d e := rfl
@[simp] theorem i1_ap (g : PyData → R (List PyData)) (h : PEnv → R PyData) (ρ : PEnv) : i1 g h ρ = (h ρ).bind g := rfl
@[simp] theorem i2_ap (g : PyData → PyData → R (List PyData)) (h h' : PEnv → R PyData) (ρ : PEnv) : i2 g h h' ρ = (h ρ).bind fun d => (h' ρ).bind fun e => g d e := rfl
@[simp] theorem isq_ap (h : PEnv → R PyData) (ρ : PEnv) : isq h ρ = (h ρ).bind seqD := rfl
@[simp] theorem seqD_list (xs : List PyData) : seqD (.list xs) = .ok xs := rfl
@[simp] theorem seqD_tuple (xs : List PyData) : seqD (.tuple xs) = .ok xs := rfl
@[simp] theorem gN_ap (i : Nat) (d : PyData) : gN i d = .ok [(i, d)] := rfl
@[simp] theorem calm_okk {α : Type} (a : α) : (R.ok a).calm = .ok a := rfl
@[simp] theorem calm_ite {α : Type} (p : Prop) [Decidable p] (a b : R α) : (if p then a else b).calm = if p then a.calm else b.calm := by split <;> rfl

@[simp] theorem vadd_int (a b : Int) : vadd (.int a) (.int b) = .ok (.int (a + b)) := rfl
@[simp] theorem vsub_int (a b : Int) : vsub (.int a) (.int b) = .ok (.int (a - b)) := rfl
@[simp] theorem vlt_int (a b : Int) : vlt (.int a) (.int b) = .ok (.bool (decide (a < b))) := rfl
@[simp] theorem vle_int (a b : Int) : vle (.int a) (.int b) = .ok (.bool (decide (a ≤ b))) := rfl
@[simp] theorem vgt_int (a b : Int) : vgt (.int a) (.int b) = .ok (.bool (decide (b < a))) := rfl
@[simp] theorem vge_int (a b : Int) : vge (.int a) (.int b) = .ok (.bool (decide (b ≤ a))) := rfl
@[simp] theorem vneg_int (a : Int) : vneg (.int a) = .ok (.int (-a)) := rfl
theorem vmul_int {a b : Int} (h : IntMulOk a b) : vmul (.int a) (.int b) = .ok (.int (a * b)) := if_pos h
@[simp] theorem vfdiv_int {a b : Int} (h : 0 < b ∧ b < 2 ^ 250) : vfdiv (.int a) (.int b) = .ok (.int (a / b)) := if_pos h
@[simp] theorem vmod_int (a b : Int) : vmod (.int a) (.int b) = if 0 < b then .ok (.int (a % b)) else .stuck := rfl
@[simp] theorem vpow_int {a b : Int} (h : 0 ≤ b ∧ b ≤ 1000 ∧ a.natAbs < 2 ^ 64) : vpow (.int a) (.int b) = .ok (.int (a ^ b.toNat)) := if_pos h
@[simp] theorem veq_int (a b : Int) : veq (.int a) (.int b) = .ok (.bool (decide (a = b))) := by
  unfold veq vEq; simp [SeqAt.shaped, PyData.canLay0, PyData.depth, PyData.eqv, Bool.beq_eq_decide_eq]
@[simp] theorem vne_int (a b : Int) : vne (.int a) (.int b) = .ok (.bool (!decide (a = b))) := by
  unfold vne vEq; simp [SeqAt.shaped, PyData.canLay0, PyData.depth, PyData.eqv, Bool.beq_eq_decide_eq]
theorem veq_str {a b : Str} (ha : PyData.strOk a = true) (hb : PyData.strOk b = true) : veq (.str a) (.str b) = .ok (.bool (decide (a = b))) := by
  unfold veq vEq; simp [SeqAt.shaped, PyData.canLay0, PyData.depth, PyData.eqv, ha, hb, Bool.beq_eq_decide_eq]
theorem vne_str {a b : Str} (ha : PyData.strOk a = true) (hb : PyData.strOk b = true) : vne (.str a) (.str b) = .ok (.bool (!decide (a = b))) := by
  unfold vne vEq; simp [SeqAt.shaped, PyData.canLay0, PyData.depth, PyData.eqv, ha, hb, Bool.beq_eq_decide_eq]
@[simp] theorem veq_bool (a b : Bool) : veq (.bool a) (.bool b) = .ok (.bool (decide (a = b))) := by
  unfold veq vEq; simp [SeqAt.shaped, PyData.canLay0, PyData.depth, PyData.eqv, Bool.beq_eq_decide_eq]
@[simp] theorem vne_bool (a b : Bool) : vne (.bool a) (.bool b) = .ok (.bool (!decide (a = b))) := by
  unfold vne vEq; simp [SeqAt.shaped, PyData.canLay0, PyData.depth, PyData.eqv, Bool.beq_eq_decide_eq]
@[simp] theorem vint1_int (a : Int) : vint1 [.int a] = .ok (.int a) := rfl
@[simp] theorem vint1_bool (a : Bool) : vint1 [.bool a] = .ok (.int (if a then 1 else 0)) := rfl
@[simp] theorem vabs_int (a : Int) : vabs [.int a] = .ok (.int (if a < 0 then -a else a)) := rfl
@[simp] theorem vlen_list (a : List PyData) : vlen [.list a] = .ok (.int a.length) := rfl
@[simp] theorem vlen_tuple (a : List PyData) : vlen [.tuple a] = .ok (.int a.length) := rfl
@[simp] theorem vtuple1_list (a : List PyData) : vtuple1 [.list a] = .ok (.tuple a) := rfl
@[simp] theorem vtuple1_tuple (a : List PyData) : vtuple1 [.tuple a] = .ok (.tuple a) := rfl
@[simp] theorem vlist1_list (a : List PyData) : vlist1 [.list a] = .ok (.list a) := rfl
@[simp] theorem vlist1_tuple (a : List PyData) : vlist1 [.tuple a] = .ok (.list a) := rfl
@[simp] theorem vmax_two (i j : Int) : vmax [.int i, .int j] = .ok (.int (if j > i then j else i)) := rfl
@[simp] theorem vmin_two (i j : Int) : vmin [.int i, .int j] = .ok (.int (if j < i then j else i)) := rfl
@[simp] theorem vtruth_int (i : Int) : vtruth (.int i) = .ok (i != 0) := rfl
@[simp] theorem vtruth_bool (i : Bool) : vtruth (.bool i) = .ok i := rfl
@[simp] theorem vtruth_none : vtruth .none = .ok false := rfl
@[simp] theorem vtruth_list (i : List PyData) : vtruth (.list i) = .ok (!i.isEmpty) := rfl
@[simp] theorem vtruth_tuple (i : List PyData) : vtruth (.tuple i) = .ok (!i.isEmpty) := rfl
@[simp] theorem visnone_none : visnone .none = .ok (.bool true) := rfl
@[simp] theorem visnone_bool (b : Bool) : visnone (.bool b) = .ok (.bool false) := rfl
@[simp] theorem visnone_int (b : Int) : visnone (.int b) = .ok (.bool false) := rfl
@[simp] theorem visnone_str (b : Str) : visnone (.str b) = .ok (.bool false) := rfl
@[simp] theorem visnone_list (b : List PyData) : visnone (.list b) = .ok (.bool false) := rfl
@[simp] theorem visnone_tuple (b : List PyData) : visnone (.tuple b) = .ok (.bool false) := rfl
@[simp] theorem vrange1_int (j : Int) : vrange1 (.int j) = if rngOk 0 j then .ok (rangeD 0 j.toNat) else .stuck := rfl
@[simp] theorem vrange2_int (i j : Int) : vrange2 (.int i) (.int j) = if rngOk i j then .ok (rangeD i (j - i).toNat) else .stuck := rfl
@[simp] theorem venum_list (xs : List PyData) : venum (.list xs) = .ok (enumD xs) := rfl
@[simp] theorem vzip_list (xs ys : List PyData) : vzip (.list xs) (.list ys) = .ok (zipD xs ys) := rfl
@[simp] theorem vrev_list (xs : List PyData) : vrev (.list xs) = .ok xs.reverse := rfl
@[simp] theorem visi_int_none  : visi "int" .none = .ok (.bool false) := rfl
@[simp] theorem visi_int_bool (b : Bool) : visi "int" (.bool b) = .ok (.bool true) := rfl
@[simp] theorem visi_int_int (b : Int) : visi "int" (.int b) = .ok (.bool true) := rfl
@[simp] theorem visi_int_str (b : Str) : visi "int" (.str b) = .ok (.bool false) := rfl
@[simp] theorem visi_int_list (b : List PyData) : visi "int" (.list b) = .ok (.bool false) := rfl
@[simp] theorem visi_int_tuple (b : List PyData) : visi "int" (.tuple b) = .ok (.bool false) := rfl
@[simp] theorem visi_bool_none  : visi "bool" .none = .ok (.bool false) := rfl
@[simp] theorem visi_bool_bool (b : Bool) : visi "bool" (.bool b) = .ok (.bool true) := rfl
@[simp] theorem visi_bool_int (b : Int) : visi "bool" (.int b) = .ok (.bool false) := rfl
@[simp] theorem visi_bool_str (b : Str) : visi "bool" (.str b) = .ok (.bool false) := rfl
@[simp] theorem visi_bool_list (b : List PyData) : visi "bool" (.list b) = .ok (.bool false) := rfl
@[simp] theorem visi_bool_tuple (b : List PyData) : visi "bool" (.tuple b) = .ok (.bool false) := rfl
@[simp] theorem visi_str_none  : visi "str" .none = .ok (.bool false) := rfl
@[simp] theorem visi_str_bool (b : Bool) : visi "str" (.bool b) = .ok (.bool false) := rfl
@[simp] theorem visi_str_int (b : Int) : visi "str" (.int b) = .ok (.bool false) := rfl
@[simp] theorem visi_str_str (b : Str) : visi "str" (.str b) = .ok (.bool true) := rfl
@[simp] theorem visi_str_list (b : List PyData) : visi "str" (.list b) = .ok (.bool false) := rfl
@[simp] theorem visi_str_tuple (b : List PyData) : visi "str" (.tuple b) = .ok (.bool false) := rfl
@[simp] theorem visi_list_none  : visi "list" .none = .ok (.bool false) := rfl
@[simp] theorem visi_list_bool (b : Bool) : visi "list" (.bool b) = .ok (.bool false) := rfl
@[simp] theorem visi_list_int (b : Int) : visi "list" (.int b) = .ok (.bool false) := rfl
@[simp] theorem visi_list_str (b : Str) : visi "list" (.str b) = .ok (.bool false) := rfl
@[simp] theorem visi_list_list (b : List PyData) : visi "list" (.list b) = .ok (.bool true) := rfl
@[simp] theorem visi_list_tuple (b : List PyData) : visi "list" (.tuple b) = .ok (.bool false) := rfl
@[simp] theorem visi_tuple_none  : visi "tuple" .none = .ok (.bool false) := rfl
@[simp] theorem visi_tuple_bool (b : Bool) : visi "tuple" (.bool b) = .ok (.bool false) := rfl
@[simp] theorem visi_tuple_int (b : Int) : visi "tuple" (.int b) = .ok (.bool false) := rfl
@[simp] theorem visi_tuple_str (b : Str) : visi "tuple" (.str b) = .ok (.bool false) := rfl
@[simp] theorem visi_tuple_list (b : List PyData) : visi "tuple" (.list b) = .ok (.bool false) := rfl
@[simp] theorem visi_tuple_tuple (b : List PyData) : visi "tuple" (.tuple b) = .ok (.bool true) := rfl
@[simp] theorem vVar_0 (d : PyData) (ρ : PEnv) : vVar 0 (some d :: ρ) = .ok d := rfl
@[simp] theorem vVar_1 (x0 : Option PyData) (d : PyData) (ρ : PEnv) : vVar 1 (x0 :: some d :: ρ) = .ok d := rfl
@[simp] theorem vVar_2 (x0 x1 : Option PyData) (d : PyData) (ρ : PEnv) : vVar 2 (x0 :: x1 :: some d :: ρ) = .ok d := rfl
@[simp] theorem vVar_3 (x0 x1 x2 : Option PyData) (d : PyData) (ρ : PEnv) : vVar 3 (x0 :: x1 :: x2 :: some d :: ρ) = .ok d := rfl
@[simp] theorem vVar_4 (x0 x1 x2 x3 : Option PyData) (d : PyData) (ρ : PEnv) : vVar 4 (x0 :: x1 :: x2 :: x3 :: some d :: ρ) = .ok d := rfl
@[simp] theorem vVar_5 (x0 x1 x2 x3 x4 : Option PyData) (d : PyData) (ρ : PEnv) : vVar 5 (x0 :: x1 :: x2 :: x3 :: x4 :: some d :: ρ) = .ok d := rfl
@[simp] theorem vVar_6 (x0 x1 x2 x3 x4 x5 : Option PyData) (d : PyData) (ρ : PEnv) : vVar 6 (x0 :: x1 :: x2 :: x3 :: x4 :: x5 :: some d :: ρ) = .ok d := rfl
@[simp] theorem vVar_7 (x0 x1 x2 x3 x4 x5 x6 : Option PyData) (d : PyData) (ρ : PEnv) : vVar 7 (x0 :: x1 :: x2 :: x3 :: x4 :: x5 :: x6 :: some d :: ρ) = .ok d := rfl
@[simp] theorem vVar_8 (x0 x1 x2 x3 x4 x5 x6 x7 : Option PyData) (d : PyData) (ρ : PEnv) : vVar 8 (x0 :: x1 :: x2 :: x3 :: x4 :: x5 :: x6 :: x7 :: some d :: ρ) = .ok d := rfl
@[simp] theorem vVar_9 (x0 x1 x2 x3 x4 x5 x6 x7 x8 : Option PyData) (d : PyData) (ρ : PEnv) : vVar 9 (x0 :: x1 :: x2 :: x3 :: x4 :: x5 :: x6 :: x7 :: x8 :: some d :: ρ) = .ok d := rfl
@[simp] theorem vVar_10 (x0 x1 x2 x3 x4 x5 x6 x7 x8 x9 : Option PyData) (d : PyData) (ρ : PEnv) : vVar 10 (x0 :: x1 :: x2 :: x3 :: x4 :: x5 :: x6 :: x7 :: x8 :: x9 :: some d :: ρ) = .ok d := rfl
@[simp] theorem vVar_11 (x0 x1 x2 x3 x4 x5 x6 x7 x8 x9 x10 : Option PyData) (d : PyData) (ρ : PEnv) : vVar 11 (x0 :: x1 :: x2 :: x3 :: x4 :: x5 :: x6 :: x7 :: x8 :: x9 :: x10 :: some d :: ρ) = .ok d := rfl
@[simp] theorem vVar_12 (x0 x1 x2 x3 x4 x5 x6 x7 x8 x9 x10 x11 : Option PyData) (d : PyData) (ρ : PEnv) : vVar 12 (x0 :: x1 :: x2 :: x3 :: x4 :: x5 :: x6 :: x7 :: x8 :: x9 :: x10 :: x11 :: some d :: ρ) = .ok d := rfl
@[simp] theorem vVar_13 (x0 x1 x2 x3 x4 x5 x6 x7 x8 x9 x10 x11 x12 : Option PyData) (d : PyData) (ρ : PEnv) : vVar 13 (x0 :: x1 :: x2 :: x3 :: x4 :: x5 :: x6 :: x7 :: x8 :: x9 :: x10 :: x11 :: x12 :: some d :: ρ) = .ok d := rfl
@[simp] theorem vVar_14 (x0 x1 x2 x3 x4 x5 x6 x7 x8 x9 x10 x11 x12 x13 : Option PyData) (d : PyData) (ρ : PEnv) : vVar 14 (x0 :: x1 :: x2 :: x3 :: x4 :: x5 :: x6 :: x7 :: x8 :: x9 :: x10 :: x11 :: x12 :: x13 :: some d :: ρ) = .ok d := rfl
@[simp] theorem vVar_15 (x0 x1 x2 x3 x4 x5 x6 x7 x8 x9 x10 x11 x12 x13 x14 : Option PyData) (d : PyData) (ρ : PEnv) : vVar 15 (x0 :: x1 :: x2 :: x3 :: x4 :: x5 :: x6 :: x7 :: x8 :: x9 :: x10 :: x11 :: x12 :: x13 :: x14 :: some d :: ρ) = .ok d := rfl
@[simp] theorem vVar_16 (x0 x1 x2 x3 x4 x5 x6 x7 x8 x9 x10 x11 x12 x13 x14 x15 : Option PyData) (d : PyData) (ρ : PEnv) : vVar 16 (x0 :: x1 :: x2 :: x3 :: x4 :: x5 :: x6 :: x7 :: x8 :: x9 :: x10 :: x11 :: x12 :: x13 :: x14 :: x15 :: some d :: ρ) = .ok d := rfl
@[simp] theorem vVar_17 (x0 x1 x2 x3 x4 x5 x6 x7 x8 x9 x10 x11 x12 x13 x14 x15 x16 : Option PyData) (d : PyData) (ρ : PEnv) : vVar 17 (x0 :: x1 :: x2 :: x3 :: x4 :: x5 :: x6 :: x7 :: x8 :: x9 :: x10 :: x11 :: x12 :: x13 :: x14 :: x15 :: x16 :: some d :: ρ) = .ok d := rfl
@[simp] theorem vVar_18 (x0 x1 x2 x3 x4 x5 x6 x7 x8 x9 x10 x11 x12 x13 x14 x15 x16 x17 : Option PyData) (d : PyData) (ρ : PEnv) : vVar 18 (x0 :: x1 :: x2 :: x3 :: x4 :: x5 :: x6 :: x7 :: x8 :: x9 :: x10 :: x11 :: x12 :: x13 :: x14 :: x15 :: x16 :: x17 :: some d :: ρ) = .ok d := rfl
@[simp] theorem vVar_19 (x0 x1 x2 x3 x4 x5 x6 x7 x8 x9 x10 x11 x12 x13 x14 x15 x16 x17 x18 : Option PyData) (d : PyData) (ρ : PEnv) : vVar 19 (x0 :: x1 :: x2 :: x3 :: x4 :: x5 :: x6 :: x7 :: x8 :: x9 :: x10 :: x11 :: x12 :: x13 :: x14 :: x15 :: x16 :: x17 :: x18 :: some d :: ρ) = .ok d := rfl
@[simp] theorem vVar_20 (x0 x1 x2 x3 x4 x5 x6 x7 x8 x9 x10 x11 x12 x13 x14 x15 x16 x17 x18 x19 : Option PyData) (d : PyData) (ρ : PEnv) : vVar 20 (x0 :: x1 :: x2 :: x3 :: x4 :: x5 :: x6 :: x7 :: x8 :: x9 :: x10 :: x11 :: x12 :: x13 :: x14 :: x15 :: x16 :: x17 :: x18 :: x19 :: some d :: ρ) = .ok d := rfl
@[simp] theorem vVar_21 (x0 x1 x2 x3 x4 x5 x6 x7 x8 x9 x10 x11 x12 x13 x14 x15 x16 x17 x18 x19 x20 : Option PyData) (d : PyData) (ρ : PEnv) : vVar 21 (x0 :: x1 :: x2 :: x3 :: x4 :: x5 :: x6 :: x7 :: x8 :: x9 :: x10 :: x11 :: x12 :: x13 :: x14 :: x15 :: x16 :: x17 :: x18 :: x19 :: x20 :: some d :: ρ) = .ok d := rfl
@[simp] theorem vVar_22 (x0 x1 x2 x3 x4 x5 x6 x7 x8 x9 x10 x11 x12 x13 x14 x15 x16 x17 x18 x19 x20 x21 : Option PyData) (d : PyData) (ρ : PEnv) : vVar 22 (x0 :: x1 :: x2 :: x3 :: x4 :: x5 :: x6 :: x7 :: x8 :: x9 :: x10 :: x11 :: x12 :: x13 :: x14 :: x15 :: x16 :: x17 :: x18 :: x19 :: x20 :: x21 :: some d :: ρ) = .ok d := rfl
@[simp] theorem vVar_23 (x0 x1 x2 x3 x4 x5 x6 x7 x8 x9 x10 x11 x12 x13 x14 x15 x16 x17 x18 x19 x20 x21 x22 : Option PyData) (d : PyData) (ρ : PEnv) : vVar 23 (x0 :: x1 :: x2 :: x3 :: x4 :: x5 :: x6 :: x7 :: x8 :: x9 :: x10 :: x11 :: x12 :: x13 :: x14 :: x15 :: x16 :: x17 :: x18 :: x19 :: x20 :: x21 :: x22 :: some d :: ρ) = .ok d := rfl
@[simp] theorem vVar_24 (x0 x1 x2 x3 x4 x5 x6 x7 x8 x9 x10 x11 x12 x13 x14 x15 x16 x17 x18 x19 x20 x21 x22 x23 : Option PyData) (d : PyData) (ρ : PEnv) : vVar 24 (x0 :: x1 :: x2 :: x3 :: x4 :: x5 :: x6 :: x7 :: x8 :: x9 :: x10 :: x11 :: x12 :: x13 :: x14 :: x15 :: x16 :: x17 :: x18 :: x19 :: x20 :: x21 :: x22 :: x23 :: some d :: ρ) = .ok d := rfl
@[simp] theorem vVar_25 (x0 x1 x2 x3 x4 x5 x6 x7 x8 x9 x10 x11 x12 x13 x14 x15 x16 x17 x18 x19 x20 x21 x22 x23 x24 : Option PyData) (d : PyData) (ρ : PEnv) : vVar 25 (x0 :: x1 :: x2 :: x3 :: x4 :: x5 :: x6 :: x7 :: x8 :: x9 :: x10 :: x11 :: x12 :: x13 :: x14 :: x15 :: x16 :: x17 :: x18 :: x19 :: x20 :: x21 :: x22 :: x23 :: x24 :: some d :: ρ) = .ok d := rfl
@[simp] theorem vVar_26 (x0 x1 x2 x3 x4 x5 x6 x7 x8 x9 x10 x11 x12 x13 x14 x15 x16 x17 x18 x19 x20 x21 x22 x23 x24 x25 : Option PyData) (d : PyData) (ρ : PEnv) : vVar 26 (x0 :: x1 :: x2 :: x3 :: x4 :: x5 :: x6 :: x7 :: x8 :: x9 :: x10 :: x11 :: x12 :: x13 :: x14 :: x15 :: x16 :: x17 :: x18 :: x19 :: x20 :: x21 :: x22 :: x23 :: x24 :: x25 :: some d :: ρ) = .ok d := rfl
@[simp] theorem vVar_27 (x0 x1 x2 x3 x4 x5 x6 x7 x8 x9 x10 x11 x12 x13 x14 x15 x16 x17 x18 x19 x20 x21 x22 x23 x24 x25 x26 : Option PyData) (d : PyData) (ρ : PEnv) : vVar 27 (x0 :: x1 :: x2 :: x3 :: x4 :: x5 :: x6 :: x7 :: x8 :: x9 :: x10 :: x11 :: x12 :: x13 :: x14 :: x15 :: x16 :: x17 :: x18 :: x19 :: x20 :: x21 :: x22 :: x23 :: x24 :: x25 :: x26 :: some d :: ρ) = .ok d := rfl
@[simp] theorem vVar_28 (x0 x1 x2 x3 x4 x5 x6 x7 x8 x9 x10 x11 x12 x13 x14 x15 x16 x17 x18 x19 x20 x21 x22 x23 x24 x25 x26 x27 : Option PyData) (d : PyData) (ρ : PEnv) : vVar 28 (x0 :: x1 :: x2 :: x3 :: x4 :: x5 :: x6 :: x7 :: x8 :: x9 :: x10 :: x11 :: x12 :: x13 :: x14 :: x15 :: x16 :: x17 :: x18 :: x19 :: x20 :: x21 :: x22 :: x23 :: x24 :: x25 :: x26 :: x27 :: some d :: ρ) = .ok d := rfl
@[simp] theorem vVar_29 (x0 x1 x2 x3 x4 x5 x6 x7 x8 x9 x10 x11 x12 x13 x14 x15 x16 x17 x18 x19 x20 x21 x22 x23 x24 x25 x26 x27 x28 : Option PyData) (d : PyData) (ρ : PEnv) : vVar 29 (x0 :: x1 :: x2 :: x3 :: x4 :: x5 :: x6 :: x7 :: x8 :: x9 :: x10 :: x11 :: x12 :: x13 :: x14 :: x15 :: x16 :: x17 :: x18 :: x19 :: x20 :: x21 :: x22 :: x23 :: x24 :: x25 :: x26 :: x27 :: x28 :: some d :: ρ) = .ok d := rfl
/-! ### sizes of ints -/
def Sm (n : Nat) (a : Int) : Prop := a.natAbs < 2 ^ n
theorem Sm.mono {m n : Nat} {a : Int} (h : Sm m a) (l : m ≤ n) : Sm n a := Nat.lt_of_lt_of_le h (Nat.pow_le_pow_right (by omega) l)
theorem Sm.neg {n : Nat} {a : Int} (h : Sm n a) : Sm n (-a) := by unfold Sm at *; rw [Int.natAbs_neg]; exact h
theorem Sm.add {m : Nat} {a b : Int} (h : Sm m a) (g : Sm m b) : Sm (m + 1) (a + b) := by
  unfold Sm at *
  rw [Nat.pow_succ]
  have := Int.natAbs_add_le a b
  omega
theorem Sm.sub {m : Nat} {a b : Int} (h : Sm m a) (g : Sm m b) : Sm (m + 1) (a - b) := by
  rw [Int.sub_eq_add_neg]; exact h.add g.neg
theorem Sm.mul {m n : Nat} {a b : Int} (h : Sm m a) (g : Sm n b) : Sm (m + n) (a * b) := by
  unfold Sm at *
  rw [Int.natAbs_mul, Nat.pow_add]
  exact Nat.mul_lt_mul'' h g
theorem Sm.bits {n : Nat} {a : Int} (h : Sm n a) : Builtin.Int.intBits a ≤ n := by
  unfold Builtin.Int.intBits
  split
  · omega
  · rename_i h0
    have h1 : a.natAbs ≠ 0 := fun z => h0 (by simp; omega)
    have := (Nat.log2_lt h1).mpr h
    omega
theorem Sm.mulOk {m n : Nat} {a b : Int} (h : Sm m a) (g : Sm n b) (l : m + n ≤ 134217728 := by decide) : IntMulOk a b := by
  have h1 := h.bits
  have h2 := g.bits
  unfold IntMulOk Builtin.Int.intTooBig
  intro z
  rw [Bool.and_eq_true] at z
  have z2 := of_decide_eq_true z.2
  have : (bitsLine : Int) = 134217728 := by unfold bitsLine; decide
  omega
theorem vmul_sm {m n : Nat} {a b : Int} (h : Sm m a) (g : Sm n b) (l : m + n ≤ 134217728 := by decide) : vmul (.int a) (.int b) = .ok (.int (a * b)) := vmul_int (h.mulOk g l)
end VL

namespace VL
open PySem PySem.Spec PyProof.Rows
/-! ### items -/
theorem atI_nat {α : Type} (xs : List α) (k : Nat) : L2.atI xs (k : Int) = xs[k]? := by
  unfold L2.atI L2.ixN
  by_cases h : k < xs.length
  · simp [h]
  · simp [h]
theorem vidx_list {xs : List PyData} {k : Nat} {d : PyData} (h : xs[k]? = some d) : vidx (.list xs) (.int (k : Int)) = .ok d := by
  simp only [vidx, atI_nat, h]
theorem vidx_tuple {xs : List PyData} {k : Nat} {d : PyData} (h : xs[k]? = some d) : vidx (.tuple xs) (.int (k : Int)) = .ok d := by
  simp only [vidx, atI_nat, h]
@[simp] theorem vidx_list_0 (a : PyData) (xs : List PyData) : vidx (.list (a :: xs)) (.int 0) = .ok a := vidx_list (k := 0) rfl
@[simp] theorem vidx_list_1 (a b : PyData) (xs : List PyData) : vidx (.list (a :: b :: xs)) (.int 1) = .ok b := vidx_list (k := 1) rfl
@[simp] theorem vidx_list_2 (a b c : PyData) (xs : List PyData) : vidx (.list (a :: b :: c :: xs)) (.int 2) = .ok c := vidx_list (k := 2) rfl
@[simp] theorem vidx_list_3 (a b c d : PyData) (xs : List PyData) : vidx (.list (a :: b :: c :: d :: xs)) (.int 3) = .ok d := vidx_list (k := 3) rfl
@[simp] theorem vidx_list_4 (a b c d e : PyData) (xs : List PyData) : vidx (.list (a :: b :: c :: d :: e :: xs)) (.int 4) = .ok e := vidx_list (k := 4) rfl
@[simp] theorem vidx_list_5 (a b c d e f : PyData) (xs : List PyData) : vidx (.list (a :: b :: c :: d :: e :: f :: xs)) (.int 5) = .ok f := vidx_list (k := 5) rfl
@[simp] theorem vidx_tuple_0 (a : PyData) (xs : List PyData) : vidx (.tuple (a :: xs)) (.int 0) = .ok a := vidx_tuple (k := 0) rfl
@[simp] theorem vidx_tuple_1 (a b : PyData) (xs : List PyData) : vidx (.tuple (a :: b :: xs)) (.int 1) = .ok b := vidx_tuple (k := 1) rfl
@[simp] theorem vidx_tuple_2 (a b c : PyData) (xs : List PyData) : vidx (.tuple (a :: b :: c :: xs)) (.int 2) = .ok c := vidx_tuple (k := 2) rfl
@[simp] theorem vidx_tuple_3 (a b c d : PyData) (xs : List PyData) : vidx (.tuple (a :: b :: c :: d :: xs)) (.int 3) = .ok d := vidx_tuple (k := 3) rfl
@[simp] theorem vidx_tuple_4 (a b c d e : PyData) (xs : List PyData) : vidx (.tuple (a :: b :: c :: d :: e :: xs)) (.int 4) = .ok e := vidx_tuple (k := 4) rfl
/-! ### loops -/
theorem forL_nx {kt : PyData → R (List (Nat × PyData))} {kl : OEnv → OEnv} {gb : OEnv → SR} (P : Nat → OEnv → Prop) : ∀ (ds : List PyData) (j : Nat) (ρ : OEnv), P j ρ →
    (∀ i d ρ, ds[i]? = some d → P (j + i) ρ → ∃ bs ρ', kt d = .ok bs ∧ (gb (setsO ρ bs) = .nx ρ' ∨ gb (setsO ρ bs) = .ct ρ') ∧ P (j + i + 1) (kl ρ')) → ∃ ρ', forL kt kl gb ds ρ = .nx ρ' ∧ P (j + ds.length) ρ'
  | [], j, ρ, h, _ => ⟨ρ, rfl, h⟩
  | d :: ds, j, ρ, h, hs => by
    obtain ⟨bs, ρ', h1, h2, h3⟩ := hs 0 d ρ rfl h
    obtain ⟨ρ2, h4, h5⟩ := forL_nx P ds (j + 1) (kl ρ') h3 fun i d' ρ' hd hp => by
      have := hs (i + 1) d' ρ' (by simpa using hd) (by rw [show j + (i + 1) = j + 1 + i by omega]; exact hp)
      rw [show j + (i + 1) = j + 1 + i by omega] at this
      exact this
    refine ⟨ρ2, ?_, by rw [List.length_cons, show j + (ds.length + 1) = j + 1 + ds.length by omega]; exact h5⟩
    unfold forL
    rw [h1]
    rcases h2 with h2 | h2 <;> (simp only [h2]; exact h4)
theorem rangeD_get {lo : Int} {n i : Nat} {d : PyData} (h : (rangeD lo n)[i]? = some d) : i < n ∧ d = .int (lo + (i : Int)) := by
  have hi : i < n := by
    obtain ⟨q, _⟩ := List.getElem?_eq_some_iff.mp h
    rw [rangeD_len] at q; exact q
  rw [rangeD_at hi] at h
  cases h
  exact ⟨hi, rfl⟩
theorem rngOk_nat {n : Nat} (h : n ≤ 16777216) : rngOk 0 (n : Int) := by unfold rngOk; omega
@[simp] theorem vrange1_nat {n : Nat} (h : n ≤ 16777216) : vrange1 (.int (n : Int)) = .ok (rangeD 0 n) := by
  rw [vrange1_int, if_pos (rngOk_nat h)]; simp
theorem vmul_r {a b : Int} (h : Sm 64 b) : vmul (.int a) (.int b) = .ok (.int (a * b)) := vmul_int (IntMulOk.of_right h.bits)
theorem vmul_l {a b : Int} (h : Sm 64 a) : vmul (.int a) (.int b) = .ok (.int (a * b)) := vmul_int (IntMulOk.of_left h.bits)
theorem sm_of {n : Nat} {a : Int} (h : -(2 ^ n : Int) < a ∧ a < 2 ^ n) : Sm n a := by
  unfold Sm
  have e : ((2 ^ n : Nat) : Int) = 2 ^ n := by simp
  omega
theorem Sm.lit {n : Nat} {a : Int} (h : a.natAbs < 2 ^ n := by decide) : Sm n a := h
theorem szL : sizeLine = 16777216 := by with_unfolding_all rfl
end VL

namespace VL
open PySem PySem.Spec PyProof.Rows
@[simp] theorem gT_ap (k : List PyData → R (List (Nat × PyData))) (xs : List PyData) : gT k (.tuple xs) = k xs := rfl
@[simp] theorem gT_apL (k : List PyData → R (List (Nat × PyData))) (xs : List PyData) : gT k (.list xs) = k xs := rfl
@[simp] theorem gC_ap (g : PyData → R (List (Nat × PyData))) (h : List PyData → R (List (Nat × PyData))) (d : PyData) (ds : List PyData) : gC g h (d :: ds) = (g d).bind fun bs => (h ds).bind fun cs => .ok (bs ++ cs) := rfl
@[simp] theorem gE_ap : gE [] = .ok [] := rfl
/-! ### bounds found by instances -/
class Bd (a : Int) (n : outParam Nat) : Prop where
  h : Sm n a
instance bd_add {a b : Int} {m n : Nat} [ha : Bd a m] [hb : Bd b n] : Bd (a + b) (max m n + 1) := ⟨(ha.h.mono (Nat.le_max_left m n)).add (hb.h.mono (Nat.le_max_right m n))⟩
instance bd_sub {a b : Int} {m n : Nat} [ha : Bd a m] [hb : Bd b n] : Bd (a - b) (max m n + 1) := ⟨(ha.h.mono (Nat.le_max_left m n)).sub (hb.h.mono (Nat.le_max_right m n))⟩
instance bd_mul {a b : Int} {m n : Nat} [ha : Bd a m] [hb : Bd b n] : Bd (a * b) (m + n) := ⟨ha.h.mul hb.h⟩
instance bd_neg {a : Int} {m : Nat} [ha : Bd a m] : Bd (-a) m := ⟨ha.h.neg⟩
instance bd_ite {p : Prop} [Decidable p] {a b : Int} {m n : Nat} [ha : Bd a m] [hb : Bd b n] : Bd (if p then a else b) (max m n) := ⟨by
  split
  · exact ha.h.mono (Nat.le_max_left m n)
  · exact hb.h.mono (Nat.le_max_right m n)⟩
theorem bd_modl {a k : Int} {n : Nat} (h0 : 0 < k) (h : k < 2 ^ n) : Bd (a % k) n := ⟨by
  have a1 := Int.emod_nonneg a (b := k) (by omega)
  have a2 := Int.emod_lt_of_pos a h0
  exact sm_of ⟨by omega, by omega⟩⟩
@[simp] theorem vmul_bd {a b : Int} {m n : Nat} [ha : Bd a m] [hb : Bd b n] (h : m + n ≤ 134217728) : vmul (.int a) (.int b) = .ok (.int (a * b)) := vmul_sm ha.h hb.h h
theorem pick3 (x : Int) (P : PyData → Prop) {a b c : PyData} (ha : P a) (hb : P b) (hc : P c) : ∃ d, P d ∧ vidx (.list [a, b, c]) (.int (x % 3)) = .ok d := by
  have h1 := Int.emod_nonneg x (b := 3) (by omega)
  have h2 := Int.emod_lt_of_pos x (b := 3) (by omega)
  generalize x % 3 = y at h1 h2
  obtain rfl | rfl | rfl : y = 0 ∨ y = 1 ∨ y = 2 := by omega
  · exact ⟨a, ha, by simp⟩
  · exact ⟨b, hb, by simp⟩
  · exact ⟨c, hc, by simp⟩
theorem pick4 (x : Int) (P : PyData → Prop) {a b c e : PyData} (ha : P a) (hb : P b) (hc : P c) (he : P e) : ∃ d, P d ∧ vidx (.list [a, b, c, e]) (.int (x % 4)) = .ok d := by
  have h1 := Int.emod_nonneg x (b := 4) (by omega)
  have h2 := Int.emod_lt_of_pos x (b := 4) (by omega)
  generalize x % 4 = y at h1 h2
  obtain rfl | rfl | rfl | rfl : y = 0 ∨ y = 1 ∨ y = 2 ∨ y = 3 := by omega
  · exact ⟨a, ha, by simp⟩
  · exact ⟨b, hb, by simp⟩
  · exact ⟨c, hc, by simp⟩
  · exact ⟨e, he, by simp⟩
end VL

namespace VL
open PySem PySem.Spec PyProof.Rows
/-- data of a depth: no dict, texts and lists of a size -/
def okS : Nat → PyData → Prop
  | 0, _ => False
  | _ + 1, .none => True
  | _ + 1, .bool _ => True
  | _ + 1, .int _ => True
  | _ + 1, .str s => PyData.strOk s = true
  | n + 1, .list xs => xs.length ≤ 16777216 ∧ ∀ x ∈ xs, okS n x
  | n + 1, .tuple xs => xs.length ≤ 16777216 ∧ ∀ x ∈ xs, okS n x
  | _ + 1, .dict _ => False
theorem all_lay {n : Nat} (ih : ∀ {d : PyData}, okS n d → d.canLay0 = true ∧ d.depth ≤ n ∧ PyData.eqv d d = true) : ∀ ys : List PyData, (∀ x ∈ ys, okS n x) → PyData.canLayAll0 ys = true ∧ PyData.depthAll ys ≤ n ∧ PyData.eqvAll ys ys = true
  | [], _ => by simp [PyData.canLayAll0, PyData.depthAll, PyData.eqvAll]
  | y :: ys, hy => by
    have h1 := ih (hy y List.mem_cons_self)
    have h2 := all_lay ih ys fun x hx => hy x (List.mem_cons_of_mem _ hx)
    simp only [PyData.canLayAll0, PyData.depthAll, PyData.eqvAll, Bool.and_eq_true]
    exact ⟨⟨h1.1, h2.1⟩, by omega, h1.2.2, h2.2.2⟩
theorem okS.lay : ∀ {n : Nat} {d : PyData}, okS n d → d.canLay0 = true ∧ d.depth ≤ n ∧ PyData.eqv d d = true
  | 0, _, h => h.elim
  | n + 1, .none, _ => by simp [PyData.canLay0, PyData.depth, PyData.eqv]
  | n + 1, .bool _, _ => by simp [PyData.canLay0, PyData.depth, PyData.eqv]
  | n + 1, .int _, _ => by simp [PyData.canLay0, PyData.depth, PyData.eqv]
  | n + 1, .str s, h => by simp only [PyData.canLay0, PyData.depth, PyData.eqv]; exact ⟨h, Nat.zero_le _, by simp⟩
  | n + 1, .list xs, h => by
    have := all_lay (fun {d} => okS.lay (n := n) (d := d)) xs h.2
    simp only [PyData.canLay0, PyData.depth, PyData.eqv]
    exact ⟨this.1, by omega, this.2.2⟩
  | n + 1, .tuple xs, h => by
    have := all_lay (fun {d} => okS.lay (n := n) (d := d)) xs h.2
    simp only [PyData.canLay0, PyData.depth, PyData.eqv]
    exact ⟨this.1, by omega, this.2.2⟩
theorem okS.shaped {n : Nat} {d : PyData} (h : okS n d) (hn : n ≤ 64 := by decide) : SeqAt.shaped d = true := by
  have := h.lay
  unfold SeqAt.shaped
  rw [this.1, decide_eq_true (show d.depth ≤ 64 by omega)]
  rfl
theorem vEq_ok {m n : Nat} {d e : PyData} (h : okS m d) (g : okS n e) (hm : m ≤ 64 := by decide) (hn : n ≤ 64 := by decide) : vEq d e = .ok (PyData.eqv d e) := if_pos ⟨h.shaped hm, g.shaped hn⟩
theorem veq_ok {m n : Nat} {d e : PyData} (h : okS m d) (g : okS n e) (hm : m ≤ 64 := by decide) (hn : n ≤ 64 := by decide) : veq d e = .ok (.bool (PyData.eqv d e)) := by
  unfold veq; rw [vEq_ok h g hm hn]; rfl
theorem vne_ok {m n : Nat} {d e : PyData} (h : okS m d) (g : okS n e) (hm : m ≤ 64 := by decide) (hn : n ≤ 64 := by decide) : vne d e = .ok (.bool (!PyData.eqv d e)) := by
  unfold vne; rw [vEq_ok h g hm hn]; rfl
theorem vne_refl {n : Nat} {d : PyData} (h : okS n d) (hn : n ≤ 64 := by decide) : vne d d = .ok (.bool false) := by
  rw [vne_ok h h hn hn, h.lay.2.2]; rfl
theorem veq_refl {n : Nat} {d : PyData} (h : okS n d) (hn : n ≤ 64 := by decide) : veq d d = .ok (.bool true) := by
  rw [veq_ok h h hn hn, h.lay.2.2]
theorem vidx_list' {xs : List PyData} {j : Int} {k : Nat} {d : PyData} (hj : j = (k : Int)) (h : xs[k]? = some d) : vidx (.list xs) (.int j) = .ok d := by rw [hj]; exact vidx_list h
theorem vidx_tuple' {xs : List PyData} {j : Int} {k : Nat} {d : PyData} (hj : j = (k : Int)) (h : xs[k]? = some d) : vidx (.tuple xs) (.int j) = .ok d := by rw [hj]; exact vidx_tuple h
theorem vfdiv_pos {a b : Int} (h : 0 < b) (h2 : b < 2 ^ 250) : vfdiv (.int a) (.int b) = .ok (.int (a / b)) := if_pos ⟨h, h2⟩
@[simp] theorem veq_strS {a b : Str} (ha : PyData.strOk a = true) (hb : PyData.strOk b = true) : veq (.str a) (.str b) = .ok (.bool (decide (a = b))) := veq_str ha hb
@[simp] theorem vne_strS {a b : Str} (ha : PyData.strOk a = true) (hb : PyData.strOk b = true) : vne (.str a) (.str b) = .ok (.bool (!decide (a = b))) := vne_str ha hb
theorem ixN_nat {n j : Nat} (h : j < n) : L2.ixN n (j : Int) = some j := by unfold L2.ixN; simp [h]
/-- a comprehension item by item -/
theorem compL_rel {kt : PyData → R (List (Nat × PyData))} {ft : PEnv → R Bool} {fe : PEnv → R PyData} {ρ : PEnv} (S : Nat → PyData → Prop) : ∀ (ds : List PyData) (j : Nat),
    (∀ i d, ds[i]? = some d → ∃ bs y, kt d = .ok bs ∧ ft (setsD ρ bs) = .ok true ∧ fe (setsD ρ bs) = .ok y ∧ S (j + i) y) → ∃ ys, compL kt ft fe ρ ds = .ok ys ∧ ys.length = ds.length ∧ ∀ i y, ys[i]? = some y → S (j + i) y
  | [], j, _ => ⟨[], rfl, rfl, fun i y h => by simp at h⟩
  | d :: ds, j, h => by
    obtain ⟨bs, y, h1, h2, h3, h4⟩ := h 0 d rfl
    obtain ⟨ys, h5, h6, h7⟩ := compL_rel S ds (j + 1) fun i d' hd => by
      have := h (i + 1) d' (by simpa using hd)
      rw [show j + (i + 1) = j + 1 + i by omega] at this
      exact this
    refine ⟨y :: ys, ?_, by simp [h6], fun i z hz => ?_⟩
    · simp only [compL, h1, R.bind_ok, h2, h3, calm_okk, h5, if_true]
    · cases i with
      | zero => simp at hz; subst hz; exact h4
      | succ i =>
        have := h7 i z (by simpa using hz)
        rw [show j + (i + 1) = j + 1 + i by omega]
        exact this
@[simp] theorem vcomp_ap (own : List Nat) (fi : PEnv → R (List PyData)) (kt : PyData → R (List (Nat × PyData))) (ft : PEnv → R Bool) (fe : PEnv → R PyData) (ρ : PEnv) : vcomp own fi kt ft fe ρ = (fi ρ).bind fun ds => (compL kt ft fe (wipeD ρ own) ds).calm := rfl
@[simp] theorem vadd_list {xs ys : List PyData} (h : xs.length + ys.length ≤ 16777216) : vadd (.list xs) (.list ys) = .ok (.list (xs ++ ys)) := if_pos (by rw [szL]; exact h)
@[simp] theorem vadd_tuple {xs ys : List PyData} (h : xs.length + ys.length ≤ 16777216) : vadd (.tuple xs) (.tuple ys) = .ok (.tuple (xs ++ ys)) := if_pos (by rw [szL]; exact h)
end VL

namespace VL
open PySem PySem.Spec PyProof.Rows L2
/-! ### raise of an own class over ValueError, with a text -/
structure ExcF (K : PySem.W.Frag) (mg : Str → Option Value) (x : Str) (C : Addr) : Prop where
  xF : PySem.W.excIn K C [.type "ValueError", .type "Exception", .type "BaseException", .type "object"] "ValueError.__new__" = true
  gF : mg x = some (.ref C)
  kF : PySem.W.keepIn K (.ref C) = true
  bF : PySem.W.subIn K (.ref C) (.type "BaseException") = some true
  tF : PySem.W.typeIn K (.ref C) = some (.type "type")
def sRaise (c : Str) : OEnv → SR := fun ρ => .err c ρ
@[simp] theorem sRaise_ap (c : Str) (ρ : OEnv) : sRaise c ρ = .err c ρ := rfl
theorem vs_raise {X : Cx} {W : WX} {x m : Str} {j : Nat} {p p2 pos pos2 : Pos} {C : Addr} (hc : X.calm = true) (tk : Takes X W) (E : ExcF X.K X.mg x C) (hg : Gl X x := by rfl) (hdb : (x == ("__debug__" : Str)) = false := by decide) :
    VS X W (.Raise (some (.Call (.Name x p) [.Constant (.str m) j p2] [] pos)) none pos2) (sRaise x) := by
  refine ⟨_, ps_raise hc tk (pmk_own PySem.F.excBase_ValueError E.xF E.gF E.kF (raises_own E.bF E.tF) hg hdb), fun D σ H F0 H0 F ρ r pr => ?_⟩
  obtain ⟨C', e, w⟩ := pr σ H F r
  rw [E.gF] at e
  cases e
  exact w
end VL

namespace VL
open PySem PySem.Spec PyProof.Rows L2
/-! ### try: body, except C as e: suite -/
def tVS (X : Cx) (W : WX) (g : OEnv → SR) : TS := fun D σ H => ∃ F0 H0 F ρ, RS X.K F0 H0 F H σ ρ ∧ SPst X W F0 H0 D (g ρ)
theorem VSs.pss {X : Cx} {W : WX} {sts : List Stmt} {g : OEnv → SR} (h : VSs X W sts g) : PSs X sts (tVS X W g) := by
  obtain ⟨t, p, q⟩ := h.ex
  exact ⟨fun pins s σ H D I ⟨F0, H0, F, ρ, r, z⟩ => p.run pins s σ H D I (q D σ H F0 H0 F ρ r z)⟩
/-- the caught exception as data -/
def excD (a : Addr) (c : Str) : PyData := .dict [(.none, .int (a : Int)), (.none, .str c)]
/-- what comes out alike wherever the exception stands -/
noncomputable def anyA (g : Addr → SR) : SR := open Classical in if h : ∃ r, ∀ a, g a = r then Classical.choose h else .stuck
theorem anyA_eq {g : Addr → SR} {r : SR} (h : ∀ a, g a = r) : anyA g = r := by
  unfold anyA
  have ex : ∃ r, ∀ a, g a = r := ⟨r, h⟩
  rw [dif_pos ex]
  exact (Classical.choose_spec ex 0).symm.trans (h 0)
theorem anyA_at {g : Addr → SR} (h : anyA g ≠ .stuck) (a : Addr) : g a = anyA g := by
  unfold anyA at h ⊢
  split at h
  · rename_i ex
    rw [dif_pos ex]
    exact Classical.choose_spec ex a
  · exact absurd rfl h
/-- the clause's name goes -/
def SR.unset (i : Nat) : SR → SR
  | .nx ρ => .nx (ρ.set i none)
  | .bk ρ => .bk (ρ.set i none)
  | .ct ρ => .ct (ρ.set i none)
  | .rt o _ => .rt o []
  | _ => .stuck
@[simp] theorem unset_nx (i : Nat) (ρ : OEnv) : SR.unset i (.nx ρ) = .nx (ρ.set i none) := rfl
@[simp] theorem unset_bk (i : Nat) (ρ : OEnv) : SR.unset i (.bk ρ) = .bk (ρ.set i none) := rfl
@[simp] theorem unset_ct (i : Nat) (ρ : OEnv) : SR.unset i (.ct ρ) = .ct (ρ.set i none) := rfl
@[simp] theorem unset_rt (i : Nat) (o : O) (ρ : OEnv) : SR.unset i (.rt o ρ) = .rt o [] := rfl
/-- what the body's exception comes to -/
noncomputable def catchA (tb : Str → Option Bool) (i : Nat) (gs : Addr → Str → OEnv → SR) : SR → SR
  | .err c ρ => match tb c with
    | some true => anyA fun a => (gs a c (ρ.set i (some (.fz (excD a c))))).unset i
    | some false => .err c ρ
    | none => .stuck
  | r => r
noncomputable def sTryAs (gb : OEnv → SR) (tb : Str → Option Bool) (i : Nat) (gs : Addr → Str → OEnv → SR) : OEnv → SR := fun ρ => catchA tb i gs (gb ρ)
@[simp] theorem sTryAs_ap (gb : OEnv → SR) (tb : Str → Option Bool) (i : Nat) (gs : Addr → Str → OEnv → SR) (ρ : OEnv) : sTryAs gb tb i gs ρ = catchA tb i gs (gb ρ) := rfl
@[simp] theorem catchA_nx (tb : Str → Option Bool) (i : Nat) (gs : Addr → Str → OEnv → SR) (ρ : OEnv) : catchA tb i gs (.nx ρ) = .nx ρ := rfl
@[simp] theorem catchA_rt (tb : Str → Option Bool) (i : Nat) (gs : Addr → Str → OEnv → SR) (o : O) (ρ : OEnv) : catchA tb i gs (.rt o ρ) = .rt o ρ := rfl
@[simp] theorem catchA_ct (tb : Str → Option Bool) (i : Nat) (gs : Addr → Str → OEnv → SR) (ρ : OEnv) : catchA tb i gs (.ct ρ) = .ct ρ := rfl
@[simp] theorem catchA_bk (tb : Str → Option Bool) (i : Nat) (gs : Addr → Str → OEnv → SR) (ρ : OEnv) : catchA tb i gs (.bk ρ) = .bk ρ := rfl
theorem catchA_hit {tb : Str → Option Bool} {i : Nat} {gs : Addr → Str → OEnv → SR} {c : Str} {ρ : OEnv} {r : SR} (h : tb c = some true) (e : ∀ a, (gs a c (ρ.set i (some (.fz (excD a c))))).unset i = r) : catchA tb i gs (.err c ρ) = r := by
  simp only [catchA, h]
  exact anyA_eq e
/-- a handler's class, and which classes it takes -/
structure HTab (K : PySem.W.Frag) (mg : Str → Option Value) (x : Str) (tb : Str → Option Bool) : Prop where
  ex : ∃ c, mg x = some c ∧ ∀ cn b, tb cn = some b → ∃ C, mg cn = some (.ref C) ∧ PySem.W.exmOne K (.ref C) c = some b
theorem RS.dropN {K : PySem.W.Frag} {F0 H0 F H : Hp} {σ : L2.St} {ρ : OEnv} (r : RS K F0 H0 F H σ ρ) (i : Nat) : RS K F0 H0 F H (σ.set i none) (ρ.set i none) := by
  obtain ⟨fps, s, hs⟩ := r.ex
  obtain ⟨fpr, z1, z2⟩ := s.drop i none
  exact ⟨fpr, z1, hs.sub z2⟩
theorem RS.only {K : PySem.W.Frag} {F0 H0 F H : Hp} {σ : L2.St} {ρ : OEnv} {v : V} {o : O} (r : RS K F0 H0 F H (some v :: σ) (some o :: ρ)) : RS K F0 H0 F H [some v] [some o] := by
  obtain ⟨fp, h1, h2⟩ := r.head
  exact ⟨fp ++ [], .ow h1 .nil, by rw [List.append_nil]; exact h2⟩
section
variable {X : Cx} {W : WX} {body suite : List Stmt} {b₀ : Stmt} {np pos pos' : Pos} {x n : Str} {gb : OEnv → SR} {gs : Addr → Str → OEnv → SR} {tb : Str → Option Bool}
theorem vs_tryAs (i : Nat) (hs : X.stack = X.env :: X.outer) (hf : X.env.frame = some X.env.locals) (hN : X.N.Nodup) (tk : Takes X W) (T : HTab X.K X.mg x tb)
    (hb : ∀ (W' : WX) (pn : List (Addr × Obj)) (xe : Value → Shared → Prop), Takes (X.tr pn xe) W' → PassesOwn (model X.prog X.w) X.A X.env xe → VSs (X.tr pn xe) W' body gb)
    (hsu : ∀ (a : Addr) (oe : Obj) (cn : Str) (C : Addr) (pn : List (Addr × Obj)), X.mg cn = some (.ref C) → Zc (.ref C) none oe → (∃ vs, oe.data = .fields vs) → VSs (X.suite a ((a, oe) :: pn)) W0 (b₀ :: suite) (gs a cn))
    (hi : X.N[i]? = some n := by rfl) (hln : X.env.kindOf n = some .local := by rfl) (hg : Gl X x := by rfl) (hdb : (x == ("__debug__" : Str)) = false := by decide) :
    VS X W (.Try body [.ExceptHandler (some (.Name x np)) (some n) (b₀ :: suite) pos'] [] [] pos) (sTryAs gb tb i gs) := by
  obtain ⟨c, hm, tab⟩ := T.ex
  refine ⟨_, ps_try_as (c := c) (i := i) (tb := fun W' => tVS X W' gb) (ts := fun a cls d => fun D σ H => ∃ cn C, cls = .ref C ∧ d = none ∧ X.mg cn = some (.ref C) ∧ tVS X W0 (gs a cn) D σ H) (Wout := W) hs hf hN hi hln ⟨hg, hdb, .inl hm⟩ tk
    (fun W' pn xe tk' hp => (hb W' pn xe tk' hp).pss) (fun a oe cls d pn hz hfd => ⟨fun pins s σ H D I ⟨cn, C, e1, e2, hmc, h⟩ => by
      subst e1 e2
      exact (hsu a oe cn C pn hmc hz hfd).pss.run pins s σ H D I h⟩), fun D σ H F0 H0 F ρ r pr => ?_⟩
  refine ⟨F0, H0, F, ρ, r, ?_⟩
  unfold sTryAs at pr
  generalize gb ρ = rr at pr ⊢
  cases rr with
  | stuck => exact pr
  | nx ρ' => exact pr
  | bk ρ' => exact pr
  | ct ρ' => exact pr
  | rt o _ => exact pr
  | err cn ρ' =>
    intro σ' H' F' r'
    simp only [catchA] at pr
    cases ht : tb cn with
    | none => rw [ht] at pr; exact pr.elim
    | some b =>
      obtain ⟨C, hC, he⟩ := tab cn b ht
      rw [ht] at pr
      cases b with
      | false =>
        obtain ⟨C', hC', hw⟩ := pr σ' H' F' r'
        exact ⟨C', hC', false, by rw [hC] at hC'; cases hC'; exact he, fun z => (nomatch z), fun _ => hw⟩
      | true =>
        refine ⟨C, hC, true, he, fun _ a na => ⟨cn, C, rfl, rfl, hC, F0, H0, F', _, (r'.consFz (.exc a cn)).put i, ?_⟩, fun z => (nomatch z)⟩
        have ns : anyA (fun a => (gs a cn (ρ'.set i (some (.fz (excD a cn))))).unset i) ≠ .stuck := fun z => by
          simp only [] at pr
          rw [z] at pr
          exact pr
        have ea := anyA_at ns a
        simp only [] at pr
        rw [← ea] at pr
        simp only [excD] at pr
        generalize gs a cn (ρ'.set i (some (.fz (.dict [(.none, .int (a : Int)), (.none, .str cn)])))) = rs at pr ⊢
        cases rs with
        | stuck => exact pr.elim
        | err c ρ => exact pr.elim
        | nx ρ3 => exact fun σ3 H3 F3 r3 => pr _ _ _ (r3.dropN i)
        | bk ρ3 => exact fun σ3 H3 F3 r3 => pr _ _ _ (r3.dropN i)
        | ct ρ3 => exact fun σ3 H3 F3 r3 => pr _ _ _ (r3.dropN i)
        | rt o _ => exact fun v σ3 H3 F3 r3 => pr v [] _ _ r3.only
/-- try: body, except C: suite -/
noncomputable def catchO (tb : Str → Option Bool) (gs : OEnv → SR) : SR → SR
  | .err c ρ => match tb c with
    | some true => (match gs ρ with
      | .err _ _ => .stuck
      | r => r)
    | some false => .err c ρ
    | none => .stuck
  | r => r
noncomputable def sTryO (gb : OEnv → SR) (tb : Str → Option Bool) (gs : OEnv → SR) : OEnv → SR := fun ρ => catchO tb gs (gb ρ)
@[simp] theorem sTryO_ap (gb : OEnv → SR) (tb : Str → Option Bool) (gs : OEnv → SR) (ρ : OEnv) : sTryO gb tb gs ρ = catchO tb gs (gb ρ) := rfl
@[simp] theorem catchO_nx (tb : Str → Option Bool) (gs : OEnv → SR) (ρ : OEnv) : catchO tb gs (.nx ρ) = .nx ρ := rfl
@[simp] theorem catchO_rt (tb : Str → Option Bool) (gs : OEnv → SR) (o : O) (ρ : OEnv) : catchO tb gs (.rt o ρ) = .rt o ρ := rfl
@[simp] theorem catchO_ct (tb : Str → Option Bool) (gs : OEnv → SR) (ρ : OEnv) : catchO tb gs (.ct ρ) = .ct ρ := rfl
@[simp] theorem catchO_bk (tb : Str → Option Bool) (gs : OEnv → SR) (ρ : OEnv) : catchO tb gs (.bk ρ) = .bk ρ := rfl
theorem catchO_hit {tb : Str → Option Bool} {gs : OEnv → SR} {c : Str} {ρ : OEnv} (h : tb c = some true) : catchO tb gs (.err c ρ) = match gs ρ with | .err _ _ => .stuck | r => r := by
  simp only [catchO, h]
theorem vs_tryO {gs : OEnv → SR} (hs : X.stack = X.env :: X.outer) (hf : X.env.frame = some X.env.locals) (tk : Takes X W) (T : HTab X.K X.mg x tb)
    (hb : ∀ (W' : WX) (pn : List (Addr × Obj)) (xe : Value → Shared → Prop), Takes (X.tr pn xe) W' → PassesOwn (model X.prog X.w) X.A X.env xe → VSs (X.tr pn xe) W' body gb)
    (hsu : ∀ (a : Addr) (oe : Obj) (pn : List (Addr × Obj)), VSs (X.suite a ((a, oe) :: pn)) W0 (b₀ :: suite) gs)
    (hg : Gl X x := by rfl) (hdb : (x == ("__debug__" : Str)) = false := by decide) :
    VS X W (.Try body [.ExceptHandler (some (.Name x np)) none (b₀ :: suite) pos'] [] [] pos) (sTryO gb tb gs) := by
  obtain ⟨c, hm, tab⟩ := T.ex
  refine ⟨_, ps_try_only (c := c) (tb := fun W' => tVS X W' gb) (ts := fun a cls d => tVS X W0 gs) (Wout := W) hs hf ⟨hg, hdb, .inl hm⟩ tk
    (fun W' pn xe tk' hp => (hb W' pn xe tk' hp).pss) (fun a oe cls d pn hz hfd => (hsu a oe pn).pss), fun D σ H F0 H0 F ρ r pr => ?_⟩
  refine ⟨F0, H0, F, ρ, r, ?_⟩
  unfold sTryO at pr
  generalize gb ρ = rr at pr ⊢
  cases rr with
  | stuck => exact pr
  | nx ρ' => exact pr
  | bk ρ' => exact pr
  | ct ρ' => exact pr
  | rt o _ => exact pr
  | err cn ρ' =>
    intro σ' H' F' r'
    simp only [catchO] at pr
    cases ht : tb cn with
    | none => rw [ht] at pr; exact pr.elim
    | some b =>
      obtain ⟨C, hC, he⟩ := tab cn b ht
      rw [ht] at pr
      cases b with
      | false =>
        obtain ⟨C', hC', hw⟩ := pr σ' H' F' r'
        exact ⟨C', hC', false, by rw [hC] at hC'; cases hC'; exact he, fun z => (nomatch z), fun _ => hw⟩
      | true =>
        refine ⟨C, hC, true, he, fun _ a na => ⟨F0, H0, F', _, r', ?_⟩, fun z => (nomatch z)⟩
        simp only [] at pr
        generalize gs ρ' = rs at pr ⊢
        cases rs with
        | stuck => exact pr.elim
        | err c ρ => exact pr.elim
        | nx ρ3 => exact pr
        | bk ρ3 => exact pr
        | ct ρ3 => exact pr
        | rt o _ => exact pr
end
/-! ### isinstance of the caught exception -/
def vIsE (a : Addr) (cn : Str) (tb : Str → Option Bool) : PyData → R PyData
  | .dict [(.none, .int a'), (.none, .str c')] => if a' = (a : Int) ∧ c' = cn then (match tb cn with | some b => .ok (.bool b) | none => .stuck) else .stuck
  | _ => .stuck
@[simp] theorem vIsE_ap (a : Addr) (cn : Str) (tb : Str → Option Bool) : vIsE a cn tb (excD a cn) = match tb cn with | some b => .ok (.bool b) | none => .stuck := by
  simp [vIsE, excD]
/-- the answers of isinstance(e, x) for the classes that tb tells of -/
structure ITab (K : PySem.W.Frag) (mg : Str → Option Value) (x : Str) (cv : Value) (tb : Str → Option Bool) : Prop where
  kt : ∀ cn D b, mg cn = some (.ref D) → tb cn = some b → ExcC K D ∧ PySem.W.kitOne K (.ref D) cv = some b
theorem kit_ref {K : PySem.W.Frag} {t : Value} {C : Addr} {b : Bool} (hd : PySem.W.hasDictIn K C = true) (ht : PySem.W.typeIn K (.ref C) = some (.type "type")) (hs : PySem.W.subIn K t (.ref C) = some b) (hn : (t == .ref C) = false ∨ b = true) : PySem.W.kitOne K t (.ref C) = some b := by
  obtain ⟨cd, hc, _⟩ := PySem.W.any_some hd
  have e : ((PySem.W.clsIn K C).isSome && PySem.W.typeIn K (.ref C) == some (.type "type")) = true := by rw [hc, ht]; rfl
  have e2 : PySem.W.kitCls K t (.ref C) = some b := by
    show (if ((PySem.W.clsIn K C).isSome && PySem.W.typeIn K (.ref C) == some (.type "type")) = true then PySem.W.subIn K t (.ref C) else none) = some b
    rw [if_pos e]; exact hs
  unfold PySem.W.kitOne
  split
  · rename_i h
    rcases hn with hn | hn
    · rw [h] at hn; cases hn
    · rw [hn]
  · exact e2
theorem kit_type {K : PySem.W.Frag} {t : Value} {T : String} {b : Bool} (hm : PySem.W.kitMeta T = true) (hs : PySem.W.subIn K t (.type T) = some b) (hn : (t == .type T) = false) : PySem.W.kitOne K t (.type T) = some b := by
  unfold PySem.W.kitOne
  rw [hn]
  show (if PySem.W.kitMeta T = true then PySem.W.subIn K t (.type T) else none) = some b
  rw [if_pos hm]; exact hs
def orT (f g : Str → Option Bool) : Str → Option Bool := fun c => match f c with
  | some true => some true
  | some false => g c
  | none => none
theorem tab_of {P : Str → Bool → Prop} {l : List (Str × Bool)} (h : ∀ p ∈ l, P p.1 p.2) : ∀ cn b, l.lookup cn = some b → P cn b := by
  induction l with
  | nil => intro cn b e; cases e
  | cons p l ih =>
    intro cn b e
    rw [List.lookup_cons] at e
    split at e
    · rename_i hb
      cases e
      rw [show cn = p.1 from by simpa using hb]
      exact h p List.mem_cons_self
    · exact ih (fun q hq => h q (List.mem_cons_of_mem _ hq)) cn b e
section
variable {X : Cx} {W : WX} {a : Addr} {oe : Obj} {pn : List (Addr × Obj)} {C : Addr} {cn : Str} {ea : Expr} {fa : PEnv → R PyData}
theorem pe_never {X : Cx} {e : Expr} : PE X e (fun _ _ _ => False) := ⟨fun _ _ _ _ _ _ h => h.elim⟩
theorem KS.no_none (ks : KS) : ∀ k ∈ ks.data, k ≠ .none := by
  cases ks with
  | inl ks =>
    intro k hk
    obtain ⟨q, _, rfl⟩ := List.mem_map.mp hk
    cases q <;> (intro z; cases z)
  | inr ks =>
    intro k hk
    obtain ⟨q, _, rfl⟩ := List.mem_map.mp hk
    intro z; cases z
theorem vIsE_dct (ks : KS) (ds : List PyData) (tb : Str → Option Bool) : vIsE a cn tb (.dict (ks.data.zip ds)) = .stuck := by
  cases hk : ks.data with
  | nil => rfl
  | cons k kk =>
    have hn : k ≠ .none := ks.no_none k (by rw [hk]; exact List.mem_cons_self)
    cases ds with
    | nil => rfl
    | cons d ds =>
      unfold vIsE
      split
      · rename_i h
        simp at h
        exact absurd h.1.1 hn
      · rfl
theorem is_excD {K : PySem.W.Frag} {F : Hp} {v : V} {d : PyData} {tb : Str → Option Bool} (h : Is K F v d) (hd : vIsE a cn tb d ≠ .stuck) : v = .ref a ∧ ∃ b, tb cn = some b ∧ vIsE a cn tb d = .ok (.bool b) := by
  cases h <;> first | exact absurd rfl hd | exact absurd (vIsE_dct _ _ _) hd | skip
  rename_i a' c'
  simp only [vIsE] at hd ⊢
  split at hd
  · rename_i hh
    obtain ⟨h1, rfl⟩ := hh
    have : a' = a := Int.ofNat_inj.mp h1
    subst this
    refine ⟨rfl, ?_⟩
    cases ht : tb c' with
    | none => rw [ht] at hd; exact absurd rfl hd
    | some b => exact ⟨b, rfl, by simp⟩
  · exact absurd rfl hd
/-- one class -/
theorem visE (i : Nat) {x : Str} {cv : Value} {vv : V} {tb : Str → Option Bool} {p p2 pos : Pos} (hmc : X.mg cn = some (.ref C)) (hz : Zc (.ref C) none oe) (hf : ∃ vs, oe.data = .fields vs) (T : ITab X.K X.mg x cv tb) (pc : ∀ {p2 : Pos}, PE (X.suite a ((a, oe) :: pn)) (.Name x p2) (tC vv)) (hv : ∀ u, RelV vv u → u = cv)
    (hm : X.mg "isinstance" = none) (ha : VE (X.suite a ((a, oe) :: pn)) W ea (vVar i)) (hg : Gl X "isinstance" := by rfl)
    (he : starEach [ea, .Name x p2] X.env = (false, eval ea X.env) :: starEach [.Name x p2] X.env := by rfl) (he2 : starEach [.Name x p2] X.env = (false, eval (.Name x p2) X.env) :: starEach [] X.env := by rfl) (hpl : (backTo pos (starEach [.Name x p2] X.env)).any (·.1) = false := by rfl) :
    VE (X.suite a ((a, oe) :: pn)) W (.Call (.Name "isinstance" p) [ea, .Name x p2] [] pos) (v1 (vIsE a cn tb) (vVar i)) := by
  obtain ⟨ta, pa, qa⟩ := ha.ex
  cases ht : tb cn with
  | none =>
    refine VE.mk' pe_never fun σ H B ρ Q s rf pr => ?_
    have e : v1 (vIsE a cn tb) (vVar i) ρ = .stuck := by
      unfold v1 vVar
      split
      · rename_i d _
        simp only [R.bind_ok]
        unfold vIsE
        split
        · simp [ht]
        · rfl
      · rfl
    rw [e] at pr
    exact pr
  | some b =>
    obtain ⟨ec, ek⟩ := T.kt cn C b hmc ht
    refine VE.mk' (pe_callB (X := X.suite a ((a, oe) :: pn)) (call_isE ec hz hf) hg hm (by decide +kernel) (pa_cons pa (pa_cons pc pa_nil he2) he) (by decide) (by decide) he hpl) fun σ H B ρ Q s rf pr => ?_
    refine one qa s rf pr fun d v H' B' ex sm dx pg => ?_
    have h0 : vIsE a cn tb d ≠ .stuck := fun z => by rw [z] at pg; exact pg
    obtain ⟨rfl, b', hb', e'⟩ := is_excD dx h0
    rw [ht] at hb'
    cases hb'
    rw [e'] at pg
    exact ⟨vv, cv, b, rfl, hv, ek, pg _ H' B' ex (.bl _)⟩
/-- an own class x at A -/
theorem visE_own (i : Nat) {x : Str} {A : Addr} {tb : Str → Option Bool} {p p2 pos : Pos} (hmc : X.mg cn = some (.ref C)) (hz : Zc (.ref C) none oe) (hf : ∃ vs, oe.data = .fields vs) (T : ITab X.K X.mg x (.ref A) tb) (hx : X.mg x = some (.ref A))
    (hm : X.mg "isinstance" = none) (ha : VE (X.suite a ((a, oe) :: pn)) W ea (vVar i)) (hg : Gl X "isinstance" := by rfl) (hgx : Gl X x := by rfl) (hdb : (x == ("__debug__" : Str)) = false := by decide)
    (he : starEach [ea, .Name x p2] X.env = (false, eval ea X.env) :: starEach [.Name x p2] X.env := by rfl) (he2 : starEach [.Name x p2] X.env = (false, eval (.Name x p2) X.env) :: starEach [] X.env := by rfl) (hpl : (backTo pos (starEach [.Name x p2] X.env)).any (·.1) = false := by rfl) :
    VE (X.suite a ((a, oe) :: pn)) W (.Call (.Name "isinstance" p) [ea, .Name x p2] [] pos) (v1 (vIsE a cn tb) (vVar i)) :=
  visE i hmc hz hf T (pe_glob (X := X.suite a ((a, oe) :: pn)) (v := .ref A) hgx hx rfl hdb) (fun u h => h) hm ha hg he he2 hpl
/-- a built-in class -/
theorem visE_blt (i : Nat) {x : Str} {A : String} {tb : Str → Option Bool} {p p2 pos : Pos} (hmc : X.mg cn = some (.ref C)) (hz : Zc (.ref C) none oe) (hf : ∃ vs, oe.data = .fields vs) (T : ITab X.K X.mg x (.type A) tb) (hx : X.mg x = none) (hv : bootBuiltins x = some (.type A))
    (hm : X.mg "isinstance" = none) (ha : VE (X.suite a ((a, oe) :: pn)) W ea (vVar i)) (hg : Gl X "isinstance" := by rfl) (hgx : Gl X x := by rfl) (hdb : (x == ("__debug__" : Str)) = false := by decide) (hn : x ≠ "__name__" := by decide)
    (he : starEach [ea, .Name x p2] X.env = (false, eval ea X.env) :: starEach [.Name x p2] X.env := by rfl) (he2 : starEach [.Name x p2] X.env = (false, eval (.Name x p2) X.env) :: starEach [] X.env := by rfl) (hpl : (backTo pos (starEach [.Name x p2] X.env)).any (·.1) = false := by rfl) :
    VE (X.suite a ((a, oe) :: pn)) W (.Call (.Name "isinstance" p) [ea, .Name x p2] [] pos) (v1 (vIsE a cn tb) (vVar i)) :=
  visE i hmc hz hf T (pe_bltn (X := X.suite a ((a, oe) :: pn)) (v := .ty A) hgx hx hv rfl hn hdb) (fun u h => h) hm ha hg he he2 hpl
/-- isinstance(e, (c1, c2, ..)) of the suite's exception -/
def rIsEs (K : PySem.W.Frag) (D a : Addr) : List V → Hp → VK → Prop := fun xs H Q => ∃ (tp : Addr) (cs : List V) (us : List Value) (b : Bool), xs = [.ref a, .ref tp] ∧ H tp = some (.tup cs) ∧ Paired ClsV cs us ∧ PySem.W.kitAny K (.ref D) us = some b ∧ Q (.bl b) H
theorem call_isEs {D : Addr} (E : ExcC X.K D) (hz : Zc (.ref D) none oe) (hf : ∃ vs, oe.data = .fields vs) : CallR (X.suite a ((a, oe) :: pn)) (.builtin "isinstance") (rIsEs X.K D a) := by
  intro pins s σ H xs us Q J rv hh
  obtain ⟨tp, cs, ws, b, rfl, hT, k, e, q⟩ := hh
  obtain ⟨u1, u2, rfl, r1, r2⟩ := vals2 rv
  cases (show u2 = Value.ref tp from r2)
  cases (show u1 = Value.ref a from r1)
  obtain ⟨hget, _⟩ := J.pin (a, oe) (List.mem_append.mpr (.inl List.mem_cons_self))
  obtain ⟨vs, hv⟩ := hf
  have Z : PySem.W.InstAt s.heap a oe D none := by
    obtain ⟨oc, od, oda, osl⟩ := oe
    obtain ⟨h1, h2⟩ := hz
    dsimp only at h1 h2 hv
    subst h1 h2 hv
    exact ⟨hget, rfl, rfl, trivial⟩
  obtain ⟨_, its, rv', o, h1, h2, n, h3⟩ := (show ObjOk X.prog X.w H s.heap tp (.tup cs) from J.hok tp _ hT)
  have e3 := ClsV.all k rv'
  subst e3
  obtain ⟨oc, od, dt, sl⟩ := o
  simp only at h2 h3
  subst h2 h3
  exact PySem.W.kia_tup (PySem.W.handS_kitx_exc E.hg E.hk E.hs E.hd E.ha E.hn E.ht E.hm) J.kIn Z h1 e (fun z => nomatch z) fun tk => ⟨.bl b, H, J.kept (t' := tk) fun _ _ z => z, rfl, q⟩
/-- two own classes -/
theorem visE_two (i : Nat) {x y : Str} {A1 A2 : Addr} {tb tb2 : Str → Option Bool} {p p1 p2 p3 pos : Pos} {k : Nat} (hmc : X.mg cn = some (.ref C)) (hz : Zc (.ref C) none oe) (hf : ∃ vs, oe.data = .fields vs) (T : ITab X.K X.mg x (.ref A1) tb) (hx : X.mg x = some (.ref A1)) (T2 : ITab X.K X.mg y (.ref A2) tb2) (hy : X.mg y = some (.ref A2))
    (hm : X.mg "isinstance" = none) (ha : VE (X.suite a ((a, oe) :: pn)) W ea (vVar i)) (hg : Gl X "isinstance" := by rfl) (hgx : Gl X x := by rfl) (hdb : (x == ("__debug__" : Str)) = false := by decide) (hgy : Gl X y := by rfl) (hdy : (y == ("__debug__" : Str)) = false := by decide)
    (he : starEach [ea, .Tuple [.Name x p1, .Name y p2] k p3] X.env = (false, eval ea X.env) :: starEach [.Tuple [.Name x p1, .Name y p2] k p3] X.env := by rfl) (he2 : starEach [.Tuple [.Name x p1, .Name y p2] k p3] X.env = (false, eval (.Tuple [.Name x p1, .Name y p2] k p3) X.env) :: starEach [] X.env := by rfl) (hpl : (backTo pos (starEach [.Tuple [.Name x p1, .Name y p2] k p3] X.env)).any (·.1) = false := by rfl)
    (s1 : starEach [.Name x p1, .Name y p2] X.env = (false, eval (.Name x p1) X.env) :: starEach [.Name y p2] X.env := by rfl) (s2 : starEach [.Name y p2] X.env = (false, eval (.Name y p2) X.env) :: starEach [] X.env := by rfl) :
    VE (X.suite a ((a, oe) :: pn)) W (.Call (.Name "isinstance" p) [ea, .Tuple [.Name x p1, .Name y p2] k p3] [] pos) (v1 (vIsE a cn (orT tb tb2)) (vVar i)) := by
  obtain ⟨ta, pa, qa⟩ := ha.ex
  have stk : orT tb tb2 cn = none → ∀ ρ, v1 (vIsE a cn (orT tb tb2)) (vVar i) ρ = .stuck := fun ht ρ => by
    unfold v1 vVar
    split
    · rename_i d _
      simp only [R.bind_ok]
      unfold vIsE
      split
      · simp [ht]
      · rfl
    · rfl
  cases ht : orT tb tb2 cn with
  | none =>
    refine VE.mk' pe_never fun σ H B ρ Q s rf pr => ?_
    rw [stk ht ρ] at pr
    exact pr
  | some b =>
    have key : ∃ ec : ExcC X.K C, PySem.W.kitAny X.K (.ref C) [.ref A1, .ref A2] = some b := by
      unfold orT at ht
      split at ht
      · rename_i h1
        obtain ⟨ec, ek⟩ := T.kt cn C true hmc h1
        cases ht
        exact ⟨ec, by simp only [PySem.W.kitAny, ek]⟩
      · rename_i h1
        obtain ⟨ec, ek⟩ := T.kt cn C false hmc h1
        obtain ⟨_, ek2⟩ := T2.kt cn C b hmc ht
        refine ⟨ec, ?_⟩
        cases b <;> simp only [PySem.W.kitAny, ek, ek2]
      · cases ht
    obtain ⟨ec, ek⟩ := key
    have p1' : PE (X.suite a ((a, oe) :: pn)) (.Name x p1) (tC (.ref A1)) := pe_glob (X := X.suite a ((a, oe) :: pn)) (v := .ref A1) hgx hx rfl hdb
    have p2' : PE (X.suite a ((a, oe) :: pn)) (.Name y p2) (tC (.ref A2)) := pe_glob (X := X.suite a ((a, oe) :: pn)) (v := .ref A2) hgy hy rfl hdy
    refine VE.mk' (pe_callB (X := X.suite a ((a, oe) :: pn)) (call_isEs ec hz hf) hg hm (by decide +kernel) (pa_cons pa (pa_cons (pe_tup (pa_cons p1' (pa_cons p2' pa_nil s2) s1)) pa_nil he2) he) (by decide) (by decide) he hpl) fun σ H B ρ Q s rf pr => ?_
    refine one qa s rf pr fun d v H' B' ex sm dx pg => ?_
    have h0 : vIsE a cn (orT tb tb2) d ≠ .stuck := fun z => by rw [z] at pg; exact pg
    obtain ⟨rfl, b', hb', e'⟩ := is_excD dx h0
    rw [ht] at hb'
    cases hb'
    rw [e'] at pg
    refine ⟨Nat.le_of_ble_eq_true rfl, fun q hq => ?_⟩
    exact ⟨q, [.ref A1, .ref A2], [.ref A1, .ref A2], b, rfl, upd_same, .cons (.own A1) (.cons (.own A2) .nil), ek, pg _ _ _ (ex.trans (Ext.new ex.bh hq)) (.bl _)⟩
end
end VL

namespace VL
open PySem PySem.Spec PyProof.Rows
theorem vInT_ok {m n : Nat} {d : PyData} {ds : List PyData} (h : okS m d) (g : okS n (.tuple ds)) (hm : m ≤ 64 := by decide) (hn : n ≤ 64 := by decide) : vInT d (.tuple ds) = .ok (.bool (ds.any fun z => PyData.eqv z d)) := if_pos ⟨h.shaped hm, g.shaped hn⟩
theorem vNotInT_ok {m n : Nat} {d : PyData} {ds : List PyData} (h : okS m d) (g : okS n (.tuple ds)) (hm : m ≤ 64 := by decide) (hn : n ≤ 64 := by decide) : vNotInT d (.tuple ds) = .ok (.bool (!ds.any fun z => PyData.eqv z d)) := if_pos ⟨h.shaped hm, g.shaped hn⟩
theorem vin_ok {m n : Nat} {d : PyData} {ds : List PyData} (h : okS m d) (g : okS n (.list ds)) (hm : m ≤ 64 := by decide) (hn : n ≤ 64 := by decide) : vin d (.list ds) = .ok (ds.any fun z => PyData.eqv z d) := if_pos ⟨h.shaped hm, g.shaped hn⟩
theorem vIn_ok {m n : Nat} {d : PyData} {ds : List PyData} (h : okS m d) (g : okS n (.list ds)) (hm : m ≤ 64 := by decide) (hn : n ≤ 64 := by decide) : vIn d (.list ds) = .ok (.bool (ds.any fun z => PyData.eqv z d)) := by
  unfold vIn; rw [vin_ok h g hm hn]; rfl
theorem vNotIn_ok {m n : Nat} {d : PyData} {ds : List PyData} (h : okS m d) (g : okS n (.list ds)) (hm : m ≤ 64 := by decide) (hn : n ≤ 64 := by decide) : vNotIn d (.list ds) = .ok (.bool (!ds.any fun z => PyData.eqv z d)) := by
  unfold vNotIn; rw [vin_ok h g hm hn]; rfl
@[simp] theorem vcut_list (lo hi : Option Int) (xs : List PyData) : vcut lo hi (.list xs) = .ok (.list (cutL xs lo hi)) := rfl
@[simp] theorem vcut_tuple (lo hi : Option Int) (xs : List PyData) : vcut lo hi (.tuple xs) = .ok (.tuple (cutL xs lo hi)) := rfl
theorem cut_from (xs : List PyData) (k : Nat) : cutL xs (some (k : Int)) none = xs.drop k := by
  unfold cutL
  rw [HT.sIx_nat, HT.sIx_none]
  by_cases h : k ≤ xs.length
  · rw [Nat.min_eq_left h, List.take_of_length_le (by rw [List.length_drop]; omega)]
  · rw [Nat.min_eq_right (by omega), List.drop_length, List.drop_of_length_le (by omega), List.take_nil]
theorem cut_to (xs : List PyData) (k : Nat) : cutL xs none (some (k : Int)) = xs.take k := by
  unfold cutL
  rw [HT.sIx_nat, HT.sIx_none, List.drop_zero, Nat.sub_zero]
  by_cases h : k ≤ xs.length
  · rw [Nat.min_eq_left h]
  · rw [Nat.min_eq_right (by omega), List.take_of_length_le (Nat.le_refl _), List.take_of_length_le (by omega)]
theorem cut_mid (xs : List PyData) (j k : Nat) : cutL xs (some (j : Int)) (some (k : Int)) = (xs.drop j).take (k - j) := by
  unfold cutL
  rw [HT.sIx_nat, HT.sIx_nat]
  by_cases h : j ≤ xs.length
  · rw [Nat.min_eq_left h]
    by_cases h2 : k ≤ xs.length
    · rw [Nat.min_eq_left h2]
    · rw [Nat.min_eq_right (by omega), List.take_of_length_le (by rw [List.length_drop]; omega), List.take_of_length_le (by rw [List.length_drop]; omega)]
  · rw [show min j xs.length = xs.length by omega, List.drop_length, List.drop_of_length_le (show xs.length ≤ j by omega), List.take_nil, List.take_nil]
theorem mem_cut {xs : List PyData} {lo hi : Option Int} {x : PyData} (h : x ∈ cutL xs lo hi) : x ∈ xs := List.mem_of_mem_drop (List.mem_of_mem_take h)
theorem len_cut (xs : List PyData) (lo hi : Option Int) : (cutL xs lo hi).length ≤ xs.length := by
  unfold cutL
  rw [List.length_take, List.length_drop]
  omega
@[simp] theorem cut_1 (x : PyData) (xs : List PyData) : cutL (x :: xs) (some 1) none = xs := cut_from (x :: xs) 1
theorem okS.mono : ∀ {m n : Nat} {d : PyData}, m ≤ n → okS m d → okS n d
  | 0, _, _, _, h => h.elim
  | _ + 1, 0, _, hl, _ => absurd hl (by omega)
  | m + 1, n + 1, .none, _, _ => trivial
  | m + 1, n + 1, .bool _, _, _ => trivial
  | m + 1, n + 1, .int _, _, _ => trivial
  | m + 1, n + 1, .str _, _, h => h
  | m + 1, n + 1, .list xs, hl, h => ⟨h.1, fun x hx => okS.mono (by omega) (h.2 x hx)⟩
  | m + 1, n + 1, .tuple xs, hl, h => ⟨h.1, fun x hx => okS.mono (by omega) (h.2 x hx)⟩
  | m + 1, n + 1, .dict _, _, h => h.elim
end VL

namespace VL
open PySem PySem.Spec PyProof.Rows L2
/-! ### x.extend(a new list of one's own), x.reverse() -/
theorem RS.glue {K : PySem.W.Frag} {F0 H0 F H : Hp} {σ : L2.St} {ρ : OEnv} {y : V} {i : Nat} {os os2 : List O} (r : RS K F0 H0 F H (some y :: σ) (some (.lst os2) :: ρ)) (ei : ρ[i]? = some (some (.lst os))) :
    ∃ a vs b zs, σ[i]? = some (some (.ref a)) ∧ H a = some (.lst vs) ∧ vs.length = os.length ∧ y = .ref b ∧ H b = some (.lst zs) ∧ zs.length = os2.length ∧ RS K F0 H0 F (upd H a (.lst (vs ++ zs))) σ (ρ.set i (some (.lst (os ++ os2)))) := by
  obtain ⟨fps, sl, hs⟩ := r.ex
  cases sl with
  | @ow _ _ fpo _ _ fpt h1 s =>
    obtain ⟨v, fp, fpr, e1, e2, e3, e4, e5⟩ := s.split ei
    cases h1 with
    | @lst b zs _ fpb hb hlb =>
    cases e2 with
    | @lst a vs _ fpi ha hl =>
      refine ⟨a, vs, b, zs, e1, ha, hl.len, rfl, hb, hlb.len, ?_⟩
      have hp : Hs F0 H0 F H ((b :: fpb) ++ ((a :: fpi) ++ fpr)) := hs.perm (List.Perm.append_left (b :: fpb) e3)
      have hp1 : Hs F0 H0 F H (fpb ++ ((a :: fpi) ++ fpr)) := hp.sub (List.sublist_cons_self b _)
      have nd := List.nodup_append.mp hp1.nd
      have nd2 := List.nodup_append.mp nd.2.1
      have na_b : a ∉ fpb := fun m => nd.2.2 a m a (List.mem_append_left _ List.mem_cons_self) rfl
      have na_i : a ∉ fpi := (List.nodup_cons.mp nd2.1).1
      have na_r : a ∉ fpr := fun m => nd2.2.2 a List.mem_cons_self a m rfl
      have hk : ∀ c, c ≠ a → upd H a (.lst (vs ++ zs)) c = H c := fun c hc => upd_ne hc
      have l1 : OwnL K F (upd H a (.lst (vs ++ zs))) vs os fpi := hl.keep (Same.refl F) fun c hc => hk c fun e => na_i (e ▸ hc)
      have l2 : OwnL K F (upd H a (.lst (vs ++ zs))) zs os2 fpb := hlb.keep (Same.refl F) fun c hc => hk c fun e => na_b (e ▸ hc)
      obtain ⟨fps', w1, w2⟩ := e5 F (upd H a (.lst (vs ++ zs))) (.ref a) (.lst (os ++ os2)) (a :: (fpi ++ fpb)) (.lst upd_same (OwnL.append l1 l2)) (Same.refl F) fun c hc => hk c fun e => na_r (e ▸ hc)
      rw [set_same e1] at w1
      have an : F a = none ∧ H0 a = none := hp1.ow a (List.mem_append_right _ (List.mem_append_left _ List.mem_cons_self))
      have base : Hs F0 H0 F (upd H a (.lst (vs ++ zs))) (fpb ++ ((a :: fpi) ++ fpr)) := ⟨hp1.nd, hp1.ow, fun c u q => by
        rw [hk c (fun e => by rw [e, an.1] at q; cases q)]; exact hp1.fh _ _ q, hp1.f0, fun c u q => by
        rw [hk c (fun e => by rw [e, an.2] at q; cases q)]; exact hp1.h0 _ _ q, hp1.nw⟩
      have p1 : (fpb ++ ((a :: fpi) ++ fpr)).Perm ((a :: (fpi ++ fpb)) ++ fpr) := by
        have : (fpb ++ ((a :: fpi) ++ fpr)).Perm (((a :: fpi) ++ fpb) ++ fpr) := by
          rw [← List.append_assoc]
          exact List.Perm.append_right _ List.perm_append_comm
        simpa using this
      exact ⟨fps', w1, (base.perm p1).perm w2.symm⟩
section
variable {X : Cx} {W : WX} {a b c e : Expr} {pos : Pos} {fa fb fc : PEnv → R PyData} {ho : OEnv → R (O × OEnv)} {k : Nat}
/-- x.extend(e) -/
def sExt (i : Nat) (h : OEnv → R (O × OEnv)) : OEnv → SR := fun ρ => match ρ[i]? with
  | some (some (.lst _)) => (h ρ).sr ρ fun p => match p.1, p.2[i]? with
    | .lst os2, some (some (.lst os)) => if os.length + os2.length ≤ sizeLine then .nx (p.2.set i (some (.lst (os ++ os2)))) else .stuck
    | _, _ => .stuck
  | _ => .stuck
theorem vs_ext (i : Nat) {x : Str} {p1 p2 p3 : Pos} (mk : ∀ {t : TE}, PE X e t → PE X (.Call (.Attribute (.Name x p1) "extend" p2) [e] [] p3) (tBM X.K "list" rExtend (tVar i) (tCons t tNil))) (he : VO X W e ho)
    (hs : swapsWith (.Call (.Attribute (.Name x p1) "extend" p2) [e] [] p3) none pos.line X.env = pure false := by rfl) :
    VS X W (.Expr (.Call (.Attribute (.Name x p1) "extend" p2) [e] [] p3) pos) (sExt i ho) := by
  obtain ⟨t, p, q⟩ := he.ex
  refine ⟨_, ps_expr (mk p) hs, fun D σ H F0 H0 F ρ r pr => ?_⟩
  unfold sExt at pr
  split at pr
  · rename_i os0 e0
    obtain ⟨fps, sl, hss⟩ := r.ex
    obtain ⟨v, fp, fpr, e1, e2, e3, e4, e5⟩ := sl.split e0
    cases e2 with
    | @lst ad vs _ fpi ha hl =>
      refine ⟨.ref ad, e1, .inl ⟨rfl, _, .inl (.inl ha)⟩, ?_⟩
      refine q σ H F0 H0 F ρ _ r (sr_pst r pr fun o po y H' F' r' => ?_)
      obtain ⟨o1, ρ1⟩ := o
      simp only at po r'
      split at po
      · rename_i os2 os e9 eo
        split at po
        · rename_i hz
          obtain ⟨ad', vs', b', zs, e6, e7, e8, rfl, e10, e11, r2⟩ := r'.glue eo
          rw [e1] at e6
          cases e6
          exact ⟨ad, b', vs', zs, rfl, rfl, e7, e10, by rw [e8, e11]; exact hz, po _ _ _ r2⟩
        · exact po.elim
      · exact po.elim
  · exact pr.elim
theorem OwnL.rev {K : PySem.W.Frag} {F H : Hp} : ∀ {os : List O} {vs : List V} {fp : List Addr}, OwnL K F H vs os fp → ∃ fp', OwnL K F H vs.reverse os.reverse fp' ∧ fp'.Perm fp
  | [], _, _, h => by cases h; exact ⟨[], .nil, .refl _⟩
  | o :: os, _, _, h => by
    cases h with
    | @cons v vs _ _ f1 f2 h1 h2 =>
      obtain ⟨f3, z1, z2⟩ := OwnL.rev h2
      rw [List.reverse_cons, List.reverse_cons]
      exact ⟨f3 ++ (f1 ++ []), OwnL.append z1 (.cons h1 .nil), by rw [List.append_nil]; exact (List.Perm.append_right f1 z2).trans List.perm_append_comm⟩
/-! ### max, min of three ints -/
def vmax3 : List PyData → R PyData
  | [.int i, .int j, .int k] => .ok (.int (max (max i j) k))
  | _ => .stuck
def vmin3 : List PyData → R PyData
  | [.int i, .int j, .int k] => .ok (.int (min (min i j) k))
  | _ => .stuck
theorem rc_max3 : RuleC X W (rNuC3 nuMax3) vmax3 := fun ds vs σ H B Q s dx p => by
  have h0 : vmax3 ds ≠ .stuck := fun z => by rw [z] at p; exact p
  match ds, h0 with
  | [.int i, .int j, .int k], _ =>
    cases dx with
    | cons h1 dx => cases dx with
      | cons h2 dx => cases dx with
        | cons h3 dx =>
          cases dx; cases h1; cases h2; cases h3
          refine ⟨.int i, .int j, .int k, .int (max (max i j) k), rfl, ?_, p _ H B (.refl s) (.int _)⟩
          have e : ∀ i j : Int, nuMax2 (.int i) (.int j) = some (.int (max i j)) := fun i j => by
            show some (if decide (i < j) = true then V.int j else V.int i) = _
            by_cases h : i < j
            · simp [h, show max i j = j by omega]
            · simp [h, show max i j = i by omega]
          unfold nuMax3
          rw [e, Option.bind_some, e]
theorem rc_min3 : RuleC X W (rNuC3 nuMin3) vmin3 := fun ds vs σ H B Q s dx p => by
  have h0 : vmin3 ds ≠ .stuck := fun z => by rw [z] at p; exact p
  match ds, h0 with
  | [.int i, .int j, .int k], _ =>
    cases dx with
    | cons h1 dx => cases dx with
      | cons h2 dx => cases dx with
        | cons h3 dx =>
          cases dx; cases h1; cases h2; cases h3
          refine ⟨.int i, .int j, .int k, .int (min (min i j) k), rfl, ?_, p _ H B (.refl s) (.int _)⟩
          have e : ∀ i j : Int, nuMin2 (.int i) (.int j) = some (.int (min i j)) := fun i j => by
            show some (if decide (j < i) = true then V.int j else V.int i) = _
            by_cases h : j < i
            · simp [h, show min i j = j by omega]
            · simp [h, show min i j = i by omega]
          unfold nuMin3
          rw [e, Option.bind_some, e]
theorem vmax3_ {f : PEnv → R (List D)} {p : Pos} {e : Expr} {es : List Expr} (hc : X.calm = true) (hm : X.mg "max" = none) (ha : VA X W (e :: es) f) (hg : Gl X "max" := by rfl) (he : starEach (e :: es) X.env = (false, eval e X.env) :: starEach es X.env := by rfl) (hpl : (backTo pos (starEach es X.env)).any (·.1) = false := by rfl) :
    VE X W (.Call (.Name "max" p) (e :: es) [] pos) (vapp vmax3 f) := vcB (call_max3Nu hc) rc_max3 hm (by decide +kernel) ha hg (by decide) (by decide) he hpl
theorem vmin3_ {f : PEnv → R (List D)} {p : Pos} {e : Expr} {es : List Expr} (hc : X.calm = true) (hm : X.mg "min" = none) (ha : VA X W (e :: es) f) (hg : Gl X "min" := by rfl) (he : starEach (e :: es) X.env = (false, eval e X.env) :: starEach es X.env := by rfl) (hpl : (backTo pos (starEach es X.env)).any (·.1) = false := by rfl) :
    VE X W (.Call (.Name "min" p) (e :: es) [] pos) (vapp vmin3 f) := vcB (call_min3Nu hc) rc_min3 hm (by decide +kernel) ha hg (by decide) (by decide) he hpl
@[simp] theorem vmax3_ap (i j k : Int) : vmax3 [.int i, .int j, .int k] = .ok (.int (max (max i j) k)) := rfl
@[simp] theorem vmin3_ap (i j k : Int) : vmin3 [.int i, .int j, .int k] = .ok (.int (min (min i j) k)) := rfl
/-! ### new lists: a + b, a[i:j] -/
def lcat : PyData → PyData → R (List PyData)
  | .list xs, .list ys => if xs.length + ys.length ≤ sizeLine then .ok (xs ++ ys) else .stuck
  | _, _ => .stuck
def fcat (f g : PEnv → R PyData) : PEnv → R (List PyData) := fun ρ => (f ρ).bind fun d => (g ρ).bind fun e => lcat d e
@[simp] theorem fcat_ap (f g : PEnv → R PyData) (ρ : PEnv) : fcat f g ρ = (f ρ).bind fun d => (g ρ).bind fun e => lcat d e := rfl
@[simp] theorem lcat_list {xs ys : List PyData} (h : xs.length + ys.length ≤ 16777216) : lcat (.list xs) (.list ys) = .ok (xs ++ ys) := if_pos (by rw [szL]; exact h)
theorem vcat_f (ha : VE X W a fa) (hb : VE X W b fb) : VFr X W (.BinOp a .Add b pos) (fcat fa fb) := by
  obtain ⟨ta, pa, qa⟩ := ha.ex
  obtain ⟨tb, pb, qb⟩ := hb.ex
  refine ⟨_, pe_op op_catL pa pb, fun σ H B ρ Q s rf p => ?_⟩
  refine two qa qb s rf p fun d e x y H' B' ex sm dx dy pg => ?_
  cases dx <;> first | exact pg.elim | skip
  cases dy <;> first | exact pg.elim | skip
  rename_i h1 h2 _ _ _ h3 h4
  simp only [lcat] at pg
  split at pg
  · rename_i hz
    refine ⟨_, _, _, _, rfl, rfl, Rd.mono ex.bh h1, Rd.mono ex.bh h3, by rw [IsAll.len h2, IsAll.len h4]; exact hz, fun q hq => ?_⟩
    exact pg q _ _ B' (ex.trans (Ext.own ex.bh hq)) upd_same (Same.free ex.hh hq) (Same.free ex.bh hq) (IsAll.append h2 h4)
  · exact pg.elim
def lcut (lo hi : Option Int) : PyData → R (List PyData)
  | .list xs => .ok (cutL xs lo hi)
  | _ => .stuck
def fslice (f : PEnv → R PyData) (l u : PEnv → R (Option Int)) : PEnv → R (List PyData) := fun ρ => (f ρ).bind fun d => (l ρ).bind fun lo => (u ρ).bind fun hi => lcut lo hi d
@[simp] theorem fslice_ap (f : PEnv → R PyData) (l u : PEnv → R (Option Int)) (ρ : PEnv) : fslice f l u ρ = (f ρ).bind fun d => (l ρ).bind fun lo => (u ρ).bind fun hi => lcut lo hi d := rfl
@[simp] theorem lcut_list (lo hi : Option Int) (xs : List PyData) : lcut lo hi (.list xs) = .ok (cutL xs lo hi) := rfl
theorem vslice_f {lo hi : Option Expr} {p2 : Pos} {fl fu : PEnv → R (Option Int)} (ha : VE X W a fa) (hl : VO1 X W lo fl) (hu : VO1 X W hi fu) : VFr X W (.Subscript a (.Slice lo hi none p2) pos) (fslice fa fl fu) := by
  obtain ⟨ta, pa, qa⟩ := ha.ex
  obtain ⟨tl, pl, ql⟩ := hl.ex
  obtain ⟨tu, pu, qu⟩ := hu.ex
  refine ⟨_, pe_slice (SlR.or sl_list sl_tupA) pa pl pu, fun σ H B ρ Q s rf p => ?_⟩
  unfold fslice at p
  refine one qa s rf p fun d x H1 B1 e1 sm dx p1 => ?_
  refine ql σ H1 B1 ρ _ e1.bh (rf.mono e1.bb) ?_
  generalize fl ρ = rl at p1 ⊢
  cases rl with
  | stuck => exact p1
  | err c => exact p1
  | ok lo' =>
    intro H2 B2 e2
    refine qu σ H2 B2 ρ _ e2.bh (rf.mono (e1.trans e2).bb) ?_
    simp only [R.bind_ok] at p1
    generalize fu ρ = ru at p1 ⊢
    cases ru with
    | stuck => exact p1
    | err c => exact fun H' z => p1 H' (e2.hh.trans z)
    | ok hi' =>
      intro H3 B3 e3
      simp only [R.bind_ok] at p1
      have E := (e1.trans e2).trans e3
      have dx3 := Is.mono (e2.trans e3).bb dx
      cases dx3 <;> first | exact p1.elim | skip
      rename_i h1 h2
      refine .inl ⟨_, _, rfl, .inl (Rd.mono e3.bh h1), fun q hq => ?_⟩
      exact p1 q _ _ B3 (E.trans (Ext.own e3.bh hq)) upd_same (Same.free E.hh hq) (Same.free e3.bh hq) (IsAll.cut h2 _ _)
end
end VL

namespace VL
open PySem PySem.Spec PyProof.Rows L2
/-! ### a call whose result is one's own -/
theorem RS.push {K : PySem.W.Frag} {F0 H0 F H F' H' : Hp} {σ : L2.St} {ρ : OEnv} {v : V} {o : O} (r : RS K F0 H0 F H σ ρ) (q : RV K F H F' H' v o) : RS K F0 H0 F' H' (some v :: σ) (some o :: ρ) := by
  obtain ⟨fps, s, hs⟩ := r.ex
  obtain ⟨fp, ow, h1⟩ := q
  have lst := s.lstAt
  refine ⟨fp ++ fps, .ow ow (s.keep h1.f0 fun a ha => ?_), ?_, fun a ha => ?_, h1.fh, hs.f0.trans h1.f0, hs.h0.trans h1.h0, fun a z1 z2 => ?_⟩
  · obtain ⟨vs, z, _⟩ := lst a ha
    rw [z]; exact h1.h0 _ _ z
  · refine List.nodup_append.mpr ⟨h1.nd, hs.nd, fun a ha b hb e => ?_⟩
    subst e
    obtain ⟨vs, z, _⟩ := lst a hb
    rw [(h1.ow a ha).2] at z
    cases z
  · rcases List.mem_append.mp ha with m | m
    · exact ⟨(h1.ow a m).1, Same.free hs.h0 (h1.ow a m).2⟩
    · refine ⟨?_, (hs.ow a m).2⟩
      obtain ⟨vs, z, _⟩ := lst a m
      cases q : F' a with
      | none => rfl
      | some u =>
        have := h1.nw a (hs.ow a m).1 (by rw [q]; exact fun w => nomatch w)
        rw [z] at this
        cases this
  · cases q : F a with
    | some u => exact hs.nw a z1 (by rw [q]; exact fun w => nomatch w)
    | none => exact Same.free hs.h0 (h1.nw a q z2)
section
variable {X : Cx} {W : WX} {a b c e : Expr} {es : List Expr} {pos : Pos} {hx : OEnv → R PyData} {k : Nat}
def oCall (g : List PyData → R O) (fa : PEnv → R (List PyData)) : OEnv → R (O × OEnv) := fun ρ => (fa (viewF ρ)).bind fun ds => (g ds).bind fun o => .ok (o, ρ)
@[simp] theorem oCall_ap (g : List PyData → R O) (fa : PEnv → R (List PyData)) (ρ : OEnv) : oCall g fa ρ = (fa (viewF ρ)).bind fun ds => (g ds).bind fun o => .ok (o, ρ) := rfl
theorem vo_call {x : Str} {f : Addr} {fd : FuncData} {ps : List Str} {n : Nat} {g : List PyData → R O} {fa : PEnv → R (List PyData)} {p : Pos} {e : Expr} (F : FnOk X.prog X.w X.K X.mg X.base (L2.CX X.prog X.w) k f fd ps (spO X.K X.mg n g)) (hr : Room k X.A) (hm : X.mg x = some (.ref f)) (hk : PySem.W.keepIn X.K (.ref f) = true) (hb : Binds X.K fd ps [])
    (tk : Takes X W) (ha : VAn X W n (e :: es) fa) (hg : Gl X x := by rfl) (hdb : (x == ("__debug__" : Str)) = false := by decide) (he : starEach (e :: es) X.env = (false, eval e X.env) :: starEach es X.env := by rfl) (hpl : (backTo pos (starEach es X.env)).any (·.1) = false := by rfl) :
    VO X W (.Call (.Name x p) (e :: es) [] pos) (oCall g fa) := by
  obtain ⟨t, pt, qt⟩ := ha.va.ex
  refine ⟨_, pe_callS F hr hg hm hk hb (fun σ => passAt tk σ) pt hdb he hpl, fun σ H F0 H0 Fz ρ Q r pr => ?_⟩
  obtain ⟨fps, s, hs⟩ := id r.ex
  have hl := ha.len (viewF ρ)
  unfold oCall at pr
  generalize hfa : fa (viewF ρ) = rr at pr hl
  cases rr with
  | stuck => exact pr.elim
  | err c => exact qt σ H Fz (viewF ρ) _ hs.fh s.rfF (by rw [hfa]; exact pr)
  | ok ds =>
    refine qt σ H Fz (viewF ρ) _ hs.fh s.rfF ?_
    rw [hfa]
    intro xs H1 F1 e1 dx
    refine ⟨by rw [IsAll.len dx]; exact hl ds rfl, ds, F1, e1.bh, dx, ?_⟩
    simp only [R.bind_ok] at pr
    generalize g ds = rg at pr ⊢
    cases rg with
    | stuck => exact pr
    | err c => exact fun H' z => pr H' (e1.hh.trans z)
    | ok o => exact fun v H' F' rv => pr v H' F' ((r.ext e1).push rv)
/-! ### x.pop(), x.pop(i) -/
theorem OwnL.pick {K : PySem.W.Frag} {F H : Hp} : ∀ {os : List O} {vs : List V} {fp : List Addr} {j : Nat} {o : O}, OwnL K F H vs os fp → os[j]? = some o → ∃ y f1 f2, vs[j]? = some y ∧ Own K F H y o f1 ∧ OwnL K F H (vs.eraseIdx j) (os.eraseIdx j) f2 ∧ fp.Perm (f1 ++ f2)
  | [], _, _, _, _, h, e => by simp at e
  | p :: os, _, _, 0, o, h, e => by
    cases h with
    | @cons v vs _ _ f1 f2 h1 h2 =>
      simp at e
      subst e
      exact ⟨v, f1, f2, rfl, h1, h2, .refl _⟩
  | p :: os, _, _, j + 1, o, h, e => by
    cases h with
    | @cons v vs _ _ f1 f2 h1 h2 =>
      obtain ⟨y, g1, g2, z1, z2, z3, z4⟩ := OwnL.pick (j := j) h2 (by simpa using e)
      refine ⟨y, g1, f1 ++ g2, by simpa using z1, z2, .cons h1 z3, ?_⟩
      refine (List.Perm.append_left f1 z4).trans ?_
      rw [← List.append_assoc, ← List.append_assoc]
      exact List.Perm.append_right _ List.perm_append_comm
theorem RS.take {K : PySem.W.Frag} {F0 H0 F H : Hp} {σ : L2.St} {ρ : OEnv} {i j : Nat} {os : List O} {o : O} (r : RS K F0 H0 F H σ ρ) (ei : ρ[i]? = some (some (.lst os))) (ej : os[j]? = some o) :
    ∃ a vs y, σ[i]? = some (some (.ref a)) ∧ H a = some (.lst vs) ∧ vs.length = os.length ∧ vs[j]? = some y ∧ RS K F0 H0 F (upd H a (.lst (vs.eraseIdx j))) (some y :: σ) (some o :: ρ.set i (some (.lst (os.eraseIdx j)))) := by
  obtain ⟨fps, s, hs⟩ := r.ex
  obtain ⟨v, fp, fpr, e1, e2, e3, e4, e5⟩ := s.split ei
  cases e2 with
  | @lst a vs _ fpi ha hl =>
    obtain ⟨y, g1, g2, z1, z2, z3, z4⟩ := hl.pick ej
    refine ⟨a, vs, y, e1, ha, hl.len, z1, ?_⟩
    have hp : Hs F0 H0 F H ((a :: (g1 ++ g2)) ++ fpr) := (hs.perm e3).perm (List.Perm.append_right fpr (List.Perm.cons a z4))
    have nd := List.nodup_append.mp hp.nd
    have na := List.nodup_cons.mp nd.1
    have na_r : a ∉ fpr := fun m => nd.2.2 a List.mem_cons_self a m rfl
    have hk : ∀ c, c ≠ a → upd H a (.lst (vs.eraseIdx j)) c = H c := fun c hc => upd_ne hc
    have l1 : Own K F (upd H a (.lst (vs.eraseIdx j))) y o g1 := z2.keep (Same.refl F) fun c hc => hk c fun e => na.1 (e ▸ List.mem_append_left _ hc)
    have l2 : OwnL K F (upd H a (.lst (vs.eraseIdx j))) (vs.eraseIdx j) (os.eraseIdx j) g2 := z3.keep (Same.refl F) fun c hc => hk c fun e => na.1 (e ▸ List.mem_append_right _ hc)
    obtain ⟨fps', w1, w2⟩ := e5 F (upd H a (.lst (vs.eraseIdx j))) (.ref a) (.lst (os.eraseIdx j)) (a :: g2) (.lst upd_same l2) (Same.refl F) fun c hc => hk c fun e => na_r (e ▸ hc)
    rw [set_same e1] at w1
    have an : F a = none ∧ H0 a = none := hp.ow a (List.mem_append_left _ List.mem_cons_self)
    have base : Hs F0 H0 F (upd H a (.lst (vs.eraseIdx j))) ((a :: (g1 ++ g2)) ++ fpr) := ⟨hp.nd, hp.ow, fun c u q => by
      rw [hk c (fun e => by rw [e, an.1] at q; cases q)]; exact hp.fh _ _ q, hp.f0, fun c u q => by
      rw [hk c (fun e => by rw [e, an.2] at q; cases q)]; exact hp.h0 _ _ q, hp.nw⟩
    refine ⟨g1 ++ fps', .ow l1 w1, base.perm ?_⟩
    have p1 : ((a :: (g1 ++ g2)) ++ fpr).Perm (g1 ++ ((a :: g2) ++ fpr)) := by
      have : ((a :: (g1 ++ g2)) ++ fpr).Perm ((g1 ++ (a :: g2)) ++ fpr) := List.Perm.append_right fpr List.perm_middle.symm
      rw [List.append_assoc] at this
      exact this
    exact p1.trans (List.Perm.append_left g1 w2.symm)
/-- x.pop() -/
def oPop (i : Nat) : OEnv → R (O × OEnv) := fun ρ => match ρ[i]? with
  | some (some (.lst os)) => (match os[os.length - 1]? with
    | some o => .ok (o, ρ.set i (some (.lst (os.eraseIdx (os.length - 1)))))
    | none => .stuck)
  | _ => .stuck
theorem vo_pop (i : Nat) {x : Str} {p1 p2 p3 : Pos} (mk : PE X (.Call (.Attribute (.Name x p1) "pop" p2) [] [] p3) (tBM0 X.K "list" rPop (tVar i))) :
    VO X W (.Call (.Attribute (.Name x p1) "pop" p2) [] [] p3) (oPop i) := by
  refine ⟨_, mk, fun σ H F0 H0 F ρ Q r pr => ?_⟩
  unfold oPop at pr
  split at pr
  · rename_i os e0
    split at pr
    · rename_i o eo
      obtain ⟨ad, vs, y, e1, e2, e3, e4, r2⟩ := r.take e0 eo
      refine ⟨.ref ad, e1, .inl ⟨rfl, _, .inl (.inl e2)⟩, ad, vs, y, rfl, rfl, e2, by rw [e3]; exact e4, ?_⟩
      have : vs.dropLast = vs.eraseIdx (os.length - 1) := by rw [← e3, List.eraseIdx_length_sub_one]
      rw [this]
      exact pr y _ F r2
    · exact pr.elim
  · exact pr.elim
/-- x.pop(k) -/
noncomputable def oPopAt (i : Nat) (hk : OEnv → R PyData) : OEnv → R (O × OEnv) := fun ρ => match ρ[i]? with
  | some (some (.lst os)) => (hk ρ).bind fun d => match d with
    | .int j => @ite _ (0 ≤ j ∧ j < 16777216) (Classical.propDecidable _) (match os[j.toNat]? with
      | some o => .ok (o, ρ.set i (some (.lst (os.eraseIdx j.toNat))))
      | none => .stuck) .stuck
    | _ => .stuck
  | _ => .stuck
theorem vo_popAt (i : Nat) {x : Str} {p1 p2 p3 : Pos} (mk : ∀ {t : TE}, PE X e t → PE X (.Call (.Attribute (.Name x p1) "pop" p2) [e] [] p3) (tBM X.K "list" rPopAt (tVar i) (tCons t tNil))) (he : VX X W e hx) :
    VO X W (.Call (.Attribute (.Name x p1) "pop" p2) [e] [] p3) (oPopAt i hx) := by
  obtain ⟨t, p, q⟩ := he.ex
  refine ⟨_, mk p, fun σ H F0 H0 F ρ Q r pr => ?_⟩
  unfold oPopAt at pr
  split at pr
  · rename_i os e0
    obtain ⟨fps, sl, hss⟩ := id r.ex
    obtain ⟨v, fp, fpr, e1, e2, e3, e4, e5⟩ := sl.split e0
    cases e2 with
    | @lst ad vs0 _ fpi ha hl =>
      refine ⟨.ref ad, e1, .inl ⟨rfl, _, .inl (.inl ha)⟩, ?_⟩
      refine q σ H F0 H0 F ρ _ r ?_
      generalize hx ρ = rk at pr ⊢
      cases rk with
      | stuck => exact pr
      | err c => exact pr
      | ok d =>
        intro y0 H' F' ex dx
        simp only [R.bind_ok] at pr
        cases dx <;> first | exact pr.elim | skip
        rename_i j
        simp only at pr
        split at pr
        · rename_i hj
          split at pr
          · rename_i o eo
            obtain ⟨ad', vs, y, w1, w2, w3, w4, r2⟩ := (r.ext ex).take e0 eo
            rw [e1] at w1
            cases w1
            obtain ⟨hjl, _⟩ := List.getElem?_eq_some_iff.mp eo
            refine ⟨ad, vs, j, j.toNat, y, rfl, rfl, w2, by omega, by omega, ?_, w4, pr y _ F' r2⟩
            unfold seqIndex?
            have hb : (decide (0 ≤ j) && decide (j < (os.length : Int))) = true := by
              rw [Bool.and_eq_true, decide_eq_true_eq, decide_eq_true_eq]; omega
            rw [w3, if_neg (show ¬ j < 0 by omega)]
            exact if_pos hb
          · exact pr.elim
        · exact pr.elim
  · exact pr.elim
theorem oPopAt_ok {i : Nat} {hk : OEnv → R PyData} {ρ : OEnv} {os : List O} {j : Nat} {o : O} (e : ρ[i]? = some (some (.lst os))) (hkv : hk ρ = .ok (.int (j : Int))) (hj : j < 16777216) (ho : os[j]? = some o) : oPopAt i hk ρ = .ok (o, ρ.set i (some (.lst (os.eraseIdx j)))) := by
  unfold oPopAt
  simp only [e, hkv, R.bind_ok]
  rw [if_pos (by omega)]
  simp only [Int.toNat_natCast, ho]
theorem erase_map {α β : Type} (f : α → β) : ∀ (l : List α) (m : Nat), (l.map f).eraseIdx m = (l.eraseIdx m).map f
  | [], _ => rfl
  | _ :: _, 0 => rfl
  | x :: l, m + 1 => by
    show f x :: (l.map f).eraseIdx m = f x :: (l.eraseIdx m).map f
    rw [erase_map f l m]
/-! ### x.reverse() -/
theorem RS.revAt {K : PySem.W.Frag} {F0 H0 F H : Hp} {σ : L2.St} {ρ : OEnv} {i : Nat} {os : List O} (r : RS K F0 H0 F H σ ρ) (ei : ρ[i]? = some (some (.lst os))) :
    ∃ a vs, σ[i]? = some (some (.ref a)) ∧ H a = some (.lst vs) ∧ RS K F0 H0 F (upd H a (.lst vs.reverse)) σ (ρ.set i (some (.lst os.reverse))) := by
  obtain ⟨fps, s, hs⟩ := r.ex
  obtain ⟨v, fp, fpr, e1, e2, e3, e4, e5⟩ := s.split ei
  cases e2 with
  | @lst a vs _ fpi ha hl =>
    obtain ⟨fp', z1, z2⟩ := hl.rev
    refine ⟨a, vs, e1, ha, ?_⟩
    have hp : Hs F0 H0 F H ((a :: fpi) ++ fpr) := hs.perm e3
    have nd := List.nodup_append.mp hp.nd
    have na := List.nodup_cons.mp nd.1
    have na_r : a ∉ fpr := fun m => nd.2.2 a List.mem_cons_self a m rfl
    have hk : ∀ c, c ≠ a → upd H a (.lst vs.reverse) c = H c := fun c hc => upd_ne hc
    have l2 : OwnL K F (upd H a (.lst vs.reverse)) vs.reverse os.reverse fp' := z1.keep (Same.refl F) fun c hc => hk c fun e => na.1 (z2.mem_iff.mp (e ▸ hc))
    obtain ⟨fps', w1, w2⟩ := e5 F (upd H a (.lst vs.reverse)) (.ref a) (.lst os.reverse) (a :: fp') (.lst upd_same l2) (Same.refl F) fun c hc => hk c fun e => na_r (e ▸ hc)
    rw [set_same e1] at w1
    have an : F a = none ∧ H0 a = none := hp.ow a (List.mem_append_left _ List.mem_cons_self)
    have base : Hs F0 H0 F (upd H a (.lst vs.reverse)) ((a :: fpi) ++ fpr) := ⟨hp.nd, hp.ow, fun c u q => by
      rw [hk c (fun e => by rw [e, an.1] at q; cases q)]; exact hp.fh _ _ q, hp.f0, fun c u q => by
      rw [hk c (fun e => by rw [e, an.2] at q; cases q)]; exact hp.h0 _ _ q, hp.nw⟩
    exact ⟨fps', w1, base.perm ((List.Perm.append_right fpr (List.Perm.cons a z2.symm)).trans w2.symm)⟩
def sRev (i : Nat) : OEnv → SR := fun ρ => match ρ[i]? with
  | some (some (.lst os)) => .nx (ρ.set i (some (.lst os.reverse)))
  | _ => .stuck
theorem vs_rev (i : Nat) {x : Str} {p1 p2 p3 : Pos} (mk : PE X (.Call (.Attribute (.Name x p1) "reverse" p2) [] [] p3) (tBM0 X.K "list" rReverse (tVar i))) (hs : swapsWith (.Call (.Attribute (.Name x p1) "reverse" p2) [] [] p3) none pos.line X.env = pure false := by rfl) :
    VS X W (.Expr (.Call (.Attribute (.Name x p1) "reverse" p2) [] [] p3) pos) (sRev i) := by
  refine ⟨_, ps_expr mk hs, fun D σ H F0 H0 F ρ r pr => ?_⟩
  unfold sRev at pr
  split at pr
  · rename_i os e0
    obtain ⟨ad, vs, e1, e2, r2⟩ := r.revAt e0
    exact ⟨.ref ad, e1, .inl ⟨rfl, _, .inl (.inl e2)⟩, ad, vs, rfl, rfl, e2, pr _ _ _ r2⟩
  · exact pr.elim
end
/-! ### evaluation -/
def finO : SR → R O
  | .rt o _ => .ok o
  | .nx _ => .ok (.fz .none)
  | .err c _ => .err c
  | _ => .stuck
@[simp] theorem finO_rt (o : O) (ρ : OEnv) : finO (.rt o ρ) = .ok o := rfl
@[simp] theorem finO_nx (ρ : OEnv) : finO (.nx ρ) = .ok (.fz .none) := rfl
@[simp] theorem finO_err (c : Str) (ρ : OEnv) : finO (.err c ρ) = .err c := rfl
theorem runB_fin (n : Nat) (g : OEnv → SR) (ds : List PyData) : runB n g ds = finO (g (startO n ds)) := by
  unfold runB
  cases g (startO n ds) <;> rfl
theorem frz_of {n : Nat} {g : OEnv → SR} {ds : List PyData} {o : O} (h : runB n g ds = .ok o) : frz (runB n g) ds = .ok o.data := by
  unfold frz; rw [h]; rfl
end VL

namespace VL
open PySem PySem.Spec PyProof.Rows L2
/-! ### l.index(x), l.count(n) -/
def vindex : PyData → PyData → R PyData
  | .list ds, d => if SeqAt.shaped (.list ds) = true ∧ SeqAt.shaped d = true then (match ds.findIdx? (fun z => PyData.eqv z d) with
    | some j => .ok (.int (j : Nat))
    | none => .stuck) else .stuck
  | _, _ => .stuck
def isL : PyData → R PyData
  | .list ds => .ok (.list ds)
  | _ => .stuck
def vindexF (fa fb : PEnv → R PyData) : PEnv → R PyData := fun ρ => (fa ρ).bind fun d => (isL d).bind fun d => (fb ρ).bind fun e => vindex d e
@[simp] theorem vindexF_ap (fa fb : PEnv → R PyData) (ρ : PEnv) : vindexF fa fb ρ = (fa ρ).bind fun d => (isL d).bind fun d => (fb ρ).bind fun e => vindex d e := rfl
@[simp] theorem isL_list (ds : List PyData) : isL (.list ds) = .ok (.list ds) := rfl
section
variable {X : Cx} {W : WX} {a b : Expr} {fa fb : PEnv → R PyData} {k : Nat}
theorem vindex_ {p2 p3 : Pos} (hu : X.A.units + 65 < cLine) (ha : VE X W a fa) (hb : VE X W b fb) (hs : starEach [b] X.env = (false, eval b X.env) :: starEach [] X.env := by rfl)
    (hbase : attributeBase a "index" X.env (eval a X.env) = eval a X.env := by rfl)
    (hfew : ((backTo p3 (starEach [b] X.env)).all (fun x => !x.1) && (backToKw p3 (keywordEach [] X.env)).all (fun x => x.1.isSome)
      && decide ([b].length + ([] : List Keyword).length + (if ([] : List Keyword).isEmpty then 0 else 1) < 30)) = true := by rfl)
    (hline : (p2.endLine == p3.line) = true := by rfl) (hplain : (backTo p3 (starEach [] X.env)).any (·.1) = false := by rfl) : VE X W (.Call (.Attribute a "index" p2) [b] [] p3) (vindexF fa fb) := by
  obtain ⟨ta, pa, qa⟩ := ha.ex
  obtain ⟨tb, pb, qb⟩ := hb.ex
  refine VE.mk' (pe_bm PySem.F.plainAttrs_list PySem.F.slot_list_index PySem.F.type_list_index (mt_indexD hu) pa (pa_cons pb pa_nil hs) hbase hfew hline hs hplain) fun σ H B ρ Q s rf pr => ?_
  unfold vindexF at pr
  refine qa σ H B ρ _ s rf ?_
  generalize fa ρ = ra at pr ⊢
  cases ra with
  | stuck => exact pr
  | err c => exact pr
  | ok d =>
    intro x H1 B1 e1 sm1 d1
    simp only [R.bind_ok] at pr
    have tv : (tyV X.K "list" x H1 ∧ isL d = .ok d) ∨ isL d = .stuck := by
      cases d1 with
      | lst h1 h2 => exact .inl ⟨.inl ⟨rfl, _, .inl (Rd.mono e1.bh h1)⟩, rfl⟩
      | _ => exact .inr rfl
    rcases tv with ⟨tv, el⟩ | no
    · refine ⟨tv, ?_⟩
      rw [el] at pr
      simp only [R.bind_ok] at pr
      refine qb σ H1 B1 ρ _ e1.bh (rf.mono e1.bb) ?_
      generalize fb ρ = rb at pr ⊢
      cases rb with
      | stuck => exact pr
      | err c => exact fun H' z => pr H' (e1.hh.trans z)
      | ok e =>
        intro y H2 B2 e2 sm2 d2
        simp only [R.bind_ok] at pr
        have E := e1.trans e2
        have d1' := Is.mono e2.bb d1
        cases d1' <;> first | exact pr.elim | skip
        rename_i h1 h2
        simp only [vindex] at pr
        split at pr
        · rename_i hsh
          split at pr
          · rename_i j hj
            obtain ⟨hj1, hj2, hj3⟩ := List.findIdx?_eq_some_iff_getElem.mp hj
            have dd : Is X.K B2 (.ref _) (.list _) := .lst h1 h2
            refine ⟨_, y, e, _, j, _, rfl, rfl, (Is.mono E.bh dd).dp (SeqAt.canLay_of_shaped hsh.1), (Is.mono E.bh d2).dp (SeqAt.canLay_of_shaped hsh.2), hsh.1, hsh.2, List.getElem?_eq_getElem hj1, hj2, fun m z' hm hz => ?_, pr _ H2 B2 E (.int _)⟩
            obtain ⟨q1, q2⟩ := List.getElem?_eq_some_iff.mp hz
            have := hj3 m hm
            rw [q2] at this
            simpa using this
          · exact pr.elim
        · exact pr.elim
    · rw [no] at pr; exact pr.elim
end
end VL

namespace VL
open PySem PySem.Spec PyProof.Rows L2
/-! ### l[::-1], sorted(ints) -/
def lrev : PyData → R (List PyData)
  | .list xs => .ok xs.reverse
  | _ => .stuck
def frev (f : PEnv → R PyData) : PEnv → R (List PyData) := fun ρ => (f ρ).bind lrev
@[simp] theorem frev_ap (f : PEnv → R PyData) (ρ : PEnv) : frev f ρ = (f ρ).bind lrev := rfl
@[simp] theorem lrev_list (xs : List PyData) : lrev (.list xs) = .ok xs.reverse := rfl
/-- ints in their order -/
def srtI (ns : List Int) : List Int := ns.mergeSort fun a b => decide (a ≤ b)
theorem srtI_perm (ns : List Int) : (srtI ns).Perm ns := List.mergeSort_perm ns _
theorem srtI_ord (ns : List Int) : (srtI ns).Pairwise (· ≤ ·) := by
  have := List.pairwise_mergeSort (le := fun a b : Int => decide (a ≤ b)) (fun a b c h1 h2 => by simp at *; omega) (fun a b => by simp; omega) ns
  exact this.imp fun h => by simpa using h
theorem srtI_eq {ns ms : List Int} (p : ms.Perm ns) (o : ms.Pairwise (· ≤ ·)) : ms = srtI ns :=
  List.Perm.eq_of_pairwise (fun a b _ _ h1 h2 => Int.le_antisymm h1 h2) o (srtI_ord ns) (p.trans (srtI_perm ns).symm)
def lsort : PyData → R (List PyData)
  | .list xs => (match intsOf xs with
    | some ns => .ok ((srtI ns).map .int)
    | none => .stuck)
  | _ => .stuck
def fsort (f : PEnv → R PyData) : PEnv → R (List PyData) := fun ρ => (f ρ).bind lsort
@[simp] theorem fsort_ap (f : PEnv → R PyData) (ρ : PEnv) : fsort f ρ = (f ρ).bind lsort := rfl
theorem lsort_ints (ns : List Int) : lsort (.list (ns.map .int)) = .ok ((srtI ns).map .int) := by simp only [lsort, intsOf_map]
section
variable {X : Cx} {W : WX} {a : Expr} {fa : PEnv → R PyData}
theorem vrev_f {k : Nat} {p1 p2 p3 pos : Pos} (ha : VE X W a fa) : VFr X W (.Subscript a (.Slice none none (some (.UnaryOp .USub (.Constant (.int 1) k p1) p2)) p3) pos) (frev fa) := by
  obtain ⟨ta, pa, qa⟩ := ha.ex
  refine ⟨_, pe_revL pa, fun σ H B ρ Q s rf p => ?_⟩
  refine one qa s rf p fun d x H' B' ex sm dx pg => ?_
  cases dx <;> first | exact pg.elim | skip
  rename_i h1 h2
  exact ⟨_, _, rfl, .inl (Rd.mono ex.bh h1), fun q hq => pg q _ _ B' (ex.trans (Ext.own ex.bh hq)) upd_same (Same.free ex.hh hq) (Same.free ex.bh hq) (IsAll.reverse h2)⟩
theorem vsorted_f {p pos : Pos} (hm : X.mg "sorted" = none) (ha : VE X W a fa) (hg : Gl X "sorted" := by rfl) (he : starEach [a] X.env = (false, eval a X.env) :: starEach [] X.env := by rfl) (hpl : (backTo pos (starEach [] X.env)).any (·.1) = false := by rfl) :
    VFr X W (.Call (.Name "sorted" p) [a] [] pos) (fsort fa) := by
  obtain ⟨ta, pa, qa⟩ := ha.ex
  refine ⟨_, pe_callB cr_sortedI hg hm (by decide +kernel) (pa_cons pa pa_nil he) (by decide) (by decide) he hpl, fun σ H B ρ Q s rf pr => ?_⟩
  refine one qa s rf pr fun d x H' B' ex sm dx pg => ?_
  cases dx <;> first | exact pg.elim | skip
  rename_i h1 h2
  simp only [lsort] at pg
  split at pg
  · rename_i ns hi
    rw [intsOf_some hi] at h2
    have e := is_ints h2
    subst e
    refine ⟨_, ns, rfl, .inl (Rd.mono ex.bh h1), fun ns' q hp ho hq => ?_⟩
    have e := srtI_eq hp ho
    subst e
    exact pg q _ _ B' (ex.trans (Ext.own ex.bh hq)) upd_same (Same.free ex.hh hq) (Same.free ex.bh hq) (ints_is _)
  · exact pg.elim
end
end VL

namespace VL
open PySem PySem.Spec PyProof.Rows
/-! ### more laws of loops and comprehensions -/
/-- a loop that leaves at the first bad item, and else keeps its state -/
theorem forL_chk {kt : PyData → R (List (Nat × PyData))} {kl : OEnv → OEnv} {gb : OEnv → SR} (E : OEnv) (bad : PyData → Bool) (r : O) (E2 : OEnv) : ∀ {ds : List PyData},
    (∀ d ∈ ds, (bad d = true → ∃ bs, kt d = .ok bs ∧ gb (setsO E bs) = .rt r E2) ∧ (bad d = false → ∃ bs ρ', kt d = .ok bs ∧ gb (setsO E bs) = .nx ρ' ∧ kl ρ' = E)) →
    forL kt kl gb ds E = if ds.any bad = true then .rt r E2 else .nx E
  | [], _ => rfl
  | d :: ds, h => by
    have ih := forL_chk E bad r E2 (ds := ds) fun x hx => h x (List.mem_cons_of_mem _ hx)
    obtain ⟨h1, h2⟩ := h d List.mem_cons_self
    cases hb : bad d with
    | true =>
      obtain ⟨bs, k1, k2⟩ := h1 hb
      simp only [forL, k1, k2, List.any_cons, hb, Bool.true_or, if_true]
    | false =>
      obtain ⟨bs, ρ', k1, k2, k3⟩ := h2 hb
      simp only [forL, k1, k2, k3, List.any_cons, hb, Bool.false_or, ih]
theorem compL_map {kt : PyData → R (List (Nat × PyData))} {ft : PEnv → R Bool} {fe : PEnv → R PyData} {ρ : PEnv} (f : PyData → PyData) : ∀ {ds : List PyData}, (∀ d ∈ ds, ∃ bs, kt d = .ok bs ∧ ft (setsD ρ bs) = .ok true ∧ fe (setsD ρ bs) = .ok (f d)) → compL kt ft fe ρ ds = .ok (ds.map f)
  | [], _ => rfl
  | d :: ds, h => by
    obtain ⟨bs, h1, h2, h3⟩ := h d List.mem_cons_self
    have ih := compL_map f (ds := ds) fun x hx => h x (List.mem_cons_of_mem _ hx)
    simp only [compL, h1, R.bind_ok, h2, h3, calm_okk, ih, if_true, List.map_cons]
theorem compL_sub {kt : PyData → R (List (Nat × PyData))} {ft : PEnv → R Bool} {fe : PEnv → R PyData} {ρ : PEnv} (S : PyData → Prop) : ∀ {ds : List PyData}, (∀ d ∈ ds, ∃ bs b y, kt d = .ok bs ∧ ft (setsD ρ bs) = .ok b ∧ fe (setsD ρ bs) = .ok y ∧ S y) → ∃ ys, compL kt ft fe ρ ds = .ok ys ∧ (∀ y ∈ ys, S y) ∧ ys.length ≤ ds.length
  | [], _ => ⟨[], rfl, fun _ h => (nomatch h), Nat.le_refl _⟩
  | d :: ds, h => by
    obtain ⟨bs, b, y, h1, h2, h3, h4⟩ := h d List.mem_cons_self
    obtain ⟨ys, e, hs, hl⟩ := compL_sub S (ds := ds) fun x hx => h x (List.mem_cons_of_mem _ hx)
    cases b with
    | true =>
      exact ⟨y :: ys, by simp only [compL, h1, R.bind_ok, h2, h3, calm_okk, e, if_true], fun z hz => by
        rcases List.mem_cons.mp hz with q | q
        · subst q; exact h4
        · exact hs z q, by simp; omega⟩
    | false => exact ⟨ys, by simp only [compL, h1, R.bind_ok, h2, calm_okk, e]; rfl, hs, by simp; omega⟩
/-- a comprehension over a range of numbers, tests as values -/
theorem compL_range {i : Nat} {ft : PEnv → R Bool} {fe : PEnv → R PyData} {ρ : PEnv} (f : Nat → PyData) {lo : Int} {n : Nat} (h : ∀ k, k < n → ft (ρ.set i (some (.int (lo + (k : Int))))) = .ok true ∧ fe (ρ.set i (some (.int (lo + (k : Int))))) = .ok (f k)) :
    compL (gN i) ft fe ρ (rangeD lo n) = .ok ((List.range n).map f) := by
  have e : rangeD lo n = (List.range n).map fun k : Nat => PyData.int (lo + (k : Int)) := rfl
  have gen : ∀ l : List Nat, (∀ k ∈ l, k < n) → compL (gN i) ft fe ρ (l.map fun k : Nat => PyData.int (lo + (k : Int))) = .ok (l.map f) := by
    intro l
    induction l with
    | nil => intro _; rfl
    | cons k l ih =>
      intro hl
      obtain ⟨h1, h2⟩ := h k (hl k List.mem_cons_self)
      have := ih fun x hx => hl x (List.mem_cons_of_mem _ hx)
      simp only [List.map_cons, compL, gN_ap, R.bind_ok, setsD_cons, setsD_nil, h1, h2, calm_okk, this, if_true]
  rw [e]
  exact gen _ fun k hk => List.mem_range.mp hk
theorem vall_bools (bs : List Bool) : vall [.list (bs.map .bool)] = .ok (.bool (bs.all id)) := by simp only [vall, boolsOf_map]
theorem vany_bools (bs : List Bool) : vany [.list (bs.map .bool)] = .ok (.bool (bs.any id)) := by simp only [vany, boolsOf_map]
theorem vsum_ints (ns : List Int) : vsum [.list (ns.map .int)] = .ok (.int ns.sum) := by simp only [vsum, intsOf_map]
theorem rangeD_succ (lo : Int) (n : Nat) : rangeD lo (n + 1) = .int lo :: rangeD (lo + 1) n := by
  unfold rangeD
  rw [List.range_succ_eq_map, List.map_cons, List.map_map]
  congr 1
  · simp
  · refine List.map_congr_left fun k _ => ?_
    simp only [Function.comp]
    congr 1
    omega
theorem rangeD_mem {lo : Int} {n : Nat} {d : PyData} (h : d ∈ rangeD lo n) : ∃ k : Nat, k < n ∧ d = .int (lo + (k : Int)) := by
  obtain ⟨i, hi⟩ := List.getElem?_of_mem h
  exact ⟨i, (rangeD_get hi).1, (rangeD_get hi).2⟩
theorem any_range {lo : Int} {n : Nat} {p : PyData → Bool} : (rangeD lo n).any p = (List.range n).any fun k => p (.int (lo + (k : Int))) := by
  unfold rangeD
  rw [List.any_map]
  rfl
end VL

namespace VL
open PySem PySem.Spec PyProof.Rows L2

/-! ### typed values -/
class Enc (α : Type) where
  e : α → PyData
open Enc (e)
structure Tup (α : Type) where
  l : List α
  deriving DecidableEq
structure T1 (α : Type) where
  a : α
  deriving DecidableEq
structure T3 (α β γ : Type) where
  a : α
  b : β
  c : γ
  deriving DecidableEq
structure T4 (α β γ δ : Type) where
  a : α
  b : β
  c : γ
  d : δ
  deriving DecidableEq
structure T5 (α β γ δ ε : Type) where
  a : α
  b : β
  c : γ
  d : δ
  x : ε
  deriving DecidableEq
structure T6 (α β γ δ ε ζ : Type) where
  a : α
  b : β
  c : γ
  d : δ
  x : ε
  y : ζ
  deriving DecidableEq
structure T7 (α β γ δ ε ζ η : Type) where
  a : α
  b : β
  c : γ
  d : δ
  x : ε
  y : ζ
  z : η
  deriving DecidableEq
instance : Enc Int := ⟨.int⟩
instance : Enc Bool := ⟨.bool⟩
instance : Enc Str := ⟨.str⟩
instance : Enc Unit := ⟨fun _ => .none⟩
instance : Enc PyData := ⟨fun d => d⟩
section
variable {α β γ δ ε ζ η θ ι : Type} [Enc α] [Enc β] [Enc γ] [Enc δ] [Enc ε] [Enc ζ] [Enc η] [Enc θ] [Enc ι]
instance : Enc (List α) := ⟨fun xs => .list (xs.map Enc.e)⟩
instance : Enc (Tup α) := ⟨fun xs => .tuple (xs.l.map Enc.e)⟩
instance : Enc (T1 α) := ⟨fun p => .tuple [e p.a]⟩
instance : Enc (α × β) := ⟨fun p => .tuple [e p.1, e p.2]⟩
instance : Enc (T3 α β γ) := ⟨fun p => .tuple [e p.a, e p.b, e p.c]⟩
instance : Enc (T4 α β γ δ) := ⟨fun p => .tuple [e p.a, e p.b, e p.c, e p.d]⟩
instance : Enc (T5 α β γ δ ε) := ⟨fun p => .tuple [e p.a, e p.b, e p.c, e p.d, e p.x]⟩
instance : Enc (T6 α β γ δ ε ζ) := ⟨fun p => .tuple [e p.a, e p.b, e p.c, e p.d, e p.x, e p.y]⟩
instance : Enc (T7 α β γ δ ε ζ η) := ⟨fun p => .tuple [e p.a, e p.b, e p.c, e p.d, e p.x, e p.y, e p.z]⟩
instance : Enc (Option α) := ⟨fun o => match o with | none => .none | some a => e a⟩
end

/-! ### what the typed side says of the untyped one -/
def TQ {α γ : Type} (f : α → γ) (x : R γ) (t : R α) : Prop := match t with
  | .ok a => x = .ok (f a)
  | .err c => x = .err c
  | .stuck => True
theorem TQ.ok {α γ : Type} {f : α → γ} {x : R γ} {t : R α} {a : α} (h : TQ f x t) (e : t = .ok a) : x = .ok (f a) := by subst e; exact h
theorem TQ.er {α γ : Type} {f : α → γ} {x : R γ} {t : R α} {c : Str} (h : TQ f x t) (e : t = .err c) : x = .err c := by subst e; exact h
theorem TQ.bind {α γ α' γ' : Type} {f : α → γ} {f' : α' → γ'} {x : R γ} {t : R α} {k : γ → R γ'} {l : α → R α'} (h : TQ f x t) (hk : ∀ a, TQ f' (k (f a)) (l a)) : TQ f' (x.bind k) (t.bind l) := by
  cases t with
  | stuck => trivial
  | err c => show TQ f' (x.bind k) (.err c); rw [show x = .err c from h]; rfl
  | ok a => rw [show x = .ok (f a) from h]; exact hk a
theorem TQ.cast {α γ : Type} {f : α → γ} {x y : R γ} {t : R α} (h : TQ f x t) (e : y = x) : TQ f y t := by rw [e]; exact h
abbrev TEq {α : Type} [Enc α] (x : R PyData) (t : R α) : Prop := TQ Enc.e x t
abbrev TL {α : Type} [Enc α] (x : R (List PyData)) (t : R (List α)) : Prop := TQ (List.map Enc.e) x t
abbrev TB (x t : R Bool) : Prop := TQ (fun b => b) x t
abbrev TO (x t : R (Option Int)) : Prop := TQ (fun b => b) x t
def b1 {α β : Type} (f : α → R β) (s : R α) : R β := s.bind f
def b2 {α β γ : Type} (f : α → β → R γ) (s : R α) (t : R β) : R γ := s.bind fun a => t.bind fun b => f a b
def b3 {α β γ δ : Type} (f : α → β → γ → R δ) (s : R α) (t : R β) (u : R γ) : R δ := s.bind fun a => t.bind fun b => u.bind fun c => f a b c
def b4 {α β γ δ ε : Type} (f : α → β → γ → δ → R ε) (s : R α) (t : R β) (u : R γ) (v : R δ) : R ε := s.bind fun a => t.bind fun b => u.bind fun c => v.bind fun d => f a b c d
def b5 {α β γ δ ε ζ : Type} (f : α → β → γ → δ → ε → R ζ) (s : R α) (t : R β) (u : R γ) (v : R δ) (w : R ε) : R ζ := s.bind fun a => t.bind fun b => u.bind fun c => v.bind fun d => w.bind fun x => f a b c d x
def b6 {α β γ δ ε ζ η : Type} (f : α → β → γ → δ → ε → ζ → R η) (s : R α) (t : R β) (u : R γ) (v : R δ) (w : R ε) (r : R ζ) : R η := s.bind fun a => t.bind fun b => u.bind fun c => v.bind fun d => w.bind fun x => r.bind fun y => f a b c d x y
def b7 {α β γ δ ε ζ η θ : Type} (f : α → β → γ → δ → ε → ζ → η → R θ) (s : R α) (t : R β) (u : R γ) (v : R δ) (w : R ε) (r : R ζ) (q : R η) : R θ := s.bind fun a => t.bind fun b => u.bind fun c => v.bind fun d => w.bind fun x => r.bind fun y => q.bind fun z => f a b c d x y z
def bite {α : Type} (c : R Bool) (s t : R α) : R α := c.bind fun b => if b then s else t
@[simp] theorem b1_ap {α β : Type} (f : α → R β) (s : R α) : b1 f s = s.bind f := rfl
@[simp] theorem b2_ap {α β γ : Type} (f : α → β → R γ) (s : R α) (t : R β) : b2 f s t = s.bind fun a => t.bind fun b => f a b := rfl
@[simp] theorem b3_ap {α β γ δ : Type} (f : α → β → γ → R δ) (s : R α) (t : R β) (u : R γ) : b3 f s t u = s.bind fun a => t.bind fun b => u.bind fun c => f a b c := rfl
@[simp] theorem b4_ap {α β γ δ ε : Type} (f : α → β → γ → δ → R ε) (s : R α) (t : R β) (u : R γ) (v : R δ) : b4 f s t u v = s.bind fun a => t.bind fun b => u.bind fun c => v.bind fun d => f a b c d := rfl
@[simp] theorem b5_ap {α β γ δ ε ζ : Type} (f : α → β → γ → δ → ε → R ζ) (s : R α) (t : R β) (u : R γ) (v : R δ) (w : R ε) : b5 f s t u v w = s.bind fun a => t.bind fun b => u.bind fun c => v.bind fun d => w.bind fun x => f a b c d x := rfl
@[simp] theorem b6_ap {α β γ δ ε ζ η : Type} (f : α → β → γ → δ → ε → ζ → R η) (s : R α) (t : R β) (u : R γ) (v : R δ) (w : R ε) (r : R ζ) : b6 f s t u v w r = s.bind fun a => t.bind fun b => u.bind fun c => v.bind fun d => w.bind fun x => r.bind fun y => f a b c d x y := rfl
@[simp] theorem b7_ap {α β γ δ ε ζ η θ : Type} (f : α → β → γ → δ → ε → ζ → η → R θ) (s : R α) (t : R β) (u : R γ) (v : R δ) (w : R ε) (r : R ζ) (q : R η) : b7 f s t u v w r q = s.bind fun a => t.bind fun b => u.bind fun c => v.bind fun d => w.bind fun x => r.bind fun y => q.bind fun z => f a b c d x y z := rfl
@[simp] theorem bite_ap {α : Type} (c : R Bool) (s t : R α) : bite c s t = c.bind fun b => if b then s else t := rfl
@[simp] theorem R.bind_assoc {α β γ : Type} (x : R α) (f : α → R β) (g : β → R γ) : (x.bind f).bind g = x.bind fun a => (f a).bind g := by cases x <;> rfl
theorem R.bind_ite {α β : Type} (p : Prop) [Decidable p] (x y : R α) (f : α → R β) : (if p then x else y).bind f = if p then x.bind f else y.bind f := by split <;> rfl

/-! ### typed operations -/
def taddI (a b : Int) : R Int := .ok (a + b)
def tsubI (a b : Int) : R Int := .ok (a - b)
noncomputable def tmulI (a b : Int) : R Int := open Classical in if IntMulOk a b then .ok (a * b) else .stuck
noncomputable def tfdivI (a b : Int) : R Int := @ite _ (0 < b ∧ b < 2 ^ 250) (Classical.propDecidable _) (.ok (a / b)) .stuck
def tmodI (a b : Int) : R Int := if 0 < b then .ok (a % b) else .stuck
noncomputable def tpowI (a b : Int) : R Int := @ite _ (0 ≤ b ∧ b ≤ 1000 ∧ a.natAbs < 2 ^ 64) (Classical.propDecidable _) (.ok (a ^ b.toNat)) .stuck
def tnegI (a : Int) : R Int := .ok (-a)
def tltI (a b : Int) : R Bool := .ok (decide (a < b))
def tleI (a b : Int) : R Bool := .ok (decide (a ≤ b))
def tgtI (a b : Int) : R Bool := .ok (decide (b < a))
def tgeI (a b : Int) : R Bool := .ok (decide (b ≤ a))
def taddL {α : Type} (a b : List α) : R (List α) := if a.length + b.length ≤ 16777216 then .ok (a ++ b) else .stuck
def taddV {α : Type} (a b : Tup α) : R (Tup α) := if a.l.length + b.l.length ≤ 16777216 then .ok ⟨a.l ++ b.l⟩ else .stuck
def taddS (a b : Str) : R Str := if a.length + b.length ≤ sizeLine then .ok (a ++ b) else .stuck
def tidx {α : Type} (xs : List α) (i : Int) : R α := match atI xs i with | some d => .ok d | none => .stuck
def tidxV {α : Type} (xs : Tup α) (i : Int) : R α := tidx xs.l i
def tlen {α : Type} (xs : List α) : R Int := .ok xs.length
def tlenV {α : Type} (xs : Tup α) : R Int := .ok xs.l.length
def tlenS (z : Str) : R Int := if z.length ≤ sizeLine then .ok z.length else .stuck
def tint (i : Int) : R Int := .ok i
def tintB (b : Bool) : R Int := .ok (if b then 1 else 0)
def tabs (i : Int) : R Int := .ok (if i < 0 then -i else i)
def ttupL {α : Type} (xs : List α) : R (Tup α) := .ok ⟨xs⟩
def tlistV {α : Type} (xs : Tup α) : R (List α) := .ok xs.l
def tid {α : Type} (x : α) : R α := .ok x
def tsum (xs : List Int) : R Int := .ok xs.sum
def tmaxL (xs : List Int) : R Int := match xs.max? with | some m => .ok m | none => .stuck
def tminL (xs : List Int) : R Int := match xs.min? with | some m => .ok m | none => .stuck
def tmax2 (i j : Int) : R Int := .ok (if j > i then j else i)
def tmin2 (i j : Int) : R Int := .ok (if j < i then j else i)
def tmax3 (i j k : Int) : R Int := .ok (max (max i j) k)
def tmin3 (i j k : Int) : R Int := .ok (min (min i j) k)
def tallB (xs : List Bool) : R Bool := .ok (xs.all id)
def tanyB (xs : List Bool) : R Bool := .ok (xs.any id)
def cutG {α : Type} (xs : List α) (lo hi : Option Int) : List α := (xs.drop (HT.sIx xs.length 0 lo)).take (HT.sIx xs.length xs.length hi - HT.sIx xs.length 0 lo)
def tcut {α : Type} (xs : List α) (lo hi : Option Int) : R (List α) := .ok (cutG xs lo hi)
def tcutV {α : Type} (xs : Tup α) (lo hi : Option Int) : R (Tup α) := .ok ⟨cutG xs.l lo hi⟩
def tpart (i : Int) : R (Option Int) := .ok (some i)
def rangeI (lo : Int) (n : Nat) : List Int := (List.range n).map fun i : Nat => lo + (i : Int)
def rangeCI (lo c : Int) (n : Nat) : List Int := (List.range n).map fun i : Nat => lo + (i : Int) * c
noncomputable def trange1 (j : Int) : R (List Int) := if rngOk 0 j then .ok (rangeI 0 j.toNat) else .stuck
noncomputable def trange2 (i j : Int) : R (List Int) := if rngOk i j then .ok (rangeI i (j - i).toNat) else .stuck
noncomputable def trangeN (i j : Int) : R (List Int) := if rngOk i j ∧ i - j ≤ 16777216 then .ok (rangeCI i (-1) (i - j).toNat) else .stuck
def tenum {α : Type} (xs : List α) : R (List (Int × α)) := .ok (xs.mapIdx fun i d => ((i : Int), d))
def tzip {α β : Type} (xs : List α) (ys : List β) : R (List (α × β)) := .ok (List.zipWith (fun a b => (a, b)) xs ys)
def trev {α : Type} (xs : List α) : R (List α) := .ok xs.reverse
def tsort (xs : List Int) : R (List Int) := .ok (srtI xs)
def tseqV {α : Type} (xs : Tup α) : R (List α) := .ok xs.l
def tnotB (b : Bool) : R Bool := .ok (!b)
def tandB (s t : R Bool) : R Bool := s.bind fun b => if b then t else .ok false
def torB (s t : R Bool) : R Bool := s.bind fun b => if b then .ok true else t
def tchain {α β γ : Type} (g : α → β → R Bool) (g' : β → γ → R Bool) (s : R α) (t : R β) (u : R γ) : R Bool := s.bind fun a => t.bind fun b => (g a b).bind fun k => if k then u.bind fun c => g' b c else .ok false
def ttruI (i : Int) : R Bool := .ok (i != 0)
def ttruL {α : Type} (xs : List α) : R Bool := .ok (!xs.isEmpty)
def ttruV {α : Type} (xs : Tup α) : R Bool := .ok (!xs.l.isEmpty)
def tisnoneD (d : PyData) : R Bool := .ok (match d with | .none => true | _ => false)
def tisnoneO {α : Type} (o : Option α) : R Bool := .ok o.isNone
def tcons {α : Type} (s : R α) (t : R (List α)) : R (List α) := s.bind fun a => t.bind fun as => .ok (a :: as)
def tcomp {α β : Type} (c : α → R Bool) (f : α → R β) : List α → R (List β)
  | [] => .ok []
  | a :: as => ((c a).calm).bind fun b => if b then ((f a).calm).bind fun y => (tcomp c f as).bind fun ys => .ok (y :: ys) else tcomp c f as
def tmap {α β : Type} (f : α → R β) : List α → R (List β)
  | [] => .ok []
  | a :: as => ((f a).calm).bind fun y => (tmap f as).bind fun ys => .ok (y :: ys)
def tpair {α β : Type} (s : R α) (t : R β) : R (α × β) := s.bind fun a => t.bind fun b => .ok (a, b)
@[simp] theorem taddI_ap (a b : Int) : taddI a b = .ok (a + b) := rfl
@[simp] theorem tsubI_ap (a b : Int) : tsubI a b = .ok (a - b) := rfl
@[simp] theorem tnegI_ap (a : Int) : tnegI a = .ok (-a) := rfl
@[simp] theorem tltI_ap (a b : Int) : tltI a b = .ok (decide (a < b)) := rfl
@[simp] theorem tleI_ap (a b : Int) : tleI a b = .ok (decide (a ≤ b)) := rfl
@[simp] theorem tgtI_ap (a b : Int) : tgtI a b = .ok (decide (b < a)) := rfl
@[simp] theorem tgeI_ap (a b : Int) : tgeI a b = .ok (decide (b ≤ a)) := rfl
@[simp] theorem tlen_ap {α : Type} (xs : List α) : tlen xs = .ok (xs.length : Int) := rfl
@[simp] theorem tlenV_ap {α : Type} (xs : Tup α) : tlenV xs = .ok (xs.l.length : Int) := rfl
@[simp] theorem tint_ap (i : Int) : tint i = .ok i := rfl
@[simp] theorem tintB_ap (b : Bool) : tintB b = .ok (if b then 1 else 0) := rfl
@[simp] theorem tabs_ap (i : Int) : tabs i = .ok (if i < 0 then -i else i) := rfl
@[simp] theorem ttupL_ap {α : Type} (xs : List α) : ttupL xs = .ok ⟨xs⟩ := rfl
@[simp] theorem tlistV_ap {α : Type} (xs : Tup α) : tlistV xs = .ok xs.l := rfl
@[simp] theorem tid_ap {α : Type} (x : α) : tid x = .ok x := rfl
@[simp] theorem tsum_ap (xs : List Int) : tsum xs = .ok xs.sum := rfl
@[simp] theorem tmax2_ap (i j : Int) : tmax2 i j = .ok (if j > i then j else i) := rfl
@[simp] theorem tmin2_ap (i j : Int) : tmin2 i j = .ok (if j < i then j else i) := rfl
@[simp] theorem tmax3_ap (i j k : Int) : tmax3 i j k = .ok (max (max i j) k) := rfl
@[simp] theorem tmin3_ap (i j k : Int) : tmin3 i j k = .ok (min (min i j) k) := rfl
@[simp] theorem tallB_ap (xs : List Bool) : tallB xs = .ok (xs.all id) := rfl
@[simp] theorem tanyB_ap (xs : List Bool) : tanyB xs = .ok (xs.any id) := rfl
@[simp] theorem tcut_ap {α : Type} (xs : List α) (lo hi : Option Int) : tcut xs lo hi = .ok (cutG xs lo hi) := rfl
@[simp] theorem tcutV_ap {α : Type} (xs : Tup α) (lo hi : Option Int) : tcutV xs lo hi = .ok ⟨cutG xs.l lo hi⟩ := rfl
@[simp] theorem tpart_ap (i : Int) : tpart i = .ok (some i) := rfl
@[simp] theorem tenum_ap {α : Type} (xs : List α) : tenum xs = .ok (xs.mapIdx fun i d => ((i : Int), d)) := rfl
@[simp] theorem tzip_ap {α β : Type} (xs : List α) (ys : List β) : tzip xs ys = .ok (List.zipWith (fun a b => (a, b)) xs ys) := rfl
@[simp] theorem trev_ap {α : Type} (xs : List α) : trev xs = .ok xs.reverse := rfl
@[simp] theorem tsort_ap (xs : List Int) : tsort xs = .ok (srtI xs) := rfl
@[simp] theorem tseqV_ap {α : Type} (xs : Tup α) : tseqV xs = .ok xs.l := rfl
@[simp] theorem tnotB_ap (b : Bool) : tnotB b = .ok (!b) := rfl
@[simp] theorem tandB_ap (s t : R Bool) : tandB s t = s.bind fun b => if b then t else .ok false := rfl
@[simp] theorem torB_ap (s t : R Bool) : torB s t = s.bind fun b => if b then .ok true else t := rfl
@[simp] theorem tchain_ap {α β γ : Type} (g : α → β → R Bool) (g' : β → γ → R Bool) (s : R α) (t : R β) (u : R γ) : tchain g g' s t u = s.bind fun a => t.bind fun b => (g a b).bind fun k => if k then u.bind fun c => g' b c else .ok false := rfl
@[simp] theorem ttruI_ap (i : Int) : ttruI i = .ok (i != 0) := rfl
@[simp] theorem ttruL_ap {α : Type} (xs : List α) : ttruL xs = .ok (!xs.isEmpty) := rfl
@[simp] theorem ttruV_ap {α : Type} (xs : Tup α) : ttruV xs = .ok (!xs.l.isEmpty) := rfl
@[simp] theorem tisnoneO_ap {α : Type} (o : Option α) : tisnoneO o = .ok o.isNone := rfl
@[simp] theorem tisnoneD_ap (d : PyData) : tisnoneD d = .ok (match d with | .none => true | _ => false) := rfl
@[simp] theorem tcons_ap {α : Type} (s : R α) (t : R (List α)) : tcons s t = s.bind fun a => t.bind fun as => .ok (a :: as) := rfl
@[simp] theorem tpair_ap {α β : Type} (s : R α) (t : R β) : tpair s t = s.bind fun a => t.bind fun b => .ok (a, b) := rfl
@[simp] theorem tidxV_ap {α : Type} (xs : Tup α) (i : Int) : tidxV xs i = tidx xs.l i := rfl

/-! ### equality -/
class EqE (α : Type) [Enc α] where
  dec : DecidableEq α
  ok : α → Prop
  dep : Nat
  lay : ∀ a, ok a → okS dep (e a)
  eqv : ∀ a b : α, ok a → ok b → PyData.eqv (e a) (e b) = @decide (a = b) (dec a b)
instance : EqE Int where
  dec := inferInstance
  ok := fun _ => True
  dep := 1
  lay := fun _ _ => trivial
  eqv := fun a b _ _ => by simp [Enc.e, PyData.eqv, Bool.beq_eq_decide_eq]
instance : EqE Bool where
  dec := inferInstance
  ok := fun _ => True
  dep := 1
  lay := fun _ _ => trivial
  eqv := fun a b _ _ => by simp [Enc.e, PyData.eqv, Bool.beq_eq_decide_eq]
instance : EqE Str where
  dec := inferInstance
  ok := fun s => PyData.strOk s = true
  dep := 1
  lay := fun _ h => h
  eqv := fun a b _ _ => by simp [Enc.e, PyData.eqv, Bool.beq_eq_decide_eq]
instance : EqE Unit where
  dec := inferInstance
  ok := fun _ => True
  dep := 1
  lay := fun _ _ => trivial
  eqv := fun a b _ _ => by simp [Enc.e, PyData.eqv]
section
variable {α β γ δ ε ζ η : Type} [Enc α] [Enc β] [Enc γ] [Enc δ] [Enc ε] [Enc ζ] [Enc η]
theorem eqvAll_map [q : EqE α] : ∀ xs ys : List α, (∀ x ∈ xs, EqE.ok x) → (∀ x ∈ ys, EqE.ok x) → PyData.eqvAll (xs.map e) (ys.map e) = (@List.hasDecEq α q.dec xs ys).decide
  | [], [], _, _ => by simp [PyData.eqvAll]
  | [], _ :: _, _, _ => by simp [PyData.eqvAll]
  | _ :: _, [], _, _ => by simp [PyData.eqvAll]
  | x :: xs, y :: ys, h, g => by
    have ih := eqvAll_map xs ys (fun z hz => h z (List.mem_cons_of_mem _ hz)) fun z hz => g z (List.mem_cons_of_mem _ hz)
    have ix := EqE.eqv x y (h x List.mem_cons_self) (g y List.mem_cons_self)
    simp only [List.map_cons, PyData.eqvAll, ix, ih]
    rw [Bool.eq_iff_iff]
    simp
instance [q : EqE α] : EqE (List α) where
  dec := @List.hasDecEq α q.dec
  ok := fun xs => xs.length ≤ 16777216 ∧ ∀ x ∈ xs, EqE.ok x
  dep := EqE.dep α + 1
  lay := fun xs h => ⟨by rw [List.length_map]; exact h.1, fun x hx => by
    obtain ⟨a, ha, rfl⟩ := List.mem_map.mp hx
    exact EqE.lay a (h.2 a ha)⟩
  eqv := fun xs ys h g => by
    show PyData.eqv (.list _) (.list _) = _
    simp only [PyData.eqv]
    exact eqvAll_map xs ys h.2 g.2
instance [q : EqE α] : EqE (Tup α) where
  dec := fun a b => @instDecidableEqTup.decEq α q.dec a b
  ok := fun xs => xs.l.length ≤ 16777216 ∧ ∀ x ∈ xs.l, EqE.ok x
  dep := EqE.dep α + 1
  lay := fun xs h => ⟨by rw [List.length_map]; exact h.1, fun x hx => by
    obtain ⟨a, ha, rfl⟩ := List.mem_map.mp hx
    exact EqE.lay a (h.2 a ha)⟩
  eqv := fun xs ys h g => by
    obtain ⟨xs⟩ := xs
    obtain ⟨ys⟩ := ys
    show PyData.eqv (.tuple _) (.tuple _) = _
    simp only [PyData.eqv]
    rw [eqvAll_map xs ys h.2 g.2, Bool.eq_iff_iff]
    simp
theorem okS_m {n m : Nat} {d : PyData} (h : okS n d) (l : n ≤ m) : okS m d := okS.mono l h
instance [q : EqE α] : EqE (T1 α) where
  dec := fun a b => @instDecidableEqT1.decEq α q.dec a b
  ok := fun p => EqE.ok p.a
  dep := EqE.dep α + 1
  lay := fun p h => ⟨by simp, fun x hx => by
    rw [List.mem_singleton.mp hx]
    exact EqE.lay p.a h⟩
  eqv := fun p q h g => by
    obtain ⟨a⟩ := p
    obtain ⟨b⟩ := q
    show PyData.eqv (.tuple [e a]) (.tuple [e b]) = _
    simp only [PyData.eqv, PyData.eqvAll]
    rw [EqE.eqv a b h g, Bool.eq_iff_iff]
    simp
instance [q : EqE α] [r : EqE β] : EqE (α × β) where
  dec := @instDecidableEqProd α β q.dec r.dec
  ok := fun p => EqE.ok p.1 ∧ EqE.ok p.2
  dep := max (EqE.dep α) (EqE.dep β) + 1
  lay := fun p h => ⟨by simp, fun x hx => by
    simp only [List.mem_cons, List.not_mem_nil, or_false] at hx
    rcases hx with rfl | rfl
    · exact okS_m (EqE.lay _ h.1) (by omega)
    · exact okS_m (EqE.lay _ h.2) (by omega)⟩
  eqv := fun p q h g => by
    obtain ⟨a, b⟩ := p
    obtain ⟨c, d⟩ := q
    show PyData.eqv (.tuple [e a, e b]) (.tuple [e c, e d]) = _
    simp only [PyData.eqv, PyData.eqvAll]
    rw [EqE.eqv a c h.1 g.1, EqE.eqv b d h.2 g.2, Bool.eq_iff_iff]
    simp
instance [q : EqE α] [r : EqE β] [s : EqE γ] : EqE (T3 α β γ) where
  dec := fun a b => @instDecidableEqT3.decEq α β γ q.dec r.dec s.dec a b
  ok := fun p => EqE.ok p.a ∧ EqE.ok p.b ∧ EqE.ok p.c
  dep := max (EqE.dep α) (max (EqE.dep β) (EqE.dep γ)) + 1
  lay := fun p h => ⟨by simp, fun x hx => by
    simp only [List.mem_cons, List.not_mem_nil, or_false] at hx
    rcases hx with rfl | rfl | rfl
    · exact okS_m (EqE.lay _ h.1) (by omega)
    · exact okS_m (EqE.lay _ h.2.1) (by omega)
    · exact okS_m (EqE.lay _ h.2.2) (by omega)⟩
  eqv := fun p q h g => by
    obtain ⟨a, b, c⟩ := p
    obtain ⟨a', b', c'⟩ := q
    show PyData.eqv (.tuple [e a, e b, e c]) (.tuple [e a', e b', e c']) = _
    simp only [PyData.eqv, PyData.eqvAll]
    rw [EqE.eqv a a' h.1 g.1, EqE.eqv b b' h.2.1 g.2.1, EqE.eqv c c' h.2.2 g.2.2, Bool.eq_iff_iff]
    simp
instance [q : EqE α] [r : EqE β] [s : EqE γ] [t : EqE δ] : EqE (T4 α β γ δ) where
  dec := fun a b => @instDecidableEqT4.decEq α β γ δ q.dec r.dec s.dec t.dec a b
  ok := fun p => EqE.ok p.a ∧ EqE.ok p.b ∧ EqE.ok p.c ∧ EqE.ok p.d
  dep := max (max (EqE.dep α) (EqE.dep β)) (max (EqE.dep γ) (EqE.dep δ)) + 1
  lay := fun p h => ⟨by simp, fun x hx => by
    simp only [List.mem_cons, List.not_mem_nil, or_false] at hx
    rcases hx with rfl | rfl | rfl | rfl
    · exact okS_m (EqE.lay _ h.1) (by omega)
    · exact okS_m (EqE.lay _ h.2.1) (by omega)
    · exact okS_m (EqE.lay _ h.2.2.1) (by omega)
    · exact okS_m (EqE.lay _ h.2.2.2) (by omega)⟩
  eqv := fun p q h g => by
    obtain ⟨a, b, c, d⟩ := p
    obtain ⟨a', b', c', d'⟩ := q
    show PyData.eqv (.tuple [e a, e b, e c, e d]) (.tuple [e a', e b', e c', e d']) = _
    simp only [PyData.eqv, PyData.eqvAll]
    rw [EqE.eqv a a' h.1 g.1, EqE.eqv b b' h.2.1 g.2.1, EqE.eqv c c' h.2.2.1 g.2.2.1, EqE.eqv d d' h.2.2.2 g.2.2.2, Bool.eq_iff_iff]
    simp
end
noncomputable def teq {α : Type} [Enc α] [q : EqE α] (a b : α) : R Bool := @ite _ (EqE.ok a ∧ EqE.ok b) (Classical.propDecidable _) (.ok (@decide (a = b) (q.dec a b))) .stuck
noncomputable def tne {α : Type} [Enc α] [q : EqE α] (a b : α) : R Bool := @ite _ (EqE.ok a ∧ EqE.ok b) (Classical.propDecidable _) (.ok (!@decide (a = b) (q.dec a b))) .stuck
noncomputable def tin {α : Type} [Enc α] [q : EqE α] (a : α) (xs : List α) : R Bool := @ite _ (EqE.ok a ∧ EqE.ok xs) (Classical.propDecidable _) (.ok (xs.any fun x => @decide (x = a) (q.dec x a))) .stuck
noncomputable def tnin {α : Type} [Enc α] [q : EqE α] (a : α) (xs : List α) : R Bool := @ite _ (EqE.ok a ∧ EqE.ok xs) (Classical.propDecidable _) (.ok (!xs.any fun x => @decide (x = a) (q.dec x a))) .stuck
@[simp] theorem ok_int (a : Int) : EqE.ok a = True := rfl
@[simp] theorem ok_bool (a : Bool) : EqE.ok a = True := rfl
@[simp] theorem ok_unit (a : Unit) : EqE.ok a = True := rfl
@[simp] theorem ok_str (a : Str) : EqE.ok a = (PyData.strOk a = true) := rfl
section
variable {α β γ δ : Type} [Enc α] [Enc β] [Enc γ] [Enc δ]
@[simp] theorem ok_list [EqE α] (a : List α) : EqE.ok a = (a.length ≤ 16777216 ∧ ∀ x ∈ a, EqE.ok x) := rfl
@[simp] theorem ok_vt [EqE α] (a : Tup α) : EqE.ok a = (a.l.length ≤ 16777216 ∧ ∀ x ∈ a.l, EqE.ok x) := rfl
@[simp] theorem ok_t1 [EqE α] (p : T1 α) : EqE.ok p = EqE.ok p.a := rfl
@[simp] theorem ok_pair [EqE α] [EqE β] (p : α × β) : EqE.ok p = (EqE.ok p.1 ∧ EqE.ok p.2) := rfl
@[simp] theorem ok_t3 [EqE α] [EqE β] [EqE γ] (p : T3 α β γ) : EqE.ok p = (EqE.ok p.a ∧ EqE.ok p.b ∧ EqE.ok p.c) := rfl
@[simp] theorem ok_t4 [EqE α] [EqE β] [EqE γ] [EqE δ] (p : T4 α β γ δ) : EqE.ok p = (EqE.ok p.a ∧ EqE.ok p.b ∧ EqE.ok p.c ∧ EqE.ok p.d) := rfl
theorem decide_any {p : Prop} (d1 d2 : Decidable p) : @decide p d1 = @decide p d2 := by congr
theorem teq_ok [q : EqE α] [DecidableEq α] {a b : α} (h : EqE.ok a) (g : EqE.ok b) : teq a b = .ok (decide (a = b)) := by unfold teq; rw [if_pos ⟨h, g⟩]; congr
theorem tne_ok [q : EqE α] [DecidableEq α] {a b : α} (h : EqE.ok a) (g : EqE.ok b) : tne a b = .ok (!decide (a = b)) := by unfold tne; rw [if_pos ⟨h, g⟩]; congr
theorem tin_ok [q : EqE α] [DecidableEq α] {a : α} {xs : List α} (h : EqE.ok a) (g : EqE.ok xs) : tin a xs = .ok (decide (a ∈ xs)) := by
  unfold tin; rw [if_pos ⟨h, g⟩]
  congr 1
  rw [Bool.eq_iff_iff]
  simp
theorem tnin_ok [q : EqE α] [DecidableEq α] {a : α} {xs : List α} (h : EqE.ok a) (g : EqE.ok xs) : tnin a xs = .ok (!decide (a ∈ xs)) := by
  unfold tnin; rw [if_pos ⟨h, g⟩]
  congr 2
  rw [Bool.eq_iff_iff]
  simp
@[simp] theorem teq_int (a b : Int) : teq a b = .ok (decide (a = b)) := teq_ok trivial trivial
@[simp] theorem tne_int (a b : Int) : tne a b = .ok (!decide (a = b)) := tne_ok trivial trivial
@[simp] theorem teq_bool (a b : Bool) : teq a b = .ok (decide (a = b)) := teq_ok trivial trivial
@[simp] theorem tne_bool (a b : Bool) : tne a b = .ok (!decide (a = b)) := tne_ok trivial trivial
theorem teq_rfl [q : EqE α] {a : α} (h : EqE.ok a) : teq a a = .ok true := by letI := q.dec; rw [teq_ok h h]; simp
theorem tne_rfl [q : EqE α] {a : α} (h : EqE.ok a) : tne a a = .ok false := by letI := q.dec; rw [tne_ok h h]; simp
end
/-! ### what is there or not -/
class NN (α : Type) [Enc α] : Prop where
  nn : ∀ a : α, PyData.eqv .none (e a) = false ∧ PyData.eqv (e a) .none = false
instance : NN Int := ⟨fun _ => ⟨rfl, rfl⟩⟩
instance : NN Bool := ⟨fun _ => ⟨rfl, rfl⟩⟩
instance : NN Str := ⟨fun _ => ⟨rfl, rfl⟩⟩
instance {α : Type} [Enc α] : NN (List α) := ⟨fun _ => ⟨rfl, rfl⟩⟩
instance {α : Type} [Enc α] : NN (Tup α) := ⟨fun _ => ⟨rfl, rfl⟩⟩
instance {α : Type} [Enc α] : NN (T1 α) := ⟨fun _ => ⟨rfl, rfl⟩⟩
instance {α β : Type} [Enc α] [Enc β] : NN (α × β) := ⟨fun _ => ⟨rfl, rfl⟩⟩
instance {α β γ : Type} [Enc α] [Enc β] [Enc γ] : NN (T3 α β γ) := ⟨fun _ => ⟨rfl, rfl⟩⟩
instance {α β γ δ : Type} [Enc α] [Enc β] [Enc γ] [Enc δ] : NN (T4 α β γ δ) := ⟨fun _ => ⟨rfl, rfl⟩⟩
theorem dec_os {α : Type} (i : DecidableEq α) (j : DecidableEq (Option α)) (a b : α) : @decide (a = b) (i a b) = @decide (some a = some b) (j (some a) (some b)) := by
  by_cases h : a = b
  · rw [decide_eq_true h, decide_eq_true (congrArg some h)]
  · rw [decide_eq_false h, decide_eq_false fun k => h (Option.some.inj k)]
instance {α : Type} [Enc α] [q : EqE α] [n : NN α] : EqE (Option α) where
  dec := letI := q.dec; inferInstance
  ok := fun o => match o with | none => True | some a => EqE.ok a
  dep := EqE.dep α + 1
  lay := fun o h => by
    cases o with
    | none => exact trivial
    | some a => exact okS_m (EqE.lay a h) (by omega)
  eqv := fun a b h g => by
    cases a with
    | none => cases b with
      | none => rfl
      | some b => exact (NN.nn b).1
    | some a => cases b with
      | none => exact (NN.nn a).2
      | some b => exact (EqE.eqv a b h g).trans (dec_os _ _ _ _)
@[simp] theorem ok_onone {α : Type} [Enc α] [q : EqE α] [n : NN α] : EqE.ok (none : Option α) = True := rfl
@[simp] theorem ok_osome {α : Type} [Enc α] [q : EqE α] [n : NN α] (a : α) : EqE.ok (some a) = EqE.ok a := rfl
theorem ok_oint (a : Option Int) : EqE.ok a := by cases a <;> exact trivial
@[simp] theorem teq_oint (a b : Option Int) : teq a b = .ok (decide (a = b)) := teq_ok (ok_oint a) (ok_oint b)
@[simp] theorem tne_oint (a b : Option Int) : tne a b = .ok (!decide (a = b)) := tne_ok (ok_oint a) (ok_oint b)
end VL

namespace VL
open PySem PySem.Spec PyProof.Rows L2
open Enc (e)

/-! ### typed rules: expressions -/
section
variable {α β γ δ ε ζ η θ : Type} [Enc α] [Enc β] [Enc γ] [Enc δ] [Enc ε] [Enc ζ] [Enc η] [Enc θ] {ρ : PEnv} {f g h f1 f2 f3 f4 f5 f6 f7 : PEnv → R PyData}
theorem t_var (i : Nat) (a : α) (h : ρ[i]? = some (some (e a)) := by rfl) : TEq (vVar i ρ) (.ok a) := by
  show vVar i ρ = .ok (e a)
  unfold vVar; rw [h]
theorem t_varO (i : Nat) (ox : α → O) (a : α) (hd : ∀ a, O.data (ox a) = e a) (h : ρ[i]? = some (some (O.data (ox a))) := by rfl) : TEq (vVar i ρ) (.ok a) := by
  show vVar i ρ = .ok (e a)
  unfold vVar; rw [h, hd]
theorem t_c {d : PyData} (a : α) (h : d = e a := by rfl) : TEq (vC d ρ) (.ok a) := by rw [h]; exact rfl
theorem t_2 {op : PyData → PyData → R PyData} {top : α → β → R γ} {s : R α} {t : R β} (ho : ∀ a b, TEq (op (e a) (e b)) (top a b)) (ha : TEq (f ρ) s) (hb : TEq (g ρ) t) : TEq (v2 op f g ρ) (b2 top s t) :=
  ha.bind fun a => hb.bind fun b => ho a b
theorem t_1 {op : PyData → R PyData} {top : α → R γ} {s : R α} (ho : ∀ a, TEq (op (e a)) (top a)) (ha : TEq (f ρ) s) : TEq (v1 op f ρ) (b1 top s) := ha.bind ho
theorem t_vnn {top : α → R Bool} {s : R α} (ho : ∀ a, TEq (visnone (e a)) (top a)) (ha : TEq (f ρ) s) : TEq (vnn f ρ) (b1 tnotB (b1 top s)) := by
  rw [vnn_ap]
  show TEq _ ((s.bind top).bind tnotB)
  rw [R.bind_assoc]
  refine ha.bind fun a => ?_
  have h := ho a
  cases ht : top a with
  | stuck => trivial
  | err c => rw [ht] at h; exact nomatch (show visnone (e a) = .err c from h)
  | ok b =>
    rw [ht] at h
    have h2 : visnone (e a) = .ok (.bool b) := h
    unfold visnone at h2
    show R.ok _ = R.ok (PyData.bool (!b))
    cases hd : e a <;> (rw [hd] at h2; simp at h2; subst h2; rfl)
theorem t_tnn {top : α → R Bool} {s : R α} (ho : ∀ a, TEq (visnone (e a)) (top a)) (ha : TEq (f ρ) s) : TB (tnn f ρ) (b1 tnotB (b1 top s)) := by
  have h1 : TEq (v1 visnone f ρ) (b1 top s) := ha.bind ho
  exact h1.bind fun b => by cases b <;> rfl
theorem t_tst {s : R Bool} (ha : TEq (f ρ) s) : TB (tst f ρ) s := by
  cases s with
  | stuck => trivial
  | err c => show (f ρ).bind tbool = _; rw [show f ρ = .err c from ha]; rfl
  | ok b => show (f ρ).bind tbool = _; rw [show f ρ = .ok (.bool b) from ha]; rfl
theorem t_ttr {s : R α} {top : α → R Bool} (ho : ∀ a, TB (vtruth (e a)) (top a)) (ha : TEq (f ρ) s) : TB (ttr f ρ) (b1 top s) := ha.bind ho
theorem t_tand {c d : PEnv → R Bool} {s t : R Bool} (ha : TB (c ρ) s) (hb : TB (d ρ) t) : TB (tand c d ρ) (tandB s t) := ha.bind fun b => by cases b <;> first | exact hb | exact rfl
theorem t_tor {c d : PEnv → R Bool} {s t : R Bool} (ha : TB (c ρ) s) (hb : TB (d ρ) t) : TB (tor c d ρ) (torB s t) := ha.bind fun b => by cases b <;> first | exact hb | exact rfl
theorem t_tnot {c : PEnv → R Bool} {s : R Bool} (ha : TB (c ρ) s) : TB (tnot c ρ) (b1 tnotB s) := ha.bind fun b => rfl
theorem t_vand {s t : R Bool} (ha : TEq (f ρ) s) (hb : TEq (g ρ) t) : TEq (vand f g ρ) (tandB s t) := ha.bind fun b => by cases b <;> first | exact hb | exact rfl
theorem t_vor {s t : R Bool} (ha : TEq (f ρ) s) (hb : TEq (g ρ) t) : TEq (vor f g ρ) (torB s t) := ha.bind fun b => by cases b <;> first | exact hb | exact rfl
theorem t_vnot {s : R Bool} (ha : TEq (f ρ) s) : TEq (vnot f ρ) (b1 tnotB s) := ha.bind fun b => rfl
theorem t_vif {c : PEnv → R Bool} {u : R Bool} {s t : R α} (hc : TB (c ρ) u) (ha : TEq (f ρ) s) (hb : TEq (g ρ) t) : TEq (vif c f g ρ) (bite u s t) := hc.bind fun b => by cases b <;> first | exact hb | exact ha
theorem t_vchain {op op' : PyData → PyData → R PyData} {top : α → β → R Bool} {top' : β → γ → R Bool} {s : R α} {t : R β} {u : R γ} (ho : ∀ a b, TEq (op (e a) (e b)) (top a b)) (ho' : ∀ a b, TEq (op' (e a) (e b)) (top' a b)) (ha : TEq (f ρ) s) (hb : TEq (g ρ) t) (hc : TEq (h ρ) u) : TEq (vchain op op' f g h ρ) (tchain top top' s t u) :=
  ha.bind fun a => hb.bind fun b => (ho a b).bind fun k => by
    cases k
    · exact rfl
    · exact hc.bind fun c => ho' b c
/-! calls -/
theorem t_call0 {m : List PyData → R PyData} {t : R α} (hm : TEq (m []) t) : TEq ((fun _ : PEnv => m []) ρ) t := hm
theorem t_call1 {m : List PyData → R PyData} {t : α → R β} (hm : ∀ a, TEq (m [e a]) (t a)) {s1 : R α} (h1 : TEq (f1 ρ) s1) : TEq (vapp m (aCons f1 aNil) ρ) (b1 t s1) := by
  show TEq (R.bind (R.bind (f1 ρ) fun d => .ok [d]) m) _
  rw [R.bind_assoc]
  exact h1.bind fun a => hm a
theorem t_call2 {m : List PyData → R PyData} {t : α → β → R γ} (hm : ∀ a b, TEq (m [e a, e b]) (t a b)) {s1 : R α} {s2 : R β} (h1 : TEq (f1 ρ) s1) (h2 : TEq (f2 ρ) s2) : TEq (vapp m (aCons f1 (aCons f2 aNil)) ρ) (b2 t s1 s2) := by
  simp only [vapp_ap, aCons_ap, aNil_ap, R.bind_assoc, R.bind_ok]
  exact h1.bind fun a => h2.bind fun b => hm a b
theorem t_call3 {m : List PyData → R PyData} {t : α → β → γ → R δ} (hm : ∀ a b c, TEq (m [e a, e b, e c]) (t a b c)) {s1 : R α} {s2 : R β} {s3 : R γ} (h1 : TEq (f1 ρ) s1) (h2 : TEq (f2 ρ) s2) (h3 : TEq (f3 ρ) s3) : TEq (vapp m (aCons f1 (aCons f2 (aCons f3 aNil))) ρ) (b3 t s1 s2 s3) := by
  simp only [vapp_ap, aCons_ap, aNil_ap, R.bind_assoc, R.bind_ok]
  exact h1.bind fun a => h2.bind fun b => h3.bind fun c => hm a b c
theorem t_call4 {m : List PyData → R PyData} {t : α → β → γ → δ → R ε} (hm : ∀ a b c d, TEq (m [e a, e b, e c, e d]) (t a b c d)) {s1 : R α} {s2 : R β} {s3 : R γ} {s4 : R δ} (h1 : TEq (f1 ρ) s1) (h2 : TEq (f2 ρ) s2) (h3 : TEq (f3 ρ) s3) (h4 : TEq (f4 ρ) s4) : TEq (vapp m (aCons f1 (aCons f2 (aCons f3 (aCons f4 aNil)))) ρ) (b4 t s1 s2 s3 s4) := by
  simp only [vapp_ap, aCons_ap, aNil_ap, R.bind_assoc, R.bind_ok]
  exact h1.bind fun a => h2.bind fun b => h3.bind fun c => h4.bind fun d => hm a b c d
theorem t_call5 {m : List PyData → R PyData} {t : α → β → γ → δ → ε → R ζ} (hm : ∀ a b c d x, TEq (m [e a, e b, e c, e d, e x]) (t a b c d x)) {s1 : R α} {s2 : R β} {s3 : R γ} {s4 : R δ} {s5 : R ε} (h1 : TEq (f1 ρ) s1) (h2 : TEq (f2 ρ) s2) (h3 : TEq (f3 ρ) s3) (h4 : TEq (f4 ρ) s4) (h5 : TEq (f5 ρ) s5) : TEq (vapp m (aCons f1 (aCons f2 (aCons f3 (aCons f4 (aCons f5 aNil))))) ρ) (b5 t s1 s2 s3 s4 s5) := by
  simp only [vapp_ap, aCons_ap, aNil_ap, R.bind_assoc, R.bind_ok]
  exact h1.bind fun a => h2.bind fun b => h3.bind fun c => h4.bind fun d => h5.bind fun x => hm a b c d x
theorem t_call6 {m : List PyData → R PyData} {t : α → β → γ → δ → ε → ζ → R η} (hm : ∀ a b c d x y, TEq (m [e a, e b, e c, e d, e x, e y]) (t a b c d x y)) {s1 : R α} {s2 : R β} {s3 : R γ} {s4 : R δ} {s5 : R ε} {s6 : R ζ} (h1 : TEq (f1 ρ) s1) (h2 : TEq (f2 ρ) s2) (h3 : TEq (f3 ρ) s3) (h4 : TEq (f4 ρ) s4) (h5 : TEq (f5 ρ) s5) (h6 : TEq (f6 ρ) s6) : TEq (vapp m (aCons f1 (aCons f2 (aCons f3 (aCons f4 (aCons f5 (aCons f6 aNil)))))) ρ) (b6 t s1 s2 s3 s4 s5 s6) := by
  simp only [vapp_ap, aCons_ap, aNil_ap, R.bind_assoc, R.bind_ok]
  exact h1.bind fun a => h2.bind fun b => h3.bind fun c => h4.bind fun d => h5.bind fun x => h6.bind fun y => hm a b c d x y
theorem t_call7 {m : List PyData → R PyData} {t : α → β → γ → δ → ε → ζ → η → R θ} (hm : ∀ a b c d x y z, TEq (m [e a, e b, e c, e d, e x, e y, e z]) (t a b c d x y z)) {s1 : R α} {s2 : R β} {s3 : R γ} {s4 : R δ} {s5 : R ε} {s6 : R ζ} {s7 : R η} (h1 : TEq (f1 ρ) s1) (h2 : TEq (f2 ρ) s2) (h3 : TEq (f3 ρ) s3) (h4 : TEq (f4 ρ) s4) (h5 : TEq (f5 ρ) s5) (h6 : TEq (f6 ρ) s6) (h7 : TEq (f7 ρ) s7) : TEq (vapp m (aCons f1 (aCons f2 (aCons f3 (aCons f4 (aCons f5 (aCons f6 (aCons f7 aNil))))))) ρ) (b7 t s1 s2 s3 s4 s5 s6 s7) := by
  simp only [vapp_ap, aCons_ap, aNil_ap, R.bind_assoc, R.bind_ok]
  exact h1.bind fun a => h2.bind fun b => h3.bind fun c => h4.bind fun d => h5.bind fun x => h6.bind fun y => h7.bind fun z => hm a b c d x y z
/-! tuples, lists -/
def mk1 {α : Type} (a : α) : R (T1 α) := .ok ⟨a⟩
def mk2 {α β : Type} (a : α) (b : β) : R (α × β) := .ok (a, b)
def mk3 {α β γ : Type} (a : α) (b : β) (c : γ) : R (T3 α β γ) := .ok ⟨a, b, c⟩
def mk4 {α β γ δ : Type} (a : α) (b : β) (c : γ) (d : δ) : R (T4 α β γ δ) := .ok ⟨a, b, c, d⟩
def mk5 {α β γ δ ε : Type} (a : α) (b : β) (c : γ) (d : δ) (x : ε) : R (T5 α β γ δ ε) := .ok ⟨a, b, c, d, x⟩
def mk6 {α β γ δ ε ζ : Type} (a : α) (b : β) (c : γ) (d : δ) (x : ε) (y : ζ) : R (T6 α β γ δ ε ζ) := .ok ⟨a, b, c, d, x, y⟩
def mk7 {α β γ δ ε ζ η : Type} (a : α) (b : β) (c : γ) (d : δ) (x : ε) (y : ζ) (z : η) : R (T7 α β γ δ ε ζ η) := .ok ⟨a, b, c, d, x, y, z⟩
def mkV {α : Type} (xs : List α) : R (Tup α) := .ok ⟨xs⟩
@[simp] theorem mk1_ap {α : Type} (a : α) : mk1 a = .ok ⟨a⟩ := rfl
@[simp] theorem mk2_ap {α β : Type} (a : α) (b : β) : mk2 a b = .ok (a, b) := rfl
@[simp] theorem mk3_ap {α β γ : Type} (a : α) (b : β) (c : γ) : mk3 a b c = .ok ⟨a, b, c⟩ := rfl
@[simp] theorem mk4_ap {α β γ δ : Type} (a : α) (b : β) (c : γ) (d : δ) : mk4 a b c d = .ok ⟨a, b, c, d⟩ := rfl
@[simp] theorem mk5_ap {α β γ δ ε : Type} (a : α) (b : β) (c : γ) (d : δ) (x : ε) : mk5 a b c d x = .ok ⟨a, b, c, d, x⟩ := rfl
@[simp] theorem mk6_ap {α β γ δ ε ζ : Type} (a : α) (b : β) (c : γ) (d : δ) (x : ε) (y : ζ) : mk6 a b c d x y = .ok ⟨a, b, c, d, x, y⟩ := rfl
@[simp] theorem mk7_ap {α β γ δ ε ζ η : Type} (a : α) (b : β) (c : γ) (d : δ) (x : ε) (y : ζ) (z : η) : mk7 a b c d x y z = .ok ⟨a, b, c, d, x, y, z⟩ := rfl
@[simp] theorem mkV_ap {α : Type} (xs : List α) : mkV xs = .ok ⟨xs⟩ := rfl
theorem t_tup1 {s1 : R α} (h1 : TEq (f1 ρ) s1) : TEq (vtup (aCons f1 aNil) ρ) (b1 mk1 s1) := by
  simp only [vtup_ap, aCons_ap, aNil_ap, R.bind_assoc, R.bind_ok]
  exact h1.bind fun a => rfl
theorem t_tup2 {s1 : R α} {s2 : R β} (h1 : TEq (f1 ρ) s1) (h2 : TEq (f2 ρ) s2) : TEq (vtup (aCons f1 (aCons f2 aNil)) ρ) (b2 mk2 s1 s2) := by
  simp only [vtup_ap, aCons_ap, aNil_ap, R.bind_assoc, R.bind_ok]
  exact h1.bind fun a => h2.bind fun b => rfl
theorem t_tup3 {s1 : R α} {s2 : R β} {s3 : R γ} (h1 : TEq (f1 ρ) s1) (h2 : TEq (f2 ρ) s2) (h3 : TEq (f3 ρ) s3) : TEq (vtup (aCons f1 (aCons f2 (aCons f3 aNil))) ρ) (b3 mk3 s1 s2 s3) := by
  simp only [vtup_ap, aCons_ap, aNil_ap, R.bind_assoc, R.bind_ok]
  exact h1.bind fun a => h2.bind fun b => h3.bind fun c => rfl
theorem t_tup4 {s1 : R α} {s2 : R β} {s3 : R γ} {s4 : R δ} (h1 : TEq (f1 ρ) s1) (h2 : TEq (f2 ρ) s2) (h3 : TEq (f3 ρ) s3) (h4 : TEq (f4 ρ) s4) : TEq (vtup (aCons f1 (aCons f2 (aCons f3 (aCons f4 aNil)))) ρ) (b4 mk4 s1 s2 s3 s4) := by
  simp only [vtup_ap, aCons_ap, aNil_ap, R.bind_assoc, R.bind_ok]
  exact h1.bind fun a => h2.bind fun b => h3.bind fun c => h4.bind fun d => rfl
theorem t_tup5 {s1 : R α} {s2 : R β} {s3 : R γ} {s4 : R δ} {s5 : R ε} (h1 : TEq (f1 ρ) s1) (h2 : TEq (f2 ρ) s2) (h3 : TEq (f3 ρ) s3) (h4 : TEq (f4 ρ) s4) (h5 : TEq (f5 ρ) s5) : TEq (vtup (aCons f1 (aCons f2 (aCons f3 (aCons f4 (aCons f5 aNil))))) ρ) (b5 mk5 s1 s2 s3 s4 s5) := by
  simp only [vtup_ap, aCons_ap, aNil_ap, R.bind_assoc, R.bind_ok]
  exact h1.bind fun a => h2.bind fun b => h3.bind fun c => h4.bind fun d => h5.bind fun x => rfl
theorem t_tup6 {s1 : R α} {s2 : R β} {s3 : R γ} {s4 : R δ} {s5 : R ε} {s6 : R ζ} (h1 : TEq (f1 ρ) s1) (h2 : TEq (f2 ρ) s2) (h3 : TEq (f3 ρ) s3) (h4 : TEq (f4 ρ) s4) (h5 : TEq (f5 ρ) s5) (h6 : TEq (f6 ρ) s6) : TEq (vtup (aCons f1 (aCons f2 (aCons f3 (aCons f4 (aCons f5 (aCons f6 aNil)))))) ρ) (b6 mk6 s1 s2 s3 s4 s5 s6) := by
  simp only [vtup_ap, aCons_ap, aNil_ap, R.bind_assoc, R.bind_ok]
  exact h1.bind fun a => h2.bind fun b => h3.bind fun c => h4.bind fun d => h5.bind fun x => h6.bind fun y => rfl
theorem t_tup7 {s1 : R α} {s2 : R β} {s3 : R γ} {s4 : R δ} {s5 : R ε} {s6 : R ζ} {s7 : R η} (h1 : TEq (f1 ρ) s1) (h2 : TEq (f2 ρ) s2) (h3 : TEq (f3 ρ) s3) (h4 : TEq (f4 ρ) s4) (h5 : TEq (f5 ρ) s5) (h6 : TEq (f6 ρ) s6) (h7 : TEq (f7 ρ) s7) : TEq (vtup (aCons f1 (aCons f2 (aCons f3 (aCons f4 (aCons f5 (aCons f6 (aCons f7 aNil))))))) ρ) (b7 mk7 s1 s2 s3 s4 s5 s6 s7) := by
  simp only [vtup_ap, aCons_ap, aNil_ap, R.bind_assoc, R.bind_ok]
  exact h1.bind fun a => h2.bind fun b => h3.bind fun c => h4.bind fun d => h5.bind fun x => h6.bind fun y => h7.bind fun z => rfl
theorem t_nil : TL (aNil ρ) (.ok ([] : List α)) := rfl
theorem t_cons {g : PEnv → R (List PyData)} {s : R α} {t : R (List α)} (ha : TEq (f ρ) s) (hb : TL (g ρ) t) : TL (aCons f g ρ) (tcons s t) := ha.bind fun a => hb.bind fun as => rfl
theorem t_tupV {g : PEnv → R (List PyData)} {s : R (List α)} (ha : TL (g ρ) s) : TEq (vtup g ρ) (b1 mkV s) := ha.bind fun as => rfl
theorem t_list {g : PEnv → R (List PyData)} {s : R (List α)} (ha : TL (g ρ) s) : TEq (vlistOf g ρ) s := by
  cases s with
  | stuck => trivial
  | err c => show (g ρ).bind _ = _; rw [show g ρ = .err c from ha]; rfl
  | ok b => show (g ρ).bind _ = _; rw [show g ρ = .ok (b.map e) from ha]; rfl
theorem t_callL1 {m : List PyData → R PyData} {t : List α → R β} (hm : ∀ a, TEq (m [e a]) (t a)) {g : PEnv → R (List PyData)} {s : R (List α)} (ha : TL (g ρ) s) : TEq (vapp m (aCons (vlistOf g) aNil) ρ) (b1 t s) := t_call1 hm (t_list ha)
/-! items walked -/
theorem t_isq {s : R (List α)} (ha : TEq (f ρ) s) : TL (isq f ρ) s := by
  cases s with
  | stuck => trivial
  | err c => show (f ρ).bind _ = _; rw [show f ρ = .err c from ha]; rfl
  | ok b => show (f ρ).bind _ = _; rw [show f ρ = .ok (e b) from ha]; rfl
theorem t_isqV {s : R (Tup α)} (ha : TEq (f ρ) s) : TL (isq f ρ) (b1 tseqV s) := ha.bind fun _ => rfl
def tseq2 {α : Type} (p : α × α) : R (List α) := .ok [p.1, p.2]
def tseq3 {α : Type} (p : T3 α α α) : R (List α) := .ok [p.a, p.b, p.c]
def tseq4 {α : Type} (p : T4 α α α α) : R (List α) := .ok [p.a, p.b, p.c, p.d]
@[simp] theorem tseq2_ap {α : Type} (p : α × α) : tseq2 p = .ok [p.1, p.2] := rfl
@[simp] theorem tseq3_ap {α : Type} (p : T3 α α α) : tseq3 p = .ok [p.a, p.b, p.c] := rfl
@[simp] theorem tseq4_ap {α : Type} (p : T4 α α α α) : tseq4 p = .ok [p.a, p.b, p.c, p.d] := rfl
theorem t_isq2 {s : R (α × α)} (ha : TEq (f ρ) s) : TL (isq f ρ) (b1 tseq2 s) := ha.bind fun _ => rfl
theorem t_isq3 {s : R (T3 α α α)} (ha : TEq (f ρ) s) : TL (isq f ρ) (b1 tseq3 s) := ha.bind fun _ => rfl
theorem t_isq4 {s : R (T4 α α α α)} (ha : TEq (f ρ) s) : TL (isq f ρ) (b1 tseq4 s) := ha.bind fun _ => rfl
theorem TL_id {x : R (List PyData)} : TL x x := by cases x with
  | stuck => trivial
  | err c => exact rfl
  | ok a => show R.ok a = .ok (a.map e); rw [show (e : PyData → PyData) = id from rfl, List.map_id]
theorem t_isqD {s : R PyData} (ha : TEq (f ρ) s) : TL (isq f ρ) (b1 seqD s) := ha.bind fun d => TL_id
theorem t_i1 {op : PyData → R (List PyData)} {top : α → R (List γ)} {s : R α} (ho : ∀ a, TL (op (e a)) (top a)) (ha : TEq (f ρ) s) : TL (i1 op f ρ) (b1 top s) := ha.bind ho
theorem t_i2 {op : PyData → PyData → R (List PyData)} {top : α → β → R (List γ)} {s : R α} {t : R β} (ho : ∀ a b, TL (op (e a) (e b)) (top a b)) (ha : TEq (f ρ) s) (hb : TEq (g ρ) t) : TL (i2 op f g ρ) (b2 top s t) := ha.bind fun a => hb.bind fun b => ho a b
theorem TQ.calm {α γ : Type} {f : α → γ} {x : R γ} {t : R α} (h : TQ f x t) : TQ f x.calm t.calm := by
  cases t with
  | stuck => trivial
  | err c => trivial
  | ok a => rw [show x = .ok (f a) from h]; exact rfl
theorem compL_T {kt : PyData → R (List (Nat × PyData))} {ft : PEnv → R Bool} {fe : PEnv → R PyData} {ρ : PEnv} {bs : β → List (Nat × PyData)} {k : α → R β} {c : β → R Bool} {t : β → R γ} (hk : ∀ a, TQ bs (kt (e a)) (k a)) (hc : ∀ b, TB (ft (setsD ρ (bs b))) (c b)) (hf : ∀ b, TEq (fe (setsD ρ (bs b))) (t b)) : ∀ xs : List α, TL (compL kt ft fe ρ (xs.map e)) (tcomp (fun a => (k a).bind c) (fun a => (k a).bind t) xs)
  | [] => rfl
  | a :: as => by
    have ih := compL_T hk hc hf as
    have h1 := hk a
    show TQ _ ((kt (e a)).bind _) ((((k a).bind c).calm).bind _)
    cases hka : k a with
    | stuck => trivial
    | err s => trivial
    | ok b =>
      rw [h1.ok hka]
      simp only [hka, R.bind_ok]
      refine (hc b).calm.bind fun z => ?_
      cases z with
      | false => exact ih
      | true =>
        simp only [if_true]
        exact (hf b).calm.bind (f' := List.map e) (k := fun d => (compL kt ft fe ρ (List.map e as)).bind fun ys => R.ok (d :: ys)) (l := fun y => (tcomp (fun a => (k a).bind c) (fun a => (k a).bind t) as).bind fun ys => .ok (y :: ys)) fun y => ih.bind (k := fun ys => .ok (e y :: ys)) (l := fun ys => .ok (y :: ys)) fun ys => (show TL (R.ok (e y :: List.map e ys)) (R.ok (y :: ys)) from rfl)
theorem t_comp {own : List Nat} {fi : PEnv → R (List PyData)} {kt : PyData → R (List (Nat × PyData))} {ft : PEnv → R Bool} {fe : PEnv → R PyData} {s : R (List α)} {c : β → R Bool} {t : β → R γ} (bs : β → List (Nat × PyData)) (k : α → R β) (hi : TL (fi ρ) s) (hk : ∀ a, TQ bs (kt (e a)) (k a)) (hc : ∀ b, TB (ft (setsD (wipeD ρ own) (bs b))) (c b)) (hf : ∀ b, TEq (fe (setsD (wipeD ρ own) (bs b))) (t b)) :
    TL (vcomp own fi kt ft fe ρ) (s.bind fun xs => (tcomp (fun a => (k a).bind c) (fun a => (k a).bind t) xs).calm) := hi.bind (l := fun xs => (tcomp (fun a => (k a).bind c) (fun a => (k a).bind t) xs).calm) fun xs => (compL_T hk hc hf xs).calm
theorem tcomp_yes {α γ : Type} (f : α → R γ) : ∀ xs : List α, tcomp (fun _ => .ok true) f xs = tmap f xs
  | [] => rfl
  | a :: as => by
    show R.bind _ _ = R.bind _ _
    simp only [calm_okk, R.bind_ok, if_true, tcomp_yes f as]
theorem t_map {own : List Nat} {fi : PEnv → R (List PyData)} {kt : PyData → R (List (Nat × PyData))} {fe : PEnv → R PyData} {s : R (List α)} {t : α → R γ} (bs : α → List (Nat × PyData)) (hi : TL (fi ρ) s) (hk : ∀ a, kt (e a) = .ok (bs a)) (hf : ∀ b, TEq (fe (setsD (wipeD ρ own) (bs b))) (t b)) :
    TL (vcomp own fi kt tyes fe ρ) (s.bind fun xs => (tmap t xs).calm) := by
  have h := t_comp (ρ := ρ) (own := own) (fi := fi) (kt := kt) (ft := tyes) (fe := fe) (c := fun _ => .ok true) (t := t) bs (fun a => .ok a) hi (fun a => hk a) (fun b => rfl) hf
  simp only [R.bind_ok, tcomp_yes] at h
  exact h
theorem t_fil {own : List Nat} {fi : PEnv → R (List PyData)} {kt : PyData → R (List (Nat × PyData))} {ft : PEnv → R Bool} {fe : PEnv → R PyData} {s : R (List α)} {c : α → R Bool} {t : α → R γ} (bs : α → List (Nat × PyData)) (hi : TL (fi ρ) s) (hk : ∀ a, kt (e a) = .ok (bs a)) (hc : ∀ b, TB (ft (setsD (wipeD ρ own) (bs b))) (c b)) (hf : ∀ b, TEq (fe (setsD (wipeD ρ own) (bs b))) (t b)) :
    TL (vcomp own fi kt ft fe ρ) (s.bind fun xs => (tcomp c t xs).calm) := by
  have h := t_comp (ρ := ρ) (own := own) (fi := fi) (kt := kt) (ft := ft) (fe := fe) (c := c) (t := t) bs (fun a => .ok a) hi (fun a => hk a) hc hf
  simp only [R.bind_ok] at h
  exact h
/-! slices -/
theorem t_part {s : R Int} (h : TEq (f ρ) s) : TO (vpart f ρ) (b1 tpart s) := h.bind fun _ => rfl
theorem t_nopart : TO (vnopart ρ) (.ok none) := rfl
theorem cut_map {α β : Type} (g : α → β) (xs : List α) (lo hi : Option Int) : cutG (xs.map g) lo hi = (cutG xs lo hi).map g := by
  unfold cutG
  rw [List.length_map, List.map_take, List.map_drop]
theorem t_slice {l u : PEnv → R (Option Int)} {s : R (List α)} {a b : R (Option Int)} (h : TEq (f ρ) s) (hl : TO (l ρ) a) (hu : TO (u ρ) b) : TEq (vslice f l u ρ) (b3 tcut s a b) :=
  h.bind fun xs => hl.bind fun lo => hu.bind fun hi => by
    show R.ok (PyData.list (cutL _ _ _)) = _
    exact congrArg (fun z => R.ok (PyData.list z)) (cut_map e xs lo hi)
theorem t_sliceV {l u : PEnv → R (Option Int)} {s : R (Tup α)} {a b : R (Option Int)} (h : TEq (f ρ) s) (hl : TO (l ρ) a) (hu : TO (u ρ) b) : TEq (vslice f l u ρ) (b3 tcutV s a b) :=
  h.bind fun xs => hl.bind fun lo => hu.bind fun hi => by
    show R.ok (PyData.tuple (cutL _ _ _)) = _
    exact congrArg (fun z => R.ok (PyData.tuple z)) (cut_map e xs.l lo hi)
theorem t_sliceD {l u : PEnv → R (Option Int)} {s : R PyData} {a b : R (Option Int)} (h : TEq (f ρ) s) (hl : TO (l ρ) a) (hu : TO (u ρ) b) : TEq (vslice f l u ρ) (b3 (fun d lo hi => vcut lo hi d) s a b) :=
  h.bind fun xs => hl.bind fun lo => hu.bind fun hi => by
    show TEq (vcut lo hi xs) (vcut lo hi xs)
    cases vcut lo hi xs <;> first | exact rfl | trivial
theorem t_fslice {l u : PEnv → R (Option Int)} {s : R (List α)} {a b : R (Option Int)} (h : TEq (f ρ) s) (hl : TO (l ρ) a) (hu : TO (u ρ) b) : TL (fslice f l u ρ) (b3 tcut s a b) :=
  h.bind fun xs => hl.bind fun lo => hu.bind fun hi => by
    show R.ok (cutL _ _ _) = _
    exact congrArg R.ok (cut_map e xs lo hi)
theorem t_fcat {s t : R (List α)} (h : TEq (f ρ) s) (h' : TEq (g ρ) t) : TL (fcat f g ρ) (b2 taddL s t) :=
  h.bind fun xs => h'.bind fun ys => by
    show TL (if (xs.map e).length + (ys.map e).length ≤ sizeLine then _ else _) (taddL xs ys)
    unfold taddL
    rw [List.length_map, List.length_map, szL]
    split
    · show R.ok _ = R.ok _
      rw [List.map_append]
    · trivial
theorem t_frev {s : R (List α)} (h : TEq (f ρ) s) : TL (frev f ρ) (b1 trev s) := h.bind fun xs => by
  show R.ok _ = R.ok _
  rw [List.map_reverse]
theorem t_fsort {s : R (List Int)} (h : TEq (f ρ) s) : TL (fsort f ρ) (b1 tsort s) := h.bind fun xs => lsort_ints xs
theorem t_index {top : List α → β → R Int} {s : R (List α)} {t : R β} (ho : ∀ a b, TEq (vindex (e a) (e b)) (top a b)) (ha : TEq (f ρ) s) (hb : TEq (g ρ) t) : TEq (vindexF f g ρ) (b2 top s t) := ha.bind fun a => hb.bind fun b => ho a b
/-! change of type -/
def Co (c : α → R β) : Prop := ∀ a, TEq (.ok (e a)) (c a)
theorem t_co {x : R PyData} {s : R α} {c : α → R β} (hc : Co c) (h : TEq x s) : TEq x (b1 c s) := by
  cases s with
  | stuck => trivial
  | err c => exact h
  | ok a => rw [show x = .ok (e a) from h]; exact hc a
def cUp (a : α) : R PyData := .ok (e a)
@[simp] theorem cUp_ap (a : α) : cUp a = .ok (e a) := rfl
theorem Co.up : Co (cUp : α → R PyData) := fun _ => rfl
def cInt : PyData → R Int | .int i => .ok i | _ => .stuck
theorem Co.int : Co cInt := fun d => by cases d <;> first | exact rfl | trivial
@[simp] theorem cInt_ap (i : Int) : cInt (.int i) = .ok i := rfl
def cBool : PyData → R Bool | .bool i => .ok i | _ => .stuck
theorem Co.bool : Co cBool := fun d => by cases d <;> first | exact rfl | trivial
@[simp] theorem cBool_ap (i : Bool) : cBool (.bool i) = .ok i := rfl
def cStr : PyData → R Str | .str i => .ok i | _ => .stuck
theorem Co.str : Co cStr := fun d => by cases d <;> first | exact rfl | trivial
@[simp] theorem cStr_ap (i : Str) : cStr (.str i) = .ok i := rfl
def cNil (_ : List Empty) : R (List α) := .ok []
instance : Enc Empty := ⟨fun x => nomatch x⟩
theorem Co.nil : Co (cNil : List Empty → R (List α)) := fun xs => by cases xs with
  | nil => exact rfl
  | cons x _ => exact nomatch x
@[simp] theorem cNil_ap (x : List Empty) : (cNil x : R (List α)) = .ok [] := rfl
theorem tmap_Co {c : α → R β} (hc : Co c) : ∀ xs : List α, TL (.ok (xs.map e)) (tmap c xs)
  | [] => rfl
  | a :: as => by
    have h1 := hc a
    have ih := tmap_Co hc as
    unfold tmap
    cases hca : c a with
    | stuck => trivial
    | err s => trivial
    | ok b =>
      rw [hca] at h1
      simp only [calm_okk, R.bind_ok]
      cases hcs : tmap c as with
      | stuck => trivial
      | err s => rw [hcs] at ih; exact nomatch (show R.ok (as.map e) = .err s from ih)
      | ok bs =>
        rw [hcs] at ih
        have e1 : R.ok (as.map e) = .ok (bs.map e) := ih
        have e2 : R.ok (e a) = .ok (e b) := h1
        show R.ok (e a :: as.map e) = .ok (e b :: bs.map e)
        rw [R.ok.inj e1, R.ok.inj e2]
theorem Co.list {c : α → R β} (hc : Co c) : Co (tmap c) := fun xs => by
  have h := tmap_Co hc xs
  generalize tmap c xs = t at h
  cases t with
  | stuck => trivial
  | err s => exact nomatch (show R.ok (xs.map e) = .err s from h)
  | ok ys => exact congrArg (fun z => R.ok (PyData.list z)) (R.ok.inj (show R.ok (xs.map e) = .ok (ys.map e) from h))
def cFst {α β γ : Type} (c : α → R γ) (d : β → R δ) (p : α × β) : R (γ × δ) := (c p.1).bind fun x => (d p.2).bind fun y => .ok (x, y)
def cL2 {α : Type} (xs : List α) : R (α × α) := match xs with | [a, b] => .ok (a, b) | _ => .stuck
def cV2 {α : Type} (xs : Tup α) : R (α × α) := match xs.l with | [a, b] => .ok (a, b) | _ => .stuck
def cSome {α : Type} : Option α → R α | some a => .ok a | none => .stuck
@[simp] theorem cSome_ap {α : Type} (a : α) : cSome (some a) = .ok a := rfl
theorem Co.some : Co (cSome : Option α → R α) := fun o => by cases o <;> first | exact rfl | trivial
def cJust {α : Type} (a : α) : R (Option α) := .ok (some a)
@[simp] theorem cJust_ap {α : Type} (a : α) : cJust a = .ok (some a) := rfl
theorem Co.just : Co (cJust : α → R (Option α)) := fun a => rfl
def cNone {α : Type} (_ : Unit) : R (Option α) := .ok none
@[simp] theorem cNone_ap {α : Type} (u : Unit) : (cNone u : R (Option α)) = .ok none := rfl
theorem Co.none : Co (cNone : Unit → R (Option α)) := fun a => rfl
def cP2 {α β γ δ : Type} (c : α → R γ) (d : β → R δ) (p : α × β) : R (γ × δ) := (c p.1).bind fun x => (d p.2).bind fun y => .ok (x, y)
@[simp] theorem cP2_ap {α β γ δ : Type} (c : α → R γ) (d : β → R δ) (p : α × β) : cP2 c d p = (c p.1).bind fun x => (d p.2).bind fun y => .ok (x, y) := rfl
theorem Co.p2 {c : α → R γ} {d : β → R δ} (hc : Co c) (hd : Co d) : Co (cP2 c d) := fun p => by
  have h1 := hc p.1
  have h2 := hd p.2
  unfold cP2
  cases hx : c p.1 with
  | stuck => trivial
  | err s => rw [hx] at h1; exact nomatch (show R.ok (e p.1) = .err s from h1)
  | ok x =>
    cases hy : d p.2 with
    | stuck => trivial
    | err s => rw [hy] at h2; exact nomatch (show R.ok (e p.2) = .err s from h2)
    | ok y =>
      rw [hx] at h1; rw [hy] at h2
      show R.ok (PyData.tuple [e p.1, e p.2]) = .ok (PyData.tuple [e x, e y])
      rw [R.ok.inj (show R.ok (e p.1) = .ok (e x) from h1), R.ok.inj (show R.ok (e p.2) = .ok (e y) from h2)]
def c2V {α : Type} (p : α × α) : R (Tup α) := .ok ⟨[p.1, p.2]⟩
def c3V {α : Type} (p : T3 α α α) : R (Tup α) := .ok ⟨[p.a, p.b, p.c]⟩
def c4V {α : Type} (p : T4 α α α α) : R (Tup α) := .ok ⟨[p.a, p.b, p.c, p.d]⟩
def c1V {α : Type} (p : T1 α) : R (Tup α) := .ok ⟨[p.a]⟩
@[simp] theorem c1V_ap {α : Type} (p : T1 α) : c1V p = .ok ⟨[p.a]⟩ := rfl
@[simp] theorem c2V_ap {α : Type} (p : α × α) : c2V p = .ok ⟨[p.1, p.2]⟩ := rfl
@[simp] theorem c3V_ap {α : Type} (p : T3 α α α) : c3V p = .ok ⟨[p.a, p.b, p.c]⟩ := rfl
@[simp] theorem c4V_ap {α : Type} (p : T4 α α α α) : c4V p = .ok ⟨[p.a, p.b, p.c, p.d]⟩ := rfl
theorem Co.t1 : Co (c1V : T1 α → R (Tup α)) := fun _ => rfl
theorem Co.t2 : Co (c2V : α × α → R (Tup α)) := fun _ => rfl
theorem Co.t3 : Co (c3V : T3 α α α → R (Tup α)) := fun _ => rfl
theorem Co.t4 : Co (c4V : T4 α α α α → R (Tup α)) := fun _ => rfl
end
/-! more changes of type -/
section
variable {α β γ δ α' β' γ' δ' : Type} [Enc α] [Enc β] [Enc γ] [Enc δ] [Enc α'] [Enc β'] [Enc γ'] [Enc δ']
theorem Co.inv {c : α → R β} (hc : Co c) (a : α) : c a = .stuck ∨ ∃ b, c a = .ok b ∧ e a = e b := by
  have h := hc a
  cases hx : c a with
  | stuck => exact .inl rfl
  | err s => rw [hx] at h; exact nomatch (show R.ok (e a) = .err s from h)
  | ok b => rw [hx] at h; exact .inr ⟨b, rfl, R.ok.inj (show R.ok (e a) = .ok (e b) from h)⟩
def cP3 (c : α → R α') (d : β → R β') (f : γ → R γ') (p : T3 α β γ) : R (T3 α' β' γ') := (c p.a).bind fun x => (d p.b).bind fun y => (f p.c).bind fun z => .ok ⟨x, y, z⟩
def cP4 (c : α → R α') (d : β → R β') (f : γ → R γ') (g : δ → R δ') (p : T4 α β γ δ) : R (T4 α' β' γ' δ') := (c p.a).bind fun x => (d p.b).bind fun y => (f p.c).bind fun z => (g p.d).bind fun w => .ok ⟨x, y, z, w⟩
@[simp] theorem cP3_ap (c : α → R α') (d : β → R β') (f : γ → R γ') (p : T3 α β γ) : cP3 c d f p = (c p.a).bind fun x => (d p.b).bind fun y => (f p.c).bind fun z => .ok ⟨x, y, z⟩ := rfl
@[simp] theorem cP4_ap (c : α → R α') (d : β → R β') (f : γ → R γ') (g : δ → R δ') (p : T4 α β γ δ) : cP4 c d f g p = (c p.a).bind fun x => (d p.b).bind fun y => (f p.c).bind fun z => (g p.d).bind fun w => .ok ⟨x, y, z, w⟩ := rfl
theorem Co.p3 {c : α → R α'} {d : β → R β'} {f : γ → R γ'} (hc : Co c) (hd : Co d) (hf : Co f) : Co (cP3 c d f) := fun p => by
  unfold cP3
  rcases hc.inv p.a with h | ⟨x, h, e1⟩
  · rw [h]; trivial
  rcases hd.inv p.b with h2 | ⟨y, h2, e2⟩
  · rw [h, h2]; trivial
  rcases hf.inv p.c with h3 | ⟨z, h3, e3⟩
  · rw [h, h2, h3]; trivial
  rw [h, h2, h3]
  show R.ok (PyData.tuple [e p.a, e p.b, e p.c]) = .ok (PyData.tuple [e x, e y, e z])
  rw [e1, e2, e3]
theorem Co.p4 {c : α → R α'} {d : β → R β'} {f : γ → R γ'} {g : δ → R δ'} (hc : Co c) (hd : Co d) (hf : Co f) (hg : Co g) : Co (cP4 c d f g) := fun p => by
  unfold cP4
  rcases hc.inv p.a with h | ⟨x, h, e1⟩
  · rw [h]; trivial
  rcases hd.inv p.b with h2 | ⟨y, h2, e2⟩
  · rw [h, h2]; trivial
  rcases hf.inv p.c with h3 | ⟨z, h3, e3⟩
  · rw [h, h2, h3]; trivial
  rcases hg.inv p.d with h4 | ⟨w, h4, e4⟩
  · rw [h, h2, h3, h4]; trivial
  rw [h, h2, h3, h4]
  show R.ok (PyData.tuple [e p.a, e p.b, e p.c, e p.d]) = .ok (PyData.tuple [e x, e y, e z, e w])
  rw [e1, e2, e3, e4]
end
/-! casts ahead of a pattern -/
section
variable {α : Type} [Enc α]
def cL3 {α : Type} (xs : List α) : R (T3 α α α) := match xs with | [a, b, c] => .ok ⟨a, b, c⟩ | _ => .stuck
def cV3 {α : Type} (xs : Tup α) : R (T3 α α α) := match xs.l with | [a, b, c] => .ok ⟨a, b, c⟩ | _ => .stuck
def cL4 {α : Type} (xs : List α) : R (T4 α α α α) := match xs with | [a, b, c, d] => .ok ⟨a, b, c, d⟩ | _ => .stuck
def cV4 {α : Type} (xs : Tup α) : R (T4 α α α α) := match xs.l with | [a, b, c, d] => .ok ⟨a, b, c, d⟩ | _ => .stuck
def cD1 : PyData → R (T1 PyData) | .tuple [a] => .ok ⟨a⟩ | .list [a] => .ok ⟨a⟩ | _ => .stuck
def cD2 : PyData → R (PyData × PyData) | .tuple [a, b] => .ok (a, b) | .list [a, b] => .ok (a, b) | _ => .stuck
def cD3 : PyData → R (T3 PyData PyData PyData) | .tuple [a, b, c] => .ok ⟨a, b, c⟩ | .list [a, b, c] => .ok ⟨a, b, c⟩ | _ => .stuck
def cD4 : PyData → R (T4 PyData PyData PyData PyData) | .tuple [a, b, c, d] => .ok ⟨a, b, c, d⟩ | .list [a, b, c, d] => .ok ⟨a, b, c, d⟩ | _ => .stuck
theorem cL2_k {i j : Nat} (xs : List α) : TQ (fun p : α × α => [(i, e p.1), (j, e p.2)]) (gT (gC (gN i) (gC (gN j) gE)) (e xs)) (cL2 xs) := by
  rcases xs with _ | ⟨a, _ | ⟨b, _ | ⟨c, xs⟩⟩⟩ <;> first | exact rfl | trivial
theorem cV2_k {i j : Nat} (xs : Tup α) : TQ (fun p : α × α => [(i, e p.1), (j, e p.2)]) (gT (gC (gN i) (gC (gN j) gE)) (e xs)) (cV2 xs) := by
  obtain ⟨xs⟩ := xs
  rcases xs with _ | ⟨a, _ | ⟨b, _ | ⟨c, xs⟩⟩⟩ <;> first | exact rfl | trivial
theorem cL3_k {i j k : Nat} (xs : List α) : TQ (fun p : T3 α α α => [(i, e p.a), (j, e p.b), (k, e p.c)]) (gT (gC (gN i) (gC (gN j) (gC (gN k) gE))) (e xs)) (cL3 xs) := by
  rcases xs with _ | ⟨a, _ | ⟨b, _ | ⟨c, _ | ⟨d, xs⟩⟩⟩⟩ <;> first | exact rfl | trivial
theorem cV3_k {i j k : Nat} (xs : Tup α) : TQ (fun p : T3 α α α => [(i, e p.a), (j, e p.b), (k, e p.c)]) (gT (gC (gN i) (gC (gN j) (gC (gN k) gE))) (e xs)) (cV3 xs) := by
  obtain ⟨xs⟩ := xs
  rcases xs with _ | ⟨a, _ | ⟨b, _ | ⟨c, _ | ⟨d, xs⟩⟩⟩⟩ <;> first | exact rfl | trivial
theorem cL4_k {i j k l : Nat} (xs : List α) : TQ (fun p : T4 α α α α => [(i, e p.a), (j, e p.b), (k, e p.c), (l, e p.d)]) (gT (gC (gN i) (gC (gN j) (gC (gN k) (gC (gN l) gE)))) (e xs)) (cL4 xs) := by
  rcases xs with _ | ⟨a, _ | ⟨b, _ | ⟨c, _ | ⟨d, _ | ⟨x, xs⟩⟩⟩⟩⟩ <;> first | exact rfl | trivial
theorem cV4_k {i j k l : Nat} (xs : Tup α) : TQ (fun p : T4 α α α α => [(i, e p.a), (j, e p.b), (k, e p.c), (l, e p.d)]) (gT (gC (gN i) (gC (gN j) (gC (gN k) (gC (gN l) gE)))) (e xs)) (cV4 xs) := by
  obtain ⟨xs⟩ := xs
  rcases xs with _ | ⟨a, _ | ⟨b, _ | ⟨c, _ | ⟨d, _ | ⟨x, xs⟩⟩⟩⟩⟩ <;> first | exact rfl | trivial
theorem cD2_k {i j : Nat} (d : PyData) : TQ (fun p : PyData × PyData => [(i, e p.1), (j, e p.2)]) (gT (gC (gN i) (gC (gN j) gE)) (e d)) (cD2 d) := by
  cases d with
  | tuple xs => rcases xs with _ | ⟨a, _ | ⟨b, _ | ⟨c, xs⟩⟩⟩ <;> first | exact rfl | trivial
  | list xs => rcases xs with _ | ⟨a, _ | ⟨b, _ | ⟨c, xs⟩⟩⟩ <;> first | exact rfl | trivial
  | _ => trivial
theorem cD3_k {i j k : Nat} (d : PyData) : TQ (fun p : T3 PyData PyData PyData => [(i, e p.a), (j, e p.b), (k, e p.c)]) (gT (gC (gN i) (gC (gN j) (gC (gN k) gE))) (e d)) (cD3 d) := by
  cases d with
  | tuple xs => rcases xs with _ | ⟨a, _ | ⟨b, _ | ⟨c, _ | ⟨y, xs⟩⟩⟩⟩ <;> first | exact rfl | trivial
  | list xs => rcases xs with _ | ⟨a, _ | ⟨b, _ | ⟨c, _ | ⟨y, xs⟩⟩⟩⟩ <;> first | exact rfl | trivial
  | _ => trivial
theorem cD4_k {i j k l : Nat} (d : PyData) : TQ (fun p : T4 PyData PyData PyData PyData => [(i, e p.a), (j, e p.b), (k, e p.c), (l, e p.d)]) (gT (gC (gN i) (gC (gN j) (gC (gN k) (gC (gN l) gE)))) (e d)) (cD4 d) := by
  cases d with
  | tuple xs => rcases xs with _ | ⟨a, _ | ⟨b, _ | ⟨c, _ | ⟨y, _ | ⟨x, xs⟩⟩⟩⟩⟩ <;> first | exact rfl | trivial
  | list xs => rcases xs with _ | ⟨a, _ | ⟨b, _ | ⟨c, _ | ⟨y, _ | ⟨x, xs⟩⟩⟩⟩⟩ <;> first | exact rfl | trivial
  | _ => trivial
end
end VL

namespace VL
open PySem PySem.Spec PyProof.Rows L2
open Enc (e)

/-! ### operators, typed -/
theorem cite_pos {p : Prop} (h : p) {α : Type} {a b : α} : @ite α p (Classical.propDecidable p) a b = a := if_pos h
theorem cite_neg {p : Prop} (h : ¬ p) {α : Type} {a b : α} : @ite α p (Classical.propDecidable p) a b = b := if_neg h
section
variable {α β γ δ ε ζ η θ : Type} [Enc α] [Enc β] [Enc γ] [Enc δ] [Enc ε] [Enc ζ] [Enc η] [Enc θ]
theorem o_addI (a b : Int) : TEq (vadd (e a) (e b)) (taddI a b) := rfl
theorem o_subI (a b : Int) : TEq (vsub (e a) (e b)) (tsubI a b) := rfl
theorem o_mulI (a b : Int) : TEq (vmul (e a) (e b)) (tmulI a b) := by
  show TEq (if IntMulOk a b then _ else _) (if IntMulOk a b then _ else _)
  by_cases h : IntMulOk a b
  · rw [if_pos h, if_pos h]; exact rfl
  · rw [if_neg h, if_neg h]; trivial
theorem o_fdivI (a b : Int) : TEq (vfdiv (e a) (e b)) (tfdivI a b) := by
  by_cases h : 0 < b ∧ b < 2 ^ 250
  · rw [show tfdivI a b = .ok (a / b) from if_pos h]; exact if_pos h
  · rw [show tfdivI a b = .stuck from if_neg h]; trivial
theorem o_modI (a b : Int) : TEq (vmod (e a) (e b)) (tmodI a b) := by
  show TEq (if 0 < b then _ else _) (if 0 < b then _ else _)
  split
  · exact rfl
  · trivial
theorem o_powI (a b : Int) : TEq (vpow (e a) (e b)) (tpowI a b) := by
  by_cases h : 0 ≤ b ∧ b ≤ 1000 ∧ a.natAbs < 2 ^ 64
  · rw [show tpowI a b = .ok (a ^ b.toNat) from if_pos h]; exact if_pos h
  · rw [show tpowI a b = .stuck from if_neg h]; trivial
theorem o_negI (a : Int) : TEq (vneg (e a)) (tnegI a) := rfl
theorem o_ltI (a b : Int) : TEq (vlt (e a) (e b)) (tltI a b) := rfl
theorem o_leI (a b : Int) : TEq (vle (e a) (e b)) (tleI a b) := rfl
theorem o_gtI (a b : Int) : TEq (vgt (e a) (e b)) (tgtI a b) := rfl
theorem o_geI (a b : Int) : TEq (vge (e a) (e b)) (tgeI a b) := rfl
theorem o_addL (a b : List α) : TEq (vadd (e a) (e b)) (taddL a b) := by
  show TEq (if (a.map e).length + (b.map e).length ≤ sizeLine then _ else _) (if _ then _ else _)
  rw [List.length_map, List.length_map, szL]
  split
  · show R.ok (PyData.list _) = R.ok (PyData.list _)
    rw [List.map_append]
  · trivial
theorem o_addV (a b : Tup α) : TEq (vadd (e a) (e b)) (taddV a b) := by
  show TEq (if (a.l.map e).length + (b.l.map e).length ≤ sizeLine then _ else _) (if _ then _ else _)
  rw [List.length_map, List.length_map, szL]
  split
  · show R.ok (PyData.tuple _) = R.ok (PyData.tuple _)
    rw [List.map_append]
  · trivial
theorem o_addS (a b : Str) : TEq (vadd (e a) (e b)) (taddS a b) := by
  show TEq (if _ then _ else _) (if _ then _ else _)
  split
  · exact rfl
  · trivial
theorem atI_map {α β : Type} (f : α → β) (xs : List α) (i : Int) : atI (xs.map f) i = (atI xs i).map f := by
  unfold atI
  rw [List.length_map]
  cases ixN xs.length i <;> simp
theorem o_idx (a : List α) (b : Int) : TEq (vidx (e a) (e b)) (tidx a b) := by
  show TEq (match atI (a.map e) b with | some d => .ok d | none => .stuck) (match atI a b with | some d => .ok d | none => .stuck)
  rw [atI_map]
  cases atI a b <;> first | exact rfl | trivial
theorem o_idxV (a : Tup α) (b : Int) : TEq (vidx (e a) (e b)) (tidxV a b) := by
  show TEq (match atI (a.l.map e) b with | some d => .ok d | none => .stuck) (match atI a.l b with | some d => .ok d | none => .stuck)
  rw [atI_map]
  cases atI a.l b <;> first | exact rfl | trivial
/-- an item of a written tuple -/
def pj {α β : Type} (f : α → β) (a : α) : R β := .ok (f a)
@[simp] theorem pj_ap {α β : Type} (f : α → β) (a : α) : pj f a = .ok (f a) := rfl
theorem o_pj {n : Int} {p : α → β} (h : ∀ a : α, vidx (e a) (.int n) = .ok (e (p a)) := by intro _; rfl) {ρ : PEnv} {f : PEnv → R PyData} {s : R α} (ha : TEq (f ρ) s) : TEq (v2 vidx f (vC (.int n)) ρ) (b1 (pj p) s) := ha.bind fun a => h a
theorem o_pjN {n : Int} {p : α → β} (h : ∀ a : α, vidx (e a) (.int (-n)) = .ok (e (p a)) := by intro _; rfl) {ρ : PEnv} {f : PEnv → R PyData} {s : R α} (ha : TEq (f ρ) s) : TEq (v2 vidx f (v1 vneg (vC (.int n))) ρ) (b1 (pj p) s) := ha.bind fun a => h a
/-- a[len(a) - n] -/
theorem o_pjL {n : Int} {p : α → β} (h : ∀ a : α, ((vlen [e a]).bind fun m => (vsub m (.int n)).bind fun j => vidx (e a) j) = .ok (e (p a)) := by intro _; rfl) {ρ : PEnv} {f : PEnv → R PyData} {s : R α} (ha : TEq (f ρ) s) : TEq (v2 vidx f (v2 vsub (vapp vlen (aCons f aNil)) (vC (.int n))) ρ) (b1 (pj p) s) := by
  cases s with
  | stuck => trivial
  | err c =>
    have ha : f ρ = .err c := ha
    show R.bind (f ρ) _ = _
    rw [ha]; rfl
  | ok a =>
    have ha : f ρ = .ok (e a) := ha
    show R.bind (f ρ) _ = _
    rw [ha]
    show R.bind (R.bind (R.bind (R.bind (f ρ) _) vlen) _) _ = _
    rw [ha]
    have h := h a
    show R.bind (R.bind (vlen [e a]) (fun d => vsub d (.int n))) (fun j => vidx (e a) j) = _
    cases q : vlen [e a] with
    | stuck => rw [q] at h; exact h
    | err c => rw [q] at h; exact h
    | ok m => rw [q] at h; exact h
theorem vEq_T [q : EqE α] (a b : α) (h : EqE.ok a ∧ EqE.ok b) (hd : EqE.dep α ≤ 64) : vEq (e a) (e b) = .ok (@decide (a = b) (q.dec a b)) := by
  rw [vEq_ok (EqE.lay a h.1) (EqE.lay b h.2) hd hd, EqE.eqv a b h.1 h.2]
theorem o_eq [q : EqE α] (hd : EqE.dep α ≤ 64 := by decide) (a b : α) : TEq (veq (e a) (e b)) (teq a b) := by
  unfold teq
  by_cases h : EqE.ok a ∧ EqE.ok b
  · rw [if_pos h]; unfold veq; rw [vEq_T a b h hd]; exact rfl
  · rw [if_neg h]; trivial
theorem o_ne [q : EqE α] (hd : EqE.dep α ≤ 64 := by decide) (a b : α) : TEq (vne (e a) (e b)) (tne a b) := by
  unfold tne
  by_cases h : EqE.ok a ∧ EqE.ok b
  · rw [if_pos h]; unfold vne; rw [vEq_T a b h hd]; exact rfl
  · rw [if_neg h]; trivial
theorem any_T [q : EqE α] {a : α} (ha : EqE.ok a) : ∀ {xs : List α}, (∀ x ∈ xs, EqE.ok x) → ((xs.map e).any fun z => PyData.eqv z (e a)) = xs.any fun x => @decide (x = a) (q.dec x a)
  | [], _ => rfl
  | x :: xs, h => by
    rw [List.map_cons, List.any_cons, List.any_cons, any_T ha fun y hy => h y (List.mem_cons_of_mem _ hy), EqE.eqv x a (h x List.mem_cons_self) ha]
theorem o_in [q : EqE α] (hd : EqE.dep α + 1 ≤ 64 := by decide) (a : α) (b : List α) : TEq (vIn (e a) (e b)) (tin a b) := by
  unfold tin
  by_cases h : EqE.ok a ∧ EqE.ok b
  · rw [if_pos h]
    show TEq (vIn (e a) (.list (b.map e))) _
    rw [vIn_ok (EqE.lay a h.1) (EqE.lay b h.2) (by omega) hd, any_T h.1 h.2.2]; exact rfl
  · rw [if_neg h]; trivial
theorem o_nin [q : EqE α] (hd : EqE.dep α + 1 ≤ 64 := by decide) (a : α) (b : List α) : TEq (vNotIn (e a) (e b)) (tnin a b) := by
  unfold tnin
  by_cases h : EqE.ok a ∧ EqE.ok b
  · rw [if_pos h]
    show TEq (vNotIn (e a) (.list (b.map e))) _
    rw [vNotIn_ok (EqE.lay a h.1) (EqE.lay b h.2) (by omega) hd, any_T h.1 h.2.2]; exact rfl
  · rw [if_neg h]; trivial
noncomputable def tinV {α : Type} [Enc α] [EqE α] (a : α) (xs : Tup α) : R Bool := tin a xs.l
noncomputable def tninV {α : Type} [Enc α] [EqE α] (a : α) (xs : Tup α) : R Bool := tnin a xs.l
@[simp] theorem tinV_ap [EqE α] (a : α) (xs : Tup α) : tinV a xs = tin a xs.l := rfl
@[simp] theorem tninV_ap [EqE α] (a : α) (xs : Tup α) : tninV a xs = tnin a xs.l := rfl
theorem o_inV [q : EqE α] (hd : EqE.dep α + 1 ≤ 64 := by decide) (a : α) (b : Tup α) : TEq (vInT (e a) (e b)) (tinV a b) := by
  unfold tinV tin
  by_cases h : EqE.ok a ∧ EqE.ok b.l
  · rw [if_pos h]
    show TEq (vInT (e a) (.tuple (b.l.map e))) _
    rw [vInT_ok (EqE.lay a h.1) (EqE.lay (α := Tup α) b h.2) (by omega) hd, any_T h.1 h.2.2]; exact rfl
  · rw [if_neg h]; trivial
theorem o_ninV [q : EqE α] (hd : EqE.dep α + 1 ≤ 64 := by decide) (a : α) (b : Tup α) : TEq (vNotInT (e a) (e b)) (tninV a b) := by
  unfold tninV tnin
  by_cases h : EqE.ok a ∧ EqE.ok b.l
  · rw [if_pos h]
    show TEq (vNotInT (e a) (.tuple (b.l.map e))) _
    rw [vNotInT_ok (EqE.lay a h.1) (EqE.lay (α := Tup α) b h.2) (by omega) hd, any_T h.1 h.2.2]; exact rfl
  · rw [if_neg h]; trivial
noncomputable def tindex {α : Type} [Enc α] [q : EqE α] (xs : List α) (a : α) : R Int := @ite _ (EqE.ok a ∧ EqE.ok xs) (Classical.propDecidable _) (match xs.findIdx? fun x => @decide (x = a) (q.dec x a) with | some j => .ok (j : Nat) | none => .stuck) .stuck
theorem find_T [q : EqE α] {a : α} (ha : EqE.ok a) : ∀ {xs : List α}, (∀ x ∈ xs, EqE.ok x) → ((xs.map e).findIdx? fun z => PyData.eqv z (e a)) = xs.findIdx? fun x => @decide (x = a) (q.dec x a)
  | [], _ => rfl
  | x :: xs, h => by
    rw [List.map_cons, List.findIdx?_cons, List.findIdx?_cons, find_T ha fun y hy => h y (List.mem_cons_of_mem _ hy), EqE.eqv x a (h x List.mem_cons_self) ha]
theorem o_index [q : EqE α] (hd : EqE.dep α + 1 ≤ 64 := by decide) (b : List α) (a : α) : TEq (vindex (e b) (e a)) (tindex b a) := by
  unfold tindex
  by_cases h : EqE.ok a ∧ EqE.ok b
  · rw [if_pos h]
    show TEq (if _ then _ else _) _
    rw [if_pos ⟨okS.shaped (EqE.lay b h.2) hd, okS.shaped (EqE.lay a h.1) (by omega)⟩, find_T h.1 h.2.2]
    cases b.findIdx? fun x => @decide (x = a) (q.dec x a) <;> first | exact rfl | trivial
  · rw [if_neg h]; trivial
/- anything over data -/
theorem o_D2 {op : PyData → PyData → R PyData} (a b : PyData) : TEq (op (e a) (e b)) (op a b) := by
  show TEq (op a b) (op a b)
  cases op a b <;> first | exact rfl | trivial
theorem o_D1 {op : PyData → R PyData} (a : PyData) : TEq (op (e a)) (op a) := by
  show TEq (op a) (op a)
  cases op a <;> first | exact rfl | trivial
def dB (op : PyData → PyData → R PyData) (a b : PyData) : R Bool := (op a b).bind cBool
def dB1 (op : PyData → R PyData) (a : PyData) : R Bool := (op a).bind cBool
@[simp] theorem dB_ap (op : PyData → PyData → R PyData) (a b : PyData) : dB op a b = (op a b).bind cBool := rfl
@[simp] theorem dB1_ap (op : PyData → R PyData) (a : PyData) : dB1 op a = (op a).bind cBool := rfl
theorem o_DB2 {op : PyData → PyData → R PyData} (a b : PyData) : TEq (op (e a) (e b)) (dB op a b) := t_co Co.bool (o_D2 a b)
theorem o_DB1 {op : PyData → R PyData} (a : PyData) : TEq (op (e a)) (dB1 op a) := t_co Co.bool (o_D1 a)
/- built-ins -/
theorem o_len (a : List α) : TEq (vlen [e a]) (tlen a) := by show R.ok (PyData.int ((a.map e).length)) = _; rw [List.length_map]; rfl
theorem o_lenV (a : Tup α) : TEq (vlen [e a]) (tlenV a) := by show R.ok (PyData.int ((a.l.map e).length)) = _; rw [List.length_map]; rfl
theorem o_lenS (a : Str) : TEq (vlen [e a]) (tlenS a) := by
  show TEq (if _ then _ else _) (if _ then _ else _)
  split
  · exact rfl
  · trivial
theorem o_D1L {op : List PyData → R PyData} (a : PyData) : TEq (op [e a]) (op [a]) := by
  show TEq (op [a]) (op [a])
  cases op [a] <;> first | exact rfl | trivial
theorem o_int (a : Int) : TEq (vint1 [e a]) (tint a) := rfl
theorem o_intB (a : Bool) : TEq (vint1 [e a]) (tintB a) := rfl
theorem o_abs (a : Int) : TEq (vabs [e a]) (tabs a) := rfl
theorem o_tupL (a : List α) : TEq (vtuple1 [e a]) (ttupL a) := rfl
theorem o_tupV (a : Tup α) : TEq (vtuple1 [e a]) (tid a) := rfl
theorem o_listL (a : List α) : TEq (vlist1 [e a]) (tid a) := rfl
theorem o_listV (a : Tup α) : TEq (vlist1 [e a]) (tlistV a) := rfl
theorem o_sum (a : List Int) : TEq (vsum [e a]) (tsum a) := vsum_ints a
theorem o_all (a : List Bool) : TEq (vall [e a]) (tallB a) := vall_bools a
theorem o_any (a : List Bool) : TEq (vany [e a]) (tanyB a) := vany_bools a
theorem o_maxL (a : List Int) : TEq (vmax [e a]) (tmaxL a) := by
  show TEq (match intsOf (a.map PyData.int) with | some ns => vmax1 ns | none => .stuck) _
  rw [intsOf_map]
  show TEq (vmax1 a) _
  unfold tmaxL vmax1
  cases a.max? <;> first | exact rfl | trivial
theorem o_minL (a : List Int) : TEq (vmin [e a]) (tminL a) := by
  show TEq (match intsOf (a.map PyData.int) with | some ns => vmin1 ns | none => .stuck) _
  rw [intsOf_map]
  show TEq (vmin1 a) _
  unfold tminL vmin1
  cases a.min? <;> first | exact rfl | trivial
theorem o_max2 (a b : Int) : TEq (vmax [e a, e b]) (tmax2 a b) := rfl
theorem o_min2 (a b : Int) : TEq (vmin [e a, e b]) (tmin2 a b) := rfl
theorem o_max3 (a b c : Int) : TEq (vmax3 [e a, e b, e c]) (tmax3 a b c) := rfl
theorem o_min3 (a b c : Int) : TEq (vmin3 [e a, e b, e c]) (tmin3 a b c) := rfl
theorem o_range1 (j : Int) : TL (vrange1 (e j)) (trange1 j) := by
  show TL (if rngOk 0 j then _ else _) (if rngOk 0 j then _ else _)
  split
  · show R.ok _ = R.ok _
    unfold rangeD rangeI; rw [List.map_map]; rfl
  · trivial
theorem o_range2 (i j : Int) : TL (vrange2 (e i) (e j)) (trange2 i j) := by
  show TL (if rngOk i j then _ else _) (if rngOk i j then _ else _)
  split
  · show R.ok _ = R.ok _
    unfold rangeD rangeI; rw [List.map_map]; rfl
  · trivial
theorem o_rangeN (i j : Int) : TL (vrangeN (e i) (e j)) (trangeN i j) := by
  show TL (if rngOk i j ∧ i - j ≤ 16777216 then _ else _) (if rngOk i j ∧ i - j ≤ 16777216 then _ else _)
  split
  · show R.ok _ = R.ok _
    unfold rangeCD rangeCI; rw [List.map_map]; rfl
  · trivial
theorem o_enum (xs : List α) : TL (venum (e xs)) (tenum xs) := by
  show R.ok (enumD (xs.map e)) = R.ok _
  unfold enumD
  congr 1
  apply List.ext_getElem?
  intro i
  simp only [List.getElem?_mapIdx, List.getElem?_map, Option.map_map]
  rfl
theorem o_zip (xs : List α) (ys : List β) : TL (vzip (e xs) (e ys)) (tzip xs ys) := by
  show R.ok (zipD (xs.map e) (ys.map e)) = R.ok _
  unfold zipD
  rw [List.zipWith_map, List.map_zipWith]; rfl
theorem o_rev (xs : List α) : TL (vrev (e xs)) (trev xs) := by
  show R.ok _ = R.ok _
  rw [List.map_reverse]
theorem o_truI (i : Int) : TB (vtruth (e i)) (ttruI i) := rfl
theorem o_truB (i : Bool) : TB (vtruth (e i)) (tid i) := rfl
theorem o_truL (i : List α) : TB (vtruth (e i)) (ttruL i) := by cases i <;> rfl
theorem o_truV (i : Tup α) : TB (vtruth (e i)) (ttruV i) := by obtain ⟨i⟩ := i; cases i <;> rfl
theorem TB_id {x : R Bool} : TB x x := by cases x <;> first | exact rfl | trivial
theorem o_truD (i : PyData) : TB (vtruth (e i)) (vtruth i) := TB_id
theorem o_isnoneD (i : PyData) : TEq (visnone (e i)) (tisnoneD i) := rfl
theorem o_isnoneK (b : Bool) (h : ∀ a : α, visnone (e a) = .ok (.bool b)) (i : α) : TEq (visnone (e i)) ((fun _ => R.ok b) i) := h i
/-- an answer that the type gives -/
def tK {α : Type} (b : Bool) (_ : α) : R Bool := .ok b
@[simp] theorem tK_ap {α : Type} (b : Bool) (a : α) : tK b a = .ok b := rfl
theorem o_K {op : PyData → R PyData} {b : Bool} (h : ∀ a : α, op (e a) = .ok (.bool b) := by intro _; rfl) (i : α) : TEq (op (e i)) (tK b i) := h i

/-! ### what is one's own -/
abbrev oF (a : α) : O := .fz (e a)
abbrev oL {α : Type} (ox : α → O) (xs : List α) : O := .lst (xs.map ox)
theorem dF (a : α) : O.data (oF a) = e a := O.data_fz _
theorem dL {ox : α → O} (h : ∀ a, O.data (ox a) = e a) (xs : List α) : O.data (oL ox xs) = e xs := by
  show _ = PyData.list (xs.map e)
  rw [O.data_lst, List.map_map]
  congr 1
  exact List.map_congr_left fun a _ => h a
/-- values without lists -/
class LF (α : Type) [Enc α] : Prop where
  h : ∀ a : α, lf (e a) = true
instance : LF Int := ⟨lf_int⟩
instance : LF Bool := ⟨lf_bool⟩
instance : LF Str := ⟨lf_str⟩
instance : LF Unit := ⟨fun _ => lf_none⟩
instance [LF α] : LF (T1 α) := ⟨fun p => by show lf (.tuple _) = true; simp [LF.h]⟩
instance [LF α] [LF β] : LF (α × β) := ⟨fun p => by show lf (.tuple _) = true; simp [LF.h]⟩
instance [LF α] [LF β] [LF γ] : LF (T3 α β γ) := ⟨fun p => by show lf (.tuple _) = true; simp [LF.h]⟩
instance [LF α] [LF β] [LF γ] [LF δ] : LF (T4 α β γ δ) := ⟨fun p => by show lf (.tuple _) = true; simp [LF.h]⟩
instance [LF α] [LF β] [LF γ] [LF δ] [LF ε] : LF (T5 α β γ δ ε) := ⟨fun p => by show lf (.tuple _) = true; simp [LF.h]⟩
theorem lfs_map [LF α] : ∀ xs : List α, lfs (xs.map e) = true
  | [] => lfs_nil
  | x :: xs => by rw [List.map_cons, lfs_cons, LF.h, lfs_map xs]; rfl
instance [LF α] : LF (Tup α) := ⟨fun p => by show lf (.tuple _) = true; rw [lf_tuple]; exact lfs_map _⟩
instance [LF α] : LF (Option α) := ⟨fun p => by cases p with | none => exact lf_none | some a => exact LF.h a⟩
theorem t_exF {f : PEnv → R PyData} {ρ : OEnv} {s : R α} (h : TEq (f (viewF ρ)) s) : TEq (exF f ρ) s := h
theorem t_exB [LF α] {f : PEnv → R PyData} {ρ : OEnv} {s : R α} (h : TEq (f (viewB ρ)) s) : TEq (exB f ρ) s := by
  show TEq ((f (viewB ρ)).bind lfok) s
  cases s with
  | stuck => trivial
  | err c => show (f (viewB ρ)).bind lfok = _; rw [show f (viewB ρ) = .err c from h]; rfl
  | ok a => show (f (viewB ρ)).bind lfok = _; rw [show f (viewB ρ) = .ok (e a) from h]; show (if lf (e a) = true then _ else _) = _; rw [if_pos (LF.h a)]
/-- data that may hold a list -/
theorem t_exBD {f : PEnv → R PyData} {ρ : OEnv} {s : R PyData} (h : TEq (f (viewB ρ)) s) : TEq (exB f ρ) (b1 lfok s) := h.bind fun d => by
  show TEq (lfok d) (lfok d)
  cases lfok d <;> first | exact rfl | trivial
theorem p_x {h : OEnv → R PyData} {ρ : OEnv} {s : R α} (hs : TEq (h ρ) s) : TQ (fun a : α => (oF a, ρ)) (oX h ρ) s := by
  cases s with
  | stuck => trivial
  | err c => show (h ρ).bind _ = _; rw [show h ρ = .err c from hs]; rfl
  | ok a => show (h ρ).bind _ = _; rw [show h ρ = .ok (e a) from hs]; rfl
theorem p_frF {f : PEnv → R (List PyData)} {ρ : OEnv} {s : R (List α)} (hs : TL (f (viewF ρ)) s) : TQ (fun a : List α => (oL oF a, ρ)) (oFrF f ρ) s := by
  cases s with
  | stuck => trivial
  | err c => show (f (viewF ρ)).bind _ = _; rw [show f (viewF ρ) = .err c from hs]; rfl
  | ok a => show (f (viewF ρ)).bind _ = _; rw [show f (viewF ρ) = .ok (a.map e) from hs]; show R.ok _ = R.ok _; rw [List.map_map]; rfl
theorem p_frB [LF α] {f : PEnv → R (List PyData)} {ρ : OEnv} {s : R (List α)} (hs : TL (f (viewB ρ)) s) : TQ (fun a : List α => (oL oF a, ρ)) (oFrB f ρ) s := by
  cases s with
  | stuck => trivial
  | err c => show (f (viewB ρ)).bind _ = _; rw [show f (viewB ρ) = .err c from hs]; rfl
  | ok a => show (f (viewB ρ)).bind _ = _; rw [show f (viewB ρ) = .ok (a.map e) from hs]; show (if lfs (a.map e) = true then _ else _) = R.ok _; rw [if_pos (lfs_map a), List.map_map]; rfl
theorem p_mv {α : Type} {ox : α → O} {ρ : OEnv} (i : Nat) (a : α) (h : ρ[i]? = some (some (ox a)) := by rfl) : TQ (fun a : α => (ox a, ρ.set i none)) (oMv i ρ) (.ok a) := by
  show oMv i ρ = _
  unfold oMv; rw [h]
def tpop {α : Type} (xs : List α) : R (α × List α) := match xs[xs.length - 1]? with | some a => .ok (a, xs.eraseIdx (xs.length - 1)) | none => .stuck
theorem p_pop {α : Type} {ox : α → O} {ρ : OEnv} (i : Nat) (xs : List α) (h : ρ[i]? = some (some (oL ox xs)) := by rfl) : TQ (fun p : α × List α => (ox p.1, ρ.set i (some (oL ox p.2)))) (oPop i ρ) (tpop xs) := by
  unfold oPop tpop; rw [h]
  simp only [List.length_map, List.getElem?_map]
  cases xs[xs.length - 1]? with
  | none => trivial
  | some a => show R.ok _ = R.ok _; rw [erase_map]
noncomputable def tpopAt {α : Type} (xs : List α) (j : Int) : R (α × List α) := @ite _ (0 ≤ j ∧ j < 16777216) (Classical.propDecidable _) (match xs[j.toNat]? with | some a => .ok (a, xs.eraseIdx j.toNat) | none => .stuck) .stuck
theorem p_popAt {α : Type} {ox : α → O} {ρ : OEnv} {hk : OEnv → R PyData} {t : R Int} (i : Nat) (xs : List α) (hj : TEq (hk ρ) t) (h : ρ[i]? = some (some (oL ox xs)) := by rfl) : TQ (fun p : α × List α => (ox p.1, ρ.set i (some (oL ox p.2)))) (oPopAt i hk ρ) (t.bind fun j => tpopAt xs j) := by
  unfold oPopAt; rw [h]
  refine hj.bind fun j => ?_
  unfold tpopAt
  by_cases hc : 0 ≤ j ∧ j < 16777216
  · simp only [e, Enc.e]
    rw [cite_pos hc, cite_pos hc, List.getElem?_map]
    cases xs[j.toNat]? with
    | none => trivial
    | some a => show R.ok _ = R.ok _; rw [erase_map]
  · rw [cite_neg hc]; trivial
theorem p_call {α : Type} {ox : α → O} {g : List PyData → R O} {fa : PEnv → R (List PyData)} {ρ : OEnv} {s : R α} (h : TQ ox ((fa (viewF ρ)).bind g) s) : TQ (fun a : α => (ox a, ρ)) (oCall g fa ρ) s := by
  have e1 : oCall g fa ρ = ((fa (viewF ρ)).bind g).bind fun o => .ok (o, ρ) := by rw [R.bind_assoc]; rfl
  rw [e1]
  cases s with
  | stuck => trivial
  | err c => show R.bind _ _ = _; rw [show (fa (viewF ρ)).bind g = .err c from h]; rfl
  | ok a => show R.bind _ _ = _; rw [show (fa (viewF ρ)).bind g = .ok (ox a) from h]; rfl
/-- arguments -/
theorem a_0 {ρ : PEnv} {k : List PyData → R O} {ox : θ → O} {t : R θ} (h : TQ ox (k []) t) : TQ ox ((aNil ρ).bind k) t := h
theorem a_1 {f : PEnv → R PyData} {g : PEnv → R (List PyData)} {ρ : PEnv} {k : List PyData → R O} {ox : θ → O} {s : R α} {t : α → R θ} (ha : TEq (f ρ) s) (h : ∀ a, TQ ox ((g ρ).bind fun ds => k (e a :: ds)) (t a)) : TQ ox ((aCons f g ρ).bind k) (s.bind t) := by
  show TQ ox (R.bind (R.bind _ _) _) _
  rw [R.bind_assoc]
  refine ha.bind fun a => ?_
  have := h a
  rw [R.bind_assoc]
  exact this
end
end VL

namespace VL
open PySem PySem.Spec PyProof.Rows L2
open Enc (e)
/-! ### typed statements -/
inductive TR (β l σ : Type) where
  | nx (s : σ)
  | bk (s : l)
  | ct (s : l)
  | rt (b : β)
  | err (c : Str)
  | stuck
def TR.bind {β l σ τ : Type} (x : TR β l σ) (k : σ → TR β l τ) : TR β l τ := match x with
  | .nx s => k s
  | .bk s => .bk s
  | .ct s => .ct s
  | .rt b => .rt b
  | .err c => .err c
  | .stuck => .stuck
def R.tr {α β l σ : Type} (x : R α) (k : α → TR β l σ) : TR β l σ := match x with
  | .ok a => k a
  | .err c => .err c
  | .stuck => .stuck
def tite {β l σ : Type} (c : R Bool) (s t : TR β l σ) : TR β l σ := c.tr fun b => if b then s else t
def forT {α β l σ : Type} (f : α → σ → TR β σ σ) : List α → σ → TR β l σ
  | [], s => .nx s
  | a :: as, s => match f a s with
    | .nx s' => forT f as s'
    | .ct s' => forT f as s'
    | .bk s' => .nx s'
    | .rt b => .rt b
    | .err c => .err c
    | .stuck => .stuck
def whileT {β l σ : Type} (c : σ → R Bool) (f : σ → TR β σ σ) : Nat → σ → TR β l σ
  | 0, _ => .stuck
  | n + 1, s => (c s).tr fun b => if b then (match f s with
    | .nx s' => whileT c f n s'
    | .ct s' => whileT c f n s'
    | .bk s' => .nx s'
    | .rt b => .rt b
    | .err c => .err c
    | .stuck => .stuck) else .nx s
noncomputable def loopT {β l σ : Type} (c : σ → R Bool) (f : σ → TR β σ σ) (s : σ) : TR β l σ :=
  open Classical in if h : ∃ n, whileT (l := l) c f n s ≠ .stuck then whileT c f (Classical.choose h) s else .stuck
def TR.fn {β l σ : Type} (x : TR β l σ) (d : σ → R β) : R β := match x with
  | .nx s => d s
  | .rt b => .ok b
  | .err c => .err c
  | _ => .stuck
def ttry {β l σ : Type} (s : TR β l σ) (tb : Str → Option Bool) (h : TR β l σ) : TR β l σ := match s with
  | .err c => match tb c with
    | some true => (match h with
      | .err _ => .stuck
      | r => r)
    | some false => .err c
    | none => .stuck
  | r => r
section
variable {β l σ τ α : Type}
@[simp] theorem TR.bind_nx (s : σ) (k : σ → TR β l τ) : TR.bind (.nx s) k = k s := rfl
@[simp] theorem TR.bind_bk (s : l) (k : σ → TR β l τ) : TR.bind (.bk s) k = .bk s := rfl
@[simp] theorem TR.bind_ct (s : l) (k : σ → TR β l τ) : TR.bind (.ct s) k = .ct s := rfl
@[simp] theorem TR.bind_rt (s : β) (k : σ → TR β l τ) : TR.bind (.rt s) k = .rt s := rfl
@[simp] theorem TR.bind_err (c : Str) (k : σ → TR β l τ) : TR.bind (.err c) k = .err c := rfl
@[simp] theorem R.tr_ok (a : α) (k : α → TR β l σ) : R.tr (.ok a) k = k a := rfl
@[simp] theorem R.tr_err (c : Str) (k : α → TR β l σ) : R.tr (.err c) k = .err c := rfl
@[simp] theorem R.tr_bind {γ : Type} (x : R γ) (f : γ → R α) (k : α → TR β l σ) : R.tr (x.bind f) k = x.tr fun c => (f c).tr k := by cases x <;> rfl
@[simp] theorem R.tr_ite (p : Prop) [Decidable p] (x y : R α) (k : α → TR β l σ) : R.tr (if p then x else y) k = if p then x.tr k else y.tr k := by split <;> rfl
@[simp] theorem TR.bind_ite (p : Prop) [Decidable p] (x y : TR β l σ) (k : σ → TR β l τ) : TR.bind (if p then x else y) k = if p then x.bind k else y.bind k := by split <;> rfl
@[simp] theorem TR.bind_tr (x : R α) (f : α → TR β l σ) (k : σ → TR β l τ) : TR.bind (x.tr f) k = x.tr fun a => (f a).bind k := by cases x <;> rfl
@[simp] theorem TR.bind_bind {υ : Type} (x : TR β l σ) (f : σ → TR β l τ) (k : τ → TR β l υ) : TR.bind (x.bind f) k = x.bind fun a => (f a).bind k := by cases x <;> rfl
@[simp] theorem tite_ap (c : R Bool) (s t : TR β l σ) : tite c s t = c.tr fun b => if b then s else t := rfl
@[simp] theorem forT_nil (f : α → σ → TR β σ σ) (s : σ) : (forT f [] s : TR β l σ) = .nx s := rfl
@[simp] theorem TR.fn_nx (s : σ) (d : σ → R β) : TR.fn (.nx s : TR β l σ) d = d s := rfl
@[simp] theorem TR.fn_rt (b : β) (d : σ → R β) : TR.fn (.rt b : TR β l σ) d = .ok b := rfl
@[simp] theorem TR.fn_err (c : Str) (d : σ → R β) : TR.fn (.err c : TR β l σ) d = .err c := rfl
@[simp] theorem TR.fn_ite (p : Prop) [Decidable p] (x y : TR β l σ) (d : σ → R β) : TR.fn (if p then x else y) d = if p then x.fn d else y.fn d := by split <;> rfl
@[simp] theorem TR.fn_tr (x : R α) (f : α → TR β l σ) (d : σ → R β) : TR.fn (x.tr f) d = x.bind fun a => (f a).fn d := by cases x <;> rfl
end
/-- what the typed side says of a statement -/
def SQ {β l σ : Type} (E : σ → OEnv → Prop) (L : l → OEnv → Prop) (er : O → OEnv → β → Prop) (Z : OEnv → Prop) (r : SR) : TR β l σ → Prop
  | .nx s => ∃ ρ, r = .nx ρ ∧ E s ρ
  | .bk s => ∃ ρ, r = .bk ρ ∧ L s ρ
  | .ct s => ∃ ρ, r = .ct ρ ∧ L s ρ
  | .rt b => ∃ o ρ, r = .rt o ρ ∧ er o ρ b
  | .err c => ∃ ρ, r = .err c ρ ∧ Z ρ
  | .stuck => True
section
variable {β l σ τ α γ : Type} {E : σ → OEnv → Prop} {E1 : τ → OEnv → Prop} {L : l → OEnv → Prop} {er : O → OEnv → β → Prop} {Z : OEnv → Prop} {ρ : OEnv} {g h k g1 : OEnv → SR}
theorem q_nx (s : σ) (h : E s ρ) : SQ E L er Z (sNx ρ) (.nx s) := ⟨ρ, rfl, h⟩
theorem q_bk (s : l) (h : L s ρ) : SQ E L er Z (seq sBk k ρ) (.bk s) := ⟨ρ, rfl, h⟩
theorem q_ct (s : l) (h : L s ρ) : SQ E L er Z (seq sCt k ρ) (.ct s) := ⟨ρ, rfl, h⟩
theorem SR.seq_nxr (r : SR) : SR.seq r sNx = r := by cases r <;> rfl
theorem q_end {t : TR β l σ} (h : SQ E L er Z (seq g sNx ρ) t) : SQ E L er Z (g ρ) t := by
  have : seq g sNx ρ = g ρ := SR.seq_nxr _
  rw [this] at h; exact h
theorem q_nxs {t : TR β l σ} (h : SQ E L er Z (k ρ) t) : SQ E L er Z (seq sNx k ρ) t := h
theorem q_assoc {t : TR β l σ} (hh : SQ E L er Z (seq g (seq h k) ρ) t) : SQ E L er Z (seq (seq g h) k ρ) t := by
  have : seq (seq g h) k ρ = seq g (seq h k) ρ := by
    show SR.seq (SR.seq (g ρ) h) k = SR.seq (g ρ) (seq h k)
    cases g ρ <;> rfl
  rw [this]; exact hh
theorem q_pre {T : OEnv → OEnv} {t : TR β l σ} (hh : SQ E L er Z (seq g k (T ρ)) t) : SQ E L er Z (seq (pre T g) k ρ) t := hh
theorem q_pre0 {T : OEnv → OEnv} {t : TR β l σ} (hh : SQ E L er Z (g (T ρ)) t) : SQ E L er Z (pre T g ρ) t := hh
theorem freeze1 [Enc α] {ox : α → O} {is : List Nat} (i : Nat) (a : α) (hd : ∀ a, O.data (ox a) = e a) (h : ρ[i]? = some (some (ox a)) := by rfl) : freeze (i :: is) ρ = freeze is (ρ.set i (some (oF a))) := by
  rw [freeze_cons]
  unfold freezeAt; rw [h]
  show freeze is (ρ.set i (some (.fz (O.data (ox a))))) = _
  rw [hd]
theorem q_at {ρ' : OEnv} {t : TR β l σ} (he : ρ = ρ') (hh : SQ E L er Z (g ρ') t) : SQ E L er Z (g ρ) t := by rw [he]; exact hh
theorem SQ.sr {α γ : Type} {f : α → γ} {x : R γ} {t : R α} {kk : γ → SR} {ll : α → TR β l σ} (h : TQ f x t) (z : Z ρ) (hk : ∀ a, SQ E L er Z (kk (f a)) (ll a)) : SQ E L er Z (x.sr ρ kk) (t.tr ll) := by
  cases t with
  | stuck => trivial
  | err c => rw [show x = .err c from h]; exact ⟨ρ, rfl, z⟩
  | ok a => rw [show x = .ok (f a) from h]; exact hk a
theorem seq_sr {γ : Type} (x : R γ) (kk : γ → SR) : SR.seq (x.sr ρ kk) k = x.sr ρ fun c => (kk c).seq k := by cases x <;> rfl
theorem q_set {i : Nat} {ho : OEnv → R (O × OEnv)} {ox : α → O × OEnv} {t : R α} {ll : α → TR β l σ} (h : TQ ox (ho ρ) t) (z : Z ρ) (hk : ∀ a, SQ E L er Z (k ((ox a).2.set i (some (ox a).1))) (ll a)) : SQ E L er Z (seq (sSet i ho) k ρ) (t.tr ll) := by
  show SQ E L er Z (SR.seq (R.sr _ _ _) k) _
  rw [seq_sr]
  exact SQ.sr h z hk
theorem q_ret {ho : OEnv → R (O × OEnv)} {ox : α → O × OEnv} {f : α → β} {t : R α} (h : TQ ox (ho ρ) t) (z : Z ρ) (hr : ∀ a, er (ox a).1 (ox a).2 (f a)) : SQ E L er Z (seq (sRet ho) k ρ) (t.tr fun a => .rt (f a)) := by
  show SQ E L er Z (SR.seq (R.sr _ _ _) k) _
  rw [seq_sr]
  exact SQ.sr h z fun a => ⟨_, _, rfl, hr a⟩
theorem q_retNone {b : β} (hr : er (.fz .none) ρ b) : SQ E L er Z (seq sRetN k ρ) (.rt b) := ⟨_, _, rfl, hr⟩
theorem q_raise {c : Str} (z : Z ρ) : SQ E L er Z (seq (sRaise c) k ρ) (.err c) := ⟨ρ, rfl, z⟩
theorem q_expr {ho : OEnv → R (O × OEnv)} {ox : α → O × OEnv} {t : R α} {ll : α → TR β l σ} (h : TQ ox (ho ρ) t) (z : Z ρ) (hk : ∀ a, SQ E L er Z (k (ox a).2) (ll a)) : SQ E L er Z (seq (sExpr ho) k ρ) (t.tr ll) := by
  show SQ E L er Z (SR.seq (R.sr _ _ _) k) _
  rw [seq_sr]
  exact SQ.sr h z hk
/- a test whose ways go on, each for itself -/
theorem q_if {c : PEnv → R Bool} {s : R Bool} {t1 t2 : TR β l σ} (hc : TB (c (viewB ρ)) s) (z : Z ρ) (h1 : SQ E L er Z (seq g k ρ) t1) (h2 : SQ E L er Z (seq h k ρ) t2) : SQ E L er Z (seq (sIf (tB c) g h) k ρ) (tite s t1 t2) := by
  show SQ E L er Z (SR.seq (R.sr _ _ _) k) _
  rw [seq_sr]
  refine SQ.sr hc z fun b => ?_
  cases b
  · exact h2
  · exact h1
theorem SQ.bind {r : SR} {t : TR β l τ} {ll : τ → TR β l σ} (h : SQ E1 L er Z r t) (hk : ∀ s ρ, E1 s ρ → SQ E L er Z (k ρ) (ll s)) : SQ E L er Z (r.seq k) (t.bind ll) := by
  cases t with
  | stuck => trivial
  | nx s => obtain ⟨ρ, e1, e2⟩ := h; rw [e1]; exact hk s ρ e2
  | bk s => obtain ⟨ρ, e1, e2⟩ := h; rw [e1]; exact ⟨ρ, rfl, e2⟩
  | ct s => obtain ⟨ρ, e1, e2⟩ := h; rw [e1]; exact ⟨ρ, rfl, e2⟩
  | rt s => obtain ⟨o, ρ, e1, e2⟩ := h; rw [e1]; exact ⟨o, ρ, rfl, e2⟩
  | err c => obtain ⟨ρ, e1, e2⟩ := h; rw [e1]; exact ⟨ρ, rfl, e2⟩
/- ways that meet again -/
theorem q_join {Es : τ → OEnv} {t : TR β l τ} {ll : τ → TR β l σ} (h : SQ (fun s ρ => ρ = Es s) L er Z (g ρ) t) (hk : ∀ s, SQ E L er Z (k (Es s)) (ll s)) : SQ E L er Z (seq g k ρ) (t.bind ll) :=
  SQ.bind h fun s ρ e1 => by rw [e1]; exact hk s
theorem forL_T {α' : Type} [Enc α] {kt : PyData → R (List (Nat × PyData))} {kl : OEnv → OEnv} {gb : OEnv → SR} {Es : τ → OEnv} {bs : α' → List (Nat × PyData)} {c : α → R α'} {body : α' → τ → TR β τ τ} (hk : ∀ a, TQ bs (kt (e a)) (c a)) (hkl : ∀ s, kl (Es s) = Es s)
    (hb : ∀ b s, SQ (fun s ρ => kl ρ = Es s) (fun s ρ => ρ = Es s) er Z (gb (setsO (Es s) (bs b))) (body b s)) : ∀ (xs : List α) (s : τ), SQ (fun s ρ => ρ = Es s) L er Z (forL kt kl gb (xs.map e) (Es s)) (forT (fun a s => (c a).calm.tr fun b => body b s) xs s : TR β l τ)
  | [], s => ⟨_, rfl, rfl⟩
  | a :: as, s => by
    have h1 := hk a
    simp only [List.map_cons, forL, forT]
    cases hca : c a with
    | stuck => trivial
    | err x => trivial
    | ok b =>
      rw [hca] at h1
      rw [show kt (e a) = .ok (bs b) from h1]
      simp only [R.tr_ok, calm_okk]
      have h2 := hb b s
      cases ht : body b s with
      | stuck => trivial
      | nx s' =>
        rw [ht] at h2; obtain ⟨ρ', e1, e2⟩ := h2
        rw [e1]; simp only [e2]
        exact forL_T hk hkl hb as s'
      | ct s' =>
        rw [ht] at h2; obtain ⟨ρ', e1, e2⟩ := h2
        rw [e1]; simp only [e2, hkl]
        exact forL_T hk hkl hb as s'
      | bk s' => rw [ht] at h2; obtain ⟨ρ', e1, e2⟩ := h2; rw [e1]; exact ⟨_, rfl, e2⟩
      | rt b => rw [ht] at h2; obtain ⟨o, ρ', e1, e2⟩ := h2; rw [e1]; exact ⟨_, _, rfl, e2⟩
      | err b => rw [ht] at h2; obtain ⟨ρ', e1, e2⟩ := h2; rw [e1]; exact ⟨_, rfl, e2⟩
theorem forL_T0 [Enc α] {kt : PyData → R (List (Nat × PyData))} {kl : OEnv → OEnv} {gb : OEnv → SR} {Es : τ → OEnv} {bs : α → List (Nat × PyData)} {body : α → τ → TR β τ τ} (hk : ∀ a, kt (e a) = .ok (bs a)) (hkl : ∀ s, kl (Es s) = Es s)
    (hb : ∀ b s, SQ (fun s ρ => kl ρ = Es s) (fun s ρ => ρ = Es s) er Z (gb (setsO (Es s) (bs b))) (body b s)) (xs : List α) (s : τ) : SQ (fun s ρ => ρ = Es s) L er Z (forL kt kl gb (xs.map e) (Es s)) (forT body xs s : TR β l τ) :=
  forL_T (c := fun a => .ok a) (bs := bs) (fun a => hk a) hkl hb xs s
theorem q_for [Enc α] {hi : OEnv → R (List PyData)} {kt : PyData → R (List (Nat × PyData))} {kl : OEnv → OEnv} {gb : OEnv → SR} {t : R (List α)} {body : α → τ → TR β τ τ} {ll : τ → TR β l σ} (Es : τ → OEnv) (bs : α → List (Nat × PyData)) (s0 : τ) (h : TL (hi ρ) t) (z : Z ρ) (he : ρ = Es s0) (hk : ∀ a, kt (e a) = .ok (bs a)) (hkl : ∀ s, kl (Es s) = Es s)
    (hb : ∀ b s, SQ (fun s ρ => kl ρ = Es s) (fun s ρ => ρ = Es s) er Z (gb (setsO (Es s) (bs b))) (body b s)) (hr : ∀ s, SQ E L er Z (k (Es s)) (ll s)) : SQ E L er Z (seq (sFor hi kt kl gb) k ρ) (t.tr fun xs => (forT body xs s0).bind ll) := by
  show SQ E L er Z (SR.seq (R.sr _ _ _) k) _
  rw [seq_sr]
  refine SQ.sr h z fun xs => ?_
  rw [he]
  exact SQ.bind (forL_T0 hk hkl hb xs s0) fun s ρ e1 => by rw [e1]; exact hr s
theorem q_forK [Enc α] {hi : OEnv → R (List PyData)} {T : OEnv → OEnv} {kt : PyData → R (List (Nat × PyData))} {kl : OEnv → OEnv} {gb : OEnv → SR} {t : R (List α)} {body : α → τ → TR β τ τ} {ll : τ → TR β l σ} (Es : τ → OEnv) (bs : α → List (Nat × PyData)) (s0 : τ) (h : TL (hi ρ) t) (z : Z ρ) (he : T ρ = Es s0) (hk : ∀ a, kt (e a) = .ok (bs a)) (hkl : ∀ s, kl (Es s) = Es s)
    (hb : ∀ b s, SQ (fun s ρ => kl ρ = Es s) (fun s ρ => ρ = Es s) er Z (gb (setsO (Es s) (bs b))) (body b s)) (hr : ∀ s, SQ E L er Z (k (Es s)) (ll s)) : SQ E L er Z (seq (sForK hi T kt kl gb) k ρ) (t.tr fun xs => (forT body xs s0).bind ll) := by
  show SQ E L er Z (SR.seq (R.sr _ _ _) k) _
  rw [seq_sr]
  refine SQ.sr h z fun xs => ?_
  rw [he]
  exact SQ.bind (forL_T0 hk hkl hb xs s0) fun s ρ e1 => by rw [e1]; exact hr s
theorem q_forC {α' : Type} [Enc α] {hi : OEnv → R (List PyData)} {kt : PyData → R (List (Nat × PyData))} {kl : OEnv → OEnv} {gb : OEnv → SR} {t : R (List α)} {body : α' → τ → TR β τ τ} {ll : τ → TR β l σ} (c : α → R α') (Es : τ → OEnv) (bs : α' → List (Nat × PyData)) (s0 : τ) (h : TL (hi ρ) t) (z : Z ρ) (he : ρ = Es s0) (hk : ∀ a, TQ bs (kt (e a)) (c a)) (hkl : ∀ s, kl (Es s) = Es s)
    (hb : ∀ b s, SQ (fun s ρ => kl ρ = Es s) (fun s ρ => ρ = Es s) er Z (gb (setsO (Es s) (bs b))) (body b s)) (hr : ∀ s, SQ E L er Z (k (Es s)) (ll s)) : SQ E L er Z (seq (sFor hi kt kl gb) k ρ) (t.tr fun xs => (forT (fun a s => (c a).calm.tr fun b => body b s) xs s0).bind ll) := by
  show SQ E L er Z (SR.seq (R.sr _ _ _) k) _
  rw [seq_sr]
  refine SQ.sr h z fun xs => ?_
  rw [he]
  exact SQ.bind (forL_T hk hkl hb xs s0) fun s ρ e1 => by rw [e1]; exact hr s
theorem q_forCK {α' : Type} [Enc α] {hi : OEnv → R (List PyData)} {T : OEnv → OEnv} {kt : PyData → R (List (Nat × PyData))} {kl : OEnv → OEnv} {gb : OEnv → SR} {t : R (List α)} {body : α' → τ → TR β τ τ} {ll : τ → TR β l σ} (c : α → R α') (Es : τ → OEnv) (bs : α' → List (Nat × PyData)) (s0 : τ) (h : TL (hi ρ) t) (z : Z ρ) (he : T ρ = Es s0) (hk : ∀ a, TQ bs (kt (e a)) (c a)) (hkl : ∀ s, kl (Es s) = Es s)
    (hb : ∀ b s, SQ (fun s ρ => kl ρ = Es s) (fun s ρ => ρ = Es s) er Z (gb (setsO (Es s) (bs b))) (body b s)) (hr : ∀ s, SQ E L er Z (k (Es s)) (ll s)) : SQ E L er Z (seq (sForK hi T kt kl gb) k ρ) (t.tr fun xs => (forT (fun a s => (c a).calm.tr fun b => body b s) xs s0).bind ll) := by
  show SQ E L er Z (SR.seq (R.sr _ _ _) k) _
  rw [seq_sr]
  refine SQ.sr h z fun xs => ?_
  rw [he]
  exact SQ.bind (forL_T hk hkl hb xs s0) fun s ρ e1 => by rw [e1]; exact hr s
/- while -/
theorem whileN_T {c : PEnv → R Bool} {kl : OEnv → OEnv} {gb : OEnv → SR} {Es : τ → OEnv} {ct : τ → R Bool} {body : τ → TR β τ τ} (hc : ∀ s, TB (c (viewB (Es s))) (ct s)) (hz : ∀ s, Z (Es s)) (hkl : ∀ s, kl (Es s) = Es s)
    (hb : ∀ s, SQ (fun s ρ => kl ρ = Es s) (fun s ρ => ρ = Es s) er Z (gb (Es s)) (body s)) : ∀ (n : Nat) (s : τ), SQ (fun s ρ => ρ = Es s) L er Z (whileN (tB c) kl gb n (Es s)) (whileT ct body n s : TR β l τ)
  | 0, s => trivial
  | n + 1, s => by
    unfold whileN whileT
    refine SQ.sr (hc s) (hz s) fun b => ?_
    cases b with
    | false => exact ⟨_, rfl, rfl⟩
    | true =>
      simp only [if_true]
      have h2 := hb s
      cases ht : body s with
      | stuck => trivial
      | nx s' =>
        rw [ht] at h2; obtain ⟨ρ', e1, e2⟩ := h2
        rw [e1]; simp only [e2]
        exact whileN_T hc hz hkl hb n s'
      | ct s' =>
        rw [ht] at h2; obtain ⟨ρ', e1, e2⟩ := h2
        rw [e1]; simp only [e2, hkl]
        exact whileN_T hc hz hkl hb n s'
      | bk s' => rw [ht] at h2; obtain ⟨ρ', e1, e2⟩ := h2; rw [e1]; exact ⟨_, rfl, e2⟩
      | rt b => rw [ht] at h2; obtain ⟨o, ρ', e1, e2⟩ := h2; rw [e1]; exact ⟨_, _, rfl, e2⟩
      | err b => rw [ht] at h2; obtain ⟨ρ', e1, e2⟩ := h2; rw [e1]; exact ⟨_, rfl, e2⟩
theorem SQ.ne {r : SR} {t : TR β l τ} (h : SQ E1 L er Z r t) (ht : t ≠ .stuck) : r ≠ .stuck := by
  cases t with
  | stuck => exact absurd rfl ht
  | nx s => obtain ⟨ρ', e1, _⟩ := h; rw [e1]; exact nofun
  | ct s => obtain ⟨ρ', e1, _⟩ := h; rw [e1]; exact nofun
  | bk s => obtain ⟨ρ', e1, _⟩ := h; rw [e1]; exact nofun
  | rt s => obtain ⟨_, ρ', e1, _⟩ := h; rw [e1]; exact nofun
  | err s => obtain ⟨ρ', e1, _⟩ := h; rw [e1]; exact nofun
theorem sWhile_at {t : OEnv → R Bool} {kl : OEnv → OEnv} {gb : OEnv → SR} {n : Nat} {ρ : OEnv} (h : whileN t kl gb n ρ ≠ .stuck) : sWhile t kl gb ρ = whileN t kl gb n ρ := by
  unfold sWhile
  have ex : ∃ n, whileN t kl gb n ρ ≠ .stuck := ⟨n, h⟩
  rw [dif_pos ex]
  rcases Nat.le_total n (Classical.choose ex) with q | q
  · exact whileN_mono t kl gb _ _ ρ q h
  · exact (whileN_mono t kl gb _ _ ρ q (Classical.choose_spec ex)).symm
theorem loop_T {c : PEnv → R Bool} {kl : OEnv → OEnv} {gb : OEnv → SR} {Es : τ → OEnv} {ct : τ → R Bool} {body : τ → TR β τ τ} (hc : ∀ s, TB (c (viewB (Es s))) (ct s)) (hz : ∀ s, Z (Es s)) (hkl : ∀ s, kl (Es s) = Es s)
    (hb : ∀ s, SQ (fun s ρ => kl ρ = Es s) (fun s ρ => ρ = Es s) er Z (gb (Es s)) (body s)) (s : τ) : SQ (fun s ρ => ρ = Es s) L er Z (sWhile (tB c) kl gb (Es s)) (loopT ct body s : TR β l τ) := by
  unfold loopT
  split
  · rename_i ex
    have h1 := whileN_T (L := L) hc hz hkl hb (Classical.choose ex) s
    rw [sWhile_at (h1.ne (Classical.choose_spec ex))]
    exact h1
  · trivial
theorem q_while {c : PEnv → R Bool} {kl : OEnv → OEnv} {gb : OEnv → SR} {ct : τ → R Bool} {body : τ → TR β τ τ} {ll : τ → TR β l σ} (Es : τ → OEnv) (s0 : τ) (he : ρ = Es s0) (hc : ∀ s, TB (c (viewB (Es s))) (ct s)) (hz : ∀ s, Z (Es s)) (hkl : ∀ s, kl (Es s) = Es s)
    (hb : ∀ s, SQ (fun s ρ => kl ρ = Es s) (fun s ρ => ρ = Es s) er Z (gb (Es s)) (body s)) (hr : ∀ s, SQ E L er Z (k (Es s)) (ll s)) : SQ E L er Z (seq (sWhile (tB c) kl gb) k ρ) ((loopT ct body s0).bind ll) := by
  rw [he]
  exact SQ.bind (loop_T hc hz hkl hb s0) fun s ρ e1 => by rw [e1]; exact hr s
/- other statements -/
theorem q_tup {α' : Type} [Enc α] {kt : PyData → R (List (Nat × PyData))} {hx : OEnv → R PyData} {t : R α} {ll : α' → TR β l σ} (c : α → R α') (bs : α' → List (Nat × PyData)) (h : TEq (hx ρ) t) (z : Z ρ) (hk : ∀ a, TQ bs (kt (e a)) (c a)) (hr : ∀ b, SQ E L er Z (k (setsO ρ (bs b))) (ll b)) : SQ E L er Z (seq (sTup kt hx) k ρ) (t.tr fun a => (c a).calm.tr ll) := by
  show SQ E L er Z (SR.seq (R.sr _ _ _) k) _
  rw [seq_sr]
  refine SQ.sr h z fun a => ?_
  have h1 := hk a
  cases hca : c a with
  | stuck => trivial
  | err x => trivial
  | ok b => rw [hca] at h1; rw [show kt (e a) = .ok (bs b) from h1]; exact hr b
theorem q_tup0 [Enc α] {kt : PyData → R (List (Nat × PyData))} {hx : OEnv → R PyData} {t : R α} {ll : α → TR β l σ} (bs : α → List (Nat × PyData)) (h : TEq (hx ρ) t) (z : Z ρ) (hk : ∀ a, kt (e a) = .ok (bs a)) (hr : ∀ b, SQ E L er Z (k (setsO ρ (bs b))) (ll b)) : SQ E L er Z (seq (sTup kt hx) k ρ) (t.tr ll) := by
  have := q_tup (k := k) (er := er) (E := E) (L := L) (c := fun a => .ok a) bs h z (fun a => hk a) hr
  simpa only [calm_okk, R.tr_ok] using this
theorem q_par [Enc α] [Enc γ] {i j : Nat} {h h' : OEnv → R PyData} {s : R α} {t : R γ} {ll : α → γ → TR β l σ} (h1 : TEq (h ρ) s) (h2 : TEq (h' ρ) t) (z : Z ρ) (hr : ∀ a b, SQ E L er Z (k ((ρ.set i (some (oF a))).set j (some (oF b)))) (ll a b)) : SQ E L er Z (seq (sPar i j h h') k ρ) (s.tr fun a => t.tr fun b => ll a b) := by
  show SQ E L er Z (SR.seq (R.sr _ _ _) k) _
  rw [seq_sr]
  refine SQ.sr h1 z fun a => ?_
  rw [seq_sr]
  exact SQ.sr h2 z fun b => hr a b
def tapp {α : Type} (xs : List α) (a : α) : R (List α) := if xs.length < 16777216 then .ok (xs ++ [a]) else .stuck
theorem q_app {ox : α → O} {ho : OEnv → R (O × OEnv)} {t : R α} {ll : List α → TR β l σ} (i : Nat) (xs : List α) (h : TQ (fun a => (ox a, ρ)) (ho ρ) t) (z : Z ρ) (hr : ∀ ys, SQ E L er Z (k (ρ.set i (some (oL ox ys)))) (ll ys)) (hi : ρ[i]? = some (some (oL ox xs)) := by rfl) : SQ E L er Z (seq (sApp i ho) k ρ) (t.tr fun a => (tapp xs a).tr ll) := by
  show SQ E L er Z (SR.seq (sApp i ho ρ) k) _
  unfold sApp
  rw [hi]
  show SQ E L er Z (SR.seq (R.sr _ _ _) k) _
  rw [seq_sr]
  refine SQ.sr h z fun a => ?_
  unfold tapp
  simp only [hi, List.length_map, szL]
  split
  · show SQ _ _ _ _ (k _) (ll (xs ++ [a]))
    have := hr (xs ++ [a])
    rw [show oL ox (xs ++ [a]) = O.lst (xs.map ox ++ [ox a]) by simp [oL]] at this
    exact this
  · trivial
def tset {α : Type} (xs : List α) (j : Int) (a : α) : R (List α) := match ixN xs.length j with | some n => .ok (xs.set n a) | none => .stuck
theorem q_setI {ox : α → O} {hk : OEnv → R PyData} {ho : OEnv → R (O × OEnv)} {t : R α} {u : R Int} {ll : List α → TR β l σ} (i : Nat) (xs : List α) (h : TQ (fun a => (ox a, ρ)) (ho ρ) t) (hj : TEq (hk ρ) u) (z : Z ρ) (hr : ∀ ys, SQ E L er Z (k (ρ.set i (some (oL ox ys)))) (ll ys)) (hi : ρ[i]? = some (some (oL ox xs)) := by rfl) : SQ E L er Z (seq (sSetI i hk ho) k ρ) (t.tr fun a => u.tr fun j => (tset xs j a).tr ll) := by
  show SQ E L er Z (SR.seq (R.sr _ _ _) k) _
  rw [seq_sr]
  refine SQ.sr h z fun a => ?_
  simp only [hi]
  rw [seq_sr]
  refine SQ.sr hj z fun j => ?_
  show SQ E L er Z (SR.seq (match ixN (xs.map ox).length j with | some n => _ | none => _) k) _
  unfold tset
  rw [List.length_map]
  cases ixN xs.length j with
  | none => trivial
  | some n =>
    show SQ _ _ _ _ (k _) (ll (xs.set n a))
    have := hr (xs.set n a)
    rw [show oL ox (xs.set n a) = O.lst ((xs.map ox).set n (ox a)) by simp [oL, List.map_set]] at this
    exact this
theorem q_aug {f : Int → Int → Int} {h : OEnv → R PyData} {t : R Int} {ll : Int → TR β l σ} (i : Nat) (a : Int) (hs : TEq (h ρ) t) (z : Z ρ) (hr : ∀ b, SQ E L er Z (k (ρ.set i (some (oF b)))) (ll b)) (hi : ρ[i]? = some (some (oF a)) := by rfl) : SQ E L er Z (seq (sAug f i h) k ρ) ((b1 (fun b => R.ok (f a b)) t).tr ll) := by
  show SQ E L er Z (SR.seq (sAug f i h ρ) k) _
  unfold sAug
  rw [hi]
  show SQ E L er Z (SR.seq (R.sr _ _ _) k) _
  rw [seq_sr, b1_ap, R.tr_bind]
  exact SQ.sr hs z fun b => hr (f a b)
def text {α : Type} (xs ys : List α) : R (List α) := if xs.length + ys.length ≤ 16777216 then .ok (xs ++ ys) else .stuck
theorem q_ext {ox : α → O} {ho : OEnv → R (O × OEnv)} {t : R (List α)} {ll : List α → TR β l σ} (i : Nat) (xs : List α) (h : TQ (fun a => (oL ox a, ρ)) (ho ρ) t) (z : Z ρ) (hr : ∀ ys, SQ E L er Z (k (ρ.set i (some (oL ox ys)))) (ll ys)) (hi : ρ[i]? = some (some (oL ox xs)) := by rfl) : SQ E L er Z (seq (sExt i ho) k ρ) (t.tr fun a => (text xs a).tr ll) := by
  show SQ E L er Z (SR.seq (sExt i ho ρ) k) _
  unfold sExt
  rw [hi]
  show SQ E L er Z (SR.seq (R.sr _ _ _) k) _
  rw [seq_sr]
  refine SQ.sr h z fun a => ?_
  unfold text
  simp only [hi, List.length_map, szL]
  split
  · show SQ _ _ _ _ (k _) (ll (xs ++ a))
    have := hr (xs ++ a)
    rw [show oL ox (xs ++ a) = O.lst (xs.map ox ++ a.map ox) by simp [oL]] at this
    exact this
  · trivial
theorem q_rev {ox : α → O} {ll : List α → TR β l σ} (i : Nat) (xs : List α) (hr : ∀ ys, SQ E L er Z (k (ρ.set i (some (oL ox ys)))) (ll ys)) (hi : ρ[i]? = some (some (oL ox xs)) := by rfl) : SQ E L er Z (seq (sRev i) k ρ) ((R.ok xs.reverse).tr ll) := by
  show SQ E L er Z (SR.seq (sRev i ρ) k) _
  unfold sRev
  rw [hi]
  show SQ E L er Z (k (ρ.set i (some (.lst (xs.map ox).reverse)))) (ll xs.reverse)
  rw [← List.map_reverse]
  exact hr _
theorem q_asn {t : TR β l σ} (h : SQ E L er Z (g ρ) t) : SQ E L er Z (seq g sNx ρ) t := by
  have : seq g sNx ρ = g ρ := SR.seq_nxr _
  rw [this]; exact h
theorem t_x1 {α γ : Type} [Enc α] [Enc γ] {op : PyData → R (List PyData)} {top : α → R (List γ)} {h : OEnv → R PyData} {s : R α} (ho : ∀ a, TL (op (e a)) (top a)) (ha : TEq (h ρ) s) : TL (x1 op h ρ) (b1 top s) := ha.bind ho
theorem t_x2 {α β γ : Type} [Enc α] [Enc β] [Enc γ] {op : PyData → PyData → R (List PyData)} {top : α → β → R (List γ)} {h h' : OEnv → R PyData} {s : R α} {t : R β} (ho : ∀ a b, TL (op (e a) (e b)) (top a b)) (ha : TEq (h ρ) s) (hb : TEq (h' ρ) t) : TL (x2 op h h' ρ) (b2 top s t) := ha.bind fun a => hb.bind fun b => ho a b
theorem p_nilO {α : Type} {ox : α → O} : TQ (fun a : List α => (oL ox a, ρ)) (oFrF aNil ρ) (.ok []) := rfl
theorem o_isnoneO {α : Type} [Enc α] (h : ∀ a : α, visnone (e a) = .ok (.bool false) := by intro _; rfl) (i : Option α) : TEq (visnone (e i)) (tisnoneO i) := by
  cases i with
  | none => exact rfl
  | some a => exact h a
theorem q_try {gb gs : OEnv → SR} {tb : Str → Option Bool} {Zb : OEnv → Prop} {Es : τ → OEnv} {s t : TR β l τ} {ll : τ → TR β l σ} (h1 : SQ (fun s ρ => ρ = Es s) L er Zb (gb ρ) s) (h2 : ∀ ρ, Zb ρ → SQ (fun s ρ => ρ = Es s) L er (fun _ => True) (gs ρ) t) (hz : ∀ ρ, Zb ρ → Z ρ) (hr : ∀ s, SQ E L er Z (k (Es s)) (ll s)) : SQ E L er Z (seq (sTryO gb tb gs) k ρ) ((ttry s tb t).bind ll) := by
  refine SQ.bind (E1 := fun s ρ => ρ = Es s) ?_ fun s ρ e1 => by rw [e1]; exact hr s
  show SQ _ _ _ _ (catchO tb gs (gb ρ)) _
  cases s with
  | stuck => trivial
  | nx s => obtain ⟨ρ', e1, e2⟩ := h1; rw [e1]; exact ⟨_, rfl, e2⟩
  | ct s => obtain ⟨ρ', e1, e2⟩ := h1; rw [e1]; exact ⟨_, rfl, e2⟩
  | bk s => obtain ⟨ρ', e1, e2⟩ := h1; rw [e1]; exact ⟨_, rfl, e2⟩
  | rt s => obtain ⟨_, ρ', e1, e2⟩ := h1; rw [e1]; exact ⟨_, _, rfl, e2⟩
  | err c =>
    obtain ⟨ρ', e1, e2⟩ := h1
    rw [e1]
    unfold catchO ttry
    dsimp only
    cases tb c with
    | none => trivial
    | some b =>
      cases b with
      | false => exact ⟨_, rfl, hz _ e2⟩
      | true =>
        have h3 := h2 ρ' e2
        dsimp only
        cases t with
        | stuck => trivial
        | nx s => obtain ⟨ρ', e1, e2⟩ := h3; rw [e1]; exact ⟨_, rfl, e2⟩
        | ct s => obtain ⟨ρ', e1, e2⟩ := h3; rw [e1]; exact ⟨_, rfl, e2⟩
        | bk s => obtain ⟨ρ', e1, e2⟩ := h3; rw [e1]; exact ⟨_, rfl, e2⟩
        | rt s => obtain ⟨_, ρ', e1, e2⟩ := h3; rw [e1]; exact ⟨_, _, rfl, e2⟩
        | err s => trivial
end
/-! ### typed defs -/
theorem fn_T {β l σ : Type} [Enc β] {g : OEnv → SR} {ρ : OEnv} {E : σ → OEnv → Prop} {L : l → OEnv → Prop} {t : TR β l σ} {d : σ → R β} (h : SQ E L (fun o _ b => O.data o = e b) (fun _ => True) (g ρ) t) (hd : ∀ s, TEq (.ok .none) (d s)) : TEq (fin (g ρ)) (t.fn d) := by
  cases t with
  | stuck => trivial
  | nx s => obtain ⟨ρ', e1, e2⟩ := h; rw [e1]; exact hd s
  | ct s => trivial
  | bk s => trivial
  | rt s => obtain ⟨_, ρ', e1, e2⟩ := h; rw [e1]; show R.ok _ = R.ok _; rw [e2]
  | err c => obtain ⟨ρ', e1, e2⟩ := h; rw [e1]; exact rfl
theorem fn_TO {β l σ : Type} {ox : β → O} {g : OEnv → SR} {ρ : OEnv} {E : σ → OEnv → Prop} {L : l → OEnv → Prop} {t : TR β l σ} (h : SQ E L (fun o _ b => o = ox b) (fun _ => True) (g ρ) t) : TQ ox (finO (g ρ)) (t.fn fun _ => .stuck) := by
  cases t with
  | stuck => trivial
  | nx s => trivial
  | ct s => trivial
  | bk s => trivial
  | rt s => obtain ⟨_, ρ', e1, e2⟩ := h; rw [e1]; show R.ok _ = R.ok _; rw [e2]
  | err c => obtain ⟨ρ', e1, e2⟩ := h; rw [e1]; exact rfl
theorem frz_T {β : Type} [Enc β] {ox : β → O} {g : List PyData → R O} {ds : List PyData} {t : R β} (hd : ∀ b, O.data (ox b) = e b) (h : TQ ox (g ds) t) : TEq (frz g ds) t := by
  cases t with
  | stuck => trivial
  | err c => show R.bind (g ds) _ = _; rw [show g ds = .err c from h]; rfl
  | ok b => show R.bind (g ds) _ = _; rw [show g ds = .ok (ox b) from h]; show R.ok _ = R.ok _; rw [hd]
end VL

namespace VL
open PySem PySem.Spec PyProof.Rows L2
open Enc (e)
/-! ### loops over typed states -/
section
variable {α β l σ γ : Type}
theorem forT_nx {f : α → σ → TR β σ σ} {a : α} {as : List α} {s s' : σ} (h : f a s = .nx s') : (forT f (a :: as) s : TR β l σ) = forT f as s' := by simp only [forT, h]
theorem forT_ct {f : α → σ → TR β σ σ} {a : α} {as : List α} {s s' : σ} (h : f a s = .ct s') : (forT f (a :: as) s : TR β l σ) = forT f as s' := by simp only [forT, h]
theorem forT_bk {f : α → σ → TR β σ σ} {a : α} {as : List α} {s s' : σ} (h : f a s = .bk s') : (forT f (a :: as) s : TR β l σ) = .nx s' := by simp only [forT, h]
theorem forT_rt {f : α → σ → TR β σ σ} {a : α} {as : List α} {s : σ} {b : β} (h : f a s = .rt b) : (forT f (a :: as) s : TR β l σ) = .rt b := by simp only [forT, h]
theorem forT_err {f : α → σ → TR β σ σ} {a : α} {as : List α} {s : σ} {c : Str} (h : f a s = .err c) : (forT f (a :: as) s : TR β l σ) = .err c := by simp only [forT, h]
/-- goes on or not -/
def TR.go (r : TR β σ σ) (s : σ) : Prop := r = .nx s ∨ r = .ct s
theorem forT_go {f : α → σ → TR β σ σ} {a : α} {as : List α} {s s' : σ} (h : (f a s).go s') : (forT f (a :: as) s : TR β l σ) = forT f as s' := h.elim forT_nx forT_ct
/-- a loop that never leaves: a fold -/
theorem forT_fold {f : α → σ → TR β σ σ} (g : σ → α → σ) (P : σ → Prop) : ∀ {xs : List α} {s : σ}, P s → (∀ a ∈ xs, ∀ s, P s → (f a s).go (g s a) ∧ P (g s a)) → (forT f xs s : TR β l σ) = .nx (xs.foldl g s) ∧ P (xs.foldl g s)
  | [], s, hp, _ => ⟨rfl, hp⟩
  | a :: as, s, hp, h => by
    obtain ⟨h1, h2⟩ := h a List.mem_cons_self s hp
    rw [forT_go h1]
    exact forT_fold g P h2 fun b hb => h b (List.mem_cons_of_mem _ hb)
theorem forT_fold0 {f : α → σ → TR β σ σ} (g : σ → α → σ) {xs : List α} {s : σ} (h : ∀ a ∈ xs, ∀ s, (f a s).go (g s a)) : (forT f xs s : TR β l σ) = .nx (xs.foldl g s) :=
  (forT_fold g (fun _ => True) trivial fun a ha s _ => ⟨h a ha s, trivial⟩).1
/-- a loop that never leaves, by an invariant over what is taken -/
theorem forT_inv {f : α → σ → TR β σ σ} (P : List α → σ → Prop) : ∀ (xs pre : List α) (s : σ), P pre s → (∀ a post pre' s, pre ++ xs = pre' ++ a :: post → P pre' s → ∃ s', (f a s).go s' ∧ P (pre' ++ [a]) s') → ∃ s', (forT f xs s : TR β l σ) = .nx s' ∧ P (pre ++ xs) s'
  | [], pre, s, hp, _ => ⟨s, rfl, by simpa using hp⟩
  | a :: as, pre, s, hp, h => by
    obtain ⟨s1, h1, h2⟩ := h a as pre s rfl hp
    obtain ⟨s2, h3, h4⟩ := forT_inv P as (pre ++ [a]) s1 h2 (fun b post pre' s e hp' => h b post pre' s (by rw [← e]; simp) hp')
    exact ⟨s2, by rw [forT_go h1]; exact h3, by simpa using h4⟩
/-- the same with the number of turns -/
theorem forT_ix {f : α → σ → TR β σ σ} (P : Nat → σ → Prop) : ∀ (xs : List α) (j : Nat) (s : σ), P j s → (∀ i a s, xs[i]? = some a → P (j + i) s → ∃ s', (f a s).go s' ∧ P (j + i + 1) s') → ∃ s', (forT f xs s : TR β l σ) = .nx s' ∧ P (j + xs.length) s'
  | [], j, s, hp, _ => ⟨s, rfl, hp⟩
  | a :: as, j, s, hp, h => by
    obtain ⟨s1, h1, h2⟩ := h 0 a s rfl hp
    obtain ⟨s2, h3, h4⟩ := forT_ix P as (j + 1) s1 h2 fun i b s hb hp' => by
      have := h (i + 1) b s (by simpa using hb) (by rw [show j + (i + 1) = j + 1 + i by omega]; exact hp')
      rw [show j + (i + 1) + 1 = j + 1 + i + 1 by omega] at this
      exact this
    exact ⟨s2, by rw [forT_go h1]; exact h3, by rw [List.length_cons, show j + (as.length + 1) = j + 1 + as.length by omega]; exact h4⟩
/-- a loop that leaves at the first bad item -/
theorem forT_chk {f : α → σ → TR β σ σ} (bad : α → Bool) (b : β) {s : σ} : ∀ {xs : List α}, (∀ a ∈ xs, (bad a = true → f a s = .rt b) ∧ (bad a = false → (f a s).go s)) → (forT f xs s : TR β l σ) = if xs.any bad = true then .rt b else .nx s
  | [], _ => rfl
  | a :: as, h => by
    obtain ⟨h1, h2⟩ := h a List.mem_cons_self
    have ih := forT_chk bad b (xs := as) fun x hx => h x (List.mem_cons_of_mem _ hx)
    cases hb : bad a with
    | true => rw [forT_rt (h1 hb), List.any_cons, hb]; rfl
    | false => rw [forT_go (h2 hb), ih, List.any_cons, hb]; rfl
/-- nothing is bad -/
theorem forT_pass {f : α → σ → TR β σ σ} {s : σ} : ∀ {xs : List α}, (∀ a ∈ xs, (f a s).go s) → (forT f xs s : TR β l σ) = .nx s
  | [], _ => rfl
  | a :: as, h => by rw [forT_go (h a List.mem_cons_self)]; exact forT_pass fun x hx => h x (List.mem_cons_of_mem _ hx)
/-- a loop that ends with the answer of the first item that gives one -/
theorem forT_find {f : α → σ → TR β σ σ} (g : α → Option β) {s : σ} : ∀ {xs : List α}, (∀ a ∈ xs, match g a with | some b => f a s = .rt b | none => (f a s).go s) → (forT f xs s : TR β l σ) = match xs.findSome? g with | some b => .rt b | none => .nx s
  | [], _ => rfl
  | a :: as, h => by
    have h1 := h a List.mem_cons_self
    have ih := forT_find g (xs := as) fun x hx => h x (List.mem_cons_of_mem _ hx)
    cases hb : g a with
    | some b => rw [hb] at h1; rw [forT_rt h1, List.findSome?_cons, hb]
    | none => rw [hb] at h1; rw [forT_go h1, ih, List.findSome?_cons, hb]
/-- what is kept of a list -/
theorem forT_filter {f : α → List α → TR β (List α) (List α)} (p : α → Bool) : ∀ {xs s : List α}, s.length + xs.length ≤ 16777216 → (∀ a ∈ xs, ∀ s : List α, s.length < 16777216 → (f a s).go (if p a = true then s ++ [a] else s)) → (forT f xs s : TR β l (List α)) = .nx (s ++ xs.filter p)
  | [], s, _, _ => by rw [List.filter_nil, List.append_nil]; rfl
  | a :: as, s, hl, h => by
    have hl' : s.length + (as.length + 1) ≤ 16777216 := hl
    rw [forT_go (h a List.mem_cons_self s (by omega))]
    by_cases hp : p a = true
    · rw [if_pos hp, forT_filter p (by rw [List.length_append, List.length_singleton]; omega) (fun b hb => h b (List.mem_cons_of_mem _ hb)), List.filter_cons_of_pos hp, List.append_assoc]; rfl
    · rw [if_neg hp, forT_filter p (by omega) (fun b hb => h b (List.mem_cons_of_mem _ hb)), List.filter_cons_of_neg hp]
/-- a list built item by item -/
theorem forT_map {γ : Type} {f : α → List γ → TR β (List γ) (List γ)} (g : α → γ) : ∀ {xs : List α} {s : List γ}, s.length + xs.length ≤ 16777216 → (∀ a ∈ xs, ∀ s : List γ, s.length < 16777216 → (f a s).go (s ++ [g a])) → (forT f xs s : TR β l (List γ)) = .nx (s ++ xs.map g)
  | [], s, _, _ => by rw [List.map_nil, List.append_nil]; rfl
  | a :: as, s, hl, h => by
    have hl' : s.length + (as.length + 1) ≤ 16777216 := hl
    rw [forT_go (h a List.mem_cons_self s (by omega)), forT_map g (by rw [List.length_append, List.length_singleton]; omega) (fun b hb => h b (List.mem_cons_of_mem _ hb)), List.map_cons, List.append_assoc]; rfl
theorem nodup_le : ∀ (n : Nat) (l : List Int), l.Nodup → (∀ x ∈ l, 0 ≤ x ∧ x < (n : Int)) → l.length ≤ n
  | 0, l, _, h => by
    cases l with
    | nil => exact Nat.le_refl _
    | cons x _ => have := h x List.mem_cons_self; omega
  | n + 1, l, hn, h => by
    have e : (l.erase (n : Int)).length ≤ n := nodup_le n _ (hn.erase _) fun x hx => by
      have h1 := h x (List.mem_of_mem_erase hx)
      have h2 : x ≠ (n : Int) := fun e => by subst e; exact (List.Nodup.not_mem_erase hn) hx
      omega
    by_cases hm : (n : Int) ∈ l
    · rw [List.length_erase_of_mem hm] at e; omega
    · rw [List.erase_of_not_mem hm] at e; omega
theorem loopT_of {c : σ → R Bool} {f : σ → TR β σ σ} {s : σ} {r : TR β l σ} {n : Nat} (h : whileT c f n s = r) (hr : r ≠ .stuck) : (loopT c f s : TR β l σ) = r := by
  have mono : ∀ (n m : Nat) (s : σ), n ≤ m → (whileT c f n s : TR β l σ) ≠ .stuck → (whileT c f m s : TR β l σ) = whileT c f n s := by
    intro n
    induction n with
    | zero => intro m s _ h; exact absurd rfl h
    | succ n ih =>
      intro m s hm h
      cases m with
      | zero => omega
      | succ m =>
        simp only [whileT] at h ⊢
        cases hc : c s with
        | stuck => rfl
        | err x => rfl
        | ok b =>
          rw [hc] at h
          simp only [R.tr_ok] at h ⊢
          cases b with
          | false => rfl
          | true =>
            simp only [if_true] at h ⊢
            cases hf : f s with
            | nx s' => rw [hf] at h; exact ih m s' (by omega) h
            | ct s' => rw [hf] at h; exact ih m s' (by omega) h
            | _ => rfl
  unfold loopT
  have ex : ∃ n, (whileT c f n s : TR β l σ) ≠ .stuck := ⟨n, by rw [h]; exact hr⟩
  rw [dif_pos ex]
  rcases Nat.le_total n (Classical.choose ex) with q | q
  · rw [mono n _ s q (by rw [h]; exact hr), h]
  · rw [← h, mono _ n s q (Classical.choose_spec ex)]
/-- a while with a measure and an invariant; it ends where the test fails -/
theorem loopT_inv {c : σ → R Bool} {f : σ → TR β σ σ} (P : σ → Prop) (m : σ → Nat) (q : σ → Bool) (hc : ∀ s, P s → c s = .ok (q s)) (hf : ∀ s, P s → q s = true → ∃ s', (f s).go s' ∧ P s' ∧ m s' < m s) : ∀ s, P s → ∃ s', (loopT c f s : TR β l σ) = .nx s' ∧ P s' ∧ q s' = false := by
  have main : ∀ (n : Nat) (s : σ), m s ≤ n → P s → ∃ s', (whileT c f (n + 1) s : TR β l σ) = .nx s' ∧ P s' ∧ q s' = false := by
    intro n
    induction n with
    | zero =>
      intro s hm hp
      cases hq : q s with
      | false => exact ⟨s, by simp only [whileT, hc s hp, hq, R.tr_ok]; rfl, hp, hq⟩
      | true => obtain ⟨s', _, _, h3⟩ := hf s hp hq; omega
    | succ n ih =>
      intro s hm hp
      cases hq : q s with
      | false => exact ⟨s, by simp only [whileT, hc s hp, hq, R.tr_ok]; rfl, hp, hq⟩
      | true =>
        obtain ⟨s', h1, h2, h3⟩ := hf s hp hq
        obtain ⟨s2, h4, h5⟩ := ih s' (by omega) h2
        refine ⟨s2, ?_, h5⟩
        rw [whileT, hc s hp, hq]
        rcases h1 with h1 | h1 <;> (simp only [R.tr_ok, if_true, h1]; exact h4)
  intro s hp
  obtain ⟨s', h1, h2⟩ := main (m s) s (Nat.le_refl _) hp
  exact ⟨s', loopT_of h1 (fun h => nomatch h), h2⟩
/-! comprehensions -/
theorem tmap_ok {f : α → R γ} (g : α → γ) : ∀ {xs : List α}, (∀ a ∈ xs, f a = .ok (g a)) → tmap f xs = .ok (xs.map g)
  | [], _ => rfl
  | a :: as, h => by
    simp only [tmap, h a List.mem_cons_self, calm_okk, R.bind_ok, tmap_ok g fun x hx => h x (List.mem_cons_of_mem _ hx), List.map_cons]
theorem tmap_ex {f : α → R γ} (S : γ → Prop) : ∀ {xs : List α}, (∀ a ∈ xs, ∃ y, f a = .ok y ∧ S y) → ∃ ys, tmap f xs = .ok ys ∧ ys.length = xs.length ∧ ∀ y ∈ ys, S y
  | [], _ => ⟨[], rfl, rfl, fun _ h => nomatch h⟩
  | a :: as, h => by
    obtain ⟨y, h1, h2⟩ := h a List.mem_cons_self
    obtain ⟨ys, h3, h4, h5⟩ := tmap_ex S (xs := as) fun x hx => h x (List.mem_cons_of_mem _ hx)
    refine ⟨y :: ys, by simp only [tmap, h1, calm_okk, R.bind_ok, h3], by simp [h4], fun z hz => ?_⟩
    rcases List.mem_cons.mp hz with q | q
    · subst q; exact h2
    · exact h5 z q
theorem tcomp_ok {c : α → R Bool} {f : α → R γ} (p : α → Bool) (g : α → γ) : ∀ {xs : List α}, (∀ a ∈ xs, c a = .ok (p a) ∧ (p a = true → f a = .ok (g a))) → tcomp c f xs = .ok ((xs.filter p).map g)
  | [], _ => rfl
  | a :: as, h => by
    obtain ⟨h1, h2⟩ := h a List.mem_cons_self
    have ih := tcomp_ok p g (xs := as) fun x hx => h x (List.mem_cons_of_mem _ hx)
    cases hp : p a with
    | true => simp only [tcomp, h1, hp, calm_okk, R.bind_ok, if_true, h2 hp, ih, List.filter_cons, List.map_cons]
    | false => simp only [tcomp, h1, hp, calm_okk, R.bind_ok, ih, List.filter_cons]; rfl
/-! items -/
theorem tidx_nat {xs : List α} {k : Nat} {a : α} (h : xs[k]? = some a) : tidx xs (k : Int) = .ok a := by
  unfold tidx; rw [atI_nat, h]
theorem tidx_of {xs : List α} {j : Int} {k : Nat} {a : α} (hj : j = (k : Int)) (h : xs[k]? = some a) : tidx xs j = .ok a := by rw [hj]; exact tidx_nat h
theorem tidx_lt {xs : List α} {k : Nat} (h : k < xs.length) : tidx xs (k : Int) = .ok xs[k] := tidx_nat (by simp [h])
@[simp] theorem tidx_0 (a : α) (xs : List α) : tidx (a :: xs) 0 = .ok a := tidx_nat (k := 0) rfl
@[simp] theorem tidx_1 (a b : α) (xs : List α) : tidx (a :: b :: xs) 1 = .ok b := tidx_nat (k := 1) rfl
@[simp] theorem tidx_2 (a b c : α) (xs : List α) : tidx (a :: b :: c :: xs) 2 = .ok c := tidx_nat (k := 2) rfl
@[simp] theorem tidx_3 (a b c d : α) (xs : List α) : tidx (a :: b :: c :: d :: xs) 3 = .ok d := tidx_nat (k := 3) rfl
@[simp] theorem tidx_4 (a b c d f : α) (xs : List α) : tidx (a :: b :: c :: d :: f :: xs) 4 = .ok f := tidx_nat (k := 4) rfl
@[simp] theorem tidx_5 (a b c d f g : α) (xs : List α) : tidx (a :: b :: c :: d :: f :: g :: xs) 5 = .ok g := tidx_nat (k := 5) rfl
@[simp] theorem tidx_6 (a b c d f g h : α) (xs : List α) : tidx (a :: b :: c :: d :: f :: g :: h :: xs) 6 = .ok h := tidx_nat (k := 6) rfl
@[simp] theorem tidx_7 (a b c d f g h i : α) (xs : List α) : tidx (a :: b :: c :: d :: f :: g :: h :: i :: xs) 7 = .ok i := tidx_nat (k := 7) rfl
theorem tidx_last {xs : List α} {a : α} (h : xs.getLast? = some a) : tidx xs (-1) = .ok a := by
  unfold tidx atI ixN
  have hl : xs ≠ [] := by intro z; rw [z] at h; simp at h
  have hl2 : 0 < xs.length := List.length_pos_iff.mpr hl
  rw [if_neg (by omega), if_pos (by omega)]
  rw [List.getLast?_eq_getElem?] at h
  rw [show ((-1 : Int) + (xs.length : Int)).toNat = xs.length - 1 by omega]
  simp [h]
theorem tapp_ok {xs : List α} {a : α} (h : xs.length < 16777216) : tapp xs a = .ok (xs ++ [a]) := if_pos h
theorem taddL_ok {xs ys : List α} (h : xs.length + ys.length ≤ 16777216) : taddL xs ys = .ok (xs ++ ys) := if_pos h
theorem text_ok {xs ys : List α} (h : xs.length + ys.length ≤ 16777216) : text xs ys = .ok (xs ++ ys) := if_pos h
theorem tset_ok {xs : List α} {k : Nat} {a : α} (h : k < xs.length) : tset xs (k : Int) a = .ok (xs.set k a) := by
  unfold tset; rw [ixN_nat h]
theorem tset_of {xs : List α} {j : Int} {k : Nat} {a : α} (hj : j = (k : Int)) (h : k < xs.length) : tset xs j a = .ok (xs.set k a) := by rw [hj]; exact tset_ok h
end
/-! ranges -/
theorem rangeI_zero (lo : Int) : rangeI lo 0 = [] := rfl
@[simp] theorem rangeI_len (lo : Int) (n : Nat) : (rangeI lo n).length = n := by unfold rangeI; simp
theorem rangeI_succ (lo : Int) (n : Nat) : rangeI lo (n + 1) = lo :: rangeI (lo + 1) n := by
  unfold rangeI
  rw [List.range_succ_eq_map, List.map_cons, List.map_map]
  congr 1
  · simp
  · refine List.map_congr_left fun k _ => ?_
    simp only [Function.comp]
    omega
theorem rangeI_get {lo : Int} {n i : Nat} {d : Int} (h : (rangeI lo n)[i]? = some d) : i < n ∧ d = lo + (i : Int) := by
  unfold rangeI at h
  rw [List.getElem?_map] at h
  by_cases hi : i < n
  · rw [List.getElem?_range hi] at h
    simp at h
    exact ⟨hi, h.symm⟩
  · rw [List.getElem?_eq_none (by simp; omega)] at h
    simp at h
theorem rangeI_mem {lo : Int} {n : Nat} {d : Int} : d ∈ rangeI lo n ↔ ∃ k : Nat, k < n ∧ d = lo + (k : Int) := by
  unfold rangeI
  simp only [List.mem_map, List.mem_range]
  exact ⟨fun ⟨k, h1, h2⟩ => ⟨k, h1, h2.symm⟩, fun ⟨k, h1, h2⟩ => ⟨k, h1, h2.symm⟩⟩
@[simp] theorem trange1_nat {n : Nat} (h : n ≤ 16777216) : trange1 (n : Int) = .ok (rangeI 0 n) := by
  unfold trange1; rw [if_pos (rngOk_nat h)]; simp
theorem trange1_of {j : Int} {n : Nat} (hj : j = (n : Int)) (h : n ≤ 16777216) : trange1 j = .ok (rangeI 0 n) := by rw [hj]; exact trange1_nat h
theorem trange2_of {i j : Int} {n : Nat} (hj : (j - i).toNat = n) (h1 : -16777216 ≤ i) (h2 : i ≤ 16777216) (h3 : -16777216 ≤ j) (h4 : j ≤ 16777216) (h5 : j - i ≤ 16777216) : trange2 i j = .ok (rangeI i n) := by
  unfold trange2; rw [if_pos (show rngOk i j from ⟨h1, h2, h3, h4, h5⟩), hj]
/-! products, quotients -/
theorem tmulI_ok {a b : Int} (h : IntMulOk a b) : tmulI a b = .ok (a * b) := by unfold tmulI; rw [if_pos h]
theorem tmulI_r {a b : Int} (h : Sm 64 b) : tmulI a b = .ok (a * b) := tmulI_ok (IntMulOk.of_right h.bits)
theorem tmulI_l {a b : Int} (h : Sm 64 a) : tmulI a b = .ok (a * b) := tmulI_ok (IntMulOk.of_left h.bits)
theorem tmulI_sm {m n : Nat} {a b : Int} (h : Sm m a) (g : Sm n b) (l : m + n ≤ 134217728 := by decide) : tmulI a b = .ok (a * b) := tmulI_ok (h.mulOk g l)
@[simp] theorem tmulI_bd {a b : Int} {m n : Nat} [ha : Bd a m] [hb : Bd b n] (h : m + n ≤ 134217728) : tmulI a b = .ok (a * b) := tmulI_sm ha.h hb.h h
theorem tfdivI_pos {a b : Int} (h : 0 < b) (h2 : b < 2 ^ 250) : tfdivI a b = .ok (a / b) := by unfold tfdivI; rw [cite_pos ⟨h, h2⟩]
@[simp] theorem tmodI_pos {a b : Int} (h : 0 < b) : tmodI a b = .ok (a % b) := if_pos h
theorem tpowI_ok {a b : Int} (h : 0 ≤ b ∧ b ≤ 1000 ∧ a.natAbs < 2 ^ 64) : tpowI a b = .ok (a ^ b.toNat) := by unfold tpowI; rw [cite_pos h]
/-! slices -/
theorem cutG_from {α : Type} (xs : List α) (k : Nat) : cutG xs (some (k : Int)) none = xs.drop k := by
  unfold cutG
  rw [HT.sIx_nat]
  show (xs.drop (min k xs.length)).take (xs.length - min k xs.length) = _
  by_cases h : k ≤ xs.length
  · rw [Nat.min_eq_left h, List.take_of_length_le (by simp)]
  · rw [Nat.min_eq_right (by omega), List.drop_of_length_le (Nat.le_refl _), List.drop_of_length_le (by omega)]; simp
theorem cutG_to {α : Type} (xs : List α) (k : Nat) : cutG xs none (some (k : Int)) = xs.take k := by
  unfold cutG
  rw [HT.sIx_nat]
  show (xs.drop 0).take (min k xs.length - 0) = _
  rw [List.drop_zero, Nat.sub_zero, ← List.take_eq_take_min]
theorem cutG_mid {α : Type} (xs : List α) (j k : Nat) : cutG xs (some (j : Int)) (some (k : Int)) = (xs.drop j).take (k - j) := by
  unfold cutG
  rw [HT.sIx_nat, HT.sIx_nat]
  by_cases hj : j ≤ xs.length
  · rw [Nat.min_eq_left hj]
    by_cases hk : k ≤ xs.length
    · rw [Nat.min_eq_left hk]
    · rw [Nat.min_eq_right (by omega), List.take_of_length_le (by simp), List.take_of_length_le (by simp; omega)]
  · rw [Nat.min_eq_right (show xs.length ≤ j by omega), List.drop_of_length_le (Nat.le_refl _), List.drop_of_length_le (show xs.length ≤ j by omega)]; simp
theorem cutG_len {α : Type} (xs : List α) (lo hi : Option Int) : (cutG xs lo hi).length ≤ xs.length := by
  unfold cutG; simp; omega
theorem cutG_mem {α : Type} {xs : List α} {lo hi : Option Int} {x : α} (h : x ∈ cutG xs lo hi) : x ∈ xs := List.mem_of_mem_drop (List.mem_of_mem_take h)
/-! drawn numbers -/
def Dr (n : Nat) (lim : Int) (ds : List Int) : Prop := ds.length = n ∧ ∀ d ∈ ds, 0 ≤ d ∧ d < lim
theorem Dr.snoc {n : Nat} {lim d : Int} {ds : List Int} (h : Dr n lim ds) (h0 : 0 ≤ d) (h1 : d < lim) : Dr (n + 1) lim (ds ++ [d]) :=
  ⟨by rw [List.length_append, h.1]; rfl, fun x hx => by
    rcases List.mem_append.mp hx with q | q
    · exact h.2 x q
    · rw [List.mem_singleton.mp q]; exact ⟨h0, h1⟩⟩
theorem Dr.idx {n : Nat} {lim : Int} {ds : List Int} (h : Dr n lim ds) (i : Nat) (hi : i < n) : ∃ d, tidx ds (i : Int) = .ok d ∧ 0 ≤ d ∧ d < lim := by
  have hl : i < ds.length := by rw [h.1]; exact hi
  exact ⟨ds[i], tidx_lt hl, h.2 _ (List.getElem_mem hl)⟩
theorem Dr.ix {n : Nat} {lim : Int} {ds : List Int} (h : Dr n lim ds) (j : Int) (h0 : 0 ≤ j := by omega) (h1 : j < (n : Int) := by omega) : ∃ d, tidx ds j = .ok d ∧ 0 ≤ d ∧ d < lim := by
  obtain ⟨d, e, r⟩ := h.idx j.toNat (by omega)
  exact ⟨d, by rw [show ((j.toNat : Nat) : Int) = j by omega] at e; exact e, r⟩
end VL

namespace VL
open PySem PySem.Spec PyProof.Rows L2

/-! ### places within what is one's own -/
def O.kids : O → Option (List O)
  | .tup xs => some xs
  | .lst xs => some xs
  | .dct _ xs => some xs
  | .ins _ _ xs => some xs
  | .par _ o => some [o]
  | .fz _ => none
def O.setKid : O → Nat → O → O
  | .tup xs, k, n => .tup (xs.set k n)
  | .lst xs, k, n => .lst (xs.set k n)
  | .dct ks xs, k, n => .dct ks (xs.set k n)
  | .ins c ns xs, k, n => .ins c ns (xs.set k n)
  | .par a _, _, n => .par a n
  | .fz d, _, _ => .fz d
def O.at (o : O) : List Nat → Option O
  | [] => some o
  | k :: ks => match o.kids with
    | some xs => (match xs[k]? with
      | some x => O.at x ks
      | none => none)
    | none => none
def O.put (o : O) : List Nat → O → O
  | [], n => n
  | k :: ks, n => match o.kids with
    | some xs => (match xs[k]? with
      | some x => o.setKid k (O.put x ks n)
      | none => o)
    | none => o
/-- the way from a value to a place in it -/
inductive Pth (K : PySem.W.Frag) (F H : Hp) : V → O → List Nat → V → Prop
  | nil {v : V} {o : O} : Pth K F H v o [] v
  | lst {a : Addr} {vs : List V} {os : List O} {k : Nat} {p : List Nat} {v1 v' : V} {o1 : O} : H a = some (.lst vs) → vs.length = os.length → vs[k]? = some v1 → os[k]? = some o1 → Pth K F H v1 o1 p v' → Pth K F H (.ref a) (.lst os) (k :: p) v'
  | tup {a : Addr} {vs : List V} {os : List O} {k : Nat} {p : List Nat} {v1 v' : V} {o1 : O} : F a = some (.tup vs) → vs.length = os.length → vs[k]? = some v1 → os[k]? = some o1 → Pth K F H v1 o1 p v' → Pth K F H (.ref a) (.tup os) (k :: p) v'
  | dct {a : Addr} {ks : KS} {vs : List V} {os : List O} {k : Nat} {p : List Nat} {v1 v' : V} {o1 : O} : H a = some (hoD ks vs) → ks.len = vs.length → vs.length = os.length → vs[k]? = some v1 → os[k]? = some o1 → Pth K F H v1 o1 p v' → Pth K F H (.ref a) (.dct ks os) (k :: p) v'
  | ins {a C dx : Addr} {c : Str} {ns : List Str} {vs : List V} {os : List O} {k : Nat} {p : List Nat} {v1 v' : V} {o1 : O} : clsOf K c = some C → H a = some (.ins C dx (ns.zip vs)) → ns.length = vs.length → vs.length = os.length → vs[k]? = some v1 → os[k]? = some o1 → Pth K F H v1 o1 p v' → Pth K F H (.ref a) (.ins c ns os) (k :: p) v'
  | par {a : Addr} {o : O} {p : List Nat} {v' : V} : Pth K F H (.ref a) o p v' → Pth K F H (.ref a) (.par a o) (0 :: p) v'
theorem Pth.mono {K : PySem.W.Frag} {F F' H H' : Hp} (e : Same H H') (ef : Same F F') {v : V} {o : O} {p : List Nat} {v' : V} (h : Pth K F H v o p v') : Pth K F' H' v o p v' := by
  induction h with
  | nil => exact .nil
  | lst h1 h2 h3 h4 _ ih => exact .lst (e _ _ h1) h2 h3 h4 ih
  | tup h1 h2 h3 h4 _ ih => exact .tup (ef _ _ h1) h2 h3 h4 ih
  | dct h1 hl h2 h3 h4 _ ih => exact .dct (e _ _ h1) hl h2 h3 h4 ih
  | ins hc h1 hl h2 h3 h4 _ ih => exact .ins hc (e _ _ h1) hl h2 h3 h4 ih
  | par _ ih => exact .par ih
/-- one of the items out, and something else in its place -/
theorem OwnL.child {K : PySem.W.Frag} {F H : Hp} : ∀ {os : List O} {vs : List V} {fps : List Addr} {k : Nat} {o1 : O}, OwnL K F H vs os fps → os[k]? = some o1 → ∃ v1 f1 fr, vs[k]? = some v1 ∧ Own K F H v1 o1 f1 ∧ fps.Perm (f1 ++ fr) ∧
    ∀ F2 H2 o2 f2, Own K F2 H2 v1 o2 f2 → Same F F2 → (∀ a ∈ fr, H2 a = H a) → ∃ fq, OwnL K F2 H2 vs (os.set k o2) fq ∧ fq.Perm (f2 ++ fr)
  | [], _, _, k, o1, h, e => by simp at e
  | o :: os, _, _, 0, o1, h, e => by
    cases h with
    | @cons v vs _ _ f1 f2 h1 h2 =>
      simp at e
      subst e
      exact ⟨v, f1, f2, rfl, h1, .refl _, fun F2 H2 o2 f3 q1 q2 q3 => ⟨f3 ++ f2, .cons q1 (h2.keep q2 q3), .refl _⟩⟩
  | o :: os, _, _, k + 1, o1, h, e => by
    cases h with
    | @cons v vs _ _ f1 f2 h1 h2 =>
      obtain ⟨v1, g1, gr, e1, e2, e3, e4⟩ := OwnL.child (k := k) h2 (by simpa using e)
      refine ⟨v1, g1, f1 ++ gr, by simpa using e1, e2, ?_, fun F2 H2 o2 f3 q1 q2 q3 => ?_⟩
      · refine (List.Perm.append_left f1 e3).trans ?_
        rw [← List.append_assoc, ← List.append_assoc]
        exact List.Perm.append_right _ List.perm_append_comm
      · obtain ⟨fq, z1, z2⟩ := e4 F2 H2 o2 f3 q1 q2 fun a ha => q3 a (List.mem_append_right _ ha)
        refine ⟨f1 ++ fq, .cons (h1.keep q2 fun a ha => q3 a (List.mem_append_left _ ha)) z1, ?_⟩
        refine (List.Perm.append_left f1 z2).trans ?_
        rw [← List.append_assoc, ← List.append_assoc]
        exact List.Perm.append_right _ List.perm_append_comm
theorem perm_mid {α : Type} (c a b : List α) : (c ++ (a ++ b)).Perm (a ++ (c ++ b)) := by
  rw [← List.append_assoc, ← List.append_assoc]
  exact List.Perm.append_right _ List.perm_append_comm
theorem Own.path {K : PySem.W.Frag} {F H : Hp} : ∀ (p : List Nat) {o : O} {v : V} {fp : List Addr} {o' : O}, Own K F H v o fp → o.at p = some o' → ∃ v' f1 fr, Pth K F H v o p v' ∧ Own K F H v' o' f1 ∧ fp.Perm (f1 ++ fr) ∧
    ∀ F2 H2 o2 f2, Own K F2 H2 v' o2 f2 → Same F F2 → (∀ a ∈ fr, H2 a = H a) → ∃ fq, Own K F2 H2 v (o.put p o2) fq ∧ fq.Perm (f2 ++ fr)
  | [], o, v, fp, o', h, e => by
    simp only [O.at, Option.some.injEq] at e
    subst e
    exact ⟨v, fp, [], .nil, h, by simp, fun F2 H2 o2 f2 q1 q2 q3 => ⟨f2, q1, by simp⟩⟩
  | k :: p, o, v, fp, o', h, e => by
    simp only [O.at] at e
    cases o with
    | fz d => cases e
    | par a o =>
      simp only [O.kids] at e
      cases k with
      | succ k => simp at e
      | zero =>
        simp only [List.getElem?_cons_zero] at e
        cases h with
        | par h1 =>
          obtain ⟨v', f1, fr, e1, e2, e3, e4⟩ := Own.path p h1 e
          refine ⟨v', f1, fr, .par e1, e2, e3, fun F2 H2 o2 f2 q1 q2 q3 => ?_⟩
          obtain ⟨fq, z1, z2⟩ := e4 F2 H2 o2 f2 q1 q2 q3
          exact ⟨fq, .par z1, z2⟩
    | tup os =>
      simp only [O.kids] at e
      cases hk : os[k]? with
      | none => rw [hk] at e; cases e
      | some x =>
        rw [hk] at e
        cases h with
        | tup h1 h2 =>
          obtain ⟨v1, g1, gr, c1, c2, c3, c4⟩ := h2.child hk
          obtain ⟨v', f1, fr, e1, e2, e3, e4⟩ := Own.path p c2 e
          refine ⟨v', f1, fr ++ gr, .tup h1 h2.len c1 hk e1, e2, ?_, fun F2 H2 o2 f2 q1 q2 q3 => ?_⟩
          · rw [← List.append_assoc]; exact c3.trans (List.Perm.append_right _ e3)
          · obtain ⟨fq, z1, z2⟩ := e4 F2 H2 o2 f2 q1 q2 fun a ha => q3 a (List.mem_append_left _ ha)
            obtain ⟨fz, w1, w2⟩ := c4 F2 H2 _ fq z1 q2 fun a ha => q3 a (List.mem_append_right _ ha)
            refine ⟨fz, ?_, ?_⟩
            · simp only [O.put, O.kids, hk, O.setKid]; exact .tup (q2 _ _ h1) w1
            · rw [← List.append_assoc]; exact w2.trans (List.Perm.append_right _ z2)
    | lst os =>
      simp only [O.kids] at e
      cases hk : os[k]? with
      | none => rw [hk] at e; cases e
      | some x =>
        rw [hk] at e
        cases h with
        | @lst a vs _ fpi h1 h2 =>
          obtain ⟨v1, g1, gr, c1, c2, c3, c4⟩ := h2.child hk
          obtain ⟨v', f1, fr, e1, e2, e3, e4⟩ := Own.path p c2 e
          refine ⟨v', f1, a :: (fr ++ gr), .lst h1 h2.len c1 hk e1, e2, ?_, fun F2 H2 o2 f2 q1 q2 q3 => ?_⟩
          · refine (List.Perm.cons a (c3.trans (List.Perm.append_right _ e3))).trans ?_
            rw [List.append_assoc]
            exact (List.perm_middle (l₁ := f1) (l₂ := fr ++ gr) (a := a)).symm
          · obtain ⟨fq, z1, z2⟩ := e4 F2 H2 o2 f2 q1 q2 fun a ha => q3 a (List.mem_cons_of_mem _ (List.mem_append_left _ ha))
            obtain ⟨fz, w1, w2⟩ := c4 F2 H2 _ fq z1 q2 fun a ha => q3 a (List.mem_cons_of_mem _ (List.mem_append_right _ ha))
            refine ⟨a :: fz, ?_, ?_⟩
            · simp only [O.put, O.kids, hk, O.setKid]; exact .lst ((q3 a List.mem_cons_self).trans h1) w1
            · refine (List.Perm.cons a (w2.trans (List.Perm.append_right _ z2))).trans ?_
              rw [List.append_assoc]
              exact (List.perm_middle (l₁ := f2) (l₂ := fr ++ gr) (a := a)).symm
    | dct ks os =>
      simp only [O.kids] at e
      cases hk : os[k]? with
      | none => rw [hk] at e; cases e
      | some x =>
        rw [hk] at e
        cases h with
        | @dct a _ vs _ fpi h1 hl h2 =>
          obtain ⟨v1, g1, gr, c1, c2, c3, c4⟩ := h2.child hk
          obtain ⟨v', f1, fr, e1, e2, e3, e4⟩ := Own.path p c2 e
          refine ⟨v', f1, a :: (fr ++ gr), .dct h1 hl.1 h2.len c1 hk e1, e2, ?_, fun F2 H2 o2 f2 q1 q2 q3 => ?_⟩
          · refine (List.Perm.cons a (c3.trans (List.Perm.append_right _ e3))).trans ?_
            rw [List.append_assoc]
            exact (List.perm_middle (l₁ := f1) (l₂ := fr ++ gr) (a := a)).symm
          · obtain ⟨fq, z1, z2⟩ := e4 F2 H2 o2 f2 q1 q2 fun a ha => q3 a (List.mem_cons_of_mem _ (List.mem_append_left _ ha))
            obtain ⟨fz, w1, w2⟩ := c4 F2 H2 _ fq z1 q2 fun a ha => q3 a (List.mem_cons_of_mem _ (List.mem_append_right _ ha))
            refine ⟨a :: fz, ?_, ?_⟩
            · simp only [O.put, O.kids, hk, O.setKid]; exact .dct ((q3 a List.mem_cons_self).trans h1) hl w1
            · refine (List.Perm.cons a (w2.trans (List.Perm.append_right _ z2))).trans ?_
              rw [List.append_assoc]
              exact (List.perm_middle (l₁ := f2) (l₂ := fr ++ gr) (a := a)).symm
    | ins c ns os =>
      simp only [O.kids] at e
      cases hk : os[k]? with
      | none => rw [hk] at e; cases e
      | some x =>
        rw [hk] at e
        cases h with
        | @ins a C dx _ _ vs _ fpi hc h1 hd hl h2 =>
          obtain ⟨v1, g1, gr, c1, c2, c3, c4⟩ := h2.child hk
          obtain ⟨v', f1, fr, e1, e2, e3, e4⟩ := Own.path p c2 e
          refine ⟨v', f1, a :: dx :: (fr ++ gr), .ins hc h1 hl h2.len c1 hk e1, e2, ?_, fun F2 H2 o2 f2 q1 q2 q3 => ?_⟩
          · refine (List.Perm.cons a (List.Perm.cons dx (c3.trans (List.Perm.append_right _ e3)))).trans ?_
            rw [List.append_assoc]
            exact perm_mid [a, dx] f1 (fr ++ gr)
          · obtain ⟨fq, z1, z2⟩ := e4 F2 H2 o2 f2 q1 q2 fun a ha => q3 a (List.mem_cons_of_mem _ (List.mem_cons_of_mem _ (List.mem_append_left _ ha)))
            obtain ⟨fz, w1, w2⟩ := c4 F2 H2 _ fq z1 q2 fun a ha => q3 a (List.mem_cons_of_mem _ (List.mem_cons_of_mem _ (List.mem_append_right _ ha)))
            refine ⟨a :: dx :: fz, ?_, ?_⟩
            · simp only [O.put, O.kids, hk, O.setKid]
              exact .ins hc ((q3 a List.mem_cons_self).trans h1) ((q3 dx (List.mem_cons_of_mem _ List.mem_cons_self)).trans hd) hl w1
            · refine (List.Perm.cons a (List.Perm.cons dx (w2.trans (List.Perm.append_right _ z2)))).trans ?_
              rw [List.append_assoc]
              exact perm_mid [a, dx] f2 (fr ++ gr)
/-- a heap without some of its things -/
def cutH (H : Hp) (fp : List Addr) : Hp := fun a => if a ∈ fp then none else H a
theorem cutH_in {H : Hp} {fp : List Addr} {a : Addr} (h : a ∈ fp) : cutH H fp a = none := if_pos h
theorem cutH_out {H : Hp} {fp : List Addr} {a : Addr} (h : a ∉ fp) : cutH H fp a = H a := if_neg h
/-- a place in slot i, beside a value that is held: what is there may be changed, with the value -/
theorem RS.place {K : PySem.W.Frag} {F0 H0 F H : Hp} {σ : L2.St} {ρ : OEnv} {y : V} {oy : O} {i : Nat} {o o' : O} {p : List Nat} (r : RS K F0 H0 F H (some y :: σ) (some oy :: ρ)) (ei : ρ[i]? = some (some o)) (ep : o.at p = some o') :
    ∃ v v' f1 fy, σ[i]? = some (some v) ∧ Pth K F H v o p v' ∧ Own K F H v' o' f1 ∧ Own K F H y oy fy ∧ (fy ++ f1).Nodup ∧ (∀ a ∈ fy ++ f1, F a = none) ∧ Same F H ∧
      ∀ F2 H2 o2, RV K F (cutH H (fy ++ f1)) F2 H2 v' o2 → RS K F0 H0 F2 H2 σ (ρ.set i (some (o.put p o2))) := by
  obtain ⟨fps, sl, hs⟩ := r.ex
  cases sl with
  | @ow _ _ fy _ _ fpt hy s =>
    obtain ⟨v, fp, fpr, e1, e2, e3, e4, e5⟩ := s.split ei
    obtain ⟨v', f1, fr, p1, p2, p3, p4⟩ := e2.path p ep
    have hp : Hs F0 H0 F H (fy ++ (f1 ++ (fr ++ fpr))) := hs.perm (List.Perm.append_left fy (e3.trans (by rw [← List.append_assoc]; exact List.Perm.append_right _ p3)))
    have hp' : Hs F0 H0 F H ((fy ++ f1) ++ (fr ++ fpr)) := by rw [List.append_assoc]; exact hp
    have nd := List.nodup_append.mp hp'.nd
    have lst : ∀ a ∈ fr ++ fpr, ∃ u, H a = some u := fun a ha => by
      rcases List.mem_append.mp ha with q | q
      · obtain ⟨u, z, _⟩ := e2.lstAt a (p3.mem_iff.mpr (List.mem_append_right _ q)); exact ⟨u, z⟩
      · obtain ⟨u, z, _⟩ := s.lstAt a (e3.mem_iff.mpr (List.mem_append_right _ q)); exact ⟨u, z⟩
    refine ⟨v, v', f1, fy, e1, p1, p2, hy, nd.1, fun a ha => (hp'.ow a (List.mem_append_left _ ha)).1, hs.fh, fun F2 H2 o2 ⟨f2, w1, w2⟩ => ?_⟩
    have kp : ∀ a ∈ fr ++ fpr, cutH H (fy ++ f1) a = H a := fun a ha => cutH_out fun m => nd.2.2 a m a ha rfl
    have keep : ∀ a ∈ fr ++ fpr, H2 a = H a := fun a ha => by
      obtain ⟨u, z⟩ := lst a ha
      rw [z]
      exact w2.h0 _ _ ((kp a ha).trans z)
    obtain ⟨fq, g1, g2⟩ := p4 F2 H2 o2 f2 w1 w2.f0 fun a ha => keep a (List.mem_append_left _ ha)
    obtain ⟨fz, g3, g4⟩ := e5 F2 H2 v _ fq g1 w2.f0 fun a ha => keep a (List.mem_append_right _ ha)
    rw [set_same e1] at g3
    have pm : fz.Perm (f2 ++ (fr ++ fpr)) := g4.trans (by rw [← List.append_assoc]; exact List.Perm.append_right _ g2)
    have cut0 : ∀ a, cutH H (fy ++ f1) a = none → H0 a = none := fun a ha => by
      by_cases m : a ∈ fy ++ f1
      · exact (hp'.ow a (List.mem_append_left _ m)).2
      · rw [cutH_out m] at ha; exact Same.free hs.h0 ha
    refine ⟨fz, g3, Hs.perm ?_ pm.symm⟩
    refine ⟨List.nodup_append.mpr ⟨w2.nd, nd.2.1, fun a ha b hb e => ?_⟩, fun a ha => ?_, w2.fh, hs.f0.trans w2.f0, fun a u z => ?_, fun a z1 z2 => ?_⟩
    · subst e
      obtain ⟨u, z⟩ := lst a hb
      have := (w2.ow a ha).2
      rw [kp a hb, z] at this
      cases this
    · rcases List.mem_append.mp ha with m | m
      · exact ⟨(w2.ow a m).1, cut0 a (w2.ow a m).2⟩
      · refine ⟨?_, (hp'.ow a (List.mem_append_right _ m)).2⟩
        cases q : F2 a with
        | none => rfl
        | some u =>
          have := w2.nw a (hp'.ow a (List.mem_append_right _ m)).1 (by rw [q]; exact fun w => nomatch w)
          obtain ⟨u', z⟩ := lst a m
          rw [kp a m, z] at this
          cases this
    · refine w2.h0 _ _ ?_
      rw [cutH_out fun m => by rw [(hp'.ow a (List.mem_append_left _ m)).2] at z; cases z]
      exact hs.h0 _ _ z
    · cases q : F a with
      | some u => exact hs.nw a z1 (by rw [q]; exact fun w => nomatch w)
      | none => exact cut0 a (w2.nw a q z2)
/-- one thing is changed, what it held and what it gets stays -/
theorem RV.cell {K : PySem.W.Frag} {F H : Hp} {a : Addr} {ho2 : HO} {o2 : O} {f1 fi : List Addr} (fh : Same F H) (nd : f1.Nodup) (fn : ∀ b ∈ f1, F b = none) (ha : a ∈ f1) (hfi : ∀ b ∈ fi, b ∈ f1) (hfa : a ∉ fi) (ndi : fi.Nodup) (ho : Own K F (upd H a ho2) (.ref a) o2 (a :: fi)) : RV K F (cutH H f1) F (upd H a ho2) (.ref a) o2 :=
  ⟨a :: fi, ho, List.nodup_cons.mpr ⟨hfa, ndi⟩, fun b hb => by
    rcases List.mem_cons.mp hb with q | q
    · subst q; exact ⟨fn _ ha, cutH_in ha⟩
    · exact ⟨fn b (hfi b q), cutH_in (hfi b q)⟩, fun b u z => by
    have hb : b ≠ a := fun e => by rw [e, fn a ha] at z; cases z
    rw [upd_ne hb]; exact fh _ _ z, Same.refl F, fun b u z => by
    have hb : b ≠ a := fun e => by rw [e, cutH_in ha] at z; cases z
    rw [upd_ne hb]
    by_cases m : b ∈ f1
    · rw [cutH_in m] at z; cases z
    · rw [cutH_out m] at z; exact z, fun b z1 z2 => absurd z1 z2⟩
/-- a list at a place is changed by a value -/
theorem RS.mutL {K : PySem.W.Frag} {F0 H0 F H : Hp} {σ : L2.St} {ρ : OEnv} {y : V} {oy : O} {i : Nat} {o : O} {os : List O} {p : List Nat} (r : RS K F0 H0 F H (some y :: σ) (some oy :: ρ)) (ei : ρ[i]? = some (some o)) (ep : o.at p = some (.lst os)) :
    ∃ v a vs, σ[i]? = some (some v) ∧ Pth K F H v o p (.ref a) ∧ H a = some (.lst vs) ∧ vs.length = os.length ∧
      ∀ {tv : List V → V → List V} {to : List O → O → List O}, Chg tv to → RS K F0 H0 F (upd H a (.lst (tv vs y))) σ (ρ.set i (some (o.put p (.lst (to os oy))))) := by
  obtain ⟨v, v', f1, fy, e1, e2, e3, e4, nd, fn, fh, back⟩ := r.place ei ep
  cases e3 with
  | @lst a vs _ fi ha hl =>
    refine ⟨v, a, vs, e1, e2, ha, hl.len, fun {tv to} c => back F _ _ ?_⟩
    have nd2 := List.nodup_append.mp nd
    have na_y : a ∉ fy := fun m => nd2.2.2 a m a List.mem_cons_self rfl
    have na_i : a ∉ fi := (List.nodup_cons.mp nd2.2.1).1
    have hk : ∀ b, b ≠ a → upd H a (.lst (tv vs y)) b = H b := fun b hb => upd_ne hb
    have o1 : Own K F (upd H a (.lst (tv vs y))) y oy fy := e4.keep (Same.refl F) fun b hb => hk b fun e => na_y (e ▸ hb)
    have l1 : OwnL K F (upd H a (.lst (tv vs y))) vs os fi := hl.keep (Same.refl F) fun b hb => hk b fun e => na_i (e ▸ hb)
    obtain ⟨fp', z1, fp'', z2, z3⟩ := c.own l1 o1
    have sub : ∀ b ∈ fp', b ∈ fi ++ fy := fun b hb => z3.subset (z2.mem_iff.mp hb)
    have ndf : (fi ++ fy).Nodup := List.nodup_append.mpr ⟨(List.nodup_cons.mp nd2.2.1).2, nd2.1, fun x hx w hw e => nd2.2.2 w hw x (List.mem_cons_of_mem _ hx) e.symm⟩
    refine RV.cell (fi := fp') fh nd fn (List.mem_append_right _ List.mem_cons_self) (fun b hb => ?_) (fun m => ?_) (z2.nodup_iff.mpr (ndf.sublist z3)) (.lst upd_same z1)
    · rcases List.mem_append.mp (sub b hb) with q | q
      · exact List.mem_append_right _ (List.mem_cons_of_mem _ q)
      · exact List.mem_append_left _ q
    · rcases List.mem_append.mp (sub a m) with q | q
      · exact na_i q
      · exact na_y q
end VL

namespace VL
open PySem PySem.Spec PyProof.Rows L2

theorem hoD_inj {k1 k2 : KS} {v1 v2 : List V} (h : hoD k1 v1 = hoD k2 v2) (l1 : k1.len = v1.length) (l2 : k2.len = v2.length) : v1 = v2 := by
  cases k1 with
  | inl a =>
    cases k2 with
    | inl b =>
      simp only [hoD, HO.dK.injEq] at h
      have := congrArg (List.map Prod.snd) h
      rw [List.map_snd_zip (Nat.le_of_eq l1.symm), List.map_snd_zip (Nat.le_of_eq l2.symm)] at this
      exact this
    | inr b => cases h
  | inr a =>
    cases k2 with
    | inl b => cases h
    | inr b =>
      simp only [hoD, HO.dT.injEq] at h
      have := congrArg (List.map Prod.snd) h
      rw [List.map_snd_zip (Nat.le_of_eq l1.symm), List.map_snd_zip (Nat.le_of_eq l2.symm)] at this
      exact this
theorem zip_inj {α β : Type} {n1 n2 : List α} {v1 v2 : List β} (h : n1.zip v1 = n2.zip v2) (l1 : n1.length = v1.length) (l2 : n2.length = v2.length) : n1 = n2 ∧ v1 = v2 := by
  constructor
  · have := congrArg (List.map Prod.fst) h
    rw [List.map_fst_zip (Nat.le_of_eq l1), List.map_fst_zip (Nat.le_of_eq l2)] at this
    exact this
  · have := congrArg (List.map Prod.snd) h
    rw [List.map_snd_zip (Nat.le_of_eq l1.symm), List.map_snd_zip (Nat.le_of_eq l2.symm)] at this
    exact this
theorem Pth.det {K : PySem.W.Frag} {F H : Hp} {v : V} {o : O} {p : List Nat} {x y : V} (h : Pth K F H v o p x) (g : Pth K F H v o p y) : x = y := by
  induction h generalizing y with
  | nil => cases g; rfl
  | lst h1 h2 h3 h4 _ ih =>
    cases g with
    | lst g1 g2 g3 g4 g5 =>
      rw [h1] at g1; cases g1
      rw [h3] at g3; cases g3
      rw [h4] at g4; cases g4
      exact ih g5
  | tup h1 h2 h3 h4 _ ih =>
    cases g with
    | tup g1 g2 g3 g4 g5 =>
      rw [h1] at g1; cases g1
      rw [h3] at g3; cases g3
      rw [h4] at g4; cases g4
      exact ih g5
  | dct h1 hl h2 h3 h4 _ ih =>
    cases g with
    | dct g1 gl g2 g3 g4 g5 =>
      rw [h1] at g1
      have := hoD_inj (Option.some.inj g1) hl gl
      subst this
      rw [h3] at g3; cases g3
      rw [h4] at g4; cases g4
      exact ih g5
  | ins hc h1 hl h2 h3 h4 _ ih =>
    cases g with
    | ins gc g1 gl g2 g3 g4 g5 =>
      rw [h1] at g1
      have e := Option.some.inj g1
      injection e with e1 e2 e3
      have := (zip_inj e3 hl gl).2
      subst this
      rw [h3] at g3; cases g3
      rw [h4] at g4; cases g4
      exact ih g5
  | par _ ih => cases g with | par g => exact ih g
theorem O.at_app (o : O) : ∀ (p q : List Nat) {o1 : O}, o.at p = some o1 → o.at (p ++ q) = o1.at q := by
  intro p
  induction p generalizing o with
  | nil => intro q o1 h; simp only [O.at, Option.some.injEq] at h; subst h; rfl
  | cons k p ih =>
    intro q o1 h
    simp only [O.at, List.cons_append] at h ⊢
    cases hk : o.kids with
    | none => rw [hk] at h; cases h
    | some xs =>
      rw [hk] at h
      simp only at h ⊢
      cases hx : xs[k]? with
      | none => rw [hx] at h; cases h
      | some x => rw [hx] at h; exact ih x q h
theorem Pth.app {K : PySem.W.Frag} {F H : Hp} {v : V} {o : O} {p q : List Nat} {x y : V} {o1 : O} (h : Pth K F H v o p x) (ho : o.at p = some o1) (g : Pth K F H x o1 q y) : Pth K F H v o (p ++ q) y := by
  induction h with
  | nil => simp only [O.at, Option.some.injEq] at ho; subst ho; exact g
  | lst h1 h2 h3 h4 _ ih => exact .lst h1 h2 h3 h4 (ih (by simpa only [O.at, O.kids, h4] using ho) g)
  | tup h1 h2 h3 h4 _ ih => exact .tup h1 h2 h3 h4 (ih (by simpa only [O.at, O.kids, h4] using ho) g)
  | dct h1 hl h2 h3 h4 _ ih => exact .dct h1 hl h2 h3 h4 (ih (by simpa only [O.at, O.kids, h4] using ho) g)
  | ins hc h1 hl h2 h3 h4 _ ih => exact .ins hc h1 hl h2 h3 h4 (ih (by simpa only [O.at, O.kids, h4] using ho) g)
  | par _ ih => exact .par (ih (by simpa [O.at, O.kids] using ho) g)
/-- a value held that is nothing -/
theorem RS.non {K : PySem.W.Frag} {F0 H0 F H : Hp} {σ : L2.St} {ρ : OEnv} (r : RS K F0 H0 F H σ ρ) : RS K F0 H0 F H (some .non :: σ) (some (.fz .none) :: ρ) := r.consFz .non
theorem RS.slot {K : PySem.W.Frag} {F0 H0 F H : Hp} {σ : L2.St} {ρ : OEnv} {i : Nat} {o : O} (r : RS K F0 H0 F H σ ρ) (e : ρ[i]? = some (some o)) : ∃ v, σ[i]? = some (some v) := by
  obtain ⟨fps, s, hs⟩ := r.ex
  obtain ⟨v, fp, fpr, e1, _⟩ := s.split e
  exact ⟨v, e1⟩

/-- an expression that is a place -/
structure VPl (X : Cx) (W : WX) (e : Expr) (h : OEnv → R (Nat × List Nat)) : Prop where
  ex : ∃ t, PE X e t ∧ ∀ σ H F0 H0 F ρ Q, RS X.K F0 H0 F H σ ρ → Pst X W σ H (fun ip => ∃ o v, ρ[ip.1]? = some (some o) ∧ σ[ip.1]? = some (some v) ∧ (∃ o', o.at ip.2 = some o') ∧ ∀ v' H' F', Ext F H F' H' → Pth X.K F' H' v o ip.2 v' → Q v' H') (h ρ) → t σ H Q
def lentP : O → List Nat
  | .par _ _ => [0]
  | _ => []
def pVar (i : Nat) : OEnv → R (Nat × List Nat) := fun ρ => match ρ[i]? with
  | some (some o) => .ok (i, lentP o)
  | _ => .stuck
def pIx1 (ip : Nat × List Nat) (n : Nat) (d : PyData) : R (Nat × List Nat) := match d with
  | .int j => (match ixN n j with | some k => .ok (ip.1, ip.2 ++ [k]) | none => .stuck)
  | _ => .stuck
def pIdx (h : OEnv → R (Nat × List Nat)) (hk : OEnv → R PyData) : OEnv → R (Nat × List Nat) := fun ρ => (h ρ).bind fun ip => match ρ[ip.1]? with
  | some (some o) => (match o.at ip.2 with
    | some (.lst os) => (hk ρ).bind (pIx1 ip os.length)
    | some (.tup os) => (hk ρ).bind (pIx1 ip os.length)
    | _ => .stuck)
  | _ => .stuck
section
variable {X : Cx} {W : WX} {a b c e : Expr} {es : List Expr} {pos : Pos} {hx hk : OEnv → R PyData} {hp : OEnv → R (Nat × List Nat)} {ho : OEnv → R (O × OEnv)} {k : Nat}
theorem vpl_var (i : Nat) (pv : PE X e (tVar i)) : VPl X W e (pVar i) := by
  refine ⟨_, pv, fun σ H F0 H0 F ρ Q r pr => ?_⟩
  unfold pVar at pr
  split at pr
  · rename_i o eo
    obtain ⟨o2, v, e1, e2, ⟨o', e3⟩, q⟩ := pr
    refine ⟨v, e2, q v H F ?_ ?_⟩
    · obtain ⟨_, _, hs⟩ := r.ex; exact .refl hs.fh
    · have e1' : ρ[i]? = some (some o2) := e1
      rw [eo] at e1'
      cases e1'
      obtain ⟨v0, v', f1, fy, g1, g2, g3, _⟩ := r.non.place eo e3
      have g1' : σ[i]? = some (some v0) := g1
      rw [show σ[i]? = some (some v) from e2] at g1'
      cases g1'
      cases o <;> first | exact .nil | skip
      rename_i ad o1
      cases g2 with
      | par g => exact .par .nil
  · exact pr.elim
theorem pl_one {K : PySem.W.Frag} {F H : Hp} {a : Addr} {vs : List V} {os : List O} {k : Nat} {v1 : V} (h1 : H a = some (.lst vs)) (h2 : vs.length = os.length) (h3 : vs[k]? = some v1) : Pth K F H (.ref a) (.lst os) [k] v1 := by
  have hk : k < os.length := by rw [← h2]; exact (List.getElem?_eq_some_iff.mp h3).1
  exact .lst h1 h2 h3 (List.getElem?_eq_getElem hk) .nil
theorem pl_oneT {K : PySem.W.Frag} {F H : Hp} {a : Addr} {vs : List V} {os : List O} {k : Nat} {v1 : V} (h1 : F a = some (.tup vs)) (h2 : vs.length = os.length) (h3 : vs[k]? = some v1) : Pth K F H (.ref a) (.tup os) [k] v1 := by
  have hk : k < os.length := by rw [← h2]; exact (List.getElem?_eq_some_iff.mp h3).1
  exact .tup h1 h2 h3 (List.getElem?_eq_getElem hk) .nil
theorem ixN_lt {n j : Nat} {i : Int} (h : ixN n i = some j) : j < n := (ixN_seq h).2.1
theorem vpl_idx (h : VPl X W a hp) (hb : VX X W b hk) (hs : PlainIx b := by exact fun _ _ => rfl) : VPl X W (.Subscript a b pos) (pIdx hp hk) := by
  obtain ⟨t, p, q⟩ := h.ex
  obtain ⟨tk, pk, qk⟩ := hb.ex
  refine ⟨_, pe_ix ix_seq p pk hs, fun σ H F0 H0 F ρ Q r pr => ?_⟩
  refine q σ H F0 H0 F ρ _ r ?_
  unfold pIdx at pr
  generalize hp ρ = rp at pr ⊢
  cases rp with
  | stuck => exact pr
  | err c => exact pr
  | ok ip =>
    simp only [R.bind_ok] at pr
    cases hρ : ρ[ip.1]? with
    | none => rw [hρ] at pr; exact pr.elim
    | some oo =>
      cases oo with
      | none => rw [hρ] at pr; exact pr.elim
      | some o =>
        rw [hρ] at pr
        simp only at pr
        obtain ⟨v, ev⟩ := r.slot hρ
        cases ho : o.at ip.2 with
        | none => rw [ho] at pr; exact pr.elim
        | some o1 =>
          rw [ho] at pr
          refine ⟨o, v, hρ, ev, ⟨o1, ho⟩, fun v' H1 F1 ex1 pt => ?_⟩
          have r1 := r.ext ex1
          obtain ⟨v0, v2, f1, fy, g1, g2, g3, _, _, _, fh, _⟩ := r1.non.place hρ ho
          have g1' : σ[ip.1]? = some (some v0) := g1
          rw [ev] at g1'
          cases g1'
          have := pt.det g2
          subst this
          refine qk σ H1 F0 H0 F1 ρ _ r1 ?_
          have err : ∀ c, (∀ H', Same H H' → ErrAt X W c σ H') → ∀ H', Same H1 H' → ErrAt X W c σ H' := fun c z H' e => z H' (ex1.hh.trans e)
          cases o1 with
          | lst os =>
            simp only at pr
            generalize hk ρ = rk at pr ⊢
            cases rk with
            | stuck => exact pr.elim
            | err c => exact err c pr
            | ok d =>
              simp only [R.bind_ok] at pr
              intro iv H2 F2 ex2 di
              unfold pIx1 at pr
              cases di <;> first | exact pr.elim | skip
              rename_i j
              simp only at pr
              cases hix : ixN os.length j with
              | none => rw [hix] at pr; exact pr.elim
              | some k =>
                rw [hix] at pr
                obtain ⟨o3, v3, e1, e2, ⟨o4, e3⟩, qq⟩ := pr
                have e1' : ρ[ip.1]? = some (some o3) := e1
                rw [hρ] at e1'; cases e1'
                have e2' : σ[ip.1]? = some (some v3) := e2
                rw [ev] at e2'; cases e2'
                cases g3 with
                | @lst ad vs _ fi ha hl =>
                  have lk : k < vs.length := by rw [hl.len]; exact ixN_lt hix
                  have hv := List.getElem?_eq_getElem lk
                  refine .inl ⟨ad, vs, j, _, rfl, rfl, .inl (.inl (ex2.hh _ _ ha)), by unfold atI; rw [hl.len, hix]; exact hv, qq _ H2 F2 (ex1.trans ex2) ?_⟩
                  exact (pt.mono ex2.hh ex2.bb).app ho (pl_one (ex2.hh _ _ ha) hl.len hv)
          | tup os =>
            simp only at pr
            generalize hk ρ = rk at pr ⊢
            cases rk with
            | stuck => exact pr.elim
            | err c => exact err c pr
            | ok d =>
              simp only [R.bind_ok] at pr
              intro iv H2 F2 ex2 di
              unfold pIx1 at pr
              cases di <;> first | exact pr.elim | skip
              rename_i j
              simp only at pr
              cases hix : ixN os.length j with
              | none => rw [hix] at pr; exact pr.elim
              | some k =>
                rw [hix] at pr
                obtain ⟨o3, v3, e1, e2, ⟨o4, e3⟩, qq⟩ := pr
                have e1' : ρ[ip.1]? = some (some o3) := e1
                rw [hρ] at e1'; cases e1'
                have e2' : σ[ip.1]? = some (some v3) := e2
                rw [ev] at e2'; cases e2'
                cases g3 with
                | @tup ad vs _ fi ha hl =>
                  have lk : k < vs.length := by rw [hl.len]; exact ixN_lt hix
                  have hv := List.getElem?_eq_getElem lk
                  refine .inr (.inl ⟨ad, vs, j, _, rfl, rfl, .inl (.inl (ex2.bh _ _ (ex2.bb _ _ ha))), by unfold atI; rw [hl.len, hix]; exact hv, qq _ H2 F2 (ex1.trans ex2) ?_⟩)
                  exact (pt.mono ex2.hh ex2.bb).app ho (pl_oneT (ex2.bb _ _ ha) hl.len hv)
          | _ => exact pr.elim
end
end VL

namespace VL
open PySem PySem.Spec PyProof.Rows L2

/-- a value is held while others are reckoned -/
theorem RS.hold {K : PySem.W.Frag} {F0 H0 F H : Hp} {σ : L2.St} {ρ : OEnv} {y : V} {oy : O} (r : RS K F0 H0 F H (some y :: σ) (some oy :: ρ)) :
    ∃ Hc, RS K F Hc F H σ ρ ∧ Same Hc H ∧ ∀ F2 H2 σ2 ρ2, RS K F Hc F2 H2 σ2 ρ2 → RS K F0 H0 F2 H2 (some y :: σ2) (some oy :: ρ2) := by
  obtain ⟨fps, sl, hs⟩ := r.ex
  cases sl with
  | @ow _ _ fy _ _ fpt hy s =>
    have nd := List.nodup_append.mp hs.nd
    have hc : Same (cutH H fpt) H := fun a u z => by
      by_cases m : a ∈ fpt
      · rw [cutH_in m] at z; cases z
      · rw [cutH_out m] at z; exact z
    refine ⟨cutH H fpt, ⟨fpt, s, nd.2.1, fun a ha => ⟨(hs.ow a (List.mem_append_right _ ha)).1, cutH_in ha⟩, hs.fh, Same.refl F, hc, fun a z1 z2 => absurd z1 z2⟩, hc, fun F2 H2 σ2 ρ2 r2 => ?_⟩
    obtain ⟨f2, s2, h2⟩ := r2.ex
    have ky : ∀ a ∈ fy, ∃ u, H a = some u ∧ cutH H fpt a = some u := fun a ha => by
      obtain ⟨u, z, _⟩ := hy.lstAt a ha
      exact ⟨u, z, by rw [cutH_out fun m => nd.2.2 a ha a m rfl]; exact z⟩
    have c0 : ∀ a, cutH H fpt a = none → H0 a = none := fun a z => by
      by_cases m : a ∈ fpt
      · exact (hs.ow a (List.mem_append_right _ m)).2
      · rw [cutH_out m] at z; exact Same.free hs.h0 z
    refine ⟨fy ++ f2, .ow (hy.keep h2.f0 fun a ha => ?_) s2, List.nodup_append.mpr ⟨nd.1, h2.nd, fun a ha b hb e => ?_⟩, fun a ha => ?_, h2.fh, hs.f0.trans h2.f0, fun a u z => ?_, fun a z1 z2 => ?_⟩
    · obtain ⟨u, z, z'⟩ := ky a ha
      rw [z]; exact h2.h0 _ _ z'
    · subst e
      obtain ⟨u, z, z'⟩ := ky a ha
      rw [(h2.ow a hb).2] at z'; cases z'
    · rcases List.mem_append.mp ha with m | m
      · refine ⟨?_, (hs.ow a (List.mem_append_left _ m)).2⟩
        cases q : F2 a with
        | none => rfl
        | some u =>
          have := h2.nw a (hs.ow a (List.mem_append_left _ m)).1 (by rw [q]; exact fun w => nomatch w)
          obtain ⟨u', z, z'⟩ := ky a m
          rw [this] at z'; cases z'
      · exact ⟨(h2.ow a m).1, c0 a (h2.ow a m).2⟩
    · refine h2.h0 _ _ ?_
      rw [cutH_out fun m => by rw [(hs.ow a (List.mem_append_right _ m)).2] at z; cases z]
      exact hs.h0 _ _ z
    · cases q : F a with
      | some u => exact hs.nw a z1 (by rw [q]; exact fun w => nomatch w)
      | none => exact c0 a (h2.nw a q z2)
/-- an expression that changes nothing; a slot may be emptied -/
structure VOq (X : Cx) (W : WX) (e : Expr) (h : OEnv → R (O × OEnv)) : Prop where
  ex : ∃ t, PE X e t ∧ ∀ σ H F0 H0 F ρ Q, RS X.K F0 H0 F H σ ρ → Pst X W σ H (fun p : O × OEnv => ∀ v H' F', Same H H' → Same F F' → RS X.K F0 H0 F' H' (some v :: σ) (some p.1 :: p.2) → Q v H') (h ρ) → t σ H Q
structure VOs (X : Cx) (W : WX) (es : List Expr) (h : OEnv → R (List O × OEnv)) : Prop where
  ex : ∃ t, PA X es t ∧ ∀ σ H F0 H0 F ρ Q, RS X.K F0 H0 F H σ ρ → Pst X W σ H (fun p : List O × OEnv => ∀ vs H' F', vs.length = p.1.length → Same H H' → Same F F' → RS X.K F0 H0 F' H' (vs.map some ++ σ) (p.1.map some ++ p.2) → Q vs H') (h ρ) → t σ H Q
def oNil : OEnv → R (List O × OEnv) := fun ρ => .ok ([], ρ)
def oCons (h : OEnv → R (O × OEnv)) (g : OEnv → R (List O × OEnv)) : OEnv → R (List O × OEnv) := fun ρ => (h ρ).bind fun p => (g p.2).bind fun q => .ok (p.1 :: q.1, q.2)
def oTup (g : OEnv → R (List O × OEnv)) : OEnv → R (O × OEnv) := fun ρ => (g ρ).bind fun p => if p.1.length ≤ 1000 then .ok (.tup p.1, p.2) else .stuck
@[simp] theorem oNil_ap (ρ : OEnv) : oNil ρ = .ok ([], ρ) := rfl
@[simp] theorem oCons_ap (h : OEnv → R (O × OEnv)) (g : OEnv → R (List O × OEnv)) (ρ : OEnv) : oCons h g ρ = (h ρ).bind fun p => (g p.2).bind fun q => .ok (p.1 :: q.1, q.2) := rfl
@[simp] theorem oTup_ap (g : OEnv → R (List O × OEnv)) (ρ : OEnv) : oTup g ρ = (g ρ).bind fun p => if p.1.length ≤ 1000 then .ok (.tup p.1, p.2) else .stuck := rfl
theorem Slots.gather {K : PySem.W.Frag} {F H : Hp} {σ : L2.St} {ρ : OEnv} : ∀ {vs : List V} {os : List O} {fps : List Addr}, vs.length = os.length → Slots K F H (vs.map some ++ σ) (os.map some ++ ρ) fps → ∃ f1 f2, OwnL K F H vs os f1 ∧ Slots K F H σ ρ f2 ∧ fps = f1 ++ f2
  | [], [], fps, _, h => ⟨[], fps, .nil, h, rfl⟩
  | v :: vs, o :: os, fps, l, h => by
    cases h with
    | ow h1 h2 =>
      obtain ⟨f1, f2, z1, z2, z3⟩ := Slots.gather (by simpa using l) h2
      subst z3
      exact ⟨_ ++ f1, f2, .cons h1 z1, z2, by rw [List.append_assoc]⟩
  | [], _ :: _, _, l, _ => by simp at l
  | _ :: _, [], _, l, _ => by simp at l
section
variable {X : Cx} {W : WX} {a b c e : Expr} {es : List Expr} {pos : Pos} {hx hk : OEnv → R PyData} {hp : OEnv → R (Nat × List Nat)} {ho : OEnv → R (O × OEnv)} {g : OEnv → R (List O × OEnv)} {f : PEnv → R (List PyData)} {k : Nat}
theorem voq_x (g : VX X W e hx) : VOq X W e (oX hx) := by
  obtain ⟨t, p, q⟩ := g.ex
  refine ⟨t, p, fun σ H F0 H0 F ρ Q r pr => ?_⟩
  refine q σ H F0 H0 F ρ Q r ?_
  unfold oX at pr
  generalize hx ρ = rr at pr ⊢
  cases rr with
  | stuck => exact pr
  | err c => exact pr
  | ok d =>
    intro v H' F' ex dv
    obtain ⟨fps, s, hs⟩ := (r.ext ex).ex
    exact pr v H' F' ex.hh ex.bb ⟨fps, .ow (.fz dv) s, hs⟩
theorem voq_mv (i : Nat) {x : Str} (hN : X.N[i]? = some x := by rfl) (hv : Vis X.env.scope x := by first | exact Or.inl rfl | exact Or.inr (Or.inl rfl) | exact Or.inr (Or.inr rfl)) (hd : (x == ("__debug__" : Str)) = false := by decide)
    (hcd : (x == ("__classdict__" : Str)) = false := by decide) : VOq X W (.Name x pos) (oMv i) := by
  refine ⟨_, pe_var hN hv hd hcd, fun σ H F0 H0 F ρ Q r pr => ?_⟩
  obtain ⟨fps, s, hs⟩ := r.ex
  unfold oMv at pr
  split at pr
  · rename_i o e
    obtain ⟨v, fp, fpr, e1, e2, e3, e4, e5⟩ := s.split e
    refine ⟨v, e1, pr v H F (Same.refl H) (Same.refl F) ⟨fp ++ fpr, .ow e2 ?_, hs.perm e3⟩⟩
    have z := e4 (some v)
    rw [set_same e1] at z
    exact z
  · exact pr.elim
theorem voq_frF (g : VFr X W e f) : VOq X W e (oFrF f) := by
  obtain ⟨t, p, q⟩ := g.ex
  refine ⟨t, p, fun σ H F0 H0 F ρ Q r pr => ?_⟩
  obtain ⟨fps, s, hs⟩ := r.ex
  refine q σ H F _ Q hs.fh s.rfF ?_
  unfold oFrF at pr
  generalize f (viewF ρ) = rr at pr ⊢
  cases rr with
  | stuck => exact pr
  | err c => exact pr
  | ok ds =>
    intro pa vs H' B' ex hp hn bn ia
    have hs' := hs.ext ex s.lstAt
    have s' : Slots X.K B' H' σ ρ fps := s.keep ex.bb fun a ha => by
      obtain ⟨us, z, _⟩ := s.lstAt a ha
      rw [z]; exact ex.hh _ _ z
    refine pr (.ref pa) H' B' ex.hh ex.bb ⟨[pa] ++ fps, .ow (.lst hp (OwnL.fzs ia)) s', ?_, ?_, hs'.fh, hs'.f0, hs'.h0, hs'.nw⟩
    · refine List.nodup_cons.mpr ⟨fun hm => ?_, hs'.nd⟩
      obtain ⟨us, z, _⟩ := s.lstAt pa hm
      rw [hn] at z; cases z
    · intro a ha
      rcases List.mem_cons.mp ha with e | e
      · subst e; exact ⟨bn, Same.free hs.h0 hn⟩
      · exact hs'.ow a e
theorem voq_frB (g : VFr X W e f) : VOq X W e (oFrB f) := by
  obtain ⟨t, p, q⟩ := g.ex
  refine ⟨t, p, fun σ H F0 H0 F ρ Q r pr => ?_⟩
  obtain ⟨fps, s, hs⟩ := r.ex
  obtain ⟨b1, b2⟩ := hs.bor
  refine q σ H (bor F H fps) _ Q b2 (s.rfB b1 fun a ha => bor_own ha) ?_
  unfold oFrB at pr
  generalize f (viewB ρ) = rr at pr ⊢
  cases rr with
  | stuck => exact pr
  | err c => exact pr
  | ok ds =>
    simp only [R.bind_ok] at pr
    split at pr
    · rename_i hl
      intro pa vs H' B' ex hp hn bn ia
      obtain ⟨F', e1, e2, e3⟩ := hs.unbor s.lstAt ex
      have hs' := hs.ext e1 s.lstAt
      have s' : Slots X.K F' H' σ ρ fps := s.keep e1.bb fun a ha => by
        obtain ⟨us, z, _⟩ := s.lstAt a ha
        rw [z]; exact e1.hh _ _ z
      have hpa : pa ∉ fps := fun hm => by
        obtain ⟨us, z, _⟩ := s.lstAt pa hm
        rw [hn] at z; cases z
      have fn : F' pa = none := by
        cases z : F' pa with
        | none => rfl
        | some o => have w := e3 _ _ z; rw [bn] at w; cases w
      refine pr (.ref pa) H' F' e1.hh e1.bb ⟨[pa] ++ fps, .ow (.lst hp (OwnL.fzs (IsAll.lfree e2 hl ia))) s', ?_, ?_, hs'.fh, hs'.f0, hs'.h0, hs'.nw⟩
      · exact List.nodup_cons.mpr ⟨hpa, hs'.nd⟩
      · intro a ha
        rcases List.mem_cons.mp ha with e | e
        · subst e; exact ⟨fn, Same.free hs.h0 hn⟩
        · exact hs'.ow a e
    · exact pr.elim
theorem voq_call {x : Str} {f : Addr} {fd : FuncData} {ps : List Str} {n : Nat} {g : List PyData → R O} {fa : PEnv → R (List PyData)} {p : Pos} {e : Expr} (F : FnOk X.prog X.w X.K X.mg X.base (L2.CX X.prog X.w) k f fd ps (spO X.K X.mg n g)) (hr : Room k X.A) (hm : X.mg x = some (.ref f)) (hk : PySem.W.keepIn X.K (.ref f) = true) (hb : Binds X.K fd ps [])
    (tk : Takes X W) (ha : VAn X W n (e :: es) fa) (hg : Gl X x := by rfl) (hdb : (x == ("__debug__" : Str)) = false := by decide) (he : starEach (e :: es) X.env = (false, eval e X.env) :: starEach es X.env := by rfl) (hpl : (backTo pos (starEach es X.env)).any (·.1) = false := by rfl) :
    VOq X W (.Call (.Name x p) (e :: es) [] pos) (oCall g fa) := by
  obtain ⟨t, pt, qt⟩ := ha.va.ex
  refine ⟨_, pe_callS F hr hg hm hk hb (fun σ => passAt tk σ) pt hdb he hpl, fun σ H F0 H0 Fz ρ Q r pr => ?_⟩
  obtain ⟨fps, s, hs⟩ := id r.ex
  have hl := ha.len (viewF ρ)
  unfold oCall at pr
  generalize hfa : fa (viewF ρ) = rr at pr hl
  cases rr with
  | stuck => exact pr.elim
  | err c => exact qt σ H Fz (viewF ρ) _ hs.fh s.rfF (by rw [hfa]; exact pr)
  | ok ds =>
    refine qt σ H Fz (viewF ρ) _ hs.fh s.rfF ?_
    rw [hfa]
    intro xs H1 F1 e1 dx
    refine ⟨by rw [IsAll.len dx]; exact hl ds rfl, ds, F1, e1.bh, dx, ?_⟩
    simp only [R.bind_ok] at pr
    generalize g ds = rg at pr ⊢
    cases rg with
    | stuck => exact pr
    | err c => exact fun H' z => pr H' (e1.hh.trans z)
    | ok o =>
      intro v H' F' rv
      have hv : Same H1 H' ∧ Same F1 F' := by
        obtain ⟨fp, _, hv⟩ := rv
        exact ⟨hv.h0, hv.f0⟩
      exact pr v H' F' (e1.hh.trans hv.1) (e1.bb.trans hv.2) ((r.ext e1).push rv)
theorem VOq.vo (h : VOq X W e ho) : VO X W e ho := by
  obtain ⟨t, p, q⟩ := h.ex
  exact ⟨t, p, fun σ H F0 H0 F ρ Q r pr => q σ H F0 H0 F ρ Q r (Pst.imp (fun p k v H' F' _ _ r' => k v H' F' r') pr)⟩
theorem vos_nil : VOs X W [] oNil := ⟨_, pa_nil, fun σ H F0 H0 F ρ Q r pr => pr [] H F rfl (Same.refl H) (Same.refl F) r⟩
theorem vos_cons (h1 : VOq X W e ho) (h2 : VOs X W es g) (hs : starEach (e :: es) X.env = (false, eval e X.env) :: starEach es X.env := by rfl) : VOs X W (e :: es) (oCons ho g) := by
  obtain ⟨t, p, q⟩ := h1.ex
  obtain ⟨t2, p2, q2⟩ := h2.ex
  refine ⟨_, pa_cons p p2 hs, fun σ H F0 H0 F ρ Q r pr => ?_⟩
  refine q σ H F0 H0 F ρ _ r ?_
  unfold oCons at pr
  generalize ho ρ = r1 at pr ⊢
  cases r1 with
  | stuck => exact pr
  | err c => exact pr
  | ok p1 =>
    simp only [R.bind_ok] at pr
    intro v H1 F1 s1 sf1 ra
    obtain ⟨Hc, rb, hc, back⟩ := ra.hold
    refine q2 σ H1 F1 Hc F1 p1.2 _ rb ?_
    generalize g p1.2 = r2 at pr ⊢
    cases r2 with
    | stuck => exact pr.elim
    | err c => exact fun H' z => pr H' (s1.trans z)
    | ok p2 =>
      intro vs H2 F2 hl s2 sf2 rc
      exact pr (v :: vs) H2 F2 (by simp [hl]) (s1.trans s2) (sf1.trans sf2) (back _ _ _ _ rc)
theorem voq_tup {x1 : Nat} (h : VOs X W es g) : VOq X W (.Tuple es x1 pos) (oTup g) := by
  obtain ⟨t, p, q⟩ := h.ex
  refine ⟨_, pe_tup p, fun σ H F0 H0 F ρ Q r pr => ?_⟩
  refine q σ H F0 H0 F ρ _ r ?_
  unfold oTup at pr
  generalize g ρ = rr at pr ⊢
  cases rr with
  | stuck => exact pr
  | err c => exact pr
  | ok p =>
    simp only [R.bind_ok] at pr
    split at pr
    · rename_i hz
      intro vs H1 F1 hl s1 sf1 r1
      refine ⟨by rw [hl]; exact Nat.le_trans hz (by decide), fun q hq => ?_⟩
      obtain ⟨fps, sl, hs⟩ := r1.ex
      obtain ⟨f1, f2, z1, z2, rfl⟩ := sl.gather hl
      have E := Ext.new (o := HO.tup vs) hs.fh hq
      have keep : ∀ a ∈ f1 ++ f2, upd H1 q (.tup vs) a = H1 a := fun a ha => upd_ne fun e => by
        subst e
        rcases List.mem_append.mp ha with m | m
        · obtain ⟨u, z, _⟩ := z1.lstAt _ m; rw [hq] at z; cases z
        · obtain ⟨u, z, _⟩ := z2.lstAt _ m; rw [hq] at z; cases z
      refine pr (.ref q) (upd H1 q (.tup vs)) (upd F1 q (.tup vs)) (s1.trans E.hh) (sf1.trans E.bb) ⟨f1 ++ f2, .ow (.tup upd_same (z1.keep E.bb fun a ha => keep a (List.mem_append_left _ ha))) (z2.keep E.bb fun a ha => keep a (List.mem_append_right _ ha)), hs.ext E sl.lstAt⟩
    · exact pr.elim
end
end VL

namespace VL
open PySem PySem.Spec PyProof.Rows L2
/-- an expression that changes nothing, not a slot either -/
structure VOn (X : Cx) (W : WX) (e : Expr) (h : OEnv → R O) : Prop where
  q : VOq X W e (fun ρ => (h ρ).bind fun o => .ok (o, ρ))
def nX (hx : OEnv → R PyData) : OEnv → R O := fun ρ => (hx ρ).bind fun d => .ok (.fz d)
def nFrF (f : PEnv → R (List PyData)) : OEnv → R O := fun ρ => (f (viewF ρ)).bind fun ds => .ok (.lst (ds.map O.fz))
def nCall (g : List PyData → R O) (fa : PEnv → R (List PyData)) : OEnv → R O := fun ρ => (fa (viewF ρ)).bind g
@[simp] theorem nX_ap (hx : OEnv → R PyData) (ρ : OEnv) : nX hx ρ = (hx ρ).bind fun d => .ok (.fz d) := rfl
@[simp] theorem nFrF_ap (f : PEnv → R (List PyData)) (ρ : OEnv) : nFrF f ρ = (f (viewF ρ)).bind fun ds => .ok (.lst (ds.map O.fz)) := rfl
@[simp] theorem nCall_ap (g : List PyData → R O) (fa : PEnv → R (List PyData)) (ρ : OEnv) : nCall g fa ρ = (fa (viewF ρ)).bind g := rfl
section
variable {X : Cx} {W : WX} {a b c e oe ce : Expr} {es : List Expr} {pos : Pos} {hx hk : OEnv → R PyData} {hp : OEnv → R (Nat × List Nat)} {ho : OEnv → R (O × OEnv)} {hn : OEnv → R O} {g : OEnv → R (List O × OEnv)} {f : PEnv → R (List PyData)} {k : Nat}
theorem von_x (g : VX X W e hx) : VOn X W e (nX hx) := ⟨by
  have : (fun ρ : OEnv => (nX hx ρ).bind fun o => R.ok (o, ρ)) = oX hx := by funext ρ; simp only [nX, R.bind_assoc, R.bind_ok]; rfl
  rw [this]; exact voq_x g⟩
theorem von_frF (g : VFr X W e f) : VOn X W e (nFrF f) := ⟨by
  have : (fun ρ : OEnv => (nFrF f ρ).bind fun o => R.ok (o, ρ)) = oFrF f := by funext ρ; simp only [nFrF, R.bind_assoc, R.bind_ok]; rfl
  rw [this]; exact voq_frF g⟩
theorem von_call {x : Str} {fad : Addr} {fd : FuncData} {ps : List Str} {n : Nat} {g : List PyData → R O} {fa : PEnv → R (List PyData)} {p : Pos} {e : Expr} (h : VOq X W (.Call (.Name x p) (e :: es) [] pos) (oCall g fa)) : VOn X W (.Call (.Name x p) (e :: es) [] pos) (nCall g fa) := ⟨by
  have : (fun ρ : OEnv => (nCall g fa ρ).bind fun o => R.ok (o, ρ)) = oCall g fa := by funext ρ; simp only [nCall, R.bind_assoc]; rfl
  rw [this]; exact h⟩
theorem VOn.ex (h : VOn X W e hn) : ∃ t, PE X e t ∧ ∀ σ H F0 H0 F ρ Q, RS X.K F0 H0 F H σ ρ → Pst X W σ H (fun o : O => ∀ v H' F', Same H H' → Same F F' → RS X.K F0 H0 F' H' (some v :: σ) (some o :: ρ) → Q v H') (hn ρ) → t σ H Q := by
  obtain ⟨t, p, q⟩ := h.q.ex
  refine ⟨t, p, fun σ H F0 H0 F ρ Q r pr => q σ H F0 H0 F ρ Q r ?_⟩
  show Pst X W σ H _ ((hn ρ).bind _)
  cases hr : hn ρ with
  | stuck => rw [hr] at pr; exact pr
  | err c => rw [hr] at pr; exact pr
  | ok o => rw [hr] at pr; exact pr
/-- the rule r of a method of lists changes the items by f -/
structure MutOk (r : V → List V → Hp → VK → Prop) (f : List O → O → Option (List O)) : Prop where
  ok : ∀ os oy os', f os oy = some os' → ∃ (tv : List V → V → List V) (to : List O → O → List O), Chg tv to ∧ to os oy = os' ∧ ∀ (a : Addr) (vs : List V) (y : V) (H : Hp) (Q : VK), H a = some (.lst vs) → vs.length = os.length → Q .non (upd H a (.lst (tv vs y))) → r (.ref a) [y] H Q
def fApp (os : List O) (y : O) : Option (List O) := if os.length < sizeLine then some (os ++ [y]) else none
theorem mut_app : MutOk rAppend fApp := ⟨fun os oy os' h => by
  unfold fApp at h
  split at h
  · rename_i hz
    cases h
    exact ⟨_, _, chg_app, rfl, fun a vs y H Q ha hl q => ⟨a, vs, y, rfl, rfl, ha, by rw [hl]; exact hz, q⟩⟩
  · cases h⟩
def sMutP (f : List O → O → Option (List O)) (hp : OEnv → R (Nat × List Nat)) (hn : OEnv → R O) : OEnv → SR := fun ρ => (hp ρ).sr ρ fun ip => match ρ[ip.1]? with
  | some (some o) => (match o.at ip.2 with
    | some (.lst os) => (hn ρ).sr ρ fun y => (match f os y with
      | some os' => .nx (ρ.set ip.1 (some (o.put ip.2 (.lst os'))))
      | none => .stuck)
    | _ => .stuck)
  | _ => .stuck
/-- the place at the time of the change -/
theorem VPl.go (h : VPl X W oe hp) : ∃ t, PE X oe t ∧ ∀ σ H F0 H0 F ρ Q (kk : Nat × List Nat → SR) (D : Ends), RS X.K F0 H0 F H σ ρ → SPst X W F0 H0 D ((hp ρ).sr ρ kk) →
    (∀ ip o v o', ρ[ip.1]? = some (some o) → σ[ip.1]? = some (some v) → o.at ip.2 = some o' → SPst X W F0 H0 D (kk ip) → ∀ v' H' F', Ext F H F' H' → Pth X.K F' H' v o ip.2 v' → Q v' H') →
    (∀ ip, SPst X W F0 H0 D (kk ip) → ∃ o o', ρ[ip.1]? = some (some o) ∧ o.at ip.2 = some o') → t σ H Q := by
  obtain ⟨t, p, q⟩ := h.ex
  refine ⟨t, p, fun σ H F0 H0 F ρ Q kk D r pr hq hd => q σ H F0 H0 F ρ Q r (sr_pst r pr fun ip po => ?_)⟩
  obtain ⟨o, o', e1, e2⟩ := hd ip po
  obtain ⟨v, ev⟩ := r.slot e1
  exact ⟨o, v, e1, ev, ⟨o', e2⟩, hq ip o v o' e1 ev e2 po⟩
theorem vs_mutP {r : V → List V → Hp → VK → Prop} {fm : List O → O → Option (List O)} (hm : MutOk r fm) (mk : ∀ {to te : TE}, PE X oe to → PE X e te → PE X ce (tBM X.K "list" r to (tCons te tNil))) (h1 : VPl X W oe hp) (h2 : VOn X W e hn)
    (hs : swapsWith ce none pos.line X.env = pure false := by rfl) : VS X W (.Expr ce pos) (sMutP fm hp hn) := by
  obtain ⟨t1, p1, q1⟩ := h1.go
  obtain ⟨t2, p2, q2⟩ := h2.ex
  refine ⟨_, ps_expr (mk p1 p2) hs, fun D σ H F0 H0 F ρ rs pr => ?_⟩
  unfold sMutP at pr
  refine q1 σ H F0 H0 F ρ _ _ D rs pr (fun ip o v o' e1 ev e2 po v' H1 F1 ex pt => ?_) (fun ip po => ?_)
  · rw [e1] at po
    simp only [e2] at po
    cases o' with
    | lst os =>
      simp only at po
      have r1 := rs.ext ex
      obtain ⟨v0, a0, vs0, g1, g2, g3, g4, _⟩ := r1.non.mutL e1 e2
      have g1' : σ[ip.1]? = some (some v0) := g1
      rw [ev] at g1'; cases g1'
      have ea := pt.det g2
      subst ea
      refine ⟨.inl ⟨rfl, _, .inl (.inl g3)⟩, ?_⟩
      refine q2 σ H1 F0 H0 F1 ρ _ r1 (sr_pst r1 po fun y po2 vy H2 F2 s2 sf2 r2 => ?_)
      cases hf : fm os y with
      | none => rw [hf] at po2; exact po2.elim
      | some os' =>
        rw [hf] at po2
        obtain ⟨tv, to, c, et, rr⟩ := hm.ok os y os' hf
        obtain ⟨v3, a3, vs3, k1, k2, k3, k4, k5⟩ := r2.mutL e1 e2
        have k1' : σ[ip.1]? = some (some v3) := k1
        rw [ev] at k1'; cases k1'
        have ea := (pt.mono s2 sf2).det k2
        cases ea
        refine rr a0 vs3 vy H2 _ k3 k4 ?_
        have := k5 c
        rw [et] at this
        exact po2 _ _ _ this
    | _ => exact po.elim
  · split at po
    · rename_i o eo
      split at po
      · rename_i os eo2; exact ⟨o, _, eo, eo2⟩
      · exact po.elim
    · exact po.elim
/-- a method without arguments -/
structure MutOk0 (r : V → List V → Hp → VK → Prop) (f : List O → Option (List O)) : Prop where
  ok : ∀ os os', f os = some os' → ∃ (tv : List V → V → List V) (to : List O → O → List O), Chg tv to ∧ to os (.fz .none) = os' ∧ ∀ (a : Addr) (vs : List V) (H : Hp) (Q : VK), H a = some (.lst vs) → vs.length = os.length → Q .non (upd H a (.lst (tv vs .non))) → r (.ref a) [] H Q
theorem chg_clr : Chg (fun _ _ => []) (fun _ _ => []) := ⟨fun h1 h2 => ⟨[], .nil, [], .refl _, List.nil_sublist _⟩⟩
theorem mut_clr : MutOk0 rClear (fun _ => some []) := ⟨fun os os' h => by cases h; exact ⟨_, _, chg_clr, rfl, fun a vs H Q ha hl q => ⟨a, vs, rfl, rfl, ha, q⟩⟩⟩
def sMut0 (f : List O → Option (List O)) (hp : OEnv → R (Nat × List Nat)) : OEnv → SR := fun ρ => (hp ρ).sr ρ fun ip => match ρ[ip.1]? with
  | some (some o) => (match o.at ip.2 with
    | some (.lst os) => (match f os with
      | some os' => .nx (ρ.set ip.1 (some (o.put ip.2 (.lst os'))))
      | none => .stuck)
    | _ => .stuck)
  | _ => .stuck
theorem vs_mut0 {r : V → List V → Hp → VK → Prop} {fm : List O → Option (List O)} (hm : MutOk0 r fm) (mk : ∀ {to : TE}, PE X oe to → PE X ce (tBM0 X.K "list" r to)) (h1 : VPl X W oe hp)
    (hs : swapsWith ce none pos.line X.env = pure false := by rfl) : VS X W (.Expr ce pos) (sMut0 fm hp) := by
  obtain ⟨t1, p1, q1⟩ := h1.go
  refine ⟨_, ps_expr (mk p1) hs, fun D σ H F0 H0 F ρ rs pr => ?_⟩
  unfold sMut0 at pr
  refine q1 σ H F0 H0 F ρ _ _ D rs pr (fun ip o v o' e1 ev e2 po v' H1 F1 ex pt => ?_) (fun ip po => ?_)
  · rw [e1] at po
    simp only [e2] at po
    cases o' with
    | lst os =>
      simp only at po
      have r1 := rs.ext ex
      obtain ⟨v0, a0, vs0, g1, g2, g3, g4, k5⟩ := r1.non.mutL e1 e2
      have g1' : σ[ip.1]? = some (some v0) := g1
      rw [ev] at g1'; cases g1'
      have ea := pt.det g2
      subst ea
      refine ⟨.inl ⟨rfl, _, .inl (.inl g3)⟩, ?_⟩
      cases hf : fm os with
      | none => rw [hf] at po; exact po.elim
      | some os' =>
        rw [hf] at po
        obtain ⟨tv, to, c, et, rr⟩ := hm.ok os os' hf
        refine rr a0 vs0 H1 _ g3 g4 ?_
        have := k5 c
        rw [et] at this
        exact po _ _ _ this
    | _ => exact po.elim
  · split at po
    · rename_i o eo
      split at po
      · rename_i os eo2; exact ⟨o, _, eo, eo2⟩
      · exact po.elim
    · exact po.elim
/-- x[..][k] = e -/
def sSetP (hp : OEnv → R (Nat × List Nat)) (hk : OEnv → R PyData) (h : OEnv → R (O × OEnv)) : OEnv → SR := fun ρ => (h ρ).sr ρ fun p => (hp p.2).sr p.2 fun ip => match p.2[ip.1]? with
  | some (some o) => (match o.at ip.2 with
    | some (.lst os) => (hk p.2).sr p.2 fun d => (match d with
      | .int j => (match ixN os.length j with
        | some n => .nx (p.2.set ip.1 (some (o.put ip.2 (.lst (os.set n p.1)))))
        | none => .stuck)
      | _ => .stuck)
    | _ => .stuck)
  | _ => .stuck
theorem vs_setP {p2 : Pos} (mk : ∀ {te to tk : TE}, PE X e te → PE X oe to → PE X b tk → PS X (.Assign [.Subscript oe b p2] e pos) (tAsg te (gSub to tk rSetL))) (h1 : VPl X W oe hp) (h2 : VX X W b hk) (h3 : VO X W e ho) :
    VS X W (.Assign [.Subscript oe b p2] e pos) (sSetP hp hk ho) := by
  obtain ⟨t1, p1, q1⟩ := h1.go
  obtain ⟨t2, pk, qk⟩ := h2.ex
  obtain ⟨t3, p3, q3⟩ := h3.ex
  refine ⟨_, mk p3 p1 pk, fun D σ H F0 H0 F ρ rs pr => ?_⟩
  unfold sSetP at pr
  refine q3 σ H F0 H0 F ρ _ rs (sr_pst rs pr fun py po y H1 F1 ry => ?_)
  have rt := ry.tail
  refine q1 σ H1 F0 H0 F1 py.2 _ _ D rt po (fun ip o v o' e1 ev e2 po v' H2 F2 ex pt => ?_) (fun ip po => ?_)
  · rw [e1] at po
    simp only [e2] at po
    cases o' with
    | lst os =>
      simp only at po
      have rt2 := rt.ext ex
      refine qk σ H2 F0 H0 F2 py.2 _ rt2 (sr_pst rt2 po fun d pd => ?_)
      intro iv H3 F3 ex3 di
      cases di <;> first | exact pd.elim | skip
      rename_i j
      simp only at pd
      cases hix : ixN os.length j with
      | none => rw [hix] at pd; exact pd.elim
      | some n =>
        rw [hix] at pd
        obtain ⟨v3, a3, vs3, k1, k2, k3, k4, k5⟩ := ((ry.ext ex).ext ex3).mutL e1 e2
        have k1' : σ[ip.1]? = some (some v3) := k1
        rw [ev] at k1'; cases k1'
        have ea := (pt.mono ex3.hh ex3.bb).det k2
        subst ea
        exact ⟨a3, vs3, j, n, rfl, rfl, k3, by rw [k4]; exact hix, pd _ _ _ (k5 (chg_set n))⟩
    | _ => exact po.elim
  · split at po
    · rename_i o eo
      split at po
      · rename_i os eo2; exact ⟨o, _, eo, eo2⟩
      · exact po.elim
    · exact po.elim
end
end VL

namespace VL
open PySem PySem.Spec PyProof.Rows L2
/-! ### a, b = a tuple of one's own -/
def setsT (ρ : OEnv) (bs : List (Nat × O)) : OEnv := bs.foldl (fun ρ b => ρ.set b.1 (some b.2)) ρ
@[simp] theorem setsT_nil (ρ : OEnv) : setsT ρ [] = ρ := rfl
@[simp] theorem setsT_cons (ρ : OEnv) (b : Nat × O) (bs : List (Nat × O)) : setsT ρ (b :: bs) = setsT (ρ.set b.1 (some b.2)) bs := rfl
theorem Slots.spread {K : PySem.W.Frag} {F H : Hp} {σ : L2.St} {ρ : OEnv} {f2 : List Addr} (s : Slots K F H σ ρ f2) : ∀ {vs : List V} {os : List O} {f1 : List Addr}, OwnL K F H vs os f1 → Slots K F H (vs.map some ++ σ) (os.map some ++ ρ) (f1 ++ f2)
  | _, _, _, .nil => s
  | _, _, _, .cons h1 h2 => by rw [List.append_assoc]; exact .ow h1 (Slots.spread s h2)
theorem RS.untup {K : PySem.W.Frag} {F0 H0 F H : Hp} {σ : L2.St} {ρ : OEnv} {v : V} {os : List O} (r : RS K F0 H0 F H (some v :: σ) (some (.tup os) :: ρ)) : ∃ a vs, v = .ref a ∧ F a = some (.tup vs) ∧ vs.length = os.length ∧ RS K F0 H0 F H (vs.map some ++ σ) (os.map some ++ ρ) := by
  obtain ⟨fps, s, hs⟩ := r.ex
  cases s with
  | ow h1 s =>
    cases h1 with
    | @tup a vs _ fp ha hl => exact ⟨a, vs, rfl, ha, hl.len, _, s.spread hl, hs⟩
theorem set_app {α : Type} (us : List α) (xs : List α) (i : Nat) (x : α) : (us ++ xs).set (us.length + i) x = us ++ xs.set i x := by
  rw [List.set_append, if_neg (by omega), Nat.add_sub_cancel_left]
theorem RS.setsT {K : PySem.W.Frag} {F0 H0 F H : Hp} : ∀ {is : List Nat} {vs : List V} {os : List O} {σ : L2.St} {ρ : OEnv}, vs.length = os.length → RS K F0 H0 F H (vs.map some ++ σ) (os.map some ++ ρ) → is.length = vs.length → RS K F0 H0 F H (setsV σ (is.zip vs)) (VL.setsT ρ (is.zip os))
  | [], [], [], σ, ρ, _, r, _ => r
  | i :: is, v :: vs, o :: os, σ, ρ, l, r, l2 => by
    have r1 := RS.put (σ := vs.map some ++ σ) (ρ := os.map some ++ ρ) r (vs.length + i)
    have e1 : (vs.map some ++ σ).set (vs.length + i) (some v) = vs.map some ++ σ.set i (some v) := by
      have := set_app (vs.map some) σ i (some v); rw [List.length_map] at this; exact this
    have e2 : (os.map some ++ ρ).set (vs.length + i) (some o) = os.map some ++ ρ.set i (some o) := by
      have := set_app (os.map some) ρ i (some o); rw [List.length_map, ← show vs.length = os.length by simpa using l] at this; exact this
    rw [e1, e2] at r1
    exact RS.setsT (is := is) (vs := vs) (os := os) (σ := σ.set i (some v)) (ρ := ρ.set i (some o)) (by simpa using l) r1 (by simpa using l2)
  | [], _ :: _, _, _, _, _, _, l2 => by simp at l2
  | _ :: _, [], _, _, _, _, _, l2 => by simp at l2
  | [], [], _ :: _, _, _, l, _, _ => by simp at l
  | _ :: _, _ :: _, [], _, _, l, _, _ => by simp at l
/-- targets that are names -/
structure VGN (X : Cx) (ts : List Expr) (is : List Nat) : Prop where
  ex : ∃ t, PGs X ts t ∧ ∀ vs σ H Q, vs.length = is.length → Q (setsV σ (is.zip vs)) H → t vs σ H Q
section
variable {X : Cx} {W : WX} {a b c e oe ce : Expr} {es : List Expr} {pos : Pos} {hx hk : OEnv → R PyData} {hp : OEnv → R (Nat × List Nat)} {ho : OEnv → R (O × OEnv)} {hn : OEnv → R O} {is : List Nat} {k : Nat}
theorem vgn_nil : VGN X [] [] := ⟨_, pgs_nil, fun vs σ H Q l q => by
  cases vs with
  | nil => exact ⟨rfl, q⟩
  | cons v vs => simp at l⟩
theorem vgn_cons (i : Nat) {x : Str} (hN : X.N.Nodup) (h2 : VGN X es is) (hi : X.N[i]? = some x := by rfl) (hx : Loc X.env.scope x := by first | exact Or.inl rfl | exact Or.inr rfl) (hf : X.fn x = true ∨ X.env.scope.names.lookup x = some .local := by first | exact .inl rfl | exact .inr rfl) (hs : (assignEach (.Name x pos :: es) X.env).map (·.2) = assign (.Name x pos) X.env :: (assignEach es X.env).map (·.2) := by rfl) : VGN X (.Name x pos :: es) (i :: is) := by
  obtain ⟨t2, p2, q2⟩ := h2.ex
  refine ⟨_, pgs_cons (pg_name hN hi hx hf) p2 hs, fun vs σ H Q l q => ?_⟩
  cases vs with
  | nil => simp at l
  | cons v vs => exact ⟨v, vs, rfl, q2 vs (σ.set i (some v)) H Q (by simpa using l) q⟩
def sTupN (is : List Nat) (ho : OEnv → R (O × OEnv)) : OEnv → SR := fun ρ => (ho ρ).sr ρ fun p => match p.1 with
  | .tup os => if os.length = is.length then .nx (VL.setsT p.2 (is.zip os)) else .stuck
  | .fz (.tuple ds) => if ds.length = is.length then .nx (setsO p.2 (is.zip ds)) else .stuck
  | .fz (.list ds) => if ds.length = is.length then .nx (setsO p.2 (is.zip ds)) else .stuck
  | _ => .stuck
@[simp] theorem sTupN_ap (is : List Nat) (ho : OEnv → R (O × OEnv)) (ρ : OEnv) : sTupN is ho ρ = (ho ρ).sr ρ fun p => match p.1 with
  | .tup os => if os.length = is.length then .nx (VL.setsT p.2 (is.zip os)) else .stuck
  | .fz (.tuple ds) => if ds.length = is.length then .nx (setsO p.2 (is.zip ds)) else .stuck
  | .fz (.list ds) => if ds.length = is.length then .nx (setsO p.2 (is.zip ds)) else .stuck
  | _ => .stuck := rfl
theorem bds_zip {K : PySem.W.Frag} {B : Hp} : ∀ {is : List Nat} {vs : List V} {ds : List PyData}, IsAll K B vs ds → Bds K B (is.zip vs) (is.zip ds)
  | [], _, _, h => by simp; exact .nil
  | i :: is, _, _, .nil => by simp; exact .nil
  | i :: is, _, _, .cons h1 h2 => .cons ⟨rfl, h1⟩ (bds_zip h2)
theorem vs_tupN {n k : Nat} {p2 : Pos} (hc : X.calm = true) (hg : VGN X es is) (he : VO X W e ho) (hn : (assignEach es X.env).length = n := by rfl) (hst : (assignEach es X.env).findIdx? (·.1) = none := by rfl) (hl : is.length = n := by rfl)
    (h1 : swapsWithSole [.Tuple es k p2] e pos.line X.env = pure false := by rfl) (h2 : swappedStores [.Tuple es k p2] e X.env = pure none := by rfl) (h3 : (assignEach [.Tuple es k p2] X.env).map (·.2) = [assign (.Tuple es k p2) X.env] := by rfl) :
    VS X W (.Assign [.Tuple es k p2] e pos) (sTupN is ho) := by
  obtain ⟨t, p, q⟩ := he.ex
  obtain ⟨tg, pg, qg⟩ := hg.ex
  refine ⟨_, ps_asg p (pg_or (pg_tup hc pg hn hst) (pg_lst hc pg hn hst)) h1 h2 h3, fun D σ H F0 H0 F ρ r pr => ?_⟩
  unfold sTupN at pr
  refine q σ H F0 H0 F ρ _ r (sr_pst r pr fun o po v H' F' r' => ?_)
  obtain ⟨o, ρ2⟩ := o
  simp only at po r'
  split at po
  · rename_i os
    split at po
    · rename_i hz
      obtain ⟨a, vs, rfl, ha, hlen, r2⟩ := r'.untup
      obtain ⟨_, _, hs⟩ := r'.ex
      refine .inl ⟨a, vs, rfl, .inl (.inl (hs.fh _ _ ha)), by rw [hlen, hz]; exact hl, ?_⟩
      exact qg vs σ H' _ (by rw [hlen, hz]) (po _ _ _ (RS.setsT hlen r2 (by rw [hlen, hz])))
    · exact po.elim
  · rename_i ds
    split at po
    · rename_i hz
      obtain ⟨fps, sl, hs⟩ := id r'.ex
      cases sl with
      | ow h1 s =>
        cases h1 with
        | fz hd =>
          cases hd with
          | @tup a vs _ ht ha =>
            refine .inl ⟨a, vs, rfl, Same.tupl hs.fh ht, by rw [ha.len, hz]; exact hl, ?_⟩
            exact qg vs σ H' _ (by rw [ha.len, hz]) (po _ _ _ (RS.sets r'.tail (bds_zip ha)))
    · exact po.elim
  · rename_i ds
    split at po
    · rename_i hz
      obtain ⟨fps, sl, hs⟩ := id r'.ex
      cases sl with
      | ow h1 s =>
        cases h1 with
        | fz hd =>
          cases hd with
          | @lst a vs _ ht ha =>
            refine .inr ⟨a, vs, rfl, .inl (Rd.mono hs.fh ht), by rw [ha.len, hz]; exact hl, ?_⟩
            exact qg vs σ H' _ (by rw [ha.len, hz]) (po _ _ _ (RS.sets r'.tail (bds_zip ha)))
    · exact po.elim
  · exact po.elim
/-! ### x[..].insert(i, e) -/
theorem OwnL.takeP {K : PySem.W.Frag} {F H : Hp} : ∀ {os : List O} {vs : List V} {fp : List Addr} (n : Nat), OwnL K F H vs os fp → ∃ f1 f2, OwnL K F H (vs.take n) (os.take n) f1 ∧ OwnL K F H (vs.drop n) (os.drop n) f2 ∧ fp = f1 ++ f2
  | _, _, _, 0, h => ⟨[], _, by simp; exact .nil, by simpa using h, rfl⟩
  | _, _, _, n + 1, .nil => ⟨[], [], by simp; exact .nil, by simp; exact .nil, rfl⟩
  | _, _, _, n + 1, .cons h1 h2 => by
    obtain ⟨f1, f2, z1, z2, rfl⟩ := OwnL.takeP n h2
    exact ⟨_ ++ f1, f2, .cons h1 z1, z2, by rw [List.append_assoc]⟩
theorem chg_ins (n : Nat) : Chg (fun vs y => vs.take n ++ [y] ++ vs.drop n) (fun os o => os.take n ++ [o] ++ os.drop n) := ⟨fun {K F H vs os y o fp fpo} h1 h2 => by
  obtain ⟨f1, f2, z1, z2, rfl⟩ := h1.takeP n
  have w : OwnL K F H [y] [o] (fpo ++ []) := .cons h2 .nil
  rw [List.append_nil] at w
  refine ⟨(f1 ++ fpo) ++ f2, (z1.append w).append z2, (f1 ++ f2) ++ fpo, ?_, .refl _⟩
  rw [List.append_assoc, List.append_assoc]
  exact List.Perm.append_left f1 List.perm_append_comm⟩
def insAt {α : Type} (xs : List α) (n : Nat) (y : α) : List α := xs.take n ++ [y] ++ xs.drop n
def sInsP (hp : OEnv → R (Nat × List Nat)) (hk : OEnv → R PyData) (hn : OEnv → R O) : OEnv → SR := fun ρ => (hp ρ).sr ρ fun ip => match ρ[ip.1]? with
  | some (some o) => (match o.at ip.2 with
    | some (.lst os) => (hk ρ).sr ρ fun d => (hn ρ).sr ρ fun y => (match d with
      | .int j => if 0 ≤ j ∧ j < 16777216 ∧ os.length < sizeLine then .nx (ρ.set ip.1 (some (o.put ip.2 (.lst (insAt os j.toNat y))))) else .stuck
      | _ => .stuck)
    | _ => .stuck)
  | _ => .stuck
theorem vs_insP (mk : ∀ {to tk te : TE}, PE X oe to → PE X b tk → PE X e te → PE X ce (tBM X.K "list" (fun x vs H Q => ∃ (l : Addr) (xs : List V) (i : Int) (y : V), x = .ref l ∧ vs = [.int i, y] ∧ H l = some (.lst xs) ∧ xs.length < sizeLine ∧ 0 ≤ i ∧ i < 2 ^ 63 ∧ Q .non (upd H l (.lst (xs.take i.toNat ++ [y] ++ xs.drop i.toNat)))) to (tCons tk (tCons te tNil)))) (h1 : VPl X W oe hp) (h2 : VX X W b hk) (h3 : VOn X W e hn)
    (hs : swapsWith ce none pos.line X.env = pure false := by rfl) : VS X W (.Expr ce pos) (sInsP hp hk hn) := by
  obtain ⟨t1, p1, q1⟩ := h1.go
  obtain ⟨t2, p2, q2⟩ := h2.ex
  obtain ⟨t3, p3, q3⟩ := h3.ex
  refine ⟨_, ps_expr (mk p1 p2 p3) hs, fun D σ H F0 H0 F ρ rs pr => ?_⟩
  unfold sInsP at pr
  refine q1 σ H F0 H0 F ρ _ _ D rs pr (fun ip o v o' e1 ev e2 po v' H1 F1 ex pt => ?_) (fun ip po => ?_)
  · rw [e1] at po
    simp only [e2] at po
    cases o' with
    | lst os =>
      simp only at po
      have r1 := rs.ext ex
      obtain ⟨v0, a0, vs0, g1, g2, g3, g4, _⟩ := r1.non.mutL e1 e2
      have g1' : σ[ip.1]? = some (some v0) := g1
      rw [ev] at g1'; cases g1'
      have ea := pt.det g2
      subst ea
      refine ⟨.inl ⟨rfl, _, .inl (.inl g3)⟩, ?_⟩
      refine q2 σ H1 F0 H0 F1 ρ _ r1 (sr_pst r1 po fun d po1 => ?_)
      intro iv H2 F2 ex2 di
      have r2 := r1.ext ex2
      refine q3 σ H2 F0 H0 F2 ρ _ r2 (sr_pst r2 po1 fun y po2 vy H3 F3 s3 sf3 r3 => ?_)
      cases di <;> first | exact po2.elim | skip
      rename_i j
      simp only at po2
      split at po2
      · rename_i hc
        obtain ⟨v3, a3, vs3, k1, k2, k3, k4, k5⟩ := r3.mutL e1 e2
        have k1' : σ[ip.1]? = some (some v3) := k1
        rw [ev] at k1'; cases k1'
        have ea := ((pt.mono ex2.hh ex2.bb).mono s3 sf3).det k2
        cases ea
        exact ⟨a0, vs3, j, vy, rfl, rfl, k3, by rw [k4]; exact hc.2.2, hc.1, Int.lt_trans hc.2.1 (by decide), po2 _ _ _ (k5 (chg_ins j.toNat))⟩
      · exact po2.elim
    | _ => exact po.elim
  · split at po
    · rename_i o eo
      split at po
      · rename_i os eo2; exact ⟨o, _, eo, eo2⟩
      · exact po.elim
    · exact po.elim
end
end VL

namespace VL
open PySem PySem.Spec PyProof.Rows L2
open Enc (e)
/-! ### typed: tuples and perhaps-nothing of one's own -/
section
variable {α β γ δ : Type}
abbrev oT1 (f : α → O) (p : T1 α) : O := .tup [f p.a]
abbrev oT2 (f : α → O) (g : β → O) (p : α × β) : O := .tup [f p.1, g p.2]
abbrev oT3 (f : α → O) (g : β → O) (h : γ → O) (p : T3 α β γ) : O := .tup [f p.a, g p.b, h p.c]
abbrev oT4 (f : α → O) (g : β → O) (h : γ → O) (i : δ → O) (p : T4 α β γ δ) : O := .tup [f p.a, g p.b, h p.c, i p.d]
def oO (f : α → O) : Option α → O
  | none => .fz .none
  | some a => f a
theorem dT2 [Enc α] [Enc β] {f : α → O} {g : β → O} (hf : ∀ a, O.data (f a) = e a) (hg : ∀ a, O.data (g a) = e a) (p : α × β) : O.data (oT2 f g p) = e p := by
  show O.data (.tup _) = PyData.tuple [e p.1, e p.2]
  rw [O.data_tup]; simp only [List.map, hf, hg]
theorem dT3 [Enc α] [Enc β] [Enc γ] {f : α → O} {g : β → O} {h : γ → O} (hf : ∀ a, O.data (f a) = e a) (hg : ∀ a, O.data (g a) = e a) (hh : ∀ a, O.data (h a) = e a) (p : T3 α β γ) : O.data (oT3 f g h p) = e p := by
  show O.data (.tup _) = PyData.tuple [e p.a, e p.b, e p.c]
  rw [O.data_tup]; simp only [List.map, hf, hg, hh]
theorem dT4 [Enc α] [Enc β] [Enc γ] [Enc δ] {f : α → O} {g : β → O} {h : γ → O} {i : δ → O} (hf : ∀ a, O.data (f a) = e a) (hg : ∀ a, O.data (g a) = e a) (hh : ∀ a, O.data (h a) = e a) (hi : ∀ a, O.data (i a) = e a) (p : T4 α β γ δ) : O.data (oT4 f g h i p) = e p := by
  show O.data (.tup _) = PyData.tuple [e p.a, e p.b, e p.c, e p.d]
  rw [O.data_tup]; simp only [List.map, hf, hg, hh, hi]
theorem dO [Enc α] {f : α → O} (hf : ∀ a, O.data (f a) = e a) : ∀ o : Option α, O.data (oO f o) = e o
  | none => O.data_fz _
  | some a => hf a
variable {ρ ρ1 ρ2 ρ3 ρ4 : OEnv} {h1 h2 h3 h4 : OEnv → R (O × OEnv)} {f1 : α → O} {f2 : β → O} {f3 : γ → O} {f4 : δ → O}
theorem TQ.mk {γ' : Type} {f : α → γ'} {x : R γ'} {t : R α} (h : ∀ a, t = .ok a → x = .ok (f a)) (h' : ∀ c, t = .err c → x = .err c) : TQ f x t := by
  cases t with
  | stuck => trivial
  | err c => exact h' c rfl
  | ok a => exact h a rfl
theorem p_tup2 {s : R α} {t : R β} (q1 : TQ (fun a => (f1 a, ρ1)) (h1 ρ) s) (q2 : TQ (fun a => (f2 a, ρ2)) (h2 ρ1) t) : TQ (fun p => (oT2 f1 f2 p, ρ2)) (oTup (oCons h1 (oCons h2 oNil)) ρ) (b2 mk2 s t) := by
  simp only [oTup_ap, oCons_ap, oNil_ap, R.bind_assoc, R.bind_ok]
  refine q1.bind fun a => q2.bind fun b => ?_
  exact if_pos (by simp)
theorem p_tup3 {s : R α} {t : R β} {u : R γ} (q1 : TQ (fun a => (f1 a, ρ1)) (h1 ρ) s) (q2 : TQ (fun a => (f2 a, ρ2)) (h2 ρ1) t) (q3 : TQ (fun a => (f3 a, ρ3)) (h3 ρ2) u) : TQ (fun p => (oT3 f1 f2 f3 p, ρ3)) (oTup (oCons h1 (oCons h2 (oCons h3 oNil))) ρ) (b3 mk3 s t u) := by
  simp only [oTup_ap, oCons_ap, oNil_ap, R.bind_assoc, R.bind_ok]
  refine q1.bind fun a => q2.bind fun b => q3.bind fun c => ?_
  exact if_pos (by simp)
theorem p_tup4 {s : R α} {t : R β} {u : R γ} {w : R δ} (q1 : TQ (fun a => (f1 a, ρ1)) (h1 ρ) s) (q2 : TQ (fun a => (f2 a, ρ2)) (h2 ρ1) t) (q3 : TQ (fun a => (f3 a, ρ3)) (h3 ρ2) u) (q4 : TQ (fun a => (f4 a, ρ4)) (h4 ρ3) w) : TQ (fun p => (oT4 f1 f2 f3 f4 p, ρ4)) (oTup (oCons h1 (oCons h2 (oCons h3 (oCons h4 oNil)))) ρ) (b4 mk4 s t u w) := by
  simp only [oTup_ap, oCons_ap, oNil_ap, R.bind_assoc, R.bind_ok]
  refine q1.bind fun a => q2.bind fun b => q3.bind fun c => q4.bind fun d => ?_
  exact if_pos (by simp)
/-- a value comes as perhaps-nothing -/
theorem p_some {s : R α} (q : TQ (fun a => (f1 a, ρ1)) (h1 ρ) s) : TQ (fun a => (oO f1 a, ρ1)) (h1 ρ) (b1 cJust s) := by
  cases s with
  | stuck => trivial
  | err c => exact q
  | ok a => exact q
theorem p_none {s : R Unit} (q : TQ (fun a : Unit => (oF a, ρ1)) (h1 ρ) s) : TQ (fun a => (oO f1 a, ρ1)) (h1 ρ) (b1 cNone s) := by
  cases s with
  | stuck => trivial
  | err c => exact q
  | ok a => exact q
/-! ### typed: values that leave the slots -/
variable {hn : OEnv → R O}
theorem n_x [Enc α] {h : OEnv → R PyData} {s : R α} (hs : TEq (h ρ) s) : TQ (oF : α → O) (nX h ρ) s := by
  cases s with
  | stuck => trivial
  | err c => show (h ρ).bind _ = _; rw [show h ρ = .err c from hs]; rfl
  | ok a => show (h ρ).bind _ = _; rw [show h ρ = .ok (e a) from hs]; rfl
theorem n_frF [Enc α] {f : PEnv → R (List PyData)} {s : R (List α)} (hs : TL (f (viewF ρ)) s) : TQ (oL oF : List α → O) (nFrF f ρ) s := by
  cases s with
  | stuck => trivial
  | err c => show (f (viewF ρ)).bind _ = _; rw [show f (viewF ρ) = .err c from hs]; rfl
  | ok a => show (f (viewF ρ)).bind _ = _; rw [show f (viewF ρ) = .ok (a.map e) from hs]; show R.ok _ = R.ok _; rw [List.map_map]; rfl
/-! ### typed: places -/
/-- a list at a place of a typed value -/
structure LQ (ox : α → O) (p : List Nat) (get : α → Option (List β)) (oe : β → O) (set : α → List β → α) : Prop where
  g : ∀ x ys, get x = some ys → (ox x).at p = some (oL oe ys)
  s : ∀ x ys zs, get x = some ys → (ox x).put p (oL oe zs) = ox (set x zs)
theorem lq_self {oe : β → O} : LQ (oL oe) [] some oe (fun _ zs => zs) := ⟨fun x ys h => by cases h; rfl, fun x ys zs h => rfl⟩
theorem lq_idx {oe : β → O} (n : Nat) : LQ (oL (oL oe)) [n] (fun x => x[n]?) oe (fun x zs => x.set n zs) := ⟨fun x ys h => by
  show (match (x.map (oL oe))[n]? with | some x => O.at x [] | none => none) = _
  rw [List.getElem?_map, h]; rfl, fun x ys zs h => by
  show (match (x.map (oL oe))[n]? with | some y => (O.lst (x.map (oL oe))).setKid n (O.put y [] (oL oe zs)) | none => _) = _
  rw [List.getElem?_map, h]
  show O.lst ((x.map (oL oe)).set n (oL oe zs)) = O.lst ((x.set n zs).map (oL oe))
  rw [List.map_set]⟩
theorem lq_21 {oe : β → O} {f2 : γ → O} : LQ (oT2 (oL oe) f2) [0] (fun x => some x.1) oe (fun x zs => (zs, x.2)) := ⟨fun x ys h => by cases h; rfl, fun x ys zs h => rfl⟩
theorem lq_22 {oe : β → O} {f2 : γ → O} : LQ (oT2 f2 (oL oe)) [1] (fun x => some x.2) oe (fun x zs => (x.1, zs)) := ⟨fun x ys h => by cases h; rfl, fun x ys zs h => rfl⟩
theorem lq_31 {oe : β → O} {f2 : γ → O} {f3 : δ → O} : LQ (oT3 (oL oe) f2 f3) [0] (fun x => some x.a) oe (fun x zs => ⟨zs, x.b, x.c⟩) := ⟨fun x ys h => by cases h; rfl, fun x ys zs h => rfl⟩
theorem lq_32 {oe : β → O} {f2 : γ → O} {f3 : δ → O} : LQ (oT3 f2 (oL oe) f3) [1] (fun x => some x.b) oe (fun x zs => ⟨x.a, zs, x.c⟩) := ⟨fun x ys h => by cases h; rfl, fun x ys zs h => rfl⟩
theorem lq_33 {oe : β → O} {f2 : γ → O} {f3 : δ → O} : LQ (oT3 f2 f3 (oL oe)) [2] (fun x => some x.c) oe (fun x zs => ⟨x.a, x.b, zs⟩) := ⟨fun x ys h => by cases h; rfl, fun x ys zs h => rfl⟩
theorem lq_O {oe : β → O} : LQ (oO (oL oe)) [] id oe (fun _ zs => some zs) := ⟨fun x ys h => by
  have h : x = some ys := h
  subst h; rfl, fun x ys zs h => rfl⟩
theorem l_var (i : Nat) {ox : α → O} (x : α) (hl : lentP (ox x) = [] := by rfl) (h : ρ[i]? = some (some (ox x)) := by rfl) : TQ (fun _ : Unit => (i, ([] : List Nat))) (pVar i ρ) (.ok ()) := by
  show pVar i ρ = _
  unfold pVar; rw [h]; simp only [hl]
def tix (n : Nat) (j : Int) : R Nat := match ixN n j with | some k => .ok k | none => .stuck
theorem l_idx (i : Nat) {oe : β → O} (x : List β) {hk : OEnv → R PyData} {t : R Int} (hj : TEq (hk ρ) t) (h : ρ[i]? = some (some (oL oe x)) := by rfl) : TQ (fun n : Nat => (i, [n])) (pIdx (pVar i) hk ρ) (t.bind fun j => tix x.length j) := by
  have e1 : pVar i ρ = .ok (i, []) := by unfold pVar; rw [h]; rfl
  unfold pIdx
  rw [e1]
  simp only [R.bind_ok, h]
  show TQ _ (R.bind (hk ρ) (pIx1 (i, []) (x.map oe).length)) _
  refine hj.bind fun j => ?_
  show TQ _ (match ixN (x.map oe).length j with | some k => _ | none => _) _
  rw [List.length_map]
  unfold tix
  cases ixN x.length j with
  | none => trivial
  | some k => exact rfl
theorem l_idxT (i n : Nat) {x : O} {os : List O} {hk : OEnv → R PyData} (hx : x = .tup os) {j : Int} (hj : hk ρ = .ok (.int j)) (hn : ixN os.length j = some n) (h : ρ[i]? = some (some x)) : TQ (fun _ : Unit => (i, [n])) (pIdx (pVar i) hk ρ) (.ok ()) := by
  subst hx
  have e1 : pVar i ρ = .ok (i, []) := by unfold pVar; rw [h]; rfl
  show pIdx (pVar i) hk ρ = _
  unfold pIdx
  rw [e1]
  simp only [R.bind_ok, h]
  show R.bind (hk ρ) (pIx1 (i, []) os.length) = _
  rw [hj]
  show (match ixN os.length j with | some k => R.ok ((i, []).1, (i, []).2 ++ [k]) | none => R.stuck) = _
  rw [hn]; rfl
end
section
variable {β l σ τ α γ ι : Type} {E : σ → OEnv → Prop} {L : l → OEnv → Prop} {er : O → OEnv → β → Prop} {Z : OEnv → Prop} {ρ : OEnv} {g h k g1 : OEnv → SR}
/-- a list at a place, changed -/
def tmutP {α γ δ : Type} (get : α → Option (List γ)) (set : α → List γ → α) (x : α) (f : List γ → R (List γ)) : R α := match get x with
  | some ys => (f ys).bind fun zs => .ok (set x zs)
  | none => .stuck
@[simp] theorem tmutP_some {α γ : Type} {get : α → Option (List γ)} {set : α → List γ → α} {x : α} {f : List γ → R (List γ)} {ys : List γ} (h : get x = some ys) : tmutP (δ := Unit) get set x f = (f ys).bind fun zs => .ok (set x zs) := by unfold tmutP; rw [h]
def tfd {γ β l σ : Type} (o : Option γ) (f : γ → TR β l σ) : TR β l σ := match o with
  | some y => f y
  | none => .stuck
@[simp] theorem tfd_some {γ β l σ : Type} (y : γ) (f : γ → TR β l σ) : tfd (some y) f = f y := rfl
theorem q_appP {ox : α → O} {oe : γ → O} {hp : OEnv → R (Nat × List Nat)} {hn : OEnv → R O} {t : R ι} {u : R γ} {ll : α → TR β l σ} (i : Nat) {p : ι → List Nat} {get : ι → α → Option (List γ)} {set : ι → α → List γ → α} (x : α) (hl : ∀ n, LQ ox (p n) (get n) oe (set n)) (h1 : TQ (fun n => (i, p n)) (hp ρ) t) (h2 : TQ oe (hn ρ) u) (z : Z ρ) (hr : ∀ y, SQ E L er Z (k (ρ.set i (some (ox y)))) (ll y)) (hi : ρ[i]? = some (some (ox x)) := by rfl) :
    SQ E L er Z (seq (sMutP fApp hp hn) k ρ) (t.tr fun n => tfd (get n x) fun ys => u.tr fun a => (tapp ys a).tr fun zs => ll (set n x zs)) := by
  show SQ E L er Z (SR.seq (R.sr _ _ _) k) _
  rw [seq_sr]
  refine SQ.sr h1 z fun n => ?_
  simp only [hi]
  cases hg : get n x with
  | none => trivial
  | some ys =>
    rw [(hl n).g x ys hg]
    simp only
    rw [seq_sr]
    refine SQ.sr h2 z fun a => ?_
    unfold tapp fApp
    simp only [List.length_map, szL]
    by_cases hz : ys.length < 16777216
    · simp only [if_pos hz]
      show SQ _ _ _ _ (k _) (ll (set n x (ys ++ [a])))
      have e1 := (hl n).s x ys (ys ++ [a]) hg
      rw [show oL oe (ys ++ [a]) = O.lst (ys.map oe ++ [oe a]) by simp [oL]] at e1
      rw [e1]
      exact hr _
    · simp only [if_neg hz]; trivial
theorem q_clrP {ox : α → O} {oe : γ → O} {hp : OEnv → R (Nat × List Nat)} {t : R ι} {ll : α → TR β l σ} (i : Nat) {p : ι → List Nat} {get : ι → α → Option (List γ)} {set : ι → α → List γ → α} (x : α) (hl : ∀ n, LQ ox (p n) (get n) oe (set n)) (h1 : TQ (fun n => (i, p n)) (hp ρ) t) (z : Z ρ) (hr : ∀ y, SQ E L er Z (k (ρ.set i (some (ox y)))) (ll y)) (hi : ρ[i]? = some (some (ox x)) := by rfl) :
    SQ E L er Z (seq (sMut0 (fun _ => some []) hp) k ρ) (t.tr fun n => tfd (get n x) fun ys => ll (set n x [])) := by
  show SQ E L er Z (SR.seq (R.sr _ _ _) k) _
  rw [seq_sr]
  refine SQ.sr h1 z fun n => ?_
  simp only [hi]
  cases hg : get n x with
  | none => trivial
  | some ys =>
    rw [(hl n).g x ys hg]
    simp only
    have e1 := (hl n).s x ys [] hg
    show SQ _ _ _ _ (k _) _
    rw [show O.lst [] = oL oe [] from rfl, e1]
    exact hr _
theorem q_setP {ox : α → O} {oe : γ → O} {hp : OEnv → R (Nat × List Nat)} {hk : OEnv → R PyData} {ho : OEnv → R (O × OEnv)} {t : R ι} {u : R γ} {w : R Int} {ll : α → TR β l σ} (i : Nat) {p : ι → List Nat} {get : ι → α → Option (List γ)} {set : ι → α → List γ → α} (x : α) (hl : ∀ n, LQ ox (p n) (get n) oe (set n)) (h0 : TQ (fun a => (oe a, ρ)) (ho ρ) u) (h1 : TQ (fun n => (i, p n)) (hp ρ) t) (h2 : TEq (hk ρ) w) (z : Z ρ) (hr : ∀ y, SQ E L er Z (k (ρ.set i (some (ox y)))) (ll y)) (hi : ρ[i]? = some (some (ox x)) := by rfl) :
    SQ E L er Z (seq (sSetP hp hk ho) k ρ) (u.tr fun a => t.tr fun n => tfd (get n x) fun ys => w.tr fun j => (tset ys j a).tr fun zs => ll (set n x zs)) := by
  show SQ E L er Z (SR.seq (R.sr _ _ _) k) _
  rw [seq_sr]
  refine SQ.sr h0 z fun a => ?_
  rw [seq_sr]
  refine SQ.sr h1 z fun n => ?_
  simp only [hi]
  cases hg : get n x with
  | none => trivial
  | some ys =>
    rw [(hl n).g x ys hg]
    simp only
    rw [seq_sr]
    refine SQ.sr h2 z fun j => ?_
    unfold tset
    show SQ _ _ _ _ (SR.seq (match ixN (ys.map oe).length j with | some m => _ | none => _) k) _
    rw [List.length_map]
    cases ixN ys.length j with
    | none => trivial
    | some m =>
      have e1 := (hl n).s x ys (ys.set m a) hg
      rw [show oL oe (ys.set m a) = O.lst ((ys.map oe).set m (oe a)) by simp [oL, List.map_set]] at e1
      show SQ _ _ _ _ (k _) (ll (set n x (ys.set m a)))
      rw [e1]
      exact hr _
def tins {α : Type} (xs : List α) (j : Int) (a : α) : R (List α) := if 0 ≤ j ∧ j < 16777216 ∧ xs.length < 16777216 then .ok (insAt xs j.toNat a) else .stuck
theorem q_insP {ox : α → O} {oe : γ → O} {hp : OEnv → R (Nat × List Nat)} {hk : OEnv → R PyData} {hn : OEnv → R O} {t : R ι} {u : R γ} {w : R Int} {ll : α → TR β l σ} (i : Nat) {p : ι → List Nat} {get : ι → α → Option (List γ)} {set : ι → α → List γ → α} (x : α) (hl : ∀ n, LQ ox (p n) (get n) oe (set n)) (h1 : TQ (fun n => (i, p n)) (hp ρ) t) (h2 : TEq (hk ρ) w) (h3 : TQ oe (hn ρ) u) (z : Z ρ) (hr : ∀ y, SQ E L er Z (k (ρ.set i (some (ox y)))) (ll y)) (hi : ρ[i]? = some (some (ox x)) := by rfl) :
    SQ E L er Z (seq (sInsP hp hk hn) k ρ) (t.tr fun n => tfd (get n x) fun ys => w.tr fun j => u.tr fun a => (tins ys j a).tr fun zs => ll (set n x zs)) := by
  show SQ E L er Z (SR.seq (R.sr _ _ _) k) _
  rw [seq_sr]
  refine SQ.sr h1 z fun n => ?_
  simp only [hi]
  cases hg : get n x with
  | none => trivial
  | some ys =>
    rw [(hl n).g x ys hg]
    simp only
    rw [seq_sr]
    refine SQ.sr h2 z fun j => ?_
    rw [seq_sr]
    refine SQ.sr h3 z fun a => ?_
    unfold tins
    show SQ _ _ _ _ (SR.seq (if 0 ≤ j ∧ j < 16777216 ∧ (ys.map oe).length < sizeLine then _ else _) k) _
    rw [List.length_map, szL]
    split
    · have e1 := (hl n).s x ys (insAt ys j.toNat a) hg
      rw [show oL oe (insAt ys j.toNat a) = O.lst (insAt (ys.map oe) j.toNat (oe a)) by simp [oL, insAt, List.map_take, List.map_drop]] at e1
      show SQ _ _ _ _ (k _) (ll (set n x (insAt ys j.toNat a)))
      rw [e1]
      exact hr _
    · trivial
/-- a, b = .. of one's own -/
theorem q_tupN2 {α2 : Type} {f1 : α → O} {f2 : γ → O} {ho : OEnv → R (O × OEnv)} {t : R (α × γ)} {ρ1 : OEnv} {ll : α → γ → TR β l σ} (i j : Nat) (h : TQ (fun p => (oT2 f1 f2 p, ρ1)) (ho ρ) t) (z : Z ρ) (hr : ∀ a b, SQ E L er Z (k ((ρ1.set i (some (f1 a))).set j (some (f2 b)))) (ll a b)) : SQ E L er Z (seq (sTupN [i, j] ho) k ρ) (t.tr fun p => ll p.1 p.2) := by
  show SQ E L er Z (SR.seq (R.sr _ _ _) k) _
  rw [seq_sr]
  refine SQ.sr h z fun p => ?_
  exact hr p.1 p.2
theorem q_tupN3 {δ : Type} {f1 : α → O} {f2 : γ → O} {f3 : δ → O} {ho : OEnv → R (O × OEnv)} {t : R (T3 α γ δ)} {ρ1 : OEnv} {ll : α → γ → δ → TR β l σ} (i j m : Nat) (h : TQ (fun p => (oT3 f1 f2 f3 p, ρ1)) (ho ρ) t) (z : Z ρ) (hr : ∀ a b c, SQ E L er Z (k (((ρ1.set i (some (f1 a))).set j (some (f2 b))).set m (some (f3 c)))) (ll a b c)) : SQ E L er Z (seq (sTupN [i, j, m] ho) k ρ) (t.tr fun p => ll p.a p.b p.c) := by
  show SQ E L er Z (SR.seq (R.sr _ _ _) k) _
  rw [seq_sr]
  refine SQ.sr h z fun p => ?_
  exact hr p.a p.b p.c
/-- a, b = data that comes by a change (pop) -/
theorem q_tupNF2 {αp : Type} [Enc α] [Enc γ] {ho : OEnv → R (O × OEnv)} {t : R αp} {val : αp → α × γ} {ρ1 : αp → OEnv} {ll : αp → TR β l σ} (i j : Nat) (h : TQ (fun p => (oF (val p), ρ1 p)) (ho ρ) t) (z : Z ρ) (hr : ∀ p, SQ E L er Z (k (((ρ1 p).set i (some (oF (val p).1))).set j (some (oF (val p).2)))) (ll p)) : SQ E L er Z (seq (sTupN [i, j] ho) k ρ) (t.tr ll) := by
  show SQ E L er Z (SR.seq (R.sr _ _ _) k) _
  rw [seq_sr]
  refine SQ.sr h z fun p => ?_
  exact hr p
end
end VL

namespace VL
open PySem PySem.Spec PyProof.Rows L2
open Enc (e)
/-! ### typed: try, except C as e -/
def tisE (tb : Str → Option Bool) (c : Str) : R Bool := match tb c with | some b => .ok b | none => .stuck
theorem tisE_of {tb : Str → Option Bool} {c : Str} {b : Bool} (h : tb c = some b) : tisE tb c = .ok b := by unfold tisE; rw [h]
theorem t_isE {a : Addr} {cn : Str} {tb : Str → Option Bool} {ρ : PEnv} (i : Nat) (h : ρ[i]? = some (some (O.data (.fz (excD a cn))))) : TEq (v1 (vIsE a cn tb) (vVar i) ρ) (tisE tb cn) := by
  have e1 : vVar i ρ = .ok (excD a cn) := by unfold vVar; rw [h, O.data_fz]
  show TEq (R.bind (vVar i ρ) (vIsE a cn tb)) _
  rw [e1]
  show TEq (vIsE a cn tb (excD a cn)) _
  rw [vIsE_ap]
  unfold tisE
  cases tb cn with
  | none => trivial
  | some b => exact rfl
theorem t_isEF {a : Addr} {cn : Str} {tb : Str → Option Bool} {ρ : PEnv} (i : Nat) (h : ρ[i]? = some (some (excD a cn))) : TEq (v1 (vIsE a cn tb) (vVar i) ρ) (tisE tb cn) := t_isE i (by rw [O.data_fz]; exact h)
def ttryA {β l σ : Type} (s : TR β l σ) (tb : Str → Option Bool) (h : Str → TR β l σ) : TR β l σ := match s with
  | .err c => match tb c with
    | some true => (match h c with
      | .err _ => .stuck
      | r => r)
    | some false => .err c
    | none => .stuck
  | r => r
section
variable {β l σ τ : Type}
@[simp] theorem ttryA_nx (s : σ) (tb : Str → Option Bool) (h : Str → TR β l σ) : ttryA (.nx s) tb h = .nx s := rfl
@[simp] theorem ttryA_rt (s : β) (tb : Str → Option Bool) (h : Str → TR β l σ) : ttryA (.rt s) tb h = .rt s := rfl
@[simp] theorem ttryA_ct (s : l) (tb : Str → Option Bool) (h : Str → TR β l σ) : ttryA (.ct s) tb h = .ct s := rfl
@[simp] theorem ttryA_bk (s : l) (tb : Str → Option Bool) (h : Str → TR β l σ) : ttryA (.bk s) tb h = .bk s := rfl
@[simp] theorem ttry_nx (s : σ) (tb : Str → Option Bool) (h : TR β l σ) : ttry (.nx s) tb h = .nx s := rfl
@[simp] theorem ttry_rt (s : β) (tb : Str → Option Bool) (h : TR β l σ) : ttry (.rt s) tb h = .rt s := rfl
@[simp] theorem ttry_ct (s : l) (tb : Str → Option Bool) (h : TR β l σ) : ttry (.ct s) tb h = .ct s := rfl
@[simp] theorem ttry_bk (s : l) (tb : Str → Option Bool) (h : TR β l σ) : ttry (.bk s) tb h = .bk s := rfl
theorem ttryA_err {tb : Str → Option Bool} {h : Str → TR β l σ} {c : Str} (e : tb c = some true) (hn : ∀ x, h c ≠ .err x) : ttryA (.err c) tb h = h c := by
  unfold ttryA; simp only [e]
theorem ttry_err {tb : Str → Option Bool} {h : TR β l σ} {c : Str} (e : tb c = some true) (hn : ∀ x, h ≠ .err x) : ttry (.err c) tb h = h := by
  unfold ttry; simp only [e]
variable {E : σ → OEnv → Prop} {L : l → OEnv → Prop} {er : O → OEnv → β → Prop} {Z : OEnv → Prop} {ρ : OEnv} {k : OEnv → SR}
theorem q_tryA {gb : OEnv → SR} {gs : Addr → Str → OEnv → SR} {tb : Str → Option Bool} {i : Nat} {Zb : OEnv → Prop} {Es : τ → OEnv} {s : TR β l τ} {t : Str → TR β l τ} {ll : τ → TR β l σ} (EL : l → OEnv) (fo : β → O) (hL : ∀ x, L x (EL x)) (hfo : ∀ b ρ, er (fo b) ρ b) (h1 : SQ (fun s ρ => ρ = Es s) L er Zb (gb ρ) s)
    (h2 : ∀ a c ρ, Zb ρ → SQ (fun s ρ => ρ.set i none = Es s) (fun x ρ => ρ.set i none = EL x) (fun o _ b => o = fo b) (fun _ => True) (gs a c (ρ.set i (some (.fz (excD a c))))) (t c)) (hz : ∀ ρ, Zb ρ → Z ρ) (hr : ∀ s, SQ E L er Z (k (Es s)) (ll s)) : SQ E L er Z (seq (sTryAs gb tb i gs) k ρ) ((ttryA s tb t).bind ll) := by
  refine SQ.bind (E1 := fun s ρ => ρ = Es s) ?_ fun s ρ e1 => by rw [e1]; exact hr s
  show SQ _ _ _ _ (catchA tb i gs (gb ρ)) _
  cases s with
  | stuck => trivial
  | nx s => obtain ⟨ρ', e1, e2⟩ := h1; rw [e1]; exact ⟨_, rfl, e2⟩
  | ct s => obtain ⟨ρ', e1, e2⟩ := h1; rw [e1]; exact ⟨_, rfl, e2⟩
  | bk s => obtain ⟨ρ', e1, e2⟩ := h1; rw [e1]; exact ⟨_, rfl, e2⟩
  | rt s => obtain ⟨_, ρ', e1, e2⟩ := h1; rw [e1]; exact ⟨_, _, rfl, e2⟩
  | err c =>
    obtain ⟨ρ', e1, e2⟩ := h1
    rw [e1]
    unfold catchA ttryA
    dsimp only
    cases tb c with
    | none => trivial
    | some b =>
      cases b with
      | false => exact ⟨_, rfl, hz _ e2⟩
      | true =>
        have h3 := fun a => h2 a c ρ' e2
        dsimp only
        cases ht : t c with
        | stuck => trivial
        | err s => trivial
        | nx s =>
          have : ∀ a, (gs a c (ρ'.set i (some (.fz (excD a c))))).unset i = .nx (Es s) := fun a => by
            have := h3 a; rw [ht] at this; obtain ⟨ρ2, g1, g2⟩ := this; rw [g1, unset_nx, g2]
          rw [anyA_eq this]; exact ⟨_, rfl, rfl⟩
        | ct s =>
          have : ∀ a, (gs a c (ρ'.set i (some (.fz (excD a c))))).unset i = .ct (EL s) := fun a => by
            have := h3 a; rw [ht] at this; obtain ⟨ρ2, g1, g2⟩ := this; rw [g1, unset_ct, g2]
          rw [anyA_eq this]; exact ⟨_, rfl, hL s⟩
        | bk s =>
          have : ∀ a, (gs a c (ρ'.set i (some (.fz (excD a c))))).unset i = .bk (EL s) := fun a => by
            have := h3 a; rw [ht] at this; obtain ⟨ρ2, g1, g2⟩ := this; rw [g1, unset_bk, g2]
          rw [anyA_eq this]; exact ⟨_, rfl, hL s⟩
        | rt b =>
          have : ∀ a, (gs a c (ρ'.set i (some (.fz (excD a c))))).unset i = .rt (fo b) [] := fun a => by
            have := h3 a; rw [ht] at this; obtain ⟨o, ρ2, g1, g2⟩ := this; rw [g1, unset_rt, g2]
          rw [anyA_eq this]; exact ⟨_, _, rfl, hfo b _⟩
/-- the slots that a handler starts with -/
theorem q_hand {g : OEnv → SR} {ks : List Nat} {ρ' : OEnv} {t : TR β l σ} (h : kill ks ρ = ρ') (hh : SQ E L er Z (g ρ') t) : SQ E L er Z (pre (kill ks) g ρ) t := by
  show SQ E L er Z (g (kill ks ρ)) t
  rw [h]; exact hh
theorem kill_set (i : Nat) (x : Option O) : ∀ (ks : List Nat) (ρ : OEnv), i ∉ ks → kill ks (ρ.set i x) = (kill ks ρ).set i x := by
  intro ks
  induction ks with
  | nil => intro ρ _; rfl
  | cons k ks ih =>
    intro ρ h
    rw [kill_cons, kill_cons, List.set_comm _ _ (show i ≠ k from fun z => h (by rw [z]; exact List.mem_cons_self)), ih _ fun z => h (List.mem_cons_of_mem _ z)]
end
theorem l_varO {β : Type} {ρ : OEnv} {oe : β → O} (i : Nat) (x : Option (List β)) (h : ρ[i]? = some (some (oO (oL oe) x)) := by rfl) : TQ (fun _ : Unit => (i, ([] : List Nat))) (pVar i ρ) (.ok ()) := by
  show pVar i ρ = _
  unfold pVar; rw [h]
  cases x <;> rfl
/-- the handler's slots, with the exception in its own -/
theorem hand_of {ks : List Nat} {ρ ρ' ρ'' : OEnv} (i : Nat) (x : Option O) (hz : (kill ks ρ).set i none = ρ') (hi : i ∉ ks := by decide) (h : ρ'.set i x = ρ'' := by rfl) : kill ks (ρ.set i x) = ρ'' := by
  rw [kill_set i x ks ρ hi, ← h, ← hz, List.set_set]
def cNever {α β : Type} (_ : α) : R β := .stuck
theorem Co.never {α β : Type} [Enc α] [Enc β] : Co (cNever : α → R β) := fun _ => trivial
@[simp] theorem cNever_ap {α β : Type} (a : α) : (cNever a : R β) = .stuck := rfl
end VL

namespace VL
open PySem PySem.Spec PyProof.Rows L2
/-! ### dicts, read: the key may be kept from the start -/
section
variable {X : Cx} {pins : List (Addr × Obj)} {σ : L2.St} {H : Hp} {s : Shared} {a : Addr} {y v d : V} {u r : Value} {o : Option V} {A : Around} {E : Value → Shared → Prop}
theorem key_sq (I : Inv X pins σ H s) {b : Addr} {k : List L2.Key} (h : SqT X.K H b (k.map kV)) : (tupleKind (mixKind X.prog X.w)).is s.heap k b := by
  obtain ⟨its, r, ⟨o, e, hc, n, hd⟩, _⟩ := I.tuple h
  exact ⟨o, its.toArray, n, e, hc, hd, by simpa using items_are r⟩
/-- what the dict at a holds at the key y -/
def DG (K : PySem.W.Frag) (H : Hp) (a : Addr) (y : V) (r : Option V) : Prop :=
  (∃ kvs k, Rd H a (.dK kvs) ∧ y = kV k ∧ r = valV kvs k) ∨ ∃ kvs k b, Rd H a (.dT kvs) ∧ y = .ref b ∧ SqT K H b (k.map kV) ∧ r = valV kvs k
theorem DG.is (g : DG X.K H a y o) : IsD H a := by
  rcases g with ⟨kvs, k, e, _⟩ | ⟨kvs, k, b, e, _⟩
  · exact .inl ⟨kvs, e⟩
  · exact .inr ⟨kvs, e⟩
theorem dg_getItem {Q : Value → Shared → Prop} (hu : A.units + 1 < cLine) (I : Inv X pins σ H s) (g : DG X.K H a y (some v)) (ry : RelV y u) (h : ∀ w' s', Inv X pins σ H s' → RelV v w' → Q w' s') :
    wpAny (model X.prog X.w) A (getItem (.ref a) u) Q E s := by
  rcases g with ⟨kvs, k, e, ey, l⟩ | ⟨kvs, k, b, e, ey, eb, l⟩
  · exact d_getItem hu I (.inl ⟨kvs, k, e, ey, l⟩) ry h
  · subst ey
    cases (show u = Value.ref b from ry)
    obtain ⟨z, hd, xs, rel, dd⟩ := dt_rd I.hok e
    obtain ⟨w', hw, rw'⟩ := RelO.some_of (v := v) (o := (atKey xs k).map (·.2)) (by rw [l]; exact rel.val k)
    obtain ⟨p, hp, hp2⟩ := Option.map_eq_some_iff.mp hw
    refine wpAny_getItem_heap (tupleKind_room_in1 hu) (key_sq I eb) dd hp ?_
    rw [hp2]
    exact h w' _ (I.tok _) rw'
theorem dg_in {Q : Value → Shared → Prop} (hu : A.units + 1 < cLine) (I : Inv X pins σ H s) (g : DG X.K H a y o) (ry : RelV y u) (h : ∀ s', Inv X pins σ H s' → Q (.bool o.isSome) s') :
    wpAny (model X.prog X.w) A (compareOp .In u (.ref a)) Q E s := by
  rcases g with ⟨kvs, k, e, ey, l⟩ | ⟨kvs, k, b, e, ey, eb, l⟩
  · exact d_in hu I (.inl ⟨kvs, k, e, ey, l⟩) ry h
  · subst ey
    cases (show u = Value.ref b from ry)
    obtain ⟨z, hd, xs, rel, dd⟩ := dt_rd I.hok e
    refine wpAny_in_heap (tupleKind_room_in1 hu) (key_sq I eb) hd dd ?_
    have q := (rel.val k).isSome_eq
    rw [Option.isSome_map] at q
    rw [← q, ← l]
    exact h _ (I.tok _)
theorem dg_notIn {Q : Value → Shared → Prop} (hu : A.units + 1 < cLine) (I : Inv X pins σ H s) (g : DG X.K H a y o) (ry : RelV y u) (h : ∀ s', Inv X pins σ H s' → Q (.bool (!o.isSome)) s') :
    wpAny (model X.prog X.w) A (compareOp .NotIn u (.ref a)) Q E s := by
  rcases g with ⟨kvs, k, e, ey, l⟩ | ⟨kvs, k, b, e, ey, eb, l⟩
  · exact d_notIn hu I (.inl ⟨kvs, k, e, ey, l⟩) ry h
  · subst ey
    cases (show u = Value.ref b from ry)
    obtain ⟨z, hd, xs, rel, dd⟩ := dt_rd I.hok e
    refine wpAny_notIn_heap (tupleKind_room_in1 hu) (key_sq I eb) hd dd ?_
    have q := (rel.val k).isSome_eq
    rw [Option.isSome_map] at q
    rw [← q, ← l]
    exact h _ (I.tok _)
theorem dg_get1 {Q : Value → Shared → Prop} (hu : A.units + 1 < cLine) (I : Inv X pins σ H s) (g : DG X.K H a y o) (ry : RelV y u) (h : ∀ w' s', Inv X pins σ H s' → RelV (o.getD .non) w' → Q w' s') :
    wpAny (model X.prog X.w) A (call (.builtin "dict.get") [.ref a, u]) Q E s := by
  rcases g with ⟨kvs, k, e, ey, l⟩ | ⟨kvs, k, b, e, ey, eb, l⟩
  · exact d_get1 hu I (.inl ⟨kvs, k, e, ey, l⟩) ry h
  · subst ey
    cases (show u = Value.ref b from ry)
    obtain ⟨z, hd, xs, rel, dd⟩ := dt_rd I.hok e
    refine call_meetsIn PySem.F.slot_dict_get dd.typeIs PySem.F.entry_dict_get (PySem.F.args_dict_get_2 _ _) (meetsH_dict_get (tupleKind (mixKind X.prog X.w)) a b hd) ⟨tupleKind_room_in1 hu, k, xs, key_sq I eb, dd, h _ _ (I.tok _) ?_⟩
    rw [l]
    exact (rel.val k).getD rfl
theorem dg_get2 {Q : Value → Shared → Prop} (hu : A.units + 1 < cLine) (I : Inv X pins σ H s) (g : DG X.K H a y o) (ry : RelV y u) (rd : RelV d r) (h : ∀ w' s', Inv X pins σ H s' → RelV (o.getD d) w' → Q w' s') :
    wpAny (model X.prog X.w) A (call (.builtin "dict.get") [.ref a, u, r]) Q E s := by
  rcases g with ⟨kvs, k, e, ey, l⟩ | ⟨kvs, k, b, e, ey, eb, l⟩
  · exact d_get2 hu I (.inl ⟨kvs, k, e, ey, l⟩) ry rd h
  · subst ey
    cases (show u = Value.ref b from ry)
    obtain ⟨z, hd, xs, rel, dd⟩ := dt_rd I.hok e
    refine call_meetsIn PySem.F.slot_dict_get dd.typeIs PySem.F.entry_dict_get (PySem.F.args_dict_get_3 _ _ _) (meetsH_dict_get_default (tupleKind (mixKind X.prog X.w)) a b hd r) ⟨tupleKind_room_in1 hu, k, xs, key_sq I eb, dd, h _ _ (I.tok _) ?_⟩
    rw [l]
    exact (rel.val k).getD rd
end
section
variable {X : Cx} {o i e f : Expr} {pos apos cpos : Pos} {td ty tx : TE}
def rDG (K : PySem.W.Frag) : V → V → Hp → VK → Prop := fun x y H Q => ∃ a v, x = .ref a ∧ DG K H a y (some v) ∧ Q v H
def rDIn (K : PySem.W.Frag) : V → V → Hp → VK → Prop := fun y x H Q => ∃ a o, x = .ref a ∧ DG K H a y o ∧ Q (.bl o.isSome) H
def rDNin (K : PySem.W.Frag) : V → V → Hp → VK → Prop := fun y x H Q => ∃ a o, x = .ref a ∧ DG K H a y o ∧ Q (.bl (!o.isSome)) H
theorem pe_dg (hu : X.A.units + 1 < cLine) (ho : PE X o td) (hi : PE X i ty) (hs : NoSl i) : PE X (.Subscript o i pos) (tOp (rDG X.K) td ty) := by
  refine ⟨fun pins s σ H Q I h => ?_⟩
  refine subD_of PySem.F.slot_dict_getitem.lookup hs (thn (ho.run pins s σ H _ I h) fun u s1 ⟨x, H1, I1, rx, q1⟩ => thn (hi.run pins s1 σ H1 _ I1 q1) fun iv s2 ⟨y, H2, I2, ry, a, v, ex, g, q2⟩ => ?_)
  subst ex
  obtain rfl : u = Value.ref a := rx
  exact ⟨(isD_at I2 g.is).1, dg_getItem hu I2 g ry fun w' s3 I3 rw' => ⟨v, H2, I3, rw', q2⟩⟩
theorem op_dgin (hu : X.A.units + 1 < cLine) : OpR X (compareOp .In) (rDIn X.K) := by
  intro pins s σ H x y u v Q I rx ry h
  obtain ⟨a, ov, rfl, g, q⟩ := h
  obtain rfl : v = Value.ref a := ry
  exact dg_in hu I g rx fun s3 I3 => ⟨.bl ov.isSome, H, I3, rfl, q⟩
theorem op_dgnin (hu : X.A.units + 1 < cLine) : OpR X (compareOp .NotIn) (rDNin X.K) := by
  intro pins s σ H x y u v Q I rx ry h
  obtain ⟨a, ov, rfl, g, q⟩ := h
  obtain rfl : v = Value.ref a := ry
  exact dg_notIn hu I g rx fun s3 I3 => ⟨.bl (!ov.isSome), H, I3, rfl, q⟩
end

/-! ### the data of a dict -/
def dictOf : PyData → Option (Bool × List (PyData × PyData))
  | .dict ((.none, .bool t) :: kvs) => some (t, kvs)
  | _ => none
theorem dictOf_ctD (ks : KS) (ds : List PyData) : dictOf (dctD ks ds) = some (ks.kind, ks.data.zip ds) := rfl
theorem dictOf_some {d : PyData} {t : Bool} {kvs : List (PyData × PyData)} (h : dictOf d = some (t, kvs)) : d = .dict ((.none, .bool t) :: kvs) := by
  unfold dictOf at h
  split at h
  · injection h with h; injection h with h1 h2; subst h1 h2; rfl
  · cases h
def flatD : PyData → Bool
  | .int _ => true
  | .str _ => true
  | _ => false
def keyOk (t : Bool) : PyData → Bool
  | .int _ => !t
  | .str _ => !t
  | .tuple ks => t && ks.all flatD
  | _ => false
noncomputable def dLook (kvs : List (PyData × PyData)) (k : PyData) : Option PyData := match kvs with
  | [] => none
  | (j, v) :: r => @ite _ (j = k) (Classical.propDecidable _) (some v) (dLook r k)
noncomputable def vdLook (d k : PyData) : R (Option PyData) := match dictOf d with
  | some (t, kvs) => if keyOk t k = true then .ok (dLook kvs k) else .stuck
  | none => .stuck
theorem keyD_inj {j k : L2.Key} (h : keyD j = keyD k) : j = k := by
  cases j <;> cases k <;> simp [keyD] at h <;> simp [h]
theorem keyDs_inj : ∀ {j k : List L2.Key}, j.map keyD = k.map keyD → j = k
  | [], [], _ => rfl
  | [], _ :: _, h => by simp at h
  | _ :: _, [], h => by simp at h
  | a :: j, b :: k, h => by
    rw [List.map_cons, List.map_cons] at h
    injection h with h1 h2
    rw [keyD_inj h1, keyDs_inj h2]
theorem is_key {K : PySem.W.Frag} {B : Hp} {y : V} {k : L2.Key} (h : Is K B y (keyD k)) : y = kV k := by
  cases k <;> (cases h; rfl)
theorem flat_keys : ∀ {ds : List PyData}, ds.all flatD = true → ∃ k : List L2.Key, ds = k.map keyD
  | [], _ => ⟨[], rfl⟩
  | d :: ds, h => by
    rw [List.all_cons, Bool.and_eq_true] at h
    obtain ⟨k, rfl⟩ := flat_keys h.2
    cases d with
    | int i => exact ⟨.inl i :: k, rfl⟩
    | str x => exact ⟨.inr x :: k, rfl⟩
    | none => exact absurd h.1 (by simp [flatD])
    | bool b => exact absurd h.1 (by simp [flatD])
    | list b => exact absurd h.1 (by simp [flatD])
    | tuple b => exact absurd h.1 (by simp [flatD])
    | dict b => exact absurd h.1 (by simp [flatD])
theorem isAll_keys {K : PySem.W.Frag} {B : Hp} : ∀ {k : List L2.Key} {vs : List V}, IsAll K B vs (k.map keyD) → vs = k.map kV
  | [], _, h => by cases h; rfl
  | a :: k, _, h => by
    cases h with
    | cons h1 h2 => rw [List.map_cons, is_key h1, isAll_keys h2]
/-- what is found, as data -/
def RelD (K : PySem.W.Frag) (B : Hp) (ov : Option V) (o : Option PyData) : Prop := match ov, o with
  | some v, some d => Is K B v d
  | none, none => True
  | _, _ => False
theorem look_rel {κ : Type} [DecidableEq κ] (f : κ → PyData) (hf : ∀ {a b}, f a = f b → a = b) {K : PySem.W.Frag} {B : Hp} (k : κ) : ∀ {ks : List κ} {vs : List V} {ds : List PyData}, IsAll K B vs ds → ks.length = vs.length →
    RelD K B (valV (ks.zip vs) k) (dLook ((ks.map f).zip ds) (f k))
  | [], [], ds, h, _ => by cases h; exact trivial
  | [], _ :: _, _, _, hl => by cases hl
  | _ :: _, [], _, _, hl => by cases hl
  | j :: ks, v :: vs, ds, h, hl => by
    cases h with
    | @cons _ _ d ds h1 h2 =>
      have ih := look_rel f hf k (ks := ks) h2 (by simpa using hl)
      rw [List.map_cons, List.zip_cons_cons, List.zip_cons_cons]
      unfold dLook
      by_cases e : j = k
      · rw [valV_pos (p := (j, v)) e, if_pos (congrArg f e)]; exact h1
      · rw [valV_neg (p := (j, v)) e, if_neg fun z => e (hf z)]; exact ih
theorem look_core {K : PySem.W.Frag} {B H : Hp} {x y : V} {d k : PyData} {o : Option PyData} (s : Same B H) (hx : Is K B x d) (hy : Is K B y k) (h : vdLook d k = .ok o) : ∃ a ov, x = .ref a ∧ DG K H a y ov ∧ RelD K B ov o := by
  unfold vdLook at h
  split at h
  · rename_i t kvs e
    have ed := dictOf_some e
    subst ed
    split at h
    · rename_i hk
      injection h with h
      subst h
      cases hx with
      | @dct a ks vs ds hr hl ha =>
        cases ks with
        | inl ks =>
          obtain ⟨k', rfl⟩ : ∃ k', k = keyD k' := by
            cases k with
            | int i => exact ⟨.inl i, rfl⟩
            | str z => exact ⟨.inr z, rfl⟩
            | none => exact absurd hk (by simp [keyOk])
            | bool b => exact absurd hk (by simp [keyOk])
            | list b => exact absurd hk (by simp [keyOk])
            | tuple b => exact absurd hk (by simp [keyOk, KS.kind])
            | dict b => exact absurd hk (by simp [keyOk])
          exact ⟨a, valV (ks.zip vs) k', rfl, .inl ⟨_, k', Rd.mono s hr, is_key hy, rfl⟩, look_rel keyD keyD_inj k' ha hl⟩
        | inr ks =>
          cases k with
          | int i => exact absurd hk (by simp [keyOk, KS.kind])
          | str z => exact absurd hk (by simp [keyOk, KS.kind])
          | none => exact absurd hk (by simp [keyOk])
          | bool b => exact absurd hk (by simp [keyOk])
          | list b => exact absurd hk (by simp [keyOk])
          | dict b => exact absurd hk (by simp [keyOk])
          | tuple js =>
            obtain ⟨k', rfl⟩ := flat_keys (ds := js) (by simpa [keyOk, KS.kind] using hk)
            cases hy with
            | @tup b xs _ ht hxs =>
              have e2 := isAll_keys hxs
              subst e2
              exact ⟨a, valV (ks.zip vs) k', rfl, .inr ⟨_, k', b, Rd.mono s hr, rfl, Same.tupl s ht, rfl⟩, look_rel (fun k : List L2.Key => .tuple (k.map keyD)) (fun z => by injection z with z; exact keyDs_inj z) k' ha hl⟩
    · cases h
  · cases h
/-! ### the rules -/
noncomputable def dgetD (d k : PyData) : R PyData := (vdLook d k).bind fun o => match o with | some v => .ok v | none => .stuck
noncomputable def dinD (k d : PyData) : R PyData := (vdLook d k).bind fun o => .ok (.bool o.isSome)
noncomputable def dninD (k d : PyData) : R PyData := (vdLook d k).bind fun o => .ok (.bool (!o.isSome))
/-- a[b], k in d: of lists, tuples, texts and dicts -/
noncomputable def vix (d k : PyData) : R PyData := match dictOf d with
  | some _ => dgetD d k
  | none => vidx d k
noncomputable def vInX (k d : PyData) : R PyData := match dictOf d with
  | some _ => dinD k d
  | none => vIn k d
noncomputable def vNotInX (k d : PyData) : R PyData := match dictOf d with
  | some _ => dninD k d
  | none => vNotIn k d
section
variable {X : Cx} {W : WX} {a b : Expr} {pos : Pos} {fa fb : PEnv → R PyData}
theorem rule_dg : Rule2 X W (rDG X.K) dgetD := fun d e x y σ H B Q s sm dx dy p => by
  unfold dgetD at p
  cases q : vdLook d e with
  | stuck => rw [q] at p; exact p.elim
  | err c => exact absurd q (by unfold vdLook; split <;> (try split) <;> exact fun h => nomatch h)
  | ok o =>
    rw [q] at p
    obtain ⟨a, ov, rfl, g, r⟩ := look_core s dx dy q
    cases o with
    | none => exact p.elim
    | some d' =>
      cases ov with
      | none => exact r.elim
      | some v => exact ⟨a, v, rfl, g, p v H B (.refl s) r⟩
theorem rule_din : Rule2 X W (rDIn X.K) dinD := fun d e x y σ H B Q s sm dx dy p => by
  unfold dinD at p
  cases q : vdLook e d with
  | stuck => rw [q] at p; exact p.elim
  | err c => exact absurd q (by unfold vdLook; split <;> (try split) <;> exact fun h => nomatch h)
  | ok o =>
    rw [q] at p
    obtain ⟨a, ov, rfl, g, r⟩ := look_core s dy dx q
    refine ⟨a, ov, rfl, g, ?_⟩
    have : ov.isSome = o.isSome := by cases ov <;> cases o <;> first | rfl | exact r.elim
    rw [this]
    exact p _ H B (.refl s) (.bl _)
theorem rule_dnin : Rule2 X W (rDNin X.K) dninD := fun d e x y σ H B Q s sm dx dy p => by
  unfold dninD at p
  cases q : vdLook e d with
  | stuck => rw [q] at p; exact p.elim
  | err c => exact absurd q (by unfold vdLook; split <;> (try split) <;> exact fun h => nomatch h)
  | ok o =>
    rw [q] at p
    obtain ⟨a, ov, rfl, g, r⟩ := look_core s dy dx q
    refine ⟨a, ov, rfl, g, ?_⟩
    have : ov.isSome = o.isSome := by cases ov <;> cases o <;> first | rfl | exact r.elim
    rw [this]
    exact p _ H B (.refl s) (.bl _)

theorem ix_dg (hu : X.A.units + 1 < cLine) : IxR X (rDG X.K) := by
  intro value slice pins s σ H x y v u Q I rx ry h hs
  obtain ⟨p, r, rfl, g, q⟩ := h
  obtain rfl : v = Value.ref p := rx
  exact tail_any (isD_at I g.is).1 PySem.F.slot_dict_getitem.lookup (dg_getItem hu I g ry fun w' s3 I3 rw' => ⟨r, H, I3, rw', q⟩) hs
theorem rule_or1 {r1 r2 : R2} {g1 g2 : PyData → PyData → R PyData} (c : PyData → Bool) (h1 : Rule2 X W r1 g1) (h2 : Rule2 X W r2 g2) {g : PyData → PyData → R PyData} (hg : ∀ d k, g d k = if c d = true then g2 d k else g1 d k) : Rule2 X W (fun x y H Q => r1 x y H Q ∨ r2 x y H Q) g := fun d e x y σ H B Q s sm dx dy p => by
  rw [hg] at p
  by_cases q : c d = true
  · rw [if_pos q] at p; exact .inr (h2 d e x y σ H B Q s sm dx dy p)
  · rw [if_neg q] at p; exact .inl (h1 d e x y σ H B Q s sm dx dy p)
theorem rule_or2 {r1 r2 : R2} {g1 g2 : PyData → PyData → R PyData} (c : PyData → Bool) (h1 : Rule2 X W r1 g1) (h2 : Rule2 X W r2 g2) {g : PyData → PyData → R PyData} (hg : ∀ d k, g d k = if c k = true then g2 d k else g1 d k) : Rule2 X W (fun x y H Q => r1 x y H Q ∨ r2 x y H Q) g := fun d e x y σ H B Q s sm dx dy p => by
  rw [hg] at p
  by_cases q : c e = true
  · rw [if_pos q] at p; exact .inr (h2 d e x y σ H B Q s sm dx dy p)
  · rw [if_neg q] at p; exact .inl (h1 d e x y σ H B Q s sm dx dy p)
theorem vix_if (d k : PyData) : vix d k = if (dictOf d).isSome = true then dgetD d k else vidx d k := by unfold vix; cases dictOf d <;> simp
theorem vInX_if (k d : PyData) : vInX k d = if (dictOf d).isSome = true then dinD k d else vIn k d := by unfold vInX; cases dictOf d <;> simp
theorem vNotInX_if (k d : PyData) : vNotInX k d = if (dictOf d).isSome = true then dninD k d else vNotIn k d := by unfold vNotInX; cases dictOf d <;> simp
theorem vix_ (hu : X.A.units + 65 < cLine) (ha : VE X W a fa) (hb : VE X W b fb) (hs : PlainIx b := by exact fun _ _ => rfl) : VE X W (.Subscript a b pos) (v2 vix fa fb) :=
  ve2 (fun p q => pe_ix (ix_seq.or (ix_dg (by omega))) p q hs) (rule_or1 (fun d => (dictOf d).isSome) rule_idx rule_dg vix_if) ha hb
theorem dinD_bool : ∀ d k z, dinD d k = .ok z → ∃ b, z = .bool b := fun d k z h => by
  unfold dinD at h
  cases q : vdLook k d with
  | stuck => rw [q] at h; cases h
  | err c => rw [q] at h; cases h
  | ok o => rw [q] at h; injection h with h; exact ⟨_, h.symm⟩
theorem dninD_bool : ∀ d k z, dninD d k = .ok z → ∃ b, z = .bool b := fun d k z h => by
  unfold dninD at h
  cases q : vdLook k d with
  | stuck => rw [q] at h; cases h
  | err c => rw [q] at h; cases h
  | ok o => rw [q] at h; injection h with h; exact ⟨_, h.symm⟩
theorem vInX_bool : ∀ d k z, vInX d k = .ok z → ∃ b, z = .bool b := fun d k z h => by
  rw [vInX_if] at h
  split at h
  · exact dinD_bool _ _ _ h
  · unfold vIn at h
    generalize vin d k = r at h
    cases r <;> first | (cases h; done) | (cases h; exact ⟨_, rfl⟩)
theorem vNotInX_bool : ∀ d k z, vNotInX d k = .ok z → ∃ b, z = .bool b := fun d k z h => by
  rw [vNotInX_if] at h
  split at h
  · exact dninD_bool _ _ _ h
  · unfold vNotIn at h
    generalize vin d k = r at h
    cases r <;> first | (cases h; done) | (cases h; exact ⟨_, rfl⟩)
theorem winX (hu : X.A.units + 65 < cLine) (ha : VE X W a fa) (hb : VE X W b fb) (hm : behindInMarks .In b = false := by with_unfolding_all rfl) : VE X W (.Compare a [.In] [b] pos) (v2 vInX fa fb) :=
  ve2 (fun p q => pe_cmpR ((op_inD hu).or (op_dgin (by omega))) p q hm) (rule_or2 (fun d => (dictOf d).isSome) rule_in rule_din vInX_if) ha hb
theorem wnotinX (hu : X.A.units + 65 < cLine) (ha : VE X W a fa) (hb : VE X W b fb) (hm : behindInMarks .NotIn b = false := by with_unfolding_all rfl) : VE X W (.Compare a [.NotIn] [b] pos) (v2 vNotInX fa fb) :=
  ve2 (fun p q => pe_cmpR ((op_notInD hu).or (op_dgnin (by omega))) p q hm) (rule_or2 (fun d => (dictOf d).isSome) rule_notin rule_dnin vNotInX_if) ha hb
theorem qinX (hu : X.A.units + 65 < cLine) (ha : VE X W a fa) (hb : VE X W b fb) (hm : behindInMarks .In b = false := by with_unfolding_all rfl) : VT X W (.Compare a [.In] [b] pos) (tst (v2 vInX fa fb)) :=
  vt2 (fun p q => pt_cmpR ((op_inD hu).or (op_dgin (by omega))) p q hm) (rule_or2 (fun d => (dictOf d).isSome) rule_in rule_din vInX_if) vInX_bool ha hb
theorem qnotinX (hu : X.A.units + 65 < cLine) (ha : VE X W a fa) (hb : VE X W b fb) (hm : behindInMarks .NotIn b = false := by with_unfolding_all rfl) : VT X W (.Compare a [.NotIn] [b] pos) (tst (v2 vNotInX fa fb)) :=
  vt2 (fun p q => pt_cmpR ((op_notInD hu).or (op_dgnin (by omega))) p q hm) (rule_or2 (fun d => (dictOf d).isSome) rule_notin rule_dnin vNotInX_if) vNotInX_bool ha hb
end
end VL

namespace VL
open PySem PySem.Spec PyProof.Rows L2
/-! ### d.get(k), d.get(k, x) -/
section
variable {X : Cx} {o e f : Expr} {apos cpos : Pos} {td ty tx : TE}
def tDG1 (K : PySem.W.Frag) (td ty : TE) : TE := fun σ H Q => td σ H fun x H1 => ∃ a, x = .ref a ∧ IsD H1 a ∧ ty σ H1 fun y H2 => ∃ o, DG K H2 a y o ∧ Q (o.getD .non) H2
def tDG2 (K : PySem.W.Frag) (td ty tx : TE) : TE := fun σ H Q => td σ H fun x H1 => ∃ a, x = .ref a ∧ IsD H1 a ∧ ty σ H1 fun y H2 => tx σ H2 fun z H3 => ∃ o, DG K H3 a y o ∧ Q (o.getD z) H3
theorem pe_dg1 (hu : X.A.units + 1 < cLine) (ho : PE X o td) (he : PE X e ty) (m : M1 X o "get" apos e cpos) : PE X (.Call (.Attribute o "get" apos) [e] [] cpos) (tDG1 X.K td ty) := by
  refine ⟨fun pins s σ H Q I h => ?_⟩
  refine wpAny_Call_method m.base m.few m.line PySem.F.plainAttrs_dict PySem.F.slot_dict_get PySem.F.type_dict_get (thn (ho.run pins s σ H _ I h) fun u s1 ⟨x, H1, I1, rx, a, ex, d, q1⟩ => ?_)
  subst ex
  obtain rfl : u = Value.ref a := rx
  obtain ⟨t1, t2, _⟩ := isD_at I1 d
  refine ⟨t1, t2, ?_⟩
  rw [m.trees]
  refine Calls.callWith_builtin rfl (Calls.evalArgs_plain (Calls.spliced_cons (thn (he.run pins s1 σ H1 _ I1 q1) fun iv s2 ⟨y, H2, I2, ry, ov, g, q2⟩ => Calls.spliced_nil ?_)))
  exact dg_get1 hu I2 g ry fun w' s3 I3 rw' => ⟨_, H2, I3, rw', q2⟩
theorem pe_dg2 (hu : X.A.units + 1 < cLine) (ho : PE X o td) (he : PE X e ty) (hf : PE X f tx) (m : M2 X o "get" apos e f cpos) : PE X (.Call (.Attribute o "get" apos) [e, f] [] cpos) (tDG2 X.K td ty tx) := by
  refine ⟨fun pins s σ H Q I h => ?_⟩
  refine wpAny_Call_method m.base m.few m.line PySem.F.plainAttrs_dict PySem.F.slot_dict_get PySem.F.type_dict_get (thn (ho.run pins s σ H _ I h) fun u s1 ⟨x, H1, I1, rx, a, ex, d, q1⟩ => ?_)
  subst ex
  obtain rfl : u = Value.ref a := rx
  obtain ⟨t1, t2, _⟩ := isD_at I1 d
  refine ⟨t1, t2, ?_⟩
  rw [m.trees]
  refine Calls.callWith_builtin rfl (Calls.evalArgs_plain (Calls.spliced_cons (thn (he.run pins s1 σ H1 _ I1 q1) fun iv s2 ⟨y, H2, I2, ry, q2⟩ =>
    Calls.spliced_cons (thn (hf.run pins s2 σ H2 _ I2 q2) fun fv s3 ⟨z, H3, I3, rz, ov, g, q3⟩ => Calls.spliced_nil ?_))))
  exact dg_get2 hu I3 g ry rz fun w' s4 I4 rw' => ⟨_, H3, I4, rw', q3⟩
end
def isDc (d : PyData) : R PyData := match dictOf d with
  | some _ => .ok d
  | none => .stuck
noncomputable def vget1 (fa fb : PEnv → R PyData) : PEnv → R PyData := fun ρ => (fa ρ).bind fun d => (isDc d).bind fun d => (fb ρ).bind fun k => (vdLook d k).bind fun o => .ok (o.getD .none)
noncomputable def vget2 (fa fb fc : PEnv → R PyData) : PEnv → R PyData := fun ρ => (fa ρ).bind fun d => (isDc d).bind fun d => (fb ρ).bind fun k => (fc ρ).bind fun x => (vdLook d k).bind fun o => .ok (o.getD x)
theorem isDc_is {K : PySem.W.Frag} {B H : Hp} {x : V} {d d' : PyData} (s : Same B H) (hx : Is K B x d) (h : isDc d = .ok d') : d' = d ∧ ∃ a, x = .ref a ∧ IsD H a := by
  unfold isDc at h
  split at h
  · rename_i p e
    obtain ⟨t, kvs⟩ := p
    have ed := dictOf_some e
    injection h with h
    subst h
    refine ⟨rfl, ?_⟩
    subst ed
    cases hx with
    | @dct a ks vs ds hr hl ha =>
      refine ⟨a, rfl, ?_⟩
      cases ks with
      | inl ks => exact .inl ⟨_, Rd.mono s hr⟩
      | inr ks => exact .inr ⟨_, Rd.mono s hr⟩
  · cases h
theorem isDc_ne {d : PyData} {c : Str} : isDc d ≠ .err c := by unfold isDc; split <;> exact fun h => nomatch h
theorem vdLook_ne {d k : PyData} {c : Str} : vdLook d k ≠ .err c := by unfold vdLook; split <;> (try split) <;> exact fun h => nomatch h
theorem RelD.getD {K : PySem.W.Frag} {B : Hp} {ov : Option V} {o : Option PyData} {v : V} {d : PyData} (h : RelD K B ov o) (hd : Is K B v d) : Is K B (ov.getD v) (o.getD d) := by
  cases ov <;> cases o <;> first | exact hd | exact h | exact h.elim
section
variable {X : Cx} {W : WX} {a b c : Expr} {pos apos cpos : Pos} {fa fb fc : PEnv → R PyData}
theorem vget1_ (hu : X.A.units + 65 < cLine) (ha : VE X W a fa) (hb : VE X W b fb)
    (hbase : attributeBase a "get" X.env (eval a X.env) = eval a X.env := by rfl)
    (hfew : ((backTo cpos (starEach [b] X.env)).all (fun x => !x.1) && (backToKw cpos (keywordEach [] X.env)).all (fun x => x.1.isSome)
      && decide (([b] : List Expr).length + ([] : List Keyword).length + (if ([] : List Keyword).isEmpty then 0 else 1) < 30)) = true := by rfl)
    (hline : (apos.endLine == cpos.line) = true := by rfl) (htr : backTo cpos (starEach [b] X.env) = [(false, eval b X.env)] := by rfl) : VE X W (.Call (.Attribute a "get" apos) [b] [] cpos) (vget1 fa fb) := by
  obtain ⟨ta, pa, qa⟩ := ha.ex
  obtain ⟨tb, pb, qb⟩ := hb.ex
  refine VE.mk' (pe_dg1 (by omega) pa pb ⟨hbase, hfew, hline, htr⟩) fun σ H B ρ Q s rf pr => ?_
  unfold vget1 at pr
  refine qa σ H B ρ _ s rf ?_
  generalize fa ρ = ra at pr ⊢
  cases ra with
  | stuck => exact pr
  | err c => exact pr
  | ok d =>
    intro x H1 B1 e1 sm1 d1
    simp only [R.bind_ok] at pr
    cases hi : isDc d with
    | stuck => rw [hi] at pr; exact pr.elim
    | err c => exact absurd hi isDc_ne
    | ok d' =>
      obtain ⟨rfl, a, rfl, hD⟩ := isDc_is e1.bh d1 hi
      rw [hi] at pr
      simp only [R.bind_ok] at pr
      refine ⟨a, rfl, hD, ?_⟩
      refine qb σ H1 B1 ρ _ e1.bh (rf.mono e1.bb) ?_
      generalize fb ρ = rb at pr ⊢
      cases rb with
      | stuck => exact pr
      | err c => exact fun H' z => pr H' (e1.hh.trans z)
      | ok k =>
        intro y H2 B2 e2 sm2 d2
        simp only [R.bind_ok] at pr
        have E := e1.trans e2
        cases hl : vdLook d' k with
        | stuck => rw [hl] at pr; exact pr.elim
        | err c => exact absurd hl vdLook_ne
        | ok o =>
          rw [hl] at pr
          obtain ⟨a2, ov, ex, g, r⟩ := look_core e2.bh (Is.mono e2.bb d1) d2 hl
          cases ex
          exact ⟨ov, g, pr _ _ _ E (r.getD .non)⟩
theorem vget2_ (hu : X.A.units + 65 < cLine) (ha : VE X W a fa) (hb : VE X W b fb) (hc : VE X W c fc)
    (hbase : attributeBase a "get" X.env (eval a X.env) = eval a X.env := by rfl)
    (hfew : ((backTo cpos (starEach [b, c] X.env)).all (fun x => !x.1) && (backToKw cpos (keywordEach [] X.env)).all (fun x => x.1.isSome)
      && decide (([b, c] : List Expr).length + ([] : List Keyword).length + (if ([] : List Keyword).isEmpty then 0 else 1) < 30)) = true := by rfl)
    (hline : (apos.endLine == cpos.line) = true := by rfl) (htr : backTo cpos (starEach [b, c] X.env) = [(false, eval b X.env), (false, eval c X.env)] := by rfl) : VE X W (.Call (.Attribute a "get" apos) [b, c] [] cpos) (vget2 fa fb fc) := by
  obtain ⟨ta, pa, qa⟩ := ha.ex
  obtain ⟨tb, pb, qb⟩ := hb.ex
  obtain ⟨tc, pc, qc⟩ := hc.ex
  refine VE.mk' (pe_dg2 (by omega) pa pb pc ⟨hbase, hfew, hline, htr⟩) fun σ H B ρ Q s rf pr => ?_
  unfold vget2 at pr
  refine qa σ H B ρ _ s rf ?_
  generalize fa ρ = ra at pr ⊢
  cases ra with
  | stuck => exact pr
  | err c => exact pr
  | ok d =>
    intro x H1 B1 e1 sm1 d1
    simp only [R.bind_ok] at pr
    cases hi : isDc d with
    | stuck => rw [hi] at pr; exact pr.elim
    | err c => exact absurd hi isDc_ne
    | ok d' =>
      obtain ⟨rfl, a, rfl, hD⟩ := isDc_is e1.bh d1 hi
      rw [hi] at pr
      simp only [R.bind_ok] at pr
      refine ⟨a, rfl, hD, ?_⟩
      refine qb σ H1 B1 ρ _ e1.bh (rf.mono e1.bb) ?_
      generalize fb ρ = rb at pr ⊢
      cases rb with
      | stuck => exact pr
      | err c => exact fun H' z => pr H' (e1.hh.trans z)
      | ok k =>
        intro y H2 B2 e2 sm2 d2
        simp only [R.bind_ok] at pr
        have E := e1.trans e2
        refine qc σ H2 B2 ρ _ E.bh (rf.mono E.bb) ?_
        generalize fc ρ = rc at pr ⊢
        cases rc with
        | stuck => exact pr
        | err c => exact fun H' z => pr H' (E.hh.trans z)
        | ok x =>
          intro z H3 B3 e3 sm3 d3
          simp only [R.bind_ok] at pr
          have E3 := E.trans e3
          cases hl : vdLook d' k with
          | stuck => rw [hl] at pr; exact pr.elim
          | err c => exact absurd hl vdLook_ne
          | ok o =>
            rw [hl] at pr
            obtain ⟨a2, ov, ex, g, r⟩ := look_core e3.bh (Is.mono (e2.trans e3).bb d1) (Is.mono e3.bb d2) hl
            cases ex
            exact ⟨ov, g, pr _ _ _ E3 (r.getD d3)⟩
end
end VL

namespace VL
open PySem PySem.Spec PyProof.Rows L2
/-! ### dicts of one's own -/
theorem putK_old {κ : Type} [DecidableEq κ] {k : κ} {v : V} : ∀ {ks : List κ} {vs : List V} {n : Nat}, ks.Nodup → ks.length = vs.length → ks[n]? = some k → (ks.zip vs).map (fun kv => if kv.1 = k then (kv.1, v) else kv) = ks.zip (vs.set n v)
  | [], vs, n, _, _, h => by simp at h
  | j :: ks, [], n, _, hl, _ => by cases hl
  | j :: ks, u :: vs, 0, nd, hl, h => by
    simp at h
    subst h
    have nd' := List.nodup_cons.mp nd
    simp only [List.zip_cons_cons, List.map_cons, if_true, List.set_cons_zero]
    congr 1
    have : ∀ kv ∈ ks.zip vs, (fun kv : κ × V => if kv.1 = j then (kv.1, v) else kv) kv = kv := fun kv hkv => by
      have : kv.1 ≠ j := fun e => nd'.1 (e ▸ (List.of_mem_zip hkv).1)
      simp [this]
    rw [List.map_congr_left this, List.map_id']
  | j :: ks, u :: vs, n + 1, nd, hl, h => by
    have nd' := List.nodup_cons.mp nd
    have h' : ks[n]? = some k := by simpa using h
    have : j ≠ k := fun e => nd'.1 (e ▸ List.mem_of_getElem? h')
    simp only [List.zip_cons_cons, List.map_cons, if_neg this, List.set_cons_succ]
    rw [putK_old nd'.2 (by simpa using hl) h']
theorem any_zip {κ : Type} [DecidableEq κ] {k : κ} : ∀ {ks : List κ} {vs : List V}, ks.length = vs.length → ((ks.zip vs).any fun kv => decide (kv.1 = k)) = decide (k ∈ ks)
  | [], [], _ => rfl
  | [], _ :: _, h => by cases h
  | _ :: _, [], h => by cases h
  | j :: ks, u :: vs, h => by
    rw [List.zip_cons_cons, List.any_cons, any_zip (by simpa using h), Bool.eq_iff_iff]
    simp only [Bool.or_eq_true, decide_eq_true_eq, List.mem_cons]
    exact ⟨fun z => z.imp Eq.symm id, fun z => z.imp Eq.symm id⟩
theorem putK_at {κ : Type} [DecidableEq κ] {ks : List κ} {vs : List V} {k : κ} {v : V} {n : Nat} (nd : ks.Nodup) (hl : ks.length = vs.length) (h : ks[n]? = some k) : putK (ks.zip vs) k v = ks.zip (vs.set n v) := by
  unfold putK
  rw [any_zip hl, decide_eq_true (List.mem_of_getElem? h), if_pos rfl]
  exact putK_old nd hl h
theorem putK_end {κ : Type} [DecidableEq κ] {ks : List κ} {vs : List V} {k : κ} {v : V} (hl : ks.length = vs.length) (h : k ∉ ks) : putK (ks.zip vs) k v = (ks ++ [k]).zip (vs ++ [v]) := by
  unfold putK
  rw [any_zip hl, decide_eq_false h]
  rw [List.zip_append hl]
  rfl
theorem RS.mutD {K : PySem.W.Frag} {F0 H0 F H : Hp} {σ : L2.St} {ρ : OEnv} {y : V} {oy : O} {i : Nat} {o : O} {ks : KS} {os : List O} {p : List Nat} (r : RS K F0 H0 F H (some y :: σ) (some oy :: ρ)) (ei : ρ[i]? = some (some o)) (ep : o.at p = some (.dct ks os)) :
    ∃ v a vs, σ[i]? = some (some v) ∧ Pth K F H v o p (.ref a) ∧ H a = some (hoD ks vs) ∧ vs.length = os.length ∧ ks.len = vs.length ∧ ks.nd ∧
      ∀ {ks2 : KS} {tv : List V → V → List V} {to : List O → O → List O}, Chg tv to → ks2.len = (tv vs y).length → ks2.nd → RS K F0 H0 F (upd H a (hoD ks2 (tv vs y))) σ (ρ.set i (some (o.put p (.dct ks2 (to os oy))))) := by
  obtain ⟨v, v', f1, fy, e1, e2, e3, e4, nd, fn, fh, back⟩ := r.place ei ep
  cases e3 with
  | @dct a _ vs _ fi ha hkl hl =>
    refine ⟨v, a, vs, e1, e2, ha, hl.len, hkl.1, hkl.2, fun {ks2 tv to} c l2 n2 => back F _ _ ?_⟩
    have nd2 := List.nodup_append.mp nd
    have na_y : a ∉ fy := fun m => nd2.2.2 a m a List.mem_cons_self rfl
    have na_i : a ∉ fi := (List.nodup_cons.mp nd2.2.1).1
    have hk : ∀ b, b ≠ a → upd H a (hoD ks2 (tv vs y)) b = H b := fun b hb => upd_ne hb
    have o1 : Own K F (upd H a (hoD ks2 (tv vs y))) y oy fy := e4.keep (Same.refl F) fun b hb => hk b fun e => na_y (e ▸ hb)
    have l1 : OwnL K F (upd H a (hoD ks2 (tv vs y))) vs os fi := hl.keep (Same.refl F) fun b hb => hk b fun e => na_i (e ▸ hb)
    obtain ⟨fp', z1, fp'', z2, z3⟩ := c.own l1 o1
    have sub : ∀ b ∈ fp', b ∈ fi ++ fy := fun b hb => z3.subset (z2.mem_iff.mp hb)
    have ndf : (fi ++ fy).Nodup := List.nodup_append.mpr ⟨(List.nodup_cons.mp nd2.2.1).2, nd2.1, fun x hx w hw e => nd2.2.2 w hw x (List.mem_cons_of_mem _ hx) e.symm⟩
    refine RV.cell (fi := fp') fh nd fn (List.mem_append_right _ List.mem_cons_self) (fun b hb => ?_) (fun m => ?_) (z2.nodup_iff.mpr (ndf.sublist z3)) (.dct upd_same ⟨l2, n2⟩ z1)
    · rcases List.mem_append.mp (sub b hb) with q | q
      · exact List.mem_append_right _ (List.mem_cons_of_mem _ q)
      · exact List.mem_append_left _ q
    · rcases List.mem_append.mp (sub a m) with q | q
      · exact na_i q
      · exact na_y q
/-! ### x[k] = e, of dicts -/
def keysOf : List PyData → Option (List L2.Key)
  | [] => some []
  | .int i :: ds => (keysOf ds).map (.inl i :: ·)
  | .str x :: ds => (keysOf ds).map (.inr x :: ·)
  | _ :: _ => none
theorem keysOf_some : ∀ {ds : List PyData} {k : List L2.Key}, keysOf ds = some k → ds = k.map keyD
  | [], k, h => by injection h with h; subst h; rfl
  | .int i :: ds, k, h => by
    unfold keysOf at h
    obtain ⟨j, e, rfl⟩ := Option.map_eq_some_iff.mp h
    rw [keysOf_some e]; rfl
  | .str i :: ds, k, h => by
    unfold keysOf at h
    obtain ⟨j, e, rfl⟩ := Option.map_eq_some_iff.mp h
    rw [keysOf_some e]; rfl
  | .none :: ds, k, h => by cases h
  | .bool _ :: ds, k, h => by cases h
  | .list _ :: ds, k, h => by cases h
  | .tuple _ :: ds, k, h => by cases h
  | .dict _ :: ds, k, h => by cases h
def putAt {κ : Type} [DecidableEq κ] (ks : List κ) (os : List O) (j : κ) (y : O) : List κ × List O := match ks.findIdx? (fun x => decide (x = j)) with
  | some n => (ks, os.set n y)
  | none => (ks ++ [j], os ++ [y])
/-- cs: the flat tuples that are kept from the start -/
def oPut (cs : List (List L2.Key)) (ks : KS) (os : List O) (k : PyData) (y : O) : Option (KS × List O) := match ks, k with
  | .inl ks, .int i => if ks.length < sizeLine then some (.inl (putAt ks os (.inl i) y).1, (putAt ks os (.inl i) y).2) else none
  | .inl ks, .str i => if ks.length < sizeLine then some (.inl (putAt ks os (.inr i) y).1, (putAt ks os (.inr i) y).2) else none
  | .inr ks, .tuple ds => (match keysOf ds with
    | some j => if ks.length < sizeLine ∧ (cs.all fun c => decide (c ≠ j)) = true then some (.inr (putAt ks os j y).1, (putAt ks os j y).2) else none
    | none => none)
  | _, _ => none
/-- no kept tuple is a key but those of cs -/
def KNo (K : PySem.W.Frag) (cs : List (List L2.Key)) : Prop := ∀ (a : Addr) (o : Obj) (its : Array Value) (n : Nat) (k : List L2.Key), K.lookup a = some o → o.cls = .type "tuple" → o.data = .seq its n → Vals (k.map kV) its.toList → k ∈ cs
theorem putAt_core {κ : Type} [DecidableEq κ] {ks : List κ} {vs : List V} {os : List O} {j : κ} {y : V} {oy : O} (nd : ks.Nodup) (hl : ks.length = vs.length) :
    ∃ (ks2 : List κ) (tv : List V → V → List V) (to : List O → O → List O), Chg tv to ∧ putAt ks os j oy = (ks2, to os oy) ∧ ks2.Nodup ∧ ks2.length = (tv vs y).length ∧ putK (ks.zip vs) j y = ks2.zip (tv vs y) := by
  unfold putAt
  cases e : ks.findIdx? (fun x => decide (x = j)) with
  | some n =>
    obtain ⟨hn, h1, _⟩ := List.findIdx?_eq_some_iff_getElem.mp e
    have h2 : ks[n]? = some j := by rw [List.getElem?_eq_getElem hn]; exact congrArg some (of_decide_eq_true h1)
    exact ⟨ks, _, _, chg_set n, rfl, nd, by rw [List.length_set]; exact hl, putK_at nd hl h2⟩
  | none =>
    have hm : j ∉ ks := fun m => by
      have := List.findIdx?_eq_none_iff.mp e j m
      simp at this
    refine ⟨ks ++ [j], _, _, chg_app, rfl, ?_, by simp [hl], putK_end hl hm⟩
    rw [List.nodup_append]
    exact ⟨nd, by simp, fun a ha b hb q => hm (by rw [List.mem_singleton.mp hb] at q; exact q ▸ ha)⟩
theorem oPut_core {K : PySem.W.Frag} {cs : List (List L2.Key)} (hK : KNo K cs) {F H : Hp} {a : Addr} {ks ks' : KS} {vs : List V} {os os' : List O} {kd : PyData} {kv y : V} {oy : O} (fh : Same F H) (ha : H a = some (hoD ks vs)) (hl : ks.len = vs.length) (nd : ks.nd) (hk : Is K F kv kd) (h : oPut cs ks os kd oy = some (ks', os')) :
    ∃ (tv : List V → V → List V) (to : List O → O → List O), Chg tv to ∧ to os oy = os' ∧ ks'.nd ∧ ks'.len = (tv vs y).length ∧ DPut H a kv y (upd H a (hoD ks' (tv vs y))) := by
  unfold oPut at h
  cases ks with
  | inl ks =>
    have done : ∀ j : L2.Key, kv = kV j → (if ks.length < sizeLine then some ((Sum.inl (putAt ks os j oy).1 : KS), (putAt ks os j oy).2) else none) = some (ks', os') → ∃ (tv : List V → V → List V) (to : List O → O → List O), Chg tv to ∧ to os oy = os' ∧ ks'.nd ∧ ks'.len = (tv vs y).length ∧ DPut H a kv y (upd H a (hoD ks' (tv vs y))) := fun j ej h => by
      split at h
      · rename_i hz
        obtain ⟨ks2, tv, to, c, e1, e2, e3, e4⟩ := putAt_core (os := os) (j := j) (y := y) (oy := oy) nd hl
        rw [e1] at h
        injection h with h
        injection h with h1 h2
        subst h1 h2
        refine ⟨tv, to, c, rfl, e2, e3, .inl ⟨_, j, ha, ej, ?_, ?_⟩⟩
        · rw [List.length_zip]; omega
        · rw [e4]; rfl
      · cases h
    cases kd with
    | int i => exact done (.inl i) (is_key (k := .inl i) hk) h
    | str i => exact done (.inr i) (is_key (k := .inr i) hk) h
    | _ => cases h
  | inr ks =>
    cases kd with
    | tuple ds =>
      simp only at h
      cases hj : keysOf ds with
      | none => rw [hj] at h; cases h
      | some j =>
        rw [hj] at h
        simp only at h
        split at h
        · rename_i hz
          have := keysOf_some hj
          subst this
          cases hk with
          | @tup b xs _ ht hxs =>
            have e5 := isAll_keys hxs
            subst e5
            have hb : H b = some (.tup (j.map kV)) := by
              rcases ht with q | ⟨o, its, n, q1, q2, q3, q4, q5⟩
              · exact fh _ _ q
              · exact absurd rfl (of_decide_eq_true (List.all_eq_true.mp hz.2 j (hK b o its n j q1 q2 q3 q5)))
            obtain ⟨ks2, tv, to, c, e1, e2, e3, e4⟩ := putAt_core (os := os) (j := j) (y := y) (oy := oy) nd hl
            rw [e1] at h
            injection h with h
            injection h with h1 h2
            subst h1 h2
            refine ⟨tv, to, c, rfl, e2, e3, .inr ⟨_, j, b, ha, rfl, hb, ?_, ?_⟩⟩
            · rw [List.length_zip]; omega
            · rw [e4]; rfl
        · cases h
    | _ => cases h
end VL

namespace VL
open PySem PySem.Spec PyProof.Rows L2
/-! ### {} and x[k] = e -/
def ks0 (t : Bool) : KS := if t then .inr [] else .inl []
def oDct (t : Bool) : OEnv → R (O × OEnv) := fun ρ => .ok (.dct (ks0 t) [], ρ)
abbrev oDctL (_ : Nat) (t : Bool) : OEnv → R (O × OEnv) := oDct t
def tDNew (t : Bool) : TE := fun _ H Q => ∀ p, H p = none → Q (.ref p) (upd H p (hoD (ks0 t) []))
section
variable {X : Cx} {W : WX} {a b c e oe : Expr} {st : Stmt} {pos p2 : Pos} {hk : OEnv → R PyData} {hp : OEnv → R (Nat × List Nat)} {ho : OEnv → R (O × OEnv)}
theorem pe_dnew (t : Bool) : PE X (.Dict [] [] pos) (tDNew t) := by
  cases t
  · exact pe_dnewK
  · exact pe_dnewT
theorem voq_dct (t : Bool) : VOq X W (.Dict [] [] pos) (oDct t) := by
  refine ⟨_, pe_dnew t, fun σ H F0 H0 F ρ Q r pr => ?_⟩
  obtain ⟨fps, s, hs⟩ := r.ex
  intro pa hn
  have e : Same H (upd H pa (hoD (ks0 t) [])) := fun b u z => by
    have hb : b ≠ pa := fun q => by rw [q, hn] at z; cases z
    rw [upd_ne hb]; exact z
  have ex : Ext F H F (upd H pa (hoD (ks0 t) [])) := ⟨e, Same.refl F, hs.fh.trans e, fun a x y => absurd x y⟩
  have hs' := hs.ext ex s.lstAt
  have s' : Slots X.K F (upd H pa (hoD (ks0 t) [])) σ ρ fps := s.keep ex.bb fun a ha => by
    obtain ⟨us, z, _⟩ := s.lstAt a ha
    rw [z]; exact ex.hh _ _ z
  have bn : F pa = none := Same.free hs.fh hn
  refine pr (.ref pa) _ F e (Same.refl F) ⟨[pa] ++ fps, .ow (.dct upd_same (by cases t <;> exact ⟨rfl, List.nodup_nil⟩) .nil) s', ?_, ?_, hs'.fh, hs'.f0, hs'.h0, hs'.nw⟩
  · refine List.nodup_cons.mpr ⟨fun hm => ?_, hs'.nd⟩
    obtain ⟨us, z, _⟩ := s.lstAt pa hm
    rw [hn] at z; cases z
  · intro a ha
    rcases List.mem_cons.mp ha with e | e
    · subst e; exact ⟨bn, Same.free hs.h0 hn⟩
    · exact hs'.ow a e
theorem vo_dct (t : Bool) : VO X W (.Dict [] [] pos) (oDct t) := (voq_dct t).vo
def sDPut (cs : List (List L2.Key)) (hp : OEnv → R (Nat × List Nat)) (hk : OEnv → R PyData) (h : OEnv → R (O × OEnv)) : OEnv → SR := fun ρ => (h ρ).sr ρ fun p => (hp p.2).sr p.2 fun ip => match p.2[ip.1]? with
  | some (some o) => (match o.at ip.2 with
    | some (.dct ks os) => (hk p.2).sr p.2 fun d => (match oPut cs ks os d p.1 with
      | some (ks', os') => .nx (p.2.set ip.1 (some (o.put ip.2 (.dct ks' os'))))
      | none => .stuck)
    | _ => .stuck)
  | _ => .stuck
theorem vs_dput {cs : List (List L2.Key)} (hK : KNo X.K cs) (hu : X.A.units + 65 < cLine) (h1 : VPl X W oe hp) (h2 : VX X W b hk) (h3 : VO X W e ho) (hs : swapsWith e (some (.Subscript oe b p2)) pos.line X.env = pure false := by rfl) :
    VS X W (.Assign [.Subscript oe b p2] e pos) (sDPut cs hp hk ho) := by
  obtain ⟨t1, p1, q1⟩ := h1.go
  obtain ⟨t2, pk, qk⟩ := h2.ex
  obtain ⟨t3, p3, q3⟩ := h3.ex
  refine ⟨_, ps_dput (by omega) p1 pk p3 hs, fun D σ H F0 H0 F ρ rs pr => ?_⟩
  unfold sDPut at pr
  refine q3 σ H F0 H0 F ρ _ rs (sr_pst rs pr fun py po y H1 F1 ry => ?_)
  have rt := ry.tail
  refine q1 σ H1 F0 H0 F1 py.2 _ _ D rt po (fun ip o v o' e1 ev e2 po v' H2 F2 ex pt => ?_) (fun ip po => ?_)
  · rw [e1] at po
    simp only [e2] at po
    cases o' with
    | dct ks os =>
      simp only at po
      have rt2 := rt.ext ex
      refine qk σ H2 F0 H0 F2 py.2 _ rt2 (sr_pst rt2 po fun d pd => ?_)
      intro iv H3 F3 ex3 di
      cases hix : oPut cs ks os d py.1 with
      | none => rw [hix] at pd; exact pd.elim
      | some kk =>
        obtain ⟨ks', os'⟩ := kk
        rw [hix] at pd
        obtain ⟨v3, a3, vs3, k1, k2, k3, k4, k5, k6, k7⟩ := ((ry.ext ex).ext ex3).mutD e1 e2
        have k1' : σ[ip.1]? = some (some v3) := k1
        rw [ev] at k1'; cases k1'
        have ea := (pt.mono ex3.hh ex3.bb).det k2
        subst ea
        obtain ⟨fps, _, hs3⟩ := ((ry.ext ex).ext ex3).ex
        obtain ⟨tv, to, c, e3, n2, l2, dp⟩ := oPut_core (y := y) hK hs3.fh k3 k5 k6 di hix
        subst e3
        exact ⟨a3, _, rfl, dp, pd _ _ _ (k7 c l2 n2)⟩
    | _ => exact po.elim
  · split at po
    · rename_i o eo
      split at po
      · rename_i ks os eo2; exact ⟨o, _, eo, eo2⟩
      · exact po.elim
    · exact po.elim
/-- one of two walks -/
theorem PS.or {t1 t2 : TS} (h1 : PS X st t1) (h2 : PS X st t2) : PS X st (fun D σ H => t1 D σ H ∨ t2 D σ H) := ⟨fun pins s σ H D I h => h.elim (h1.run pins s σ H D I) (h2.run pins s σ H D I)⟩
theorem vs_or {g g1 g2 : OEnv → SR} (h1 : VS X W st g1) (h2 : VS X W st g2) (hg : ∀ ρ, g ρ = g1 ρ ∨ g ρ = g2 ρ) : VS X W st g := by
  obtain ⟨t1, p1, q1⟩ := h1.ex
  obtain ⟨t2, p2, q2⟩ := h2.ex
  refine ⟨_, PS.or p1 p2, fun D σ H F0 H0 F ρ rs pr => ?_⟩
  rcases hg ρ with e | e
  · rw [e] at pr; exact .inl (q1 D σ H F0 H0 F ρ rs pr)
  · rw [e] at pr; exact .inr (q2 D σ H F0 H0 F ρ rs pr)
/-- is the place a dict -/
def atDct (hp : OEnv → R (Nat × List Nat)) (h : OEnv → R (O × OEnv)) (ρ : OEnv) : Bool := match h ρ with
  | .ok p => (match hp p.2 with
    | .ok ip => (match p.2[ip.1]? with
      | some (some o) => (match o.at ip.2 with
        | some (.dct _ _) => true
        | _ => false)
      | _ => false)
    | _ => false)
  | _ => false
def sSetX (cs : List (List L2.Key)) (hp : OEnv → R (Nat × List Nat)) (hk : OEnv → R PyData) (h : OEnv → R (O × OEnv)) : OEnv → SR := fun ρ => if atDct hp h ρ = true then sDPut cs hp hk h ρ else sSetP hp hk h ρ
theorem vs_setX {cs : List (List L2.Key)} (hK : KNo X.K cs) (hu : X.A.units + 65 < cLine) (mk : ∀ {te to tk : TE}, PE X e te → PE X oe to → PE X b tk → PS X (.Assign [.Subscript oe b p2] e pos) (tAsg te (gSub to tk rSetL))) (h1 : VPl X W oe hp) (h2 : VX X W b hk) (h3 : VO X W e ho) (hs : swapsWith e (some (.Subscript oe b p2)) pos.line X.env = pure false := by rfl) :
    VS X W (.Assign [.Subscript oe b p2] e pos) (sSetX cs hp hk ho) := vs_or (vs_dput hK hu h1 h2 h3 hs) (vs_setP mk h1 h2 h3) fun ρ => by
  unfold sSetX
  split
  · exact .inl rfl
  · exact .inr rfl
end
end VL

namespace VL
open PySem PySem.Spec PyProof.Rows L2
/-! ### the flat tuples that are kept from the start -/
def flatKey : Value → Option L2.Key
  | .int i _ => some (.inl i)
  | .str x _ => some (.inr x)
  | _ => none
def flatKeys : List Value → Option (List L2.Key)
  | [] => some []
  | v :: vs => match flatKey v, flatKeys vs with
    | some k, some ks => some (k :: ks)
    | _, _ => none
def tupOk (cs : List (List L2.Key)) (o : Obj) : Bool := match o.cls with
  | .type T => if T == "tuple" then (match o.data with
    | .seq its _ => (match flatKeys its.toList with
      | some k => cs.any fun c => decide (c = k)
      | none => true)
    | _ => true) else true
  | _ => true
def kTups (K : PySem.W.Frag) (cs : List (List L2.Key)) : Bool := K.all fun p => tupOk cs p.2
theorem flatKeys_of : ∀ {k : List L2.Key} {us : List Value}, Vals (k.map kV) us → flatKeys us = some k
  | [], _, h => by cases h; rfl
  | a :: k, _, h => by
    rw [List.map_cons] at h
    cases h with
    | @cons x u xs us r1 r2 =>
      have ih := flatKeys_of r2
      have e : flatKey u = some a := by
        cases a with
        | inl i => obtain ⟨t, rfl⟩ := r1; rfl
        | inr x => obtain ⟨t, rfl⟩ := r1; rfl
      simp only [flatKeys, e, ih]
theorem lookup_mem {K : PySem.W.Frag} {a : Addr} {o : Obj} (h : K.lookup a = some o) : ∃ b, (b, o) ∈ K := by
  induction K with
  | nil => cases h
  | cons p K ih =>
    obtain ⟨b, u⟩ := p
    rw [List.lookup_cons] at h
    split at h
    · injection h with h; subst h; exact ⟨b, List.mem_cons_self⟩
    · obtain ⟨c, hc⟩ := ih h; exact ⟨c, List.mem_cons_of_mem _ hc⟩
theorem kno_of {K : PySem.W.Frag} {cs : List (List L2.Key)} (h : kTups K cs = true) : KNo K cs := fun a o its n k hl hc hd hv => by
  obtain ⟨b, hb⟩ := lookup_mem hl
  have := List.all_eq_true.mp h _ hb
  unfold tupOk at this
  simp only [hc, hd, flatKeys_of hv] at this
  rw [if_pos (by decide)] at this
  obtain ⟨c, hc1, hc2⟩ := List.any_eq_true.mp this
  rw [← of_decide_eq_true hc2]; exact hc1
end VL

namespace VL
open PySem PySem.Spec PyProof.Rows L2
open Enc (e)
/-! ### typed dicts -/
class FlatE (α : Type) [Enc α] where
  k : α → L2.Key
  enc : ∀ a, e a = keyD (k a)
  inj : ∀ {a b}, k a = k b → a = b
instance : FlatE Int := ⟨.inl, fun _ => rfl, fun h => by injection h⟩
instance : FlatE Str := ⟨.inr, fun _ => rfl, fun h => by injection h⟩
class KeyE (κ : Type) [Enc κ] where
  kind : Bool
  k1 : κ → L2.Key
  k2 : κ → List L2.Key
  enc : ∀ a, e a = if kind = true then .tuple ((k2 a).map keyD) else keyD (k1 a)
  inj : ∀ {a b : κ}, e a = e b → a = b
section
variable {α β γ δ : Type} [Enc α] [Enc β] [Enc γ] [Enc δ]
theorem FlatE.einj [q : FlatE α] {a b : α} (h : e a = e b) : a = b := by
  rw [q.enc, q.enc] at h; exact q.inj (keyD_inj h)
instance [q : FlatE α] : KeyE α := ⟨false, q.k, fun _ => [], fun a => by rw [q.enc]; rfl, fun h => FlatE.einj h⟩
instance [q : FlatE α] [r : FlatE β] : KeyE (α × β) := ⟨true, fun _ => .inl 0, fun p => [q.k p.1, r.k p.2], fun p => by
  show PyData.tuple [e p.1, e p.2] = _
  rw [q.enc, r.enc]; rfl, fun {a b} h => by
  have h : PyData.tuple [e a.1, e a.2] = .tuple [e b.1, e b.2] := h
  injection h with h; injection h with h1 h; injection h with h2 h
  exact Prod.ext (FlatE.einj h1) (FlatE.einj h2)⟩
instance [q : FlatE α] [r : FlatE β] [s : FlatE γ] : KeyE (T3 α β γ) := ⟨true, fun _ => .inl 0, fun p => [q.k p.a, r.k p.b, s.k p.c], fun p => by
  show PyData.tuple [e p.a, e p.b, e p.c] = _
  rw [q.enc, r.enc, s.enc]; rfl, fun {a b} h => by
  have h : PyData.tuple [e a.a, e a.b, e a.c] = .tuple [e b.a, e b.b, e b.c] := h
  injection h with h; injection h with h1 h; injection h with h2 h; injection h with h3 h
  obtain ⟨a1, a2, a3⟩ := a
  obtain ⟨b1, b2, b3⟩ := b
  rw [T3.mk.injEq]
  exact ⟨FlatE.einj h1, FlatE.einj h2, FlatE.einj h3⟩⟩
instance [q : FlatE α] [r : FlatE β] [s : FlatE γ] [t : FlatE δ] : KeyE (T4 α β γ δ) := ⟨true, fun _ => .inl 0, fun p => [q.k p.a, r.k p.b, s.k p.c, t.k p.d], fun p => by
  show PyData.tuple [e p.a, e p.b, e p.c, e p.d] = _
  rw [q.enc, r.enc, s.enc, t.enc]; rfl, fun {a b} h => by
  have h : PyData.tuple [e a.a, e a.b, e a.c, e a.d] = .tuple [e b.a, e b.b, e b.c, e b.d] := h
  injection h with h; injection h with h1 h; injection h with h2 h; injection h with h3 h; injection h with h4 h
  obtain ⟨a1, a2, a3, a4⟩ := a
  obtain ⟨b1, b2, b3, b4⟩ := b
  rw [T4.mk.injEq]
  exact ⟨FlatE.einj h1, FlatE.einj h2, FlatE.einj h3, FlatE.einj h4⟩⟩
theorem map_einj [q : FlatE α] : ∀ {xs ys : List α}, xs.map e = ys.map e → xs = ys
  | [], [], _ => rfl
  | [], _ :: _, h => by simp at h
  | _ :: _, [], h => by simp at h
  | x :: xs, y :: ys, h => by
    rw [List.map_cons, List.map_cons] at h
    injection h with h1 h2
    rw [FlatE.einj h1, map_einj h2]
instance [q : FlatE α] : KeyE (Tup α) := ⟨true, fun _ => .inl 0, fun p => p.l.map q.k, fun p => by
  show PyData.tuple (p.l.map e) = .tuple ((p.l.map q.k).map keyD)
  rw [List.map_map]
  congr 1
  exact List.map_congr_left fun a _ => q.enc a, fun {a b} h => by
  have h : PyData.tuple (a.l.map e) = .tuple (b.l.map e) := h
  injection h with h
  obtain ⟨a⟩ := a
  obtain ⟨b⟩ := b
  rw [Tup.mk.injEq]
  exact map_einj h⟩
end
structure Dc (κ β : Type) where
  l : List (κ × β)
section
variable {κ β : Type} [Enc κ] [Enc β] [q : KeyE κ]
instance : Enc (Dc κ β) := ⟨fun d => .dict ((.none, .bool q.kind) :: d.l.map fun p => (e p.1, e p.2))⟩
noncomputable def Dc.get (d : Dc κ β) (k : κ) : Option β := match d with
  | ⟨l⟩ => go l k
where go : List (κ × β) → κ → Option β
  | [], _ => none
  | (j, v) :: r, k => @ite _ (j = k) (Classical.propDecidable _) (some v) (go r k)
theorem key_ok (k : κ) : keyOk q.kind (e k) = true := by
  rw [q.enc]
  by_cases h : q.kind = true
  · rw [if_pos h, h]
    simp only [keyOk, Bool.true_and, List.all_eq_true]
    intro x hx
    obtain ⟨a, _, rfl⟩ := List.mem_map.mp hx
    cases a <;> rfl
  · rw [if_neg h]
    cases q.k1 k <;> simp [keyD, keyOk, h]
theorem dLook_e (k : κ) : ∀ l : List (κ × β), dLook (l.map fun p => (e p.1, e p.2)) (e k) = (Dc.get.go l k).map e
  | [] => rfl
  | (j, v) :: r => by
    have ih := dLook_e k r
    unfold Dc.get.go
    rw [List.map_cons]
    unfold dLook
    by_cases h : j = k
    · rw [if_pos (congrArg e h), if_pos h]; rfl
    · rw [if_neg fun z => h (q.inj z), if_neg h]; exact ih
theorem vdLook_e (d : Dc κ β) (k : κ) : vdLook (e d) (e k) = .ok ((d.get k).map e) := by
  show (if keyOk q.kind (e k) = true then R.ok (dLook _ _) else .stuck) = _
  rw [if_pos (key_ok k), dLook_e]; rfl
noncomputable def tdget (d : Dc κ β) (k : κ) : R β := match d.get k with | some v => .ok v | none => .stuck
noncomputable def tdin (k : κ) (d : Dc κ β) : R Bool := .ok (d.get k).isSome
noncomputable def tdnin (k : κ) (d : Dc κ β) : R Bool := .ok (!(d.get k).isSome)
theorem o_dget (d : Dc κ β) (k : κ) : TEq (vix (e d) (e k)) (tdget d k) := by
  show TEq ((vdLook (e d) (e k)).bind _) _
  rw [vdLook_e]
  unfold tdget
  cases d.get k with
  | none => trivial
  | some v => exact rfl
theorem o_din (k : κ) (d : Dc κ β) : TEq (vInX (e k) (e d)) (tdin k d) := by
  show TEq ((vdLook (e d) (e k)).bind _) _
  rw [vdLook_e]
  show R.ok (PyData.bool ((d.get k).map e).isSome) = R.ok (PyData.bool (d.get k).isSome)
  rw [Option.isSome_map]
theorem o_dnin (k : κ) (d : Dc κ β) : TEq (vNotInX (e k) (e d)) (tdnin k d) := by
  show TEq ((vdLook (e d) (e k)).bind _) _
  rw [vdLook_e]
  show R.ok (PyData.bool (!((d.get k).map e).isSome)) = R.ok (PyData.bool (!(d.get k).isSome))
  rw [Option.isSome_map]
end
end VL

namespace VL
open PySem PySem.Spec PyProof.Rows L2
open Enc (e)
/-! ### typed dicts of one's own -/
section
variable {κ β : Type} [Enc κ] [Enc β] [q : KeyE κ]
def kS (ks : List κ) : KS := if q.kind = true then .inr (ks.map q.k2) else .inl (ks.map q.k1)
def oM (oe : β → O) (d : Dc κ β) : O := .dct (kS (d.l.map (·.1))) (d.l.map fun p => oe p.2)
theorem kS_kind (ks : List κ) : (kS ks).kind = q.kind := by
  unfold kS
  split
  · rename_i h; exact h.symm
  · rename_i h; show false = _; cases hk : q.kind with
    | true => exact absurd hk h
    | false => rfl
theorem kS_data (ks : List κ) : (kS ks).data = ks.map e := by
  unfold kS
  split
  · rename_i h
    show (ks.map q.k2).map _ = _
    rw [List.map_map]
    refine List.map_congr_left fun a _ => ?_
    rw [q.enc, if_pos h]; rfl
  · rename_i h
    show (ks.map q.k1).map _ = _
    rw [List.map_map]
    refine List.map_congr_left fun a _ => ?_
    rw [q.enc, if_neg h]; rfl
theorem dM {oe : β → O} (h : ∀ b, (oe b).data = e b) (d : Dc κ β) : (oM oe d).data = e d := by
  show dctD (kS _) (O.datas _) = PyData.dict _
  unfold dctD
  rw [kS_kind, kS_data, O.datas_map, List.map_map, List.map_map, List.zip_map']
  congr 2
  exact List.map_congr_left fun p _ => by simp [h]
theorem p_dnew {oe : β → O} {ρ : OEnv} (n : Nat) {t : Bool} (ht : q.kind = t) : TQ (fun d : Dc κ β => (oM oe d, ρ)) (oDctL n t ρ) (.ok ⟨[]⟩) := by
  subst ht
  show R.ok (O.dct (ks0 q.kind) [], ρ) = R.ok (O.dct (kS []) [], ρ)
  have : ks0 q.kind = kS ([] : List κ) := by
    unfold ks0 kS
    split <;> rfl
  rw [this]
noncomputable def Dc.put (d : Dc κ β) (k : κ) (v : β) : Dc κ β := match d.l.findIdx? (fun p => @decide (p.1 = k) (Classical.propDecidable _)) with
  | some n => ⟨d.l.set n (k, v)⟩
  | none => ⟨d.l ++ [(k, v)]⟩
noncomputable def tdput (d : Dc κ β) (k : κ) (v : β) : R (Dc κ β) := if d.l.length < 16777216 then .ok (d.put k v) else .stuck
theorem k1_inj (h : q.kind = false) {a b : κ} (g : q.k1 a = q.k1 b) : a = b := q.inj (by rw [q.enc, q.enc, h, g]; rfl)
theorem k2_inj (h : q.kind = true) {a b : κ} (g : q.k2 a = q.k2 b) : a = b := q.inj (by rw [q.enc, q.enc, h, g]; rfl)
theorem putAt_T {μ : Type} [DecidableEq μ] (f : κ → μ) (hf : ∀ {a b}, f a = f b → a = b) (oe : β → O) (d : Dc κ β) (k : κ) (v : β) :
    putAt ((d.l.map (·.1)).map f) (d.l.map fun p => oe p.2) (f k) (oe v) = (((d.put k v).l.map (·.1)).map f, (d.put k v).l.map fun p => oe p.2) := by
  have e1 : ((d.l.map (·.1)).map f).findIdx? (fun x => decide (x = f k)) = d.l.findIdx? (fun p => @decide (p.1 = k) (Classical.propDecidable _)) := by
    rw [List.map_map, List.findIdx?_map]
    congr 1
    funext p
    simp only [Function.comp]
    rw [Bool.eq_iff_iff]
    simp only [decide_eq_true_eq]
    exact ⟨fun z => hf z, fun z => congrArg f z⟩
  unfold putAt Dc.put
  rw [e1]
  cases hx : d.l.findIdx? (fun p => @decide (p.1 = k) (Classical.propDecidable _)) with
  | none => simp
  | some n =>
    obtain ⟨hn, h1, _⟩ := List.findIdx?_eq_some_iff_getElem.mp hx
    have h1 : d.l[n].1 = k := by simpa using h1
    simp only [List.map_set]
    congr 1
    refine (List.ext_getElem (by simp) fun j h2 h3 => ?_)
    by_cases hj : n = j
    · subst hj; simp [h1]
    · simp [List.getElem_set_ne hj]
theorem oPut_T {cs : List (List L2.Key)} (oe : β → O) (d : Dc κ β) (k : κ) (v : β) (hl : d.l.length < 16777216) (hcs : q.kind = true → (cs.all fun c => decide (c ≠ q.k2 k)) = true) : ∃ ks' os', oPut cs (kS (d.l.map (·.1))) (d.l.map fun p => oe p.2) (e k) (oe v) = some (ks', os') ∧ O.dct ks' os' = oM oe (d.put k v) := by
  unfold kS
  by_cases h : q.kind = true
  · have ek : e k = .tuple ((q.k2 k).map keyD) := by rw [q.enc, if_pos h]
    have hk : ∀ j : List L2.Key, keysOf (j.map keyD) = some j := by
      intro j
      induction j with
      | nil => rfl
      | cons a j ih => cases a <;> simp [keyD, keysOf, ih]
    rw [if_pos h, ek]
    unfold oPut
    simp only [hk]
    rw [if_pos ⟨by rw [List.length_map, List.length_map]; exact hl, hcs h⟩, putAt_T q.k2 (k2_inj h)]
    refine ⟨_, _, rfl, ?_⟩
    unfold oM kS
    rw [if_pos h]
  · have h' : q.kind = false := by cases z : q.kind with
      | true => exact absurd z h
      | false => rfl
    have ek : e k = keyD (q.k1 k) := by rw [q.enc, if_neg h]
    rw [if_neg h, ek]
    have hz : ((d.l.map (·.1)).map q.k1).length < sizeLine := by rw [List.length_map, List.length_map, szL]; exact hl
    have fin : ∀ j : L2.Key, q.k1 k = j → (if ((d.l.map (·.1)).map q.k1).length < sizeLine then some ((Sum.inl (putAt ((d.l.map (·.1)).map q.k1) (d.l.map fun p => oe p.2) j (oe v)).1 : KS), (putAt ((d.l.map (·.1)).map q.k1) (d.l.map fun p => oe p.2) j (oe v)).2) else none) = some ((Sum.inl ((d.put k v).l.map (·.1) |>.map q.k1) : KS), (d.put k v).l.map fun p => oe p.2) := fun j hj => by
      subst hj
      rw [if_pos hz, putAt_T q.k1 (k1_inj h')]
    refine ⟨(Sum.inl ((d.put k v).l.map (·.1) |>.map q.k1) : KS), (d.put k v).l.map fun p => oe p.2, ?_, ?_⟩
    · cases hk : q.k1 k with
      | inl i => exact fin _ hk
      | inr i => exact fin _ hk
    · unfold oM kS
      rw [if_neg h]
end
section
variable {κ γ β l σ : Type} [Enc κ] [Enc γ] [q : KeyE κ] {E : σ → OEnv → Prop} {L : l → OEnv → Prop} {er : O → OEnv → β → Prop} {Z : OEnv → Prop} {ρ : OEnv} {k : OEnv → SR}
theorem q_dputV {cs : List (List L2.Key)} {oe : γ → O} {hk : OEnv → R PyData} {ho : OEnv → R (O × OEnv)} {u : R γ} {w : R κ} {ll : Dc κ γ → TR β l σ} (i : Nat) (d : Dc κ γ) (h0 : TQ (fun a => (oe a, ρ)) (ho ρ) u) (h2 : TEq (hk ρ) w) (z : Z ρ) (hr : ∀ y, SQ E L er Z (k (ρ.set i (some (oM oe y)))) (ll y))
    (hcs : ∀ x : κ, q.kind = true → (cs.all fun c => decide (c ≠ q.k2 x)) = true) (hi : ρ[i]? = some (some (oM oe d)) := by rfl) :
    SQ E L er Z (seq (sSetX cs (pVar i) hk ho) k ρ) (u.tr fun a => w.tr fun j => (tdput d j a).tr ll) := by
  have ev : pVar i ρ = .ok (i, []) := by unfold pVar; rw [hi]; rfl
  show SQ E L er Z (SR.seq (if atDct (pVar i) ho ρ = true then sDPut cs (pVar i) hk ho ρ else sSetP (pVar i) hk ho ρ) k) _
  cases u with
  | stuck => trivial
  | err c =>
    have h0 : ho ρ = .err c := h0
    have : (if atDct (pVar i) ho ρ = true then sDPut cs (pVar i) hk ho ρ else sSetP (pVar i) hk ho ρ) = .err c ρ := by
      split
      · unfold sDPut; rw [h0]; rfl
      · unfold sSetP; rw [h0]; rfl
    rw [this]
    exact ⟨ρ, rfl, z⟩
  | ok a =>
    have h0 : ho ρ = .ok (oe a, ρ) := h0
    have ea : atDct (pVar i) ho ρ = true := by
      unfold atDct
      rw [h0]
      simp only [ev, hi]
      rfl
    rw [if_pos ea]
    unfold sDPut
    rw [h0]
    show SQ E L er Z (SR.seq ((pVar i ρ).sr ρ _) k) _
    rw [ev]
    show SQ E L er Z (SR.seq (match ρ[i]? with | some (some o) => _ | _ => _) k) _
    simp only [hi]
    show SQ E L er Z (SR.seq (R.sr (hk ρ) ρ _) k) _
    rw [seq_sr]
    show SQ E L er Z _ (w.tr fun j => (tdput d j a).tr ll)
    refine SQ.sr h2 z fun j => ?_
    unfold tdput
    by_cases hl : d.l.length < 16777216
    · obtain ⟨ks', os', e1, e2⟩ := oPut_T (cs := cs) oe d j a hl (hcs j)
      rw [if_pos hl]
      simp only [e1]
      show SQ E L er Z (k (ρ.set i (some (O.dct ks' os')))) (ll (d.put j a))
      rw [e2]
      exact hr _
    · rw [if_neg hl]; trivial
end
end VL

namespace VL
open PySem PySem.Spec PyProof.Rows L2
open Enc (e)
/-! ### the wide forms on lists and tuples -/
section
variable {α β : Type} [Enc α] [Enc β]
theorem o_vixL (a : List α) (i : Int) : TEq (vix (e a) (e i)) (tidx a i) := o_idx a i
theorem o_vixV (a : Tup α) (i : Int) : TEq (vix (e a) (e i)) (tidxV a i) := o_idxV a i
theorem o_pjLX {n : Int} {p : α → β} (h : ∀ a : α, ((vlen [e a]).bind fun m => (vsub m (.int n)).bind fun j => vix (e a) j) = .ok (e (p a)) := by intro _; rfl) {ρ : PEnv} {f : PEnv → R PyData} {s : R α} (ha : TEq (f ρ) s) : TEq (v2 vix f (v2 vsub (vapp vlen (aCons f aNil)) (vC (.int n))) ρ) (b1 (pj p) s) := by
  cases s with
  | stuck => trivial
  | err c =>
    have ha : f ρ = .err c := ha
    show R.bind (f ρ) _ = _
    rw [ha]; rfl
  | ok a =>
    have ha : f ρ = .ok (e a) := ha
    show R.bind (f ρ) _ = _
    rw [ha]
    show R.bind (R.bind (R.bind (R.bind (f ρ) _) vlen) _) _ = _
    rw [ha]
    have h := h a
    show R.bind (R.bind (vlen [e a]) (fun d => vsub d (.int n))) (fun j => vix (e a) j) = _
    cases q : vlen [e a] with
    | stuck => rw [q] at h; exact h
    | err c => rw [q] at h; exact h
    | ok m => rw [q] at h; exact h
theorem o_pjNX {n : Int} {p : α → β} (h : ∀ a : α, vix (e a) (.int (-n)) = .ok (e (p a)) := by intro _; rfl) {ρ : PEnv} {f : PEnv → R PyData} {s : R α} (ha : TEq (f ρ) s) : TEq (v2 vix f (v1 vneg (vC (.int n))) ρ) (b1 (pj p) s) := ha.bind fun a => h a
theorem o_inX [q : EqE α] (hd : EqE.dep α + 1 ≤ 64 := by decide) (a : α) (b : List α) : TEq (vInX (e a) (e b)) (tin a b) := o_in hd a b
theorem o_ninX [q : EqE α] (hd : EqE.dep α + 1 ≤ 64 := by decide) (a : α) (b : List α) : TEq (vNotInX (e a) (e b)) (tnin a b) := o_nin hd a b
end
section
variable {κ β : Type} [Enc κ] [Enc β] [q : KeyE κ] {ρ : PEnv} {fa fb fc : PEnv → R PyData}
noncomputable def tdget1 (d : Dc κ β) (k : κ) : R (Option β) := .ok (d.get k)
noncomputable def tdget2 (d : Dc κ β) (k : κ) (x : β) : R β := .ok ((d.get k).getD x)
theorem t_get1 {s : R (Dc κ β)} {t : R κ} (ha : TEq (fa ρ) s) (hb : TEq (fb ρ) t) : TEq (vget1 fa fb ρ) (b2 tdget1 s t) := by
  refine ha.bind fun d => ?_
  show TEq (R.bind (fb ρ) _) _
  refine hb.bind fun k => ?_
  show R.bind (vdLook (e d) (e k)) _ = _
  rw [vdLook_e]
  show R.ok (((d.get k).map e).getD .none) = R.ok (e (d.get k))
  cases d.get k <;> rfl
theorem t_get2 {s : R (Dc κ β)} {t : R κ} {u : R β} (ha : TEq (fa ρ) s) (hb : TEq (fb ρ) t) (hc : TEq (fc ρ) u) : TEq (vget2 fa fb fc ρ) (b3 tdget2 s t u) := by
  refine ha.bind fun d => ?_
  show TEq (R.bind (fb ρ) _) _
  refine hb.bind fun k => ?_
  show TEq (R.bind (fc ρ) _) _
  refine hc.bind fun x => ?_
  show R.bind (vdLook (e d) (e k)) _ = _
  rw [vdLook_e]
  show R.ok (((d.get k).map e).getD (e x)) = R.ok (e ((d.get k).getD x))
  cases d.get k <;> rfl
end
section
variable {β l σ τ α γ ι : Type} {E : σ → OEnv → Prop} {L : l → OEnv → Prop} {er : O → OEnv → β → Prop} {Z : OEnv → Prop} {ρ : OEnv} {g h k g1 : OEnv → SR}
theorem q_setX {cs : List (List L2.Key)} {ox : α → O} {oe : γ → O} {hp : OEnv → R (Nat × List Nat)} {hk : OEnv → R PyData} {ho : OEnv → R (O × OEnv)} {t : R ι} {u : R γ} {w : R Int} {ll : α → TR β l σ} (i : Nat) {p : ι → List Nat} {get : ι → α → Option (List γ)} {set : ι → α → List γ → α} (x : α) (hl : ∀ n, LQ ox (p n) (get n) oe (set n)) (h0 : TQ (fun a => (oe a, ρ)) (ho ρ) u) (h1 : TQ (fun n => (i, p n)) (hp ρ) t) (h2 : TEq (hk ρ) w) (z : Z ρ) (hr : ∀ y, SQ E L er Z (k (ρ.set i (some (ox y)))) (ll y)) (hi : ρ[i]? = some (some (ox x)) := by rfl) :
    SQ E L er Z (seq (sSetX cs hp hk ho) k ρ) (u.tr fun a => t.tr fun n => tfd (get n x) fun ys => w.tr fun j => (tset ys j a).tr fun zs => ll (set n x zs)) := by
  have main := q_setP (E := E) (L := L) (er := er) (Z := Z) (k := k) i x hl h0 h1 h2 z hr hi
  cases hd : atDct hp ho ρ with
  | false =>
    have e1 : sSetX cs hp hk ho ρ = sSetP hp hk ho ρ := by unfold sSetX; rw [hd]; rfl
    show SQ E L er Z (SR.seq (sSetX cs hp hk ho ρ) k) _
    rw [e1]
    exact main
  | true =>
    cases u with
    | stuck => trivial
    | err c =>
      have h0 : ho ρ = .err c := h0
      unfold atDct at hd
      rw [h0] at hd
      cases hd
    | ok a =>
      have h0 : ho ρ = .ok (oe a, ρ) := h0
      cases t with
      | stuck => trivial
      | err c =>
        have h1 : hp ρ = .err c := h1
        unfold atDct at hd
        rw [h0] at hd
        simp only [h1] at hd
        cases hd
      | ok n =>
        have h1 : hp ρ = .ok (i, p n) := h1
        show SQ E L er Z _ (tfd (get n x) _)
        cases hg : get n x with
        | none => trivial
        | some ys =>
          unfold atDct at hd
          rw [h0] at hd
          simp only [h1, hi, (hl n).g x ys hg] at hd
          cases hd
end
end VL

namespace VL
open PySem PySem.Spec PyProof.Rows L2
/-! ### calls whose arguments are seen each by itself -/
structure VXA (X : Cx) (W : WX) (es : List Expr) (n : Nat) (h : OEnv → R (List PyData)) : Prop where
  len : ∀ ρ ds, h ρ = .ok ds → ds.length = n
  ex : ∃ t, PA X es t ∧ ∀ σ H F0 H0 F ρ Q, RS X.K F0 H0 F H σ ρ → Pst X W σ H (fun ds : List PyData => ∀ vs H' F', Ext F H F' H' → IsAll X.K F' vs ds → Q vs H') (h ρ) → t σ H Q
def xNil : OEnv → R (List PyData) := fun _ => .ok []
def xCons (h : OEnv → R PyData) (g : OEnv → R (List PyData)) : OEnv → R (List PyData) := fun ρ => (h ρ).bind fun d => (g ρ).bind fun ds => .ok (d :: ds)
def xapp (m : List PyData → R PyData) (g : OEnv → R (List PyData)) : OEnv → R PyData := fun ρ => (g ρ).bind m
section
variable {X : Cx} {W : WX} {e : Expr} {es : List Expr} {pos : Pos} {hx : OEnv → R PyData} {hg : OEnv → R (List PyData)} {k n : Nat}
theorem vxa_nil : VXA X W [] 0 xNil := ⟨fun ρ ds h => by cases h; rfl, _, pa_nil, fun σ H F0 H0 F ρ Q r p => by
  obtain ⟨fps, s, hs⟩ := r.ex
  exact p [] H F ⟨Same.refl H, Same.refl F, hs.fh, fun a x y => absurd x y⟩ .nil⟩
theorem vxa_cons (h1 : VX X W e hx) (h2 : VXA X W es n hg) (hs : starEach (e :: es) X.env = (false, eval e X.env) :: starEach es X.env := by rfl) : VXA X W (e :: es) (n + 1) (xCons hx hg) := by
  refine ⟨fun ρ ds h => ?_, ?_⟩
  · unfold xCons at h
    cases q : hx ρ with
    | stuck => rw [q] at h; cases h
    | err c => rw [q] at h; cases h
    | ok d =>
      rw [q] at h
      simp only [R.bind_ok] at h
      cases q2 : hg ρ with
      | stuck => rw [q2] at h; cases h
      | err c => rw [q2] at h; cases h
      | ok ds' =>
        rw [q2] at h
        injection h with h
        subst h
        rw [List.length_cons, h2.len ρ ds' q2]
  · obtain ⟨ta, pa, qa⟩ := h1.ex
    obtain ⟨tb, pb, qb⟩ := h2.ex
    refine ⟨_, pa_cons pa pb hs, fun σ H F0 H0 F ρ Q r pr => ?_⟩
    unfold xCons at pr
    refine qa σ H F0 H0 F ρ _ r ?_
    generalize hx ρ = ra at pr ⊢
    cases ra with
    | stuck => exact pr
    | err c => exact pr
    | ok d =>
      intro v H1 F1 e1 d1
      simp only [R.bind_ok] at pr
      have r1 := r.ext e1
      refine qb σ H1 F0 H0 F1 ρ _ r1 ?_
      generalize hg ρ = rb at pr ⊢
      cases rb with
      | stuck => exact pr
      | err c => exact fun H' z => pr H' (e1.hh.trans z)
      | ok ds =>
        intro vs H2 F2 e2 d2
        exact pr _ _ _ (e1.trans e2) (.cons (Is.mono e2.bb d1) d2)
theorem vx_call {x : Str} {f : Addr} {fd : FuncData} {ps : List Str} {g : List PyData → R PyData} {p : Pos} (F : FnOk X.prog X.w X.K X.mg X.base (L2.CX X.prog X.w) k f fd ps (spV X.K X.mg n g)) (hr : Room k X.A) (hm : X.mg x = some (.ref f)) (hk : PySem.W.keepIn X.K (.ref f) = true) (hb : Binds X.K fd ps [])
    (tk : Takes X W) (ha : VXA X W (e :: es) n hg) (hgl : Gl X x := by rfl) (hdb : (x == ("__debug__" : Str)) = false := by decide) (he : starEach (e :: es) X.env = (false, eval e X.env) :: starEach es X.env := by rfl) (hpl : (backTo pos (starEach es X.env)).any (·.1) = false := by rfl) :
    VX X W (.Call (.Name x p) (e :: es) [] pos) (xapp g hg) := by
  obtain ⟨t, pt, qt⟩ := ha.ex
  refine ⟨_, pe_callS F hr hgl hm hk hb (fun σ => passAt tk σ) pt hdb he hpl, fun σ H F0 H0 F1 ρ Q r pr => ?_⟩
  have hl := ha.len ρ
  unfold xapp at pr
  refine qt σ H F0 H0 F1 ρ _ r ?_
  generalize hg ρ = rr at pr hl ⊢
  cases rr with
  | stuck => exact pr
  | err c => exact pr
  | ok ds =>
    intro xs H1 B1 e1 dx
    refine ⟨by rw [IsAll.len dx]; exact hl ds rfl, ds, B1, e1.bh, dx, ?_⟩
    simp only [R.bind_ok] at pr
    generalize g ds = rg at pr ⊢
    cases rg with
    | stuck => exact pr
    | err c => exact fun H' z => pr H' (e1.hh.trans z)
    | ok d => exact fun v H' B' e' dv => pr v H' B' (e1.trans e') dv
end
end VL

namespace VL
open PySem PySem.Spec PyProof.Rows L2
open Enc (e)
section
variable {α β γ θ : Type} [Enc α] [Enc β] [Enc γ] [Enc θ]
theorem tx_0 {ρ : OEnv} {k : List PyData → R PyData} {t : R θ} (h : TEq (k []) t) : TEq ((xNil ρ).bind k) t := h
theorem tx_1 {f : OEnv → R PyData} {g : OEnv → R (List PyData)} {ρ : OEnv} {k : List PyData → R PyData} {s : R α} {t : α → R θ} (ha : TEq (f ρ) s) (h : ∀ a, TEq ((g ρ).bind fun ds => k (e a :: ds)) (t a)) : TEq ((xCons f g ρ).bind k) (s.bind t) := by
  show TEq (R.bind (R.bind _ _) _) _
  rw [R.bind_assoc]
  refine ha.bind fun a => ?_
  have := h a
  rw [R.bind_assoc]
  exact this
theorem t_xapp {m : List PyData → R PyData} {g : OEnv → R (List PyData)} {ρ : OEnv} {t : R θ} (h : TEq ((g ρ).bind m) t) : TEq (xapp m g ρ) t := h
end
end VL

namespace VL
open PySem PySem.Spec PyProof.Rows L2
/-! ### what a typed term gives: step by step -/
section
variable {α β γ l σ τ : Type}
def Ok (r : R α) (P : α → Prop) : Prop := ∃ a, r = .ok a ∧ P a
theorem Ok.mk {a : α} {P : α → Prop} (h : P a) : Ok (.ok a) P := ⟨a, rfl, h⟩
@[simp] theorem Ok_ok (a : α) (P : α → Prop) : Ok (.ok a) P = P a := propext ⟨fun ⟨b, e, h⟩ => (R.ok.inj e) ▸ h, fun h => ⟨a, rfl, h⟩⟩
@[simp] theorem Ok_bind (r : R α) (f : α → R β) (P : β → Prop) : Ok (r.bind f) P = Ok r fun a => Ok (f a) P := by
  cases r with
  | ok a => simp
  | err c => exact propext ⟨fun ⟨b, e, h⟩ => (nomatch e), fun ⟨b, e, h⟩ => (nomatch e)⟩
  | stuck => exact propext ⟨fun ⟨b, e, h⟩ => (nomatch e), fun ⟨b, e, h⟩ => (nomatch e)⟩
@[simp] theorem Ok_ite (c : Prop) [Decidable c] (x y : R α) (P : α → Prop) : Ok (if c then x else y) P = if c then Ok x P else Ok y P := by split <;> rfl
theorem Ok.imp {r : R α} {P Q : α → Prop} (h : Ok r P) (i : ∀ a, P a → Q a) : Ok r Q := by obtain ⟨a, e, p⟩ := h; exact ⟨a, e, i a p⟩
theorem Ok.eq {r : R α} {a : α} {P : α → Prop} (e : r = .ok a) (h : P a) : Ok r P := ⟨a, e, h⟩
/-- what a statement gives -/
def Tk (t : TR β l σ) (N : σ → Prop) (Q : β → Prop) (C B : l → Prop) : Prop := (∃ s, t = .nx s ∧ N s) ∨ (∃ b, t = .rt b ∧ Q b) ∨ (∃ s, t = .ct s ∧ C s) ∨ (∃ s, t = .bk s ∧ B s)
theorem Tk.imp {t : TR β l σ} {N N' : σ → Prop} {Q Q' : β → Prop} {C C' B B' : l → Prop} (h : Tk t N Q C B) (n : ∀ s, N s → N' s) (q : ∀ s, Q s → Q' s) (c : ∀ s, C s → C' s) (b : ∀ s, B s → B' s) : Tk t N' Q' C' B' := by
  rcases h with ⟨s, e, h⟩ | ⟨s, e, h⟩ | ⟨s, e, h⟩ | ⟨s, e, h⟩
  · exact .inl ⟨s, e, n s h⟩
  · exact .inr (.inl ⟨s, e, q s h⟩)
  · exact .inr (.inr (.inl ⟨s, e, c s h⟩))
  · exact .inr (.inr (.inr ⟨s, e, b s h⟩))
/-- a part with one way out -/
theorem Tk.to {t : TR β l σ} (N : σ → Prop) {N' : σ → Prop} {Q : β → Prop} {C B : l → Prop} (h : Tk t N (fun _ => False) (fun _ => False) (fun _ => False)) (n : ∀ s, N s → N' s) : Tk t N' Q C B := h.imp n (fun _ h => h.elim) (fun _ h => h.elim) (fun _ h => h.elim)
@[simp] theorem Tk_nx (s : σ) (N : σ → Prop) (Q : β → Prop) (C B : l → Prop) : Tk (.nx s) N Q C B = N s := propext ⟨fun h => (by
  rcases h with ⟨s, e, h⟩ | ⟨s, e, h⟩ | ⟨s, e, h⟩ | ⟨s, e, h⟩ <;> first | (cases e; exact h) | (cases e)), fun h => .inl ⟨s, rfl, h⟩⟩
@[simp] theorem Tk_rt (s : β) (N : σ → Prop) (Q : β → Prop) (C B : l → Prop) : Tk (.rt s) N Q C B = Q s := propext ⟨fun h => (by
  rcases h with ⟨s, e, h⟩ | ⟨s, e, h⟩ | ⟨s, e, h⟩ | ⟨s, e, h⟩ <;> first | (cases e; exact h) | (cases e)), fun h => .inr (.inl ⟨s, rfl, h⟩)⟩
@[simp] theorem Tk_ct (s : l) (N : σ → Prop) (Q : β → Prop) (C B : l → Prop) : Tk (.ct s) N Q C B = C s := propext ⟨fun h => (by
  rcases h with ⟨s, e, h⟩ | ⟨s, e, h⟩ | ⟨s, e, h⟩ | ⟨s, e, h⟩ <;> first | (cases e; exact h) | (cases e)), fun h => .inr (.inr (.inl ⟨s, rfl, h⟩))⟩
@[simp] theorem Tk_bk (s : l) (N : σ → Prop) (Q : β → Prop) (C B : l → Prop) : Tk (.bk s) N Q C B = B s := propext ⟨fun h => (by
  rcases h with ⟨s, e, h⟩ | ⟨s, e, h⟩ | ⟨s, e, h⟩ | ⟨s, e, h⟩ <;> first | (cases e; exact h) | (cases e)), fun h => .inr (.inr (.inr ⟨s, rfl, h⟩))⟩
theorem Tk_no {N : σ → Prop} {Q : β → Prop} {C B : l → Prop} {t : TR β l σ} (h1 : ∀ s, t ≠ .nx s) (h2 : ∀ s, t ≠ .rt s) (h3 : ∀ s, t ≠ .ct s) (h4 : ∀ s, t ≠ .bk s) : Tk t N Q C B = False := propext ⟨fun h => (by
  rcases h with ⟨s, e, h⟩ | ⟨s, e, h⟩ | ⟨s, e, h⟩ | ⟨s, e, h⟩
  · exact h1 _ e
  · exact h2 _ e
  · exact h3 _ e
  · exact h4 _ e), False.elim⟩
@[simp] theorem Tk_err (c : Str) (N : σ → Prop) (Q : β → Prop) (C B : l → Prop) : Tk (.err c) N Q C B = False := Tk_no (fun _ e => (nomatch e)) (fun _ e => (nomatch e)) (fun _ e => (nomatch e)) (fun _ e => (nomatch e))
@[simp] theorem Tk_stuck (N : σ → Prop) (Q : β → Prop) (C B : l → Prop) : Tk .stuck N Q C B = False := Tk_no (fun _ e => (nomatch e)) (fun _ e => (nomatch e)) (fun _ e => (nomatch e)) (fun _ e => (nomatch e))
@[simp] theorem Ok_err (c : Str) (P : α → Prop) : Ok (.err c) P = False := propext ⟨fun ⟨_, e, _⟩ => (nomatch e), False.elim⟩
@[simp] theorem Ok_stuck (P : α → Prop) : Ok (.stuck : R α) P = False := propext ⟨fun ⟨_, e, _⟩ => (nomatch e), False.elim⟩
@[simp] theorem Tk_tr (r : R α) (f : α → TR β l σ) (N : σ → Prop) (Q : β → Prop) (C B : l → Prop) : Tk (r.tr f) N Q C B = Ok r fun a => Tk (f a) N Q C B := by
  cases r <;> simp [R.tr]
@[simp] theorem Tk_bind (t : TR β l τ) (f : τ → TR β l σ) (N : σ → Prop) (Q : β → Prop) (C B : l → Prop) : Tk (t.bind f) N Q C B = Tk t (fun s => Tk (f s) N Q C B) Q C B := by
  cases t <;> simp [TR.bind]
@[simp] theorem Tk_ite (c : Prop) [Decidable c] (x y : TR β l σ) (N : σ → Prop) (Q : β → Prop) (C B : l → Prop) : Tk (if c then x else y) N Q C B = if c then Tk x N Q C B else Tk y N Q C B := by split <;> rfl
@[simp] theorem Ok_fn (t : TR β Empty σ) (d : σ → R β) (P : β → Prop) : Ok (t.fn d) P = Tk t (fun s => Ok (d s) P) P (fun _ => False) (fun _ => False) := by
  cases t with
  | nx s => simp
  | rt s => simp
  | err c => simp
  | stuck => simp [TR.fn]
  | ct s => exact s.elim
  | bk s => exact s.elim
/-- a loop, by an invariant over the number of turns -/
theorem forT_wp {f : α → σ → TR β σ σ} (I : Nat → σ → Prop) {N : σ → Prop} {Q : β → Prop} {C B : l → Prop} : ∀ {xs : List α} {s : σ} (j : Nat), I j s → (∀ i a s, xs[i]? = some a → I (j + i) s → Tk (f a s) (I (j + i + 1)) Q (I (j + i + 1)) N) → (∀ s, I (j + xs.length) s → N s) → Tk (forT f xs s : TR β l σ) N Q C B
  | [], s, j, h0, _, h2 => by rw [forT_nil, Tk_nx]; exact h2 s h0
  | a :: as, s, j, h0, h1, h2 => by
    have rest : ∀ s', I (j + 1) s' → Tk (forT f as s' : TR β l σ) N Q C B := fun s' hs => forT_wp I (j + 1) hs (fun i b t hb ht => by
      have := h1 (i + 1) b t (by simpa using hb) (by rw [show j + (i + 1) = j + 1 + i by omega]; exact ht)
      rw [show j + (i + 1) + 1 = j + 1 + i + 1 by omega] at this
      exact this) fun t ht => h2 t (by rw [List.length_cons, show j + (as.length + 1) = j + 1 + as.length by omega]; exact ht)
    rcases h1 0 a s rfl h0 with ⟨s', e, h⟩ | ⟨s', e, h⟩ | ⟨s', e, h⟩ | ⟨s', e, h⟩
    · rw [forT_nx e]; exact rest s' h
    · rw [forT_rt e, Tk_rt]; exact h
    · rw [forT_ct e]; exact rest s' h
    · rw [forT_bk e, Tk_nx]; exact h
/-- the same with a plain invariant -/
theorem forT_wpI {f : α → σ → TR β σ σ} (I : σ → Prop) {N : σ → Prop} {Q : β → Prop} {C B : l → Prop} {xs : List α} {s : σ} (h0 : I s) (h1 : ∀ a ∈ xs, ∀ s, I s → Tk (f a s) I Q I N) (h2 : ∀ s, I s → N s) : Tk (forT f xs s : TR β l σ) N Q C B :=
  forT_wp (fun _ => I) 0 h0 (fun i a s ha hs => h1 a (List.mem_of_getElem? ha) s hs) fun s hs => h2 s hs
/-- over a range -/
theorem forT_wpR {f : Int → σ → TR β σ σ} (I : Nat → σ → Prop) {N : σ → Prop} {Q : β → Prop} {C B : l → Prop} {n : Nat} {s : σ} (h0 : I 0 s) (h1 : ∀ i : Nat, i < n → ∀ s, I i s → Tk (f (i : Int) s) (I (i + 1)) Q (I (i + 1)) N) (h2 : ∀ s, I n s → N s) : Tk (forT f (rangeI 0 n) s : TR β l σ) N Q C B :=
  forT_wp I 0 h0 (fun i a s ha hs => by
    obtain ⟨hi, rfl⟩ := rangeI_get ha
    rw [Nat.zero_add] at hs ⊢
    rw [Int.zero_add]
    exact h1 i hi s hs) fun s hs => h2 s (by rw [Nat.zero_add, rangeI_len] at hs; exact hs)
theorem tmap_wp {f : α → R γ} (S : α → γ → Prop) {P : List γ → Prop} {xs : List α} (h : ∀ a ∈ xs, Ok (f a) (S a)) (k : ∀ ys : List γ, ys.length = xs.length → (∀ (i : Nat) a y, xs[i]? = some a → ys[i]? = some y → S a y) → P ys) : Ok (tmap f xs) P := by
  have main : ∀ xs : List α, (∀ a ∈ xs, Ok (f a) (S a)) → ∃ ys, tmap f xs = .ok ys ∧ ys.length = xs.length ∧ ∀ (i : Nat) a y, xs[i]? = some a → ys[i]? = some y → S a y := by
    intro xs
    induction xs with
    | nil => intro _; exact ⟨[], rfl, rfl, fun i a y h => by simp at h⟩
    | cons a as ih =>
      intro h
      obtain ⟨y, e, hy⟩ := h a List.mem_cons_self
      obtain ⟨ys, e2, h2, h3⟩ := ih fun x hx => h x (List.mem_cons_of_mem _ hx)
      refine ⟨y :: ys, by simp only [tmap, e, calm_okk, R.bind_ok, e2], by simp [h2], fun i b z hb hz => ?_⟩
      cases i with
      | zero => simp at hb hz; subst hb; subst hz; exact hy
      | succ i => exact h3 i b z (by simpa using hb) (by simpa using hz)
  obtain ⟨ys, e, h1, h2⟩ := main xs h
  exact ⟨ys, e, k ys h1 h2⟩
/-- all have the property, and there are as many -/
theorem tmap_wpA {f : α → R γ} (S : γ → Prop) {P : List γ → Prop} {xs : List α} (h : ∀ a ∈ xs, Ok (f a) S) (k : ∀ ys : List γ, ys.length = xs.length → (∀ y ∈ ys, S y) → P ys) : Ok (tmap f xs) P := by
  obtain ⟨ys, e, h1, h2⟩ := tmap_ex S (xs := xs) fun a ha => h a ha
  exact ⟨ys, e, k ys h1 h2⟩
@[simp] theorem Ok_calm (r : R α) (P : α → Prop) : Ok r.calm P = Ok r P := by cases r <;> simp [R.calm]
theorem tidx_wp {xs : List α} {i : Int} {P : α → Prop} (h0 : 0 ≤ i) (h1 : i < xs.length) (h : ∀ a, a ∈ xs → xs[i.toNat]? = some a → P a) : Ok (tidx xs i) P := by
  have hl : i.toNat < xs.length := by omega
  exact ⟨xs[i.toNat], tidx_of (k := i.toNat) (by omega) (by simp [hl]), h _ (List.getElem_mem hl) (by simp [hl])⟩
theorem Dr.wp {n : Nat} {lim : Int} {ds : List Int} (h : Dr n lim ds) {i : Int} {P : Int → Prop} (h0 : 0 ≤ i) (h1 : i < (n : Int)) (k : ∀ d, 0 ≤ d → d < lim → P d) : Ok (tidx ds i) P := by
  obtain ⟨d, e, a, b⟩ := h.ix i h0 h1
  exact ⟨d, e, k d a b⟩
theorem tapp_wp {xs : List α} {a : α} {P : List α → Prop} (h : xs.length < 16777216) (k : P (xs ++ [a])) : Ok (tapp xs a) P := ⟨_, tapp_ok h, k⟩
theorem tmod_wp {a b : Int} {P : Int → Prop} (h : 0 < b) (k : 0 ≤ a % b → a % b < b → P (a % b)) : Ok (tmodI a b) P := ⟨_, tmodI_pos h, k (Int.emod_nonneg _ (by omega)) (Int.emod_lt_of_pos _ h)⟩
theorem tset_wp {xs : List α} {j : Int} {a : α} {P : List α → Prop} (h0 : 0 ≤ j) (h1 : j < xs.length) (k : P (xs.set j.toNat a)) : Ok (tset xs j a) P := ⟨_, tset_of (k := j.toNat) (by omega) (by omega), k⟩
@[simp] theorem teq_str {a b : Str} (ha : PyData.strOk a = true) (hb : PyData.strOk b = true) : teq a b = .ok (decide (a = b)) := teq_ok ha hb
@[simp] theorem tne_str {a b : Str} (ha : PyData.strOk a = true) (hb : PyData.strOk b = true) : tne a b = .ok (!decide (a = b)) := tne_ok ha hb
theorem tmodn_wp {a : Int} {b : Nat} {P : Int → Prop} (h : 0 < b) (k : ∀ r : Nat, r < b → a % (b : Int) = r → P r) : Ok (tmodI a b) P := by
  have h1 := Int.emod_nonneg a (b := (b : Int)) (by omega)
  have h2 := Int.emod_lt_of_pos a (b := (b : Int)) (by omega)
  have e : a % (b : Int) = ((a % (b : Int)).toNat : Int) := by omega
  exact ⟨_, tmodI_pos (by omega), e ▸ k (a % (b : Int)).toNat (by omega) e⟩
theorem trange1_wp {j : Int} {P : List Int → Prop} (h0 : 0 ≤ j) (h1 : j ≤ 16777216) (k : P (rangeI 0 j.toNat)) : Ok (trange1 j) P := ⟨_, trange1_of (n := j.toNat) (by omega) (by omega), k⟩
theorem tfdiv_wp {a b : Int} {P : Int → Prop} (h : 0 < b) (h2 : b < 1000000000000) (k : P (a / b)) : Ok (tfdivI a b) P := ⟨_, tfdivI_pos h (Int.lt_trans h2 (by decide)), k⟩
theorem tmul_wpl {a b : Int} {P : Int → Prop} (h : -1000000000000 < a) (h2 : a < 1000000000000) (k : P (a * b)) : Ok (tmulI a b) P := ⟨_, tmulI_l (sm_of (by omega)), k⟩
theorem tmul_wpr {a b : Int} {P : Int → Prop} (h : -1000000000000 < b) (h2 : b < 1000000000000) (k : P (a * b)) : Ok (tmulI a b) P := ⟨_, tmulI_r (sm_of (by omega)), k⟩
theorem taddL_wp {xs ys : List α} {P : List α → Prop} (h : xs.length + ys.length ≤ 16777216) (k : P (xs ++ ys)) : Ok (taddL xs ys) P := ⟨_, taddL_ok h, k⟩
end
end VL

/-! ### list(reversed(list)) -/
namespace RT
open PySem PySem.Spec PyProof.Rows
section
variable {prog : Program} {w : World} {A : Around} {E : Value → Shared → Prop} {s : Shared}
theorem call_list_rev {it l : Addr} {items : Array Value} {Q : Value → Shared → Prop} (hh : A.handled = none) (hit : s.heap.IsRevIter it l ((items.size : Int) - 1)) (hl : s.heap.IsList l items) (hne : l ≠ it) (hn : items.size ≤ sizeLine)
    (hQ : ∀ (h' : Heap) (tk : Nat) (acc : Array Value) (c' : Nat), (∀ b o, b ≠ it → s.heap.get? b = some o → h'.get? b = some o) → h'.get? s.heap.objs.size = some { cls := .type "list", dict := none, data := .seq acc c', slots := #[] } → ItemsOf (fun i v => items[items.size - 1 - i]? = some v) acc items.size →
      Q (.ref s.heap.objs.size) { s with heap := h', toks := tk }) :
    wpAny (model prog w) A (call (.type "list") [.ref it]) Q E s := by
  have W := (Walks.listRev (prog := prog) (w := w) (A := A.in1.in1) hh it l hne items).toS
  obtain ⟨oi, hoi, _⟩ := id hit
  obtain ⟨ol, hol, _⟩ := id hl
  have hSi : s.heap.objs.size ≠ it := Nat.ne_of_gt (Heap.lt_size hoi)
  have hSl : s.heap.objs.size ≠ l := Nat.ne_of_gt (Heap.lt_size hol)
  have hSf : s.heap.objs.size ∉ [it, l] := by simp only [List.mem_cons, List.not_mem_nil, or_false, not_or]; exact ⟨hSi, hSl⟩
  refine callType_codes (Q₁ := fun obj s₁ => obj = .ref s.heap.objs.size ∧ s₁ = { s with heap := s.heap.push { cls := .type "list", data := .seq #[] } }) F.called_list (F.typeCall_list_1 _) F.entry_list_init
    (code_list_new _ ⟨rfl, rfl⟩) fun obj s₁ h₁ => ?_
  obtain ⟨rfl, rfl⟩ := h₁
  have hS : (s.heap.push { cls := .type "list", data := .seq #[] }).get? s.heap.objs.size = some { cls := .type "list", data := .seq #[] } := Heap.get?_push_size _ rfl
  refine ⟨⟨_, hS, rfl⟩, F.args_list_init_2 _ _, ?_⟩
  show wpAny _ A.in1.in1 (do let old ← Builtin.List.listItems (.ref s.heap.objs.size); Builtin.List.listUpdate (.ref s.heap.objs.size) (fun _ => #[]); letGo old.toList.reverse; Builtin.List.listExtendWith (.ref s.heap.objs.size) (.ref it) .none) _ _ _
  refine wpAny_bind ?_
  unfold Builtin.List.listItems
  refine wpAny_bind (wpAny_seqItems hS rfl (wpAny_pure ?_))
  show wpAny _ A.in1.in1 (updateSeq s.heap.objs.size (fun _ => #[]) >>= fun _ => letGo (#[] : Array Value).toList.reverse >>= fun _ => Builtin.List.listExtendWith (.ref s.heap.objs.size) (.ref it) .none) _ _ _
  refine wpAny_bind (wpAny_updateSeq hS rfl ?_)
  have hS2 := Heap.get?_update_self (Obj.mapSeq (fun _ => (#[] : Array Value))) hS rfl
  refine wpAny_bind (wpAny_letGo ?_)
  have k2 : ∀ b o, s.heap.get? b = some o → ((s.heap.push { cls := .type "list", data := .seq #[] }).update s.heap.objs.size (Obj.mapSeq (fun _ => (#[] : Array Value)))).get? b = some o := fun b o e =>
    (Heap.get?_update_other _ _ (Ne.symm (Nat.ne_of_lt (Heap.lt_size e)))).trans (Heap.get?_push_of_some _ e)
  have hit1 : ((s.heap.push { cls := .type "list", data := .seq #[] }).update s.heap.objs.size (Obj.mapSeq (fun _ => (#[] : Array Value)))).IsRevIter it l ((items.size : Int) - 1) := hit.at fun o e => k2 it o e
  have hl1 : ((s.heap.push { cls := .type "list", data := .seq #[] }).update s.heap.objs.size (Obj.mapSeq (fun _ => (#[] : Array Value)))).IsList l items := Heap.IsList.at hl fun o e => k2 l o e
  have hT : ({ s with heap := (s.heap.push { cls := .type "list", data := .seq #[] }).update s.heap.objs.size (Obj.mapSeq (fun _ => (#[] : Array Value))) } : Shared).TypeIs (.ref it) "list_reverseiterator" := Heap.IsRevIter.typeIs (s := { s with heap := _ }) hit1
  have h1 : Builtin.List.listSameRef (.ref s.heap.objs.size) (.ref it) = false := by simp [Builtin.List.listSameRef, hSi]
  unfold Builtin.List.listExtendWith
  refine wpAny_bind (wpAny_typeOf hT ?_)
  rw [if_neg (by rw [h1]; decide)]
  refine wpAny_bind (wpAny_pyIter_revIter (s := { s with heap := _ }) hit1 ?_)
  refine wpAny_bind (wpAny_holding ?_)
  unfold Builtin.List.listLengthHint
  refine wpAny_bind (wpAny_specialOf hT nolen_lri ?_)
  show wpAny _ A.in1.in1 (specialOf (Value.ref it) (Str.ofString "__length_hint__") >>= _) _ _ _
  refine wpAny_bind (wpAny_specialOf hT hint_lri ?_)
  generalize hid : ("list_reverseiterator.__length_hint__" : String) = id0
  wp_delta
  rw [show splitId id0 = some ("list_reverseiterator", "__length_hint__") from by subst hid; decide +kernel]
  subst hid
  refine wpAny_bind (wpAny_isInstance (b := true) hT (by rw [isSubtype_type]; kernel_rfl) ?_)
  refine wpAny_pure ?_
  rw [if_neg (by decide)]
  have e0 : ((items.size : Nat) : Int) - 1 - ((0 : Nat) : Int) = (items.size : Int) - 1 := by omega
  refine wpAny_pure ⟨plainId_quiet F.plain_extend_loop _, codeAny_extend_loopS W hn _ hSf _ items.size 0 _ _ _ rfl (Nat.zero_le _) ⟨Nat.zero_le _, by rw [e0]; exact hit1, hl1⟩ hS2 (ItemsOf.nil _) fun s' acc' c' hm hS' hacc => ?_⟩
  rw [Moved.eq_with hm]
  refine ⟨rfl, hQ s'.heap s'.toks acc' c' (fun b o hb e => hm.heap b o (fun hmem => ?_) (k2 b o e)) hS' hacc⟩
  rcases List.mem_cons.mp hmem with e' | hmem
  · exact absurd (Heap.lt_size e) (by rw [e']; exact Nat.lt_irrefl _)
  · exact hb (List.mem_singleton.mp hmem)
end
end RT

namespace L2
open PySem PySem.Spec PyProof.Rows RT
/-- list(reversed(x)), x a list: a new list -/
def tLstRev (K : PySem.W.Frag) (te : TE) : TE := fun σ H Q => te σ H fun v H1 => ∃ (a : Addr) (xs : List V), v = .ref a ∧ SqL K H1 a xs ∧ ∀ q, H1 q = none → Q (.ref q) (upd H1 q (.lst xs.reverse))
section
variable {X : Cx}
theorem pe_lstRev {e : Expr} {te : TE} {p p2 pos pos2 : Pos} (hc : X.calm = true) (hg : Gl X "list") (hm : X.mg "list" = none) (hg2 : Gl X "reversed") (hm2 : X.mg "reversed" = none) (he : PE X e te)
    (hs : starEach [e] X.env = (false, eval e X.env) :: starEach [] X.env := by rfl)
    (hs2 : starEach [.Call (.Name "reversed" p2) [e] [] pos2] X.env = (false, eval (.Call (.Name "reversed" p2) [e] [] pos2) X.env) :: starEach [] X.env := by rfl) :
    PE X (.Call (.Name "list" p) [.Call (.Name "reversed" p2) [e] [] pos2] [] pos) (tLstRev X.K te) := by
  refine ⟨fun pins s σ H Q I h => ?_⟩
  refine Call_ (ld_blt I hg hm boot_list (PyProof.Rows.callWith_type1 (args_cons (Call_ (ld_blt I hg2 hm2 PyProof.Rows.boot_reversed (PyProof.Rows.callWith_type1 (args_cons (thn (he.run pins s σ H _ I h) fun u s1 ⟨v, H1, I1, r1, q1⟩ => args_nil ?_) hs) hs rfl))) hs2) hs2 rfl))
  obtain ⟨a, xs, ev, hq, q⟩ := q1
  subst ev
  obtain rfl : u = Value.ref a := r1
  obtain ⟨its, rv, p', hz⟩ := I1.list hq
  refine call_reversed_list p'.isList (args_nil ?_)
  have k0 : ∀ b o, s1.heap.get? b = some o → (s1.heap.push (revObj a ((its.toArray.size : Int) - 1))).get? b = some o := fun b o e => Heap.get?_push_of_some _ e
  have I2 : Inv X pins σ H1 { s1 with heap := s1.heap.push (revObj a ((its.toArray.size : Int) - 1)) } := I1.kept (t' := s1.toks) k0
  obtain ⟨f0, f1, f2, f3, f4, f5⟩ := I1.fpOk (H' := H1) (b := s1.heap.objs.size) (Nat.le_refl _) (I1.hok.fresh (Nat.le_refl _))
  have hl := p'.isList
  obtain ⟨ol, hol, _⟩ := id hl
  have hne : a ≠ s1.heap.objs.size := Nat.ne_of_lt (Heap.lt_size hol)
  have hn : its.toArray.size ≤ sizeLine := by rw [List.size_toArray, ← rv.length]; exact hz
  refine call_list_rev (s := { s1 with heap := s1.heap.push (revObj a ((its.toArray.size : Int) - 1)) }) (I1.ok.hd hc) ⟨_, Heap.get?_push_size _ rfl, rfl, rfl⟩ (hl.push _) hne hn fun h' tk acc c' hk e' hi => ?_
  have I3 : Inv X pins σ H1 { s1 with heap := h', toks := tk } := I2.turned (t' := tk) (fun b o hb e => hk b o hb e) f0 f1 f3 f4 f5
  have sz : (s1.heap.push (revObj a ((its.toArray.size : Int) - 1))).objs.size = s1.heap.objs.size + 1 := by simp [Heap.push]
  refine ⟨.ref (s1.heap.push (revObj a ((its.toArray.size : Int) - 1))).objs.size, upd H1 (s1.heap.push (revObj a ((its.toArray.size : Int) - 1))).objs.size (.lst xs.reverse), ?_, rfl, q _ ?_⟩
  · refine I1.laid (t' := tk) (fun b o e => hk b o (Nat.ne_of_lt (Heap.lt_size e)) (k0 b o e)) (by rw [sz]; omega) (show ObjOk X.prog X.w _ _ _ (.lst xs.reverse) from ⟨by rw [List.length_reverse]; exact hz, acc.toList, c', vals_rev rv hi, ?_⟩)
    rw [Array.toArray_toList]; exact e'
  · exact I1.hok.fresh (by rw [sz]; omega)
end
end L2

namespace VL
open PySem PySem.Spec PyProof.Rows L2
/-! ### slots that are lent -/
def kills : OEnv → List Nat → OEnv
  | ρ, [] => ρ
  | ρ, i :: is => kills (ρ.set i none) is
def outs : OEnv → List Nat → List O → OEnv
  | ρ, i :: is, o :: os => (outs (ρ.set i none) is os).set i (some o)
  | ρ, _, _ => ρ
def getsO : OEnv → List Nat → Option (List O)
  | _, [] => some []
  | ρ, i :: is => match ρ[i]? with
    | some (some o) => (match getsO (ρ.set i none) is with
      | some os => some (o :: os)
      | none => none)
    | _ => none
def getsV (σ : L2.St) : List Nat → List V → Prop
  | [], vs => vs = []
  | i :: is, vs => ∃ v vs', vs = v :: vs' ∧ σ[i]? = some (some v) ∧ getsV σ is vs'
theorem outs_len : ∀ (ρ : OEnv) (is : List Nat) (os : List O), (outs ρ is os).length = ρ.length
  | ρ, [], os => by cases os <;> rfl
  | ρ, i :: is, [] => rfl
  | ρ, i :: is, o :: os => by rw [outs, List.length_set, outs_len, List.length_set]
theorem getsO_len : ∀ {ρ : OEnv} {is : List Nat} {os : List O}, getsO ρ is = some os → is.length = os.length
  | ρ, [], os, h => by cases h; rfl
  | ρ, i :: is, os, h => by
    simp only [getsO] at h
    split at h
    · split at h
      · rename_i o _ os' e
        cases h
        rw [List.length_cons, List.length_cons, getsO_len e]
      · cases h
    · cases h
theorem Slots.lend {K : PySem.W.Frag} {F H : Hp} : ∀ (is : List Nat) {σ : L2.St} {ρ : OEnv} {fps : List Addr} {os : List O}, Slots K F H σ ρ fps → getsO ρ is = some os →
    ∃ vs fl fr, getsV σ is vs ∧ OwnL K F H vs os fl ∧ fps.Perm (fl ++ fr) ∧ Slots K F H σ (kills ρ is) fr ∧
      ∀ F' H' os' fl', OwnL K F' H' vs os' fl' → Same F F' → (∀ a ∈ fr, H' a = H a) → ∃ fps', Slots K F' H' σ (outs ρ is os') fps' ∧ ((fl' ++ fr).Nodup → fps'.Nodup) ∧ ∀ a ∈ fps', a ∈ fl' ++ fr
  | [], σ, ρ, fps, os, h, e => by
    cases e
    refine ⟨[], [], fps, rfl, .nil, .refl _, h, fun F' H' os' fl' q1 q2 q3 => ?_⟩
    cases q1
    exact ⟨fps, h.keep q2 q3, id, fun a ha => ha⟩
  | i :: is, σ, ρ, fps, os, h, e => by
    simp only [getsO] at e
    split at e
    · rename_i o eo
      split at e
      · rename_i os1 e1
        cases e
        obtain ⟨v, fp, fpr, z1, z2, z3, z4, _⟩ := h.split eo
        have s0 := z4 (some v)
        rw [set_same z1] at s0
        obtain ⟨vs, fl, fr, g1, g2, g3, g4, g5⟩ := Slots.lend is s0 e1
        have lt : i < ρ.length := (List.getElem?_eq_some_iff.mp eo).1
        refine ⟨v :: vs, fp ++ fl, fr, ⟨v, vs, rfl, z1, g1⟩, .cons z2 g2, ?_, g4, fun F' H' os' fl' q1 q2 q3 => ?_⟩
        · rw [List.append_assoc]; exact z3.trans (List.Perm.append_left fp g3)
        · cases q1 with
          | @cons _ _ o' os'' f1 f2 k1 k2 =>
            obtain ⟨fps1, w1, w2, w3⟩ := g5 F' H' os'' f2 k2 q2 q3
            obtain ⟨fps2, y1, fpr2, y2, y3⟩ := w1.put k1 i (by rw [outs_len, List.length_set]; exact lt)
            rw [set_same z1] at y1
            refine ⟨fps2, y1, fun nd => ?_, fun a ha => ?_⟩
            · rw [List.append_assoc] at nd
              obtain ⟨n1, n2, n3⟩ := List.nodup_append.mp nd
              refine y2.nodup_iff.mpr (List.nodup_append.mpr ⟨n1, (w2 n2).sublist y3, fun a ha b hb => n3 a ha b (w3 b (y3.subset hb))⟩)
            · rw [List.append_assoc]
              rcases List.mem_append.mp (y2.mem_iff.mp ha) with q | q
              · exact List.mem_append_left _ q
              · exact List.mem_append_right _ (w3 a (y3.subset q))
      · cases e
    · cases e
theorem Slots.ofOwnL {K : PySem.W.Frag} {F H : Hp} : ∀ {os : List O} {vs : List V} {fp : List Addr}, OwnL K F H vs os fp → Slots K F H (vs.map some) (os.map some) fp
  | [], _, _, h => by cases h; exact .nil
  | o :: os, _, _, h => by cases h with | cons h1 h2 => exact .ow h1 (Slots.ofOwnL h2)
theorem Slots.toOwnL {K : PySem.W.Frag} {F H : Hp} : ∀ {os : List O} {vs : List V} {fp : List Addr}, vs.length = os.length → Slots K F H (vs.map some) (os.map some) fp → OwnL K F H vs os fp
  | [], [], _, _, h => by cases h; exact .nil
  | o :: os, v :: vs, _, l, h => by cases h with | ow h1 h2 => exact .cons h1 (Slots.toOwnL (by simpa using l) h2)
  | [], _ :: _, _, l, _ => by simp at l
  | _ :: _, [], _, l, _ => by simp at l
theorem RS.lend {K : PySem.W.Frag} {F0 H0 F H : Hp} {σ : L2.St} {ρ : OEnv} {is : List Nat} {os : List O} (r : RS K F0 H0 F H σ ρ) (e : getsO ρ is = some os) :
    ∃ vs Hc, getsV σ is vs ∧ vs.length = os.length ∧ Same Hc H ∧ RS K F Hc F H (vs.map some) (os.map some) ∧
      (∀ F2 H2 v o os2, os2.length = vs.length → RS K F Hc F2 H2 (some v :: vs.map some) (some o :: os2.map some) → RS K F0 H0 F2 H2 (some v :: σ) (some o :: outs ρ is os2)) ∧
      (∀ F2 H2, Hs F Hc F2 H2 [] → RS K F0 H0 F2 H2 σ (kills ρ is)) := by
  obtain ⟨fps, sl, hs⟩ := r.ex
  obtain ⟨vs, fl, fr, g1, g2, g3, g4, g5⟩ := sl.lend is e
  have hp : Hs F0 H0 F H (fl ++ fr) := hs.perm g3
  have nd := List.nodup_append.mp hp.nd
  have hc : Same (cutH H fl) H := fun a u z => by
    by_cases m : a ∈ fl
    · rw [cutH_in m] at z; cases z
    · rw [cutH_out m] at z; exact z
  have lst : ∀ a ∈ fr, ∃ u, H a = some u := fun a ha => by
    obtain ⟨u, z, _⟩ := g4.lstAt a ha; exact ⟨u, z⟩
  have kp : ∀ a ∈ fr, cutH H fl a = H a := fun a ha => cutH_out fun m => nd.2.2 a m a ha rfl
  have keep : ∀ {H2 : Hp}, Same (cutH H fl) H2 → ∀ a ∈ fr, H2 a = H a := fun {H2} w a ha => by
    obtain ⟨u, z⟩ := lst a ha
    rw [z]
    exact w _ _ ((kp a ha).trans z)
  have cut0 : ∀ a, cutH H fl a = none → H0 a = none := fun a ha => by
    by_cases m : a ∈ fl
    · exact (hp.ow a (List.mem_append_left _ m)).2
    · rw [cutH_out m] at ha; exact Same.free hs.h0 ha
  have fnone : ∀ {F2 H2 : Hp} {f2 : List Addr}, Hs F (cutH H fl) F2 H2 f2 → ∀ a ∈ fr, F2 a = none := fun {F2 H2 f2} w a m => by
    cases q : F2 a with
    | none => rfl
    | some u =>
      have := w.nw a (hp.ow a (List.mem_append_right _ m)).1 (by rw [q]; exact fun w => nomatch w)
      obtain ⟨u', z⟩ := lst a m
      rw [kp a m, z] at this
      cases this
  have h0c : ∀ {F2 H2 : Hp} {f2 : List Addr}, Hs F (cutH H fl) F2 H2 f2 → Same H0 H2 := fun {F2 H2 f2} w a u z => by
    refine w.h0 _ _ ?_
    rw [cutH_out fun m => by rw [(hp.ow a (List.mem_append_left _ m)).2] at z; cases z]
    exact hs.h0 _ _ z
  have nwc : ∀ {F2 H2 : Hp} {f2 : List Addr}, Hs F (cutH H fl) F2 H2 f2 → ∀ a, F0 a = none → F2 a ≠ none → H0 a = none := fun {F2 H2 f2} w a z1 z2 => by
    cases q : F a with
    | some u => exact hs.nw a z1 (by rw [q]; exact fun w => nomatch w)
    | none => exact cut0 a (w.nw a q z2)
  refine ⟨vs, cutH H fl, g1, g2.len, hc, ⟨fl, Slots.ofOwnL g2, nd.1, fun a ha => ⟨(hp.ow a (List.mem_append_left _ ha)).1, cutH_in ha⟩, hs.fh, Same.refl F, hc, fun a z1 z2 => absurd z1 z2⟩, fun F2 H2 v o os2 hl r2 => ?_, fun F2 H2 w => ?_⟩
  · obtain ⟨f2, s2, w⟩ := r2.ex
    cases s2 with
    | @ow _ _ fo _ _ ft k1 k2 =>
      obtain ⟨fps', y1, y2, y3⟩ := g5 F2 H2 os2 ft (Slots.toOwnL hl.symm k2) w.f0 (keep w.h0)
      have wn := List.nodup_append.mp w.nd
      have dis : ∀ a ∈ fo ++ ft, a ∉ fr := fun a ha m => by
        obtain ⟨u, z⟩ := lst a m
        have := (w.ow a ha).2
        rw [kp a m, z] at this
        cases this
      have nd2 : (ft ++ fr).Nodup := List.nodup_append.mpr ⟨wn.2.1, nd.2.1, fun a ha b hb e => by subst e; exact dis a (List.mem_append_right _ ha) hb⟩
      refine ⟨fo ++ fps', .ow k1 y1, List.nodup_append.mpr ⟨wn.1, y2 nd2, fun a ha b hb e => ?_⟩, fun a ha => ?_, w.fh, hs.f0.trans w.f0, h0c w, nwc w⟩
      · subst e
        rcases List.mem_append.mp (y3 a hb) with q | q
        · exact wn.2.2 a ha a q rfl
        · exact dis a (List.mem_append_left _ ha) q
      · rcases List.mem_append.mp ha with q | q
        · exact ⟨(w.ow a (List.mem_append_left _ q)).1, cut0 a (w.ow a (List.mem_append_left _ q)).2⟩
        · rcases List.mem_append.mp (y3 a q) with q | q
          · exact ⟨(w.ow a (List.mem_append_right _ q)).1, cut0 a (w.ow a (List.mem_append_right _ q)).2⟩
          · exact ⟨fnone w a q, (hp.ow a (List.mem_append_right _ q)).2⟩
  · exact ⟨fr, g4.keep w.f0 (keep w.h0), nd.2.1, fun a ha => ⟨fnone w a ha, (hp.ow a (List.mem_append_right _ ha)).2⟩, w.fh, hs.f0.trans w.f0, h0c w, nwc w⟩
/-! ### what a def with lent things gives -/
inductive MR where
  | stuck
  | err (c : Str)
  | ok (o : O) (os : List O)
def parOf : O → Option Addr
  | .par a _ => some a
  | _ => none
/-- the same things, each at its place -/
def samePar : List O → List O → Bool
  | [], [] => true
  | .par a _ :: xs, .par b _ :: ys => (a == b) && samePar xs ys
  | _, _ => false
def fits (a b : Option (List O)) : Option (List O) := match a, b with
  | some xs, some ys => if samePar xs ys then some ys else none
  | _, _ => none
/-- ls: the lent ones among the first slots -/
def runM (N : Nat) (ls : List Nat) (g : OEnv → SR) (ρa : OEnv) : MR := match g (ρa ++ List.replicate (N - ρa.length) none) with
  | .rt o ρ' => (match fits (getsO ρa ls) (getsO ρ' ls) with | some os => .ok o os | none => .stuck)
  | .nx ρ' => (match fits (getsO ρa ls) (getsO ρ' ls) with | some os => .ok (.fz .none) os | none => .stuck)
  | .err c _ => .err c
  | _ => .stuck
def spM (K : PySem.W.Frag) (mg : Str → Option Value) (n : Nat) (ls : List Nat) (g : OEnv → MR) : Sp := fun vs H Q E => vs.length = n ∧ ∃ F Hc ρa, RS K F Hc F H (vs.map some) ρa ∧ ρa.length = n ∧
  match g ρa with
  | .stuck => False
  | .err c => ∀ H' F', Hs F Hc F' H' [] → ∃ C, mg c = some (.ref C) ∧ E (.ref C) none H'
  | .ok o os => ∀ v H' F' us, getsV (vs.map some) ls us → us.length = os.length → RS K F Hc F' H' (some v :: us.map some) (some o :: os.map some) → Q v H'
theorem slots_more {K : PySem.W.Frag} {F H : Hp} {σ : L2.St} {ρ : OEnv} {fps : List Addr} (h : Slots K F H σ ρ fps) (m : Nat) : Slots K F H (σ ++ List.replicate m none) (ρ ++ List.replicate m none) fps := by
  induction h with
  | nil =>
    induction m with
    | zero => exact .nil
    | succ m ih => exact .un ih
  | un _ ih => exact .un ih
  | ow h1 _ ih => exact .ow h1 ih
theorem own_par {K : PySem.W.Frag} {F H : Hp} {v : V} {a : Addr} {o : O} {fp : List Addr} (h : Own K F H v (.par a o) fp) : v = .ref a := by cases h; rfl
theorem samePar_eq {K : PySem.W.Frag} {F H F' H' : Hp} : ∀ {xs ys : List O} {us ws : List V} {fp fq : List Addr}, samePar xs ys = true → OwnL K F H us xs fp → OwnL K F' H' ws ys fq → us = ws
  | [], [], _, _, _, _, _, h1, h2 => by cases h1; cases h2; rfl
  | x :: xs, [], _, _, _, _, h, _, _ => by cases x <;> simp [samePar] at h
  | [], y :: ys, _, _, _, _, h, _, _ => by cases y <;> simp [samePar] at h
  | x :: xs, y :: ys, _, _, _, _, h, h1, h2 => by
    cases x <;> cases y <;> simp only [samePar, Bool.false_eq_true, Bool.and_eq_true, beq_iff_eq] at h
    obtain ⟨rfl, h⟩ := h
    cases h1 with
    | cons a1 a2 =>
      cases h2 with
      | cons b1 b2 => rw [own_par a1, own_par b1, samePar_eq h a2 b2]
theorem fits_some {a b : Option (List O)} {os : List O} (h : fits a b = some os) : ∃ xs, a = some xs ∧ b = some os ∧ samePar xs os = true := by
  unfold fits at h
  split at h
  · split at h
    · cases h; exact ⟨_, rfl, rfl, by assumption⟩
    · cases h
  · cases h
theorem getsV_more {σ σ' : L2.St} : ∀ {is : List Nat} {vs : List V}, getsV σ is vs → getsV (σ ++ σ') is vs
  | [], vs, h => h
  | i :: is, vs, ⟨v, vs', e1, e2, e3⟩ => ⟨v, vs', e1, by rw [List.getElem?_append_left (List.getElem?_eq_some_iff.mp e2).1]; exact e2, getsV_more e3⟩
theorem getsV_det {σ : L2.St} : ∀ {is : List Nat} {vs us : List V}, getsV σ is vs → getsV σ is us → vs = us
  | [], vs, us, h, g => by rw [h, g]
  | i :: is, vs, us, ⟨v, vs', e1, e2, e3⟩, ⟨u, us', g1, g2, g3⟩ => by
    rw [e2] at g2; cases g2
    rw [e1, g1, getsV_det e3 g3]
section
variable {P : Program} {w : World} {K : PySem.W.Frag} {mg : Str → Option Value} {base : Heap}
/-- what stands at a def's end of what was lent -/
theorem end_lent {F Hc H F' H' : Hp} {vs : List V} {ρa ρ' : OEnv} {σ' : L2.St} {ls : List Nat} {v : V} {o : O} {os : List O} (ra : RS K F Hc F H (vs.map some) ρa) (r : RS K F Hc F' H' (some v :: σ') (some o :: ρ')) (h : fits (getsO ρa ls) (getsO ρ' ls) = some os) :
    ∃ us, getsV (vs.map some) ls us ∧ us.length = os.length ∧ RS K F Hc F' H' (some v :: us.map some) (some o :: os.map some) := by
  obtain ⟨xs, e1, e2, e3⟩ := fits_some h
  obtain ⟨fa, sa, _⟩ := ra.ex
  obtain ⟨us, fl, fr, g1, g2, _⟩ := sa.lend ls e1
  obtain ⟨fp, s, hs⟩ := r.ex
  cases s with
  | @ow _ _ fo _ _ ft k1 k2 =>
    obtain ⟨ws, fl2, fr2, w1, w2, w3, _⟩ := k2.lend ls e2
    have := samePar_eq e3 g2 w2
    subst this
    refine ⟨us, g1, w2.len, fo ++ fl2, .ow k1 (Slots.ofOwnL w2), (hs.perm (List.Perm.append_left fo w3)).sub ?_⟩
    rw [← List.append_assoc]
    exact List.sublist_append_left _ _
/-- THE RULE for a def with lent things -/
theorem fn_vlM {x qual : Str} {st : Stmt} {f : Addr} {fd : FuncData} {N ps : List Str} {k n : Nat} {ls : List Nat} {g : OEnv → SR} (F : Fun K x qual st f fd) (S : FnScope N ps (defScope st)) (hn : n = ps.length)
    (hb : ∀ (cdv : Value) (A : Around) (outer : List Env) (s : Shared) (H : Hp) (E : XK), Room k (A.deeper (envOfC qual (defScope st) s.heap.objs.size f cdv)) →
      VSs (cxOf (L2.CX P w) P w K mg base N qual (defScope st) f cdv A outer s H E) (fun cls d _ H => E cls d H) (defBody st) g) :
    FnOk P w K mg base (L2.CX P w) (k + 1) f fd ps (spM K mg n ls (runM N.length ls g)) := by
  refine F.okX S (fun vs H Q E h => by rw [h.1, hn]) (fun cdv A outer s H vs Q E hr h => ?_)
  obtain ⟨hl, F, Hc, ρa, ra, hla, post⟩ := h
  obtain ⟨t, p, q⟩ := (hb cdv A outer s H E hr).ex
  refine ⟨t, p, q _ _ H F Hc F (ρa ++ List.replicate (N.length - ρa.length) none) ?_ ?_⟩
  · obtain ⟨fps, sl, hs⟩ := ra.ex
    refine ⟨fps, ?_, hs⟩
    unfold L2.start
    rw [show vs.length = ρa.length by rw [hl, hla]]
    exact slots_more sl _
  · unfold runM at post
    generalize g (ρa ++ List.replicate (N.length - ρa.length) none) = r at post ⊢
    cases r with
    | stuck => exact post
    | err c ρ =>
      intro σ' H' F' x
      obtain ⟨fps, _, hs⟩ := x.ex
      exact post H' F' (hs.sub (List.nil_sublist _))
    | nx ρ =>
      intro σ' H' F' x
      cases e : fits (getsO ρa ls) (getsO ρ ls) with
      | none => simp only [e] at post
      | some os =>
        simp only [e] at post
        obtain ⟨us, e1, e2, e3⟩ := end_lent ra x.non e
        exact post .non H' F' us e1 e2 e3
    | bk ρ => exact post.elim
    | ct ρ => exact post.elim
    | rt o ρ =>
      intro v σ' H' F' x
      cases e : fits (getsO ρa ls) (getsO ρ ls) with
      | none => simp only [e] at post
      | some os =>
        simp only [e] at post
        obtain ⟨us, e1, e2, e3⟩ := end_lent ra x e
        exact post v H' F' us e1 e2 e3
/-- its answer frozen -/
def frzM (g : OEnv → MR) : OEnv → MR := fun ρa => match g ρa with
  | .ok o os => .ok (.fz o.data) os
  | r => r
theorem fn_frzM {f : Addr} {fd : FuncData} {ps ls} {k n : Nat} {g : OEnv → MR} (F : FnOk P w K mg base (L2.CX P w) k f fd ps (spM K mg n ls g)) : FnOk P w K mg base (L2.CX P w) k f fd ps (spM K mg n ls (frzM g)) := by
  refine F.imp fun vs H Q E h => ?_
  obtain ⟨hl, F, Hc, ρa, ra, hla, post⟩ := h
  refine ⟨hl, F, Hc, ρa, ra, hla, ?_⟩
  unfold frzM at post
  generalize g ρa = r at post ⊢
  cases r with
  | stuck => exact post
  | err c => exact post
  | ok o os =>
    intro v H' F' us e1 e2 r
    obtain ⟨F2, r2⟩ := envT_freeze K [0] F Hc F' H' _ _ r
    refine post v H' F2 us e1 e2 ?_
    have : freeze [0] (some o :: os.map some) = some (.fz o.data) :: os.map some := rfl
    rw [this] at r2
    exact r2
end
end VL

namespace VL
open PySem PySem.Spec PyProof.Rows L2
/-! ### own classes: attributes -/
abbrev CT := List (Str × List Str)
def inCt (ct : CT) (c f : Str) : Bool := ct.any fun p => decide (p.1 = c) && p.2.any fun g => decide (g = f)
/-- the classes of the table, none of them with an attribute of the names -/
structure CTab (K : PySem.W.Frag) (ct : CT) : Prop where
  cl : ∀ c f, inCt ct c f = true → ∀ C, clsOf K c = some C → Cls K C ∧ NoAttr K C f
def lookD (f : Str) : List (PyData × PyData) → Option PyData
  | (.str g, d) :: r => if g = f then some d else lookD f r
  | _ => none
def fixS (f : Str) : List Str → Option Nat
  | [] => none
  | g :: r => if g = f then some 0 else (fixS f r).map (· + 1)
def vfld (ct : CT) (f : Str) : PyData → R PyData
  | .dict ((.none, .str c) :: ps) => if inCt ct c f = true then (match lookD f ps with | some d => .ok d | none => .stuck) else .stuck
  | _ => .stuck
theorem Is.insInv {K : PySem.W.Frag} {F : Hp} {v : V} {c : Str} {ps : List (PyData × PyData)} (h : Is K F v (.dict ((.none, .str c) :: ps))) :
    ∃ (a C dx : Addr) (ns : List Str) (vs : List V) (ds : List PyData), v = .ref a ∧ clsOf K c = some C ∧ F a = some (.ins C dx (ns.zip vs)) ∧ ns.length = vs.length ∧ IsAll K F vs ds ∧ ps = (ns.map PyData.str).zip ds := by
  generalize hd : PyData.dict ((.none, .str c) :: ps) = d at h
  cases h with
  | ins h1 h2 h3 h4 =>
    unfold insD at hd
    injection hd with hd
    injection hd with e1 e2
    injection e1 with _ e1
    injection e1 with e1
    subst e1
    exact ⟨_, _, _, _, _, _, rfl, h1, h2, h3, h4, e2⟩
  | exc a c' => injection hd with hd; injection hd with e1 _; injection e1 with _ e1; cases e1
  | dct h1 h2 h3 => unfold dctD at hd; injection hd with hd; injection hd with e1 _; injection e1 with _ e1; cases e1
  | _ => cases hd
theorem look_is {K : PySem.W.Frag} {F : Hp} {f : Str} : ∀ {ns : List Str} {vs : List V} {ds : List PyData} {d : PyData}, ns.length = vs.length → IsAll K F vs ds → lookD f ((ns.map PyData.str).zip ds) = some d → ∃ v, (ns.zip vs).lookup f = some v ∧ Is K F v d
  | [], vs, ds, d, _, _, h => by simp [lookD] at h
  | n :: ns, [], ds, d, l, _, _ => by simp at l
  | n :: ns, v :: vs, _, d, l, ha, h => by
    cases ha with
    | cons h1 h2 =>
      simp only [List.map_cons, List.zip_cons_cons, lookD] at h
      rw [List.zip_cons_cons, List.lookup_cons]
      by_cases e : n = f
      · rw [if_pos e] at h
        cases h
        subst e
        exact ⟨v, by simp, h1⟩
      · rw [if_neg e] at h
        have e2 : (f == n) = false := beq_eq_false_iff_ne.mpr fun z => e z.symm
        rw [e2]
        exact look_is (by simpa using l) h2 h
section
variable {X : Cx} {W : WX} {a b c e oe : Expr} {es : List Expr} {pos : Pos} {fa : PEnv → R PyData} {hx hk : OEnv → R PyData} {hp : OEnv → R (Nat × List Nat)} {ho : OEnv → R (O × OEnv)} {k : Nat} {ct : CT}
theorem vfld_ {f : Str} (hT : CTab X.K ct) (ha : VE X W a fa) (hb : attributeBase a f X.env (eval a X.env) = eval a X.env := by rfl) : VE X W (.Attribute a f pos) (v1 (vfld ct f) fa) := by
  obtain ⟨ta, pa, qa⟩ := ha.ex
  refine VE.mk' (pe_fld pa hb) fun σ H B ρ Q s rf p => ?_
  refine one qa s rf p fun d x H' B' ex sm dx pg => ?_
  unfold vfld at pg
  split at pg
  · rename_i cn ps
    split at pg
    · rename_i hc
      obtain ⟨ad, C, dx', ns, vs, ds, rfl, h1, h2, h3, h4, rfl⟩ := dx.insInv
      split at pg
      · rename_i d' hl
        obtain ⟨v, e1, e2⟩ := look_is h3 h4 hl
        obtain ⟨g1, g2⟩ := hT.cl cn f hc C h1
        exact ⟨ad, C, dx', _, v, rfl, ex.bh _ _ h2, g1, g2, e1, pg v H' B' ex e2⟩
      · exact pg.elim
    · exact pg.elim
  · exact pg.elim
/-- o.f as a place -/
def pFld (ct : CT) (f : Str) (h : OEnv → R (Nat × List Nat)) : OEnv → R (Nat × List Nat) := fun ρ => (h ρ).bind fun ip => match ρ[ip.1]? with
  | some (some o) => (match o.at ip.2 with
    | some (.ins c ns _) => if inCt ct c f = true then (match fixS f ns with | some k => .ok (ip.1, ip.2 ++ [k]) | none => .stuck) else .stuck
    | _ => .stuck)
  | _ => .stuck
theorem fix_look {f : Str} : ∀ {ns : List Str} {vs : List V} {k : Nat}, ns.length = vs.length → fixS f ns = some k → k < vs.length ∧ (ns.zip vs).lookup f = vs[k]?
  | [], vs, k, _, h => by simp [fixS] at h
  | n :: ns, [], k, l, _ => by simp at l
  | n :: ns, v :: vs, k, l, h => by
    simp only [fixS] at h
    rw [List.zip_cons_cons, List.lookup_cons]
    by_cases e : n = f
    · rw [if_pos e] at h
      cases h
      subst e
      exact ⟨by simp, by simp⟩
    · rw [if_neg e] at h
      have e2 : (f == n) = false := beq_eq_false_iff_ne.mpr fun z => e z.symm
      cases hk : fixS f ns with
      | none => rw [hk] at h; simp at h
      | some j =>
        rw [hk] at h
        simp at h
        subst h
        obtain ⟨q1, q2⟩ := fix_look (vs := vs) (by simpa using l) hk
        exact ⟨by simpa using q1, by rw [e2]; simpa using q2⟩
theorem vpl_fld {f : Str} (hT : CTab X.K ct) (h : VPl X W a hp) (hb : attributeBase a f X.env (eval a X.env) = eval a X.env := by rfl) : VPl X W (.Attribute a f pos) (pFld ct f hp) := by
  obtain ⟨t, p, q⟩ := h.ex
  refine ⟨_, pe_fld p hb, fun σ H F0 H0 F ρ Q r pr => ?_⟩
  refine q σ H F0 H0 F ρ _ r ?_
  unfold pFld at pr
  generalize hp ρ = rp at pr ⊢
  cases rp with
  | stuck => exact pr
  | err c => exact pr
  | ok ip =>
    simp only [R.bind_ok] at pr
    cases hρ : ρ[ip.1]? with
    | none => rw [hρ] at pr; exact pr.elim
    | some oo =>
      cases oo with
      | none => rw [hρ] at pr; exact pr.elim
      | some o =>
        rw [hρ] at pr
        simp only at pr
        obtain ⟨v, ev⟩ := r.slot hρ
        cases ho : o.at ip.2 with
        | none => rw [ho] at pr; exact pr.elim
        | some o1 =>
          rw [ho] at pr
          refine ⟨o, v, hρ, ev, ⟨o1, ho⟩, fun v' H1 F1 ex1 pt => ?_⟩
          have r1 := r.ext ex1
          obtain ⟨v0, v2, f1, fy, g1, g2, g3, _, _, _, fh, _⟩ := r1.non.place hρ ho
          have g1' : σ[ip.1]? = some (some v0) := g1
          rw [ev] at g1'
          cases g1'
          have := pt.det g2
          subst this
          cases o1 with
          | ins cn ns os =>
            simp only at pr
            split at pr
            · rename_i hc
              cases hix : fixS f ns with
              | none => rw [hix] at pr; exact pr.elim
              | some k =>
                rw [hix] at pr
                obtain ⟨o3, v3, e1, e2, ⟨o4, e3⟩, qq⟩ := pr
                have e1' : ρ[ip.1]? = some (some o3) := e1
                rw [hρ] at e1'; cases e1'
                have e2' : σ[ip.1]? = some (some v3) := e2
                rw [ev] at e2'; cases e2'
                cases g3 with
                | @ins ad C dx _ _ vs _ fi hcl ha hd hl how =>
                  obtain ⟨lk, look⟩ := fix_look hl hix
                  obtain ⟨c1, c2⟩ := hT.cl cn f hc C hcl
                  have hv := List.getElem?_eq_getElem lk
                  refine ⟨ad, C, dx, _, vs[k], rfl, ha, c1, c2, by rw [look, hv], qq _ H1 F1 ex1 ?_⟩
                  refine pt.app ho (.ins hcl ha hl how.len hv (List.getElem?_eq_getElem (by rw [← how.len]; exact lk)) .nil)
            · exact pr.elim
          | _ => exact pr.elim
end

/-! o.f = e -/
def putN {α : Type} (f : Str) (x : α) (ns : List Str) (xs : List α) : List Str × List α := match fixS f ns with
  | some k => (ns, xs.set k x)
  | none => (ns ++ [f], xs ++ [x])
theorem putF_zip (f : Str) (y : V) : ∀ {ns : List Str} {vs : List V}, ns.length = vs.length → putF f y (ns.zip vs) = (putN f y ns vs).1.zip (putN f y ns vs).2
  | [], [], _ => rfl
  | n :: ns, [], l => by simp at l
  | [], v :: vs, l => by simp at l
  | n :: ns, v :: vs, l => by
    have ih := putF_zip f y (ns := ns) (vs := vs) (by simpa using l)
    rw [List.zip_cons_cons, putF]
    unfold putN at ih ⊢
    simp only [fixS]
    by_cases e : n = f
    · rw [if_pos e, if_pos e]; rfl
    · rw [if_neg e, if_neg e, ih]
      cases fixS f ns <;> rfl
theorem putN_len {α : Type} (f : Str) (x : α) {ns : List Str} {xs : List α} (l : ns.length = xs.length) : (putN f x ns xs).1.length = (putN f x ns xs).2.length := by
  unfold putN; cases fixS f ns <;> simp [l]
theorem putN_names {α β : Type} (f : Str) (x : α) (y : β) (ns : List Str) (xs : List α) (ys : List β) : (putN f x ns xs).1 = (putN f y ns ys).1 := by
  unfold putN; cases fixS f ns <;> rfl
theorem chg_putN (f : Str) (ns : List Str) : Chg (fun vs y => (putN f y ns vs).2) (fun os o => (putN f o ns os).2) := by
  unfold putN
  cases fixS f ns with
  | none => exact chg_app
  | some k => exact chg_set k
theorem RS.mutI {K : PySem.W.Frag} {F0 H0 F H : Hp} {σ : L2.St} {ρ : OEnv} {y : V} {oy : O} {i : Nat} {o : O} {c : Str} {ns : List Str} {os : List O} {p : List Nat} (r : RS K F0 H0 F H (some y :: σ) (some oy :: ρ)) (ei : ρ[i]? = some (some o)) (ep : o.at p = some (.ins c ns os)) :
    ∃ v a C dx vs, σ[i]? = some (some v) ∧ Pth K F H v o p (.ref a) ∧ clsOf K c = some C ∧ H a = some (.ins C dx (ns.zip vs)) ∧ ns.length = vs.length ∧ vs.length = os.length ∧
      ∀ f, RS K F0 H0 F (upd H a (.ins C dx (putF f y (ns.zip vs)))) σ (ρ.set i (some (o.put p (.ins c (putN f oy ns os).1 (putN f oy ns os).2)))) := by
  obtain ⟨v, v', f1, fy, e1, e2, e3, e4, nd, fn, fh, back⟩ := r.place ei ep
  cases e3 with
  | @ins a C dx _ _ vs _ fi hcl ha hdx hln hl =>
    refine ⟨v, a, C, dx, vs, e1, e2, hcl, ha, hln, hl.len, fun f => back F _ _ ?_⟩
    have nd2 := List.nodup_append.mp nd
    have nda := List.nodup_cons.mp nd2.2.1
    have ndx := List.nodup_cons.mp nda.2
    have na_y : a ∉ fy := fun m => nd2.2.2 a m a List.mem_cons_self rfl
    have na_i : a ∉ fi := fun m => nda.1 (List.mem_cons_of_mem _ m)
    have na_x : a ≠ dx := fun e => nda.1 (e ▸ List.mem_cons_self)
    generalize hnew : (HO.ins C dx (putF f y (ns.zip vs))) = new
    have hk : ∀ b, b ≠ a → upd H a new b = H b := fun b hb => upd_ne hb
    have o1 : Own K F (upd H a new) y oy fy := e4.keep (Same.refl F) fun b hb => hk b fun e => na_y (e ▸ hb)
    have l1 : OwnL K F (upd H a new) vs os fi := hl.keep (Same.refl F) fun b hb => hk b fun e => na_i (e ▸ hb)
    obtain ⟨fp', z1, fp'', z2, z3⟩ := (chg_putN f ns).own l1 o1
    have sub : ∀ b ∈ fp', b ∈ fi ++ fy := fun b hb => z3.subset (z2.mem_iff.mp hb)
    have ndf : (fi ++ fy).Nodup := List.nodup_append.mpr ⟨ndx.2, nd2.1, fun x hx w hw e => nd2.2.2 w hw x (List.mem_cons_of_mem _ (List.mem_cons_of_mem _ hx)) e.symm⟩
    have dx_y : dx ∉ fy := fun m => nd2.2.2 dx m dx (List.mem_cons_of_mem _ List.mem_cons_self) rfl
    refine RV.cell (fi := dx :: fp') fh nd fn (List.mem_append_right _ List.mem_cons_self) (fun b hb => ?_) (fun m => ?_) (List.nodup_cons.mpr ⟨fun m => ?_, z2.nodup_iff.mpr (ndf.sublist z3)⟩) ?_
    · rcases List.mem_cons.mp hb with q | q
      · subst q; exact List.mem_append_right _ (List.mem_cons_of_mem _ List.mem_cons_self)
      · rcases List.mem_append.mp (sub b q) with q | q
        · exact List.mem_append_right _ (List.mem_cons_of_mem _ (List.mem_cons_of_mem _ q))
        · exact List.mem_append_left _ q
    · rcases List.mem_cons.mp m with q | q
      · exact na_x q
      · rcases List.mem_append.mp (sub a q) with q | q
        · exact na_i q
        · exact na_y q
    · rcases List.mem_append.mp (sub dx m) with q | q
      · exact ndx.1 q
      · exact dx_y q
    · refine .ins (vs := (putN f y ns vs).2) hcl ?_ (by rw [hk dx (Ne.symm na_x)]; exact hdx) ?_ z1
      · rw [upd_same, ← hnew, putF_zip f y hln, putN_names f y oy ns vs os]
      · rw [← putN_names f y oy ns vs os]; exact putN_len f y hln
def sFldP (ct : CT) (f : Str) (hp : OEnv → R (Nat × List Nat)) (ho : OEnv → R (O × OEnv)) : OEnv → SR := fun ρ => (ho ρ).sr ρ fun p => (hp p.2).sr p.2 fun ip => match p.2[ip.1]? with
  | some (some o) => (match o.at ip.2 with
    | some (.ins c ns os) => if inCt ct c f = true ∧ ns.length < 1000 then .nx (p.2.set ip.1 (some (o.put ip.2 (.ins c (putN f p.1 ns os).1 (putN f p.1 ns os).2)))) else .stuck
    | _ => .stuck)
  | _ => .stuck
section
variable {X : Cx} {W : WX} {a b c e oe : Expr} {es : List Expr} {pos pos' : Pos} {fa : PEnv → R PyData} {hx hk : OEnv → R PyData} {hp : OEnv → R (Nat × List Nat)} {ho : OEnv → R (O × OEnv)} {k : Nat} {ct : CT}
theorem vs_fld {f : Str} (hT : CTab X.K ct) (h1 : VPl X W oe hp) (h2 : VO X W e ho) (hs : swapsWith e (some (.Attribute oe f pos')) pos.line X.env = pure false := by rfl) : VS X W (.Assign [.Attribute oe f pos'] e pos) (sFldP ct f hp ho) := by
  obtain ⟨t1, p1, q1⟩ := h1.go
  obtain ⟨t2, p2, q2⟩ := h2.ex
  refine ⟨_, ps_fld p1 p2 hs, fun D σ H F0 H0 F ρ rs pr => ?_⟩
  unfold sFldP at pr
  refine q2 σ H F0 H0 F ρ _ rs (sr_pst rs pr fun q po y H1 F1 r1 => ?_)
  have rt := r1.tail
  refine q1 σ H1 F0 H0 F1 q.2 _ _ D rt po (fun ip o v o' e1 ev e2 po v' H2 F2 ex pt => ?_) (fun ip po => ?_)
  · rw [e1] at po
    simp only [e2] at po
    cases o' with
    | ins cn ns os =>
      simp only at po
      split at po
      · rename_i hcz
        have r2 : RS X.K F0 H0 F2 H2 (some y :: σ) (some q.1 :: q.2) := r1.ext ex
        obtain ⟨v0, a0, C, dx, vs0, g1, g2, g3, g4, g5, g6, g7⟩ := r2.mutI e1 e2
        have g1' : σ[ip.1]? = some (some v0) := g1
        rw [ev] at g1'; cases g1'
        have ea := pt.det g2
        subst ea
        obtain ⟨c1, c2⟩ := hT.cl cn f hcz.1 C g3
        refine ⟨a0, C, dx, _, rfl, g4, c1, c2, ?_, po _ _ _ (g7 f)⟩
        rw [List.length_zip, ← g5]; have := hcz.2; omega
      · exact po.elim
    | _ => exact po.elim
  · split at po
    · rename_i o eo
      split at po
      · rename_i os eo2; exact ⟨o, _, eo, eo2⟩
      · exact po.elim
    · exact po.elim
/-- o.f += e, o.f -= e of ints -/
def sFldAug (g : Int → Int → Int) (ct : CT) (f : Str) (hp : OEnv → R (Nat × List Nat)) (hx : OEnv → R PyData) : OEnv → SR := fun ρ => (hp ρ).sr ρ fun ip => match ρ[ip.1]? with
  | some (some o) => (match o.at ip.2 with
    | some (.ins c ns os) => if inCt ct c f = true ∧ ns.length < 1000 then (match fixS f ns with
      | some k => (match os[k]? with
        | some (.fz (.int i)) => (hx ρ).sr ρ fun d => (match d with
          | .int j => .nx (ρ.set ip.1 (some (o.put ip.2 (.ins c (putN f (.fz (.int (g i j))) ns os).1 (putN f (.fz (.int (g i j))) ns os).2))))
          | _ => .stuck)
        | _ => .stuck)
      | none => .stuck) else .stuck
    | _ => .stuck)
  | _ => .stuck
theorem vs_fldaug {f : Str} {g : Int → Int → Int} {op : Operator} {tpos : Pos} (hop : InOp X op fun x y H Q => ∃ i j, x = .int i ∧ y = .int j ∧ Q (.int (g i j)) H) (hT : CTab X.K ct) (h1 : VPl X W oe hp) (h2 : VX X W e hx) : VS X W (.AugAssign (.Attribute oe f tpos) op e pos) (sFldAug g ct f hp hx) := by
  obtain ⟨t1, p1, q1⟩ := h1.go
  obtain ⟨t2, p2, q2⟩ := h2.ex
  refine ⟨_, ps_fldaug p1 p2 hop, fun D σ H F0 H0 F ρ rs pr => ?_⟩
  unfold sFldAug at pr
  refine q1 σ H F0 H0 F ρ _ _ D rs pr (fun ip o v o' e1 ev e2 po v' H1 F1 ex pt => ?_) (fun ip po => ?_)
  · rw [e1] at po
    simp only [e2] at po
    cases o' with
    | ins cn ns os =>
      simp only at po
      split at po
      · rename_i hcz
        split at po
        · rename_i k ek
          split at po
          · rename_i i ei
            have r1 := rs.ext ex
            obtain ⟨v0, v2, f1, fy, g1, g2, g3, _⟩ := r1.non.place e1 e2
            have g1' : σ[ip.1]? = some (some v0) := g1
            rw [ev] at g1'; cases g1'
            have ea := pt.det g2
            subst ea
            cases g3 with
            | @ins a C dx _ _ vs _ fi hcl ha hd hl how =>
              obtain ⟨lk, look⟩ := fix_look hl ek
              obtain ⟨c1, c2⟩ := hT.cl cn f hcz.1 C hcl
              have hv := List.getElem?_eq_getElem lk
              obtain ⟨v1, w1, _, w2, w3, _⟩ := how.child ei
              rw [hv] at w2
              cases w2
              have vi : vs[k] = .int i := by
                generalize vs[k] = z at w3
                cases w3 with | fz h => cases h; rfl
              refine ⟨a, C, dx, _, vs[k], rfl, ha, c1, c2, by rw [look, hv], ?_⟩
              refine q2 σ H1 F0 H0 F1 ρ _ r1 (sr_pst r1 po fun d pd y H2 F2 ex2 dy => ?_)
              cases dy <;> first | exact pd.elim | skip
              rename_i j
              refine ⟨i, j, vi, rfl, dx, ns.zip vs, ex2.hh _ _ ha, by rw [List.length_zip, ← hl]; have := hcz.2; omega, ?_⟩
              have r2 := (r1.ext ex2).consFz (.int (g i j))
              obtain ⟨v3, a3, C3, dx3, vs3, k1, k2, k3, k4, k5, k6, k7⟩ := r2.mutI e1 e2
              have k1' : σ[ip.1]? = some (some v3) := k1
              rw [ev] at k1'; cases k1'
              have ea := (pt.mono ex2.hh ex2.bb).det k2
              cases ea
              have hh := ex2.hh _ _ ha
              rw [k4] at hh
              injection hh with hh
              injection hh with h5 h6 h7
              subst h5; subst h6
              rw [← h7]
              exact pd _ _ _ (k7 f)
          · exact po.elim
        · exact po.elim
      · exact po.elim
    | _ => exact po.elim
  · split at po
    · rename_i o eo
      split at po
      · rename_i os eo2; exact ⟨o, _, eo, eo2⟩
      · exact po.elim
    · exact po.elim
end
end VL

namespace VL
open PySem PySem.Spec PyProof.Rows L2
/-! ### calls that lend -/
inductive Ag where
  | d (x : PyData)
  | l (i : Nat)
def agL (i : Nat) : OEnv → R Ag := fun ρ => match ρ[i]? with
  | some (some _) => .ok (.l i)
  | _ => .stuck
def agD (hx : OEnv → R PyData) : OEnv → R Ag := fun ρ => (hx ρ).bind fun d => .ok (.d d)
def agNil : OEnv → R (List Ag) := fun _ => .ok []
def agCons (h : OEnv → R Ag) (g : OEnv → R (List Ag)) : OEnv → R (List Ag) := fun ρ => (h ρ).bind fun a => (g ρ).bind fun as => .ok (a :: as)
def slotsOf : List Ag → List Nat
  | [] => []
  | .d _ :: as => slotsOf as
  | .l i :: as => i :: slotsOf as
inductive AgIs (K : PySem.W.Frag) (F : Hp) (σ : L2.St) : List Ag → List V → Prop
  | nil : AgIs K F σ [] []
  | d {x : PyData} {v : V} {as : List Ag} {vs : List V} : Is K F v x → AgIs K F σ as vs → AgIs K F σ (.d x :: as) (v :: vs)
  | l {i : Nat} {v : V} {as : List Ag} {vs : List V} : σ[i]? = some (some v) → AgIs K F σ as vs → AgIs K F σ (.l i :: as) (v :: vs)
theorem AgIs.mono {K : PySem.W.Frag} {F F' : Hp} {σ : L2.St} {as : List Ag} {vs : List V} (h : AgIs K F σ as vs) (e : Same F F') : AgIs K F' σ as vs := by
  induction h with
  | nil => exact .nil
  | d h1 _ ih => exact .d (Is.mono e h1) ih
  | l h1 _ ih => exact .l h1 ih
theorem AgIs.len {K : PySem.W.Frag} {F : Hp} {σ : L2.St} {as : List Ag} {vs : List V} (h : AgIs K F σ as vs) : vs.length = as.length := by
  induction h with
  | nil => rfl
  | d _ _ ih => rw [List.length_cons, List.length_cons, ih]
  | l _ _ ih => rw [List.length_cons, List.length_cons, ih]
structure VAg1 (X : Cx) (W : WX) (e : Expr) (h : OEnv → R Ag) : Prop where
  ex : ∃ t, PE X e t ∧ ∀ σ H F0 H0 F ρ Q, RS X.K F0 H0 F H σ ρ → Pst X W σ H (fun a : Ag => ∀ v H' F', Ext F H F' H' → (∀ as vs, AgIs X.K F' σ as vs → AgIs X.K F' σ (a :: as) (v :: vs)) → Q v H') (h ρ) → t σ H Q
structure VAg (X : Cx) (W : WX) (es : List Expr) (n : Nat) (h : OEnv → R (List Ag)) : Prop where
  len : ∀ ρ as, h ρ = .ok as → as.length = n
  ex : ∃ t, PA X es t ∧ ∀ σ H F0 H0 F ρ Q, RS X.K F0 H0 F H σ ρ → Pst X W σ H (fun as : List Ag => ∀ vs H' F', Ext F H F' H' → AgIs X.K F' σ as vs → Q vs H') (h ρ) → t σ H Q
/-- an argument's tree: the lent ones in their order -/
def mkA : List Ag → List O → OEnv
  | [], _ => []
  | .d x :: as, os => some (.fz x) :: mkA as os
  | .l _ :: as, o :: os => some o :: mkA as os
  | .l _ :: as, [] => none :: mkA as []
def isBox : O → Bool
  | .lst _ => true
  | .dct _ _ => true
  | .ins _ _ _ => true
  | .par _ _ => true
  | _ => false
def wrap1 (a : Addr) : O → O
  | .par b o => .par b o
  | o => .par a o
def wrapL : List Addr → List O → List O
  | a :: as, o :: os => wrap1 a o :: wrapL as os
  | _, _ => []
def unw1 (o n : O) : O := match o, n with
  | .par _ _, n => n
  | _, .par _ t => t
  | _, n => n
def unwL : List O → List O → List O
  | o :: os, n :: ns => unw1 o n :: unwL os ns
  | _, _ => []
def callR (m : OEnv → MR) (ags : List Ag) (os : List O) (as : List Addr) : MR := match m (mkA ags (wrapL as os)) with
  | .ok o rs => if rs.length = os.length then .ok o (unwL os rs) else .stuck
  | r => r
noncomputable def callA (m : OEnv → MR) (ags : List Ag) (os : List O) : MR :=
  open Classical in if h : ∃ r, ∀ as : List Addr, as.length = os.length → callR m ags os as = r then Classical.choose h else .stuck
theorem callA_at {m : OEnv → MR} {ags : List Ag} {os : List O} (h : callA m ags os ≠ .stuck) {as : List Addr} (hl : as.length = os.length) : callR m ags os as = callA m ags os := by
  unfold callA at h ⊢
  split
  · rename_i ex; exact Classical.choose_spec ex as hl
  · rename_i ex; rw [dif_neg ex] at h; exact absurd rfl h
theorem callA_eq {m : OEnv → MR} {ags : List Ag} {os : List O} {r : MR} (h : ∀ as : List Addr, as.length = os.length → callR m ags os as = r) : callA m ags os = r := by
  unfold callA
  have ex : ∃ r, ∀ as : List Addr, as.length = os.length → callR m ags os as = r := ⟨r, h⟩
  rw [dif_pos ex]
  have l : (List.replicate os.length (0 : Addr)).length = os.length := by simp
  rw [← Classical.choose_spec ex _ l, h _ l]
inductive RM where
  | stuck
  | err (c : Str) (ρ : OEnv)
  | ok (o : O) (ρ : OEnv)
noncomputable def mCall (m : OEnv → MR) (ags : List Ag) (ρ : OEnv) : RM := match getsO ρ (slotsOf ags) with
  | some os => if os.all isBox = true then (match callA m ags os with
    | .stuck => .stuck
    | .err c => .err c (kills ρ (slotsOf ags))
    | .ok o rs => .ok o (outs ρ (slotsOf ags) rs)) else .stuck
  | none => .stuck
noncomputable def oMCall (m : OEnv → MR) (h : OEnv → R (List Ag)) : OEnv → RM := fun ρ => match h ρ with
  | .stuck => .stuck
  | .err c => .err c ρ
  | .ok ags => mCall m ags ρ
def MPst (X : Cx) (W : WX) (F0 H0 : Hp) (σ : L2.St) (Q : VK) : RM → Prop
  | .stuck => False
  | .err c ρ => ∀ H' F', RS X.K F0 H0 F' H' σ ρ → ErrAt X W c σ H'
  | .ok o ρ => ∀ v H' F', RS X.K F0 H0 F' H' (some v :: σ) (some o :: ρ) → Q v H'
structure VM (X : Cx) (W : WX) (e : Expr) (h : OEnv → RM) : Prop where
  ex : ∃ t, PE X e t ∧ ∀ σ H F0 H0 F ρ Q, RS X.K F0 H0 F H σ ρ → MPst X W F0 H0 σ Q (h ρ) → t σ H Q
theorem own_box {K : PySem.W.Frag} {F H : Hp} {v : V} {o : O} {fp : List Addr} (h : Own K F H v o fp) (b : isBox o = true) : ∃ a, v = .ref a ∧ Own K F H v (wrap1 a o) fp := by
  cases h with
  | fz h => cases b
  | tup h1 h2 => cases b
  | lst h1 h2 => exact ⟨_, rfl, .par (.lst h1 h2)⟩
  | dct h1 h2 h3 => exact ⟨_, rfl, .par (.dct h1 h2 h3)⟩
  | ins h1 h2 h3 h4 h5 => exact ⟨_, rfl, .par (.ins h1 h2 h3 h4 h5)⟩
  | par h => exact ⟨_, rfl, .par h⟩
theorem owns_box {K : PySem.W.Frag} {F H : Hp} : ∀ {os : List O} {vs : List V} {fp : List Addr}, OwnL K F H vs os fp → os.all isBox = true → ∃ as, as.length = os.length ∧ OwnL K F H vs (wrapL as os) fp
  | [], _, _, h, _ => by cases h; exact ⟨[], rfl, .nil⟩
  | o :: os, _, _, h, b => by
    simp only [List.all_cons, Bool.and_eq_true] at b
    cases h with
    | cons h1 h2 =>
      obtain ⟨a, _, e⟩ := own_box h1 b.1
      obtain ⟨as, l, e2⟩ := owns_box h2 b.2
      exact ⟨a :: as, by simp [l], .cons e e2⟩
theorem own_unw {K : PySem.W.Frag} {F H : Hp} {v : V} {o n : O} {fp : List Addr} (h : Own K F H v n fp) : Own K F H v (unw1 o n) fp := by
  cases o <;> cases n <;> first | exact h | (cases h with | par h => exact h)
theorem owns_unw {K : PySem.W.Frag} {F H : Hp} : ∀ {os ns : List O} {vs : List V} {fp : List Addr}, ns.length = os.length → OwnL K F H vs ns fp → OwnL K F H vs (unwL os ns) fp
  | [], [], _, _, _, h => h
  | o :: os, n :: ns, _, _, l, h => by
    cases h with
    | cons h1 h2 => exact .cons (own_unw h1) (owns_unw (by simpa using l) h2)
  | [], n :: ns, _, _, l, _ => by simp at l
  | o :: os, [], _, _, l, _ => by simp at l
theorem unwL_len : ∀ {os ns : List O}, ns.length = os.length → (unwL os ns).length = os.length
  | [], [], _ => rfl
  | o :: os, n :: ns, l => by rw [unwL, List.length_cons, List.length_cons, unwL_len (by simpa using l)]
  | [], n :: ns, l => by simp at l
  | o :: os, [], l => by simp at l
/-- the lent ones among the arguments -/
def lentIx : Nat → List Ag → List Nat
  | _, [] => []
  | k, .d _ :: as => lentIx (k + 1) as
  | k, .l _ :: as => k :: lentIx (k + 1) as
theorem args_slots {K : PySem.W.Frag} {F H : Hp} {σ : L2.St} : ∀ {ags : List Ag} {vs us : List V} {ws : List O} {fl : List Addr}, AgIs K F σ ags vs → getsV σ (slotsOf ags) us → us.length = ws.length → OwnL K F H us ws fl → Slots K F H (vs.map some) (mkA ags ws) fl
  | [], _, us, ws, fl, h, g, l, w => by
    cases h
    have g : us = [] := g
    subst g
    cases w
    exact .nil
  | .d x :: as, _, us, ws, fl, h, g, l, w => by
    cases h with
    | d h1 h2 => exact .ow (fp := []) (.fz h1) (args_slots h2 g l w)
  | .l i :: as, _, us, ws, fl, h, g, l, w => by
    cases h with
    | l h1 h2 =>
      obtain ⟨v, us', rfl, e1, e2⟩ := g
      cases w with
      | cons w1 w2 =>
        rw [e1] at h1; cases h1
        exact .ow w1 (args_slots h2 e2 (by simpa using l) w2)
theorem args_len : ∀ {ags : List Ag} {ws : List O}, (mkA ags ws).length = ags.length
  | [], _ => rfl
  | .d _ :: as, ws => by rw [mkA, List.length_cons, List.length_cons, args_len]
  | .l _ :: as, w :: ws => by rw [mkA, List.length_cons, List.length_cons, args_len]
  | .l _ :: as, [] => by rw [mkA, List.length_cons, List.length_cons, args_len]
theorem getsV_ix {K : PySem.W.Frag} {F : Hp} {σ : L2.St} : ∀ {ags : List Ag} {vs us : List V} {pre : List V}, AgIs K F σ ags vs → getsV σ (slotsOf ags) us → getsV ((pre ++ vs).map some) (lentIx pre.length ags) us
  | [], _, us, pre, h, g => g
  | .d x :: as, _, us, pre, h, g => by
    cases h with
    | @d _ v _ vs h1 h2 =>
      have := getsV_ix (pre := pre ++ [v]) h2 g
      rw [List.append_assoc, List.length_append] at this
      exact this
  | .l i :: as, _, us, pre, h, g => by
    cases h with
    | @l _ v _ vs h1 h2 =>
      obtain ⟨v', us', rfl, e1, e2⟩ := g
      rw [e1] at h1; cases h1
      have := getsV_ix (pre := pre ++ [v]) h2 e2
      rw [List.append_assoc, List.length_append] at this
      exact ⟨v, us', rfl, by simp, this⟩
section
variable {X : Cx} {W : WX} {a b c e oe : Expr} {es : List Expr} {pos pos' : Pos} {hx : OEnv → R PyData} {h1 : OEnv → R Ag} {hg : OEnv → R (List Ag)} {k n : Nat}
theorem vag_l (i : Nat) (pv : PE X e (tVar i)) : VAg1 X W e (agL i) := by
  refine ⟨_, pv, fun σ H F0 H0 F ρ Q r pr => ?_⟩
  unfold agL at pr
  split at pr
  · rename_i o eo
    obtain ⟨v, ev⟩ := r.slot eo
    obtain ⟨_, _, hs⟩ := r.ex
    exact ⟨v, ev, pr v H F (.refl hs.fh) fun as vs h => .l ev h⟩
  · exact pr.elim
theorem vag_d (g : VX X W e hx) : VAg1 X W e (agD hx) := by
  obtain ⟨t, p, q⟩ := g.ex
  refine ⟨t, p, fun σ H F0 H0 F ρ Q r pr => q σ H F0 H0 F ρ Q r ?_⟩
  unfold agD at pr
  generalize hx ρ = rr at pr ⊢
  cases rr with
  | stuck => exact pr
  | err c => exact pr
  | ok d => exact fun v H' F' ex dv => pr v H' F' ex fun as vs h => .d dv h
theorem vags_nil : VAg X W [] 0 agNil := ⟨fun ρ as h => by cases h; rfl, _, pa_nil, fun σ H F0 H0 F ρ Q r pr => by
  obtain ⟨_, _, hs⟩ := r.ex
  exact pr [] H F (.refl hs.fh) .nil⟩
theorem vags_cons (g1 : VAg1 X W e h1) (g2 : VAg X W es n hg) (hs : starEach (e :: es) X.env = (false, eval e X.env) :: starEach es X.env := by rfl) : VAg X W (e :: es) (n + 1) (agCons h1 hg) := by
  refine ⟨fun ρ as h => ?_, ?_⟩
  · unfold agCons at h
    cases q : h1 ρ with
    | stuck => rw [q] at h; cases h
    | err c => rw [q] at h; cases h
    | ok d =>
      rw [q] at h
      simp only [R.bind_ok] at h
      cases q2 : hg ρ with
      | stuck => rw [q2] at h; cases h
      | err c => rw [q2] at h; cases h
      | ok ds' =>
        rw [q2] at h
        injection h with h
        subst h
        rw [List.length_cons, g2.len ρ ds' q2]
  · obtain ⟨ta, pa, qa⟩ := g1.ex
    obtain ⟨tb, pb, qb⟩ := g2.ex
    refine ⟨_, pa_cons pa pb hs, fun σ H F0 H0 F ρ Q r pr => ?_⟩
    unfold agCons at pr
    refine qa σ H F0 H0 F ρ _ r ?_
    generalize h1 ρ = ra at pr ⊢
    cases ra with
    | stuck => exact pr
    | err c => exact pr
    | ok d =>
      intro v H1 F1 e1 d1
      simp only [R.bind_ok] at pr
      have r1 := r.ext e1
      refine qb σ H1 F0 H0 F1 ρ _ r1 ?_
      generalize hg ρ = rb at pr ⊢
      cases rb with
      | stuck => exact pr
      | err c => exact fun H' z => pr H' (e1.hh.trans z)
      | ok ds =>
        intro vs H2 F2 e2 d2
        refine pr _ _ _ (e1.trans e2) ?_
        have h0 := d1 [] [] .nil
        cases h0 with
        | d z _ => exact .d (Is.mono e2.bb z) d2
        | l z _ => exact .l z d2
/-- what a promise with lent things asks, and gives -/
theorem lend_sp {sp : Sp} {ls : List Nat} {g : OEnv → MR} {σ : L2.St} {H F0 H0 F : Hp} {ρ : OEnv} {Q : VK} {ags : List Ag} {vs : List V} (r : RS X.K F0 H0 F H σ ρ) (ai : AgIs X.K F σ ags vs) (hl : ags.length = n) (hls : lentIx 0 ags = ls)
    (pr : MPst X W F0 H0 σ Q (mCall g ags ρ)) : spM X.K X.mg n ls g vs H Q (WE W σ) := by
  unfold mCall at pr
  split at pr
  · rename_i os eo
    split at pr
    · rename_i hb
      obtain ⟨us, Hc, g1, g2, hc, ra, back, backE⟩ := r.lend eo
      obtain ⟨fl, sl, hs⟩ := ra.ex
      have ow := Slots.toOwnL g2 sl
      obtain ⟨as, la, ow2⟩ := owns_box ow hb
      have sa := args_slots ai g1 (by rw [ow2.len]) ow2
      refine ⟨by rw [ai.len, hl], F, Hc, mkA ags (wrapL as os), ⟨fl, sa, hs⟩, by rw [args_len, hl], ?_⟩
      have hne : callA g ags os ≠ .stuck := fun z => by rw [z] at pr; exact pr
      have ce := callA_at hne la
      unfold callR at ce
      generalize g (mkA ags (wrapL as os)) = rg at ce
      cases rg with
      | stuck => exact absurd ce.symm hne
      | err c =>
        rw [← ce] at pr
        intro H' F' w
        exact pr H' F' (backE F' H' w)
      | ok o rs =>
        simp only at ce
        split at ce
        · rename_i hrl
          rw [← ce] at pr
          intro v H' F' us' e1 e2 r2
          have := getsV_ix (pre := []) ai g1
          rw [List.nil_append, List.length_nil, hls] at this
          have e3 := getsV_det this e1
          subst e3
          refine pr v H' F' (back F' H' v o (unwL os rs) (by rw [unwL_len hrl, g2]) ?_)
          obtain ⟨f2, s2, h2⟩ := r2.ex
          cases s2 with
          | @ow _ _ fo _ _ ft k1 k2 => exact ⟨fo ++ ft, .ow k1 (Slots.ofOwnL (owns_unw hrl (Slots.toOwnL e2 k2))), h2⟩
        · exact absurd ce.symm hne
    · exact pr.elim
  · exact pr.elim
/-- f(..) that lends -/
theorem vm_call {x : Str} {f : Addr} {fd : FuncData} {ps : List Str} {ls : List Nat} {g : OEnv → MR} {p : Pos} (F : FnOk X.prog X.w X.K X.mg X.base (L2.CX X.prog X.w) k f fd ps (spM X.K X.mg n ls g)) (hr : Room k X.A) (hm : X.mg x = some (.ref f)) (hk : PySem.W.keepIn X.K (.ref f) = true) (hb : Binds X.K fd ps [])
    (tk : Takes X W) (ha : VAg X W (e :: es) n hg) (hls : ∀ ρ as, hg ρ = .ok as → lentIx 0 as = ls) (hgl : Gl X x := by rfl) (hdb : (x == ("__debug__" : Str)) = false := by decide) (he : starEach (e :: es) X.env = (false, eval e X.env) :: starEach es X.env := by rfl) (hpl : (backTo pos (starEach es X.env)).any (·.1) = false := by rfl) :
    VM X W (.Call (.Name x p) (e :: es) [] pos) (oMCall g hg) := by
  obtain ⟨t, pt, qt⟩ := ha.ex
  refine ⟨_, pe_callS F hr hgl hm hk hb (fun σ => passAt tk σ) pt hdb he hpl, fun σ H F0 H0 F1 ρ Q r pr => ?_⟩
  have hl := ha.len ρ
  have hi := hls ρ
  unfold oMCall at pr
  refine qt σ H F0 H0 F1 ρ _ r ?_
  generalize hg ρ = rr at pr hl hi ⊢
  cases rr with
  | stuck => exact pr
  | err c => exact fun H' z => pr H' F1 (r.grow z)
  | ok ags =>
    intro vs H1 F2 e1 ai
    exact lend_sp (sp := fun _ _ _ _ => True) (r.ext e1) ai (hl ags rfl) (hi ags rfl) pr
end
end VL

namespace L2
open PySem PySem.Spec PyProof.Rows
/-! ### o.m(..), C(..): what is raised is wished for at the caller's slots -/
section
variable {X : Cx} {CX : CXT} {m x : Str} {p pos apos : Pos} {e o : Expr} {es : List Expr} {ta : TE} {t : TA} {E : St → XK}
def tMethAny (X : Cx) (CX : CXT) (m : Str) (E : St → XK) (ta : TE) (t : TA) : TE := fun σ H Q => ta σ H fun x H1 => ∃ (a C dx : Addr) (fs : List (Str × V)) (f : Addr) (fd : FuncData) (ps : List Str) (k : Nat) (sp : Sp),
  x = .ref a ∧ H1 a = some (.ins C dx fs) ∧ Cls X.K C ∧ Meth X.K C m f ∧ FnOk X.prog X.w X.K X.mg X.base CX k f fd ps sp ∧ Room k X.A ∧ Binds X.K fd ps [] ∧ fs.lookup m = none ∧ t σ H1 fun vs H2 => sp (x :: vs) H2 Q (E σ)
theorem pe_methA {pl : Sem Bool} (he : PE X o ta) (hx : ∀ σ, PassesAt CX X σ (E σ)) (ha : PA X (e :: es) t)
    (hst : starEach (e :: es) X.env = (false, eval e X.env) :: starEach es X.env := by rfl) (hpl : (backTo pos (starEach es X.env)).any (·.1) = false := by rfl)
    (ht : eval (.Call (.Attribute o m apos) (e :: es) [] pos) X.env = (do
      let ov ← eval o X.env
      standAt apos.atName
      let (f, first) ← holding [ov] (getMethod ov m pl)
      callWith pos f first (backTo pos (starEach (e :: es) X.env)) (backToKw pos (keywordEach [] X.env))) := by rfl) :
    PE X (.Call (.Attribute o m apos) (e :: es) [] pos) (tMethAny X CX m E ta t) := by
  refine ⟨fun pins s σ H Q I h => ?_⟩
  refine PySem.W.methodCall_KW (pl := pl) (thn (he.run pins s σ H _ I h) fun u s1 ⟨x, H1, I1, rx, a, C, dx, fs, f, fd, ps, k, sp, ex, ea, c, hm, F, hr, hb, l, q⟩ => ?_) ht
  subst ex
  obtain rfl : u = Value.ref a := rx
  refine getmeth_ok I1 ea c hm l ?_
  refine PySem.W.callWith_K (first := [.ref a]) (h₀ := X.base) I.ok.mod.kin hm.kp (thn (ha.run pos pins s1 σ H1 _ I1 q) fun us s2 ⟨vs, H2, I2, r, q2⟩ => ⟨I2.kIn, ?_⟩) hst hpl
  exact run_fnS (us := .ref a :: us) (vs := .ref a :: vs) F hr hb (hx σ) I2 (.cons rfl r) q2
theorem pe_methA0 {pl : Sem Bool} (he : PE X o ta) (hx : ∀ σ, PassesAt CX X σ (E σ))
    (ht : eval (.Call (.Attribute o m apos) [] [] pos) X.env = (do
      let ov ← eval o X.env
      standAt apos.atName
      let (f, first) ← holding [ov] (getMethod ov m pl)
      callWith pos f first (backTo pos (starEach [] X.env)) (backToKw pos (keywordEach [] X.env))) := by rfl) :
    PE X (.Call (.Attribute o m apos) [] [] pos) (tMethAny X CX m E ta tNil) := by
  refine ⟨fun pins s σ H Q I h => ?_⟩
  refine PySem.W.methodCall_KW (pl := pl) (thn (he.run pins s σ H _ I h) fun u s1 ⟨x, H1, I1, rx, a, C, dx, fs, f, fd, ps, k, sp, ex, ea, c, hm, F, hr, hb, l, q⟩ => ?_) ht
  subst ex
  obtain rfl : u = Value.ref a := rx
  refine getmeth_ok I1 ea c hm l ?_
  exact PySem.W.callWith_K0 (first := [.ref a]) I1.kIn hm.kp (run_fnS (us := [.ref a]) (vs := [.ref a]) F hr hb (hx σ) I1 (.cons rfl .nil) q)
variable {k : Nat} {f C : Addr} {fd : FuncData} {ps : List Str} {sp : Sp}
theorem run_makeS {pins : List (Addr × Obj)} {σ : St} {H : Hp} {s : Shared} {Q : VK} {us : List Value} {vs : List V} (M : Mk X.K C f) (F : FnOk X.prog X.w X.K X.mg X.base CX k f fd ps sp) (hr : Room (k + 1) X.A) (hb : Binds X.K fd ps [])
    (hx : PassesAt CX X σ (E σ)) (I : Inv X pins σ H s) (r : Vals vs us)
    (h : ∀ x dx, H x = none → H dx = none → dx ≠ x → sp (.ref x :: vs) (upd (upd H dx (.own x)) x (.ins C dx [])) (fun v H2 => v = .non ∧ Q (.ref x) H2) (E σ)) :
    wpAny (model X.prog X.w) X.A (call (.ref C) us) (EP X pins σ Q) X.xe s := by
  have hq := h (s.heap.objs.size + 1) s.heap.objs.size (I.hok.fresh (Nat.le_succ _)) (I.hok.fresh (Nat.le_refl _)) (Nat.ne_of_lt (Nat.lt_succ_self _))
  have I2 := Inv.made (C := C) I
  have r2 : Vals (V.ref (s.heap.objs.size + 1) :: vs) (Value.ref (s.heap.objs.size + 1) :: us) := .cons rfl r
  have hl : (Value.ref (s.heap.objs.size + 1) :: us ++ []).length = ps.length := by
    have e := r2.length
    rw [F.len _ _ _ _ hq] at e
    rw [List.append_nil]
    exact e.symm
  have hbb := hb _ (Value.ref (s.heap.objs.size + 1) :: us) I2.kIn hl
  rw [List.append_nil] at hbb
  refine wpAny_call (make_map (f := f) I.kIn M.makes M.init (beq_iff_eq.mp M.fn) (codeAny_mono (F.run _ X.stack _ _ ⟨Value.ref (s.heap.objs.size + 1) :: us, []⟩ (Value.ref (s.heap.objs.size + 1) :: us) _ _ (E σ) (hr.make C us [])
    (I2.env0.make C us []) hbb r2 hq) fun r s' hq' => ?_))
  cases r with
  | error e => exact hx pins _ _ e s' I2 hq'
  | ok fl =>
    cases fl with
    | ret u =>
      obtain ⟨v, H', I3, rv, ev, q3⟩ := I2.after hq'
      subst ev
      exact ⟨rv, ⟨V.ref (s.heap.objs.size + 1), H', I3, rfl, q3⟩⟩
    | next => exact False.elim hq'
    | brk => exact False.elim hq'
    | cont => exact False.elim hq'
def tMakeS (C : Addr) (sp : Sp) (E : St → XK) (t : TA) : TE := fun σ H Q => t σ H fun vs H1 => ∀ x dx, H1 x = none → H1 dx = none → dx ≠ x → sp (.ref x :: vs) (upd (upd H1 dx (.own x)) x (.ins C dx [])) (fun v H2 => v = .non ∧ Q (.ref x) H2) (E σ)
theorem pe_makeS (M : Mk X.K C f) (F : FnOk X.prog X.w X.K X.mg X.base CX k f fd ps sp) (hr : Room (k + 1) X.A) (hg : Gl X x) (hm : X.mg x = some (.ref C)) (hb : Binds X.K fd ps []) (hx : ∀ σ, PassesAt CX X σ (E σ))
    (ha : PA X (e :: es) t) (hdb : (x == ("__debug__" : Str)) = false := by decide) (he : starEach (e :: es) X.env = (false, eval e X.env) :: starEach es X.env := by rfl) (hpl : (backTo pos (starEach es X.env)).any (·.1) = false := by rfl) :
    PE X (.Call (.Name x p) (e :: es) [] pos) (tMakeS C sp E t) := by
  refine ⟨fun pins s σ H Q I h => ?_⟩
  refine wpAny_Call_Name_kw (ld_glob I hg hm ?_ hdb)
  refine PySem.W.callWith_K (h₀ := X.base) I.ok.mod.kin M.kp (thn (ha.run pos pins s σ H _ I h) fun us s1 ⟨vs, H1, I1, r, q⟩ => ⟨I1.kIn, ?_⟩) he hpl
  exact run_makeS M F hr hb (hx σ) I1 r q
theorem pe_makeS0 (M : Mk X.K C f) (F : FnOk X.prog X.w X.K X.mg X.base CX k f fd ps sp) (hr : Room (k + 1) X.A) (hg : Gl X x) (hm : X.mg x = some (.ref C)) (hb : Binds X.K fd ps []) (hx : ∀ σ, PassesAt CX X σ (E σ))
    (hdb : (x == ("__debug__" : Str)) = false := by decide) : PE X (.Call (.Name x p) [] [] pos) (tMakeS C sp E tNil) := by
  refine ⟨fun pins s σ H Q I h => ?_⟩
  refine wpAny_Call_Name_kw (ld_glob I hg hm ?_ hdb)
  exact PySem.W.callWith_K0 I.kIn M.kp (run_makeS (us := []) M F hr hb (hx σ) I .nil h)
end
end L2
namespace VL
open PySem PySem.Spec PyProof.Rows L2
/-! ### methods that change nothing, on data -/
abbrev MTab := List (Str × (List PyData → R PyData))
def mLook (c : Str) : MTab → Option (List PyData → R PyData)
  | [] => none
  | (d, g) :: r => if d = c then some g else mLook c r
def vmethC (tab : MTab) (m : Str) : PyData → R (List PyData → R PyData)
  | .dict ((.none, .str c) :: ps) => (match mLook c tab with
    | some g => (match lookD m ps with | none => .ok g | some _ => .stuck)
    | none => .stuck)
  | _ => .stuck
def vmeth (tab : MTab) (m : Str) (fo : PEnv → R PyData) (fa : PEnv → R (List PyData)) : PEnv → R PyData := fun ρ => (fo ρ).bind fun d => (vmethC tab m d).bind fun g => (fa ρ).bind fun ds => g (d :: ds)
/-- a method as a def -/
def MethF (X : Cx) (c m : Str) (n : Nat) (g : List PyData → R PyData) : Prop := ∃ (C f : Addr) (fd : FuncData) (ps : List Str) (k : Nat), clsOf X.K c = some C ∧ Cls X.K C ∧ Meth X.K C m f ∧ FnOk X.prog X.w X.K X.mg X.base (L2.CX X.prog X.w) k f fd ps (spV X.K X.mg n g) ∧ Room k X.A ∧ Binds X.K fd ps []
def MethsF (X : Cx) (m : Str) (n : Nat) : MTab → Prop
  | [] => True
  | (c, g) :: r => MethF X c m n g ∧ MethsF X m n r
theorem mLook_f {X : Cx} {m c : Str} {n : Nat} {g : List PyData → R PyData} : ∀ {tab : MTab}, MethsF X m n tab → mLook c tab = some g → MethF X c m n g
  | [], _, h => by simp [mLook] at h
  | (d, g') :: r, ⟨h1, h2⟩, h => by
    simp only [mLook] at h
    split at h
    · rename_i e; subst e; cases h; exact h1
    · exact mLook_f h2 h
theorem look_none {m : Str} : ∀ {ns : List Str} {vs : List V} {ds : List PyData}, ns.length = vs.length → vs.length = ds.length → lookD m ((ns.map PyData.str).zip ds) = none → (ns.zip vs).lookup m = none
  | [], vs, ds, _, _, _ => by simp
  | n :: ns, [], ds, l, _, _ => by simp at l
  | n :: ns, v :: vs, [], _, l, _ => by simp at l
  | n :: ns, v :: vs, d :: ds, l, l2, h => by
    simp only [List.map_cons, List.zip_cons_cons, lookD] at h
    rw [List.zip_cons_cons, List.lookup_cons]
    split at h
    · cases h
    · rename_i e
      have e2 : (m == n) = false := beq_eq_false_iff_ne.mpr fun z => e z.symm
      rw [e2]
      exact look_none (by simpa using l) (by simpa using l2) h
section
variable {X : Cx} {W : WX} {a b c e oe o : Expr} {es : List Expr} {pos pos' apos : Pos} {fo : PEnv → R PyData} {fa : PEnv → R (List PyData)} {k n : Nat} {tab : MTab} {m : Str}
theorem vmeth_go {t : TA} {to : TE} {n : Nat} {σ : L2.St} {H B : Hp} {ρ : PEnv} {Q : VK} (ht : MethsF X m (n + 1) tab) (qo : ∀ σ H B ρ Q, Same B H → RF X.K B σ ρ → Pst X W σ H (KV1 X B H Q) (fo ρ) → to σ H Q) (qt : ∀ σ H B ρ Q, Same B H → RF X.K B σ ρ → Pst X W σ H (KA1 X B H Q) (fa ρ) → t σ H Q)
    (hl : ∀ ρ ds, fa ρ = .ok ds → ds.length = n) (s : Same B H) (rf : RF X.K B σ ρ) (pr : Pst X W σ H (fun d' => ∀ v H' B', Ext B H B' H' → Is X.K B' v d' → Q v H') (vmeth tab m fo fa ρ)) : tMethAny X (L2.CX X.prog X.w) m (WE W) to t σ H Q := by
  unfold vmeth at pr
  refine one qo s rf pr fun d x H1 B1 e1 sm dx pg => ?_
  unfold vmethC at pg
  split at pg
  · rename_i cn ps
    split at pg
    · rename_i g hg
      split at pg
      · rename_i hn
        obtain ⟨ad, C, dx', ns, vs, ds, rfl, h1, h2, h3, h4, rfl⟩ := dx.insInv
        obtain ⟨C2, f, fd, fps, k, m1, m2, m3, m4, m5, m6⟩ := mLook_f ht hg
        rw [h1] at m1; cases m1
        refine ⟨ad, C, dx', _, f, fd, fps, k, _, rfl, e1.bh _ _ h2, m2, m3, m4, m5, m6, look_none h3 (IsAll.len h4) hn, ?_⟩
        refine qt σ H1 B1 ρ _ e1.bh (rf.mono e1.bb) ?_
        simp only [R.bind_ok] at pg
        have hl := hl ρ
        generalize fa ρ = rr at pg hl ⊢
        cases rr with
        | stuck => exact pg.elim
        | err c => exact pg
        | ok as =>
          intro xs H2 B2 e2 da
          have hlen := hl as rfl
          refine ⟨by rw [List.length_cons, IsAll.len da, hlen], _ :: as, B2, e2.bh, .cons (Is.mono e2.bb dx) da, ?_⟩
          simp only [R.bind_ok] at pg
          generalize g (_ :: as) = rg at pg ⊢
          cases rg with
          | stuck => exact pg
          | err c => exact fun H' z => pg H' (e2.hh.trans z)
          | ok d => exact fun v H' B' e' dv => pg v H' B' ((e1.trans e2).trans e') dv
      · exact pg.elim
    · exact pg.elim
  · exact pg.elim
theorem vmeth_ {pl : Sem Bool} (ht : MethsF X m (n + 1) tab) (tk : Takes X W) (h1 : VE X W o fo) (h2 : VAn X W n (e :: es) fa)
    (hst : starEach (e :: es) X.env = (false, eval e X.env) :: starEach es X.env := by rfl) (hpl : (backTo pos (starEach es X.env)).any (·.1) = false := by rfl)
    (hev : eval (.Call (.Attribute o m apos) (e :: es) [] pos) X.env = (do
      let ov ← eval o X.env
      standAt apos.atName
      let (f, first) ← holding [ov] (getMethod ov m pl)
      callWith pos f first (backTo pos (starEach (e :: es) X.env)) (backToKw pos (keywordEach [] X.env))) := by rfl) : VE X W (.Call (.Attribute o m apos) (e :: es) [] pos) (vmeth tab m fo fa) := by
  obtain ⟨to, po, qo⟩ := h1.ex
  obtain ⟨t, pt, qt⟩ := h2.va.ex
  exact VE.mk' (pe_methA po (fun σ => passAt tk σ) pt hst hpl hev) fun σ H B ρ Q s rf pr => vmeth_go ht qo qt h2.len s rf pr
theorem vmeth0_ {pl : Sem Bool} (ht : MethsF X m 1 tab) (tk : Takes X W) (h1 : VE X W o fo)
    (hev : eval (.Call (.Attribute o m apos) [] [] pos) X.env = (do
      let ov ← eval o X.env
      standAt apos.atName
      let (f, first) ← holding [ov] (getMethod ov m pl)
      callWith pos f first (backTo pos (starEach [] X.env)) (backToKw pos (keywordEach [] X.env))) := by rfl) : VE X W (.Call (.Attribute o m apos) [] [] pos) (vmeth tab m fo aNil) := by
  obtain ⟨to, po, qo⟩ := h1.ex
  exact VE.mk' (pe_methA0 po (fun σ => passAt tk σ) hev) fun σ H B ρ Q s rf pr => vmeth_go (n := 0) (fa := aNil) (t := tNil) ht qo (fun σ H B ρ Q s rf p => (show KA1 X B H Q [] from p) [] H B (.refl s) .nil) (fun ρ ds h => by cases h; rfl) s rf pr
end
end VL

namespace VL
open PySem PySem.Spec PyProof.Rows L2
/-! ### methods that change their object; new objects; what is done with their answers -/
/-- a method as a def that is lent its object, and more -/
def MethM (X : Cx) (c m : Str) (n : Nat) (ls : List Nat) (g : OEnv → MR) : Prop := ∃ (C f : Addr) (fd : FuncData) (ps : List Str) (k : Nat), clsOf X.K c = some C ∧ Cls X.K C ∧ Meth X.K C m f ∧ FnOk X.prog X.w X.K X.mg X.base (L2.CX X.prog X.w) k f fd ps (spM X.K X.mg n ls g) ∧ Room k X.A ∧ Binds X.K fd ps []
def insOf (c m : Str) : O → Bool
  | .ins d ns _ => decide (d = c) && (fixS m ns).isNone
  | .par _ (.ins d ns _) => decide (d = c) && (fixS m ns).isNone
  | _ => false
noncomputable def oMMeth (c m : Str) (g : OEnv → MR) (i : Nat) (h : OEnv → R (List Ag)) : OEnv → RM := fun ρ => match ρ[i]? with
  | some (some o) => if insOf c m o = true then (match h ρ with
    | .stuck => .stuck
    | .err x => .err x ρ
    | .ok ags => mCall g (.l i :: ags) ρ) else .stuck
  | _ => .stuck
theorem fix_none {m : Str} : ∀ {ns : List Str} {vs : List V}, (fixS m ns).isNone = true → (ns.zip vs).lookup m = none
  | [], vs, _ => by simp
  | n :: ns, [], _ => by simp
  | n :: ns, v :: vs, h => by
    simp only [fixS] at h
    rw [List.zip_cons_cons, List.lookup_cons]
    split at h
    · simp at h
    · rename_i e
      have e2 : (m == n) = false := beq_eq_false_iff_ne.mpr fun z => e z.symm
      rw [e2]
      exact fix_none (by simpa using h)
theorem own_ins {K : PySem.W.Frag} {F H : Hp} {v : V} {o : O} {fp : List Addr} {c m : Str} (h : Own K F H v o fp) (hi : insOf c m o = true) : ∃ a C dx fs, v = .ref a ∧ clsOf K c = some C ∧ H a = some (.ins C dx fs) ∧ fs.lookup m = none := by
  cases h with
  | fz h => cases hi
  | tup h1 h2 => cases hi
  | lst h1 h2 => cases hi
  | dct h1 h2 h3 => cases hi
  | ins h1 h2 h3 h4 h5 =>
    simp only [insOf, Bool.and_eq_true, decide_eq_true_eq] at hi
    obtain ⟨rfl, hi⟩ := hi
    exact ⟨_, _, _, _, rfl, h1, h2, fix_none hi⟩
  | par h =>
    cases h with
    | ins h1 h2 h3 h4 h5 =>
      simp only [insOf, Bool.and_eq_true, decide_eq_true_eq] at hi
      obtain ⟨rfl, hi⟩ := hi
      exact ⟨_, _, _, _, rfl, h1, h2, fix_none hi⟩
    | _ => cases hi
section
variable {X : Cx} {W : WX} {a b c e oe o : Expr} {es : List Expr} {pos pos' apos : Pos} {hg : OEnv → R (List Ag)} {hm : OEnv → RM} {k n : Nat} {m : Str} {g h : OEnv → SR}
theorem vm_go {cn : Str} {t : TA} {ls : List Nat} {f : OEnv → MR} {i : Nat} {σ : L2.St} {H F0 H0 F : Hp} {ρ : OEnv} {Q : VK} (hM : MethM X cn m (n + 1) ls f) (qt : ∀ σ H F0 H0 F ρ Q, RS X.K F0 H0 F H σ ρ → Pst X W σ H (fun as : List Ag => ∀ vs H' F', Ext F H F' H' → AgIs X.K F' σ as vs → Q vs H') (hg ρ) → t σ H Q)
    (hl : ∀ ρ as, hg ρ = .ok as → as.length = n) (hls : ∀ ρ as, hg ρ = .ok as → lentIx 0 (.l i :: as) = ls) (r : RS X.K F0 H0 F H σ ρ) (pr : MPst X W F0 H0 σ Q (oMMeth cn m f i hg ρ)) : tMethAny X (L2.CX X.prog X.w) m (WE W) (tVar i) t σ H Q := by
  unfold oMMeth at pr
  cases hρ : ρ[i]? with
  | none => rw [hρ] at pr; exact pr.elim
  | some oo =>
    cases oo with
    | none => rw [hρ] at pr; exact pr.elim
    | some o =>
      rw [hρ] at pr
      simp only at pr
      split at pr
      · rename_i hi
        obtain ⟨fps, s, hs⟩ := id r.ex
        obtain ⟨v, fp, fpr, e1, e2, _⟩ := s.split hρ
        obtain ⟨ad, C, dx, fs, rfl, c1, c2, c3⟩ := own_ins e2 hi
        obtain ⟨C2, fa, fd, ps, k, m1, m2, m3, m4, m5, m6⟩ := hM
        rw [c1] at m1; cases m1
        refine ⟨.ref ad, e1, ad, C, dx, fs, fa, fd, ps, k, _, rfl, c2, m2, m3, m4, m5, m6, c3, ?_⟩
        refine qt σ H F0 H0 F ρ _ r ?_
        have hl := hl ρ
        have hls := hls ρ
        generalize hg ρ = rr at pr hl hls ⊢
        cases rr with
        | stuck => exact pr.elim
        | err x => exact fun H' z => pr H' F (r.grow z)
        | ok ags =>
          intro vs H1 F1 e ai
          exact lend_sp (sp := fun _ _ _ _ => True) (r.ext e) (.l e1 ai) (by rw [List.length_cons, hl ags rfl]) (hls ags rfl) pr
      · exact pr.elim
theorem vm_meth {cn : Str} {ls : List Nat} {f : OEnv → MR} {pl : Sem Bool} (i : Nat) (hM : MethM X cn m (n + 1) ls f) (tk : Takes X W) (pv : PE X o (tVar i)) (ha : VAg X W (e :: es) n hg) (hls : ∀ ρ as, hg ρ = .ok as → lentIx 0 (.l i :: as) = ls)
    (hst : starEach (e :: es) X.env = (false, eval e X.env) :: starEach es X.env := by rfl) (hpl : (backTo pos (starEach es X.env)).any (·.1) = false := by rfl)
    (hev : eval (.Call (.Attribute o m apos) (e :: es) [] pos) X.env = (do
      let ov ← eval o X.env
      standAt apos.atName
      let (f, first) ← holding [ov] (getMethod ov m pl)
      callWith pos f first (backTo pos (starEach (e :: es) X.env)) (backToKw pos (keywordEach [] X.env))) := by rfl) : VM X W (.Call (.Attribute o m apos) (e :: es) [] pos) (oMMeth cn m f i hg) := by
  obtain ⟨t, pt, qt⟩ := ha.ex
  exact ⟨_, pe_methA pv (fun σ => passAt tk σ) pt hst hpl hev, fun σ H F0 H0 F ρ Q r pr => vm_go hM qt ha.len hls r pr⟩
theorem vm_meth0 {cn : Str} {f : OEnv → MR} {pl : Sem Bool} (i : Nat) (hM : MethM X cn m 1 [0] f) (tk : Takes X W) (pv : PE X o (tVar i))
    (hev : eval (.Call (.Attribute o m apos) [] [] pos) X.env = (do
      let ov ← eval o X.env
      standAt apos.atName
      let (f, first) ← holding [ov] (getMethod ov m pl)
      callWith pos f first (backTo pos (starEach [] X.env)) (backToKw pos (keywordEach [] X.env))) := by rfl) : VM X W (.Call (.Attribute o m apos) [] [] pos) (oMMeth cn m f i agNil) := by
  obtain ⟨t, pt, qt⟩ := (vags_nil (X := X) (W := W)).ex
  refine ⟨_, pe_methA0 pv (fun σ => passAt tk σ) hev, fun σ H F0 H0 F ρ Q r pr => vm_go (t := tNil) (n := 0) (hg := agNil) hM (fun σ H F0 H0 F ρ Q r p => ?_) (fun ρ as h => by cases h; rfl) (fun ρ as h => by cases h; rfl) r pr⟩
  obtain ⟨_, _, hs⟩ := r.ex
  exact (show ∀ vs H' F', Ext F H F' H' → AgIs X.K F' σ [] vs → Q vs H' from p) [] H F (.refl hs.fh) .nil
/-! C(..) -/
noncomputable def mkI (cn : Str) (g : OEnv → MR) (ds : List PyData) : R O := match callA g (.l 0 :: ds.map Ag.d) [.ins cn [] []] with
  | .ok (.fz .none) [o] => .ok o
  | .err c => .err c
  | _ => .stuck
noncomputable def oMake (cn : Str) (g : OEnv → MR) (h : OEnv → R (List PyData)) : OEnv → R (O × OEnv) := fun ρ => (h ρ).bind fun ds => (mkI cn g ds).bind fun o => .ok (o, ρ)
theorem slots_ds {K : PySem.W.Frag} {F H : Hp} {os : List O} : ∀ {ds : List PyData} {vs : List V}, IsAll K F vs ds → Slots K F H (vs.map some) (mkA (ds.map Ag.d) os) []
  | [], _, h => by cases h; exact .nil
  | d :: ds, _, h => by cases h with | cons h1 h2 => exact .ow (fp := []) (.fz h1) (slots_ds h2)
theorem make_go {cn : Str} {C : Addr} {t : TA} {f : OEnv → MR} {hx : OEnv → R (List PyData)} {σ : L2.St} {H F0 H0 F : Hp} {ρ : OEnv} {Q : VK} (hc : clsOf X.K cn = some C) (qt : ∀ σ H F0 H0 F ρ Q, RS X.K F0 H0 F H σ ρ → Pst X W σ H (fun ds : List PyData => ∀ vs H' F', Ext F H F' H' → IsAll X.K F' vs ds → Q vs H') (hx ρ) → t σ H Q)
    (hl : ∀ ρ ds, hx ρ = .ok ds → ds.length = n) (r : RS X.K F0 H0 F H σ ρ) (pr : Pst X W σ H (KO X F0 H0 σ Q) (oMake cn f hx ρ)) : tMakeS C (spM X.K X.mg (n + 1) [0] f) (WE W) t σ H Q := by
  unfold oMake at pr
  refine qt σ H F0 H0 F ρ _ r ?_
  have hl := hl ρ
  generalize hx ρ = rr at pr hl ⊢
  cases rr with
  | stuck => exact pr.elim
  | err x => exact pr
  | ok ds =>
    intro vs H1 F1 e1 ia x dx nx ndx ne
    simp only [R.bind_ok] at pr
    have r1 := r.ext e1
    obtain ⟨fps, s1, hs1⟩ := id r1.ex
    have hlen := hl ds rfl
    have F1x : F1 x = none := Same.free hs1.fh nx
    have F1d : F1 dx = none := Same.free hs1.fh ndx
    generalize hH2 : upd (upd H1 dx (.own x)) x (.ins C dx []) = H2
    have h2x : H2 x = some (.ins C dx []) := by rw [← hH2, upd_same]
    have h2d : H2 dx = some (.own x) := by rw [← hH2, upd_ne ne, upd_same]
    have h2o : ∀ b, b ≠ x → b ≠ dx → H2 b = H1 b := fun b q1 q2 => by rw [← hH2, upd_ne q1, upd_ne q2]
    have sm : Same H1 H2 := fun b u z => by rw [h2o b (fun q => by rw [q, nx] at z; cases z) (fun q => by rw [q, ndx] at z; cases z)]; exact z
    have ow : Own X.K F1 H2 (.ref x) (.ins cn [] []) [x, dx] := .ins (vs := []) (fp := []) hc h2x h2d rfl .nil
    have hs2 : Hs F1 H1 F1 H2 [x, dx] := ⟨by simp [Ne.symm ne], fun b hb => by
      simp only [List.mem_cons, List.not_mem_nil, or_false] at hb
      rcases hb with q | q
      · subst q; exact ⟨F1x, nx⟩
      · subst q; exact ⟨F1d, ndx⟩, hs1.fh.trans sm, Same.refl F1, sm, fun b z1 z2 => absurd z1 z2⟩
    refine ⟨by rw [List.length_cons, IsAll.len ia, hlen], F1, H1, mkA (.l 0 :: ds.map Ag.d) (wrapL [x] [.ins cn [] []]), ⟨[x, dx] ++ [], .ow (.par ow) (slots_ds ia), by rw [List.append_nil]; exact hs2⟩, by rw [args_len, List.length_cons, List.length_map, hlen], ?_⟩
    unfold mkI at pr
    have hne : callA f (.l 0 :: ds.map Ag.d) [.ins cn [] []] ≠ .stuck := fun z => by rw [z] at pr; exact pr
    have ce := callA_at hne (as := [x]) rfl
    unfold callR at ce
    generalize f (mkA (.l 0 :: ds.map Ag.d) (wrapL [x] [.ins cn [] []])) = rg at ce
    cases rg with
    | stuck => exact absurd ce.symm hne
    | err c =>
      rw [← ce] at pr
      exact fun H' F' w => pr H' (e1.hh.trans w.h0)
    | ok o rs =>
      simp only at ce
      split at ce
      · rename_i hrl
        rw [← ce] at pr
        intro v H' F' us g1 g2 r2
        obtain ⟨v', us', rfl, g3, g4⟩ := g1
        have g4 : us' = [] := g4
        subst g4
        have g3 : V.ref x = v' := by simpa using g3
        subst g3
        match rs, hrl with
        | [r0], _ =>
          obtain ⟨f2, s2, h2⟩ := r2.ex
          cases s2 with
          | @ow _ _ fo _ _ ft k1 k2 =>
            cases k2 with
            | @ow _ _ fr _ _ fe q1 q2 =>
              cases q2
              have hov : o = .fz .none := by
                simp only [unwL] at pr
                cases o with
                | fz d => cases d <;> first | rfl | exact pr.elim
                | _ => exact pr.elim
              subst hov
              cases k1 with
              | fz k1 =>
                cases k1
                simp only [unwL, R.bind_ok] at pr
                refine ⟨rfl, pr (.ref x) H' F' (r1.push (F' := F') (H' := H') ⟨fr, own_unw q1, ?_⟩)⟩
                refine h2.sub ?_
                simp
      · exact absurd ce.symm hne
theorem vo_make {cn : Str} {C : Addr} {f : OEnv → MR} {fad : Addr} {fd : FuncData} {ps : List Str} {p : Pos} {hx : OEnv → R (List PyData)} (M : Mk X.K C fad) (hc : clsOf X.K cn = some C) (F : FnOk X.prog X.w X.K X.mg X.base (L2.CX X.prog X.w) k fad fd ps (spM X.K X.mg (n + 1) [0] f)) (hr : Room (k + 1) X.A) (hm : X.mg cn = some (.ref C)) (hb : Binds X.K fd ps [])
    (tk : Takes X W) (ha : VXA X W (e :: es) n hx) (hg : Gl X cn := by rfl) (hdb : (cn == ("__debug__" : Str)) = false := by decide) (he : starEach (e :: es) X.env = (false, eval e X.env) :: starEach es X.env := by rfl) (hpl : (backTo pos (starEach es X.env)).any (·.1) = false := by rfl) :
    VO X W (.Call (.Name cn p) (e :: es) [] pos) (oMake cn f hx) := by
  obtain ⟨t, pt, qt⟩ := ha.ex
  exact ⟨_, pe_makeS M F hr hg hm hb (fun σ => passAt tk σ) pt hdb he hpl, fun σ H F0 H0 F ρ Q r pr => make_go hc qt ha.len r pr⟩
/-! what is done with the answer -/
def sSetM (i : Nat) (h : OEnv → RM) : OEnv → SR := fun ρ => match h ρ with
  | .stuck => .stuck
  | .err c ρ' => .err c ρ'
  | .ok o ρ' => .nx (ρ'.set i (some o))
theorem vs_setM (i : Nat) {x : Str} (hN : X.N.Nodup) (he : VM X W e hm) (hi : X.N[i]? = some x := by rfl) (hxl : Loc X.env.scope x := by first | exact Or.inl rfl | exact Or.inr rfl) (hs : swapsWith e (some (.Name x pos')) pos.line X.env = pure false := by rfl) (hf : X.fn x = true ∨ X.env.scope.names.lookup x = some .local := by first | exact .inl rfl | exact .inr rfl) :
    VS X W (.Assign [.Name x pos'] e pos) (sSetM i hm) := by
  obtain ⟨t, p, q⟩ := he.ex
  refine ⟨_, ps_set hN hi hxl p hs hf, fun D σ H F0 H0 F ρ r pr => ?_⟩
  unfold sSetM at pr
  refine q σ H F0 H0 F ρ _ r ?_
  generalize hm ρ = rr at pr ⊢
  cases rr with
  | stuck => exact pr
  | err c ρ' => exact fun H' F' r' => pr σ H' F' r'
  | ok o ρ' => exact fun v H' F' r' => pr _ H' F' (r'.put i)
def sExprM (h : OEnv → RM) : OEnv → SR := fun ρ => match h ρ with
  | .stuck => .stuck
  | .err c ρ' => .err c ρ'
  | .ok _ ρ' => .nx ρ'
theorem vs_exprM (he : VM X W e hm) (hs : swapsWith e none pos.line X.env = pure false := by rfl) : VS X W (.Expr e pos) (sExprM hm) := by
  obtain ⟨t, p, q⟩ := he.ex
  refine ⟨_, ps_expr p hs, fun D σ H F0 H0 F ρ r pr => ?_⟩
  unfold sExprM at pr
  refine q σ H F0 H0 F ρ _ r ?_
  generalize hm ρ = rr at pr ⊢
  cases rr with
  | stuck => exact pr
  | err c ρ' => exact fun H' F' r' => pr σ H' F' r'
  | ok o ρ' => exact fun v H' F' r' => pr σ H' F' r'.tail
def sRetM (h : OEnv → RM) : OEnv → SR := fun ρ => match h ρ with
  | .stuck => .stuck
  | .err c ρ' => .err c ρ'
  | .ok o ρ' => .rt o ρ'
theorem vs_retM (he : VM X W e hm) : VS X W (.Return (some e) pos) (sRetM hm) := by
  obtain ⟨t, p, q⟩ := he.ex
  refine ⟨_, ps_ret p, fun D σ H F0 H0 F ρ r pr => ?_⟩
  unfold sRetM at pr
  refine q σ H F0 H0 F ρ _ r ?_
  generalize hm ρ = rr at pr ⊢
  cases rr with
  | stuck => exact pr
  | err c ρ' => exact fun H' F' r' => pr σ H' F' r'
  | ok o ρ' => exact fun v H' F' r' => pr v σ H' F' r'
/-- if e: .. where e changes things; neg: if not e -/
def sIfM (neg : Bool) (h : OEnv → RM) (g1 g2 : OEnv → SR) : OEnv → SR := fun ρ => match h ρ with
  | .err c ρ' => .err c ρ'
  | .ok (.fz (.bool b)) ρ' => if (b != neg) = true then g1 ρ' else g2 ρ'
  | _ => .stuck
theorem ifm_go {ht : TE} {t1 t2 : TS} {neg : Bool} {D : Ends} {σ : L2.St} {H F0 H0 F : Hp} {ρ : OEnv} (q : ∀ σ H F0 H0 F ρ Q, RS X.K F0 H0 F H σ ρ → MPst X W F0 H0 σ Q (hm ρ) → ht σ H Q)
    (q1 : ∀ D σ H F0 H0 F ρ, RS X.K F0 H0 F H σ ρ → SPst X W F0 H0 D (g ρ) → t1 D σ H) (q2 : ∀ D σ H F0 H0 F ρ, RS X.K F0 H0 F H σ ρ → SPst X W F0 H0 D (h ρ) → t2 D σ H) (r : RS X.K F0 H0 F H σ ρ) (pr : SPst X W F0 H0 D (sIfM neg hm g h ρ)) :
    ht σ H fun x H' => ∃ b, x = .bl b ∧ if (b != neg) = true then t1 D σ H' else t2 D σ H' := by
  unfold sIfM at pr
  refine q σ H F0 H0 F ρ _ r ?_
  generalize hm ρ = rr at pr ⊢
  cases rr with
  | stuck => exact pr
  | err c ρ' => exact fun H' F' r' => pr σ H' F' r'
  | ok o ρ' =>
    cases o with
    | fz d =>
      cases d <;> first | exact pr.elim | skip
      rename_i b
      intro v H' F' r'
      obtain ⟨fps, s, hs⟩ := id r'.ex
      cases s with
      | ow h1 h2 =>
        cases h1 with
        | fz h1 =>
          cases h1
          refine ⟨b, rfl, ?_⟩
          simp only at pr
          cases hb : (b != neg) with
          | true => rw [hb] at pr; exact q1 D σ H' F0 H0 F' ρ' r'.tail pr
          | false => rw [hb] at pr; exact q2 D σ H' F0 H0 F' ρ' r'.tail pr
    | _ => exact pr.elim
theorem vs_ifM {ts us : List Stmt} (h0 : VM X W c hm) (h1 : VSs X W ts g) (h2 : VSs X W us h) (hi : ∀ whole, PySem.isTrue c X.env whole = (do let v ← whole; standAt c.pos; holding [v] (truthy v)) := by intro _; rfl) : VS X W (.If c ts us pos) (sIfM false hm g h) := by
  obtain ⟨t, p, q⟩ := h0.ex
  obtain ⟨t1, p1, q1⟩ := h1.ex
  obtain ⟨t2, p2, q2⟩ := h2.ex
  refine ⟨_, ps_if (pt_val p hi) p1 p2, fun D σ H F0 H0 F ρ r pr => ?_⟩
  have := ifm_go (t1 := t1) (t2 := t2) q q1 q2 r pr
  simp only [Bool.bne_false] at this
  exact this
theorem vs_ifMN {ts us : List Stmt} {npos : Pos} (h0 : VM X W c hm) (h1 : VSs X W ts g) (h2 : VSs X W us h) (hi : ∀ whole, PySem.isTrue c X.env whole = (do let v ← whole; standAt c.pos; holding [v] (truthy v)) := by intro _; rfl) : VS X W (.If (.UnaryOp .Not c npos) ts us pos) (sIfM true hm g h) := by
  obtain ⟨t, p, q⟩ := h0.ex
  obtain ⟨t1, p1, q1⟩ := h1.ex
  obtain ⟨t2, p2, q2⟩ := h2.ex
  refine ⟨_, ps_if (pt_not (pt_val p hi)) p1 p2, fun D σ H F0 H0 F ρ r pr => ?_⟩
  have := ifm_go (t1 := t1) (t2 := t2) q q1 q2 r pr
  simp only [Bool.bne_true] at this
  exact this
end
end VL

namespace VL
open PySem PySem.Spec PyProof.Rows L2
/-! ### which arguments are lent -/
def LsOk (k : Nat) (hg : OEnv → R (List Ag)) (ls : List Nat) : Prop := ∀ ρ as, hg ρ = .ok as → lentIx k as = ls
theorem lsok_nil {k : Nat} : LsOk k agNil [] := fun ρ as h => by cases h; rfl
theorem lsok_l {k i : Nat} {hg : OEnv → R (List Ag)} {ls : List Nat} (h : LsOk (k + 1) hg ls) : LsOk k (agCons (agL i) hg) (k :: ls) := fun ρ as e => by
  unfold agCons agL at e
  split at e
  · simp only [R.bind_ok] at e
    cases q : hg ρ with
    | stuck => rw [q] at e; cases e
    | err c => rw [q] at e; cases e
    | ok bs => rw [q] at e; cases e; show k :: lentIx (k + 1) bs = _; rw [h ρ bs q]
  · cases e
theorem lsok_d {k : Nat} {hx : OEnv → R PyData} {hg : OEnv → R (List Ag)} {ls : List Nat} (h : LsOk (k + 1) hg ls) : LsOk k (agCons (agD hx) hg) ls := fun ρ as e => by
  unfold agCons agD at e
  cases q0 : hx ρ with
  | stuck => rw [q0] at e; cases e
  | err c => rw [q0] at e; cases e
  | ok d =>
    rw [q0] at e
    simp only [R.bind_ok] at e
    cases q : hg ρ with
    | stuck => rw [q] at e; cases e
    | err c => rw [q] at e; cases e
    | ok bs => rw [q] at e; cases e; show lentIx (k + 1) bs = _; rw [h ρ bs q]
theorem lsok_m {i : Nat} {hg : OEnv → R (List Ag)} {ls : List Nat} (h : LsOk 1 hg ls) : ∀ ρ as, hg ρ = .ok as → lentIx 0 (.l i :: as) = 0 :: ls := fun ρ as e => by
  show 0 :: lentIx 1 as = _; rw [h ρ as e]
/-! ### frozen things within what is one's own -/
def exP (hp : OEnv → R (Nat × List Nat)) : OEnv → R PyData := fun ρ => (hp ρ).bind fun ip => match ρ[ip.1]? with
  | some (some o) => (match o.at ip.2 with
    | some (.fz d) => .ok d
    | _ => .stuck)
  | _ => .stuck
def x2v (op : PyData → PyData → R PyData) (h h' : OEnv → R PyData) : OEnv → R PyData := fun ρ => (h ρ).bind fun d => (h' ρ).bind fun e => op d e
section
variable {X : Cx} {W : WX} {a b c e oe : Expr} {es : List Expr} {pos pos' : Pos} {hx hy : OEnv → R PyData} {hp : OEnv → R (Nat × List Nat)} {fa fb : PEnv → R PyData} {fl : PEnv → R (List PyData)}
theorem vx_fz (h : VPl X W e hp) : VX X W e (exP hp) := by
  obtain ⟨t, p, q⟩ := h.ex
  refine ⟨t, p, fun σ H F0 H0 F ρ Q r pr => q σ H F0 H0 F ρ Q r ?_⟩
  unfold exP at pr
  generalize hp ρ = rp at pr ⊢
  cases rp with
  | stuck => exact pr
  | err c => exact pr
  | ok ip =>
    simp only [R.bind_ok] at pr
    cases hρ : ρ[ip.1]? with
    | none => rw [hρ] at pr; exact pr.elim
    | some oo =>
      cases oo with
      | none => rw [hρ] at pr; exact pr.elim
      | some o =>
        rw [hρ] at pr
        simp only at pr
        cases ho : o.at ip.2 with
        | none => rw [ho] at pr; exact pr.elim
        | some o1 =>
          rw [ho] at pr
          cases o1 with
          | fz d =>
            obtain ⟨v, ev⟩ := r.slot hρ
            refine ⟨o, v, hρ, ev, ⟨_, ho⟩, fun v' H' F' ex pt => ?_⟩
            obtain ⟨v0, v2, f1, fy, g1, g2, g3, _⟩ := (r.ext ex).non.place hρ ho
            have g1' : σ[ip.1]? = some (some v0) := g1
            rw [ev] at g1'; cases g1'
            have := pt.det g2
            subst this
            cases g3 with
            | fz h => exact pr v' H' F' ex h
          | _ => exact pr.elim
/-- [x] * n, a new list -/
def lrep (ds : List PyData) : PyData → R (List PyData)
  | .int n => if 0 ≤ n ∧ n ≤ 16777216 ∧ ds.length * n.toNat ≤ sizeLine then .ok (List.replicate n.toNat ds).flatten else .stuck
  | _ => .stuck
def frep (f : PEnv → R (List PyData)) (g : PEnv → R PyData) : PEnv → R (List PyData) := fun ρ => (f ρ).bind fun ds => (g ρ).bind fun e => lrep ds e
theorem isAll_rep {K : PySem.W.Frag} {F : Hp} {vs : List V} {ds : List PyData} (h : IsAll K F vs ds) : ∀ n : Nat, IsAll K F (List.replicate n vs).flatten (List.replicate n ds).flatten
  | 0 => by simp; exact .nil
  | n + 1 => by rw [List.replicate_succ, List.replicate_succ, List.flatten_cons, List.flatten_cons]; exact IsAll.append h (isAll_rep h n)
theorem vrep_f (ha : VFr X W a fl) (hb : VE X W b fb) : VFr X W (.BinOp a .Mult b pos) (frep fl fb) := by
  obtain ⟨ta, pa, qa⟩ := ha.ex
  obtain ⟨tb, pb, qb⟩ := hb.ex
  refine ⟨_, pe_op op_rep pa pb, fun σ H B ρ Q s rf p => ?_⟩
  unfold frep at p
  refine qa σ H B ρ _ s rf ?_
  generalize fl ρ = ra at p ⊢
  cases ra with
  | stuck => exact p
  | err c => exact p
  | ok ds =>
    intro p1 vs H1 B1 e1 hp1 hn1 bn1 ia
    simp only [R.bind_ok] at p
    refine qb σ H1 B1 ρ _ e1.bh (rf.mono e1.bb) ?_
    generalize fb ρ = rb at p ⊢
    cases rb with
    | stuck => exact p
    | err c => exact fun H' z => p H' (e1.hh.trans z)
    | ok e =>
      intro y H2 B2 e2 sm2 d2
      simp only [R.bind_ok] at p
      cases d2 <;> first | exact p.elim | skip
      rename_i n
      simp only [lrep] at p
      split at p
      · rename_i hz
        refine ⟨p1, n, vs, rfl, rfl, e2.hh _ _ hp1, by omega, by omega, by rw [IsAll.len ia]; exact hz.2.2, fun q hq => ?_⟩
        exact p q _ _ B2 ((e1.trans e2).trans (Ext.own e2.bh hq)) upd_same (Same.free (e1.trans e2).hh hq) (Same.free e2.bh hq) (isAll_rep (IsAll.mono e2.bb ia) n.toNat)
      · exact p.elim
/-! loops over frozen things within what is one's own -/
theorem vix_seqX {tg : Expr} (h : VX X W a hx) : VIX X W tg a (x1 seqD hx) := by
  obtain ⟨t, p, q⟩ := h.ex
  refine ⟨_, pi_seq (pe_small p), fun σ H F0 H0 F ρ Rr r pr => ?_⟩
  refine oneX (X := X) (W := W) (Q := fun v H' => Small X.K H' → _) q r pr fun d x H' F' ex dx pg sm => ?_
  obtain ⟨_, _, hs⟩ := (r.ext ex).ex
  have dx0 := dx
  cases dx <;> first | exact pg.elim | skip
  · rename_i h1 h2
    exact ⟨_, rfl, .inl ⟨⟨_, .inl (Rd.mono hs.fh h1)⟩, pg _ H' F' ex (walks_list h1 h2 (Small.list sm hs.fh dx0))⟩⟩
  · rename_i h1 h2
    exact ⟨_, rfl, .inr ⟨⟨_, Same.tupl hs.fh h1⟩, pg _ H' F' ex (walks_tup h1 h2 (Small.tuple sm hs.fh dx0))⟩⟩
theorem vix_enumX {p pos tpos : Pos} {elts : List Expr} {kk : Nat} (hm : X.mg "enumerate" = none) (ha : VX X W a hx) (hg : Gl X "enumerate" := by rfl) (hs : starEach [a] X.env = [(false, eval a X.env)] := by rfl) (he : starEach [a] X.env = (false, eval a X.env) :: starEach [] X.env := by rfl) : VIX X W (.Tuple elts kk tpos) (.Call (.Name "enumerate" p) [a] [] pos) (x1 venum hx) := by
  obtain ⟨t, pt, qt⟩ := ha.ex
  refine ⟨_, pi_enum hg hm (pa_cons (pe_small pt) pa_nil he) hs, fun σ H F0 H0 F ρ Rr r pr => ?_⟩
  refine oneX (X := X) (W := W) (Q := fun v H' => Small X.K H' → _) qt r pr fun d x H' F' ex dx pg sm => ?_
  obtain ⟨_, _, hs⟩ := (r.ext ex).ex
  have dx0 := dx
  cases dx <;> first | exact pg.elim | skip
  rename_i h1 h2
  exact ⟨_, _, rfl, .inl (Rd.mono hs.fh h1), pg _ H' F' ex (walks_enum h1 h2 (Small.list sm hs.fh dx0))⟩
/-- two values, each seen by itself -/
theorem vx2_ {r : R2} {g : PyData → PyData → R PyData} (mk : ∀ {ta tb : TE}, PE X a ta → PE X b tb → PE X e (tOp r ta tb)) (hr : Rule2 X W r g) (h1 : VX X W a hx) (h2 : VX X W b hy) : VX X W e (x2v g hx hy) := by
  obtain ⟨ta, pa, qa⟩ := h1.ex
  obtain ⟨tb, pb, qb⟩ := h2.ex
  refine ⟨_, mk pa (pe_small pb), fun σ H F0 H0 F ρ Q r pr => ?_⟩
  refine oneX qa r pr fun d x H1 F1 e1 dx p1 => ?_
  have r1 := r.ext e1
  refine oneX (X := X) (W := W) (Q := fun y H2 => Small X.K H2 → _) qb r1 p1 fun d2 y H2 F2 e2 dy p2 sm => ?_
  obtain ⟨_, _, hs⟩ := (r1.ext e2).ex
  exact hr d d2 x y σ H2 F2 Q hs.fh sm (Is.mono e2.bb dx) dy (Pst.imp (fun z k v H' B' ex dv => k v H' B' ((e1.trans e2).trans ex) dv) p2)
theorem vx_ix (h1 : VX X W a hx) (h2 : VX X W b hy) (hs : PlainIx b := by exact fun _ _ => rfl) : VX X W (.Subscript a b pos) (x2v vidx hx hy) := vx2_ (fun p q => pe_ix ix_seq p q hs) rule_idx h1 h2
theorem vx_vix (hu : X.A.units + 65 < cLine) (h1 : VX X W a hx) (h2 : VX X W b hy) (hs : PlainIx b := by exact fun _ _ => rfl) : VX X W (.Subscript a b pos) (x2v vix hx hy) := vx2_ (fun p q => pe_ix (ix_seq.or (ix_dg (by omega))) p q hs) (rule_or1 (fun d => (dictOf d).isSome) rule_idx rule_dg vix_if) h1 h2
end
/-! ### is, is not of bools; list(reversed(x)) -/
def vis : PyData → PyData → R PyData
  | .bool a, .bool b => .ok (.bool (decide (a = b)))
  | _, _ => .stuck
def visn : PyData → PyData → R PyData
  | .bool a, .bool b => .ok (.bool (!decide (a = b)))
  | _, _ => .stuck
section
variable {X : Cx} {W : WX} {a b : Expr} {pos : Pos} {fa fb : PEnv → R PyData}
theorem rule_is : Rule2 X W rIsB vis := fun d e x y σ H B Q s sm dx dy p => by
  cases dx <;> first | (cases dy <;> exact p.elim) | skip
  cases dy <;> first | exact p.elim | skip
  exact ⟨_, _, rfl, rfl, p _ H B (.refl s) (.bl _)⟩
theorem rule_isn : Rule2 X W rNotB visn := fun d e x y σ H B Q s sm dx dy p => by
  cases dx <;> first | (cases dy <;> exact p.elim) | skip
  cases dy <;> first | exact p.elim | skip
  exact ⟨_, _, rfl, rfl, p _ H B (.refl s) (.bl _)⟩
theorem vis_ (ha : VE X W a fa) (hb : VE X W b fb) : VE X W (.Compare a [.Is] [b] pos) (v2 vis fa fb) := ve2 (fun p q => pe_cmpR op_isBl p q (nomark _)) rule_is ha hb
theorem visn_ (ha : VE X W a fa) (hb : VE X W b fb) : VE X W (.Compare a [.IsNot] [b] pos) (v2 visn fa fb) := ve2 (fun p q => pe_cmpR op_notBl p q (nomark _)) rule_isn ha hb
theorem vlrev_f {p p2 pos2 : Pos} (hc : X.calm = true) (hm : X.mg "list" = none) (hm2 : X.mg "reversed" = none) (ha : VE X W a fa) (hg : Gl X "list" := by rfl) (hg2 : Gl X "reversed" := by rfl) (hs : starEach [a] X.env = (false, eval a X.env) :: starEach [] X.env := by rfl)
    (hs2 : starEach [.Call (.Name "reversed" p2) [a] [] pos2] X.env = (false, eval (.Call (.Name "reversed" p2) [a] [] pos2) X.env) :: starEach [] X.env := by rfl) :
    VFr X W (.Call (.Name "list" p) [.Call (.Name "reversed" p2) [a] [] pos2] [] pos) (frev fa) := by
  obtain ⟨ta, pa, qa⟩ := ha.ex
  refine ⟨_, pe_lstRev hc hg hm hg2 hm2 pa hs hs2, fun σ H B ρ Q s rf p => ?_⟩
  refine one qa s rf p fun d x H' B' ex sm dx pg => ?_
  cases dx <;> first | exact pg.elim | skip
  rename_i h1 h2
  exact ⟨_, _, rfl, .inl (Rd.mono ex.bh h1), fun q hq => pg q _ _ B' (ex.trans (Ext.own ex.bh hq)) upd_same (Same.free ex.hh hq) (Same.free ex.bh hq) (IsAll.reverse h2)⟩
end
end VL
namespace VL
open PySem PySem.Spec PyProof.Rows L2
theorem clsOf_of {K : PySem.W.Frag} {c : Str} {C : Addr} (h : PySem.W.nsIn K mainGlobals c = some (some (.ref C))) : clsOf K c = some C := by unfold clsOf; rw [h]
theorem ctab_nil {K : PySem.W.Frag} : CTab K [] := ⟨fun c f h => by simp [inCt] at h⟩
theorem ctab_cons {K : PySem.W.Frag} {ct : CT} {c0 : Str} {fs : List Str} {C0 : Addr} (h0 : clsOf K c0 = some C0) (h1 : Cls K C0) (h2 : ∀ f ∈ fs, NoAttr K C0 f) (h : CTab K ct) : CTab K ((c0, fs) :: ct) := ⟨fun c f hi C hC => by
  unfold inCt at hi
  rw [List.any_cons, Bool.or_eq_true] at hi
  rcases hi with hi | hi
  · simp only [Bool.and_eq_true, decide_eq_true_eq, List.any_eq_true] at hi
    obtain ⟨rfl, g, hg, rfl⟩ := hi
    rw [h0] at hC; cases hC
    exact ⟨h1, h2 _ hg⟩
  · exact h.cl c f hi C hC⟩
end VL

namespace VL
open PySem PySem.Spec PyProof.Rows L2
/-! ### x.pop(), x.reverse() at places -/
structure MutOkV (r : V → List V → Hp → VK → Prop) (f : List O → Option (List O)) : Prop where
  ok : ∀ os os', f os = some os' → ∃ (tv : List V → V → List V) (to : List O → O → List O), Chg tv to ∧ to os (.fz .none) = os' ∧ ∀ (a : Addr) (vs : List V) (H : Hp) (Q : VK), H a = some (.lst vs) → vs.length = os.length → (∀ y, Q y (upd H a (.lst (tv vs .non)))) → r (.ref a) [] H Q
theorem OwnL.dropLast {K : PySem.W.Frag} {F H : Hp} : ∀ {os : List O} {vs : List V} {fp : List Addr}, OwnL K F H vs os fp → ∃ fp', OwnL K F H vs.dropLast os.dropLast fp' ∧ fp'.Sublist fp
  | [], _, _, h => by cases h; exact ⟨[], .nil, .refl _⟩
  | [o], _, _, h => by
    cases h with
    | cons h1 h2 => cases h2; exact ⟨[], .nil, List.nil_sublist _⟩
  | o :: o2 :: os, _, _, h => by
    cases h with
    | @cons v vs _ _ f1 f2 h1 h2 =>
      obtain ⟨fp', z1, z2⟩ := OwnL.dropLast h2
      cases h2 with
      | @cons v2 vs2 _ _ g1 g2 q1 q2 =>
        have e1 : (v :: v2 :: vs2).dropLast = v :: (v2 :: vs2).dropLast := rfl
        have e2 : (o :: o2 :: os).dropLast = o :: (o2 :: os).dropLast := rfl
        rw [e1, e2]
        exact ⟨f1 ++ fp', .cons h1 z1, List.Sublist.append_left z2 f1⟩
theorem chg_pop : Chg (fun vs _ => vs.dropLast) (fun os _ => os.dropLast) := ⟨fun h1 h2 => by
  obtain ⟨fp', z1, z2⟩ := OwnL.dropLast h1
  exact ⟨fp', z1, fp', .refl _, z2.trans (List.sublist_append_left _ _)⟩⟩
theorem OwnL.reverse {K : PySem.W.Frag} {F H : Hp} : ∀ {os : List O} {vs : List V} {fp : List Addr}, OwnL K F H vs os fp → ∃ fp', OwnL K F H vs.reverse os.reverse fp' ∧ fp'.Perm fp
  | [], _, _, h => by cases h; exact ⟨[], .nil, .refl _⟩
  | o :: os, _, _, h => by
    cases h with
    | @cons v vs _ _ f1 f2 h1 h2 =>
      obtain ⟨fp', z1, z2⟩ := OwnL.reverse h2
      rw [List.reverse_cons, List.reverse_cons]
      refine ⟨fp' ++ (f1 ++ []), OwnL.append z1 (.cons h1 .nil), ?_⟩
      rw [List.append_nil]
      exact List.perm_append_comm.trans (List.Perm.append_left f1 z2)
theorem chg_rev : Chg (fun vs _ => vs.reverse) (fun os _ => os.reverse) := ⟨fun {K F H vs os y o fp fpo} h1 h2 => by
  obtain ⟨fp', z1, z2⟩ := OwnL.reverse h1
  exact ⟨fp', z1, fp, z2, List.sublist_append_left _ _⟩⟩
def fPop (os : List O) : Option (List O) := if 0 < os.length then some os.dropLast else none
theorem mut_pop : MutOkV rPop fPop := ⟨fun os os' h => by
  unfold fPop at h
  split at h
  · rename_i hz
    cases h
    refine ⟨_, _, chg_pop, rfl, fun a vs H Q ha hl q => ?_⟩
    have hv : vs.length - 1 < vs.length := by omega
    exact ⟨a, vs, vs[vs.length - 1], rfl, rfl, ha, List.getElem?_eq_getElem hv, q _⟩
  · cases h⟩
theorem mut_rev : MutOkV rReverse (fun os => some os.reverse) := ⟨fun os os' h => by
  cases h
  exact ⟨_, _, chg_rev, rfl, fun a vs H Q ha hl q => ⟨a, vs, rfl, rfl, ha, q _⟩⟩⟩
section
variable {X : Cx} {W : WX} {a b c e oe ce : Expr} {es : List Expr} {pos : Pos} {hp : OEnv → R (Nat × List Nat)}
theorem vs_mut0V {r : V → List V → Hp → VK → Prop} {fm : List O → Option (List O)} (hm : MutOkV r fm) (mk : ∀ {to : TE}, PE X oe to → PE X ce (tBM0 X.K "list" r to)) (h1 : VPl X W oe hp)
    (hs : swapsWith ce none pos.line X.env = pure false := by rfl) : VS X W (.Expr ce pos) (sMut0 fm hp) := by
  obtain ⟨t1, p1, q1⟩ := h1.go
  refine ⟨_, ps_expr (mk p1) hs, fun D σ H F0 H0 F ρ rs pr => ?_⟩
  unfold sMut0 at pr
  refine q1 σ H F0 H0 F ρ _ _ D rs pr (fun ip o v o' e1 ev e2 po v' H1 F1 ex pt => ?_) (fun ip po => ?_)
  · rw [e1] at po
    simp only [e2] at po
    cases o' with
    | lst os =>
      simp only at po
      have r1 := rs.ext ex
      obtain ⟨v0, a0, vs0, g1, g2, g3, g4, k5⟩ := r1.non.mutL e1 e2
      have g1' : σ[ip.1]? = some (some v0) := g1
      rw [ev] at g1'; cases g1'
      have ea := pt.det g2
      subst ea
      refine ⟨.inl ⟨rfl, _, .inl (.inl g3)⟩, ?_⟩
      cases hf : fm os with
      | none => rw [hf] at po; exact po.elim
      | some os' =>
        rw [hf] at po
        obtain ⟨tv, to, c, et, rr⟩ := hm.ok os os' hf
        refine rr a0 vs0 H1 _ g3 g4 fun y => ?_
        have := k5 c
        rw [et] at this
        exact po _ _ _ this
    | _ => exact po.elim
  · split at po
    · rename_i o eo
      split at po
      · rename_i os eo2; exact ⟨o, _, eo, eo2⟩
      · exact po.elim
    · exact po.elim
end
section
variable {β l σ τ α γ ι : Type} {E : σ → OEnv → Prop} {L : l → OEnv → Prop} {er : O → OEnv → β → Prop} {Z : OEnv → Prop} {ρ : OEnv} {g h k g1 : OEnv → SR}
theorem q_mut0P {fm : List O → Option (List O)} {tf : List γ → Option (List γ)} {ox : α → O} {oe : γ → O} {hp : OEnv → R (Nat × List Nat)} {t : R ι} {ll : α → TR β l σ} (hf : ∀ ys : List γ, fm (ys.map oe) = (tf ys).map (List.map oe)) (i : Nat) {p : ι → List Nat} {get : ι → α → Option (List γ)} {set : ι → α → List γ → α} (x : α) (hl : ∀ n, LQ ox (p n) (get n) oe (set n)) (h1 : TQ (fun n => (i, p n)) (hp ρ) t) (z : Z ρ) (hr : ∀ y, SQ E L er Z (k (ρ.set i (some (ox y)))) (ll y)) (hi : ρ[i]? = some (some (ox x)) := by rfl) :
    SQ E L er Z (seq (sMut0 fm hp) k ρ) (t.tr fun n => tfd (get n x) fun ys => tfd (tf ys) fun zs => ll (set n x zs)) := by
  show SQ E L er Z (SR.seq (R.sr _ _ _) k) _
  rw [seq_sr]
  refine SQ.sr h1 z fun n => ?_
  simp only [hi]
  cases hg : get n x with
  | none => trivial
  | some ys =>
    rw [(hl n).g x ys hg]
    simp only [tfd]
    rw [hf]
    cases hz : tf ys with
    | none => trivial
    | some zs =>
      have e1 := (hl n).s x ys zs hg
      show SQ _ _ _ _ (k _) _
      rw [show O.lst (zs.map oe) = oL oe zs from rfl, e1]
      exact hr _
end
def tpopL {γ : Type} (ys : List γ) : Option (List γ) := if 0 < ys.length then some ys.dropLast else none
theorem f_pop {γ : Type} (oe : γ → O) (ys : List γ) : fPop (ys.map oe) = (tpopL ys).map (List.map oe) := by
  unfold fPop tpopL; rw [List.length_map]; split <;> simp [List.map_dropLast]
theorem f_rev {γ : Type} (oe : γ → O) (ys : List γ) : (fun os : List O => some os.reverse) (ys.map oe) = (some ys.reverse).map (List.map oe) := by simp
end VL

namespace VL
open PySem PySem.Spec PyProof.Rows L2
open Enc (e)
/-! ### own objects, typed -/
structure In (c : Str) (ns : List Str) (τ : Type) where
  v : τ
class EncL (τ : Type) where
  l : τ → List PyData
section
variable {α β γ δ ε ζ η : Type} [Enc α] [Enc β] [Enc γ] [Enc δ] [Enc ε] [Enc ζ] [Enc η]
instance : EncL Unit := ⟨fun _ => []⟩
instance : EncL (T1 α) := ⟨fun p => [e p.a]⟩
instance : EncL (α × β) := ⟨fun p => [e p.1, e p.2]⟩
instance : EncL (T3 α β γ) := ⟨fun p => [e p.a, e p.b, e p.c]⟩
instance : EncL (T4 α β γ δ) := ⟨fun p => [e p.a, e p.b, e p.c, e p.d]⟩
instance : EncL (T5 α β γ δ ε) := ⟨fun p => [e p.a, e p.b, e p.c, e p.d, e p.x]⟩
instance : EncL (T6 α β γ δ ε ζ) := ⟨fun p => [e p.a, e p.b, e p.c, e p.d, e p.x, e p.y]⟩
instance : EncL (T7 α β γ δ ε ζ η) := ⟨fun p => [e p.a, e p.b, e p.c, e p.d, e p.x, e p.y, e p.z]⟩
instance {c : Str} {ns : List Str} {τ : Type} [EncL τ] : Enc (In c ns τ) := ⟨fun x => insD c ns (EncL.l x.v)⟩
end
abbrev oC (c : Str) (ns : List Str) {τ : Type} (l : τ → List O) (x : In c ns τ) : O := .ins c ns (l x.v)
abbrev oP {α : Type} (a : Addr) (ox : α → O) (x : α) : O := .par a (ox x)
section
variable {α β γ δ ε ζ η : Type} {f1 : α → O} {f2 : β → O} {f3 : γ → O} {f4 : δ → O} {f5 : ε → O} {f6 : ζ → O} {f7 : η → O}
abbrev oc0 : Unit → List O := fun _ => []
abbrev oc1 (f1 : α → O) : T1 α → List O := fun p => [f1 p.a]
abbrev oc2 (f1 : α → O) (f2 : β → O) : α × β → List O := fun p => [f1 p.1, f2 p.2]
abbrev oc3 (f1 : α → O) (f2 : β → O) (f3 : γ → O) : T3 α β γ → List O := fun p => [f1 p.a, f2 p.b, f3 p.c]
abbrev oc4 (f1 : α → O) (f2 : β → O) (f3 : γ → O) (f4 : δ → O) : T4 α β γ δ → List O := fun p => [f1 p.a, f2 p.b, f3 p.c, f4 p.d]
abbrev oc5 (f1 : α → O) (f2 : β → O) (f3 : γ → O) (f4 : δ → O) (f5 : ε → O) : T5 α β γ δ ε → List O := fun p => [f1 p.a, f2 p.b, f3 p.c, f4 p.d, f5 p.x]
abbrev oc6 (f1 : α → O) (f2 : β → O) (f3 : γ → O) (f4 : δ → O) (f5 : ε → O) (f6 : ζ → O) : T6 α β γ δ ε ζ → List O := fun p => [f1 p.a, f2 p.b, f3 p.c, f4 p.d, f5 p.x, f6 p.y]
abbrev oc7 (f1 : α → O) (f2 : β → O) (f3 : γ → O) (f4 : δ → O) (f5 : ε → O) (f6 : ζ → O) (f7 : η → O) : T7 α β γ δ ε ζ η → List O := fun p => [f1 p.a, f2 p.b, f3 p.c, f4 p.d, f5 p.x, f6 p.y, f7 p.z]
variable [Enc α] [Enc β] [Enc γ] [Enc δ] [Enc ε] [Enc ζ] [Enc η] {c : Str} {ns : List Str}
theorem dC {τ : Type} [EncL τ] {l : τ → List O} (h : ∀ x, O.datas (l x) = EncL.l x) (x : In c ns τ) : O.data (oC c ns l x) = e x := by
  show insD c ns (O.datas (l x.v)) = _
  rw [h]; rfl
theorem dC0 (x : In c ns Unit) : O.data (oC c ns oc0 x) = e x := dC (fun _ => rfl) x
theorem dC1 (h1 : ∀ a, O.data (f1 a) = e a) (x : In c ns (T1 α)) : O.data (oC c ns (oc1 f1) x) = e x := dC (fun p => by show [_] = _; rw [h1]; rfl) x
theorem dC2 (h1 : ∀ a, O.data (f1 a) = e a) (h2 : ∀ a, O.data (f2 a) = e a) (x : In c ns (α × β)) : O.data (oC c ns (oc2 f1 f2) x) = e x := dC (fun p => by show [_, _] = _; rw [h1, h2]; rfl) x
theorem dC3 (h1 : ∀ a, O.data (f1 a) = e a) (h2 : ∀ a, O.data (f2 a) = e a) (h3 : ∀ a, O.data (f3 a) = e a) (x : In c ns (T3 α β γ)) : O.data (oC c ns (oc3 f1 f2 f3) x) = e x := dC (fun p => by show [_, _, _] = _; rw [h1, h2, h3]; rfl) x
theorem dC4 (h1 : ∀ a, O.data (f1 a) = e a) (h2 : ∀ a, O.data (f2 a) = e a) (h3 : ∀ a, O.data (f3 a) = e a) (h4 : ∀ a, O.data (f4 a) = e a) (x : In c ns (T4 α β γ δ)) : O.data (oC c ns (oc4 f1 f2 f3 f4) x) = e x := dC (fun p => by show [_, _, _, _] = _; rw [h1, h2, h3, h4]; rfl) x
theorem dC5 (h1 : ∀ a, O.data (f1 a) = e a) (h2 : ∀ a, O.data (f2 a) = e a) (h3 : ∀ a, O.data (f3 a) = e a) (h4 : ∀ a, O.data (f4 a) = e a) (h5 : ∀ a, O.data (f5 a) = e a) (x : In c ns (T5 α β γ δ ε)) : O.data (oC c ns (oc5 f1 f2 f3 f4 f5) x) = e x := dC (fun p => by show [_, _, _, _, _] = _; rw [h1, h2, h3, h4, h5]; rfl) x
theorem dC6 (h1 : ∀ a, O.data (f1 a) = e a) (h2 : ∀ a, O.data (f2 a) = e a) (h3 : ∀ a, O.data (f3 a) = e a) (h4 : ∀ a, O.data (f4 a) = e a) (h5 : ∀ a, O.data (f5 a) = e a) (h6 : ∀ a, O.data (f6 a) = e a) (x : In c ns (T6 α β γ δ ε ζ)) : O.data (oC c ns (oc6 f1 f2 f3 f4 f5 f6) x) = e x := dC (fun p => by show [_, _, _, _, _, _] = _; rw [h1, h2, h3, h4, h5, h6]; rfl) x
theorem dC7 (h1 : ∀ a, O.data (f1 a) = e a) (h2 : ∀ a, O.data (f2 a) = e a) (h3 : ∀ a, O.data (f3 a) = e a) (h4 : ∀ a, O.data (f4 a) = e a) (h5 : ∀ a, O.data (f5 a) = e a) (h6 : ∀ a, O.data (f6 a) = e a) (h7 : ∀ a, O.data (f7 a) = e a) (x : In c ns (T7 α β γ δ ε ζ η)) : O.data (oC c ns (oc7 f1 f2 f3 f4 f5 f6 f7) x) = e x := dC (fun p => by show [_, _, _, _, _, _, _] = _; rw [h1, h2, h3, h4, h5, h6, h7]; rfl) x
theorem dP {a : Addr} {ox : α → O} (h : ∀ x, O.data (ox x) = e x) (x : α) : O.data (oP a ox x) = e x := h x
end
/-! attributes -/
section
variable {α β γ τ : Type} [Enc α] [Enc β] [Enc γ] [EncL τ] {c f : Str} {ns : List Str} {ct : CT} {ρ : OEnv} {k : Nat}
theorem look_fix {f : Str} : ∀ {ns : List Str} {ds : List PyData} {k : Nat} {d : PyData}, fixS f ns = some k → ds[k]? = some d → lookD f ((ns.map PyData.str).zip ds) = some d
  | [], _, _, _, h, _ => by simp [fixS] at h
  | n :: ns, [], k, d, _, h => by simp at h
  | n :: ns, x :: ds, k, d, h, h2 => by
    simp only [fixS] at h
    simp only [List.map_cons, List.zip_cons_cons, lookD]
    by_cases q : n = f
    · rw [if_pos q] at h ⊢; cases h; simpa using h2
    · rw [if_neg q] at h ⊢
      cases hk : fixS f ns with
      | none => rw [hk] at h; simp at h
      | some j => rw [hk] at h; simp at h; subst h; exact look_fix hk (by simpa using h2)
theorem o_fld {p : τ → α} (hi : inCt ct c f = true) (hf : fixS f ns = some k) (hp : ∀ v : τ, (EncL.l v)[k]? = some (e (p v)) := by intro _; rfl) (x : In c ns τ) : TEq (vfld ct f (e x)) (pj (fun x_ : In c ns τ => p x_.v) x) := by
  show vfld ct f (insD c ns (EncL.l x.v)) = _
  unfold insD vfld
  simp only [hi, if_true, look_fix hf (hp x.v)]
theorem t_x2v {op : PyData → PyData → R PyData} {top : α → β → R γ} {h h' : OEnv → R PyData} {s : R α} {t : R β} (ho : ∀ a b, TEq (op (e a) (e b)) (top a b)) (ha : TEq (h ρ) s) (hb : TEq (h' ρ) t) : TEq (x2v op h h' ρ) (b2 top s t) := ha.bind fun a => hb.bind fun b => ho a b
/-- a frozen field of an own object -/
theorem t_exP {l : τ → List O} {p : τ → α} {x : O} {ix : Nat} (y : In c ns τ) (hx : x = oC c ns l y ∨ ∃ a, x = oP a (oC c ns l) y) (hi : inCt ct c f = true) (hf : fixS f ns = some k) (hp : ∀ v : τ, (l v)[k]? = some (.fz (e (p v))) := by intro _; rfl) (h : ρ[ix]? = some (some x) := by rfl) : TEq (exP (pFld ct f (pVar ix)) ρ) (.ok (p y.v)) := by
  rcases hx with hx | ⟨a, hx⟩
  · subst hx
    have e1 : pVar ix ρ = .ok (ix, []) := by unfold pVar; rw [h]; rfl
    have e2 : pFld ct f (pVar ix) ρ = .ok (ix, [k]) := by
      unfold pFld; rw [e1]; simp only [R.bind_ok, h, O.at, hi, if_true, hf, List.nil_append]
    unfold exP; rw [e2]
    simp only [R.bind_ok, h, O.at, O.kids, hp y.v]
    rfl
  · subst hx
    have e1 : pVar ix ρ = .ok (ix, [0]) := by unfold pVar; rw [h]; rfl
    have e2 : pFld ct f (pVar ix) ρ = .ok (ix, [0, k]) := by
      unfold pFld; rw [e1]; simp only [R.bind_ok, h, O.at, O.kids, List.getElem?_cons_zero, hi, if_true, hf]; rfl
    unfold exP; rw [e2]
    simp only [R.bind_ok, h, O.at, O.kids, List.getElem?_cons_zero, hp y.v]
    rfl
end
section
variable {α β γ τ : Type} {c f : Str} {ns : List Str} {ct : CT} {ρ : OEnv} {k : Nat}
theorem lq_C {l : τ → List O} {oe : β → O} (n : Nat) (get : τ → List β) (set : τ → List β → τ) (hg : ∀ v, (l v)[n]? = some (oL oe (get v)) := by intro _; rfl) (hs : ∀ v zs, (l v).set n (oL oe zs) = l (set v zs) := by intro _ _; rfl) : LQ (oC c ns l) [n] (fun x : In c ns τ => some (get x.v)) oe (fun x zs => ⟨set x.v zs⟩) := ⟨fun x ys h => by
  cases h
  show (match (l x.v)[n]? with | some x => O.at x [] | none => none) = _
  rw [hg]; rfl, fun x ys zs h => by
  show (match (l x.v)[n]? with | some y => (O.ins c ns (l x.v)).setKid n (O.put y [] (oL oe zs)) | none => _) = _
  rw [hg]
  show O.ins c ns ((l x.v).set n (oL oe zs)) = _
  rw [hs]⟩
theorem lq_P {a : Addr} {ox : α → O} {p : List Nat} {get : α → Option (List β)} {oe : β → O} {set : α → List β → α} (h : LQ ox p get oe set) : LQ (oP a ox) (0 :: p) get oe set := ⟨fun x ys q => by
  show O.at (ox x) p = _
  exact h.g x ys q, fun x ys zs q => by
  show O.par a (O.put (ox x) p (oL oe zs)) = _
  rw [h.s x ys zs q]⟩
theorem l_fldP {x : O} {os : List O} (ix : Nat) (hx : x = .ins c ns os ∨ ∃ a, x = .par a (.ins c ns os)) (hi : inCt ct c f = true) (hf : fixS f ns = some k) (h : ρ[ix]? = some (some x) := by rfl) : TQ (fun _ : Unit => (ix, lentP x ++ [k])) (pFld ct f (pVar ix) ρ) (.ok ()) := by
  rcases hx with hx | ⟨a, hx⟩
  · subst hx
    have e1 : pVar ix ρ = .ok (ix, []) := by unfold pVar; rw [h]; rfl
    show pFld ct f (pVar ix) ρ = _
    unfold pFld; rw [e1]; simp only [R.bind_ok, h, O.at, hi, if_true, hf]; rfl
  · subst hx
    have e1 : pVar ix ρ = .ok (ix, [0]) := by unfold pVar; rw [h]; rfl
    show pFld ct f (pVar ix) ρ = _
    unfold pFld; rw [e1]; simp only [R.bind_ok, h, O.at, O.kids, List.getElem?_cons_zero, hi, if_true, hf]; rfl
end
section
variable {β l σ τ α γ ι : Type} {E : σ → OEnv → Prop} {L : l → OEnv → Prop} {er : O → OEnv → β → Prop} {Z : OEnv → Prop} {ρ : OEnv} {g h k g1 : OEnv → SR} {c f : Str} {ns : List Str} {ct : CT}
/-- o.f = e: the field is there -/
theorem q_fldS {x : O} {os : List O} {j : Nat} {oy : ι → O} {ho : OEnv → R (O × OEnv)} {t : R ι} {ll : ι → TR β l σ} (ix : Nat) (hx : x = .ins c ns os ∨ ∃ a, x = .par a (.ins c ns os)) (hi : inCt ct c f = true) (hf : fixS f ns = some j) (hn : ns.length < 1000) (h0 : TQ (fun a => (oy a, ρ)) (ho ρ) t) (z : Z ρ) (hr : ∀ y, SQ E L er Z (k (ρ.set ix (some (x.put (lentP x) (.ins c ns (os.set j (oy y))))))) (ll y)) (h : ρ[ix]? = some (some x) := by rfl) : SQ E L er Z (seq (sFldP ct f (pVar ix) ho) k ρ) (t.tr ll) := by
  show SQ E L er Z (SR.seq (R.sr _ _ _) k) _
  rw [seq_sr]
  refine SQ.sr h0 z fun y => ?_
  have hp : ∀ o : O, putN f o ns os = (ns, os.set j o) := fun o => by unfold putN; rw [hf]
  have hr := hr y
  rcases hx with hx | ⟨a, hx⟩
  · subst hx
    have e1 : pVar ix ρ = .ok (ix, []) := by unfold pVar; rw [h]; rfl
    simp only [e1, R.sr, h, O.at, hi, hn, and_self, if_true, hp]
    exact hr
  · subst hx
    have e1 : pVar ix ρ = .ok (ix, [0]) := by unfold pVar; rw [h]; rfl
    simp only [e1, R.sr, h, O.at, O.kids, List.getElem?_cons_zero, hi, hn, and_self, if_true, hp]
    exact hr
/-- o.f = e: a new field -/
theorem q_fldN {x : O} {os : List O} {oy : ι → O} {ho : OEnv → R (O × OEnv)} {t : R ι} {ll : ι → TR β l σ} (ix : Nat) (hx : x = .ins c ns os ∨ ∃ a, x = .par a (.ins c ns os)) (hi : inCt ct c f = true) (hf : fixS f ns = none) (hn : ns.length < 1000) (h0 : TQ (fun a => (oy a, ρ)) (ho ρ) t) (z : Z ρ) (hr : ∀ y, SQ E L er Z (k (ρ.set ix (some (x.put (lentP x) (.ins c (ns ++ [f]) (os ++ [oy y])))))) (ll y)) (h : ρ[ix]? = some (some x) := by rfl) : SQ E L er Z (seq (sFldP ct f (pVar ix) ho) k ρ) (t.tr ll) := by
  show SQ E L er Z (SR.seq (R.sr _ _ _) k) _
  rw [seq_sr]
  refine SQ.sr h0 z fun y => ?_
  have hp : ∀ o : O, putN f o ns os = (ns ++ [f], os ++ [o]) := fun o => by unfold putN; rw [hf]
  have hr := hr y
  rcases hx with hx | ⟨a, hx⟩
  · subst hx
    have e1 : pVar ix ρ = .ok (ix, []) := by unfold pVar; rw [h]; rfl
    simp only [e1, R.sr, h, O.at, hi, hn, and_self, if_true, hp]
    exact hr
  · subst hx
    have e1 : pVar ix ρ = .ok (ix, [0]) := by unfold pVar; rw [h]; rfl
    simp only [e1, R.sr, h, O.at, O.kids, List.getElem?_cons_zero, hi, hn, and_self, if_true, hp]
    exact hr
/-- o.f += e of ints -/
theorem q_fldaug {x : O} {os : List O} {j : Nat} {m : Int} {gg : Int → Int → Int} {hx' : OEnv → R PyData} {t : R Int} {ll : Int → TR β l σ} (ix : Nat) (hx : x = .ins c ns os ∨ ∃ a, x = .par a (.ins c ns os)) (hi : inCt ct c f = true) (hf : fixS f ns = some j) (hm : os[j]? = some (.fz (.int m))) (hn : ns.length < 1000) (h0 : TEq (hx' ρ) t) (z : Z ρ) (hr : ∀ y, SQ E L er Z (k (ρ.set ix (some (x.put (lentP x) (.ins c ns (os.set j (.fz (.int (gg m y))))))))) (ll y)) (h : ρ[ix]? = some (some x) := by rfl) : SQ E L er Z (seq (sFldAug gg ct f (pVar ix) hx') k ρ) (t.tr ll) := by
  have hp : ∀ o : O, putN f o ns os = (ns, os.set j o) := fun o => by unfold putN; rw [hf]
  rcases hx with hx | ⟨a, hx⟩
  · subst hx
    have e1 : pVar ix ρ = .ok (ix, []) := by unfold pVar; rw [h]; rfl
    show SQ E L er Z (SR.seq (R.sr _ _ _) k) _
    rw [e1]
    simp only [R.sr, h, O.at, hi, hn, and_self, if_true, hp, hf, hm]
    show SQ E L er Z (SR.seq (R.sr _ _ _) k) _
    rw [seq_sr]
    exact SQ.sr h0 z fun y => hr y
  · subst hx
    have e1 : pVar ix ρ = .ok (ix, [0]) := by unfold pVar; rw [h]; rfl
    show SQ E L er Z (SR.seq (R.sr _ _ _) k) _
    rw [e1]
    simp only [R.sr, h, O.at, O.kids, List.getElem?_cons_zero, hi, hn, and_self, if_true, hp, hf, hm]
    show SQ E L er Z (SR.seq (R.sr _ _ _) k) _
    rw [seq_sr]
    exact SQ.sr h0 z fun y => hr y
end
/-! ### defs with lent things, typed -/
def TMR {γ : Type} (fr : γ → O × List O) (r : MR) (t : R γ) : Prop := match t with
  | .ok a => r = .ok (fr a).1 (fr a).2
  | .err c => r = .err c
  | .stuck => True
theorem samePar_refl : ∀ {xs ys : List O} {as : List Addr}, xs.map parOf = as.map some → ys.map parOf = as.map some → samePar xs ys = true
  | [], [], _, _, _ => rfl
  | x :: xs, y :: ys, a :: as, h1, h2 => by
    simp only [List.map_cons, List.cons.injEq] at h1 h2
    cases x <;> simp [parOf] at h1
    cases y <;> simp [parOf] at h2
    obtain ⟨rfl, h1⟩ := h1
    obtain ⟨rfl, h2⟩ := h2
    simp only [samePar, beq_self_eq_true, Bool.true_and]
    exact samePar_refl (as := as) (by simpa using h1) (by simpa using h2)
  | [], y :: ys, as, h1, h2 => by cases as <;> simp at h1 h2
  | x :: xs, [], as, h1, h2 => by cases as <;> simp at h1 h2
  | x :: xs, y :: ys, [], h1, h2 => by simp at h1
section
variable {β σ l ς : Type} {N : Nat} {ls : List Nat} {g : OEnv → SR} {ρa : OEnv} {L : l → OEnv → Prop} {lo : ς → List O} {oi : List O} {as : List Addr}
/-- a def that lends: its answer frozen -/
theorem fn_TM [Enc β] {t : TR (β × ς) l σ} {ss : σ → ς} {d : σ → R β} (hi : getsO ρa ls = some oi) (hp : oi.map parOf = as.map some) (hl : ∀ s, (lo s).map parOf = as.map some) (h : SQ (fun s ρ => getsO ρ ls = some (lo (ss s))) L (fun o ρ b => O.data o = e b.1 ∧ getsO ρ ls = some (lo b.2)) (fun _ => True) (g (ρa ++ List.replicate (N - ρa.length) none)) t) (hd : ∀ s, TEq (.ok .none) (d s)) :
    TMR (fun p : β × ς => (.fz (e p.1), lo p.2)) (frzM (runM N ls g) ρa) (t.fn fun s => (d s).bind fun b => .ok (b, ss s)) := by
  have hf : ∀ s, fits (getsO ρa ls) (some (lo s)) = some (lo s) := fun s => by
    rw [hi]; show (if samePar oi (lo s) = true then _ else _) = _
    rw [if_pos (samePar_refl hp (hl s))]
  cases t with
  | stuck => trivial
  | bk s => trivial
  | ct s => trivial
  | nx s =>
    obtain ⟨ρ', e1, e2⟩ := h
    show TMR _ _ ((d s).bind _)
    have hd := hd s
    cases q : d s with
    | stuck => trivial
    | err c => rw [q] at hd; cases hd
    | ok b =>
      rw [q] at hd
      have hd : (R.ok PyData.none) = .ok (e b) := hd
      injection hd with hd
      show frzM _ ρa = _
      unfold frzM runM
      rw [e1]; simp only [e2, hf]
      rw [← hd]; rfl
  | rt b =>
    obtain ⟨o, ρ', e1, e2, e3⟩ := h
    show frzM _ ρa = _
    unfold frzM runM
    rw [e1]; simp only [e3, hf, e2]
  | err c =>
    obtain ⟨ρ', e1, _⟩ := h
    show frzM _ ρa = _
    unfold frzM runM
    rw [e1]
/-- its answer one's own -/
theorem fn_TMO {ox : β → O} {t : TR (β × ς) l σ} (hi : getsO ρa ls = some oi) (hp : oi.map parOf = as.map some) (hl : ∀ s, (lo s).map parOf = as.map some) {E : σ → OEnv → Prop} (h : SQ E L (fun o ρ b => o = ox b.1 ∧ getsO ρ ls = some (lo b.2)) (fun _ => True) (g (ρa ++ List.replicate (N - ρa.length) none)) t) :
    TMR (fun p : β × ς => (ox p.1, lo p.2)) (runM N ls g ρa) (t.fn fun _ => .stuck) := by
  have hf : ∀ s, fits (getsO ρa ls) (some (lo s)) = some (lo s) := fun s => by
    rw [hi]; show (if samePar oi (lo s) = true then _ else _) = _
    rw [if_pos (samePar_refl hp (hl s))]
  cases t with
  | stuck => trivial
  | bk s => trivial
  | ct s => trivial
  | nx s => trivial
  | rt b =>
    obtain ⟨o, ρ', e1, e2, e3⟩ := h
    show runM _ _ _ ρa = _
    unfold runM
    rw [e1]; simp only [e3, hf, e2]
  | err c =>
    obtain ⟨ρ', e1, _⟩ := h
    show runM _ _ _ ρa = _
    unfold runM
    rw [e1]
end
/-! arguments -/
section
variable {α β γ σ ς θ : Type} [Enc α] {ρ : OEnv}
theorem ag_nil : TQ (fun _ : Unit => ([] : List Ag)) (agNil ρ) (.ok ()) := rfl
theorem ag_d {ags : β → List Ag} {hx : OEnv → R PyData} {hg : OEnv → R (List Ag)} {s : R α} {t : R β} (h1 : TEq (hx ρ) s) (h2 : TQ ags (hg ρ) t) : TQ (fun p : α × β => Ag.d (e p.1) :: ags p.2) (agCons (agD hx) hg ρ) (s.bind fun a => t.bind fun b => .ok (a, b)) := by
  show TQ _ (((hx ρ).bind _).bind _) _
  rw [R.bind_assoc]
  refine h1.bind fun a => ?_
  show TQ _ ((hg ρ).bind _) _
  exact h2.bind fun b => rfl
theorem ag_l {ags : β → List Ag} {hg : OEnv → R (List Ag)} {t : R β} (i : Nat) (x : O) (h2 : TQ ags (hg ρ) t) (h : ρ[i]? = some (some x) := by rfl) : TQ (fun p => Ag.l i :: ags p) (agCons (agL i) hg ρ) t := by
  have e1 : agL i ρ = .ok (.l i) := by unfold agL; rw [h]
  show TQ _ ((agL i ρ).bind _) _
  rw [e1]
  show TQ _ ((hg ρ).bind _) _
  cases t with
  | stuck => trivial
  | err c => rw [show hg ρ = .err c from h2]; exact rfl
  | ok b => rw [show hg ρ = .ok (ags b) from h2]; exact rfl
theorem ags_nil : TQ (fun _ : Unit => ([] : List PyData)) (xNil ρ) (.ok ()) := rfl
theorem ags_d {ds : β → List PyData} {hx : OEnv → R PyData} {hg : OEnv → R (List PyData)} {s : R α} {t : R β} (h1 : TEq (hx ρ) s) (h2 : TQ ds (hg ρ) t) : TQ (fun p : α × β => e p.1 :: ds p.2) (xCons hx hg ρ) (s.bind fun a => t.bind fun b => .ok (a, b)) := h1.bind fun a => h2.bind fun b => rfl
/-- what a call that lends gives -/
def TM (oy : θ → O) (Es : σ → OEnv) (r : RM) (t : R (θ × σ)) : Prop := match t with
  | .ok p => r = .ok (oy p.1) (Es p.2)
  | .err c => ∃ ρ', r = .err c ρ'
  | .stuck => True
theorem wrap_np {a : Addr} {o : O} (h : parOf o = none) : wrap1 a o = .par a o := by
  cases o <;> first | rfl | (simp [parOf] at h)
theorem unw_np {a : Addr} {o n : O} (h : parOf o = none) : unw1 o (.par a n) = n := by
  cases o <;> first | rfl | (simp [parOf] at h)
/-- one lent slot -/
theorem mcall_1 {oy : θ → O} {ox : σ → O} {sl : σ → O} {m : OEnv → MR} {ags : List Ag} {t : R (θ × σ)} (i : Nat) (x : σ) (hs : slotsOf ags = [i]) (h : ρ[i]? = some (some (sl x))) (hsl : sl = ox ∨ ∃ a, sl = oP a ox) (hb : ∀ y, isBox (ox y) = true ∧ parOf (ox y) = none) (hM : ∀ b : Addr, TMR (fun p : θ × σ => (oy p.1, [.par b (ox p.2)])) (m (mkA ags [.par b (ox x)])) t) : TM oy (fun s => ρ.set i (some (sl s))) (mCall m ags ρ) t := by
  have hg : getsO ρ (slotsOf ags) = some [sl x] := by rw [hs]; show (match ρ[i]? with | some (some o) => _ | _ => _) = _; rw [h]; rfl
  have hbx : isBox (sl x) = true := by
    rcases hsl with q | ⟨b, q⟩
    · rw [q]; exact (hb x).1
    · rw [q]; rfl
  have hw : ∀ a : Addr, ∃ b, ∀ as, wrapL (a :: as) [sl x] = [.par b (ox x)] ∧ ∀ y, unwL [sl x] [.par b (ox y)] = [sl y] := fun a => by
    rcases hsl with q | ⟨b, q⟩
    · refine ⟨a, fun as => ⟨?_, fun y => ?_⟩⟩
      · subst q; cases as <;> (unfold wrapL; rw [wrap_np (hb x).2]; rfl)
      · subst q; unfold unwL; rw [unw_np (hb x).2]; rfl
    · refine ⟨b, fun as => ⟨?_, fun y => ?_⟩⟩
      · subst q; cases as <;> rfl
      · subst q; rfl
  unfold mCall
  rw [hg]
  simp only [List.all_cons, hbx, List.all_nil, Bool.and_self, if_true]
  cases t with
  | stuck => trivial
  | err c =>
    have e1 : callA m ags [sl x] = .err c := callA_eq fun as la => by
      cases as with
      | nil => simp at la
      | cons a as =>
        obtain ⟨b, q⟩ := hw a
        unfold callR
        rw [(q as).1, show m (mkA ags [.par b (ox x)]) = .err c from hM b]
    rw [e1]
    exact ⟨_, rfl⟩
  | ok p =>
    have e1 : callA m ags [sl x] = .ok (oy p.1) [sl p.2] := callA_eq fun as la => by
      cases as with
      | nil => simp at la
      | cons a as =>
        obtain ⟨b, q⟩ := hw a
        unfold callR
        rw [(q as).1, show m (mkA ags [.par b (ox x)]) = .ok (oy p.1) [.par b (ox p.2)] from hM b]
        simp only [List.length_cons, List.length_nil, if_true, (q []).2]
    rw [e1, hs]
    show RM.ok _ (outs ρ [i] [sl p.2]) = _
    unfold outs
    show RM.ok _ ((outs (ρ.set i none) [] []).set i _) = _
    unfold outs
    rw [List.set_set]
end
end VL

namespace VL
open PySem PySem.Spec PyProof.Rows L2
open Enc (e)
section
variable {α β γ σ ς θ τ : Type} {ρ : OEnv} {oy : θ → O} {Es : σ → OEnv} {c m : Str} {ns : List Str}
theorem TM.ags {κ : Type} {ags : κ → List Ag} {hg : OEnv → R (List Ag)} {t : R κ} {kk : List Ag → RM} {tf : κ → R (θ × σ)} {ρ : OEnv} (h1 : TQ ags (hg ρ) t) (h2 : ∀ p, TM oy Es (kk (ags p)) (tf p)) : TM oy Es (match hg ρ with | .stuck => .stuck | .err x => .err x ρ | .ok as => kk as) (t.bind tf) := by
  cases t with
  | stuck => trivial
  | err c => rw [show hg ρ = .err c from h1]; exact ⟨_, rfl⟩
  | ok p => rw [show hg ρ = .ok (ags p) from h1]; exact h2 p
theorem t_mcall {κ : Type} {ags : κ → List Ag} {hg : OEnv → R (List Ag)} {g : OEnv → MR} {t : R κ} {tf : κ → R (θ × σ)} (h1 : TQ ags (hg ρ) t) (h2 : ∀ p, TM oy Es (mCall g (ags p) ρ) (tf p)) : TM oy Es (oMCall g hg ρ) (t.bind tf) := by
  have := TM.ags (kk := fun as => mCall g as ρ) h1 h2
  unfold oMCall
  exact this
theorem t_mmeth {κ : Type} {ags : κ → List Ag} {hg : OEnv → R (List Ag)} {g : OEnv → MR} {t : R κ} {tf : κ → R (θ × σ)} {x : O} (i : Nat) (h : ρ[i]? = some (some x)) (hi : insOf c m x = true) (h1 : TQ ags (hg ρ) t) (h2 : ∀ p, TM oy Es (mCall g (.l i :: ags p) ρ) (tf p)) : TM oy Es (oMMeth c m g i hg ρ) (t.bind tf) := by
  have := TM.ags (kk := fun as => mCall g (.l i :: as) ρ) h1 h2
  unfold oMMeth
  rw [h]
  simp only [hi, if_true]
  exact this
end
section
variable {β l σ τ α γ ι θ ς : Type} {E : σ → OEnv → Prop} {L : l → OEnv → Prop} {er : O → OEnv → β → Prop} {Z : OEnv → Prop} {ρ : OEnv} {g h k g1 g2 : OEnv → SR} {oy : θ → O} {Es : ς → OEnv} {hm : OEnv → RM} {t : R (θ × ς)}
theorem q_setM {ll : θ × ς → TR β l σ} {i : Nat} (h : TM oy Es (hm ρ) t) (z : ∀ ρ, Z ρ) (hr : ∀ p : θ × ς, SQ E L er Z (k ((Es p.2).set i (some (oy p.1)))) (ll p)) : SQ E L er Z (seq (sSetM i hm) k ρ) (t.tr ll) := by
  show SQ E L er Z (SR.seq (match hm ρ with | .stuck => .stuck | .err c ρ' => .err c ρ' | .ok o ρ' => .nx (ρ'.set i (some o))) k) _
  cases t with
  | stuck => trivial
  | err c => obtain ⟨ρ', q⟩ := h; rw [q]; exact ⟨ρ', rfl, z ρ'⟩
  | ok p => rw [show hm ρ = .ok (oy p.1) (Es p.2) from h]; exact hr p
theorem q_exprM {ll : θ × ς → TR β l σ} (h : TM oy Es (hm ρ) t) (z : ∀ ρ, Z ρ) (hr : ∀ p : θ × ς, SQ E L er Z (k (Es p.2)) (ll p)) : SQ E L er Z (seq (sExprM hm) k ρ) (t.tr ll) := by
  show SQ E L er Z (SR.seq (match hm ρ with | .stuck => .stuck | .err c ρ' => .err c ρ' | .ok _ ρ' => .nx ρ') k) _
  cases t with
  | stuck => trivial
  | err c => obtain ⟨ρ', q⟩ := h; rw [q]; exact ⟨ρ', rfl, z ρ'⟩
  | ok p => rw [show hm ρ = .ok (oy p.1) (Es p.2) from h]; exact hr p
theorem q_retM {f : θ × ς → β} (h : TM oy Es (hm ρ) t) (z : ∀ ρ, Z ρ) (hr : ∀ p : θ × ς, er (oy p.1) (Es p.2) (f p)) : SQ E L er Z (seq (sRetM hm) k ρ) (t.tr fun p => .rt (f p)) := by
  show SQ E L er Z (SR.seq (match hm ρ with | .stuck => .stuck | .err c ρ' => .err c ρ' | .ok o ρ' => .rt o ρ') k) _
  cases t with
  | stuck => trivial
  | err c => obtain ⟨ρ', q⟩ := h; rw [q]; exact ⟨ρ', rfl, z ρ'⟩
  | ok p => rw [show hm ρ = .ok (oy p.1) (Es p.2) from h]; exact ⟨_, _, rfl, hr p⟩
theorem q_ifM2 {t : R (Bool × ς)} {ll : Bool × ς → TR β l σ} (h : TM (fun b : Bool => (oF b : O)) Es (hm ρ) t) (z : ∀ ρ, Z ρ) (hr : ∀ p : Bool × ς, SQ E L er Z (seq (if p.1 = true then g1 else g2) k (Es p.2)) (ll p)) : SQ E L er Z (seq (sIfM false hm g1 g2) k ρ) (t.tr ll) := by
  show SQ E L er Z (SR.seq (match hm ρ with | .err c ρ' => .err c ρ' | .ok (.fz (.bool b)) ρ' => if (b != false) = true then g1 ρ' else g2 ρ' | _ => .stuck) k) _
  cases t with
  | stuck => trivial
  | err c => obtain ⟨ρ', q⟩ := h; rw [q]; exact ⟨ρ', rfl, z ρ'⟩
  | ok p =>
    rw [show hm ρ = .ok (oF p.1) (Es p.2) from h]
    have := hr p
    obtain ⟨b, s⟩ := p
    cases b
    · exact this
    · exact this
theorem q_ifMN2 {t : R (Bool × ς)} {ll : Bool × ς → TR β l σ} (h : TM (fun b : Bool => (oF b : O)) Es (hm ρ) t) (z : ∀ ρ, Z ρ) (hr : ∀ p : Bool × ς, SQ E L er Z (seq (if p.1 = true then g2 else g1) k (Es p.2)) (ll p)) : SQ E L er Z (seq (sIfM true hm g1 g2) k ρ) (t.tr ll) := by
  show SQ E L er Z (SR.seq (match hm ρ with | .err c ρ' => .err c ρ' | .ok (.fz (.bool b)) ρ' => if (b != true) = true then g1 ρ' else g2 ρ' | _ => .stuck) k) _
  cases t with
  | stuck => trivial
  | err c => obtain ⟨ρ', q⟩ := h; rw [q]; exact ⟨ρ', rfl, z ρ'⟩
  | ok p =>
    rw [show hm ρ = .ok (oF p.1) (Es p.2) from h]
    have := hr p
    obtain ⟨b, s⟩ := p
    cases b
    · exact this
    · exact this
theorem q_ite {b : Bool} {t1 t2 : TR β l σ} (h1 : SQ E L er Z (seq g1 k ρ) t1) (h2 : SQ E L er Z (seq g2 k ρ) t2) : SQ E L er Z (seq (if b = true then g1 else g2) k ρ) (tite (.ok b) t1 t2) := by
  cases b
  · exact h2
  · exact h1
/-- if o.m(..): each way goes on for itself -/
theorem q_ifM {t : R (Bool × ς)} {t1 t2 : Bool × ς → TR β l σ} (h : TM (fun b : Bool => (oF b : O)) Es (hm ρ) t) (z : ∀ ρ, Z ρ) (h1 : ∀ p : Bool × ς, SQ E L er Z (seq g1 k (Es p.2)) (t1 p)) (h2 : ∀ p : Bool × ς, SQ E L er Z (seq g2 k (Es p.2)) (t2 p)) : SQ E L er Z (seq (sIfM false hm g1 g2) k ρ) (t.tr fun p => if p.1 = true then t1 p else t2 p) := by
  show SQ E L er Z (SR.seq (match hm ρ with | .err c ρ' => .err c ρ' | .ok (.fz (.bool b)) ρ' => if (b != false) = true then g1 ρ' else g2 ρ' | _ => .stuck) k) _
  cases t with
  | stuck => trivial
  | err c => obtain ⟨ρ', q⟩ := h; rw [q]; exact ⟨ρ', rfl, z ρ'⟩
  | ok p =>
    rw [show hm ρ = .ok (oF p.1) (Es p.2) from h]
    obtain ⟨b, s⟩ := p
    cases b
    · exact h2 (false, s)
    · exact h1 (true, s)
theorem q_ifMN {t : R (Bool × ς)} {t1 t2 : Bool × ς → TR β l σ} (h : TM (fun b : Bool => (oF b : O)) Es (hm ρ) t) (z : ∀ ρ, Z ρ) (h1 : ∀ p : Bool × ς, SQ E L er Z (seq g1 k (Es p.2)) (t1 p)) (h2 : ∀ p : Bool × ς, SQ E L er Z (seq g2 k (Es p.2)) (t2 p)) : SQ E L er Z (seq (sIfM true hm g1 g2) k ρ) (t.tr fun p => if p.1 = true then t2 p else t1 p) := by
  show SQ E L er Z (SR.seq (match hm ρ with | .err c ρ' => .err c ρ' | .ok (.fz (.bool b)) ρ' => if (b != true) = true then g1 ρ' else g2 ρ' | _ => .stuck) k) _
  cases t with
  | stuck => trivial
  | err c => obtain ⟨ρ', q⟩ := h; rw [q]; exact ⟨ρ', rfl, z ρ'⟩
  | ok p =>
    rw [show hm ρ = .ok (oF p.1) (Es p.2) from h]
    obtain ⟨b, s⟩ := p
    cases b
    · exact h1 (false, s)
    · exact h2 (true, s)
end
section
variable {β l σ τ α α' γ ι : Type} {E : σ → OEnv → Prop} {L : l → OEnv → Prop} {er : O → OEnv → β → Prop} {Z : OEnv → Prop} {ρ : OEnv} {k : OEnv → SR} {c f : Str} {ns : List Str} {ct : CT}
theorem q_fldSm {x : O} {os : List O} {j : Nat} {oy : ι → O} {ho : OEnv → R (O × OEnv)} {t : R ι} {ll : α' → TR β l σ} {ix : Nat} {ox' : α' → O} {mk : ι → α'} (hx : x = .ins c ns os ∨ ∃ a, x = .par a (.ins c ns os)) (hi : inCt ct c f = true) (hf : fixS f ns = some j) (hn : ns.length < 1000) (h0 : TQ (fun a => (oy a, ρ)) (ho ρ) t) (z : Z ρ) (hmk : ∀ y, x.put (lentP x) (.ins c ns (os.set j (oy y))) = ox' (mk y)) (hr : ∀ y, SQ E L er Z (k (ρ.set ix (some (ox' y)))) (ll y)) (h : ρ[ix]? = some (some x) := by rfl) : SQ E L er Z (seq (sFldP ct f (pVar ix) ho) k ρ) (t.tr fun y => ll (mk y)) :=
  q_fldS ix hx hi hf hn h0 z (fun y => by rw [hmk]; exact hr (mk y)) h
theorem q_fldNm {x : O} {os : List O} {oy : ι → O} {ho : OEnv → R (O × OEnv)} {t : R ι} {ll : α' → TR β l σ} {ix : Nat} {ox' : α' → O} {mk : ι → α'} (hx : x = .ins c ns os ∨ ∃ a, x = .par a (.ins c ns os)) (hi : inCt ct c f = true) (hf : fixS f ns = none) (hn : ns.length < 1000) (h0 : TQ (fun a => (oy a, ρ)) (ho ρ) t) (z : Z ρ) (hmk : ∀ y, x.put (lentP x) (.ins c (ns ++ [f]) (os ++ [oy y])) = ox' (mk y)) (hr : ∀ y, SQ E L er Z (k (ρ.set ix (some (ox' y)))) (ll y)) (h : ρ[ix]? = some (some x) := by rfl) : SQ E L er Z (seq (sFldP ct f (pVar ix) ho) k ρ) (t.tr fun y => ll (mk y)) :=
  q_fldN ix hx hi hf hn h0 z (fun y => by rw [hmk]; exact hr (mk y)) h
theorem q_fldaugm {x : O} {os : List O} {j : Nat} {m : Int} {gg : Int → Int → Int} {hx' : OEnv → R PyData} {t : R Int} {ll : α' → TR β l σ} {ix : Nat} {ox' : α' → O} {mk : Int → α'} (hx : x = .ins c ns os ∨ ∃ a, x = .par a (.ins c ns os)) (hi : inCt ct c f = true) (hf : fixS f ns = some j) (hm : os[j]? = some (.fz (.int m))) (hn : ns.length < 1000) (h0 : TEq (hx' ρ) t) (z : Z ρ) (hmk : ∀ y, x.put (lentP x) (.ins c ns (os.set j (.fz (.int (gg m y))))) = ox' (mk y)) (hr : ∀ y, SQ E L er Z (k (ρ.set ix (some (ox' y)))) (ll y)) (h : ρ[ix]? = some (some x) := by rfl) : SQ E L er Z (seq (sFldAug gg ct f (pVar ix) hx') k ρ) (t.tr fun y => ll (mk y)) :=
  q_fldaug ix hx hi hf hm hn h0 z (fun y => by rw [hmk]; exact hr (mk y)) h
end
section
variable {β l σ τ α γ ι : Type} [Enc α] [Enc β] {E : σ → OEnv → Prop} {L : l → OEnv → Prop} {Z : OEnv → Prop} {ρ : OEnv} {k : OEnv → SR}
/-- return e: the answer as another type -/
theorem q_retC {ho : OEnv → R (O × OEnv)} {ox : α → O × OEnv} {c : α → R β} {t : R α} (hc : Co c) (hd : ∀ a, O.data (ox a).1 = e a) (h : TQ ox (ho ρ) t) (z : Z ρ) : SQ E L (fun o _ (b : β) => O.data o = e b) Z (seq (sRet ho) k ρ) ((b1 c t).tr fun b => .rt b) := by
  show SQ E L _ Z (SR.seq (R.sr _ _ _) k) _
  rw [seq_sr]
  cases t with
  | stuck => trivial
  | err x => rw [show ho ρ = .err x from h]; exact ⟨ρ, rfl, z⟩
  | ok a =>
    rw [show ho ρ = .ok (ox a) from h]
    have := hc a
    show SQ E L _ Z _ ((c a).tr _)
    cases q : c a with
    | stuck => trivial
    | err x => rw [q] at this; cases this
    | ok b =>
      rw [q] at this
      refine ⟨_, _, rfl, ?_⟩
      show O.data (ox a).1 = e b
      rw [hd]
      injection this
end
/-! C(..), o.m(..) that changes nothing -/
section
variable {κ σ α τ θ : Type} {ρ : OEnv}
theorem p_make {cn : Str} {g : OEnv → MR} {h : OEnv → R (List PyData)} {ds : κ → List PyData} {t : R κ} {tf : κ → R (Unit × σ)} {ox : σ → O} (h1 : TQ ds (h ρ) t) (hM : ∀ (p : κ) (b : Addr), TMR (fun p : Unit × σ => (.fz (e p.1), [.par b (ox p.2)])) (g (mkA (.l 0 :: (ds p).map Ag.d) [.par b (.ins cn [] [])])) (tf p)) : TQ (fun s => (ox s, ρ)) (oMake cn g h ρ) (t.bind fun p => (tf p).bind fun q => .ok q.2) := by
  show TQ _ ((h ρ).bind _) _
  refine h1.bind fun p => ?_
  have hc : ∀ as : List Addr, as.length = [O.ins cn [] []].length → ∃ b, wrapL as [O.ins cn [] []] = [.par b (.ins cn [] [])] := fun as la => by
    cases as with
    | nil => simp at la
    | cons a as => exact ⟨a, by cases as <;> rfl⟩
  show TQ _ (R.bind (match callA g (.l 0 :: (ds p).map Ag.d) [.ins cn [] []] with | .ok (.fz .none) [o] => .ok o | .err c => .err c | _ => .stuck) _) _
  cases q : tf p with
  | stuck => trivial
  | err c =>
    rw [callA_eq (r := .err c) fun as la => by
      obtain ⟨b, w⟩ := hc as la
      unfold callR
      have := hM p b; rw [q] at this
      rw [w, show g _ = .err c from this]]
    exact rfl
  | ok s =>
    rw [callA_eq (r := .ok (.fz .none) [ox s.2]) fun as la => by
      obtain ⟨b, w⟩ := hc as la
      unfold callR
      have := hM p b; rw [q] at this
      rw [w, show g _ = .ok (.fz (e s.1)) [.par b (ox s.2)] from this]
      rfl]
    exact rfl
variable [EncL τ] [Enc θ] {c m : Str} {ns : List Str} {tab : MTab} {g : List PyData → R PyData} {fo : PEnv → R PyData} {fa : PEnv → R (List PyData)} {r : PEnv}
theorem look_none2 {m : Str} : ∀ {ns : List Str} {ds : List PyData}, fixS m ns = none → lookD m ((ns.map PyData.str).zip ds) = none
  | [], _, _ => by simp [lookD]
  | n :: ns, [], h => by simp [lookD]
  | n :: ns, d :: ds, h => by
    simp only [fixS] at h
    simp only [List.map_cons, List.zip_cons_cons, lookD]
    by_cases q : n = m
    · rw [if_pos q] at h; cases h
    · rw [if_neg q] at h ⊢
      exact look_none2 (by cases hk : fixS m ns with | none => rfl | some j => rw [hk] at h; simp at h)
theorem vm_self (x : In c ns τ) {t : R θ} (hs : TEq (fo r) (.ok x)) (hl : mLook c tab = some g) (hf : fixS m ns = none) (h : TEq (vapp g (aCons (vC (e x)) fa) r) t) : TEq (vmeth tab m fo fa r) t := by
  unfold vmeth
  rw [show fo r = .ok (e x) from hs]
  have e1 : vmethC tab m (e x) = .ok g := by
    show vmethC tab m (insD c ns (EncL.l x.v)) = _
    unfold vmethC insD
    simp only [hl, look_none2 hf]
  rw [R.bind_ok, e1, R.bind_ok]
  have e2 : vapp g (aCons (vC (e x)) fa) r = (fa r).bind fun ds => g (e x :: ds) := by
    show R.bind (R.bind (.ok (e x)) fun d => (fa r).bind fun ds => .ok (d :: ds)) g = _
    rw [R.bind_ok, R.bind_assoc]
    congr 1
  rw [e2] at h
  exact h
theorem vm_any {s : R (In c ns τ)} {t : In c ns τ → R θ} (hs : TEq (fo r) s) (hl : mLook c tab = some g) (hf : fixS m ns = none) (h : ∀ x, TEq (vapp g (aCons (vC (e x)) fa) r) (t x)) : TEq (vmeth tab m fo fa r) (s.bind t) := by
  cases s with
  | stuck => trivial
  | err c =>
    unfold vmeth
    rw [show fo r = .err c from hs]
    exact rfl
  | ok x => exact vm_self x hs hl hf (h x)
end
/-! [x] * n -/
section
variable {α : Type} [Enc α] {f : PEnv → R (List PyData)} {g : PEnv → R PyData} {ρ : PEnv}
def trep {α : Type} (xs : List α) (n : Int) : R (List α) := if 0 ≤ n ∧ n ≤ 16777216 ∧ xs.length * n.toNat ≤ sizeLine then .ok (List.replicate n.toNat xs).flatten else .stuck
theorem t_frep {s : R (List α)} {t : R Int} (ha : TL (f ρ) s) (hb : TEq (g ρ) t) : TL (frep f g ρ) (b2 trep s t) := by
  show TQ _ ((f ρ).bind _) (s.bind _)
  refine TQ.bind (f := List.map e) ha fun xs => ?_
  show TQ _ ((g ρ).bind _) (t.bind _)
  refine hb.bind fun n => ?_
  show TL (lrep (xs.map e) (.int n)) (trep xs n)
  unfold lrep trep
  rw [List.length_map]
  by_cases h : 0 ≤ n ∧ n ≤ 16777216 ∧ xs.length * n.toNat ≤ sizeLine
  · simp only [h, and_self, if_true]
    show R.ok _ = R.ok _
    congr 1
    rw [List.map_flatten, List.map_replicate]
  · rw [if_neg h]; trivial
end
end VL

namespace VL
open PySem PySem.Spec PyProof.Rows L2
open Enc (e)
/-! ### methods whose answer is one's own -/
abbrev OTab := List (Str × (List PyData → R O))
def oLook (c : Str) : OTab → Option (List PyData → R O)
  | [] => none
  | (d, g) :: r => if d = c then some g else oLook c r
def omethC (tab : OTab) (m : Str) : PyData → R (List PyData → R O)
  | .dict ((.none, .str c) :: ps) => (match oLook c tab with
    | some g => (match lookD m ps with | none => .ok g | some _ => .stuck)
    | none => .stuck)
  | _ => .stuck
def oMeth (tab : OTab) (m : Str) (fo : PEnv → R PyData) (fa : PEnv → R (List PyData)) : OEnv → R (O × OEnv) := fun ρ => (fo (viewF ρ)).bind fun d => (omethC tab m d).bind fun g => (fa (viewF ρ)).bind fun ds => (g (d :: ds)).bind fun o => .ok (o, ρ)
def MethO (X : Cx) (c m : Str) (n : Nat) (g : List PyData → R O) : Prop := ∃ (C f : Addr) (fd : FuncData) (ps : List Str) (k : Nat), clsOf X.K c = some C ∧ Cls X.K C ∧ Meth X.K C m f ∧ FnOk X.prog X.w X.K X.mg X.base (L2.CX X.prog X.w) k f fd ps (spO X.K X.mg n g) ∧ Room k X.A ∧ Binds X.K fd ps []
def MethsO (X : Cx) (m : Str) (n : Nat) : OTab → Prop
  | [] => True
  | (c, g) :: r => MethO X c m n g ∧ MethsO X m n r
theorem oLook_f {X : Cx} {m c : Str} {n : Nat} {g : List PyData → R O} : ∀ {tab : OTab}, MethsO X m n tab → oLook c tab = some g → MethO X c m n g
  | [], _, h => by simp [oLook] at h
  | (d, g') :: r, ⟨h1, h2⟩, h => by
    unfold oLook at h
    by_cases q : d = c
    · rw [if_pos q] at h; injection h with h; subst h; subst q; exact h1
    · rw [if_neg q] at h; exact oLook_f h2 h
section
variable {X : Cx} {W : WX} {a b c e oe o : Expr} {es : List Expr} {pos pos' apos : Pos} {fo : PEnv → R PyData} {fa : PEnv → R (List PyData)} {k n : Nat} {tab : OTab} {m : Str}
theorem ometh_go {t : TA} {to : TE} {n : Nat} {σ : L2.St} {H F0 H0 F : Hp} {ρ : OEnv} {Q : VK} (ht : MethsO X m (n + 1) tab) (qo : ∀ σ H B ρ Q, Same B H → RF X.K B σ ρ → Pst X W σ H (KV1 X B H Q) (fo ρ) → to σ H Q) (qt : ∀ σ H B ρ Q, Same B H → RF X.K B σ ρ → Pst X W σ H (KA1 X B H Q) (fa ρ) → t σ H Q)
    (hl : ∀ ρ ds, fa ρ = .ok ds → ds.length = n) (r : RS X.K F0 H0 F H σ ρ) (pr : Pst X W σ H (fun p : O × OEnv => ∀ v H' F', Same H H' → Same F F' → RS X.K F0 H0 F' H' (some v :: σ) (some p.1 :: p.2) → Q v H') (oMeth tab m fo fa ρ)) : tMethAny X (L2.CX X.prog X.w) m (WE W) to t σ H Q := by
  obtain ⟨fps, s, hs⟩ := id r.ex
  unfold oMeth at pr
  refine one qo hs.fh s.rfF pr fun d x H1 B1 e1 sm dx pg => ?_
  unfold omethC at pg
  split at pg
  · rename_i cn ps
    split at pg
    · rename_i g hg
      split at pg
      · rename_i hn
        obtain ⟨ad, C, dx', ns, vs, ds, rfl, h1, h2, h3, h4, rfl⟩ := dx.insInv
        obtain ⟨C2, f, fd, fps', k, m1, m2, m3, m4, m5, m6⟩ := oLook_f ht hg
        rw [h1] at m1; cases m1
        refine ⟨ad, C, dx', _, f, fd, fps', k, _, rfl, e1.bh _ _ h2, m2, m3, m4, m5, m6, look_none h3 (IsAll.len h4) hn, ?_⟩
        refine qt σ H1 B1 (viewF ρ) _ e1.bh (s.rfF.mono e1.bb) ?_
        simp only [R.bind_ok] at pg
        have hl := hl (viewF ρ)
        generalize fa (viewF ρ) = rr at pg hl ⊢
        cases rr with
        | stuck => exact pg.elim
        | err c => exact pg
        | ok as =>
          intro xs H2 B2 e2 da
          have hlen := hl as rfl
          refine ⟨by rw [List.length_cons, IsAll.len da, hlen], _ :: as, B2, e2.bh, .cons (Is.mono e2.bb dx) da, ?_⟩
          simp only [R.bind_ok] at pg
          generalize g (_ :: as) = rg at pg ⊢
          cases rg with
          | stuck => exact pg
          | err c => exact fun H' z => pg H' (e2.hh.trans z)
          | ok o =>
            intro v H' F' rv
            have hv : Same H2 H' ∧ Same B2 F' := by
              obtain ⟨fp, _, hv⟩ := rv
              exact ⟨hv.h0, hv.f0⟩
            exact pg v H' F' ((e1.hh.trans e2.hh).trans hv.1) ((e1.bb.trans e2.bb).trans hv.2) ((r.ext (e1.trans e2)).push rv)
      · exact pg.elim
    · exact pg.elim
  · exact pg.elim
theorem voq_meth {pl : Sem Bool} (ht : MethsO X m (n + 1) tab) (tk : Takes X W) (h1 : VE X W o fo) (h2 : VAn X W n (e :: es) fa)
    (hst : starEach (e :: es) X.env = (false, eval e X.env) :: starEach es X.env := by rfl) (hpl : (backTo pos (starEach es X.env)).any (·.1) = false := by rfl)
    (hev : eval (.Call (.Attribute o m apos) (e :: es) [] pos) X.env = (do
      let ov ← eval o X.env
      standAt apos.atName
      let (f, first) ← holding [ov] (getMethod ov m pl)
      callWith pos f first (backTo pos (starEach (e :: es) X.env)) (backToKw pos (keywordEach [] X.env))) := by rfl) : VOq X W (.Call (.Attribute o m apos) (e :: es) [] pos) (oMeth tab m fo fa) := by
  obtain ⟨to, po, qo⟩ := h1.ex
  obtain ⟨t, pt, qt⟩ := h2.va.ex
  exact ⟨_, pe_methA po (fun σ => passAt tk σ) pt hst hpl hev, fun σ H F0 H0 F ρ Q r pr => ometh_go ht qo qt h2.len r pr⟩
theorem voq_meth0 {pl : Sem Bool} (ht : MethsO X m 1 tab) (tk : Takes X W) (h1 : VE X W o fo)
    (hev : eval (.Call (.Attribute o m apos) [] [] pos) X.env = (do
      let ov ← eval o X.env
      standAt apos.atName
      let (f, first) ← holding [ov] (getMethod ov m pl)
      callWith pos f first (backTo pos (starEach [] X.env)) (backToKw pos (keywordEach [] X.env))) := by rfl) : VOq X W (.Call (.Attribute o m apos) [] [] pos) (oMeth tab m fo aNil) := by
  obtain ⟨to, po, qo⟩ := h1.ex
  exact ⟨_, pe_methA0 po (fun σ => passAt tk σ) hev, fun σ H F0 H0 F ρ Q r pr => ometh_go (n := 0) (fa := aNil) (t := tNil) ht qo (fun σ H B ρ Q s rf p => (show KA1 X B H Q [] from p) [] H B (.refl s) .nil) (fun ρ ds h => by cases h; rfl) r pr⟩
end
/-! typed -/
section
variable {τ θ κ : Type} [EncL τ] {c m : Str} {ns : List Str} {tab : OTab} {g : List PyData → R O} {fo : PEnv → R PyData} {fa : PEnv → R (List PyData)} {ρ : OEnv} {ox : θ → O}
theorem p_meth (x : In c ns τ) {t : R θ} (hs : TEq (fo (viewF ρ)) (.ok x)) (hl : oLook c tab = some g) (hf : fixS m ns = none) (h : TQ (fun a => (ox a, ρ)) (oCall g (aCons (vC (Enc.e x)) fa) ρ) t) : TQ (fun a => (ox a, ρ)) (oMeth tab m fo fa ρ) t := by
  unfold oMeth
  rw [show fo (viewF ρ) = .ok (Enc.e x) from hs]
  have e1 : omethC tab m (Enc.e x) = .ok g := by
    show omethC tab m (insD c ns (EncL.l x.v)) = _
    unfold omethC insD
    simp only [hl, look_none2 hf]
  rw [R.bind_ok, e1, R.bind_ok]
  have e2 : oCall g (aCons (vC (Enc.e x)) fa) ρ = (fa (viewF ρ)).bind fun ds => (g (Enc.e x :: ds)).bind fun o => .ok (o, ρ) := by
    show R.bind (R.bind (.ok (Enc.e x)) fun d => (fa (viewF ρ)).bind fun ds => .ok (d :: ds)) _ = _
    rw [R.bind_ok, R.bind_assoc]
    congr 1
  rw [e2] at h
  exact h
end
end VL

namespace LW
open PySem PySem.Spec PyProof.Rows L2 VL
def topS (i : Nat) : Stmt := PySem.Challenge.pw_trackswhole_k73_the_ring_that_rounds_fin.main.body.getD i (.Pass ⟨0, 0, 0, 0⟩)
instance lit_0 : Bd (0 : Int) 4 := ⟨.lit⟩
instance lit_1 : Bd (1 : Int) 4 := ⟨.lit⟩
instance mod_1 (a : Int) : Bd (a % 1) 4 := bd_modl (by decide) (by decide)
instance lit_2 : Bd (2 : Int) 4 := ⟨.lit⟩
instance mod_2 (a : Int) : Bd (a % 2) 4 := bd_modl (by decide) (by decide)
instance lit_3 : Bd (3 : Int) 4 := ⟨.lit⟩
instance mod_3 (a : Int) : Bd (a % 3) 4 := bd_modl (by decide) (by decide)
instance lit_4 : Bd (4 : Int) 4 := ⟨.lit⟩
instance mod_4 (a : Int) : Bd (a % 4) 4 := bd_modl (by decide) (by decide)
instance lit_5 : Bd (5 : Int) 4 := ⟨.lit⟩
instance mod_5 (a : Int) : Bd (a % 5) 4 := bd_modl (by decide) (by decide)
instance lit_6 : Bd (6 : Int) 4 := ⟨.lit⟩
instance mod_6 (a : Int) : Bd (a % 6) 4 := bd_modl (by decide) (by decide)
instance lit_7 : Bd (7 : Int) 4 := ⟨.lit⟩
instance mod_7 (a : Int) : Bd (a % 7) 4 := bd_modl (by decide) (by decide)
instance lit_8 : Bd (8 : Int) 5 := ⟨.lit⟩
instance mod_8 (a : Int) : Bd (a % 8) 5 := bd_modl (by decide) (by decide)
instance lit_9 : Bd (9 : Int) 5 := ⟨.lit⟩
instance mod_9 (a : Int) : Bd (a % 9) 5 := bd_modl (by decide) (by decide)
instance lit_10 : Bd (10 : Int) 5 := ⟨.lit⟩
instance mod_10 (a : Int) : Bd (a % 10) 5 := bd_modl (by decide) (by decide)
instance lit_11 : Bd (11 : Int) 5 := ⟨.lit⟩
instance mod_11 (a : Int) : Bd (a % 11) 5 := bd_modl (by decide) (by decide)
instance lit_12 : Bd (12 : Int) 5 := ⟨.lit⟩
instance mod_12 (a : Int) : Bd (a % 12) 5 := bd_modl (by decide) (by decide)
instance lit_13 : Bd (13 : Int) 5 := ⟨.lit⟩
instance mod_13 (a : Int) : Bd (a % 13) 5 := bd_modl (by decide) (by decide)
instance lit_16 : Bd (16 : Int) 6 := ⟨.lit⟩
instance mod_16 (a : Int) : Bd (a % 16) 6 := bd_modl (by decide) (by decide)
instance lit_18 : Bd (18 : Int) 6 := ⟨.lit⟩
instance mod_18 (a : Int) : Bd (a % 18) 6 := bd_modl (by decide) (by decide)
instance lit_19 : Bd (19 : Int) 6 := ⟨.lit⟩
instance mod_19 (a : Int) : Bd (a % 19) 6 := bd_modl (by decide) (by decide)
instance lit_25 : Bd (25 : Int) 6 := ⟨.lit⟩
instance mod_25 (a : Int) : Bd (a % 25) 6 := bd_modl (by decide) (by decide)
instance lit_26 : Bd (26 : Int) 6 := ⟨.lit⟩
instance mod_26 (a : Int) : Bd (a % 26) 6 := bd_modl (by decide) (by decide)
instance lit_32 : Bd (32 : Int) 7 := ⟨.lit⟩
instance mod_32 (a : Int) : Bd (a % 32) 7 := bd_modl (by decide) (by decide)
instance lit_36 : Bd (36 : Int) 7 := ⟨.lit⟩
instance mod_36 (a : Int) : Bd (a % 36) 7 := bd_modl (by decide) (by decide)
instance lit_60 : Bd (60 : Int) 7 := ⟨.lit⟩
instance mod_60 (a : Int) : Bd (a % 60) 7 := bd_modl (by decide) (by decide)
instance lit_1000 : Bd (1000 : Int) 11 := ⟨.lit⟩
instance mod_1000 (a : Int) : Bd (a % 1000) 11 := bd_modl (by decide) (by decide)
instance lit_5040 : Bd (5040 : Int) 14 := ⟨.lit⟩
instance mod_5040 (a : Int) : Bd (a % 5040) 14 := bd_modl (by decide) (by decide)
instance lit_16807 : Bd (16807 : Int) 16 := ⟨.lit⟩
instance mod_16807 (a : Int) : Bd (a % 16807) 16 := bd_modl (by decide) (by decide)
instance lit_40692 : Bd (40692 : Int) 17 := ⟨.lit⟩
instance mod_40692 (a : Int) : Bd (a % 40692) 17 := bd_modl (by decide) (by decide)
instance lit_48271 : Bd (48271 : Int) 17 := ⟨.lit⟩
instance mod_48271 (a : Int) : Bd (a % 48271) 17 := bd_modl (by decide) (by decide)
instance lit_69621 : Bd (69621 : Int) 18 := ⟨.lit⟩
instance mod_69621 (a : Int) : Bd (a % 69621) 18 := bd_modl (by decide) (by decide)
instance lit_2147483399 : Bd (2147483399 : Int) 32 := ⟨.lit⟩
instance mod_2147483399 (a : Int) : Bd (a % 2147483399) 32 := bd_modl (by decide) (by decide)
instance lit_2147483647 : Bd (2147483647 : Int) 32 := ⟨.lit⟩
instance mod_2147483647 (a : Int) : Bd (a % 2147483647) 32 := bd_modl (by decide) (by decide)
@[simp] theorem sok_0 : PyData.strOk "ring" = true := by decide +kernel
@[simp] theorem sok_1 : PyData.strOk "times" = true := by decide +kernel
@[simp] theorem sne_0_1 : (("ring" : Str) = "times") = False := eq_false (by decide)
@[simp] theorem sne_1_0 : (("times" : Str) = "ring") = False := eq_false (by decide)
abbrev csT : CT := [("Clock", ["demands", "times", "causes"])]
noncomputable section
abbrev s_Clock_init : Stmt := inClass (topS 1) 0
abbrev N_Clock_init : List Str := ["self", "count", "demands"]
def g_Clock_init : OEnv → SR := (seq (sFldP csT "demands" (pVar 0) (oX (exF (vlistOf (isq (vVar 2))))))
    (seq (sFldP csT "times" (pVar 0) (oFrF (frep (aCons (vC (.int 0)) aNil) (vVar 1))))
    (sFldP csT "causes" (pVar 0) (oFrF (frep (aCons (vC .none) aNil) (vVar 1))))))
def mM_Clock_init : OEnv → MR := frzM (runM 3 [0] g_Clock_init)
abbrev s_Clock_raise_for : Stmt := inClass (topS 1) 1
abbrev N_Clock_raise_for : List Str := ["self", "index", "i", "j", "wait"]
def g_Clock_raise_for : OEnv → SR := (seq (sTup (gT (gC (gN 2) (gC (gN 3) (gC (gN 4) gE)))) (x2v vidx (exP (pFld csT "demands" (pVar 0))) (exF (vVar 1))))
    (seq (sIf (tB (tst (v2 vge (v2 vidx (v1 (vfld csT "times") (vVar 0)) (vVar 3)) (v2 vadd (v2 vidx (v1 (vfld csT "times") (vVar 0)) (vVar 2)) (vVar 4)))))
    (sRet (oX (exF (vC (.bool false)))))
    sNx)
    (seq (sSetP (pFld csT "times" (pVar 0)) (exF (vVar 3)) (oX (exB (v2 vadd (v2 vidx (v1 (vfld csT "times") (vVar 0)) (vVar 2)) (vVar 4)))))
    (seq (sSetP (pFld csT "causes" (pVar 0)) (exF (vVar 3)) (oX (exF (vVar 1))))
    (sRet (oX (exF (vC (.bool true)))))))))
def mM_Clock_raise_for : OEnv → MR := frzM (runM 5 [0] g_Clock_raise_for)
abbrev s_Clock_raise_round : Stmt := inClass (topS 1) 2
abbrev N_Clock_raise_round : List Str := ["self", "last", "index", "demand"]
def b_Clock_raise_round_1 : OEnv → SR := (sIfM false (oMMeth "Clock" "raise_for" mM_Clock_raise_for 0 (agCons (agD (exF (vVar 2))) agNil))
    (seq (sSet 1 (oX (exF (v2 vidx (vVar 3) (vC (.int 1))))))
    (pre (kill [2, 3]) sNx))
    (pre (kill [2, 3]) sNx))
def g_Clock_raise_round : OEnv → SR := (seq (sSet 1 (oX (exF (vC .none))))
    (seq (sFor (x1 venum (exP (pFld csT "demands" (pVar 0)))) (gT (gC (gN 2) (gC (gN 3) gE))) (kill [2, 3]) (b_Clock_raise_round_1))
    (sRet (oX (exF (vVar 1))))))
def mM_Clock_raise_round : OEnv → MR := frzM (runM 4 [0] g_Clock_raise_round)
abbrev s_Clock_before : Stmt := inClass (topS 1) 3
abbrev N_Clock_before : List Str := ["self", "event"]
def g_Clock_before : OEnv → SR := (sRet (oX (exF (v2 vidx (v2 vidx (v1 (vfld csT "demands") (vVar 0)) (v2 vidx (v1 (vfld csT "causes") (vVar 0)) (vVar 1))) (vC (.int 0))))))
def m_Clock_before : List PyData → R PyData := frz (runB 2 g_Clock_before)
theorem r_Clock_before (a0 a1 : PyData) : m_Clock_before [a0, a1] = fin (g_Clock_before [some (.fz a0), some (.fz a1)]) := frz_fin _ _ _
abbrev s_Clock_event_on_ring : Stmt := inClass (topS 1) 4
abbrev N_Clock_event_on_ring : List Str := ["self", "event", "_"]
def b_Clock_event_on_ring_1 : OEnv → SR := (sSet 1 (oX (exF (vmeth [("Clock", m_Clock_before)] "before" (vVar 0) (aCons (vVar 1) aNil)))))
def g_Clock_event_on_ring : OEnv → SR := (seq (sFor (x1 vrange1 (exF (vapp vlen (aCons (v1 (vfld csT "times") (vVar 0)) aNil)))) (gN 2) (kill [2]) (b_Clock_event_on_ring_1))
    (pre (kill [0, 2]) (sRet (oX (exF (vVar 1))))))
def m_Clock_event_on_ring : List PyData → R PyData := frz (runB 3 g_Clock_event_on_ring)
theorem r_Clock_event_on_ring (a0 a1 : PyData) : m_Clock_event_on_ring [a0, a1] = fin (g_Clock_event_on_ring [some (.fz a0), some (.fz a1), none]) := frz_fin _ _ _
abbrev s_Clock_ring_through : Stmt := inClass (topS 1) 5
abbrev N_Clock_ring_through : List Str := ["self", "event", "found", "back"]
def b_Clock_ring_through_1 : OEnv → SR := (seq (sApp 2 (oX (exF (v2 vidx (v1 (vfld csT "causes") (vVar 0)) (vVar 3)))))
    (sSet 3 (oX (exF (vmeth [("Clock", m_Clock_before)] "before" (vVar 0) (aCons (vVar 3) aNil))))))
def g_Clock_ring_through : OEnv → SR := (seq (sSet 2 (oFrF (aCons (v2 vidx (v1 (vfld csT "causes") (vVar 0)) (vVar 1)) aNil)))
    (seq (sSet 3 (oX (exF (vmeth [("Clock", m_Clock_before)] "before" (vVar 0) (aCons (vVar 1) aNil)))))
    (seq (sWhile (tB (tst (v2 vne (vVar 3) (vVar 1)))) (kill []) (b_Clock_ring_through_1))
    (pre (kill [0, 1, 3]) (pre (freeze [2]) (sRet (oFrF (frev (vVar 2)))))))))
def mo_Clock_ring_through : List PyData → R O := runB 4 g_Clock_ring_through
def m_Clock_ring_through : List PyData → R PyData := frz (runB 4 g_Clock_ring_through)
theorem r_Clock_ring_through (a0 a1 : PyData) : m_Clock_ring_through [a0, a1] = fin (g_Clock_ring_through [some (.fz a0), some (.fz a1), none, none]) := frz_fin _ _ _
theorem ro_Clock_ring_through (a0 a1 : PyData) : mo_Clock_ring_through [a0, a1] = finO (g_Clock_ring_through [some (.fz a0), some (.fz a1), none, none]) := runB_fin _ _ _
abbrev s_timetable : Stmt := topS 2
abbrev N_timetable : List Str := ["count", "demands", "clock", "last", "_"]
def b_timetable_1 : OEnv → SR := (seq (sSetM 3 (oMMeth "Clock" "raise_round" mM_Clock_raise_round 2 agNil))
    (sIf (tB (tst (v1 visnone (vVar 3))))
    (pre (freeze [2]) (sRet (oTup (oCons (oX (exF (vC (.str "times")))) (oCons (oFrF (isq (v1 (vfld csT "times") (vVar 2)))) oNil)))))
    (pre (kill [0, 4]) sNx)))
def g_timetable : OEnv → SR := (seq (sSet 2 (oMake "Clock" mM_Clock_init (xCons (exF (vVar 0)) (xCons (exF (vVar 1)) xNil))))
    (seq (sSet 3 (oX (exF (vC .none))))
    (pre (kill [1]) (seq (sForK (x1 vrange1 (exF (vVar 0))) (kill [0]) (gN 4) (kill [4]) (b_timetable_1))
    (pre (freeze [2]) (sRet (oTup (oCons (oX (exF (vC (.str "ring")))) (oCons (oMeth [("Clock", mo_Clock_ring_through)] "ring_through" (vVar 2) (aCons (vmeth [("Clock", m_Clock_event_on_ring)] "event_on_ring" (vVar 2) (aCons (vVar 3) aNil)) aNil)) oNil)))))))))
def mo_timetable : List PyData → R O := runB 5 g_timetable
def m_timetable : List PyData → R PyData := frz (runB 5 g_timetable)
theorem r_timetable (a0 a1 : PyData) : m_timetable [a0, a1] = fin (g_timetable [some (.fz a0), some (.fz a1), none, none, none]) := frz_fin _ _ _
theorem ro_timetable (a0 a1 : PyData) : mo_timetable [a0, a1] = finO (g_timetable [some (.fz a0), some (.fz a1), none, none, none]) := runB_fin _ _ _
abbrev s_law_cell : Stmt := topS 4
abbrev N_law_cell : List Str := ["script", "k"]
def g_law_cell : OEnv → SR := (seq (sIf (tB (tst (v2 vlt (vVar 1) (vapp vlen (aCons (vVar 0) aNil)))))
    (sRet (oX (exF (vapp vint1 (aCons (v2 vidx (vVar 0) (vVar 1)) aNil)))))
    (pre (kill [0, 1]) sNx))
    (sRet (oX (exF (vC (.int 0))))))
def m_law_cell : List PyData → R PyData := frz (runB 2 g_law_cell)
theorem r_law_cell (a0 a1 : PyData) : m_law_cell [a0, a1] = fin (g_law_cell [some (.fz a0), some (.fz a1)]) := frz_fin _ _ _
abbrev s_law_numbers : Stmt := topS 5
abbrev N_law_numbers : List Str := ["cell", "count", "limit", "found", "k", "mixed"]
def b_law_numbers_1 : OEnv → SR := (seq (sApp 3 (oX (exF (v2 vmod (vapp vint1 (aCons (vVar 0) aNil)) (vVar 2)))))
    (sSet 0 (oX (exF (v2 vfdiv (vapp vint1 (aCons (vVar 0) aNil)) (vVar 2))))))
def b_law_numbers_2 : OEnv → SR := (seq (sSet 5 (oX (exF (v2 vmod (vapp vint1 (aCons (v2 vadd (v2 vadd (v2 vmul (vVar 0) (vC (.int 48271))) (v2 vmul (vVar 4) (vC (.int 69621)))) (vC (.int 7))) aNil)) (vC (.int 2147483647))))))
    (seq (sSet 5 (oX (exF (v2 vmod (vapp vint1 (aCons (v2 vadd (v2 vadd (v2 vadd (v2 vmul (vVar 5) (vVar 5)) (v2 vmul (vVar 5) (vC (.int 40692)))) (v2 vmul (vVar 4) (vC (.int 16807)))) (vC (.int 11))) aNil)) (vC (.int 2147483399))))))
    (sApp 3 (oX (exF (v2 vmod (vapp vint1 (aCons (v2 vfdiv (vVar 5) (vC (.int 32))) aNil)) (vVar 2)))))))
def g_law_numbers : OEnv → SR := (seq (sSet 3 (oFrF aNil))
    (seq (sIf (tB (tst (v2 vge (vVar 0) (v2 vpow (vC (.int 10)) (vC (.int 18))))))
    (seq (sForK (x1 vrange1 (exF (vVar 1))) (kill [1]) (gN 4) (kill [4]) (b_law_numbers_1))
    (pre (kill [0, 2, 4]) (pre (freeze [3]) (sRet (oX (exF (vVar 3)))))))
    sNx)
    (seq (sForK (x1 vrange1 (exF (vVar 1))) (kill [1]) (gN 4) (kill [4, 5]) (b_law_numbers_2))
    (pre (kill [0, 2, 4, 5]) (pre (freeze [3]) (sRet (oX (exF (vVar 3)))))))))
def m_law_numbers : List PyData → R PyData := frz (runB 6 g_law_numbers)
theorem r_law_numbers (a0 a1 a2 : PyData) : m_law_numbers [a0, a1, a2] = fin (g_law_numbers [some (.fz a0), some (.fz a1), some (.fz a2), none, none, none]) := frz_fin _ _ _
abbrev s_law_same : Stmt := topS 6
abbrev N_law_same : List Str := ["told", "due", "k"]
def b_law_same_1 (self : List PyData → R PyData) : OEnv → SR := (sIf (tB (tnot (ttr (vapp self (aCons (v2 vidx (vVar 0) (vVar 2)) (aCons (v2 vidx (vVar 1) (vVar 2)) aNil))))))
    (sRet (oX (exF (vC (.bool false)))))
    (pre (kill [2]) sNx))
def g_law_same (self : List PyData → R PyData) : OEnv → SR := (seq (sIf (tB (ttr (v1 (visi "list") (vVar 1))))
    (sIf (tB (tor (tnot (ttr (v1 (visi "list") (vVar 0)))) (tst (v2 vne (vapp vlen (aCons (vVar 0) aNil)) (vapp vlen (aCons (vVar 1) aNil))))))
    (sRet (oX (exF (vC (.bool false)))))
    sNx)
    (sIf (tB (ttr (v1 (visi "tuple") (vVar 1))))
    (sIf (tB (tor (tnot (ttr (v1 (visi "tuple") (vVar 0)))) (tst (v2 vne (vapp vlen (aCons (vVar 0) aNil)) (vapp vlen (aCons (vVar 1) aNil))))))
    (sRet (oX (exF (vC (.bool false)))))
    sNx)
    (sIf (tB (tst (v1 visnone (vVar 1))))
    (sRet (oX (exF (v1 visnone (vVar 0)))))
    (sIf (tB (ttr (v1 (visi "bool") (vVar 1))))
    (sRet (oX (exF (vand (v1 (visi "bool") (vVar 0)) (v2 veq (vVar 0) (vVar 1))))))
    (sIf (tB (ttr (v1 (visi "int") (vVar 1))))
    (sRet (oX (exF (vand (v1 (visi "int") (vVar 0)) (vand (vnot (v1 (visi "bool") (vVar 0))) (v2 veq (vVar 0) (vVar 1)))))))
    (sRet (oX (exF (vand (v1 (visi "str") (vVar 0)) (v2 veq (vVar 0) (vVar 1)))))))))))
    (seq (sFor (x1 vrange1 (exF (vapp vlen (aCons (vVar 1) aNil)))) (gN 2) (kill [2]) (b_law_same_1 self))
    (pre (kill [0, 1]) (sRet (oX (exF (vC (.bool true))))))))
def m_law_same : Nat → List PyData → R PyData
  | 0 => fun _ => .stuck
  | n + 1 => frz (runB 3 (g_law_same (m_law_same n)))
theorem r_law_same (n : Nat) (a0 a1 : PyData) : m_law_same (n + 1) [a0, a1] = fin (g_law_same (m_law_same n) [some (.fz a0), some (.fz a1), none]) := frz_fin _ _ _
abbrev s_law_world : Stmt := topS 7
abbrev N_law_world : List Str := ["script", "at", "most", "draws", "count", "many", "kind", "scale", "picks", "hidden", "demands", "k", "i", "j", "last", "wait", "chain", "total", "spot", "link"]
def b_law_world_1 : OEnv → SR := (seq (sSet 12 (oX (exF (v2 vmod (v2 vidx (vVar 8) (v2 vmul (vC (.int 3)) (vVar 11))) (vVar 4)))))
    (seq (sSet 13 (oX (exF (v2 vmod (v2 vidx (vVar 8) (v2 vadd (v2 vmul (vC (.int 3)) (vVar 11)) (vC (.int 1)))) (vVar 4)))))
    (seq (sSet 14 (oX (exF (v2 vidx (vVar 8) (v2 vadd (v2 vmul (vC (.int 3)) (vVar 11)) (vC (.int 2)))))))
    (seq (sSet 15 (oX (exF (v2 vmul (v2 vsub (v2 vmod (vVar 14) (vC (.int 19))) (vC (.int 9))) (vVar 7)))))
    (seq (sIf (tB (tst (v2 vIn (vVar 6) (vlistOf (aCons (vC (.int 1)) (aCons (vC (.int 2)) (aCons (vC (.int 3)) aNil)))))))
    (seq (sSet 15 (oX (exF (v2 vsub (v2 vmul (v2 vsub (v2 vidx (vVar 9) (vVar 13)) (v2 vidx (vVar 9) (vVar 12))) (vVar 7)) (v2 vmod (vVar 14) (vC (.int 4)))))))
    (pre (kill [5, 11]) sNx))
    (pre (kill [5, 11]) sNx))
    (seq (sIf (tB (tand (tst (v2 veq (vVar 6) (vC (.int 2)))) (tst (v2 veq (v2 vmod (v2 vfdiv (vVar 14) (vC (.int 4))) (vC (.int 9))) (vC (.int 0))))))
    (seq (sSet 15 (oX (exF (v2 vadd (vVar 15) (v2 vmod (v2 vfdiv (vVar 14) (vC (.int 36))) (vC (.int 5)))))))
    (pre (kill [14]) sNx))
    (pre (kill [14]) sNx))
    (seq (sIf (tB (tst (v2 veq (vVar 6) (vC (.int 4)))))
    (sSet 15 (oX (exF (v2 vsub (vVar 15) (v2 vmul (vC (.int 9)) (vVar 7))))))
    sNx)
    (sApp 10 (oX (exF (vtup (aCons (vVar 12) (aCons (vVar 13) (aCons (vVar 15) aNil))))))))))))))
def e_law_world_2 : PEnv → R PyData := (vtup (aCons (vVar 11) (aCons (v2 vadd (vVar 11) (vC (.int 1))) (aCons (v2 vmul (v2 vadd (vC (.int 1)) (v2 vidx (vVar 9) (vVar 11))) (vVar 7)) aNil))))
def e_law_world_3 : PEnv → R PyData := (vtup (aCons (vVar 11) (aCons (v2 vadd (vVar 11) (vC (.int 1))) (aCons (v2 vmul (v2 vsub (v2 vidx (vVar 9) (v2 vadd (vVar 11) (vC (.int 1)))) (v2 vidx (vVar 9) (vVar 11))) (vVar 7)) aNil))))
def e_law_world_4 : PEnv → R PyData := (v2 vidx (vVar 19) (vC (.int 2)))
def g_law_world : OEnv → SR := (seq (sSet 3 (oX (exF (vapp m_law_numbers (aCons (vapp m_law_cell (aCons (vVar 0) (aCons (vVar 1) aNil))) (aCons (vC (.int 6)) (aCons (vC (.int 5040)) aNil)))))))
    (seq (sSet 4 (oX (exF (v2 vadd (vC (.int 1)) (v2 vmod (v2 vidx (vVar 3) (vC (.int 0))) (vVar 2))))))
    (seq (sSet 5 (oX (exF (v2 vmod (v2 vidx (vVar 3) (vC (.int 1))) (v2 vadd (v2 vmul (vC (.int 2)) (vVar 2)) (vC (.int 1)))))))
    (seq (sSet 6 (oX (exF (v2 vmod (v2 vidx (vVar 3) (vC (.int 2))) (vC (.int 6))))))
    (seq (sSet 7 (oX (exF (v2 vidx (vlistOf (aCons (vC (.int 1)) (aCons (vC (.int 1)) (aCons (vC (.int 1)) (aCons (vC (.int 1000)) (aCons (v2 vpow (vC (.int 10)) (vC (.int 25))) aNil)))))) (v2 vmod (v2 vidx (vVar 3) (vC (.int 3))) (vC (.int 5)))))))
    (seq (sSet 8 (oX (exF (vapp m_law_numbers (aCons (vapp m_law_cell (aCons (vVar 0) (aCons (v2 vadd (vVar 1) (vC (.int 1))) aNil))) (aCons (v2 vmul (vC (.int 3)) (vVar 5)) (aCons (vC (.int 5040)) aNil)))))))
    (seq (sSet 9 (oX (exF (vapp m_law_numbers (aCons (vapp m_law_cell (aCons (vVar 0) (aCons (v2 vadd (vVar 1) (vC (.int 2))) aNil))) (aCons (vVar 4) (aCons (vC (.int 60)) aNil)))))))
    (seq (sSet 10 (oFrF aNil))
    (pre (kill [0, 1, 2]) (seq (sForK (x1 vrange1 (exF (vVar 5))) (kill [5]) (gN 11) (kill [11, 12, 13, 14, 15]) (b_law_world_1))
    (pre (kill [8, 12, 13, 15]) (pre (freeze [10]) (seq (sIf (tB (tst (v2 vge (vVar 6) (vC (.int 3)))))
    (seq (sSet 16 (oFrF (vcomp [11] (i1 vrange1 (v2 vsub (vVar 4) (vC (.int 1)))) (gN 11) tyes (e_law_world_2))))
    (seq (sIf (tB (tst (v2 veq (vVar 6) (vC (.int 3)))))
    (pre (freeze [16]) (seq (sSet 16 (oFrF (vcomp [11] (i1 vrange1 (v2 vsub (vVar 4) (vC (.int 1)))) (gN 11) tyes (e_law_world_3))))
    (pre (kill [6, 7, 9]) sNx)))
    (pre (kill [6, 7, 9]) sNx))
    (seq (sSet 17 (oX (exB (vapp vsum (aCons (vlistOf (vcomp [19] (isq (vVar 16)) (gN 19) tyes (e_law_world_4))) aNil)))))
    (seq (sRev 16)
    (seq (sApp 16 (oX (exF (vtup (aCons (v2 vsub (vVar 4) (vC (.int 1))) (aCons (vC (.int 0)) (aCons (v2 vsub (v2 vsub (v2 vmod (v2 vidx (vVar 3) (vC (.int 4))) (vC (.int 3))) (vC (.int 1))) (vVar 17)) aNil)))))))
    (pre (freeze [16]) (seq (sSet 18 (oX (exF (v2 vmod (v2 vidx (vVar 3) (vC (.int 5))) (v2 vadd (vapp vlen (aCons (vVar 10) aNil)) (vC (.int 1)))))))
    (seq (sSet 10 (oX (exF (v2 vadd (v2 vadd (vslice (vVar 10) (vpart (vC (.int 0))) (vpart (vVar 18))) (vVar 16)) (vslice (vVar 10) (vpart (vVar 18)) vnopart)))))
    (pre (kill [3, 16, 17, 18]) sNx)))))))))
    (pre (kill [3, 6, 7, 9]) sNx))
    (sRet (oX (exF (vtup (aCons (vVar 4) (aCons (vVar 10) aNil)))))))))))))))))))
def m_law_world : List PyData → R PyData := frz (runB 20 g_law_world)
theorem r_law_world (a0 a1 a2 : PyData) : m_law_world [a0, a1, a2] = fin (g_law_world [some (.fz a0), some (.fz a1), some (.fz a2), none, none, none, none, none, none, none, none, none, none, none, none, none, none, none, none, none]) := frz_fin _ _ _
abbrev s_law_rounds : Stmt := topS 8
abbrev N_law_rounds : List Str := ["count", "demands", "times", "causes", "last", "lap", "k", "i", "j", "wait", "ring", "event"]
def e_law_rounds_1 : PEnv → R PyData := (vC (.int 0))
def e_law_rounds_2 : PEnv → R PyData := (vC (.int 0))
def b_law_rounds_3 : OEnv → SR := (seq (sTup (gT (gC (gN 7) (gC (gN 8) (gC (gN 9) gE)))) (exF (v2 vidx (vVar 1) (vVar 6))))
    (sIf (tB (tst (v2 vgt (v2 vadd (v2 vidx (vVar 2) (vVar 7)) (vVar 9)) (v2 vidx (vVar 2) (vVar 8)))))
    (seq (sSetI 2 (exF (vVar 8)) (oX (exB (v2 vadd (v2 vidx (vVar 2) (vVar 7)) (vVar 9)))))
    (seq (sSetI 3 (exF (vVar 8)) (oX (exF (vVar 6))))
    (seq (sSet 4 (oX (exF (vVar 8))))
    (pre (kill [6, 7, 8, 9]) sNx))))
    (pre (kill [6, 7, 8, 9]) sNx)))
def b_law_rounds_4 : OEnv → SR := (seq (sSet 4 (oX (exF (vC .none))))
    (pre (kill [5]) (seq (sFor (x1 vrange1 (exF (vapp vlen (aCons (vVar 1) aNil)))) (gN 6) (kill [6, 7, 8, 9]) (b_law_rounds_3))
    (sIf (tB (tst (v1 visnone (vVar 4))))
    (pre (freeze [2, 3]) (sRet (oX (exF (vtup (aCons (vC (.str "times")) (aCons (vVar 2) aNil)))))))
    sNx))))
def b_law_rounds_5 : OEnv → SR := (sSet 4 (oX (exF (v2 vidx (v2 vidx (vVar 1) (v2 vidx (vVar 3) (vVar 4))) (vC (.int 0))))))
def b_law_rounds_6 : OEnv → SR := (seq (sSet 10 (oX (exF (v2 vadd (vlistOf (aCons (v2 vidx (vVar 3) (vVar 11)) aNil)) (vVar 10)))))
    (seq (sSet 11 (oX (exF (v2 vidx (v2 vidx (vVar 1) (v2 vidx (vVar 3) (vVar 11))) (vC (.int 0))))))
    (sIf (tB (tst (v2 veq (vVar 11) (vVar 4))))
    (sRet (oX (exF (vtup (aCons (vC (.str "ring")) (aCons (vVar 10) aNil))))))
    (pre (kill [0, 6]) sNx))))
def g_law_rounds : OEnv → SR := (seq (sSet 2 (oFrF (vcomp [6] (i1 vrange1 (vVar 0)) (gN 6) tyes (e_law_rounds_1))))
    (seq (sSet 3 (oFrF (vcomp [6] (i1 vrange1 (vVar 0)) (gN 6) tyes (e_law_rounds_2))))
    (seq (sSet 4 (oX (exF (vC .none))))
    (seq (sFor (x1 vrange1 (exF (vVar 0))) (gN 5) (kill [5, 6, 7, 8, 9]) (b_law_rounds_4))
    (pre (kill [2]) (pre (freeze [3]) (seq (sFor (x1 vrange1 (exF (vVar 0))) (gN 6) (kill [6]) (b_law_rounds_5))
    (pre (kill [6]) (seq (sSet 10 (oX (exF (vlistOf aNil))))
    (seq (sSet 11 (oX (exF (vVar 4))))
    (seq (sForK (x1 vrange1 (exF (vVar 0))) (kill [0]) (gN 6) (kill [6]) (b_law_rounds_6))
    (pre (kill [1, 3, 4, 10, 11]) (sRet (oX (exF (vtup (aCons (vC (.str "ring")) (aCons (vlistOf aNil) aNil))))))))))))))))))
def m_law_rounds : List PyData → R PyData := frz (runB 12 g_law_rounds)
theorem r_law_rounds (a0 a1 : PyData) : m_law_rounds [a0, a1] = fin (g_law_rounds [some (.fz a0), some (.fz a1), none, none, none, none, none, none, none, none, none, none]) := frz_fin _ _ _
abbrev s_law_planted : Stmt := topS 9
abbrev N_law_planted : List Str := ["count", "demands", "draws", "size", "events", "links", "total", "i", "j", "wait", "spot", "k", "link"]
def e_law_planted_1 : PEnv → R PyData := (v2 vmod (v2 vidx (vVar 2) (v2 vadd (vC (.int 1)) (vVar 11))) (vVar 0))
def e_law_planted_2 : PEnv → R PyData := (vtup (aCons (v2 vidx (vVar 4) (vVar 11)) (aCons (v2 vidx (vVar 4) (v2 vmod (vapp vint1 (aCons (v2 vadd (vVar 11) (vC (.int 1))) aNil)) (vVar 3))) (aCons (v2 vsub (v2 vmod (v2 vidx (vVar 2) (v2 vadd (vC (.int 5)) (vVar 11))) (vC (.int 9))) (vC (.int 4))) aNil))))
def e_law_planted_3 : PEnv → R PyData := (v2 vidx (vVar 12) (vC (.int 2)))
def g_law_planted : OEnv → SR := (seq (sSet 3 (oX (exF (v2 vadd (vC (.int 1)) (v2 vmod (v2 vidx (vVar 2) (vC (.int 0))) (vC (.int 4)))))))
    (seq (sSet 4 (oX (exF (vlistOf (vcomp [11] (i1 vrange1 (vVar 3)) (gN 11) tyes (e_law_planted_1))))))
    (seq (sSet 5 (oFrF (vcomp [11] (i1 vrange1 (vVar 3)) (gN 11) tyes (e_law_planted_2))))
    (seq (sSet 6 (oX (exB (vapp vsum (aCons (vlistOf (vcomp [12] (isq (vVar 5)) (gN 12) tyes (e_law_planted_3))) aNil)))))
    (seq (sTup (gT (gC (gN 7) (gC (gN 8) (gC (gN 9) gE)))) (exB (v2 vidx (vVar 5) (vC (.int 0)))))
    (seq (sSetI 5 (exF (vC (.int 0))) (oX (exF (vtup (aCons (vVar 7) (aCons (vVar 8) (aCons (v2 vadd (v2 vsub (vVar 9) (vVar 6)) (v2 vidx (vlistOf (aCons (vC (.int 1)) (aCons (vC (.int 1)) (aCons (v2 vadd (vC (.int 2)) (v2 vidx (vVar 2) (vC (.int 9)))) (aCons (v2 vpow (vC (.int 10)) (vC (.int 26))) aNil))))) (v2 vmod (v2 vidx (vVar 2) (vC (.int 10))) (vC (.int 4))))) aNil)))))))
    (pre (freeze [5]) (seq (sSet 10 (oX (exF (v2 vmod (v2 vidx (vVar 2) (vC (.int 11))) (v2 vadd (vapp vlen (aCons (vVar 1) aNil)) (vC (.int 1)))))))
    (sRet (oX (exF (v2 vidx (vlistOf (aCons (v2 vadd (vVar 5) (vVar 1)) (aCons (v2 vadd (vVar 1) (vVar 5)) (aCons (v2 vadd (v2 vadd (vslice (vVar 1) (vpart (vC (.int 0))) (vpart (vVar 10))) (vVar 5)) (vslice (vVar 1) (vpart (vVar 10)) vnopart)) aNil)))) (v2 vmod (v2 vidx (vVar 2) (vC (.int 12))) (vC (.int 3)))))))))))))))
def m_law_planted : List PyData → R PyData := frz (runB 13 g_law_planted)
theorem r_law_planted (a0 a1 a2 : PyData) : m_law_planted [a0, a1, a2] = fin (g_law_planted [some (.fz a0), some (.fz a1), some (.fz a2), none, none, none, none, none, none, none, none, none, none]) := frz_fin _ _ _
abbrev s_law : Stmt := topS 10
abbrev N_law : List Str := ["script", "rings", "at", "count", "demands", "draws", "some", "kept", "due", "told"]
def b_law_1 : OEnv → SR := (seq (sSet 7 (oX (exF (vlistOf (isq (vVar 6))))))
    (seq (sSet 8 (oX (exF (vapp m_law_rounds (aCons (vVar 3) (aCons (vVar 7) aNil))))))
    (seq (sSet 9 (oCall mo_timetable (aCons (vVar 3) (aCons (vVar 6) aNil))))
    (seq (sIf (tB (tor (tnot (ttr (vapp (m_law_same 10) (aCons (vVar 9) (aCons (vVar 8) aNil))))) (tst (v2 vne (vVar 6) (vVar 7)))))
    (pre (freeze [9]) (sRet (oX (exF (vC (.bool false))))))
    (pre (kill [4, 5, 7]) sNx))
    (seq (sMut0 fPop (pIdx (pVar 9) (exF (vC (.int 1)))))
    (seq (sMutP fApp (pIdx (pVar 9) (exF (vC (.int 1)))) (nX (exF (v1 vneg (vC (.int 1))))))
    (pre (freeze [9]) (seq (sIf (tB (tnot (ttr (vapp (m_law_same 10) (aCons (vapp m_timetable (aCons (vVar 3) (aCons (vVar 6) aNil))) (aCons (vVar 8) aNil))))))
    (sRet (oX (exF (vC (.bool false)))))
    (pre (kill [6, 9]) sNx))
    (sSet 1 (oX (exF (v2 vadd (vVar 1) (vapp vint1 (aCons (v2 veq (v2 vidx (vVar 8) (vC (.int 0))) (vC (.str "ring"))) aNil))))))))))))))
def b_law_2 : OEnv → SR := (seq (sTup (gT (gC (gN 3) (gC (gN 4) gE))) (exF (vapp m_law_world (aCons (vVar 0) (aCons (v2 vmul (vC (.int 3)) (vVar 2)) (aCons (v2 vidx (vlistOf (aCons (vC (.int 8)) (aCons (vC (.int 8)) (aCons (vC (.int 16)) aNil)))) (vVar 2)) aNil))))))
    (seq (sSet 5 (oX (exF (vapp m_law_numbers (aCons (vapp m_law_cell (aCons (vVar 0) (aCons (v2 vadd (vC (.int 9)) (vVar 2)) aNil))) (aCons (vC (.int 13)) (aCons (vC (.int 5040)) aNil)))))))
    (pre (kill [2]) (sForK (ixF (isq (vlistOf (aCons (vVar 4) (aCons (vapp m_law_planted (aCons (vVar 3) (aCons (vVar 4) (aCons (vVar 5) aNil)))) (aCons (vVar 4) aNil)))))) (kill [4, 5]) (gN 6) (kill [6, 7, 8, 9]) (b_law_1)))))
def g_law : OEnv → SR := (seq (sSet 1 (oX (exF (vC (.int 0)))))
    (seq (sFor (x1 vrange1 (exF (vC (.int 3)))) (gN 2) (kill [2, 3, 4, 5, 6, 7, 8, 9]) (b_law_2))
    (pre (kill [0, 3, 8]) (sRet (oX (exF (v2 vge (vVar 1) (vC (.int 3)))))))))
def m_law : List PyData → R PyData := frz (runB 10 g_law)
theorem r_law (a0 : PyData) : m_law [a0] = fin (g_law [some (.fz a0), none, none, none, none, none, none, none, none, none]) := frz_fin _ _ _
end
structure Txt (K : PySem.W.Frag) (mg : Str → Option Value) where
  C_Clock : Addr
  at_Clock : clsOf K "Clock" = some C_Clock
  cl_Clock : Cls K C_Clock
  mg_Clock : mg "Clock" = some (.ref C_Clock)
  f_Clock___init__ : Addr
  d_Clock___init__ : FuncData
  F_Clock___init__ : Fun K "__init__" "Clock.__init__" s_Clock_init f_Clock___init__ d_Clock___init__
  B_Clock___init__ : Binds K d_Clock___init__ ["self", "count", "demands"] []
  K_Clock : Mk K C_Clock f_Clock___init__
  f_Clock_raise_for : Addr
  d_Clock_raise_for : FuncData
  F_Clock_raise_for : Fun K "raise_for" "Clock.raise_for" s_Clock_raise_for f_Clock_raise_for d_Clock_raise_for
  B_Clock_raise_for : Binds K d_Clock_raise_for ["self", "index"] []
  M_Clock_raise_for : Meth K C_Clock "raise_for" f_Clock_raise_for
  f_Clock_raise_round : Addr
  d_Clock_raise_round : FuncData
  F_Clock_raise_round : Fun K "raise_round" "Clock.raise_round" s_Clock_raise_round f_Clock_raise_round d_Clock_raise_round
  B_Clock_raise_round : Binds K d_Clock_raise_round ["self"] []
  M_Clock_raise_round : Meth K C_Clock "raise_round" f_Clock_raise_round
  f_Clock_before : Addr
  d_Clock_before : FuncData
  F_Clock_before : Fun K "before" "Clock.before" s_Clock_before f_Clock_before d_Clock_before
  B_Clock_before : Binds K d_Clock_before ["self", "event"] []
  M_Clock_before : Meth K C_Clock "before" f_Clock_before
  f_Clock_event_on_ring : Addr
  d_Clock_event_on_ring : FuncData
  F_Clock_event_on_ring : Fun K "event_on_ring" "Clock.event_on_ring" s_Clock_event_on_ring f_Clock_event_on_ring d_Clock_event_on_ring
  B_Clock_event_on_ring : Binds K d_Clock_event_on_ring ["self", "event"] []
  M_Clock_event_on_ring : Meth K C_Clock "event_on_ring" f_Clock_event_on_ring
  f_Clock_ring_through : Addr
  d_Clock_ring_through : FuncData
  F_Clock_ring_through : Fun K "ring_through" "Clock.ring_through" s_Clock_ring_through f_Clock_ring_through d_Clock_ring_through
  B_Clock_ring_through : Binds K d_Clock_ring_through ["self", "event"] []
  M_Clock_ring_through : Meth K C_Clock "ring_through" f_Clock_ring_through
  f_timetable : Addr
  d_timetable : FuncData
  F_timetable : Fun K "timetable" "timetable" s_timetable f_timetable d_timetable
  g_timetable : mg "timetable" = some (.ref f_timetable)
  B_timetable : Binds K d_timetable ["count", "demands"] []
  f__law_cell : Addr
  d__law_cell : FuncData
  F__law_cell : Fun K "_law_cell" "_law_cell" s_law_cell f__law_cell d__law_cell
  g__law_cell : mg "_law_cell" = some (.ref f__law_cell)
  B__law_cell : Binds K d__law_cell ["script", "k"] []
  f__law_numbers : Addr
  d__law_numbers : FuncData
  F__law_numbers : Fun K "_law_numbers" "_law_numbers" s_law_numbers f__law_numbers d__law_numbers
  g__law_numbers : mg "_law_numbers" = some (.ref f__law_numbers)
  B__law_numbers : Binds K d__law_numbers ["cell", "count", "limit"] []
  f__law_same : Addr
  d__law_same : FuncData
  F__law_same : Fun K "_law_same" "_law_same" s_law_same f__law_same d__law_same
  g__law_same : mg "_law_same" = some (.ref f__law_same)
  B__law_same : Binds K d__law_same ["told", "due"] []
  f__law_world : Addr
  d__law_world : FuncData
  F__law_world : Fun K "_law_world" "_law_world" s_law_world f__law_world d__law_world
  g__law_world : mg "_law_world" = some (.ref f__law_world)
  B__law_world : Binds K d__law_world ["script", "at", "most"] []
  f__law_rounds : Addr
  d__law_rounds : FuncData
  F__law_rounds : Fun K "_law_rounds" "_law_rounds" s_law_rounds f__law_rounds d__law_rounds
  g__law_rounds : mg "_law_rounds" = some (.ref f__law_rounds)
  B__law_rounds : Binds K d__law_rounds ["count", "demands"] []
  f__law_planted : Addr
  d__law_planted : FuncData
  F__law_planted : Fun K "_law_planted" "_law_planted" s_law_planted f__law_planted d__law_planted
  g__law_planted : mg "_law_planted" = some (.ref f__law_planted)
  B__law_planted : Binds K d__law_planted ["count", "demands", "draws"] []
  f_law : Addr
  d_law : FuncData
  F_law : Fun K "law" "law" s_law f_law d_law
  g_law : mg "law" = some (.ref f_law)
  B_law : Binds K d_law ["script"] []
  ct : CTab K csT
  b_bool : mg "bool" = none
  b_enumerate : mg "enumerate" = none
  b_int : mg "int" = none
  b_isinstance : mg "isinstance" = none
  b_len : mg "len" = none
  b_list : mg "list" = none
  b_range : mg "range" = none
  b_str : mg "str" = none
  b_sum : mg "sum" = none
  b_tuple : mg "tuple" = none
section
variable {P : Program} {w : World} {K : PySem.W.Frag} {mg : Str → Option Value} {base : Heap}
theorem sc_Clock_init : FnScope N_Clock_init ["self", "count", "demands"] (defScope s_Clock_init) := ⟨rfl, rfl, rfl, by decide +kernel, rfl, by decide +kernel, by decide +kernel⟩
theorem okM_Clock_init (T : Txt K mg) : FnOk P w K mg base (L2.CX P w) 1 T.f_Clock___init__ T.d_Clock___init__ ["self", "count", "demands"] (spM K mg 3 [0] mM_Clock_init) := by
  refine fn_frzM ?_
  refine fn_vlM (ls := [0]) T.F_Clock___init__ sc_Clock_init rfl fun cdv A outer s H E hr => ?_
  have hu := hu65 hr
  have nd := sc_Clock_init.nd
  have tk := takes_of (X := cxOf (L2.CX P w) P w K mg base N_Clock_init "Clock.__init__" (defScope s_Clock_init) T.f_Clock___init__ cdv A outer s H E) rfl rfl rfl rfl
  have hp := passes_of (X := cxOf (L2.CX P w) P w K mg base N_Clock_init "Clock.__init__" (defScope s_Clock_init) T.f_Clock___init__ cdv A outer s H E) rfl
  exact (qs_cons (vs_fld T.ct (vpl_var 0 (pv 0)) (vo_x (vxF (VFr.ve (vlist_f T.b_list (vv 2))))))
      (qs_cons (vs_fld T.ct (vpl_var 0 (pv 0)) (vo_frF (vrep_f (vlst_f (van_cons vint van_nil)) (vv 1))))
      (vss_one (vs_fld T.ct (vpl_var 0 (pv 0)) (vo_frF (vrep_f (vlst_f (van_cons vnone van_nil)) (vv 1)))))))
theorem sc_Clock_raise_for : FnScope N_Clock_raise_for ["self", "index"] (defScope s_Clock_raise_for) := ⟨rfl, rfl, rfl, by decide +kernel, rfl, by decide +kernel, by decide +kernel⟩
theorem okM_Clock_raise_for (T : Txt K mg) : FnOk P w K mg base (L2.CX P w) 1 T.f_Clock_raise_for T.d_Clock_raise_for ["self", "index"] (spM K mg 2 [0] mM_Clock_raise_for) := by
  refine fn_frzM ?_
  refine fn_vlM (ls := [0]) T.F_Clock_raise_for sc_Clock_raise_for rfl fun cdv A outer s H E hr => ?_
  have hu := hu65 hr
  have nd := sc_Clock_raise_for.nd
  have tk := takes_of (X := cxOf (L2.CX P w) P w K mg base N_Clock_raise_for "Clock.raise_for" (defScope s_Clock_raise_for) T.f_Clock_raise_for cdv A outer s H E) rfl rfl rfl rfl
  have hp := passes_of (X := cxOf (L2.CX P w) P w K mg base N_Clock_raise_for "Clock.raise_for" (defScope s_Clock_raise_for) T.f_Clock_raise_for cdv A outer s H E) rfl
  exact (qs_cons (vs_tup (vg_tup rfl (vgs_cons (vg 2 nd) (vgs_cons (vg 3 nd) (vgs_cons (vg 4 nd) vgs_nil)))) (vx_ix (vx_fz (vpl_fld T.ct (vpl_var 0 (pv 0)))) (vxF (vv 1))))
      (qs_cons (vs_if (qx_T (qge (vidx_ (vfld_ T.ct (vv 0)) (vv 3)) (vadd_ (vidx_ (vfld_ T.ct (vv 0)) (vv 2)) (vv 4))))
      (vss_one (vs_ret (vo_x (vxF vbool))))
      qs_nil)
      (qs_cons (vs_setP (fun p po q => ps_asg p (pg_sub po q set_list)) (vpl_fld T.ct (vpl_var 0 (pv 0))) (vxF (vv 3)) (vo_x (vxB (vadd_ (vidx_ (vfld_ T.ct (vv 0)) (vv 2)) (vv 4)))))
      (qs_cons (vs_setP (fun p po q => ps_asg p (pg_sub po q set_list)) (vpl_fld T.ct (vpl_var 0 (pv 0))) (vxF (vv 3)) (vo_x (vxF (vv 1))))
      (vss_one (vs_ret (vo_x (vxF vbool))))))))
theorem sc_Clock_raise_round : FnScope N_Clock_raise_round ["self"] (defScope s_Clock_raise_round) := ⟨rfl, rfl, rfl, by decide +kernel, rfl, by decide +kernel, by decide +kernel⟩
theorem okM_Clock_raise_round (T : Txt K mg) : FnOk P w K mg base (L2.CX P w) 2 T.f_Clock_raise_round T.d_Clock_raise_round ["self"] (spM K mg 1 [0] mM_Clock_raise_round) := by
  refine fn_frzM ?_
  refine fn_vlM (ls := [0]) T.F_Clock_raise_round sc_Clock_raise_round rfl fun cdv A outer s H E hr => ?_
  have hu := hu65 hr
  have nd := sc_Clock_raise_round.nd
  have tk := takes_of (X := cxOf (L2.CX P w) P w K mg base N_Clock_raise_round "Clock.raise_round" (defScope s_Clock_raise_round) T.f_Clock_raise_round cdv A outer s H E) rfl rfl rfl rfl
  have hp := passes_of (X := cxOf (L2.CX P w) P w K mg base N_Clock_raise_round "Clock.raise_round" (defScope s_Clock_raise_round) T.f_Clock_raise_round cdv A outer s H E) rfl
  exact (qs_cons (vs_set 1 nd (vo_x (vxF vnone)))
      (qs_cons (vs_for hp rfl (vix_enumX T.b_enumerate (vx_fz (vpl_fld T.ct (vpl_var 0 (pv 0))))) (vg_tup rfl (vgs_cons (vg 2 nd) (vgs_cons (vg 3 nd) vgs_nil))) (envT_kill _ [2, 3])
      (vss_one (vs_ifM (vm_meth (cn := "Clock") (f := mM_Clock_raise_for) 0 ⟨T.C_Clock, T.f_Clock_raise_for, _, _, _, T.at_Clock, T.cl_Clock, T.M_Clock_raise_for, (okM_Clock_raise_for T), (hr.mono (by decide)), T.B_Clock_raise_for⟩ tk (pv 0) (vags_cons (vag_d (vxF (vv 2))) vags_nil) (lsok_m (lsok_d lsok_nil)))
      (qs_cons (vs_set 1 nd (vo_x (vxF (vidx_ (vv 3) vint))))
      (qs_t (envT_kill _ [2, 3]) qs_nil))
      (qs_t (envT_kill _ [2, 3]) qs_nil))))
      (vss_one (vs_ret (vo_x (vxF (vv 1)))))))
theorem sc_Clock_before : FnScope N_Clock_before ["self", "event"] (defScope s_Clock_before) := ⟨rfl, rfl, rfl, by decide +kernel, rfl, by decide +kernel, by decide +kernel⟩
theorem ok_Clock_before (T : Txt K mg) : FnOk P w K mg base (L2.CX P w) 1 T.f_Clock_before T.d_Clock_before ["self", "event"] (spV K mg 2 m_Clock_before) := by
  refine fn_frz (g := runB 2 g_Clock_before) ?_
  refine fn_vl T.F_Clock_before sc_Clock_before rfl fun cdv A outer s H E hr => ?_
  have hu := hu65 hr
  have nd := sc_Clock_before.nd
  have tk := takes_of (X := cxOf (L2.CX P w) P w K mg base N_Clock_before "Clock.before" (defScope s_Clock_before) T.f_Clock_before cdv A outer s H E) rfl rfl rfl rfl
  have hp := passes_of (X := cxOf (L2.CX P w) P w K mg base N_Clock_before "Clock.before" (defScope s_Clock_before) T.f_Clock_before cdv A outer s H E) rfl
  exact (vss_one (vs_ret (vo_x (vxF (vidx_ (vidx_ (vfld_ T.ct (vv 0)) (vidx_ (vfld_ T.ct (vv 0)) (vv 1))) vint)))))
theorem sc_Clock_event_on_ring : FnScope N_Clock_event_on_ring ["self", "event"] (defScope s_Clock_event_on_ring) := ⟨rfl, rfl, rfl, by decide +kernel, rfl, by decide +kernel, by decide +kernel⟩
theorem ok_Clock_event_on_ring (T : Txt K mg) : FnOk P w K mg base (L2.CX P w) 2 T.f_Clock_event_on_ring T.d_Clock_event_on_ring ["self", "event"] (spV K mg 2 m_Clock_event_on_ring) := by
  refine fn_frz (g := runB 3 g_Clock_event_on_ring) ?_
  refine fn_vl T.F_Clock_event_on_ring sc_Clock_event_on_ring rfl fun cdv A outer s H E hr => ?_
  have hu := hu65 hr
  have nd := sc_Clock_event_on_ring.nd
  have tk := takes_of (X := cxOf (L2.CX P w) P w K mg base N_Clock_event_on_ring "Clock.event_on_ring" (defScope s_Clock_event_on_ring) T.f_Clock_event_on_ring cdv A outer s H E) rfl rfl rfl rfl
  have hp := passes_of (X := cxOf (L2.CX P w) P w K mg base N_Clock_event_on_ring "Clock.event_on_ring" (defScope s_Clock_event_on_ring) T.f_Clock_event_on_ring cdv A outer s H E) rfl
  exact (qs_cons (vs_for hp rfl (vix_range1 T.b_range (vxF (vlen_ T.b_len (VAn.va (van_cons (vfld_ T.ct (vv 0)) van_nil))))) (vg 2 nd) (envT_kill _ [2])
      (vss_one (vs_set 1 nd (vo_x (vxF (vmeth_ (tab := [("Clock", m_Clock_before)]) ⟨⟨T.C_Clock, T.f_Clock_before, _, _, _, T.at_Clock, T.cl_Clock, T.M_Clock_before, (ok_Clock_before T), (hr.mono (by decide)), T.B_Clock_before⟩, trivial⟩ tk (vv 0) (van_cons (vv 1) van_nil)))))))
      (qs_t (envT_kill _ [0, 2]) (vss_one (vs_ret (vo_x (vxF (vv 1)))))))
theorem sc_Clock_ring_through : FnScope N_Clock_ring_through ["self", "event"] (defScope s_Clock_ring_through) := ⟨rfl, rfl, rfl, by decide +kernel, rfl, by decide +kernel, by decide +kernel⟩
theorem okO_Clock_ring_through (T : Txt K mg) : FnOk P w K mg base (L2.CX P w) 2 T.f_Clock_ring_through T.d_Clock_ring_through ["self", "event"] (spO K mg 2 mo_Clock_ring_through) := by
  refine fn_vl T.F_Clock_ring_through sc_Clock_ring_through rfl fun cdv A outer s H E hr => ?_
  have hu := hu65 hr
  have nd := sc_Clock_ring_through.nd
  have tk := takes_of (X := cxOf (L2.CX P w) P w K mg base N_Clock_ring_through "Clock.ring_through" (defScope s_Clock_ring_through) T.f_Clock_ring_through cdv A outer s H E) rfl rfl rfl rfl
  have hp := passes_of (X := cxOf (L2.CX P w) P w K mg base N_Clock_ring_through "Clock.ring_through" (defScope s_Clock_ring_through) T.f_Clock_ring_through cdv A outer s H E) rfl
  exact (qs_cons (vs_set 2 nd (vo_frF (vlst_f (van_cons (vidx_ (vfld_ T.ct (vv 0)) (vv 1)) van_nil))))
      (qs_cons (vs_set 3 nd (vo_x (vxF (vmeth_ (tab := [("Clock", m_Clock_before)]) ⟨⟨T.C_Clock, T.f_Clock_before, _, _, _, T.at_Clock, T.cl_Clock, T.M_Clock_before, (ok_Clock_before T), (hr.mono (by decide)), T.B_Clock_before⟩, trivial⟩ tk (vv 0) (van_cons (vv 1) van_nil)))))
      (qs_cons (vs_while hp (qx_T (qne hu (vv 3) (vv 1))) (envT_kill _ [])
      (qs_cons (vs_app 2 (fun p => pe_bm PySem.F.plainAttrs_list PySem.F.slot_list_append PySem.F.type_list_append mt_append (pv 2) (pa_cons p pa_nil)) (vo_x (vxF (vidx_ (vfld_ T.ct (vv 0)) (vv 3)))))
      (vss_one (vs_set 3 nd (vo_x (vxF (vmeth_ (tab := [("Clock", m_Clock_before)]) ⟨⟨T.C_Clock, T.f_Clock_before, _, _, _, T.at_Clock, T.cl_Clock, T.M_Clock_before, (ok_Clock_before T), (hr.mono (by decide)), T.B_Clock_before⟩, trivial⟩ tk (vv 0) (van_cons (vv 3) van_nil))))))))
      (qs_t (envT_kill _ [0, 1, 3]) (qs_t (envT_freeze _ [2]) (vss_one (vs_ret (vo_frF (vrev_f (vv 2))))))))))
theorem ok_Clock_ring_through (T : Txt K mg) : FnOk P w K mg base (L2.CX P w) 2 T.f_Clock_ring_through T.d_Clock_ring_through ["self", "event"] (spV K mg 2 m_Clock_ring_through) := fn_frz (okO_Clock_ring_through T)
theorem sc_timetable : FnScope N_timetable ["count", "demands"] (defScope s_timetable) := ⟨rfl, rfl, rfl, by decide +kernel, rfl, by decide +kernel, by decide +kernel⟩
theorem okO_timetable (T : Txt K mg) : FnOk P w K mg base (L2.CX P w) 3 T.f_timetable T.d_timetable ["count", "demands"] (spO K mg 2 mo_timetable) := by
  refine fn_vl T.F_timetable sc_timetable rfl fun cdv A outer s H E hr => ?_
  have hu := hu65 hr
  have nd := sc_timetable.nd
  have tk := takes_of (X := cxOf (L2.CX P w) P w K mg base N_timetable "timetable" (defScope s_timetable) T.f_timetable cdv A outer s H E) rfl rfl rfl rfl
  have hp := passes_of (X := cxOf (L2.CX P w) P w K mg base N_timetable "timetable" (defScope s_timetable) T.f_timetable cdv A outer s H E) rfl
  exact (qs_cons (vs_set 2 nd (vo_make (f := mM_Clock_init) T.K_Clock T.at_Clock (okM_Clock_init T) (hr.mono (by decide)) T.mg_Clock T.B_Clock___init__ tk (vxa_cons (vxF (vv 0)) (vxa_cons (vxF (vv 1)) vxa_nil))))
      (qs_cons (vs_set 3 nd (vo_x (vxF vnone)))
      (qs_t (envT_kill _ [1]) (qs_cons (vs_forK hp rfl (vix_range1 T.b_range (vxF (vv 0))) (vg 4 nd) (rs_kill _ [0]) (envT_kill _ [4])
      (qs_cons (vs_setM 3 nd (vm_meth0 (cn := "Clock") (f := mM_Clock_raise_round) 2 ⟨T.C_Clock, T.f_Clock_raise_round, _, _, _, T.at_Clock, T.cl_Clock, T.M_Clock_raise_round, (okM_Clock_raise_round T), (hr.mono (by decide)), T.B_Clock_raise_round⟩ tk (pv 2)))
      (vss_one (vs_if (qx_T (qisnone (vv 3)))
      (qs_t (envT_freeze _ [2]) (vss_one (vs_ret (voq_tup (vos_cons (voq_x (vxF vstr)) (vos_cons (voq_frF (vlist_f T.b_list (vfld_ T.ct (vv 2)))) vos_nil))).vo)))
      (qs_t (envT_kill _ [0, 4]) qs_nil)))))
      (qs_t (envT_freeze _ [2]) (vss_one (vs_ret (voq_tup (vos_cons (voq_x (vxF vstr)) (vos_cons (voq_meth (tab := [("Clock", mo_Clock_ring_through)]) ⟨⟨T.C_Clock, T.f_Clock_ring_through, _, _, _, T.at_Clock, T.cl_Clock, T.M_Clock_ring_through, (okO_Clock_ring_through T), (hr.mono (by decide)), T.B_Clock_ring_through⟩, trivial⟩ tk (vv 2) (van_cons (vmeth_ (tab := [("Clock", m_Clock_event_on_ring)]) ⟨⟨T.C_Clock, T.f_Clock_event_on_ring, _, _, _, T.at_Clock, T.cl_Clock, T.M_Clock_event_on_ring, (ok_Clock_event_on_ring T), (hr.mono (by decide)), T.B_Clock_event_on_ring⟩, trivial⟩ tk (vv 2) (van_cons (vv 3) van_nil)) van_nil)) vos_nil))).vo)))))))
theorem ok_timetable (T : Txt K mg) : FnOk P w K mg base (L2.CX P w) 3 T.f_timetable T.d_timetable ["count", "demands"] (spV K mg 2 m_timetable) := fn_frz (okO_timetable T)
theorem sc_law_cell : FnScope N_law_cell ["script", "k"] (defScope s_law_cell) := ⟨rfl, rfl, rfl, by decide +kernel, rfl, by decide +kernel, by decide +kernel⟩
theorem ok_law_cell (T : Txt K mg) : FnOk P w K mg base (L2.CX P w) 1 T.f__law_cell T.d__law_cell ["script", "k"] (spV K mg 2 m_law_cell) := by
  refine fn_frz (g := runB 2 g_law_cell) ?_
  refine fn_vl T.F__law_cell sc_law_cell rfl fun cdv A outer s H E hr => ?_
  have hu := hu65 hr
  have nd := sc_law_cell.nd
  have tk := takes_of (X := cxOf (L2.CX P w) P w K mg base N_law_cell "_law_cell" (defScope s_law_cell) T.f__law_cell cdv A outer s H E) rfl rfl rfl rfl
  have hp := passes_of (X := cxOf (L2.CX P w) P w K mg base N_law_cell "_law_cell" (defScope s_law_cell) T.f__law_cell cdv A outer s H E) rfl
  exact (qs_cons (vs_if (qx_T (qlt (vv 1) (vlen_ T.b_len (VAn.va (van_cons (vv 0) van_nil)))))
      (vss_one (vs_ret (vo_x (vxF (vint_ T.b_int (VAn.va (van_cons (vidx_ (vv 0) (vv 1)) van_nil)))))))
      (qs_t (envT_kill _ [0, 1]) qs_nil))
      (vss_one (vs_ret (vo_x (vxF vint)))))
theorem sc_law_numbers : FnScope N_law_numbers ["cell", "count", "limit"] (defScope s_law_numbers) := ⟨rfl, rfl, rfl, by decide +kernel, rfl, by decide +kernel, by decide +kernel⟩
theorem ok_law_numbers (T : Txt K mg) : FnOk P w K mg base (L2.CX P w) 1 T.f__law_numbers T.d__law_numbers ["cell", "count", "limit"] (spV K mg 3 m_law_numbers) := by
  refine fn_frz (g := runB 6 g_law_numbers) ?_
  refine fn_vl T.F__law_numbers sc_law_numbers rfl fun cdv A outer s H E hr => ?_
  have hu := hu65 hr
  have nd := sc_law_numbers.nd
  have tk := takes_of (X := cxOf (L2.CX P w) P w K mg base N_law_numbers "_law_numbers" (defScope s_law_numbers) T.f__law_numbers cdv A outer s H E) rfl rfl rfl rfl
  have hp := passes_of (X := cxOf (L2.CX P w) P w K mg base N_law_numbers "_law_numbers" (defScope s_law_numbers) T.f__law_numbers cdv A outer s H E) rfl
  exact (qs_cons (vs_set 3 nd (vo_frF (vlst_f van_nil)))
      (qs_cons (vs_if (qx_T (qge (vv 0) (vpow_ vint vint)))
      (qs_cons (vs_forK hp rfl (vix_range1 T.b_range (vxF (vv 1))) (vg 4 nd) (rs_kill _ [1]) (envT_kill _ [4])
      (qs_cons (vs_app 3 (fun p => pe_bm PySem.F.plainAttrs_list PySem.F.slot_list_append PySem.F.type_list_append mt_append (pv 3) (pa_cons p pa_nil)) (vo_x (vxF (vmod_ (vint_ T.b_int (VAn.va (van_cons (vv 0) van_nil))) (vv 2)))))
      (vss_one (vs_set 0 nd (vo_x (vxF (vfdiv_ (vint_ T.b_int (VAn.va (van_cons (vv 0) van_nil))) (vv 2))))))))
      (qs_t (envT_kill _ [0, 2, 4]) (qs_t (envT_freeze _ [3]) (vss_one (vs_ret (vo_x (vxF (vv 3))))))))
      qs_nil)
      (qs_cons (vs_forK hp rfl (vix_range1 T.b_range (vxF (vv 1))) (vg 4 nd) (rs_kill _ [1]) (envT_kill _ [4, 5])
      (qs_cons (vs_set 5 nd (vo_x (vxF (vmod_ (vint_ T.b_int (VAn.va (van_cons (vadd_ (vadd_ (vmul_ (vv 0) vint) (vmul_ (vv 4) vint)) vint) van_nil))) vint))))
      (qs_cons (vs_set 5 nd (vo_x (vxF (vmod_ (vint_ T.b_int (VAn.va (van_cons (vadd_ (vadd_ (vadd_ (vmul_ (vv 5) (vv 5)) (vmul_ (vv 5) vint)) (vmul_ (vv 4) vint)) vint) van_nil))) vint))))
      (vss_one (vs_app 3 (fun p => pe_bm PySem.F.plainAttrs_list PySem.F.slot_list_append PySem.F.type_list_append mt_append (pv 3) (pa_cons p pa_nil)) (vo_x (vxF (vmod_ (vint_ T.b_int (VAn.va (van_cons (vfdiv_ (vv 5) vint) van_nil))) (vv 2)))))))))
      (qs_t (envT_kill _ [0, 2, 4, 5]) (qs_t (envT_freeze _ [3]) (vss_one (vs_ret (vo_x (vxF (vv 3))))))))))
theorem sc_law_same : FnScope N_law_same ["told", "due"] (defScope s_law_same) := ⟨rfl, rfl, rfl, by decide +kernel, rfl, by decide +kernel, by decide +kernel⟩
theorem ok_law_same (T : Txt K mg) : ∀ n : Nat, FnOk P w K mg base (L2.CX P w) (n + 0) T.f__law_same T.d__law_same ["told", "due"] (spV K mg 2 (m_law_same n))
  | 0 => ⟨fun vs H Q E h => by obtain ⟨_, _, _, _, _, z⟩ := h; exact z.elim, fun A outer s H ar us vs Q E _ _ _ _ h => by obtain ⟨_, _, _, _, _, z⟩ := h; exact z.elim⟩
  | n + 1 => by
    have IH := ok_law_same T n
    have e : n + 1 + 0 = (n + 0) + 1 := by omega
    rw [e]
    refine fn_frz ?_
    refine fn_vl T.F__law_same sc_law_same rfl fun cdv A outer s H E hr => ?_
    have hu := hu65 hr
    have nd := sc_law_same.nd
    have tk := takes_of (X := cxOf (L2.CX P w) P w K mg base N_law_same "_law_same" (defScope s_law_same) T.f__law_same cdv A outer s H E) rfl rfl rfl rfl
    have hp := passes_of (X := cxOf (L2.CX P w) P w K mg base N_law_same "_law_same" (defScope s_law_same) T.f__law_same cdv A outer s H E) rfl
    exact (qs_cons (vs_if (qx_T (qtruth (visi_ ty_list T.b_isinstance T.b_list (by decide +kernel) (vv 1))))
        (vss_one (vs_if (qx_T (VW.vt (vw_or (vt_not (qtruth (visi_ ty_list T.b_isinstance T.b_list (by decide +kernel) (vv 0)))) (vw_or1 (qne hu (vlen_ T.b_len (VAn.va (van_cons (vv 0) van_nil))) (vlen_ T.b_len (VAn.va (van_cons (vv 1) van_nil))))))))
        (vss_one (vs_ret (vo_x (vxF vbool))))
        qs_nil))
        (vss_one (vs_if (qx_T (qtruth (visi_ ty_tuple T.b_isinstance T.b_tuple (by decide +kernel) (vv 1))))
        (vss_one (vs_if (qx_T (VW.vt (vw_or (vt_not (qtruth (visi_ ty_tuple T.b_isinstance T.b_tuple (by decide +kernel) (vv 0)))) (vw_or1 (qne hu (vlen_ T.b_len (VAn.va (van_cons (vv 0) van_nil))) (vlen_ T.b_len (VAn.va (van_cons (vv 1) van_nil))))))))
        (vss_one (vs_ret (vo_x (vxF vbool))))
        qs_nil))
        (vss_one (vs_if (qx_T (qisnone (vv 1)))
        (vss_one (vs_ret (vo_x (vxF (visnone_ (vv 0))))))
        (vss_one (vs_if (qx_T (qtruth (visi_ ty_bool T.b_isinstance T.b_bool (by decide +kernel) (vv 1))))
        (vss_one (vs_ret (vo_x (vxF (vand_ (visi_ ty_bool T.b_isinstance T.b_bool (by decide +kernel) (vv 0)) (vone (veq_ hu (vv 0) (vv 1))))))))
        (vss_one (vs_if (qx_T (qtruth (visi_ ty_int T.b_isinstance T.b_int (by decide +kernel) (vv 1))))
        (vss_one (vs_ret (vo_x (vxF (vand_ (visi_ ty_int T.b_isinstance T.b_int (by decide +kernel) (vv 0)) (vand_ (vnot_ (visi_ ty_bool T.b_isinstance T.b_bool (by decide +kernel) (vv 0))) (vone (veq_ hu (vv 0) (vv 1)))))))))
        (vss_one (vs_ret (vo_x (vxF (vand_ (visi_ ty_str T.b_isinstance T.b_str (by decide +kernel) (vv 0)) (vone (veq_ hu (vv 0) (vv 1)))))))))))))))))
        (qs_cons (vs_for hp rfl (vix_range1 T.b_range (vxF (vlen_ T.b_len (VAn.va (van_cons (vv 1) van_nil))))) (vg 2 nd) (envT_kill _ [2])
        (vss_one (vs_if (qx_T (vt_not (qtruth (vcall IH hr T.g__law_same T.F__law_same.kp T.B__law_same tk (van_cons (vidx_ (vv 0) (vv 2)) (van_cons (vidx_ (vv 1) (vv 2)) van_nil))))))
        (vss_one (vs_ret (vo_x (vxF vbool))))
        (qs_t (envT_kill _ [2]) qs_nil))))
        (qs_t (envT_kill _ [0, 1]) (vss_one (vs_ret (vo_x (vxF vbool)))))))
theorem sc_law_world : FnScope N_law_world ["script", "at", "most"] (defScope s_law_world) := ⟨rfl, rfl, rfl, by decide +kernel, rfl, by decide +kernel, by decide +kernel⟩
theorem ok_law_world (T : Txt K mg) : FnOk P w K mg base (L2.CX P w) 2 T.f__law_world T.d__law_world ["script", "at", "most"] (spV K mg 3 m_law_world) := by
  refine fn_frz (g := runB 20 g_law_world) ?_
  refine fn_vl T.F__law_world sc_law_world rfl fun cdv A outer s H E hr => ?_
  have hu := hu65 hr
  have nd := sc_law_world.nd
  have tk := takes_of (X := cxOf (L2.CX P w) P w K mg base N_law_world "_law_world" (defScope s_law_world) T.f__law_world cdv A outer s H E) rfl rfl rfl rfl
  have hp := passes_of (X := cxOf (L2.CX P w) P w K mg base N_law_world "_law_world" (defScope s_law_world) T.f__law_world cdv A outer s H E) rfl
  exact (qs_cons (vs_set 3 nd (vo_x (vxF (vcall (ok_law_numbers T) (hr.mono (by decide)) T.g__law_numbers T.F__law_numbers.kp T.B__law_numbers tk (van_cons (vcall (ok_law_cell T) (hr.mono (by decide)) T.g__law_cell T.F__law_cell.kp T.B__law_cell tk (van_cons (vv 0) (van_cons (vv 1) van_nil))) (van_cons vint (van_cons vint van_nil)))))))
      (qs_cons (vs_set 4 nd (vo_x (vxF (vadd_ vint (vmod_ (vidx_ (vv 3) vint) (vv 2))))))
      (qs_cons (vs_set 5 nd (vo_x (vxF (vmod_ (vidx_ (vv 3) vint) (vadd_ (vmul_ vint (vv 2)) vint)))))
      (qs_cons (vs_set 6 nd (vo_x (vxF (vmod_ (vidx_ (vv 3) vint) vint))))
      (qs_cons (vs_set 7 nd (vo_x (vxF (vidx_ (VFr.ve (vlst_f (van_cons vint (van_cons vint (van_cons vint (van_cons vint (van_cons (vpow_ vint vint) van_nil))))))) (vmod_ (vidx_ (vv 3) vint) vint)))))
      (qs_cons (vs_set 8 nd (vo_x (vxF (vcall (ok_law_numbers T) (hr.mono (by decide)) T.g__law_numbers T.F__law_numbers.kp T.B__law_numbers tk (van_cons (vcall (ok_law_cell T) (hr.mono (by decide)) T.g__law_cell T.F__law_cell.kp T.B__law_cell tk (van_cons (vv 0) (van_cons (vadd_ (vv 1) vint) van_nil))) (van_cons (vmul_ vint (vv 5)) (van_cons vint van_nil)))))))
      (qs_cons (vs_set 9 nd (vo_x (vxF (vcall (ok_law_numbers T) (hr.mono (by decide)) T.g__law_numbers T.F__law_numbers.kp T.B__law_numbers tk (van_cons (vcall (ok_law_cell T) (hr.mono (by decide)) T.g__law_cell T.F__law_cell.kp T.B__law_cell tk (van_cons (vv 0) (van_cons (vadd_ (vv 1) vint) van_nil))) (van_cons (vv 4) (van_cons vint van_nil)))))))
      (qs_cons (vs_set 10 nd (vo_frF (vlst_f van_nil)))
      (qs_t (envT_kill _ [0, 1, 2]) (qs_cons (vs_forK hp rfl (vix_range1 T.b_range (vxF (vv 5))) (vg 11 nd) (rs_kill _ [5]) (envT_kill _ [11, 12, 13, 14, 15])
      (qs_cons (vs_set 12 nd (vo_x (vxF (vmod_ (vidx_ (vv 8) (vmul_ vint (vv 11))) (vv 4)))))
      (qs_cons (vs_set 13 nd (vo_x (vxF (vmod_ (vidx_ (vv 8) (vadd_ (vmul_ vint (vv 11)) vint)) (vv 4)))))
      (qs_cons (vs_set 14 nd (vo_x (vxF (vidx_ (vv 8) (vadd_ (vmul_ vint (vv 11)) vint)))))
      (qs_cons (vs_set 15 nd (vo_x (vxF (vmul_ (vsub_ (vmod_ (vv 14) vint) vint) (vv 7)))))
      (qs_cons (vs_if (qx_T (qin hu (vv 6) (VFr.ve (vlst_f (van_cons vint (van_cons vint (van_cons vint van_nil)))))))
      (qs_cons (vs_set 15 nd (vo_x (vxF (vsub_ (vmul_ (vsub_ (vidx_ (vv 9) (vv 13)) (vidx_ (vv 9) (vv 12))) (vv 7)) (vmod_ (vv 14) vint)))))
      (qs_t (envT_kill _ [5, 11]) qs_nil))
      (qs_t (envT_kill _ [5, 11]) qs_nil))
      (qs_cons (vs_if (qx_T (VW.vt (vw_and (qeq hu (vv 6) vint) (vw_and1 (qeq hu (vmod_ (vfdiv_ (vv 14) vint) vint) vint)))))
      (qs_cons (vs_set 15 nd (vo_x (vxF (vadd_ (vv 15) (vmod_ (vfdiv_ (vv 14) vint) vint)))))
      (qs_t (envT_kill _ [14]) qs_nil))
      (qs_t (envT_kill _ [14]) qs_nil))
      (qs_cons (vs_if (qx_T (qeq hu (vv 6) vint))
      (vss_one (vs_set 15 nd (vo_x (vxF (vsub_ (vv 15) (vmul_ vint (vv 7)))))))
      qs_nil)
      (vss_one (vs_app 10 (fun p => pe_bm PySem.F.plainAttrs_list PySem.F.slot_list_append PySem.F.type_list_append mt_append (pv 10) (pa_cons p pa_nil)) (vo_x (vxF (vtup_ (van_cons (vv 12) (van_cons (vv 13) (van_cons (vv 15) van_nil))))))))))))))))
      (qs_t (envT_kill _ [8, 12, 13, 15]) (qs_t (envT_freeze _ [10]) (qs_cons (vs_if (qx_T (qge (vv 6) vint))
      (qs_cons (qsetLc 16 mode_F rfl nd rfl rfl (sw_true rfl rfl rfl (by decide +kernel)) (vi_range1 T.b_range (vsub_ (vv 4) vint)) (blkOk_by (own := [("k", 11)]) (N := N_law_world) (sc := defScope s_law_world) (by decide +kernel)) rfl (fun _ _ _ _ _ => (vg 11 nd)) (by decide) (fun _ _ _ _ _ => vts_nil) (fun _ _ _ _ _ => (vtup_ (van_cons (vv 11) (van_cons (vadd_ (vv 11) vint) (van_cons (vmul_ (vadd_ vint (vidx_ (vv 9) (vv 11))) (vv 7)) van_nil))))))
      (qs_cons (vs_if (qx_T (qeq hu (vv 6) vint))
      (qs_t (envT_freeze _ [16]) (qs_cons (qsetLc 16 mode_F rfl nd rfl rfl (sw_true rfl rfl rfl (by decide +kernel)) (vi_range1 T.b_range (vsub_ (vv 4) vint)) (blkOk_by (own := [("k", 11)]) (N := N_law_world) (sc := defScope s_law_world) (by decide +kernel)) rfl (fun _ _ _ _ _ => (vg 11 nd)) (by decide) (fun _ _ _ _ _ => vts_nil) (fun _ _ _ _ _ => (vtup_ (van_cons (vv 11) (van_cons (vadd_ (vv 11) vint) (van_cons (vmul_ (vsub_ (vidx_ (vv 9) (vadd_ (vv 11) vint)) (vidx_ (vv 9) (vv 11))) (vv 7)) van_nil))))))
      (qs_t (envT_kill _ [6, 7, 9]) qs_nil)))
      (qs_t (envT_kill _ [6, 7, 9]) qs_nil))
      (qs_cons (vs_set 17 nd (vo_x (vxB (vsum_ rfl T.b_sum (VAn.va (van_cons (VFr.ve (qcomp rfl nd (vi_seq (vv 16)) (blkOk_by (own := [("link", 19)]) (N := N_law_world) (sc := defScope s_law_world) (by decide +kernel)) rfl (fun _ _ _ _ _ => (vg 19 nd)) (by decide) (fun _ _ _ _ _ => vts_nil) (fun _ _ _ _ _ => (vidx_ (vv 19) vint)))) van_nil))))))
      (qs_cons (vs_rev 16 (pe_bm0 PySem.F.plainAttrs_list PySem.F.slot_list_reverse PySem.F.type_list_reverse mt_reverse (pv 16)))
      (qs_cons (vs_app 16 (fun p => pe_bm PySem.F.plainAttrs_list PySem.F.slot_list_append PySem.F.type_list_append mt_append (pv 16) (pa_cons p pa_nil)) (vo_x (vxF (vtup_ (van_cons (vsub_ (vv 4) vint) (van_cons vint (van_cons (vsub_ (vsub_ (vmod_ (vidx_ (vv 3) vint) vint) vint) (vv 17)) van_nil)))))))
      (qs_t (envT_freeze _ [16]) (qs_cons (vs_set 18 nd (vo_x (vxF (vmod_ (vidx_ (vv 3) vint) (vadd_ (vlen_ T.b_len (VAn.va (van_cons (vv 10) van_nil))) vint)))))
      (qs_cons (vs_set 10 nd (vo_x (vxF (vadd_ (vadd_ (vslice_ (vv 10) (qo_some vint) (qo_some (vv 18))) (vv 16)) (vslice_ (vv 10) (qo_some (vv 18)) qo_none)))))
      (qs_t (envT_kill _ [3, 16, 17, 18]) qs_nil)))))))))
      (qs_t (envT_kill _ [3, 6, 7, 9]) qs_nil))
      (vss_one (vs_ret (vo_x (vxF (vtup_ (van_cons (vv 4) (van_cons (vv 10) van_nil))))))))))))))))))))
theorem sc_law_rounds : FnScope N_law_rounds ["count", "demands"] (defScope s_law_rounds) := ⟨rfl, rfl, rfl, by decide +kernel, rfl, by decide +kernel, by decide +kernel⟩
theorem ok_law_rounds (T : Txt K mg) : FnOk P w K mg base (L2.CX P w) 1 T.f__law_rounds T.d__law_rounds ["count", "demands"] (spV K mg 2 m_law_rounds) := by
  refine fn_frz (g := runB 12 g_law_rounds) ?_
  refine fn_vl T.F__law_rounds sc_law_rounds rfl fun cdv A outer s H E hr => ?_
  have hu := hu65 hr
  have nd := sc_law_rounds.nd
  have tk := takes_of (X := cxOf (L2.CX P w) P w K mg base N_law_rounds "_law_rounds" (defScope s_law_rounds) T.f__law_rounds cdv A outer s H E) rfl rfl rfl rfl
  have hp := passes_of (X := cxOf (L2.CX P w) P w K mg base N_law_rounds "_law_rounds" (defScope s_law_rounds) T.f__law_rounds cdv A outer s H E) rfl
  exact (qs_cons (qsetLc 2 mode_F rfl nd rfl rfl (sw_true rfl rfl rfl (by decide +kernel)) (vi_range1 T.b_range (vv 0)) (blkOk_by (own := [("k", 6)]) (N := N_law_rounds) (sc := defScope s_law_rounds) (by decide +kernel)) rfl (fun _ _ _ _ _ => (vg 6 nd)) (by decide) (fun _ _ _ _ _ => vts_nil) (fun _ _ _ _ _ => vint))
      (qs_cons (qsetLc 3 mode_F rfl nd rfl rfl (sw_true rfl rfl rfl (by decide +kernel)) (vi_range1 T.b_range (vv 0)) (blkOk_by (own := [("k", 6)]) (N := N_law_rounds) (sc := defScope s_law_rounds) (by decide +kernel)) rfl (fun _ _ _ _ _ => (vg 6 nd)) (by decide) (fun _ _ _ _ _ => vts_nil) (fun _ _ _ _ _ => vint))
      (qs_cons (vs_set 4 nd (vo_x (vxF vnone)))
      (qs_cons (vs_for hp rfl (vix_range1 T.b_range (vxF (vv 0))) (vg 5 nd) (envT_kill _ [5, 6, 7, 8, 9])
      (qs_cons (vs_set 4 nd (vo_x (vxF vnone)))
      (qs_t (envT_kill _ [5]) (qs_cons (vs_for hp rfl (vix_range1 T.b_range (vxF (vlen_ T.b_len (VAn.va (van_cons (vv 1) van_nil))))) (vg 6 nd) (envT_kill _ [6, 7, 8, 9])
      (qs_cons (vs_tup (vg_tup rfl (vgs_cons (vg 7 nd) (vgs_cons (vg 8 nd) (vgs_cons (vg 9 nd) vgs_nil)))) (vxF (vidx_ (vv 1) (vv 6))))
      (vss_one (vs_if (qx_T (qgt (vadd_ (vidx_ (vv 2) (vv 7)) (vv 9)) (vidx_ (vv 2) (vv 8))))
      (qs_cons (vs_setI 2 (fun p q => ps_asg p (pg_sub (pv 2) q set_list)) (vxF (vv 8)) (vo_x (vxB (vadd_ (vidx_ (vv 2) (vv 7)) (vv 9)))))
      (qs_cons (vs_setI 3 (fun p q => ps_asg p (pg_sub (pv 3) q set_list)) (vxF (vv 8)) (vo_x (vxF (vv 6))))
      (qs_cons (vs_set 4 nd (vo_x (vxF (vv 8))))
      (qs_t (envT_kill _ [6, 7, 8, 9]) qs_nil))))
      (qs_t (envT_kill _ [6, 7, 8, 9]) qs_nil)))))
      (vss_one (vs_if (qx_T (qisnone (vv 4)))
      (qs_t (envT_freeze _ [2, 3]) (vss_one (vs_ret (vo_x (vxF (vtup_ (van_cons vstr (van_cons (vv 2) van_nil))))))))
      qs_nil))))))
      (qs_t (envT_kill _ [2]) (qs_t (envT_freeze _ [3]) (qs_cons (vs_for hp rfl (vix_range1 T.b_range (vxF (vv 0))) (vg 6 nd) (envT_kill _ [6])
      (vss_one (vs_set 4 nd (vo_x (vxF (vidx_ (vidx_ (vv 1) (vidx_ (vv 3) (vv 4))) vint))))))
      (qs_t (envT_kill _ [6]) (qs_cons (vs_set 10 nd (vo_x (vxF (VFr.ve (vlst_f van_nil)))))
      (qs_cons (vs_set 11 nd (vo_x (vxF (vv 4))))
      (qs_cons (vs_forK hp rfl (vix_range1 T.b_range (vxF (vv 0))) (vg 6 nd) (rs_kill _ [0]) (envT_kill _ [6])
      (qs_cons (vs_set 10 nd (vo_x (vxF (vadd_ (VFr.ve (vlst_f (van_cons (vidx_ (vv 3) (vv 11)) van_nil))) (vv 10)))))
      (qs_cons (vs_set 11 nd (vo_x (vxF (vidx_ (vidx_ (vv 1) (vidx_ (vv 3) (vv 11))) vint))))
      (vss_one (vs_if (qx_T (qeq hu (vv 11) (vv 4)))
      (vss_one (vs_ret (vo_x (vxF (vtup_ (van_cons vstr (van_cons (vv 10) van_nil)))))))
      (qs_t (envT_kill _ [0, 6]) qs_nil))))))
      (qs_t (envT_kill _ [1, 3, 4, 10, 11]) (vss_one (vs_ret (vo_x (vxF (vtup_ (van_cons vstr (van_cons (VFr.ve (vlst_f van_nil)) van_nil)))))))))))))))))))
theorem sc_law_planted : FnScope N_law_planted ["count", "demands", "draws"] (defScope s_law_planted) := ⟨rfl, rfl, rfl, by decide +kernel, rfl, by decide +kernel, by decide +kernel⟩
theorem ok_law_planted (T : Txt K mg) : FnOk P w K mg base (L2.CX P w) 1 T.f__law_planted T.d__law_planted ["count", "demands", "draws"] (spV K mg 3 m_law_planted) := by
  refine fn_frz (g := runB 13 g_law_planted) ?_
  refine fn_vl T.F__law_planted sc_law_planted rfl fun cdv A outer s H E hr => ?_
  have hu := hu65 hr
  have nd := sc_law_planted.nd
  have tk := takes_of (X := cxOf (L2.CX P w) P w K mg base N_law_planted "_law_planted" (defScope s_law_planted) T.f__law_planted cdv A outer s H E) rfl rfl rfl rfl
  have hp := passes_of (X := cxOf (L2.CX P w) P w K mg base N_law_planted "_law_planted" (defScope s_law_planted) T.f__law_planted cdv A outer s H E) rfl
  exact (qs_cons (vs_set 3 nd (vo_x (vxF (vadd_ vint (vmod_ (vidx_ (vv 2) vint) vint)))))
      (qs_cons (vs_set 4 nd (vo_x (vxF (VFr.ve (qcomp rfl nd (vi_range1 T.b_range (vv 3)) (blkOk_by (own := [("k", 11)]) (N := N_law_planted) (sc := defScope s_law_planted) (by decide +kernel)) rfl (fun _ _ _ _ _ => (vg 11 nd)) (by decide) (fun _ _ _ _ _ => vts_nil) (fun _ _ _ _ _ => (vmod_ (vidx_ (vv 2) (vadd_ vint (vv 11))) (vv 0))))))))
      (qs_cons (qsetLc 5 mode_F rfl nd rfl rfl (sw_true rfl rfl rfl (by decide +kernel)) (vi_range1 T.b_range (vv 3)) (blkOk_by (own := [("k", 11)]) (N := N_law_planted) (sc := defScope s_law_planted) (by decide +kernel)) rfl (fun _ _ _ _ _ => (vg 11 nd)) (by decide) (fun _ _ _ _ _ => vts_nil) (fun _ _ _ _ _ => (vtup_ (van_cons (vidx_ (vv 4) (vv 11)) (van_cons (vidx_ (vv 4) (vmod_ (vint_ T.b_int (VAn.va (van_cons (vadd_ (vv 11) vint) van_nil))) (vv 3))) (van_cons (vsub_ (vmod_ (vidx_ (vv 2) (vadd_ vint (vv 11))) vint) vint) van_nil))))))
      (qs_cons (vs_set 6 nd (vo_x (vxB (vsum_ rfl T.b_sum (VAn.va (van_cons (VFr.ve (qcomp rfl nd (vi_seq (vv 5)) (blkOk_by (own := [("link", 12)]) (N := N_law_planted) (sc := defScope s_law_planted) (by decide +kernel)) rfl (fun _ _ _ _ _ => (vg 12 nd)) (by decide) (fun _ _ _ _ _ => vts_nil) (fun _ _ _ _ _ => (vidx_ (vv 12) vint)))) van_nil))))))
      (qs_cons (vs_tup (vg_tup rfl (vgs_cons (vg 7 nd) (vgs_cons (vg 8 nd) (vgs_cons (vg 9 nd) vgs_nil)))) (vxB (vidx_ (vv 5) vint)))
      (qs_cons (vs_setI 5 (fun p q => ps_asg p (pg_sub (pv 5) q set_list)) (vxF vint) (vo_x (vxF (vtup_ (van_cons (vv 7) (van_cons (vv 8) (van_cons (vadd_ (vsub_ (vv 9) (vv 6)) (vidx_ (VFr.ve (vlst_f (van_cons vint (van_cons vint (van_cons (vadd_ vint (vidx_ (vv 2) vint)) (van_cons (vpow_ vint vint) van_nil)))))) (vmod_ (vidx_ (vv 2) vint) vint))) van_nil)))))))
      (qs_t (envT_freeze _ [5]) (qs_cons (vs_set 10 nd (vo_x (vxF (vmod_ (vidx_ (vv 2) vint) (vadd_ (vlen_ T.b_len (VAn.va (van_cons (vv 1) van_nil))) vint)))))
      (vss_one (vs_ret (vo_x (vxF (vidx_ (VFr.ve (vlst_f (van_cons (vadd_ (vv 5) (vv 1)) (van_cons (vadd_ (vv 1) (vv 5)) (van_cons (vadd_ (vadd_ (vslice_ (vv 1) (qo_some vint) (qo_some (vv 10))) (vv 5)) (vslice_ (vv 1) (qo_some (vv 10)) qo_none)) van_nil))))) (vmod_ (vidx_ (vv 2) vint) vint))))))))))))))
theorem sc_law : FnScope N_law ["script"] (defScope s_law) := ⟨rfl, rfl, rfl, by decide +kernel, rfl, by decide +kernel, by decide +kernel⟩
theorem ok_law (T : Txt K mg) : FnOk P w K mg base (L2.CX P w) 12 T.f_law T.d_law ["script"] (spV K mg 1 m_law) := by
  refine fn_frz (g := runB 10 g_law) ?_
  refine fn_vl T.F_law sc_law rfl fun cdv A outer s H E hr => ?_
  have hu := hu65 hr
  have nd := sc_law.nd
  have tk := takes_of (X := cxOf (L2.CX P w) P w K mg base N_law "law" (defScope s_law) T.f_law cdv A outer s H E) rfl rfl rfl rfl
  have hp := passes_of (X := cxOf (L2.CX P w) P w K mg base N_law "law" (defScope s_law) T.f_law cdv A outer s H E) rfl
  exact (qs_cons (vs_set 1 nd (vo_x (vxF vint)))
      (qs_cons (vs_for hp rfl (vix_range1 T.b_range (vxF vint)) (vg 2 nd) (envT_kill _ [2, 3, 4, 5, 6, 7, 8, 9])
      (qs_cons (vs_tup (vg_tup rfl (vgs_cons (vg 3 nd) (vgs_cons (vg 4 nd) vgs_nil))) (vxF (vcall (ok_law_world T) (hr.mono (by decide)) T.g__law_world T.F__law_world.kp T.B__law_world tk (van_cons (vv 0) (van_cons (vmul_ vint (vv 2)) (van_cons (vidx_ (VFr.ve (vlst_f (van_cons vint (van_cons vint (van_cons vint van_nil))))) (vv 2)) van_nil))))))
      (qs_cons (vs_set 5 nd (vo_x (vxF (vcall (ok_law_numbers T) (hr.mono (by decide)) T.g__law_numbers T.F__law_numbers.kp T.B__law_numbers tk (van_cons (vcall (ok_law_cell T) (hr.mono (by decide)) T.g__law_cell T.F__law_cell.kp T.B__law_cell tk (van_cons (vv 0) (van_cons (vadd_ vint (vv 2)) van_nil))) (van_cons vint (van_cons vint van_nil)))))))
      (qs_t (envT_kill _ [2]) (vss_one (vs_forK hp rfl (qix_F (vi_seq (VFr.ve (vlst_f (van_cons (vv 4) (van_cons (vcall (ok_law_planted T) (hr.mono (by decide)) T.g__law_planted T.F__law_planted.kp T.B__law_planted tk (van_cons (vv 3) (van_cons (vv 4) (van_cons (vv 5) van_nil)))) (van_cons (vv 4) van_nil))))))) (vg 6 nd) (rs_kill _ [4, 5]) (envT_kill _ [6, 7, 8, 9])
      (qs_cons (vs_set 7 nd (vo_x (vxF (VFr.ve (vlist_f T.b_list (vv 6))))))
      (qs_cons (vs_set 8 nd (vo_x (vxF (vcall (ok_law_rounds T) (hr.mono (by decide)) T.g__law_rounds T.F__law_rounds.kp T.B__law_rounds tk (van_cons (vv 3) (van_cons (vv 7) van_nil))))))
      (qs_cons (vs_set 9 nd (vo_call (okO_timetable T) (hr.mono (by decide)) T.g_timetable T.F_timetable.kp T.B_timetable tk (van_cons (vv 3) (van_cons (vv 6) van_nil))))
      (qs_cons (vs_if (qx_T (VW.vt (vw_or (vt_not (qtruth (vcall (ok_law_same T 10) (hr.mono (by decide)) T.g__law_same T.F__law_same.kp T.B__law_same tk (van_cons (vv 9) (van_cons (vv 8) van_nil))))) (vw_or1 (qne hu (vv 6) (vv 7))))))
      (qs_t (envT_freeze _ [9]) (vss_one (vs_ret (vo_x (vxF vbool)))))
      (qs_t (envT_kill _ [4, 5, 7]) qs_nil))
      (qs_cons (vs_mut0V mut_pop (fun po => pe_bm0 PySem.F.plainAttrs_list PySem.F.slot_list_pop PySem.F.type_list_pop mt_pop po) (vpl_idx (vpl_var 9 (pv 9)) (vxF vint)))
      (qs_cons (vs_mutP mut_app (fun po p => pe_bm PySem.F.plainAttrs_list PySem.F.slot_list_append PySem.F.type_list_append mt_append po (pa_cons p pa_nil)) (vpl_idx (vpl_var 9 (pv 9)) (vxF vint)) (von_x (vxF (vneg_ vint))))
      (qs_t (envT_freeze _ [9]) (qs_cons (vs_if (qx_T (vt_not (qtruth (vcall (ok_law_same T 10) (hr.mono (by decide)) T.g__law_same T.F__law_same.kp T.B__law_same tk (van_cons (vcall (ok_timetable T) (hr.mono (by decide)) T.g_timetable T.F_timetable.kp T.B_timetable tk (van_cons (vv 3) (van_cons (vv 6) van_nil))) (van_cons (vv 8) van_nil))))))
      (vss_one (vs_ret (vo_x (vxF vbool))))
      (qs_t (envT_kill _ [6, 9]) qs_nil))
      (vss_one (vs_set 1 nd (vo_x (vxF (vadd_ (vv 1) (vint_ T.b_int (VAn.va (van_cons (veq_ hu (vidx_ (vv 8) vint) vstr) van_nil))))))))))))))))))))))
      (qs_t (envT_kill _ [0, 3, 8]) (vss_one (vs_ret (vo_x (vxF (vge_ (vv 1) vint))))))))
end
end LW
namespace LW
open PySem PySem.Spec PyProof.Rows VL
noncomputable section
abbrev cn_Clock_3 : List Str := ["demands", "times", "causes"]
abbrev cn_Clock_2 : List Str := ["demands", "times"]
abbrev cn_Clock_1 : List Str := ["demands"]
abbrev cn_Clock_0 : List Str := []
def t_Clock_init (self_ : (In "Clock" cn_Clock_0 Unit)) (count : Int) (demands : (List (T3 Int Int Int))) : R (Unit × (In "Clock" cn_Clock_3 (T3 (List (T3 Int Int Int)) (List Int) (List (Option Int))))) := TR.fn (l := Empty) (σ := (In "Clock" cn_Clock_3 (T3 (List (T3 Int Int Int)) (List Int) (List (Option Int))))) ((R.ok demands).tr fun a_ => (fun (self_ : (In "Clock" cn_Clock_1 (T1 (List (T3 Int Int Int))))) => ((b2 trep (tcons (R.ok (0 : Int)) (R.ok ([] : List Int))) (R.ok count)).tr fun a_ => (fun (self_ : (In "Clock" cn_Clock_2 ((List (T3 Int Int Int)) × (List Int)))) => ((b2 trep (tcons (b1 cNone (R.ok ())) (R.ok ([] : List (Option Int)))) (R.ok count)).tr fun a_ => (fun (self_ : (In "Clock" cn_Clock_3 (T3 (List (T3 Int Int Int)) (List Int) (List (Option Int))))) => (TR.nx self_)) (⟨⟨self_.v.1, self_.v.2, a_⟩⟩ : (In "Clock" cn_Clock_3 (T3 (List (T3 Int Int Int)) (List Int) (List (Option Int))))))) (⟨⟨self_.v.a, a_⟩⟩ : (In "Clock" cn_Clock_2 ((List (T3 Int Int Int)) × (List Int)))))) (⟨⟨a_⟩⟩ : (In "Clock" cn_Clock_1 (T1 (List (T3 Int Int Int)))))) (fun s_ => (R.ok () : R Unit).bind fun b_ => .ok (b_, s_))
def t_Clock_raise_for (self_ : (In "Clock" cn_Clock_3 (T3 (List (T3 Int Int Int)) (List Int) (List (Option Int))))) (index : Int) : R (Bool × (In "Clock" cn_Clock_3 (T3 (List (T3 Int Int Int)) (List Int) (List (Option Int))))) := TR.fn (l := Empty) (σ := (In "Clock" cn_Clock_3 (T3 (List (T3 Int Int Int)) (List Int) (List (Option Int))))) ((b2 tidx (R.ok self_.v.a) (R.ok index)).tr fun ⟨i, j, wait⟩ => (tite (b2 tgeI (b2 tidx (b1 (pj (fun x_ : (In "Clock" cn_Clock_3 (T3 (List (T3 Int Int Int)) (List Int) (List (Option Int)))) => x_.v.b)) (R.ok self_)) (R.ok j)) (b2 taddI (b2 tidx (b1 (pj (fun x_ : (In "Clock" cn_Clock_3 (T3 (List (T3 Int Int Int)) (List Int) (List (Option Int)))) => x_.v.b)) (R.ok self_)) (R.ok i)) (R.ok wait))) ((R.ok false).tr fun r_ => TR.rt (r_, self_)) ((b2 taddI (b2 tidx (b1 (pj (fun x_ : (In "Clock" cn_Clock_3 (T3 (List (T3 Int Int Int)) (List Int) (List (Option Int)))) => x_.v.b)) (R.ok self_)) (R.ok i)) (R.ok wait)).tr fun a_ => (R.ok ()).tr fun n_ => tfd ((fun (_ : Unit) (x_ : (In "Clock" cn_Clock_3 (T3 (List (T3 Int Int Int)) (List Int) (List (Option Int))))) => some x_.v.b) n_ self_) fun ys_ => (R.ok j).tr fun j_ => (tset ys_ j_ a_).tr fun zs_ => (fun (self_ : (In "Clock" cn_Clock_3 (T3 (List (T3 Int Int Int)) (List Int) (List (Option Int))))) => ((b1 cJust (R.ok index)).tr fun a_ => (R.ok ()).tr fun n_ => tfd ((fun (_ : Unit) (x_ : (In "Clock" cn_Clock_3 (T3 (List (T3 Int Int Int)) (List Int) (List (Option Int))))) => some x_.v.c) n_ self_) fun ys_ => (R.ok j).tr fun j_ => (tset ys_ j_ a_).tr fun zs_ => (fun (self_ : (In "Clock" cn_Clock_3 (T3 (List (T3 Int Int Int)) (List Int) (List (Option Int))))) => ((R.ok true).tr fun r_ => TR.rt (r_, self_))) ((fun (_ : Unit) (x_ : (In "Clock" cn_Clock_3 (T3 (List (T3 Int Int Int)) (List Int) (List (Option Int))))) (zs_ : (List (Option Int))) => (⟨⟨x_.v.a, x_.v.b, zs_⟩⟩ : (In "Clock" cn_Clock_3 (T3 (List (T3 Int Int Int)) (List Int) (List (Option Int)))))) n_ self_ zs_))) ((fun (_ : Unit) (x_ : (In "Clock" cn_Clock_3 (T3 (List (T3 Int Int Int)) (List Int) (List (Option Int))))) (zs_ : (List Int)) => (⟨⟨x_.v.a, zs_, x_.v.c⟩⟩ : (In "Clock" cn_Clock_3 (T3 (List (T3 Int Int Int)) (List Int) (List (Option Int)))))) n_ self_ zs_)))) (fun s_ => (.stuck : R Bool).bind fun b_ => .ok (b_, s_))
def t_Clock_raise_round_1 (index : Int) (demand : (T3 Int Int Int)) (self_ : (In "Clock" cn_Clock_3 (T3 (List (T3 Int Int Int)) (List Int) (List (Option Int))))) (last : (Option Int)) : TR ((Option Int) × (In "Clock" cn_Clock_3 (T3 (List (T3 Int Int Int)) (List Int) (List (Option Int))))) ((In "Clock" cn_Clock_3 (T3 (List (T3 Int Int Int)) (List Int) (List (Option Int)))) × (Option Int)) ((In "Clock" cn_Clock_3 (T3 (List (T3 Int Int Int)) (List Int) (List (Option Int)))) × (Option Int)) := ((((R.ok index).bind fun a_ => (R.ok ()).bind fun b_ => .ok (a_, b_)).bind fun p_ => t_Clock_raise_for self_ p_.1).tr fun ⟨w1_, self_⟩ => tite (R.ok w1_) ((b1 (pj T3.b) (R.ok demand)).tr fun last => (TR.nx (self_, (some last)))) (TR.nx (self_, last)))
abbrev E_Clock_raise_round_1 (a0_ : Addr) : ((In "Clock" cn_Clock_3 (T3 (List (T3 Int Int Int)) (List Int) (List (Option Int)))) × (Option Int)) → OEnv := fun s_ => match s_ with | ⟨self_, last⟩ => [some ((oP a0_ (oC "Clock" cn_Clock_3 (oc3 oF (oL oF) (oL oF)))) self_), some (oF last), none, none]
def t_Clock_raise_round (self_ : (In "Clock" cn_Clock_3 (T3 (List (T3 Int Int Int)) (List Int) (List (Option Int))))) : R ((Option Int) × (In "Clock" cn_Clock_3 (T3 (List (T3 Int Int Int)) (List Int) (List (Option Int))))) := TR.fn (l := Empty) (σ := (In "Clock" cn_Clock_3 (T3 (List (T3 Int Int Int)) (List Int) (List (Option Int))))) ((R.ok ()).tr fun last => ((b1 tenum (R.ok self_.v.a)).tr fun xs_ => (forT (fun ⟨index, demand⟩ ⟨self_, last⟩ => t_Clock_raise_round_1 index demand self_ last) xs_ (self_, none)).bind fun ⟨self_, last⟩ => ((R.ok last).tr fun r_ => TR.rt (r_, self_)))) (fun s_ => (.stuck : R (Option Int)).bind fun b_ => .ok (b_, s_))
def t_Clock_before (self_ : (In "Clock" cn_Clock_3 (T3 (List (T3 Int Int Int)) (List Int) (List (Option Int))))) (event : (Option Int)) : R Int := TR.fn (l := Empty) (σ := Unit) ((b1 (pj T3.a) (b2 tidx (b1 (pj (fun x_ : (In "Clock" cn_Clock_3 (T3 (List (T3 Int Int Int)) (List Int) (List (Option Int)))) => x_.v.a)) (R.ok self_)) (b1 cSome (b2 tidx (b1 (pj (fun x_ : (In "Clock" cn_Clock_3 (T3 (List (T3 Int Int Int)) (List Int) (List (Option Int)))) => x_.v.c)) (R.ok self_)) (b1 cSome (R.ok event)))))).tr fun r_ => TR.rt r_) (fun _ => .stuck)
def t_Clock_event_on_ring_1 (self_ : (In "Clock" cn_Clock_3 (T3 (List (T3 Int Int Int)) (List Int) (List (Option Int))))) (u_ : Int) (event : (Option Int)) : TR (Option Int) (Option Int) (Option Int) := ((b2 t_Clock_before (R.ok self_) (R.ok event)).tr fun event => (TR.nx (some event)))
abbrev E_Clock_event_on_ring_1 (self_ : (In "Clock" cn_Clock_3 (T3 (List (T3 Int Int Int)) (List Int) (List (Option Int))))) : (Option Int) → OEnv := fun s_ => match s_ with | event => [some (oF self_), some (oF event), none]
def t_Clock_event_on_ring (self_ : (In "Clock" cn_Clock_3 (T3 (List (T3 Int Int Int)) (List Int) (List (Option Int))))) (event : (Option Int)) : R (Option Int) := TR.fn (l := Empty) (σ := Unit) ((b1 trange1 (b1 tlen (b1 (pj (fun x_ : (In "Clock" cn_Clock_3 (T3 (List (T3 Int Int Int)) (List Int) (List (Option Int)))) => x_.v.b)) (R.ok self_)))).tr fun xs_ => (forT (fun u_ event => t_Clock_event_on_ring_1 self_ u_ event) xs_ event).bind fun event => ((R.ok event).tr fun r_ => TR.rt r_)) (fun _ => .stuck)
def t_Clock_ring_through_1 (self_ : (In "Clock" cn_Clock_3 (T3 (List (T3 Int Int Int)) (List Int) (List (Option Int))))) (found : (List (Option Int))) (back : Int) : TR (List (Option Int)) ((List (Option Int)) × Int) ((List (Option Int)) × Int) := ((b2 tidx (b1 (pj (fun x_ : (In "Clock" cn_Clock_3 (T3 (List (T3 Int Int Int)) (List Int) (List (Option Int)))) => x_.v.c)) (R.ok self_)) (R.ok back)).tr fun a_ => (tapp found a_).tr fun found => ((b2 t_Clock_before (R.ok self_) (b1 cJust (R.ok back))).tr fun back => (TR.nx (found, back))))
abbrev E_Clock_ring_through_1 (self_ : (In "Clock" cn_Clock_3 (T3 (List (T3 Int Int Int)) (List Int) (List (Option Int))))) (event : (Option Int)) : ((List (Option Int)) × Int) → OEnv := fun s_ => match s_ with | ⟨found, back⟩ => [some (oF self_), some (oF event), some ((oL oF) found), some (oF back)]
def t_Clock_ring_through (self_ : (In "Clock" cn_Clock_3 (T3 (List (T3 Int Int Int)) (List Int) (List (Option Int))))) (event : (Option Int)) : R (List (Option Int)) := TR.fn (l := Empty) (σ := Unit) ((tcons (b2 tidx (b1 (pj (fun x_ : (In "Clock" cn_Clock_3 (T3 (List (T3 Int Int Int)) (List Int) (List (Option Int)))) => x_.v.c)) (R.ok self_)) (b1 cSome (R.ok event))) (R.ok ([] : List (Option Int)))).tr fun found => ((b2 t_Clock_before (R.ok self_) (R.ok event)).tr fun back => ((loopT (fun ⟨found, back⟩ => (b2 tne (b1 cJust (R.ok back)) (R.ok event))) (fun ⟨found, back⟩ => t_Clock_ring_through_1 self_ found back) (found, back)).bind fun ⟨found, back⟩ => ((b1 trev (R.ok found)).tr fun r_ => TR.rt r_)))) (fun _ => .stuck)
def t_timetable_1 (u_ : Int) (clock : (In "Clock" cn_Clock_3 (T3 (List (T3 Int Int Int)) (List Int) (List (Option Int))))) (last : (Option Int)) : TR (Str × (List (Option Int))) ((In "Clock" cn_Clock_3 (T3 (List (T3 Int Int Int)) (List Int) (List (Option Int)))) × (Option Int)) ((In "Clock" cn_Clock_3 (T3 (List (T3 Int Int Int)) (List Int) (List (Option Int)))) × (Option Int)) := (((R.ok ()).bind fun p_ => t_Clock_raise_round clock).tr fun ⟨last, clock⟩ => (tite (b1 tisnoneO (R.ok last)) ((b2 mk2 (R.ok ("times" : Str)) (b1 (pj (fun x_ : (In "Clock" cn_Clock_3 (T3 (List (T3 Int Int Int)) (List Int) (List (Option Int)))) => x_.v.b)) (R.ok clock))).tr fun r_ => TR.rt ⟨(r_).1, (List.map (fun y_ => (some y_)) (r_).2)⟩) (TR.nx (clock, last))))
abbrev E_timetable_1 : ((In "Clock" cn_Clock_3 (T3 (List (T3 Int Int Int)) (List Int) (List (Option Int)))) × (Option Int)) → OEnv := fun s_ => match s_ with | ⟨clock, last⟩ => [none, none, some ((oC "Clock" cn_Clock_3 (oc3 oF (oL oF) (oL oF))) clock), some (oF last), none]
def t_timetable (count : Int) (demands : (List (T3 Int Int Int))) : R (Str × (List (Option Int))) := TR.fn (l := Empty) (σ := Unit) ((((R.ok count).bind fun a_ => ((R.ok demands).bind fun a_ => (R.ok ()).bind fun b_ => .ok (a_, b_)).bind fun b_ => .ok (a_, b_)).bind fun p_ => (t_Clock_init ⟨()⟩ p_.1 p_.2.1).bind fun q_ => .ok q_.2).tr fun clock => ((R.ok ()).tr fun last => ((b1 trange1 (R.ok count)).tr fun xs_ => (forT (fun u_ ⟨clock, last⟩ => t_timetable_1 u_ clock last) xs_ (clock, none)).bind fun ⟨clock, last⟩ => ((b2 mk2 (R.ok ("ring" : Str)) ((R.ok clock).bind fun a0_ => (b2 t_Clock_event_on_ring (R.ok clock) (R.ok last)).bind fun a1_ => t_Clock_ring_through a0_ a1_)).tr fun r_ => TR.rt r_)))) (fun _ => .stuck)
def t_law_cell (script : (List Int)) (k : Int) : R Int := TR.fn (l := Empty) (σ := Unit) (tite (b2 tltI (R.ok k) (b1 tlen (R.ok script))) ((b1 tint (b2 tidx (R.ok script) (R.ok k))).tr fun r_ => TR.rt r_) ((R.ok (0 : Int)).tr fun r_ => TR.rt r_)) (fun _ => .stuck)
def t_law_numbers_1 (limit : Int) (k : Int) (cell : Int) (found : (List Int)) : TR (List Int) (Int × (List Int)) (Int × (List Int)) := ((b2 tmodI (b1 tint (R.ok cell)) (R.ok limit)).tr fun a_ => (tapp found a_).tr fun found => ((b2 tfdivI (b1 tint (R.ok cell)) (R.ok limit)).tr fun cell => (TR.nx (cell, found))))
abbrev E_law_numbers_1 (limit : Int) : (Int × (List Int)) → OEnv := fun s_ => match s_ with | ⟨cell, found⟩ => [some (oF cell), none, some (oF limit), some ((oL oF) found), none, none]
def t_law_numbers_2 (cell : Int) (limit : Int) (k : Int) (found : (List Int)) : TR (List Int) (List Int) (List Int) := ((b2 tmodI (b1 tint (b2 taddI (b2 taddI (b2 tmulI (R.ok cell) (R.ok (48271 : Int))) (b2 tmulI (R.ok k) (R.ok (69621 : Int)))) (R.ok (7 : Int)))) (R.ok (2147483647 : Int))).tr fun mixed => ((b2 tmodI (b1 tint (b2 taddI (b2 taddI (b2 taddI (b2 tmulI (R.ok mixed) (R.ok mixed)) (b2 tmulI (R.ok mixed) (R.ok (40692 : Int)))) (b2 tmulI (R.ok k) (R.ok (16807 : Int)))) (R.ok (11 : Int)))) (R.ok (2147483399 : Int))).tr fun mixed => ((b2 tmodI (b1 tint (b2 tfdivI (R.ok mixed) (R.ok (32 : Int)))) (R.ok limit)).tr fun a_ => (tapp found a_).tr fun found => (TR.nx found))))
abbrev E_law_numbers_2 (cell : Int) (limit : Int) : (List Int) → OEnv := fun s_ => match s_ with | found => [some (oF cell), none, some (oF limit), some ((oL oF) found), none, none]
def t_law_numbers (cell : Int) (count : Int) (limit : Int) : R (List Int) := TR.fn (l := Empty) (σ := Unit) ((R.ok ([] : List Int)).tr fun found => (tite (b2 tgeI (R.ok cell) (b2 tpowI (R.ok (10 : Int)) (R.ok (18 : Int)))) ((b1 trange1 (R.ok count)).tr fun xs_ => (forT (fun k ⟨cell, found⟩ => t_law_numbers_1 limit k cell found) xs_ (cell, found)).bind fun ⟨cell, found⟩ => ((R.ok found).tr fun r_ => TR.rt r_)) ((b1 trange1 (R.ok count)).tr fun xs_ => (forT (fun k found => t_law_numbers_2 cell limit k found) xs_ found).bind fun found => ((R.ok found).tr fun r_ => TR.rt r_)))) (fun _ => .stuck)
def t_law_same_1 (self : PyData → PyData → R Bool) (told : PyData) (due : PyData) (k : Int) : TR Bool Unit Unit := (tite (b1 tnotB (b1 tid (b2 self (b2 vidx (R.ok told) (b1 cUp (R.ok k))) (b2 vidx (R.ok due) (b1 cUp (R.ok k)))))) ((R.ok false).tr fun r_ => TR.rt r_) (TR.nx ()))
abbrev E_law_same_1 (told : PyData) (due : PyData) : Unit → OEnv := fun s_ => match s_ with | _ => [some (oF told), some (oF due), none]
def t_law_same : Nat → PyData → PyData → R Bool
  | 0 => fun _ _ => .stuck
  | n_ + 1 => fun told due => (fun self => TR.fn (l := Empty) (σ := Unit) (TR.bind (σ := Unit) (tite (b1 tid (b1 (dB1 (visi "list")) (R.ok due))) (tite (torB (b1 tnotB (b1 tid (b1 (dB1 (visi "list")) (R.ok told)))) (b2 tne (b1 cInt (b1 (fun d => vlen [d]) (R.ok told))) (b1 cInt (b1 (fun d => vlen [d]) (R.ok due))))) ((R.ok false).tr fun r_ => TR.rt r_) (TR.nx ())) (tite (b1 tid (b1 (dB1 (visi "tuple")) (R.ok due))) (tite (torB (b1 tnotB (b1 tid (b1 (dB1 (visi "tuple")) (R.ok told)))) (b2 tne (b1 cInt (b1 (fun d => vlen [d]) (R.ok told))) (b1 cInt (b1 (fun d => vlen [d]) (R.ok due))))) ((R.ok false).tr fun r_ => TR.rt r_) (TR.nx ())) (tite (b1 tisnoneD (R.ok due)) ((b1 tisnoneD (R.ok told)).tr fun r_ => TR.rt r_) (tite (b1 tid (b1 (dB1 (visi "bool")) (R.ok due))) ((tandB (b1 (dB1 (visi "bool")) (R.ok told)) (b2 (dB veq) (R.ok told) (R.ok due))).tr fun r_ => TR.rt r_) (tite (b1 tid (b1 (dB1 (visi "int")) (R.ok due))) ((tandB (b1 (dB1 (visi "int")) (R.ok told)) (tandB (b1 tnotB (b1 (dB1 (visi "bool")) (R.ok told))) (b2 (dB veq) (R.ok told) (R.ok due)))).tr fun r_ => TR.rt r_) ((tandB (b1 (dB1 (visi "str")) (R.ok told)) (b2 (dB veq) (R.ok told) (R.ok due))).tr fun r_ => TR.rt r_)))))) fun _ => ((b1 trange1 (b1 cInt (b1 (fun d => vlen [d]) (R.ok due)))).tr fun xs_ => (forT (fun k _ => t_law_same_1 self told due k) xs_ ()).bind fun _ => ((R.ok true).tr fun r_ => TR.rt r_))) (fun _ => .stuck)) (t_law_same n_)
def t_law_world_1 (count : Int) (kind : Int) (scale : Int) (picks : (List Int)) (hidden : (List Int)) (k : Int) (demands : (List (T3 Int Int Int))) : TR (Int × (List (T3 Int Int Int))) (List (T3 Int Int Int)) (List (T3 Int Int Int)) := ((b2 tmodI (b2 tidx (R.ok picks) (b2 tmulI (R.ok (3 : Int)) (R.ok k))) (R.ok count)).tr fun i => ((b2 tmodI (b2 tidx (R.ok picks) (b2 taddI (b2 tmulI (R.ok (3 : Int)) (R.ok k)) (R.ok (1 : Int)))) (R.ok count)).tr fun j => ((b2 tidx (R.ok picks) (b2 taddI (b2 tmulI (R.ok (3 : Int)) (R.ok k)) (R.ok (2 : Int)))).tr fun last => ((b2 tmulI (b2 tsubI (b2 tmodI (R.ok last) (R.ok (19 : Int))) (R.ok (9 : Int))) (R.ok scale)).tr fun wait => (TR.bind (σ := Int) (tite (b2 tin (R.ok kind) (tcons (R.ok (1 : Int)) (tcons (R.ok (2 : Int)) (tcons (R.ok (3 : Int)) (R.ok ([] : List Int)))))) ((b2 tsubI (b2 tmulI (b2 tsubI (b2 tidx (R.ok hidden) (R.ok j)) (b2 tidx (R.ok hidden) (R.ok i))) (R.ok scale)) (b2 tmodI (R.ok last) (R.ok (4 : Int)))).tr fun wait => (TR.nx wait)) (TR.nx wait)) fun wait => (TR.bind (σ := Int) (tite (tandB (b2 teq (R.ok kind) (R.ok (2 : Int))) (b2 teq (b2 tmodI (b2 tfdivI (R.ok last) (R.ok (4 : Int))) (R.ok (9 : Int))) (R.ok (0 : Int)))) ((b2 taddI (R.ok wait) (b2 tmodI (b2 tfdivI (R.ok last) (R.ok (36 : Int))) (R.ok (5 : Int)))).tr fun wait => (TR.nx wait)) (TR.nx wait)) fun wait => (TR.bind (σ := Int) (tite (b2 teq (R.ok kind) (R.ok (4 : Int))) ((b2 tsubI (R.ok wait) (b2 tmulI (R.ok (9 : Int)) (R.ok scale))).tr fun wait => (TR.nx wait)) (TR.nx wait)) fun wait => ((b3 mk3 (R.ok i) (R.ok j) (R.ok wait)).tr fun a_ => (tapp demands a_).tr fun demands => (TR.nx demands)))))))))
abbrev E_law_world_1 (draws : (List Int)) (count : Int) (kind : Int) (scale : Int) (picks : (List Int)) (hidden : (List Int)) : (List (T3 Int Int Int)) → OEnv := fun s_ => match s_ with | demands => [none, none, none, some (oF draws), some (oF count), none, some (oF kind), some (oF scale), some (oF picks), some (oF hidden), some ((oL oF) demands), none, none, none, none, none, none, none, none, none]
def t_law_world (script : (List Int)) (at_ : Int) (most : Int) : R (Int × (List (T3 Int Int Int))) := TR.fn (l := Empty) (σ := Unit) ((b3 t_law_numbers (b2 t_law_cell (R.ok script) (R.ok at_)) (R.ok (6 : Int)) (R.ok (5040 : Int))).tr fun draws => ((b2 taddI (R.ok (1 : Int)) (b2 tmodI (b2 tidx (R.ok draws) (R.ok (0 : Int))) (R.ok most))).tr fun count => ((b2 tmodI (b2 tidx (R.ok draws) (R.ok (1 : Int))) (b2 taddI (b2 tmulI (R.ok (2 : Int)) (R.ok most)) (R.ok (1 : Int)))).tr fun many => ((b2 tmodI (b2 tidx (R.ok draws) (R.ok (2 : Int))) (R.ok (6 : Int))).tr fun kind => ((b2 tidx (tcons (R.ok (1 : Int)) (tcons (R.ok (1 : Int)) (tcons (R.ok (1 : Int)) (tcons (R.ok (1000 : Int)) (tcons (b2 tpowI (R.ok (10 : Int)) (R.ok (25 : Int))) (R.ok ([] : List Int))))))) (b2 tmodI (b2 tidx (R.ok draws) (R.ok (3 : Int))) (R.ok (5 : Int)))).tr fun scale => ((b3 t_law_numbers (b2 t_law_cell (R.ok script) (b2 taddI (R.ok at_) (R.ok (1 : Int)))) (b2 tmulI (R.ok (3 : Int)) (R.ok many)) (R.ok (5040 : Int))).tr fun picks => ((b3 t_law_numbers (b2 t_law_cell (R.ok script) (b2 taddI (R.ok at_) (R.ok (2 : Int)))) (R.ok count) (R.ok (60 : Int))).tr fun hidden => ((R.ok ([] : List (T3 Int Int Int))).tr fun demands => ((b1 trange1 (R.ok many)).tr fun xs_ => (forT (fun k demands => t_law_world_1 count kind scale picks hidden k demands) xs_ demands).bind fun demands => (TR.bind (σ := (List (T3 Int Int Int))) (tite (b2 tgeI (R.ok kind) (R.ok (3 : Int))) (((b1 trange1 (b2 tsubI (R.ok count) (R.ok (1 : Int)))).bind fun xs_ => (tmap (fun k => (b3 mk3 (R.ok k) (b2 taddI (R.ok k) (R.ok (1 : Int))) (b2 tmulI (b2 taddI (R.ok (1 : Int)) (b2 tidx (R.ok hidden) (R.ok k))) (R.ok scale)))) xs_).calm).tr fun chain => (TR.bind (σ := (List (T3 Int Int Int))) (tite (b2 teq (R.ok kind) (R.ok (3 : Int))) (((b1 trange1 (b2 tsubI (R.ok count) (R.ok (1 : Int)))).bind fun xs_ => (tmap (fun k => (b3 mk3 (R.ok k) (b2 taddI (R.ok k) (R.ok (1 : Int))) (b2 tmulI (b2 tsubI (b2 tidx (R.ok hidden) (b2 taddI (R.ok k) (R.ok (1 : Int)))) (b2 tidx (R.ok hidden) (R.ok k))) (R.ok scale)))) xs_).calm).tr fun chain => (TR.nx chain)) (TR.nx chain)) fun chain => ((b1 tsum ((R.ok chain).bind fun xs_ => (tmap (fun link => (b1 (pj T3.c) (R.ok link))) xs_).calm)).tr fun total => ((R.ok chain.reverse).tr fun chain => ((b3 mk3 (b2 tsubI (R.ok count) (R.ok (1 : Int))) (R.ok (0 : Int)) (b2 tsubI (b2 tsubI (b2 tmodI (b2 tidx (R.ok draws) (R.ok (4 : Int))) (R.ok (3 : Int))) (R.ok (1 : Int))) (R.ok total))).tr fun a_ => (tapp chain a_).tr fun chain => ((b2 tmodI (b2 tidx (R.ok draws) (R.ok (5 : Int))) (b2 taddI (b1 tlen (R.ok demands)) (R.ok (1 : Int)))).tr fun spot => ((b2 taddL (b2 taddL (b3 tcut (R.ok demands) (b1 tpart (R.ok (0 : Int))) (b1 tpart (R.ok spot))) (R.ok chain)) (b3 tcut (R.ok demands) (b1 tpart (R.ok spot)) (R.ok none))).tr fun demands => (TR.nx demands)))))))) (TR.nx demands)) fun demands => ((b2 mk2 (R.ok count) (R.ok demands)).tr fun r_ => TR.rt r_))))))))))) (fun _ => .stuck)
def t_law_rounds_3 (demands : (List (T3 Int Int Int))) (k : Int) (times : (List Int)) (causes : (List Int)) (last : (Option Int)) : TR (Str × (List Int)) ((List Int) × (List Int) × (Option Int)) ((List Int) × (List Int) × (Option Int)) := ((b2 tidx (R.ok demands) (R.ok k)).tr fun ⟨i, j, wait⟩ => (tite (b2 tgtI (b2 taddI (b2 tidx (R.ok times) (R.ok i)) (R.ok wait)) (b2 tidx (R.ok times) (R.ok j))) ((b2 taddI (b2 tidx (R.ok times) (R.ok i)) (R.ok wait)).tr fun a_ => (R.ok j).tr fun j_ => (tset times j_ a_).tr fun times => ((R.ok k).tr fun a_ => (R.ok j).tr fun j_ => (tset causes j_ a_).tr fun causes => ((R.ok j).tr fun last => (TR.nx (times, causes, (some last)))))) (TR.nx (times, causes, last))))
abbrev E_law_rounds_3 (count : Int) (demands : (List (T3 Int Int Int))) : ((List Int) × (List Int) × (Option Int)) → OEnv := fun s_ => match s_ with | ⟨times, causes, last⟩ => [some (oF count), some (oF demands), some ((oL oF) times), some ((oL oF) causes), some (oF last), none, none, none, none, none, none, none]
def t_law_rounds_4 (demands : (List (T3 Int Int Int))) (lap : Int) (times : (List Int)) (causes : (List Int)) (last : (Option Int)) : TR (Str × (List Int)) ((List Int) × (List Int) × (Option Int)) ((List Int) × (List Int) × (Option Int)) := ((R.ok ()).tr fun last => ((b1 trange1 (b1 tlen (R.ok demands))).tr fun xs_ => (forT (fun k ⟨times, causes, last⟩ => t_law_rounds_3 demands k times causes last) xs_ (times, causes, none)).bind fun ⟨times, causes, last⟩ => (tite (b1 tisnoneO (R.ok last)) ((b2 mk2 (R.ok ("times" : Str)) (R.ok times)).tr fun r_ => TR.rt r_) (TR.nx (times, causes, last)))))
abbrev E_law_rounds_4 (count : Int) (demands : (List (T3 Int Int Int))) : ((List Int) × (List Int) × (Option Int)) → OEnv := fun s_ => match s_ with | ⟨times, causes, last⟩ => [some (oF count), some (oF demands), some ((oL oF) times), some ((oL oF) causes), some (oF last), none, none, none, none, none, none, none]
def t_law_rounds_5 (demands : (List (T3 Int Int Int))) (causes : (List Int)) (k : Int) (last : (Option Int)) : TR (Str × (List Int)) (Option Int) (Option Int) := ((b1 (pj T3.a) (b2 tidx (R.ok demands) (b2 tidx (R.ok causes) (b1 cSome (R.ok last))))).tr fun last => (TR.nx (some last)))
abbrev E_law_rounds_5 (count : Int) (demands : (List (T3 Int Int Int))) (causes : (List Int)) : (Option Int) → OEnv := fun s_ => match s_ with | last => [some (oF count), some (oF demands), none, some (oF causes), some (oF last), none, none, none, none, none, none, none]
def t_law_rounds_6 (demands : (List (T3 Int Int Int))) (causes : (List Int)) (last : (Option Int)) (k : Int) (ring : (List Int)) (event : (Option Int)) : TR (Str × (List Int)) ((List Int) × (Option Int)) ((List Int) × (Option Int)) := ((b2 taddL (tcons (b2 tidx (R.ok causes) (b1 cSome (R.ok event))) (R.ok ([] : List Int))) (R.ok ring)).tr fun ring => ((b1 (pj T3.a) (b2 tidx (R.ok demands) (b2 tidx (R.ok causes) (b1 cSome (R.ok event))))).tr fun event => (tite (b2 teq (b1 cJust (R.ok event)) (R.ok last)) ((b2 mk2 (R.ok ("ring" : Str)) (R.ok ring)).tr fun r_ => TR.rt r_) (TR.nx (ring, (some event))))))
abbrev E_law_rounds_6 (demands : (List (T3 Int Int Int))) (causes : (List Int)) (last : (Option Int)) : ((List Int) × (Option Int)) → OEnv := fun s_ => match s_ with | ⟨ring, event⟩ => [none, some (oF demands), none, some (oF causes), some (oF last), none, none, none, none, none, some (oF ring), some (oF event)]
def t_law_rounds (count : Int) (demands : (List (T3 Int Int Int))) : R (Str × (List Int)) := TR.fn (l := Empty) (σ := Unit) (((b1 trange1 (R.ok count)).bind fun xs_ => (tmap (fun k => (R.ok (0 : Int))) xs_).calm).tr fun times => (((b1 trange1 (R.ok count)).bind fun xs_ => (tmap (fun k => (R.ok (0 : Int))) xs_).calm).tr fun causes => ((R.ok ()).tr fun last => ((b1 trange1 (R.ok count)).tr fun xs_ => (forT (fun lap ⟨times, causes, last⟩ => t_law_rounds_4 demands lap times causes last) xs_ (times, causes, none)).bind fun ⟨times, causes, last⟩ => ((b1 trange1 (R.ok count)).tr fun xs_ => (forT (fun k last => t_law_rounds_5 demands causes k last) xs_ last).bind fun last => ((R.ok ([] : List Int)).tr fun ring => ((R.ok last).tr fun event => ((b1 trange1 (R.ok count)).tr fun xs_ => (forT (fun k ⟨ring, event⟩ => t_law_rounds_6 demands causes last k ring event) xs_ (ring, event)).bind fun ⟨ring, event⟩ => ((b1 (cP2 R.ok cNil) (b2 mk2 (R.ok ("ring" : Str)) (R.ok ([] : List Empty)))).tr fun r_ => TR.rt r_))))))))) (fun _ => .stuck)
def t_law_planted (count : Int) (demands : (List (T3 Int Int Int))) (draws : (List Int)) : R (List (T3 Int Int Int)) := TR.fn (l := Empty) (σ := Unit) ((b2 taddI (R.ok (1 : Int)) (b2 tmodI (b2 tidx (R.ok draws) (R.ok (0 : Int))) (R.ok (4 : Int)))).tr fun size => (((b1 trange1 (R.ok size)).bind fun xs_ => (tmap (fun k => (b2 tmodI (b2 tidx (R.ok draws) (b2 taddI (R.ok (1 : Int)) (R.ok k))) (R.ok count))) xs_).calm).tr fun events => (((b1 trange1 (R.ok size)).bind fun xs_ => (tmap (fun k => (b3 mk3 (b2 tidx (R.ok events) (R.ok k)) (b2 tidx (R.ok events) (b2 tmodI (b1 tint (b2 taddI (R.ok k) (R.ok (1 : Int)))) (R.ok size))) (b2 tsubI (b2 tmodI (b2 tidx (R.ok draws) (b2 taddI (R.ok (5 : Int)) (R.ok k))) (R.ok (9 : Int))) (R.ok (4 : Int))))) xs_).calm).tr fun links => ((b1 tsum ((R.ok links).bind fun xs_ => (tmap (fun link => (b1 (pj T3.c) (R.ok link))) xs_).calm)).tr fun total => ((b2 tidx (R.ok links) (R.ok (0 : Int))).tr fun ⟨i, j, wait⟩ => ((b3 mk3 (R.ok i) (R.ok j) (b2 taddI (b2 tsubI (R.ok wait) (R.ok total)) (b2 tidx (tcons (R.ok (1 : Int)) (tcons (R.ok (1 : Int)) (tcons (b2 taddI (R.ok (2 : Int)) (b2 tidx (R.ok draws) (R.ok (9 : Int)))) (tcons (b2 tpowI (R.ok (10 : Int)) (R.ok (26 : Int))) (R.ok ([] : List Int)))))) (b2 tmodI (b2 tidx (R.ok draws) (R.ok (10 : Int))) (R.ok (4 : Int)))))).tr fun a_ => (R.ok (0 : Int)).tr fun j_ => (tset links j_ a_).tr fun links => ((b2 tmodI (b2 tidx (R.ok draws) (R.ok (11 : Int))) (b2 taddI (b1 tlen (R.ok demands)) (R.ok (1 : Int)))).tr fun spot => ((b2 tidx (tcons (b2 taddL (R.ok links) (R.ok demands)) (tcons (b2 taddL (R.ok demands) (R.ok links)) (tcons (b2 taddL (b2 taddL (b3 tcut (R.ok demands) (b1 tpart (R.ok (0 : Int))) (b1 tpart (R.ok spot))) (R.ok links)) (b3 tcut (R.ok demands) (b1 tpart (R.ok spot)) (R.ok none))) (R.ok ([] : List (List (T3 Int Int Int))))))) (b2 tmodI (b2 tidx (R.ok draws) (R.ok (12 : Int))) (R.ok (3 : Int)))).tr fun r_ => TR.rt r_)))))))) (fun _ => .stuck)
def t_law_1 (count : Int) (some_ : (List (T3 Int Int Int))) (rings : Int) : TR Bool Int Int := ((R.ok some_).tr fun kept => ((b2 t_law_rounds (R.ok count) (R.ok kept)).tr fun due => (((R.ok count).bind fun a0_ => (R.ok some_).bind fun a1_ => t_timetable a0_ a1_).tr fun told => (tite (torB (b1 tnotB (b1 tid (b2 (t_law_same 10) (b1 cUp (R.ok told)) (b1 cUp (R.ok due))))) (b2 tne (R.ok some_) (R.ok kept))) ((R.ok false).tr fun r_ => TR.rt r_) ((R.ok ()).tr fun n_ => tfd ((fun (_ : Unit) (x_ : (Str × (List (Option Int)))) => some x_.2) n_ told) fun ys_ => tfd (tpopL ys_) fun zs_ => (fun (told : (Str × (List (Option Int)))) => ((R.ok ()).tr fun n_ => tfd ((fun (_ : Unit) (x_ : (Str × (List (Option Int)))) => some x_.2) n_ told) fun ys_ => (b1 cJust (b1 tnegI (R.ok (1 : Int)))).tr fun a_ => (tapp ys_ a_).tr fun zs_ => (fun (told : (Str × (List (Option Int)))) => (tite (b1 tnotB (b1 tid (b2 (t_law_same 10) (b1 cUp (b2 t_timetable (R.ok count) (R.ok some_))) (b1 cUp (R.ok due))))) ((R.ok false).tr fun r_ => TR.rt r_) ((b2 taddI (R.ok rings) (b1 tintB (b2 teq (b1 (pj Prod.fst) (R.ok due)) (R.ok ("ring" : Str))))).tr fun rings => (TR.nx rings)))) ((fun (_ : Unit) (x_ : (Str × (List (Option Int)))) (zs : (List (Option Int))) => (x_.1, zs)) n_ told zs_))) ((fun (_ : Unit) (x_ : (Str × (List (Option Int)))) (zs : (List (Option Int))) => (x_.1, zs)) n_ told zs_))))))
abbrev E_law_1 (script : (List Int)) (count : Int) : Int → OEnv := fun s_ => match s_ with | rings => [some (oF script), some (oF rings), none, some (oF count), none, none, none, none, none, none]
def t_law_2 (script : (List Int)) (at_ : Int) (rings : Int) : TR Bool Int Int := ((b3 t_law_world (R.ok script) (b2 tmulI (R.ok (3 : Int)) (R.ok at_)) (b2 tidx (tcons (R.ok (8 : Int)) (tcons (R.ok (8 : Int)) (tcons (R.ok (16 : Int)) (R.ok ([] : List Int))))) (R.ok at_))).tr fun ⟨count, demands⟩ => ((b3 t_law_numbers (b2 t_law_cell (R.ok script) (b2 taddI (R.ok (9 : Int)) (R.ok at_))) (R.ok (13 : Int)) (R.ok (5040 : Int))).tr fun draws => ((tcons (R.ok demands) (tcons (b3 t_law_planted (R.ok count) (R.ok demands) (R.ok draws)) (tcons (R.ok demands) (R.ok ([] : List (List (T3 Int Int Int))))))).tr fun xs_ => (forT (fun some_ rings => t_law_1 count some_ rings) xs_ rings).bind fun rings => (TR.nx rings))))
abbrev E_law_2 (script : (List Int)) : Int → OEnv := fun s_ => match s_ with | rings => [some (oF script), some (oF rings), none, none, none, none, none, none, none, none]
def t_law (script : (List Int)) : R Bool := TR.fn (l := Empty) (σ := Unit) ((R.ok (0 : Int)).tr fun rings => ((b1 trange1 (R.ok (3 : Int))).tr fun xs_ => (forT (fun at_ rings => t_law_2 script at_ rings) xs_ rings).bind fun rings => ((b2 tgeI (R.ok rings) (R.ok (3 : Int))).tr fun r_ => TR.rt r_))) (fun _ => .stuck)
end
theorem ic_Clock_causes : inCt csT "Clock" "causes" = true := by decide +kernel
theorem fx_Clock_2_causes : fixS "causes" cn_Clock_2 = none := by decide +kernel
theorem ic_Clock_times : inCt csT "Clock" "times" = true := by decide +kernel
theorem fx_Clock_1_times : fixS "times" cn_Clock_1 = none := by decide +kernel
theorem ic_Clock_demands : inCt csT "Clock" "demands" = true := by decide +kernel
theorem fx_Clock_0_demands : fixS "demands" cn_Clock_0 = none := by decide +kernel
theorem io_Clock_3_raise_round : (decide (("Clock" : Str) = "Clock") && (fixS "raise_round" cn_Clock_3).isNone) = true := by decide +kernel
theorem fx_Clock_3_event_on_ring : fixS "event_on_ring" cn_Clock_3 = none := by decide +kernel
theorem fx_Clock_3_ring_through : fixS "ring_through" cn_Clock_3 = none := by decide +kernel
theorem fx_Clock_3_causes : fixS "causes" cn_Clock_3 = some 2 := by decide +kernel
theorem fx_Clock_3_before : fixS "before" cn_Clock_3 = none := by decide +kernel
theorem fx_Clock_3_times : fixS "times" cn_Clock_3 = some 1 := by decide +kernel
theorem fx_Clock_3_demands : fixS "demands" cn_Clock_3 = some 0 := by decide +kernel
theorem io_Clock_3_raise_for : (decide (("Clock" : Str) = "Clock") && (fixS "raise_for" cn_Clock_3).isNone) = true := by decide +kernel
theorem tyM_Clock_init (a0_ : Addr) (self_ : (In "Clock" cn_Clock_0 Unit)) (count : Int) (demands : (List (T3 Int Int Int))) : TMR (fun p_ : (Unit × (In "Clock" cn_Clock_3 (T3 (List (T3 Int Int Int)) (List Int) (List (Option Int))))) => (.fz (Enc.e p_.1), (fun s_ : (In "Clock" cn_Clock_3 (T3 (List (T3 Int Int Int)) (List Int) (List (Option Int)))) => [oP a0_ (oC "Clock" cn_Clock_3 (oc3 oF (oL oF) (oL oF))) s_]) p_.2)) (mM_Clock_init [some ((oP a0_ (oC "Clock" cn_Clock_0 oc0)) self_), some (oF count), some (oF demands)]) (t_Clock_init self_ count demands) := by
  unfold mM_Clock_init g_Clock_init t_Clock_init
  exact fn_TM (lo := (fun s_ : (In "Clock" cn_Clock_3 (T3 (List (T3 Int Int Int)) (List Int) (List (Option Int)))) => [oP a0_ (oC "Clock" cn_Clock_3 (oc3 oF (oL oF) (oL oF))) s_])) (oi := [(oP a0_ (oC "Clock" cn_Clock_0 oc0)) self_]) (as := [a0_]) (ss := fun s_ => s_) (L := fun _ _ => True) rfl rfl (fun _ => rfl) (q_at (ρ' := [some ((oP a0_ (oC "Clock" cn_Clock_0 oc0)) self_), some (oF count), some (oF demands)]) rfl (q_fldNm (ρ := [some ((oP a0_ (oC "Clock" cn_Clock_0 oc0)) self_), some (oF count), some (oF demands)]) (oy := oF) (ll := fun (self_ : (In "Clock" cn_Clock_1 (T1 (List (T3 Int Int Int))))) => ((b2 trep (tcons (R.ok (0 : Int)) (R.ok ([] : List Int))) (R.ok count)).tr fun a_ => (fun (self_ : (In "Clock" cn_Clock_2 ((List (T3 Int Int Int)) × (List Int)))) => ((b2 trep (tcons (b1 cNone (R.ok ())) (R.ok ([] : List (Option Int)))) (R.ok count)).tr fun a_ => (fun (self_ : (In "Clock" cn_Clock_3 (T3 (List (T3 Int Int Int)) (List Int) (List (Option Int))))) => (TR.nx self_)) (⟨⟨self_.v.1, self_.v.2, a_⟩⟩ : (In "Clock" cn_Clock_3 (T3 (List (T3 Int Int Int)) (List Int) (List (Option Int))))))) (⟨⟨self_.v.a, a_⟩⟩ : (In "Clock" cn_Clock_2 ((List (T3 Int Int Int)) × (List Int)))))) (ix := 0) (ox' := (oP a0_ (oC "Clock" cn_Clock_1 (oc1 oF)))) (mk := fun a_ => (⟨⟨a_⟩⟩ : (In "Clock" cn_Clock_1 (T1 (List (T3 Int Int Int)))))) (.inr ⟨_, rfl⟩) ic_Clock_demands fx_Clock_0_demands (by decide) (p_x (t_exF (t_list (t_isq (t_var 2 demands))))) trivial (fun _ => rfl) fun self_ => (q_at (ρ' := [some ((oP a0_ (oC "Clock" cn_Clock_1 (oc1 oF))) self_), some (oF count), some (oF demands)]) rfl (q_fldNm (ρ := [some ((oP a0_ (oC "Clock" cn_Clock_1 (oc1 oF))) self_), some (oF count), some (oF demands)]) (oy := (oL oF)) (ll := fun (self_ : (In "Clock" cn_Clock_2 ((List (T3 Int Int Int)) × (List Int)))) => ((b2 trep (tcons (b1 cNone (R.ok ())) (R.ok ([] : List (Option Int)))) (R.ok count)).tr fun a_ => (fun (self_ : (In "Clock" cn_Clock_3 (T3 (List (T3 Int Int Int)) (List Int) (List (Option Int))))) => (TR.nx self_)) (⟨⟨self_.v.1, self_.v.2, a_⟩⟩ : (In "Clock" cn_Clock_3 (T3 (List (T3 Int Int Int)) (List Int) (List (Option Int))))))) (ix := 0) (ox' := (oP a0_ (oC "Clock" cn_Clock_2 (oc2 oF (oL oF))))) (mk := fun a_ => (⟨⟨self_.v.a, a_⟩⟩ : (In "Clock" cn_Clock_2 ((List (T3 Int Int Int)) × (List Int))))) (.inr ⟨_, rfl⟩) ic_Clock_times fx_Clock_1_times (by decide) (p_frF (t_frep (t_cons (t_c (0 : Int)) (t_nil (α := Int))) (t_var 1 count))) trivial (fun _ => rfl) fun self_ => (q_at (ρ' := [some ((oP a0_ (oC "Clock" cn_Clock_2 (oc2 oF (oL oF)))) self_), some (oF count), some (oF demands)]) rfl (q_end (q_fldNm (ρ := [some ((oP a0_ (oC "Clock" cn_Clock_2 (oc2 oF (oL oF)))) self_), some (oF count), some (oF demands)]) (oy := (oL oF)) (ll := fun (self_ : (In "Clock" cn_Clock_3 (T3 (List (T3 Int Int Int)) (List Int) (List (Option Int))))) => (TR.nx self_)) (ix := 0) (ox' := (oP a0_ (oC "Clock" cn_Clock_3 (oc3 oF (oL oF) (oL oF))))) (mk := fun a_ => (⟨⟨self_.v.1, self_.v.2, a_⟩⟩ : (In "Clock" cn_Clock_3 (T3 (List (T3 Int Int Int)) (List Int) (List (Option Int)))))) (.inr ⟨_, rfl⟩) ic_Clock_causes fx_Clock_2_causes (by decide) (p_frF (t_frep (t_cons (t_co Co.none (t_c ())) (t_nil (α := (Option Int)))) (t_var 1 count))) trivial (fun _ => rfl) fun self_ => (q_at (ρ' := [some ((oP a0_ (oC "Clock" cn_Clock_3 (oc3 oF (oL oF) (oL oF)))) self_), some (oF count), some (oF demands)]) rfl (q_nx (self_ : (In "Clock" cn_Clock_3 (T3 (List (T3 Int Int Int)) (List Int) (List (Option Int))))) rfl))))))))) (fun _ => rfl)
theorem tyM_Clock_raise_for (a0_ : Addr) (self_ : (In "Clock" cn_Clock_3 (T3 (List (T3 Int Int Int)) (List Int) (List (Option Int))))) (index : Int) : TMR (fun p_ : (Bool × (In "Clock" cn_Clock_3 (T3 (List (T3 Int Int Int)) (List Int) (List (Option Int))))) => (.fz (Enc.e p_.1), (fun s_ : (In "Clock" cn_Clock_3 (T3 (List (T3 Int Int Int)) (List Int) (List (Option Int)))) => [oP a0_ (oC "Clock" cn_Clock_3 (oc3 oF (oL oF) (oL oF))) s_]) p_.2)) (mM_Clock_raise_for [some ((oP a0_ (oC "Clock" cn_Clock_3 (oc3 oF (oL oF) (oL oF)))) self_), some (oF index)]) (t_Clock_raise_for self_ index) := by
  unfold mM_Clock_raise_for g_Clock_raise_for t_Clock_raise_for
  exact fn_TM (lo := (fun s_ : (In "Clock" cn_Clock_3 (T3 (List (T3 Int Int Int)) (List Int) (List (Option Int)))) => [oP a0_ (oC "Clock" cn_Clock_3 (oc3 oF (oL oF) (oL oF))) s_])) (oi := [(oP a0_ (oC "Clock" cn_Clock_3 (oc3 oF (oL oF) (oL oF)))) self_]) (as := [a0_]) (ss := fun s_ => s_) (L := fun _ _ => True) rfl rfl (fun _ => rfl) (q_at (ρ' := [some ((oP a0_ (oC "Clock" cn_Clock_3 (oc3 oF (oL oF) (oL oF)))) self_), some (oF index), none, none, none]) rfl (q_tup0 (fun ⟨i, j, wait⟩ => [(2, Enc.e i), (3, Enc.e j), (4, Enc.e wait)]) (t_x2v o_idx (t_exP (l := (oc3 oF (oL oF) (oL oF))) (p := fun v_ : (T3 (List (T3 Int Int Int)) (List Int) (List (Option Int))) => v_.a) (ix := 0) self_ (.inr ⟨_, rfl⟩) ic_Clock_demands fx_Clock_3_demands) (t_exF (t_var 1 index))) trivial (fun ⟨i, j, wait⟩ => rfl) fun ⟨i, j, wait⟩ => (q_at (ρ' := [some ((oP a0_ (oC "Clock" cn_Clock_3 (oc3 oF (oL oF) (oL oF)))) self_), some (oF index), some (oF i), some (oF j), some (oF wait)]) rfl (q_if (t_tst (t_2 o_geI (t_2 o_idx (t_1 (o_fld (p := fun v_ : (T3 (List (T3 Int Int Int)) (List Int) (List (Option Int))) => v_.b) ic_Clock_times fx_Clock_3_times) (t_varO 0 (oP a0_ (oC "Clock" cn_Clock_3 (oc3 oF (oL oF) (oL oF)))) self_ (dP (dC3 dF (dL dF) (dL dF))))) (t_varO 3 oF j dF)) (t_2 o_addI (t_2 o_idx (t_1 (o_fld (p := fun v_ : (T3 (List (T3 Int Int Int)) (List Int) (List (Option Int))) => v_.b) ic_Clock_times fx_Clock_3_times) (t_varO 0 (oP a0_ (oC "Clock" cn_Clock_3 (oc3 oF (oL oF) (oL oF)))) self_ (dP (dC3 dF (dL dF) (dL dF))))) (t_varO 2 oF i dF)) (t_varO 4 oF wait dF)))) trivial (q_ret (f := fun r_ => ((r_, self_) : (Bool × (In "Clock" cn_Clock_3 (T3 (List (T3 Int Int Int)) (List Int) (List (Option Int))))))) (p_x (t_exF (t_c false))) trivial (fun _ => ⟨dF _, rfl⟩)) (q_nxs (q_setP (ll := fun (self_ : (In "Clock" cn_Clock_3 (T3 (List (T3 Int Int Int)) (List Int) (List (Option Int))))) => ((b1 cJust (R.ok index)).tr fun a_ => (R.ok ()).tr fun n_ => tfd ((fun (_ : Unit) (x_ : (In "Clock" cn_Clock_3 (T3 (List (T3 Int Int Int)) (List Int) (List (Option Int))))) => some x_.v.c) n_ self_) fun ys_ => (R.ok j).tr fun j_ => (tset ys_ j_ a_).tr fun zs_ => (fun (self_ : (In "Clock" cn_Clock_3 (T3 (List (T3 Int Int Int)) (List Int) (List (Option Int))))) => ((R.ok true).tr fun r_ => TR.rt (r_, self_))) ((fun (_ : Unit) (x_ : (In "Clock" cn_Clock_3 (T3 (List (T3 Int Int Int)) (List Int) (List (Option Int))))) (zs_ : (List (Option Int))) => (⟨⟨x_.v.a, x_.v.b, zs_⟩⟩ : (In "Clock" cn_Clock_3 (T3 (List (T3 Int Int Int)) (List Int) (List (Option Int)))))) n_ self_ zs_))) 0 (get := (fun (_ : Unit) (x_ : (In "Clock" cn_Clock_3 (T3 (List (T3 Int Int Int)) (List Int) (List (Option Int))))) => some x_.v.b)) (set := (fun (_ : Unit) (x_ : (In "Clock" cn_Clock_3 (T3 (List (T3 Int Int Int)) (List Int) (List (Option Int))))) (zs_ : (List Int)) => (⟨⟨x_.v.a, zs_, x_.v.c⟩⟩ : (In "Clock" cn_Clock_3 (T3 (List (T3 Int Int Int)) (List Int) (List (Option Int))))))) self_ (fun _ => (lq_P (lq_C 1 (fun v_ : (T3 (List (T3 Int Int Int)) (List Int) (List (Option Int))) => v_.b) (fun (v_ : (T3 (List (T3 Int Int Int)) (List Int) (List (Option Int)))) (zs_ : (List Int)) => (⟨v_.a, zs_, v_.c⟩ : (T3 (List (T3 Int Int Int)) (List Int) (List (Option Int)))))))) (p_x (t_exB (t_2 o_addI (t_2 o_idx (t_1 (o_fld (p := fun v_ : (T3 (List (T3 Int Int Int)) (List Int) (List (Option Int))) => v_.b) ic_Clock_times fx_Clock_3_times) (t_varO 0 (oP a0_ (oC "Clock" cn_Clock_3 (oc3 oF (oL oF) (oL oF)))) self_ (dP (dC3 dF (dL dF) (dL dF))))) (t_varO 2 oF i dF)) (t_varO 4 oF wait dF)))) (l_fldP 0 (.inr ⟨_, rfl⟩) ic_Clock_times fx_Clock_3_times) (t_exF (t_var 3 j)) trivial fun self_ => (q_at (ρ' := [some ((oP a0_ (oC "Clock" cn_Clock_3 (oc3 oF (oL oF) (oL oF)))) self_), some (oF index), some (oF i), some (oF j), some (oF wait)]) rfl (q_setP (ll := fun (self_ : (In "Clock" cn_Clock_3 (T3 (List (T3 Int Int Int)) (List Int) (List (Option Int))))) => ((R.ok true).tr fun r_ => TR.rt (r_, self_))) 0 (get := (fun (_ : Unit) (x_ : (In "Clock" cn_Clock_3 (T3 (List (T3 Int Int Int)) (List Int) (List (Option Int))))) => some x_.v.c)) (set := (fun (_ : Unit) (x_ : (In "Clock" cn_Clock_3 (T3 (List (T3 Int Int Int)) (List Int) (List (Option Int))))) (zs_ : (List (Option Int))) => (⟨⟨x_.v.a, x_.v.b, zs_⟩⟩ : (In "Clock" cn_Clock_3 (T3 (List (T3 Int Int Int)) (List Int) (List (Option Int))))))) self_ (fun _ => (lq_P (lq_C 2 (fun v_ : (T3 (List (T3 Int Int Int)) (List Int) (List (Option Int))) => v_.c) (fun (v_ : (T3 (List (T3 Int Int Int)) (List Int) (List (Option Int)))) (zs_ : (List (Option Int))) => (⟨v_.a, v_.b, zs_⟩ : (T3 (List (T3 Int Int Int)) (List Int) (List (Option Int)))))))) (p_x (t_exF (t_co Co.just (t_var 1 index)))) (l_fldP 0 (.inr ⟨_, rfl⟩) ic_Clock_causes fx_Clock_3_causes) (t_exF (t_var 3 j)) trivial fun self_ => (q_at (ρ' := [some ((oP a0_ (oC "Clock" cn_Clock_3 (oc3 oF (oL oF) (oL oF)))) self_), some (oF index), some (oF i), some (oF j), some (oF wait)]) rfl (q_end (q_ret (f := fun r_ => ((r_, self_) : (Bool × (In "Clock" cn_Clock_3 (T3 (List (T3 Int Int Int)) (List Int) (List (Option Int))))))) (p_x (t_exF (t_c true))) trivial (fun _ => ⟨dF _, rfl⟩)))))))))))) (fun _ => trivial)
theorem ty_Clock_raise_round_1 (a0_ : Addr) (index : Int) (demand : (T3 Int Int Int)) (self_ : (In "Clock" cn_Clock_3 (T3 (List (T3 Int Int Int)) (List Int) (List (Option Int))))) (last : (Option Int)) {Z : OEnv → Prop} : SQ (fun s ρ => kill [2, 3] ρ = E_Clock_raise_round_1 a0_ s) (fun s ρ => ρ = E_Clock_raise_round_1 a0_ s) (fun o ρ_ (b : ((Option Int) × (In "Clock" cn_Clock_3 (T3 (List (T3 Int Int Int)) (List Int) (List (Option Int)))))) => O.data o = Enc.e b.1 ∧ getsO ρ_ [0] = some ((fun s_ : (In "Clock" cn_Clock_3 (T3 (List (T3 Int Int Int)) (List Int) (List (Option Int)))) => [oP a0_ (oC "Clock" cn_Clock_3 (oc3 oF (oL oF) (oL oF))) s_]) b.2)) (fun _ => True) (b_Clock_raise_round_1 [some ((oP a0_ (oC "Clock" cn_Clock_3 (oc3 oF (oL oF) (oL oF)))) self_), some (oF last), some (oF index), some (oF demand)]) (t_Clock_raise_round_1 index demand self_ last) := by
  unfold b_Clock_raise_round_1 t_Clock_raise_round_1
  exact (q_end (q_ifM2 (t_mmeth (x := (oP a0_ (oC "Clock" cn_Clock_3 (oc3 oF (oL oF) (oL oF)))) self_) 0 rfl io_Clock_3_raise_for (ag_d (t_exF (t_var 2 index)) ag_nil) fun p_ => (mcall_1 (oy := oF) (ox := (oC "Clock" cn_Clock_3 (oc3 oF (oL oF) (oL oF)))) (sl := (oP a0_ (oC "Clock" cn_Clock_3 (oc3 oF (oL oF) (oL oF))))) 0 self_ rfl rfl (.inr ⟨_, rfl⟩) (fun _ => ⟨rfl, rfl⟩) (fun b_ => tyM_Clock_raise_for b_ self_ p_.1))) (fun _ => trivial) fun ⟨w1_, self_⟩ => (q_at (ρ' := [some ((oP a0_ (oC "Clock" cn_Clock_3 (oc3 oF (oL oF) (oL oF)))) self_), some (oF last), some (oF index), some (oF demand)]) rfl (q_ite (b := w1_) (q_assoc (q_set (p_x (t_exF (o_pj (p := T3.b) (ha := (t_var 3 demand))))) trivial fun last => (q_at (ρ' := [some ((oP a0_ (oC "Clock" cn_Clock_3 (oc3 oF (oL oF) (oL oF)))) self_), some (oF last), some (oF index), some (oF demand)]) rfl (q_pre (q_at (ρ' := [some ((oP a0_ (oC "Clock" cn_Clock_3 (oc3 oF (oL oF) (oL oF)))) self_), some (oF last), none, none]) rfl (q_nxs (q_nx (self_, (some last)) rfl))))))) (q_pre (q_at (ρ' := [some ((oP a0_ (oC "Clock" cn_Clock_3 (oc3 oF (oL oF) (oL oF)))) self_), some (oF last), none, none]) rfl (q_nxs (q_nx (self_, last) rfl))))))))
theorem tyM_Clock_raise_round (a0_ : Addr) (self_ : (In "Clock" cn_Clock_3 (T3 (List (T3 Int Int Int)) (List Int) (List (Option Int))))) : TMR (fun p_ : ((Option Int) × (In "Clock" cn_Clock_3 (T3 (List (T3 Int Int Int)) (List Int) (List (Option Int))))) => (.fz (Enc.e p_.1), (fun s_ : (In "Clock" cn_Clock_3 (T3 (List (T3 Int Int Int)) (List Int) (List (Option Int)))) => [oP a0_ (oC "Clock" cn_Clock_3 (oc3 oF (oL oF) (oL oF))) s_]) p_.2)) (mM_Clock_raise_round [some ((oP a0_ (oC "Clock" cn_Clock_3 (oc3 oF (oL oF) (oL oF)))) self_)]) (t_Clock_raise_round self_) := by
  unfold mM_Clock_raise_round g_Clock_raise_round t_Clock_raise_round
  exact fn_TM (lo := (fun s_ : (In "Clock" cn_Clock_3 (T3 (List (T3 Int Int Int)) (List Int) (List (Option Int)))) => [oP a0_ (oC "Clock" cn_Clock_3 (oc3 oF (oL oF) (oL oF))) s_])) (oi := [(oP a0_ (oC "Clock" cn_Clock_3 (oc3 oF (oL oF) (oL oF)))) self_]) (as := [a0_]) (ss := fun s_ => s_) (L := fun _ _ => True) rfl rfl (fun _ => rfl) (q_at (ρ' := [some ((oP a0_ (oC "Clock" cn_Clock_3 (oc3 oF (oL oF) (oL oF)))) self_), none, none, none]) rfl (q_set (p_x (t_exF (t_c ()))) trivial fun last => (q_at (ρ' := [some ((oP a0_ (oC "Clock" cn_Clock_3 (oc3 oF (oL oF) (oL oF)))) self_), some (oF last), none, none]) rfl (q_for (E_Clock_raise_round_1 a0_) (fun ⟨index, demand⟩ => [(2, Enc.e index), (3, Enc.e demand)]) (self_, none) (t_x1 o_enum (t_exP (l := (oc3 oF (oL oF) (oL oF))) (p := fun v_ : (T3 (List (T3 Int Int Int)) (List Int) (List (Option Int))) => v_.a) (ix := 0) self_ (.inr ⟨_, rfl⟩) ic_Clock_demands fx_Clock_3_demands)) trivial rfl (fun ⟨index, demand⟩ => rfl) (fun ⟨self_, last⟩ => rfl) (fun ⟨index, demand⟩ ⟨self_, last⟩ => ty_Clock_raise_round_1 a0_ index demand self_ last (Z := fun _ => True)) fun ⟨self_, last⟩ => (q_at (ρ' := [some ((oP a0_ (oC "Clock" cn_Clock_3 (oc3 oF (oL oF) (oL oF)))) self_), some (oF last), none, none]) rfl (q_end (q_ret (f := fun r_ => ((r_, self_) : ((Option Int) × (In "Clock" cn_Clock_3 (T3 (List (T3 Int Int Int)) (List Int) (List (Option Int))))))) (p_x (t_exF (t_var 1 last))) trivial (fun _ => ⟨dF _, rfl⟩)))))))) (fun _ => trivial)
theorem ty_Clock_before (self_ : (In "Clock" cn_Clock_3 (T3 (List (T3 Int Int Int)) (List Int) (List (Option Int))))) (event : (Option Int)) : TEq (m_Clock_before [Enc.e self_, Enc.e event]) (t_Clock_before self_ event) := by
  rw [r_Clock_before]
  unfold g_Clock_before t_Clock_before
  exact fn_T (E := fun _ _ => True) (L := fun _ _ => True) (q_end (q_ret (f := fun r_ => (r_ : Int)) (p_x (t_exF (o_pj (p := T3.a) (ha := (t_2 o_idx (t_1 (o_fld (p := fun v_ : (T3 (List (T3 Int Int Int)) (List Int) (List (Option Int))) => v_.a) ic_Clock_demands fx_Clock_3_demands) (t_var 0 self_)) (t_co Co.some (t_2 o_idx (t_1 (o_fld (p := fun v_ : (T3 (List (T3 Int Int Int)) (List Int) (List (Option Int))) => v_.c) ic_Clock_causes fx_Clock_3_causes) (t_var 0 self_)) (t_co Co.some (t_var 1 event))))))))) trivial (fun _ => dF _))) (fun _ => trivial)
theorem ty_Clock_event_on_ring_1 (self_ : (In "Clock" cn_Clock_3 (T3 (List (T3 Int Int Int)) (List Int) (List (Option Int))))) (u_ : Int) (event : (Option Int)) {Z : OEnv → Prop} : SQ (fun s ρ => kill [2] ρ = E_Clock_event_on_ring_1 self_ s) (fun s ρ => ρ = E_Clock_event_on_ring_1 self_ s) (fun o _ (b : (Option Int)) => O.data o = Enc.e b) (fun _ => True) (b_Clock_event_on_ring_1 [some (oF self_), some (oF event), some (oF u_)]) (t_Clock_event_on_ring_1 self_ u_ event) := by
  unfold b_Clock_event_on_ring_1 t_Clock_event_on_ring_1
  exact (q_end (q_set (p_x (t_exF (vm_self self_ (t_var 0 self_) rfl fx_Clock_3_before (t_call2 ty_Clock_before (t_c self_) (t_var 1 event))))) trivial fun event => (q_at (ρ' := [some (oF self_), some (oF event), some (oF u_)]) rfl (q_nx (some event) rfl))))
theorem ty_Clock_event_on_ring (self_ : (In "Clock" cn_Clock_3 (T3 (List (T3 Int Int Int)) (List Int) (List (Option Int))))) (event : (Option Int)) : TEq (m_Clock_event_on_ring [Enc.e self_, Enc.e event]) (t_Clock_event_on_ring self_ event) := by
  rw [r_Clock_event_on_ring]
  unfold g_Clock_event_on_ring t_Clock_event_on_ring
  exact fn_T (E := fun _ _ => True) (L := fun _ _ => True) (q_for (E_Clock_event_on_ring_1 self_) (fun u_ => [(2, Enc.e u_)]) event (t_x1 o_range1 (t_exF (t_call1 o_len (t_1 (o_fld (p := fun v_ : (T3 (List (T3 Int Int Int)) (List Int) (List (Option Int))) => v_.b) ic_Clock_times fx_Clock_3_times) (t_var 0 self_))))) trivial rfl (fun u_ => rfl) (fun event => rfl) (fun u_ event => ty_Clock_event_on_ring_1 self_ u_ event (Z := fun _ => True)) fun event => (q_at (ρ' := [some (oF self_), some (oF event), none]) rfl (q_pre0 (q_at (ρ' := [none, some (oF event), none]) rfl (q_end (q_ret (f := fun r_ => (r_ : (Option Int))) (p_x (t_exF (t_var 1 event))) trivial (fun _ => dF _))))))) (fun _ => trivial)
theorem ty_Clock_ring_through_1 (self_ : (In "Clock" cn_Clock_3 (T3 (List (T3 Int Int Int)) (List Int) (List (Option Int))))) (event : (Option Int)) (found : (List (Option Int))) (back : Int) {Z : OEnv → Prop} : SQ (fun s ρ => kill [] ρ = E_Clock_ring_through_1 self_ event s) (fun s ρ => ρ = E_Clock_ring_through_1 self_ event s) (fun o _ (b : (List (Option Int))) => o = (oL oF) b) (fun _ => True) (b_Clock_ring_through_1 [some (oF self_), some (oF event), some ((oL oF) found), some (oF back)]) (t_Clock_ring_through_1 self_ found back) := by
  unfold b_Clock_ring_through_1 t_Clock_ring_through_1
  exact (q_app (ox := oF) 2 found (p_x (t_exF (t_2 o_idx (t_1 (o_fld (p := fun v_ : (T3 (List (T3 Int Int Int)) (List Int) (List (Option Int))) => v_.c) ic_Clock_causes fx_Clock_3_causes) (t_var 0 self_)) (t_var 3 back)))) trivial fun found => (q_at (ρ' := [some (oF self_), some (oF event), some ((oL oF) found), some (oF back)]) rfl (q_end (q_set (p_x (t_exF (vm_self self_ (t_var 0 self_) rfl fx_Clock_3_before (t_call2 ty_Clock_before (t_c self_) (t_co Co.just (t_var 3 back)))))) trivial fun back => (q_at (ρ' := [some (oF self_), some (oF event), some ((oL oF) found), some (oF back)]) rfl (q_nx (found, back) rfl))))))
theorem tyO_Clock_ring_through (self_ : (In "Clock" cn_Clock_3 (T3 (List (T3 Int Int Int)) (List Int) (List (Option Int))))) (event : (Option Int)) : TQ (oL oF) (mo_Clock_ring_through [Enc.e self_, Enc.e event]) (t_Clock_ring_through self_ event) := by
  rw [ro_Clock_ring_through]
  unfold g_Clock_ring_through t_Clock_ring_through
  exact fn_TO (ox := (oL oF)) (E := fun _ _ => True) (L := fun _ _ => True) (q_set (p_frF (t_cons (t_2 o_idx (t_1 (o_fld (p := fun v_ : (T3 (List (T3 Int Int Int)) (List Int) (List (Option Int))) => v_.c) ic_Clock_causes fx_Clock_3_causes) (t_var 0 self_)) (t_co Co.some (t_var 1 event))) (t_nil (α := (Option Int))))) trivial fun found => (q_at (ρ' := [some (oF self_), some (oF event), some ((oL oF) found), none]) rfl (q_set (p_x (t_exF (vm_self self_ (t_var 0 self_) rfl fx_Clock_3_before (t_call2 ty_Clock_before (t_c self_) (t_var 1 event))))) trivial fun back => (q_at (ρ' := [some (oF self_), some (oF event), some ((oL oF) found), some (oF back)]) rfl (q_while (E_Clock_ring_through_1 self_ event) (found, back) rfl (fun ⟨found, back⟩ => (t_tst (t_2 o_ne (t_co Co.just (t_varO 3 oF back dF)) (t_varO 1 oF event dF)))) (fun _ => trivial) (fun ⟨found, back⟩ => rfl) (fun ⟨found, back⟩ => ty_Clock_ring_through_1 self_ event found back (Z := fun _ => True)) fun ⟨found, back⟩ => (q_at (ρ' := [some (oF self_), some (oF event), some ((oL oF) found), some (oF back)]) rfl (q_pre0 (q_at (ρ' := [none, none, some ((oL oF) found), none]) rfl (q_pre0 (q_at (freeze1 (ox := (oL oF)) 2 found (dL dF)) (q_at (ρ' := [none, none, some (oF found), none]) rfl (q_end (q_ret (f := fun r_ => (r_ : (List (Option Int)))) (p_frF (t_frev (t_var 2 found))) trivial (fun _ => rfl))))))))))))))
theorem ty_Clock_ring_through (self_ : (In "Clock" cn_Clock_3 (T3 (List (T3 Int Int Int)) (List Int) (List (Option Int))))) (event : (Option Int)) : TEq (m_Clock_ring_through [Enc.e self_, Enc.e event]) (t_Clock_ring_through self_ event) := frz_T (g := mo_Clock_ring_through) (dL dF) (tyO_Clock_ring_through self_ event)
theorem ty_timetable_1 (u_ : Int) (clock : (In "Clock" cn_Clock_3 (T3 (List (T3 Int Int Int)) (List Int) (List (Option Int))))) (last : (Option Int)) {Z : OEnv → Prop} : SQ (fun s ρ => kill [4] ρ = E_timetable_1 s) (fun s ρ => ρ = E_timetable_1 s) (fun o _ (b : (Str × (List (Option Int)))) => o = (oT2 oF (oL oF)) b) (fun _ => True) (b_timetable_1 [none, none, some ((oC "Clock" cn_Clock_3 (oc3 oF (oL oF) (oL oF))) clock), some (oF last), some (oF u_)]) (t_timetable_1 u_ clock last) := by
  unfold b_timetable_1 t_timetable_1
  exact (q_setM (i := 3) (t_mmeth (x := (oC "Clock" cn_Clock_3 (oc3 oF (oL oF) (oL oF))) clock) 2 rfl io_Clock_3_raise_round ag_nil fun p_ => (mcall_1 (oy := oF) (ox := (oC "Clock" cn_Clock_3 (oc3 oF (oL oF) (oL oF)))) (sl := (oC "Clock" cn_Clock_3 (oc3 oF (oL oF) (oL oF)))) 2 clock rfl rfl (.inl rfl) (fun _ => ⟨rfl, rfl⟩) (fun b_ => tyM_Clock_raise_round b_ clock))) (fun _ => trivial) fun ⟨last, clock⟩ => (q_at (ρ' := [none, none, some ((oC "Clock" cn_Clock_3 (oc3 oF (oL oF) (oL oF))) clock), some (oF last), some (oF u_)]) rfl (q_end (q_if (t_tst (t_1 o_isnoneO (t_varO 3 oF last dF))) trivial (q_pre (q_at (freeze1 (ox := (oC "Clock" cn_Clock_3 (oc3 oF (oL oF) (oL oF)))) 2 clock (dC3 dF (dL dF) (dL dF))) (q_at (ρ' := [none, none, some (oF clock), some (oF last), some (oF u_)]) rfl (q_ret (f := fun r_ => (⟨(r_).1, (List.map (fun y_ => (some y_)) (r_).2)⟩ : (Str × (List (Option Int))))) (p_tup2 (p_x (t_exF (t_c ("times" : Str)))) (p_frF (t_isq (t_1 (o_fld (p := fun v_ : (T3 (List (T3 Int Int Int)) (List Int) (List (Option Int))) => v_.b) ic_Clock_times fx_Clock_3_times) (t_var 2 clock))))) trivial (fun r_ => by simp [oL, oT2, oT3, oT4, oO, oF, List.map_map, Function.comp_def, Enc.e]))))) (q_pre (q_at (ρ' := [none, none, some ((oC "Clock" cn_Clock_3 (oc3 oF (oL oF) (oL oF))) clock), some (oF last), none]) rfl (q_nxs (q_nx (clock, last) rfl))))))))
theorem tyO_timetable (count : Int) (demands : (List (T3 Int Int Int))) : TQ (oT2 oF (oL oF)) (mo_timetable [Enc.e count, Enc.e demands]) (t_timetable count demands) := by
  rw [ro_timetable]
  unfold g_timetable t_timetable
  exact fn_TO (ox := (oT2 oF (oL oF))) (E := fun _ _ => True) (L := fun _ _ => True) (q_set (p_make (ox := (oC "Clock" cn_Clock_3 (oc3 oF (oL oF) (oL oF)))) (ags_d (t_exF (t_var 0 count)) (ags_d (t_exF (t_var 1 demands)) ags_nil)) fun p_ b_ => tyM_Clock_init b_ ⟨()⟩ p_.1 p_.2.1) trivial fun clock => (q_at (ρ' := [some (oF count), some (oF demands), some ((oC "Clock" cn_Clock_3 (oc3 oF (oL oF) (oL oF))) clock), none, none]) rfl (q_set (p_x (t_exF (t_c ()))) trivial fun last => (q_at (ρ' := [some (oF count), some (oF demands), some ((oC "Clock" cn_Clock_3 (oc3 oF (oL oF) (oL oF))) clock), some (oF last), none]) rfl (q_pre0 (q_at (ρ' := [some (oF count), none, some ((oC "Clock" cn_Clock_3 (oc3 oF (oL oF) (oL oF))) clock), some (oF last), none]) rfl (q_forK (E_timetable_1) (fun u_ => [(4, Enc.e u_)]) (clock, none) (t_x1 o_range1 (t_exF (t_var 0 count))) trivial rfl (fun u_ => rfl) (fun ⟨clock, last⟩ => rfl) (fun u_ ⟨clock, last⟩ => ty_timetable_1 u_ clock last (Z := fun _ => True)) fun ⟨clock, last⟩ => (q_at (ρ' := [none, none, some ((oC "Clock" cn_Clock_3 (oc3 oF (oL oF) (oL oF))) clock), some (oF last), none]) rfl (q_pre0 (q_at (freeze1 (ox := (oC "Clock" cn_Clock_3 (oc3 oF (oL oF) (oL oF)))) 2 clock (dC3 dF (dL dF) (dL dF))) (q_at (ρ' := [none, none, some (oF clock), some (oF last), none]) rfl (q_end (q_ret (f := fun r_ => (r_ : (Str × (List (Option Int))))) (p_tup2 (p_x (t_exF (t_c ("ring" : Str)))) (p_meth (ox := (oL oF)) clock (t_var 2 clock) rfl fx_Clock_3_ring_through (p_call (ox := (oL oF)) (a_1 (t_c clock) fun a0_ => (a_1 (vm_self clock (t_var 2 clock) rfl fx_Clock_3_event_on_ring (t_call2 ty_Clock_event_on_ring (t_c clock) (t_var 3 last))) fun a1_ => (a_0 (tyO_Clock_ring_through a0_ a1_))))))) trivial (fun _ => rfl))))))))))))))
theorem ty_timetable (count : Int) (demands : (List (T3 Int Int Int))) : TEq (m_timetable [Enc.e count, Enc.e demands]) (t_timetable count demands) := frz_T (g := mo_timetable) (dT2 dF (dL dF)) (tyO_timetable count demands)
theorem ty_law_cell (script : (List Int)) (k : Int) : TEq (m_law_cell [Enc.e script, Enc.e k]) (t_law_cell script k) := by
  rw [r_law_cell]
  unfold g_law_cell t_law_cell
  exact fn_T (E := fun _ _ => True) (L := fun _ _ => True) (q_if (t_tst (t_2 o_ltI (t_varO 1 oF k dF) (t_call1 o_len (t_varO 0 oF script dF)))) trivial (q_ret (f := fun r_ => (r_ : Int)) (p_x (t_exF (t_call1 o_int (t_2 o_idx (t_var 0 script) (t_var 1 k))))) trivial (fun _ => dF _)) (q_pre (q_at (ρ' := [none, none]) rfl (q_nxs (q_end (q_ret (f := fun r_ => (r_ : Int)) (p_x (t_exF (t_c (0 : Int)))) trivial (fun _ => dF _))))))) (fun _ => trivial)
theorem ty_law_numbers_1 (limit : Int) (k : Int) (cell : Int) (found : (List Int)) {Z : OEnv → Prop} : SQ (fun s ρ => kill [4] ρ = E_law_numbers_1 limit s) (fun s ρ => ρ = E_law_numbers_1 limit s) (fun o _ (b : (List Int)) => O.data o = Enc.e b) (fun _ => True) (b_law_numbers_1 [some (oF cell), none, some (oF limit), some ((oL oF) found), some (oF k), none]) (t_law_numbers_1 limit k cell found) := by
  unfold b_law_numbers_1 t_law_numbers_1
  exact (q_app (ox := oF) 3 found (p_x (t_exF (t_2 o_modI (t_call1 o_int (t_var 0 cell)) (t_var 2 limit)))) trivial fun found => (q_at (ρ' := [some (oF cell), none, some (oF limit), some ((oL oF) found), some (oF k), none]) rfl (q_end (q_set (p_x (t_exF (t_2 o_fdivI (t_call1 o_int (t_var 0 cell)) (t_var 2 limit)))) trivial fun cell => (q_at (ρ' := [some (oF cell), none, some (oF limit), some ((oL oF) found), some (oF k), none]) rfl (q_nx (cell, found) rfl))))))
theorem ty_law_numbers_2 (cell : Int) (limit : Int) (k : Int) (found : (List Int)) {Z : OEnv → Prop} : SQ (fun s ρ => kill [4, 5] ρ = E_law_numbers_2 cell limit s) (fun s ρ => ρ = E_law_numbers_2 cell limit s) (fun o _ (b : (List Int)) => O.data o = Enc.e b) (fun _ => True) (b_law_numbers_2 [some (oF cell), none, some (oF limit), some ((oL oF) found), some (oF k), none]) (t_law_numbers_2 cell limit k found) := by
  unfold b_law_numbers_2 t_law_numbers_2
  exact (q_set (p_x (t_exF (t_2 o_modI (t_call1 o_int (t_2 o_addI (t_2 o_addI (t_2 o_mulI (t_var 0 cell) (t_c (48271 : Int))) (t_2 o_mulI (t_var 4 k) (t_c (69621 : Int)))) (t_c (7 : Int)))) (t_c (2147483647 : Int))))) trivial fun mixed => (q_at (ρ' := [some (oF cell), none, some (oF limit), some ((oL oF) found), some (oF k), some (oF mixed)]) rfl (q_set (p_x (t_exF (t_2 o_modI (t_call1 o_int (t_2 o_addI (t_2 o_addI (t_2 o_addI (t_2 o_mulI (t_var 5 mixed) (t_var 5 mixed)) (t_2 o_mulI (t_var 5 mixed) (t_c (40692 : Int)))) (t_2 o_mulI (t_var 4 k) (t_c (16807 : Int)))) (t_c (11 : Int)))) (t_c (2147483399 : Int))))) trivial fun mixed => (q_at (ρ' := [some (oF cell), none, some (oF limit), some ((oL oF) found), some (oF k), some (oF mixed)]) rfl (q_end (q_app (ox := oF) 3 found (p_x (t_exF (t_2 o_modI (t_call1 o_int (t_2 o_fdivI (t_var 5 mixed) (t_c (32 : Int)))) (t_var 2 limit)))) trivial fun found => (q_at (ρ' := [some (oF cell), none, some (oF limit), some ((oL oF) found), some (oF k), some (oF mixed)]) rfl (q_nx found rfl))))))))
theorem ty_law_numbers (cell : Int) (count : Int) (limit : Int) : TEq (m_law_numbers [Enc.e cell, Enc.e count, Enc.e limit]) (t_law_numbers cell count limit) := by
  rw [r_law_numbers]
  unfold g_law_numbers t_law_numbers
  exact fn_T (E := fun _ _ => True) (L := fun _ _ => True) (q_set (p_frF (t_nil (α := Int))) trivial fun found => (q_at (ρ' := [some (oF cell), some (oF count), some (oF limit), some ((oL oF) found), none, none]) rfl (q_if (t_tst (t_2 o_geI (t_varO 0 oF cell dF) (t_2 o_powI (t_c (10 : Int)) (t_c (18 : Int))))) trivial (q_assoc (q_forK (E_law_numbers_1 limit) (fun k => [(4, Enc.e k)]) (cell, found) (t_x1 o_range1 (t_exF (t_var 1 count))) trivial rfl (fun k => rfl) (fun ⟨cell, found⟩ => rfl) (fun k ⟨cell, found⟩ => ty_law_numbers_1 limit k cell found (Z := fun _ => True)) fun ⟨cell, found⟩ => (q_at (ρ' := [some (oF cell), none, some (oF limit), some ((oL oF) found), none, none]) rfl (q_pre (q_at (ρ' := [none, none, none, some ((oL oF) found), none, none]) rfl (q_pre (q_at (freeze1 (ox := (oL oF)) 3 found (dL dF)) (q_at (ρ' := [none, none, none, some (oF found), none, none]) rfl (q_ret (f := fun r_ => (r_ : (List Int))) (p_x (t_exF (t_var 3 found))) trivial (fun _ => dF _)))))))))) (q_nxs (q_forK (E_law_numbers_2 cell limit) (fun k => [(4, Enc.e k)]) found (t_x1 o_range1 (t_exF (t_var 1 count))) trivial rfl (fun k => rfl) (fun found => rfl) (fun k found => ty_law_numbers_2 cell limit k found (Z := fun _ => True)) fun found => (q_at (ρ' := [some (oF cell), none, some (oF limit), some ((oL oF) found), none, none]) rfl (q_pre0 (q_at (ρ' := [none, none, none, some ((oL oF) found), none, none]) rfl (q_pre0 (q_at (freeze1 (ox := (oL oF)) 3 found (dL dF)) (q_at (ρ' := [none, none, none, some (oF found), none, none]) rfl (q_end (q_ret (f := fun r_ => (r_ : (List Int))) (p_x (t_exF (t_var 3 found))) trivial (fun _ => dF _)))))))))))))) (fun _ => trivial)
theorem ty_law_same_1 (n_ : Nat) (self : PyData → PyData → R Bool) (IH : ∀ (x0_ : PyData) (x1_ : PyData), TEq (m_law_same n_ [Enc.e x0_, Enc.e x1_]) (self x0_ x1_)) (told : PyData) (due : PyData) (k : Int) {Z : OEnv → Prop} : SQ (fun s ρ => kill [2] ρ = E_law_same_1 told due s) (fun s ρ => ρ = E_law_same_1 told due s) (fun o _ (b : Bool) => O.data o = Enc.e b) (fun _ => True) ((b_law_same_1 (m_law_same n_)) [some (oF told), some (oF due), some (oF k)]) (t_law_same_1 self told due k) := by
  unfold b_law_same_1 t_law_same_1
  exact (q_end (q_if (t_tnot (t_ttr o_truB (t_call2 IH (t_2 o_D2 (t_varO 0 oF told dF) (t_co Co.up (t_varO 2 oF k dF))) (t_2 o_D2 (t_varO 1 oF due dF) (t_co Co.up (t_varO 2 oF k dF)))))) trivial (q_ret (f := fun r_ => (r_ : Bool)) (p_x (t_exF (t_c false))) trivial (fun _ => dF _)) (q_pre (q_at (ρ' := [some (oF told), some (oF due), none]) rfl (q_nxs (q_nx () rfl))))))
theorem ty_law_same : ∀ (n_ : Nat) (told : PyData) (due : PyData), TEq (m_law_same n_ [Enc.e told, Enc.e due]) (t_law_same n_ told due)
  | 0, _, _ => trivial
  | n_ + 1, told, due => by
    have IH := ty_law_same n_
    rw [r_law_same]
    show TEq (fin (g_law_same (m_law_same n_) _)) ((fun self => TR.fn (l := Empty) (σ := Unit) (TR.bind (σ := Unit) (tite (b1 tid (b1 (dB1 (visi "list")) (R.ok due))) (tite (torB (b1 tnotB (b1 tid (b1 (dB1 (visi "list")) (R.ok told)))) (b2 tne (b1 cInt (b1 (fun d => vlen [d]) (R.ok told))) (b1 cInt (b1 (fun d => vlen [d]) (R.ok due))))) ((R.ok false).tr fun r_ => TR.rt r_) (TR.nx ())) (tite (b1 tid (b1 (dB1 (visi "tuple")) (R.ok due))) (tite (torB (b1 tnotB (b1 tid (b1 (dB1 (visi "tuple")) (R.ok told)))) (b2 tne (b1 cInt (b1 (fun d => vlen [d]) (R.ok told))) (b1 cInt (b1 (fun d => vlen [d]) (R.ok due))))) ((R.ok false).tr fun r_ => TR.rt r_) (TR.nx ())) (tite (b1 tisnoneD (R.ok due)) ((b1 tisnoneD (R.ok told)).tr fun r_ => TR.rt r_) (tite (b1 tid (b1 (dB1 (visi "bool")) (R.ok due))) ((tandB (b1 (dB1 (visi "bool")) (R.ok told)) (b2 (dB veq) (R.ok told) (R.ok due))).tr fun r_ => TR.rt r_) (tite (b1 tid (b1 (dB1 (visi "int")) (R.ok due))) ((tandB (b1 (dB1 (visi "int")) (R.ok told)) (tandB (b1 tnotB (b1 (dB1 (visi "bool")) (R.ok told))) (b2 (dB veq) (R.ok told) (R.ok due)))).tr fun r_ => TR.rt r_) ((tandB (b1 (dB1 (visi "str")) (R.ok told)) (b2 (dB veq) (R.ok told) (R.ok due))).tr fun r_ => TR.rt r_)))))) fun _ => ((b1 trange1 (b1 cInt (b1 (fun d => vlen [d]) (R.ok due)))).tr fun xs_ => (forT (fun k _ => t_law_same_1 self told due k) xs_ ()).bind fun _ => ((R.ok true).tr fun r_ => TR.rt r_))) (fun _ => .stuck)) (t_law_same n_))
    generalize t_law_same n_ = self at IH ⊢
    unfold g_law_same
    exact fn_T (E := fun _ _ => True) (L := fun _ _ => True) (q_join (τ := Unit) (Es := fun s_ => match s_ with | _ => [some (oF told), some (oF due), none]) (q_end (q_if (t_ttr o_truB (t_1 o_DB1 (t_varO 1 oF due dF))) trivial (q_asn (q_end (q_if (t_tor (t_tnot (t_ttr o_truB (t_1 o_DB1 (t_varO 0 oF told dF)))) (t_tst (t_2 o_ne (t_co Co.int (t_call1 o_D1L (t_varO 0 oF told dF))) (t_co Co.int (t_call1 o_D1L (t_varO 1 oF due dF)))))) trivial (q_ret (f := fun r_ => (r_ : Bool)) (p_x (t_exF (t_c false))) trivial (fun _ => dF _)) (q_nxs (q_nx () rfl))))) (q_asn (q_end (q_if (t_ttr o_truB (t_1 o_DB1 (t_varO 1 oF due dF))) trivial (q_if (t_tor (t_tnot (t_ttr o_truB (t_1 o_DB1 (t_varO 0 oF told dF)))) (t_tst (t_2 o_ne (t_co Co.int (t_call1 o_D1L (t_varO 0 oF told dF))) (t_co Co.int (t_call1 o_D1L (t_varO 1 oF due dF)))))) trivial (q_ret (f := fun r_ => (r_ : Bool)) (p_x (t_exF (t_c false))) trivial (fun _ => dF _)) (q_nxs (q_nx () rfl))) (q_if (t_tst (t_1 o_isnoneD (t_varO 1 oF due dF))) trivial (q_ret (f := fun r_ => (r_ : Bool)) (p_x (t_exF (t_1 o_isnoneD (t_var 0 told)))) trivial (fun _ => dF _)) (q_if (t_ttr o_truB (t_1 o_DB1 (t_varO 1 oF due dF))) trivial (q_ret (f := fun r_ => (r_ : Bool)) (p_x (t_exF (t_vand (t_1 o_DB1 (t_var 0 told)) (t_2 o_DB2 (t_var 0 told) (t_var 1 due))))) trivial (fun _ => dF _)) (q_if (t_ttr o_truB (t_1 o_DB1 (t_varO 1 oF due dF))) trivial (q_ret (f := fun r_ => (r_ : Bool)) (p_x (t_exF (t_vand (t_1 o_DB1 (t_var 0 told)) (t_vand (t_vnot (t_1 o_DB1 (t_var 0 told))) (t_2 o_DB2 (t_var 0 told) (t_var 1 due)))))) trivial (fun _ => dF _)) (q_ret (f := fun r_ => (r_ : Bool)) (p_x (t_exF (t_vand (t_1 o_DB1 (t_var 0 told)) (t_2 o_DB2 (t_var 0 told) (t_var 1 due))))) trivial (fun _ => dF _)))))))))) fun _ => (q_for (E_law_same_1 told due) (fun k => [(2, Enc.e k)]) () (t_x1 o_range1 (t_exF (t_co Co.int (t_call1 o_D1L (t_var 1 due))))) trivial rfl (fun k => rfl) (fun _ => rfl) (fun k _ => ty_law_same_1 n_ self IH told due k (Z := fun _ => True)) fun _ => (q_at (ρ' := [some (oF told), some (oF due), none]) rfl (q_pre0 (q_at (ρ' := [none, none, none]) rfl (q_end (q_ret (f := fun r_ => (r_ : Bool)) (p_x (t_exF (t_c true))) trivial (fun _ => dF _)))))))) (fun _ => trivial)
theorem ty_law_world_1 (draws : (List Int)) (count : Int) (kind : Int) (scale : Int) (picks : (List Int)) (hidden : (List Int)) (k : Int) (demands : (List (T3 Int Int Int))) {Z : OEnv → Prop} : SQ (fun s ρ => kill [11, 12, 13, 14, 15] ρ = E_law_world_1 draws count kind scale picks hidden s) (fun s ρ => ρ = E_law_world_1 draws count kind scale picks hidden s) (fun o _ (b : (Int × (List (T3 Int Int Int)))) => O.data o = Enc.e b) (fun _ => True) (b_law_world_1 [none, none, none, some (oF draws), some (oF count), none, some (oF kind), some (oF scale), some (oF picks), some (oF hidden), some ((oL oF) demands), some (oF k), none, none, none, none, none, none, none, none]) (t_law_world_1 count kind scale picks hidden k demands) := by
  unfold b_law_world_1 t_law_world_1
  exact (q_set (p_x (t_exF (t_2 o_modI (t_2 o_idx (t_var 8 picks) (t_2 o_mulI (t_c (3 : Int)) (t_var 11 k))) (t_var 4 count)))) trivial fun i => (q_at (ρ' := [none, none, none, some (oF draws), some (oF count), none, some (oF kind), some (oF scale), some (oF picks), some (oF hidden), some ((oL oF) demands), some (oF k), some (oF i), none, none, none, none, none, none, none]) rfl (q_set (p_x (t_exF (t_2 o_modI (t_2 o_idx (t_var 8 picks) (t_2 o_addI (t_2 o_mulI (t_c (3 : Int)) (t_var 11 k)) (t_c (1 : Int)))) (t_var 4 count)))) trivial fun j => (q_at (ρ' := [none, none, none, some (oF draws), some (oF count), none, some (oF kind), some (oF scale), some (oF picks), some (oF hidden), some ((oL oF) demands), some (oF k), some (oF i), some (oF j), none, none, none, none, none, none]) rfl (q_set (p_x (t_exF (t_2 o_idx (t_var 8 picks) (t_2 o_addI (t_2 o_mulI (t_c (3 : Int)) (t_var 11 k)) (t_c (2 : Int)))))) trivial fun last => (q_at (ρ' := [none, none, none, some (oF draws), some (oF count), none, some (oF kind), some (oF scale), some (oF picks), some (oF hidden), some ((oL oF) demands), some (oF k), some (oF i), some (oF j), some (oF last), none, none, none, none, none]) rfl (q_set (p_x (t_exF (t_2 o_mulI (t_2 o_subI (t_2 o_modI (t_var 14 last) (t_c (19 : Int))) (t_c (9 : Int))) (t_var 7 scale)))) trivial fun wait => (q_at (ρ' := [none, none, none, some (oF draws), some (oF count), none, some (oF kind), some (oF scale), some (oF picks), some (oF hidden), some ((oL oF) demands), some (oF k), some (oF i), some (oF j), some (oF last), some (oF wait), none, none, none, none]) rfl (q_join (τ := Int) (Es := fun s_ => match s_ with | wait => [none, none, none, some (oF draws), some (oF count), none, some (oF kind), some (oF scale), some (oF picks), some (oF hidden), some ((oL oF) demands), none, some (oF i), some (oF j), some (oF last), some (oF wait), none, none, none, none]) (q_end (q_if (t_tst (t_2 o_in (t_varO 6 oF kind dF) (t_list (t_cons (t_c (1 : Int)) (t_cons (t_c (2 : Int)) (t_cons (t_c (3 : Int)) (t_nil (α := Int)))))))) trivial (q_asn (q_set (p_x (t_exF (t_2 o_subI (t_2 o_mulI (t_2 o_subI (t_2 o_idx (t_var 9 hidden) (t_var 13 j)) (t_2 o_idx (t_var 9 hidden) (t_var 12 i))) (t_var 7 scale)) (t_2 o_modI (t_var 14 last) (t_c (4 : Int)))))) trivial fun wait => (q_at (ρ' := [none, none, none, some (oF draws), some (oF count), none, some (oF kind), some (oF scale), some (oF picks), some (oF hidden), some ((oL oF) demands), some (oF k), some (oF i), some (oF j), some (oF last), some (oF wait), none, none, none, none]) rfl (q_pre0 (q_at (ρ' := [none, none, none, some (oF draws), some (oF count), none, some (oF kind), some (oF scale), some (oF picks), some (oF hidden), some ((oL oF) demands), none, some (oF i), some (oF j), some (oF last), some (oF wait), none, none, none, none]) rfl (q_nx wait rfl)))))) (q_asn (q_pre0 (q_at (ρ' := [none, none, none, some (oF draws), some (oF count), none, some (oF kind), some (oF scale), some (oF picks), some (oF hidden), some ((oL oF) demands), none, some (oF i), some (oF j), some (oF last), some (oF wait), none, none, none, none]) rfl (q_nx wait rfl)))))) fun wait => (q_join (τ := Int) (Es := fun s_ => match s_ with | wait => [none, none, none, some (oF draws), some (oF count), none, some (oF kind), some (oF scale), some (oF picks), some (oF hidden), some ((oL oF) demands), none, some (oF i), some (oF j), none, some (oF wait), none, none, none, none]) (q_end (q_if (t_tand (t_tst (t_2 o_eq (t_varO 6 oF kind dF) (t_c (2 : Int)))) (t_tst (t_2 o_eq (t_2 o_modI (t_2 o_fdivI (t_varO 14 oF last dF) (t_c (4 : Int))) (t_c (9 : Int))) (t_c (0 : Int))))) trivial (q_asn (q_set (p_x (t_exF (t_2 o_addI (t_var 15 wait) (t_2 o_modI (t_2 o_fdivI (t_var 14 last) (t_c (36 : Int))) (t_c (5 : Int)))))) trivial fun wait => (q_at (ρ' := [none, none, none, some (oF draws), some (oF count), none, some (oF kind), some (oF scale), some (oF picks), some (oF hidden), some ((oL oF) demands), none, some (oF i), some (oF j), some (oF last), some (oF wait), none, none, none, none]) rfl (q_pre0 (q_at (ρ' := [none, none, none, some (oF draws), some (oF count), none, some (oF kind), some (oF scale), some (oF picks), some (oF hidden), some ((oL oF) demands), none, some (oF i), some (oF j), none, some (oF wait), none, none, none, none]) rfl (q_nx wait rfl)))))) (q_asn (q_pre0 (q_at (ρ' := [none, none, none, some (oF draws), some (oF count), none, some (oF kind), some (oF scale), some (oF picks), some (oF hidden), some ((oL oF) demands), none, some (oF i), some (oF j), none, some (oF wait), none, none, none, none]) rfl (q_nx wait rfl)))))) fun wait => (q_join (τ := Int) (Es := fun s_ => match s_ with | wait => [none, none, none, some (oF draws), some (oF count), none, some (oF kind), some (oF scale), some (oF picks), some (oF hidden), some ((oL oF) demands), none, some (oF i), some (oF j), none, some (oF wait), none, none, none, none]) (q_end (q_if (t_tst (t_2 o_eq (t_varO 6 oF kind dF) (t_c (4 : Int)))) trivial (q_asn (q_end (q_set (p_x (t_exF (t_2 o_subI (t_var 15 wait) (t_2 o_mulI (t_c (9 : Int)) (t_var 7 scale))))) trivial fun wait => (q_at (ρ' := [none, none, none, some (oF draws), some (oF count), none, some (oF kind), some (oF scale), some (oF picks), some (oF hidden), some ((oL oF) demands), none, some (oF i), some (oF j), none, some (oF wait), none, none, none, none]) rfl (q_nx wait rfl))))) (q_asn (q_nx wait rfl)))) fun wait => (q_end (q_app (ox := oF) 10 demands (p_x (t_exF (t_tup3 (t_var 12 i) (t_var 13 j) (t_var 15 wait)))) trivial fun demands => (q_at (ρ' := [none, none, none, some (oF draws), some (oF count), none, some (oF kind), some (oF scale), some (oF picks), some (oF hidden), some ((oL oF) demands), none, some (oF i), some (oF j), none, some (oF wait), none, none, none, none]) rfl (q_nx demands rfl)))))))))))))))
theorem ty_law_world (script : (List Int)) (at_ : Int) (most : Int) : TEq (m_law_world [Enc.e script, Enc.e at_, Enc.e most]) (t_law_world script at_ most) := by
  rw [r_law_world]
  unfold g_law_world t_law_world
  exact fn_T (E := fun _ _ => True) (L := fun _ _ => True) (q_set (p_x (t_exF (t_call3 ty_law_numbers (t_call2 ty_law_cell (t_var 0 script) (t_var 1 at_)) (t_c (6 : Int)) (t_c (5040 : Int))))) trivial fun draws => (q_at (ρ' := [some (oF script), some (oF at_), some (oF most), some (oF draws), none, none, none, none, none, none, none, none, none, none, none, none, none, none, none, none]) rfl (q_set (p_x (t_exF (t_2 o_addI (t_c (1 : Int)) (t_2 o_modI (t_2 o_idx (t_var 3 draws) (t_c (0 : Int))) (t_var 2 most))))) trivial fun count => (q_at (ρ' := [some (oF script), some (oF at_), some (oF most), some (oF draws), some (oF count), none, none, none, none, none, none, none, none, none, none, none, none, none, none, none]) rfl (q_set (p_x (t_exF (t_2 o_modI (t_2 o_idx (t_var 3 draws) (t_c (1 : Int))) (t_2 o_addI (t_2 o_mulI (t_c (2 : Int)) (t_var 2 most)) (t_c (1 : Int)))))) trivial fun many => (q_at (ρ' := [some (oF script), some (oF at_), some (oF most), some (oF draws), some (oF count), some (oF many), none, none, none, none, none, none, none, none, none, none, none, none, none, none]) rfl (q_set (p_x (t_exF (t_2 o_modI (t_2 o_idx (t_var 3 draws) (t_c (2 : Int))) (t_c (6 : Int))))) trivial fun kind => (q_at (ρ' := [some (oF script), some (oF at_), some (oF most), some (oF draws), some (oF count), some (oF many), some (oF kind), none, none, none, none, none, none, none, none, none, none, none, none, none]) rfl (q_set (p_x (t_exF (t_2 o_idx (t_list (t_cons (t_c (1 : Int)) (t_cons (t_c (1 : Int)) (t_cons (t_c (1 : Int)) (t_cons (t_c (1000 : Int)) (t_cons (t_2 o_powI (t_c (10 : Int)) (t_c (25 : Int))) (t_nil (α := Int)))))))) (t_2 o_modI (t_2 o_idx (t_var 3 draws) (t_c (3 : Int))) (t_c (5 : Int)))))) trivial fun scale => (q_at (ρ' := [some (oF script), some (oF at_), some (oF most), some (oF draws), some (oF count), some (oF many), some (oF kind), some (oF scale), none, none, none, none, none, none, none, none, none, none, none, none]) rfl (q_set (p_x (t_exF (t_call3 ty_law_numbers (t_call2 ty_law_cell (t_var 0 script) (t_2 o_addI (t_var 1 at_) (t_c (1 : Int)))) (t_2 o_mulI (t_c (3 : Int)) (t_var 5 many)) (t_c (5040 : Int))))) trivial fun picks => (q_at (ρ' := [some (oF script), some (oF at_), some (oF most), some (oF draws), some (oF count), some (oF many), some (oF kind), some (oF scale), some (oF picks), none, none, none, none, none, none, none, none, none, none, none]) rfl (q_set (p_x (t_exF (t_call3 ty_law_numbers (t_call2 ty_law_cell (t_var 0 script) (t_2 o_addI (t_var 1 at_) (t_c (2 : Int)))) (t_var 4 count) (t_c (60 : Int))))) trivial fun hidden => (q_at (ρ' := [some (oF script), some (oF at_), some (oF most), some (oF draws), some (oF count), some (oF many), some (oF kind), some (oF scale), some (oF picks), some (oF hidden), none, none, none, none, none, none, none, none, none, none]) rfl (q_set (p_frF (t_nil (α := (T3 Int Int Int)))) trivial fun demands => (q_at (ρ' := [some (oF script), some (oF at_), some (oF most), some (oF draws), some (oF count), some (oF many), some (oF kind), some (oF scale), some (oF picks), some (oF hidden), some ((oL oF) demands), none, none, none, none, none, none, none, none, none]) rfl (q_pre0 (q_at (ρ' := [none, none, none, some (oF draws), some (oF count), some (oF many), some (oF kind), some (oF scale), some (oF picks), some (oF hidden), some ((oL oF) demands), none, none, none, none, none, none, none, none, none]) rfl (q_forK (E_law_world_1 draws count kind scale picks hidden) (fun k => [(11, Enc.e k)]) demands (t_x1 o_range1 (t_exF (t_var 5 many))) trivial rfl (fun k => rfl) (fun demands => rfl) (fun k demands => ty_law_world_1 draws count kind scale picks hidden k demands (Z := fun _ => True)) fun demands => (q_at (ρ' := [none, none, none, some (oF draws), some (oF count), none, some (oF kind), some (oF scale), some (oF picks), some (oF hidden), some ((oL oF) demands), none, none, none, none, none, none, none, none, none]) rfl (q_pre0 (q_at (ρ' := [none, none, none, some (oF draws), some (oF count), none, some (oF kind), some (oF scale), none, some (oF hidden), some ((oL oF) demands), none, none, none, none, none, none, none, none, none]) rfl (q_pre0 (q_at (freeze1 (ox := (oL oF)) 10 demands (dL dF)) (q_at (ρ' := [none, none, none, some (oF draws), some (oF count), none, some (oF kind), some (oF scale), none, some (oF hidden), some (oF demands), none, none, none, none, none, none, none, none, none]) rfl (q_join (τ := (List (T3 Int Int Int))) (Es := fun s_ => match s_ with | demands => [none, none, none, none, some (oF count), none, none, none, none, none, some (oF demands), none, none, none, none, none, none, none, none, none]) (q_end (q_if (t_tst (t_2 o_geI (t_varO 6 oF kind dF) (t_c (3 : Int)))) trivial (q_asn (q_set (p_frF (t_map (fun k => [(11, Enc.e k)]) (t_i1 o_range1 (t_2 o_subI (t_var 4 count) (t_c (1 : Int)))) (fun k => rfl) (fun k => (t_tup3 (t_var 11 k) (t_2 o_addI (t_var 11 k) (t_c (1 : Int))) (t_2 o_mulI (t_2 o_addI (t_c (1 : Int)) (t_2 o_idx (t_var 9 hidden) (t_var 11 k))) (t_var 7 scale)))))) trivial fun chain => (q_at (ρ' := [none, none, none, some (oF draws), some (oF count), none, some (oF kind), some (oF scale), none, some (oF hidden), some (oF demands), none, none, none, none, none, some ((oL oF) chain), none, none, none]) rfl (q_join (τ := (List (T3 Int Int Int))) (Es := fun s_ => match s_ with | chain => [none, none, none, some (oF draws), some (oF count), none, none, none, none, none, some (oF demands), none, none, none, none, none, some ((oL oF) chain), none, none, none]) (q_end (q_if (t_tst (t_2 o_eq (t_varO 6 oF kind dF) (t_c (3 : Int)))) trivial (q_asn (q_pre0 (q_at (freeze1 (ox := (oL oF)) 16 chain (dL dF)) (q_at (ρ' := [none, none, none, some (oF draws), some (oF count), none, some (oF kind), some (oF scale), none, some (oF hidden), some (oF demands), none, none, none, none, none, some (oF chain), none, none, none]) rfl (q_set (p_frF (t_map (fun k => [(11, Enc.e k)]) (t_i1 o_range1 (t_2 o_subI (t_var 4 count) (t_c (1 : Int)))) (fun k => rfl) (fun k => (t_tup3 (t_var 11 k) (t_2 o_addI (t_var 11 k) (t_c (1 : Int))) (t_2 o_mulI (t_2 o_subI (t_2 o_idx (t_var 9 hidden) (t_2 o_addI (t_var 11 k) (t_c (1 : Int)))) (t_2 o_idx (t_var 9 hidden) (t_var 11 k))) (t_var 7 scale)))))) trivial fun chain => (q_at (ρ' := [none, none, none, some (oF draws), some (oF count), none, some (oF kind), some (oF scale), none, some (oF hidden), some (oF demands), none, none, none, none, none, some ((oL oF) chain), none, none, none]) rfl (q_pre0 (q_at (ρ' := [none, none, none, some (oF draws), some (oF count), none, none, none, none, none, some (oF demands), none, none, none, none, none, some ((oL oF) chain), none, none, none]) rfl (q_nx chain rfl))))))))) (q_asn (q_pre0 (q_at (ρ' := [none, none, none, some (oF draws), some (oF count), none, none, none, none, none, some (oF demands), none, none, none, none, none, some ((oL oF) chain), none, none, none]) rfl (q_nx chain rfl)))))) fun chain => (q_set (p_x (t_exB (t_call1 o_sum (t_list (t_map (fun link => [(19, Enc.e link)]) (t_isq (t_varO 16 (oL oF) chain (dL dF))) (fun link => rfl) (fun link => (o_pj (p := T3.c) (ha := (t_var 19 link))))))))) trivial fun total => (q_at (ρ' := [none, none, none, some (oF draws), some (oF count), none, none, none, none, none, some (oF demands), none, none, none, none, none, some ((oL oF) chain), some (oF total), none, none]) rfl (q_rev (ox := oF) 16 chain fun chain => (q_at (ρ' := [none, none, none, some (oF draws), some (oF count), none, none, none, none, none, some (oF demands), none, none, none, none, none, some ((oL oF) chain), some (oF total), none, none]) rfl (q_app (ox := oF) 16 chain (p_x (t_exF (t_tup3 (t_2 o_subI (t_var 4 count) (t_c (1 : Int))) (t_c (0 : Int)) (t_2 o_subI (t_2 o_subI (t_2 o_modI (t_2 o_idx (t_var 3 draws) (t_c (4 : Int))) (t_c (3 : Int))) (t_c (1 : Int))) (t_var 17 total))))) trivial fun chain => (q_at (ρ' := [none, none, none, some (oF draws), some (oF count), none, none, none, none, none, some (oF demands), none, none, none, none, none, some ((oL oF) chain), some (oF total), none, none]) rfl (q_pre0 (q_at (freeze1 (ox := (oL oF)) 16 chain (dL dF)) (q_at (ρ' := [none, none, none, some (oF draws), some (oF count), none, none, none, none, none, some (oF demands), none, none, none, none, none, some (oF chain), some (oF total), none, none]) rfl (q_set (p_x (t_exF (t_2 o_modI (t_2 o_idx (t_var 3 draws) (t_c (5 : Int))) (t_2 o_addI (t_call1 o_len (t_var 10 demands)) (t_c (1 : Int)))))) trivial fun spot => (q_at (ρ' := [none, none, none, some (oF draws), some (oF count), none, none, none, none, none, some (oF demands), none, none, none, none, none, some (oF chain), some (oF total), some (oF spot), none]) rfl (q_set (p_x (t_exF (t_2 o_addL (t_2 o_addL (t_slice (t_var 10 demands) (t_part (t_c (0 : Int))) (t_part (t_var 18 spot))) (t_var 16 chain)) (t_slice (t_var 10 demands) (t_part (t_var 18 spot)) t_nopart)))) trivial fun demands => (q_at (ρ' := [none, none, none, some (oF draws), some (oF count), none, none, none, none, none, some (oF demands), none, none, none, none, none, some (oF chain), some (oF total), some (oF spot), none]) rfl (q_pre0 (q_at (ρ' := [none, none, none, none, some (oF count), none, none, none, none, none, some (oF demands), none, none, none, none, none, none, none, none, none]) rfl (q_nx demands rfl)))))))))))))))))))) (q_asn (q_pre0 (q_at (ρ' := [none, none, none, none, some (oF count), none, none, none, none, none, some (oF demands), none, none, none, none, none, none, none, none, none]) rfl (q_nx demands rfl)))))) fun demands => (q_end (q_ret (f := fun r_ => (r_ : (Int × (List (T3 Int Int Int))))) (p_x (t_exF (t_tup2 (t_var 4 count) (t_var 10 demands)))) trivial (fun _ => dF _))))))))))))))))))))))))))))) (fun _ => trivial)
theorem ty_law_rounds_3 (count : Int) (demands : (List (T3 Int Int Int))) (k : Int) (times : (List Int)) (causes : (List Int)) (last : (Option Int)) {Z : OEnv → Prop} : SQ (fun s ρ => kill [6, 7, 8, 9] ρ = E_law_rounds_3 count demands s) (fun s ρ => ρ = E_law_rounds_3 count demands s) (fun o _ (b : (Str × (List Int))) => O.data o = Enc.e b) (fun _ => True) (b_law_rounds_3 [some (oF count), some (oF demands), some ((oL oF) times), some ((oL oF) causes), some (oF last), none, some (oF k), none, none, none, none, none]) (t_law_rounds_3 demands k times causes last) := by
  unfold b_law_rounds_3 t_law_rounds_3
  exact (q_tup0 (fun ⟨i, j, wait⟩ => [(7, Enc.e i), (8, Enc.e j), (9, Enc.e wait)]) (t_exF (t_2 o_idx (t_var 1 demands) (t_var 6 k))) trivial (fun ⟨i, j, wait⟩ => rfl) fun ⟨i, j, wait⟩ => (q_at (ρ' := [some (oF count), some (oF demands), some ((oL oF) times), some ((oL oF) causes), some (oF last), none, some (oF k), some (oF i), some (oF j), some (oF wait), none, none]) rfl (q_end (q_if (t_tst (t_2 o_gtI (t_2 o_addI (t_2 o_idx (t_varO 2 (oL oF) times (dL dF)) (t_varO 7 oF i dF)) (t_varO 9 oF wait dF)) (t_2 o_idx (t_varO 2 (oL oF) times (dL dF)) (t_varO 8 oF j dF)))) trivial (q_assoc (q_setI (ox := oF) 2 times (p_x (t_exB (t_2 o_addI (t_2 o_idx (t_varO 2 (oL oF) times (dL dF)) (t_varO 7 oF i dF)) (t_varO 9 oF wait dF)))) (t_exF (t_var 8 j)) trivial fun times => (q_at (ρ' := [some (oF count), some (oF demands), some ((oL oF) times), some ((oL oF) causes), some (oF last), none, some (oF k), some (oF i), some (oF j), some (oF wait), none, none]) rfl (q_assoc (q_setI (ox := oF) 3 causes (p_x (t_exF (t_var 6 k))) (t_exF (t_var 8 j)) trivial fun causes => (q_at (ρ' := [some (oF count), some (oF demands), some ((oL oF) times), some ((oL oF) causes), some (oF last), none, some (oF k), some (oF i), some (oF j), some (oF wait), none, none]) rfl (q_assoc (q_set (p_x (t_exF (t_var 8 j))) trivial fun last => (q_at (ρ' := [some (oF count), some (oF demands), some ((oL oF) times), some ((oL oF) causes), some (oF last), none, some (oF k), some (oF i), some (oF j), some (oF wait), none, none]) rfl (q_pre (q_at (ρ' := [some (oF count), some (oF demands), some ((oL oF) times), some ((oL oF) causes), some (oF last), none, none, none, none, none, none, none]) rfl (q_nxs (q_nx (times, causes, (some last)) rfl))))))))))))) (q_pre (q_at (ρ' := [some (oF count), some (oF demands), some ((oL oF) times), some ((oL oF) causes), some (oF last), none, none, none, none, none, none, none]) rfl (q_nxs (q_nx (times, causes, last) rfl))))))))
theorem ty_law_rounds_4 (count : Int) (demands : (List (T3 Int Int Int))) (lap : Int) (times : (List Int)) (causes : (List Int)) (last : (Option Int)) {Z : OEnv → Prop} : SQ (fun s ρ => kill [5, 6, 7, 8, 9] ρ = E_law_rounds_4 count demands s) (fun s ρ => ρ = E_law_rounds_4 count demands s) (fun o _ (b : (Str × (List Int))) => O.data o = Enc.e b) (fun _ => True) (b_law_rounds_4 [some (oF count), some (oF demands), some ((oL oF) times), some ((oL oF) causes), some (oF last), some (oF lap), none, none, none, none, none, none]) (t_law_rounds_4 demands lap times causes last) := by
  unfold b_law_rounds_4 t_law_rounds_4
  exact (q_set (p_x (t_exF (t_c ()))) trivial fun last => (q_at (ρ' := [some (oF count), some (oF demands), some ((oL oF) times), some ((oL oF) causes), some (oF last), some (oF lap), none, none, none, none, none, none]) rfl (q_pre0 (q_at (ρ' := [some (oF count), some (oF demands), some ((oL oF) times), some ((oL oF) causes), some (oF last), none, none, none, none, none, none, none]) rfl (q_for (E_law_rounds_3 count demands) (fun k => [(6, Enc.e k)]) (times, causes, none) (t_x1 o_range1 (t_exF (t_call1 o_len (t_var 1 demands)))) trivial rfl (fun k => rfl) (fun ⟨times, causes, last⟩ => rfl) (fun k ⟨times, causes, last⟩ => ty_law_rounds_3 count demands k times causes last (Z := fun _ => True)) fun ⟨times, causes, last⟩ => (q_at (ρ' := [some (oF count), some (oF demands), some ((oL oF) times), some ((oL oF) causes), some (oF last), none, none, none, none, none, none, none]) rfl (q_end (q_if (t_tst (t_1 o_isnoneO (t_varO 4 oF last dF))) trivial (q_pre (q_at ((freeze1 (ox := (oL oF)) 2 times (dL dF)).trans (freeze1 (ox := (oL oF)) 3 causes (dL dF))) (q_at (ρ' := [some (oF count), some (oF demands), some (oF times), some (oF causes), some (oF last), none, none, none, none, none, none, none]) rfl (q_ret (f := fun r_ => (r_ : (Str × (List Int)))) (p_x (t_exF (t_tup2 (t_c ("times" : Str)) (t_var 2 times)))) trivial (fun _ => dF _))))) (q_nxs (q_nx (times, causes, last) rfl))))))))))
theorem ty_law_rounds_5 (count : Int) (demands : (List (T3 Int Int Int))) (causes : (List Int)) (k : Int) (last : (Option Int)) {Z : OEnv → Prop} : SQ (fun s ρ => kill [6] ρ = E_law_rounds_5 count demands causes s) (fun s ρ => ρ = E_law_rounds_5 count demands causes s) (fun o _ (b : (Str × (List Int))) => O.data o = Enc.e b) (fun _ => True) (b_law_rounds_5 [some (oF count), some (oF demands), none, some (oF causes), some (oF last), none, some (oF k), none, none, none, none, none]) (t_law_rounds_5 demands causes k last) := by
  unfold b_law_rounds_5 t_law_rounds_5
  exact (q_end (q_set (p_x (t_exF (o_pj (p := T3.a) (ha := (t_2 o_idx (t_var 1 demands) (t_2 o_idx (t_var 3 causes) (t_co Co.some (t_var 4 last)))))))) trivial fun last => (q_at (ρ' := [some (oF count), some (oF demands), none, some (oF causes), some (oF last), none, some (oF k), none, none, none, none, none]) rfl (q_nx (some last) rfl))))
theorem ty_law_rounds_6 (demands : (List (T3 Int Int Int))) (causes : (List Int)) (last : (Option Int)) (k : Int) (ring : (List Int)) (event : (Option Int)) {Z : OEnv → Prop} : SQ (fun s ρ => kill [6] ρ = E_law_rounds_6 demands causes last s) (fun s ρ => ρ = E_law_rounds_6 demands causes last s) (fun o _ (b : (Str × (List Int))) => O.data o = Enc.e b) (fun _ => True) (b_law_rounds_6 [none, some (oF demands), none, some (oF causes), some (oF last), none, some (oF k), none, none, none, some (oF ring), some (oF event)]) (t_law_rounds_6 demands causes last k ring event) := by
  unfold b_law_rounds_6 t_law_rounds_6
  exact (q_set (p_x (t_exF (t_2 o_addL (t_list (t_cons (t_2 o_idx (t_var 3 causes) (t_co Co.some (t_var 11 event))) (t_nil (α := Int)))) (t_var 10 ring)))) trivial fun ring => (q_at (ρ' := [none, some (oF demands), none, some (oF causes), some (oF last), none, some (oF k), none, none, none, some (oF ring), some (oF event)]) rfl (q_set (p_x (t_exF (o_pj (p := T3.a) (ha := (t_2 o_idx (t_var 1 demands) (t_2 o_idx (t_var 3 causes) (t_co Co.some (t_var 11 event)))))))) trivial fun event => (q_at (ρ' := [none, some (oF demands), none, some (oF causes), some (oF last), none, some (oF k), none, none, none, some (oF ring), some (oF event)]) rfl (q_end (q_if (t_tst (t_2 o_eq (t_co Co.just (t_varO 11 oF event dF)) (t_varO 4 oF last dF))) trivial (q_ret (f := fun r_ => (r_ : (Str × (List Int)))) (p_x (t_exF (t_tup2 (t_c ("ring" : Str)) (t_var 10 ring)))) trivial (fun _ => dF _)) (q_pre (q_at (ρ' := [none, some (oF demands), none, some (oF causes), some (oF last), none, none, none, none, none, some (oF ring), some (oF event)]) rfl (q_nxs (q_nx (ring, (some event)) rfl))))))))))
theorem ty_law_rounds (count : Int) (demands : (List (T3 Int Int Int))) : TEq (m_law_rounds [Enc.e count, Enc.e demands]) (t_law_rounds count demands) := by
  rw [r_law_rounds]
  unfold g_law_rounds t_law_rounds
  exact fn_T (E := fun _ _ => True) (L := fun _ _ => True) (q_set (p_frF (t_map (fun k => [(6, Enc.e k)]) (t_i1 o_range1 (t_var 0 count)) (fun k => rfl) (fun k => (t_c (0 : Int))))) trivial fun times => (q_at (ρ' := [some (oF count), some (oF demands), some ((oL oF) times), none, none, none, none, none, none, none, none, none]) rfl (q_set (p_frF (t_map (fun k => [(6, Enc.e k)]) (t_i1 o_range1 (t_var 0 count)) (fun k => rfl) (fun k => (t_c (0 : Int))))) trivial fun causes => (q_at (ρ' := [some (oF count), some (oF demands), some ((oL oF) times), some ((oL oF) causes), none, none, none, none, none, none, none, none]) rfl (q_set (p_x (t_exF (t_c ()))) trivial fun last => (q_at (ρ' := [some (oF count), some (oF demands), some ((oL oF) times), some ((oL oF) causes), some (oF last), none, none, none, none, none, none, none]) rfl (q_for (E_law_rounds_4 count demands) (fun lap => [(5, Enc.e lap)]) (times, causes, none) (t_x1 o_range1 (t_exF (t_var 0 count))) trivial rfl (fun lap => rfl) (fun ⟨times, causes, last⟩ => rfl) (fun lap ⟨times, causes, last⟩ => ty_law_rounds_4 count demands lap times causes last (Z := fun _ => True)) fun ⟨times, causes, last⟩ => (q_at (ρ' := [some (oF count), some (oF demands), some ((oL oF) times), some ((oL oF) causes), some (oF last), none, none, none, none, none, none, none]) rfl (q_pre0 (q_at (ρ' := [some (oF count), some (oF demands), none, some ((oL oF) causes), some (oF last), none, none, none, none, none, none, none]) rfl (q_pre0 (q_at (freeze1 (ox := (oL oF)) 3 causes (dL dF)) (q_at (ρ' := [some (oF count), some (oF demands), none, some (oF causes), some (oF last), none, none, none, none, none, none, none]) rfl (q_for (E_law_rounds_5 count demands causes) (fun k => [(6, Enc.e k)]) last (t_x1 o_range1 (t_exF (t_var 0 count))) trivial rfl (fun k => rfl) (fun last => rfl) (fun k last => ty_law_rounds_5 count demands causes k last (Z := fun _ => True)) fun last => (q_at (ρ' := [some (oF count), some (oF demands), none, some (oF causes), some (oF last), none, none, none, none, none, none, none]) rfl (q_pre0 (q_at (ρ' := [some (oF count), some (oF demands), none, some (oF causes), some (oF last), none, none, none, none, none, none, none]) rfl (q_set (p_x (t_exF (t_list (t_nil (α := Int))))) trivial fun ring => (q_at (ρ' := [some (oF count), some (oF demands), none, some (oF causes), some (oF last), none, none, none, none, none, some (oF ring), none]) rfl (q_set (p_x (t_exF (t_var 4 last))) trivial fun event => (q_at (ρ' := [some (oF count), some (oF demands), none, some (oF causes), some (oF last), none, none, none, none, none, some (oF ring), some (oF event)]) rfl (q_forK (E_law_rounds_6 demands causes last) (fun k => [(6, Enc.e k)]) (ring, event) (t_x1 o_range1 (t_exF (t_var 0 count))) trivial rfl (fun k => rfl) (fun ⟨ring, event⟩ => rfl) (fun k ⟨ring, event⟩ => ty_law_rounds_6 demands causes last k ring event (Z := fun _ => True)) fun ⟨ring, event⟩ => (q_at (ρ' := [none, some (oF demands), none, some (oF causes), some (oF last), none, none, none, none, none, some (oF ring), some (oF event)]) rfl (q_pre0 (q_at (ρ' := [none, none, none, none, none, none, none, none, none, none, none, none]) rfl (q_end (q_retC (Co.p2 (fun _ => rfl) Co.nil) (fun _ => dF _) (p_x (t_exF (t_tup2 (t_c ("ring" : Str)) (t_list (t_nil (α := Empty)))))) trivial))))))))))))))))))))))))))) (fun _ => trivial)
theorem ty_law_planted (count : Int) (demands : (List (T3 Int Int Int))) (draws : (List Int)) : TEq (m_law_planted [Enc.e count, Enc.e demands, Enc.e draws]) (t_law_planted count demands draws) := by
  rw [r_law_planted]
  unfold g_law_planted t_law_planted
  exact fn_T (E := fun _ _ => True) (L := fun _ _ => True) (q_set (p_x (t_exF (t_2 o_addI (t_c (1 : Int)) (t_2 o_modI (t_2 o_idx (t_var 2 draws) (t_c (0 : Int))) (t_c (4 : Int)))))) trivial fun size => (q_at (ρ' := [some (oF count), some (oF demands), some (oF draws), some (oF size), none, none, none, none, none, none, none, none, none]) rfl (q_set (p_x (t_exF (t_list (t_map (fun k => [(11, Enc.e k)]) (t_i1 o_range1 (t_var 3 size)) (fun k => rfl) (fun k => (t_2 o_modI (t_2 o_idx (t_var 2 draws) (t_2 o_addI (t_c (1 : Int)) (t_var 11 k))) (t_var 0 count))))))) trivial fun events => (q_at (ρ' := [some (oF count), some (oF demands), some (oF draws), some (oF size), some (oF events), none, none, none, none, none, none, none, none]) rfl (q_set (p_frF (t_map (fun k => [(11, Enc.e k)]) (t_i1 o_range1 (t_var 3 size)) (fun k => rfl) (fun k => (t_tup3 (t_2 o_idx (t_var 4 events) (t_var 11 k)) (t_2 o_idx (t_var 4 events) (t_2 o_modI (t_call1 o_int (t_2 o_addI (t_var 11 k) (t_c (1 : Int)))) (t_var 3 size))) (t_2 o_subI (t_2 o_modI (t_2 o_idx (t_var 2 draws) (t_2 o_addI (t_c (5 : Int)) (t_var 11 k))) (t_c (9 : Int))) (t_c (4 : Int))))))) trivial fun links => (q_at (ρ' := [some (oF count), some (oF demands), some (oF draws), some (oF size), some (oF events), some ((oL oF) links), none, none, none, none, none, none, none]) rfl (q_set (p_x (t_exB (t_call1 o_sum (t_list (t_map (fun link => [(12, Enc.e link)]) (t_isq (t_varO 5 (oL oF) links (dL dF))) (fun link => rfl) (fun link => (o_pj (p := T3.c) (ha := (t_var 12 link))))))))) trivial fun total => (q_at (ρ' := [some (oF count), some (oF demands), some (oF draws), some (oF size), some (oF events), some ((oL oF) links), some (oF total), none, none, none, none, none, none]) rfl (q_tup0 (fun ⟨i, j, wait⟩ => [(7, Enc.e i), (8, Enc.e j), (9, Enc.e wait)]) (t_exB (t_2 o_idx (t_varO 5 (oL oF) links (dL dF)) (t_c (0 : Int)))) trivial (fun ⟨i, j, wait⟩ => rfl) fun ⟨i, j, wait⟩ => (q_at (ρ' := [some (oF count), some (oF demands), some (oF draws), some (oF size), some (oF events), some ((oL oF) links), some (oF total), some (oF i), some (oF j), some (oF wait), none, none, none]) rfl (q_setI (ox := oF) 5 links (p_x (t_exF (t_tup3 (t_var 7 i) (t_var 8 j) (t_2 o_addI (t_2 o_subI (t_var 9 wait) (t_var 6 total)) (t_2 o_idx (t_list (t_cons (t_c (1 : Int)) (t_cons (t_c (1 : Int)) (t_cons (t_2 o_addI (t_c (2 : Int)) (t_2 o_idx (t_var 2 draws) (t_c (9 : Int)))) (t_cons (t_2 o_powI (t_c (10 : Int)) (t_c (26 : Int))) (t_nil (α := Int))))))) (t_2 o_modI (t_2 o_idx (t_var 2 draws) (t_c (10 : Int))) (t_c (4 : Int)))))))) (t_exF (t_c (0 : Int))) trivial fun links => (q_at (ρ' := [some (oF count), some (oF demands), some (oF draws), some (oF size), some (oF events), some ((oL oF) links), some (oF total), some (oF i), some (oF j), some (oF wait), none, none, none]) rfl (q_pre0 (q_at (freeze1 (ox := (oL oF)) 5 links (dL dF)) (q_at (ρ' := [some (oF count), some (oF demands), some (oF draws), some (oF size), some (oF events), some (oF links), some (oF total), some (oF i), some (oF j), some (oF wait), none, none, none]) rfl (q_set (p_x (t_exF (t_2 o_modI (t_2 o_idx (t_var 2 draws) (t_c (11 : Int))) (t_2 o_addI (t_call1 o_len (t_var 1 demands)) (t_c (1 : Int)))))) trivial fun spot => (q_at (ρ' := [some (oF count), some (oF demands), some (oF draws), some (oF size), some (oF events), some (oF links), some (oF total), some (oF i), some (oF j), some (oF wait), some (oF spot), none, none]) rfl (q_end (q_ret (f := fun r_ => (r_ : (List (T3 Int Int Int)))) (p_x (t_exF (t_2 o_idx (t_list (t_cons (t_2 o_addL (t_var 5 links) (t_var 1 demands)) (t_cons (t_2 o_addL (t_var 1 demands) (t_var 5 links)) (t_cons (t_2 o_addL (t_2 o_addL (t_slice (t_var 1 demands) (t_part (t_c (0 : Int))) (t_part (t_var 10 spot))) (t_var 5 links)) (t_slice (t_var 1 demands) (t_part (t_var 10 spot)) t_nopart)) (t_nil (α := (List (T3 Int Int Int)))))))) (t_2 o_modI (t_2 o_idx (t_var 2 draws) (t_c (12 : Int))) (t_c (3 : Int)))))) trivial (fun _ => dF _)))))))))))))))))))) (fun _ => trivial)
theorem ty_law_1 (script : (List Int)) (count : Int) (some_ : (List (T3 Int Int Int))) (rings : Int) {Z : OEnv → Prop} : SQ (fun s ρ => kill [6, 7, 8, 9] ρ = E_law_1 script count s) (fun s ρ => ρ = E_law_1 script count s) (fun o _ (b : Bool) => O.data o = Enc.e b) (fun _ => True) (b_law_1 [some (oF script), some (oF rings), none, some (oF count), none, none, some (oF some_), none, none, none]) (t_law_1 count some_ rings) := by
  unfold b_law_1 t_law_1
  exact (q_set (p_x (t_exF (t_list (t_isq (t_var 6 some_))))) trivial fun kept => (q_at (ρ' := [some (oF script), some (oF rings), none, some (oF count), none, none, some (oF some_), some (oF kept), none, none]) rfl (q_set (p_x (t_exF (t_call2 ty_law_rounds (t_var 3 count) (t_var 7 kept)))) trivial fun due => (q_at (ρ' := [some (oF script), some (oF rings), none, some (oF count), none, none, some (oF some_), some (oF kept), some (oF due), none]) rfl (q_set (p_call (ox := (oT2 oF (oL oF))) (a_1 (t_var 3 count) fun a0_ => (a_1 (t_var 6 some_) fun a1_ => (a_0 (tyO_timetable a0_ a1_))))) trivial fun told => (q_at (ρ' := [some (oF script), some (oF rings), none, some (oF count), none, none, some (oF some_), some (oF kept), some (oF due), some ((oT2 oF (oL oF)) told)]) rfl (q_if (t_tor (t_tnot (t_ttr o_truB (t_call2 (ty_law_same 10) (t_co Co.up (t_varO 9 (oT2 oF (oL oF)) told (dT2 dF (dL dF)))) (t_co Co.up (t_varO 8 oF due dF))))) (t_tst (t_2 o_ne (t_varO 6 oF some_ dF) (t_varO 7 oF kept dF)))) trivial (q_pre (q_at (freeze1 (ox := (oT2 oF (oL oF))) 9 told (dT2 dF (dL dF))) (q_at (ρ' := [some (oF script), some (oF rings), none, some (oF count), none, none, some (oF some_), some (oF kept), some (oF due), some (oF told)]) rfl (q_ret (f := fun r_ => (r_ : Bool)) (p_x (t_exF (t_c false))) trivial (fun _ => dF _))))) (q_pre (q_at (ρ' := [some (oF script), some (oF rings), none, some (oF count), none, none, some (oF some_), none, some (oF due), some ((oT2 oF (oL oF)) told)]) rfl (q_nxs (q_mut0P (tf := tpopL) (ll := fun (told : (Str × (List (Option Int)))) => ((R.ok ()).tr fun n_ => tfd ((fun (_ : Unit) (x_ : (Str × (List (Option Int)))) => some x_.2) n_ told) fun ys_ => (b1 cJust (b1 tnegI (R.ok (1 : Int)))).tr fun a_ => (tapp ys_ a_).tr fun zs_ => (fun (told : (Str × (List (Option Int)))) => (tite (b1 tnotB (b1 tid (b2 (t_law_same 10) (b1 cUp (b2 t_timetable (R.ok count) (R.ok some_))) (b1 cUp (R.ok due))))) ((R.ok false).tr fun r_ => TR.rt r_) ((b2 taddI (R.ok rings) (b1 tintB (b2 teq (b1 (pj Prod.fst) (R.ok due)) (R.ok ("ring" : Str))))).tr fun rings => (TR.nx rings)))) ((fun (_ : Unit) (x_ : (Str × (List (Option Int)))) (zs : (List (Option Int))) => (x_.1, zs)) n_ told zs_))) (f_pop _) 9 (get := (fun (_ : Unit) (x_ : (Str × (List (Option Int)))) => some x_.2)) (set := (fun (_ : Unit) (x_ : (Str × (List (Option Int)))) (zs : (List (Option Int))) => (x_.1, zs))) told (fun _ => lq_22) (l_idxT 9 1 (x := (oT2 oF (oL oF)) told) rfl (j := 1) rfl rfl rfl) trivial fun told => (q_at (ρ' := [some (oF script), some (oF rings), none, some (oF count), none, none, some (oF some_), none, some (oF due), some ((oT2 oF (oL oF)) told)]) rfl (q_appP (ll := fun (told : (Str × (List (Option Int)))) => (tite (b1 tnotB (b1 tid (b2 (t_law_same 10) (b1 cUp (b2 t_timetable (R.ok count) (R.ok some_))) (b1 cUp (R.ok due))))) ((R.ok false).tr fun r_ => TR.rt r_) ((b2 taddI (R.ok rings) (b1 tintB (b2 teq (b1 (pj Prod.fst) (R.ok due)) (R.ok ("ring" : Str))))).tr fun rings => (TR.nx rings)))) 9 (get := (fun (_ : Unit) (x_ : (Str × (List (Option Int)))) => some x_.2)) (set := (fun (_ : Unit) (x_ : (Str × (List (Option Int)))) (zs : (List (Option Int))) => (x_.1, zs))) told (fun _ => lq_22) (l_idxT 9 1 (x := (oT2 oF (oL oF)) told) rfl (j := 1) rfl rfl rfl) (n_x (t_exF (t_co Co.just (t_1 o_negI (t_c (1 : Int)))))) trivial fun told => (q_at (ρ' := [some (oF script), some (oF rings), none, some (oF count), none, none, some (oF some_), none, some (oF due), some ((oT2 oF (oL oF)) told)]) rfl (q_pre0 (q_at (freeze1 (ox := (oT2 oF (oL oF))) 9 told (dT2 dF (dL dF))) (q_at (ρ' := [some (oF script), some (oF rings), none, some (oF count), none, none, some (oF some_), none, some (oF due), some (oF told)]) rfl (q_if (t_tnot (t_ttr o_truB (t_call2 (ty_law_same 10) (t_co Co.up (t_call2 ty_timetable (t_varO 3 oF count dF) (t_varO 6 oF some_ dF))) (t_co Co.up (t_varO 8 oF due dF))))) trivial (q_ret (f := fun r_ => (r_ : Bool)) (p_x (t_exF (t_c false))) trivial (fun _ => dF _)) (q_pre (q_at (ρ' := [some (oF script), some (oF rings), none, some (oF count), none, none, none, none, some (oF due), none]) rfl (q_nxs (q_end (q_set (p_x (t_exF (t_2 o_addI (t_var 1 rings) (t_call1 o_intB (t_2 o_eq (o_pj (p := Prod.fst) (ha := (t_var 8 due))) (t_c ("ring" : Str))))))) trivial fun rings => (q_at (ρ' := [some (oF script), some (oF rings), none, some (oF count), none, none, none, none, some (oF due), none]) rfl (q_nx rings rfl)))))))))))))))))))))))))
theorem ty_law_2 (script : (List Int)) (at_ : Int) (rings : Int) {Z : OEnv → Prop} : SQ (fun s ρ => kill [2, 3, 4, 5, 6, 7, 8, 9] ρ = E_law_2 script s) (fun s ρ => ρ = E_law_2 script s) (fun o _ (b : Bool) => O.data o = Enc.e b) (fun _ => True) (b_law_2 [some (oF script), some (oF rings), some (oF at_), none, none, none, none, none, none, none]) (t_law_2 script at_ rings) := by
  unfold b_law_2 t_law_2
  exact (q_tup0 (fun ⟨count, demands⟩ => [(3, Enc.e count), (4, Enc.e demands)]) (t_exF (t_call3 ty_law_world (t_var 0 script) (t_2 o_mulI (t_c (3 : Int)) (t_var 2 at_)) (t_2 o_idx (t_list (t_cons (t_c (8 : Int)) (t_cons (t_c (8 : Int)) (t_cons (t_c (16 : Int)) (t_nil (α := Int)))))) (t_var 2 at_)))) trivial (fun ⟨count, demands⟩ => rfl) fun ⟨count, demands⟩ => (q_at (ρ' := [some (oF script), some (oF rings), some (oF at_), some (oF count), some (oF demands), none, none, none, none, none]) rfl (q_set (p_x (t_exF (t_call3 ty_law_numbers (t_call2 ty_law_cell (t_var 0 script) (t_2 o_addI (t_c (9 : Int)) (t_var 2 at_))) (t_c (13 : Int)) (t_c (5040 : Int))))) trivial fun draws => (q_at (ρ' := [some (oF script), some (oF rings), some (oF at_), some (oF count), some (oF demands), some (oF draws), none, none, none, none]) rfl (q_pre0 (q_at (ρ' := [some (oF script), some (oF rings), none, some (oF count), some (oF demands), some (oF draws), none, none, none, none]) rfl (q_end (q_forK (E_law_1 script count) (fun some_ => [(6, Enc.e some_)]) rings (t_isq (t_list (t_cons (t_var 4 demands) (t_cons (t_call3 ty_law_planted (t_var 3 count) (t_var 4 demands) (t_var 5 draws)) (t_cons (t_var 4 demands) (t_nil (α := (List (T3 Int Int Int))))))))) trivial rfl (fun some_ => rfl) (fun rings => rfl) (fun some_ rings => ty_law_1 script count some_ rings (Z := fun _ => True)) fun rings => (q_at (ρ' := [some (oF script), some (oF rings), none, some (oF count), none, none, none, none, none, none]) rfl (q_nx rings rfl))))))))))
theorem ty_law (script : (List Int)) : TEq (m_law [Enc.e script]) (t_law script) := by
  rw [r_law]
  unfold g_law t_law
  exact fn_T (E := fun _ _ => True) (L := fun _ _ => True) (q_set (p_x (t_exF (t_c (0 : Int)))) trivial fun rings => (q_at (ρ' := [some (oF script), some (oF rings), none, none, none, none, none, none, none, none]) rfl (q_for (E_law_2 script) (fun at_ => [(2, Enc.e at_)]) rings (t_x1 o_range1 (t_exF (t_c (3 : Int)))) trivial rfl (fun at_ => rfl) (fun rings => rfl) (fun at_ rings => ty_law_2 script at_ rings (Z := fun _ => True)) fun rings => (q_at (ρ' := [some (oF script), some (oF rings), none, none, none, none, none, none, none, none]) rfl (q_pre0 (q_at (ρ' := [none, some (oF rings), none, none, none, none, none, none, none, none]) rfl (q_end (q_ret (f := fun r_ => (r_ : Bool)) (p_x (t_exF (t_2 o_geI (t_var 1 rings) (t_c (3 : Int))))) trivial (fun _ => dF _))))))))) (fun _ => trivial)
theorem law_T (h : ∀ ns : List Int, ns.length ≤ 63 → t_law ns = .ok true) : ∀ ns : List Int, ns.length ≤ 63 → m_law [.list (ns.map PyData.int)] = .ok (.bool true) := fun ns hl => (ty_law ns).ok (h ns hl)
theorem numbersT (c : Int) (n : Nat) (m lim : Int) (hm : m = (n : Int)) (hn : n ≤ 100000) (h0 : 0 < lim) (h1 : lim < 2 ^ 250) : ∃ ds, Dr n lim ds ∧ t_law_numbers c m lim = .ok ds := by
  subst hm
  have p1 : tpowI 10 18 = .ok (1000000000000000000 : Int) := tpowI_ok (by decide)
  have tr := trange1_nat (show n ≤ 16777216 by omega)
  by_cases hb : (1000000000000000000 : Int) ≤ c
  · obtain ⟨⟨c', ds⟩, e1, e2⟩ := forT_ix (l := Empty) (f := fun k (s : Int × List Int) => t_law_numbers_1 lim k s.1 s.2) (fun i s => Dr i lim s.2) (rangeI 0 n) 0 (c, []) ⟨rfl, fun _ h => nomatch h⟩ (fun i a s hi hs => by
      obtain ⟨c', ds⟩ := s
      have hi' := (rangeI_get hi).1
      have hl : ds.length < 16777216 := by have := hs.1; simp at this; omega
      refine ⟨(c' / lim, ds ++ [c' % lim]), .inl ?_, hs.snoc (Int.emod_nonneg _ (by omega)) (Int.emod_lt_of_pos _ h0)⟩
      simp [t_law_numbers_1, h0, tapp_ok hl, tfdivI_pos h0 h1])
    refine ⟨ds, by simpa using e2, ?_⟩
    simp [t_law_numbers, p1, hb, tr]
    erw [e1]
    rfl
  · obtain ⟨ds, e1, e2⟩ := forT_ix (l := Empty) (f := fun k s => t_law_numbers_2 c lim k s) (fun i s => Dr i lim s) (rangeI 0 n) 0 [] ⟨rfl, fun _ h => nomatch h⟩ (fun i a ds hi hs => by
      have hi' := (rangeI_get hi).1
      have hl : ds.length < 16777216 := by have := hs.1; omega
      have m0 : tmulI c 48271 = .ok (c * 48271) := tmulI_r .lit
      have m1 : tmulI a 69621 = .ok (a * 69621) := tmulI_r .lit
      have m2 : tmulI a 16807 = .ok (a * 16807) := tmulI_r .lit
      have m3 : ∀ x, tmulI (x % 2147483647) 40692 = .ok (x % 2147483647 * 40692) := fun x => tmulI_r .lit
      have m4 : ∀ x, tmulI (x % 2147483647) (x % 2147483647) = .ok (x % 2147483647 * (x % 2147483647)) := fun x => tmulI_r (sm_of (by
        have a1 := Int.emod_nonneg x (b := 2147483647) (by omega)
        have a2 := Int.emod_lt_of_pos x (b := 2147483647) (by omega)
        omega))
      have m5 : ∀ x, tfdivI x 32 = .ok (x / 32) := fun x => tfdivI_pos (by omega) (by decide)
      have st : ∃ x, t_law_numbers_2 c lim a ds = .nx (ds ++ [x % lim]) := ⟨_, by simp [t_law_numbers_2, h0, tapp_ok hl, m0, m1, m2, m3, m4, m5]; rfl⟩
      obtain ⟨x, st⟩ := st
      exact ⟨_, .inl st, hs.snoc (Int.emod_nonneg _ (by omega)) (Int.emod_lt_of_pos _ h0)⟩)
    refine ⟨ds, by simpa using e2, ?_⟩
    simp [t_law_numbers, p1, hb, tr, e1]

theorem cellT (ns : List Int) (k : Nat) : t_law_cell ns (k : Int) = .ok (ns.getD k 0) := by
  by_cases h1 : k < ns.length
  · simp [t_law_cell, h1, tidx_lt h1]
  · simp [t_law_cell, h1]

theorem numbers_wp {c m lim : Int} {P : List Int → Prop} (hm : 0 ≤ m) (hn : m ≤ 100000) (h0 : 0 < lim) (h1 : lim < 1000000000000) (k : ∀ ds, Dr m.toNat lim ds → P ds) : Ok (t_law_numbers c m lim) P := by
  obtain ⟨ds, h, e⟩ := numbersT c m.toNat m lim (by omega) (by omega) h0 (Int.lt_trans h1 (by decide))
  exact ⟨ds, e, k ds h⟩
theorem cell_wp {ns : List Int} {i : Int} {P : Int → Prop} (h : 0 ≤ i) (k : ∀ c, P c) : Ok (t_law_cell ns i) P := by
  have e := cellT ns i.toNat
  rw [show ((i.toNat : Nat) : Int) = i by omega] at e
  exact ⟨_, e, k _⟩
local macro_rules | `(tactic| rotate_right) => `(tactic| (
  (try simp only [Ok_ok, Ok_bind, Ok_calm, Ok_fn, Tk_tr, Tk_bind, Tk_nx, Tk_rt, Tk_ct, Tk_bk, b1_ap, b2_ap, b3_ap, b4_ap, b5_ap, b6_ap, tcons_ap, R.bind_ok, R.tr_ok, taddI_ap, tsubI_ap, tnegI_ap, tlen_ap, tint_ap, tpart_ap, tcut_ap, tid_ap, mk2_ap, mk3_ap, mk4_ap, pj_ap, tmax2_ap, tmin2_ap, tsum_ap, tite_ap, Tk_ite, Ok_ite, tltI_ap, tleI_ap, tgtI_ap, tgeI_ap, teq_int, tne_int, decide_eq_true_eq, Bool.not_eq_true', decide_eq_false_iff_not]);
  first
  | (refine Dr.wp (by assumption) (by omega) (by omega) fun _ _ _ => ?_)
  | (refine tmod_wp (by omega) fun _ _ => ?_)
  | (refine trange1_wp (by omega) (by omega) ?_)
  | (refine tfdiv_wp (by omega) (by omega) ?_)
  | (refine tmul_wpl (by omega) (by omega) ?_)
  | (refine tmul_wpr (by omega) (by omega) ?_)
  | (refine tapp_wp (by omega) ?_)
  | (refine cell_wp (by omega) fun _ => ?_)
  | (refine numbers_wp (by omega) (by omega) (by omega) (by omega) fun _ _ => ?_)))
local macro_rules | `(tactic| ac_rfl) => `(tactic| (
  first
  | split
  | (refine Dr.wp (by assumption) (by omega) (by omega) fun _ _ _ => ?_)
  | (refine tmod_wp (by omega) fun _ _ => ?_)
  | (refine trange1_wp (by omega) (by omega) ?_)
  | (refine tfdiv_wp (by omega) (by omega) ?_)
  | (refine tmul_wpl (by omega) (by omega) ?_)
  | (refine tmul_wpr (by omega) (by omega) ?_)
  | (refine tapp_wp (by omega) ?_)
  | (refine cell_wp (by omega) fun _ => ?_)
  | (refine numbers_wp (by omega) (by omega) (by omega) (by omega) fun _ _ => ?_)
  | (simp only [Ok_ok, Ok_bind, Ok_calm, Ok_fn, Tk_tr, Tk_bind, Tk_nx, Tk_rt, Tk_ct, Tk_bk, b1_ap, b2_ap, b3_ap, b4_ap, b5_ap, b6_ap, tcons_ap, R.bind_ok, R.tr_ok, taddI_ap, tsubI_ap, tnegI_ap, tlen_ap, tint_ap, tpart_ap, tcut_ap, tid_ap, mk2_ap, mk3_ap, mk4_ap, pj_ap, tmax2_ap, tmin2_ap, tsum_ap, tite_ap, Tk_ite, Ok_ite, tltI_ap, tleI_ap, tgtI_ap, tgeI_ap, teq_int, tne_int, decide_eq_true_eq, Bool.not_eq_true', decide_eq_false_iff_not])))

/-! ### demands, times, the clock -/
abbrev Dm := T3 Int Int Int
def g0 (ts : List Int) (i : Int) : Int := ts.getD i.toNat 0
def gd (ds : List Dm) (i : Int) : Dm := ds.getD i.toNat ⟨0, 0, 0⟩
theorem ixD {α : Type} {xs : List α} {i : Int} (z : α) (h0 : 0 ≤ i) (h1 : i < xs.length) : tidx xs i = .ok (xs.getD i.toNat z) := by
  have hl : i.toNat < xs.length := by omega
  exact tidx_of (k := i.toNat) (by omega) (by simp [hl])
theorem ix0 {ts : List Int} {i : Int} (h0 : 0 ≤ i) (h1 : i < ts.length) : tidx ts i = .ok (g0 ts i) := ixD 0 h0 h1
theorem ixd {ds : List Dm} {i : Int} (h0 : 0 ≤ i) (h1 : i < ds.length) : tidx ds i = .ok (gd ds i) := ixD _ h0 h1
theorem gd_mem {ds : List Dm} {i : Int} (h0 : 0 ≤ i) (h1 : i < ds.length) : gd ds i ∈ ds := by
  have hl : i.toNat < ds.length := by omega
  unfold gd; simp [hl]
def WOK (n : Nat) (ds : List Dm) : Prop := ds.length ≤ 1000 ∧ ∀ d ∈ ds, (0 ≤ d.a ∧ d.a < n) ∧ 0 ≤ d.b ∧ d.b < n
abbrev Ck := In "Clock" cn_Clock_3 (T3 (List (T3 Int Int Int)) (List Int) (List (Option Int)))
abbrev ck (ds : List Dm) (t : List Int) (c : List (Option Int)) : Ck := ⟨⟨ds, t, c⟩⟩
def viol (t : List Int) (d : Dm) : Bool := decide (g0 t d.b < g0 t d.a + d.c)
abbrev St := List Int × List (Option Int) × Option Int
def stp (x : St) (k : Int) (d : Dm) : St := if viol x.1 d = true then (x.1.set d.b.toNat (g0 x.1 d.a + d.c), x.2.1.set d.b.toNat (some k), some d.b) else x
def rnd (ds : List Dm) (x0 : St) : Nat → St
  | 0 => x0
  | i + 1 => stp (rnd ds x0 i) (i : Int) (gd ds (i : Int))
def SL (n : Nat) (x : St) : Prop := x.1.length = n ∧ x.2.1.length = n
theorem stp_len {n : Nat} {x : St} {k : Int} {d : Dm} (h : SL n x) : SL n (stp x k d) := by
  unfold stp; split
  · exact ⟨by simp [h.1], by simp [h.2]⟩
  · exact h
theorem rnd_len {n : Nat} {ds : List Dm} {x : St} (h : SL n x) : ∀ i, SL n (rnd ds x i)
  | 0 => h
  | i + 1 => stp_len (rnd_len h i)
theorem raiseT {n : Nat} {ds : List Dm} {x : St} {k : Int} (h : WOK n ds) (hx : SL n x) (h0 : 0 ≤ k) (h1 : k < ds.length) :
    t_Clock_raise_for (ck ds x.1 x.2.1) k = .ok (viol x.1 (gd ds k), ck ds (stp x k (gd ds k)).1 (stp x k (gd ds k)).2.1) := by
  have b := h.2 _ (gd_mem h0 h1)
  have e := ixd h0 h1
  generalize gd ds k = d at b e
  obtain ⟨t, c, l⟩ := x
  obtain ⟨q1, q2⟩ := hx
  simp only at q1 q2
  obtain ⟨i, j, w⟩ := d
  simp only at b
  have e1 : tidx t i = .ok (g0 t i) := ix0 b.1.1 (by omega)
  have e2 : tidx t j = .ok (g0 t j) := ix0 b.2.1 (by omega)
  have e3 : ∀ v, tset t j v = .ok (t.set j.toNat v) := fun v => tset_of (k := j.toNat) (by omega) (by omega)
  have e4 : ∀ v, tset c j v = .ok (c.set j.toNat v) := fun v => tset_of (k := j.toNat) (by omega) (by omega)
  by_cases q : g0 t j < g0 t i + w
  · have q' : ¬ g0 t i + w ≤ g0 t j := by omega
    simp [t_Clock_raise_for, e, e1, e2, e3, e4, stp, viol, q, q', ck]
  · have q' : g0 t i + w ≤ g0 t j := by omega
    simp [t_Clock_raise_for, e, e1, e2, stp, viol, q, q', ck]
theorem stp_last {x : St} {k : Int} {d : Dm} : (stp x k d).2.2 = if viol x.1 d = true then some d.b else x.2.2 := by unfold stp; split <;> rfl
theorem roundT {n : Nat} {ds : List Dm} {t : List Int} {c : List (Option Int)} (h : WOK n ds) (hx : t.length = n ∧ c.length = n) :
    t_Clock_raise_round (ck ds t c) = .ok ((rnd ds (t, c, none) ds.length).2.2, ck ds (rnd ds (t, c, none) ds.length).1 (rnd ds (t, c, none) ds.length).2.1) := by
  have hx0 : SL n (t, c, none) := hx
  obtain ⟨s', e, p⟩ := forT_ix (l := Empty) (f := fun (x : Int × Dm) (s : Ck × Option Int) => t_Clock_raise_round_1 x.1 x.2 s.1 s.2) (fun i s => s = (ck ds (rnd ds (t, c, none) i).1 (rnd ds (t, c, none) i).2.1, (rnd ds (t, c, none) i).2.2)) (ds.mapIdx fun i d => ((i : Int), d)) 0 (ck ds t c, none) rfl (fun i a s ha hs => by
    rw [Nat.zero_add] at hs ⊢
    subst hs
    have hi : i < ds.length := by
      have := List.getElem?_eq_some_iff.mp ha
      obtain ⟨q, _⟩ := this
      simpa using q
    have ha' : a = ((i : Int), gd ds (i : Int)) := by
      simp [hi] at ha
      rw [← ha]; simp [gd, hi]
    subst ha'
    refine ⟨_, .inl ?_, rfl⟩
    have hr := raiseT (n := n) (k := (i : Int)) h (rnd_len (ds := ds) hx0 i) (by omega) (by omega)
    simp only [t_Clock_raise_round_1, R.bind_ok, hr, R.tr_ok, tite_ap, b1_ap, pj_ap]
    show _ = TR.nx (ck ds (stp _ _ _).1 (stp _ _ _).2.1, (stp _ _ _).2.2)
    rw [stp_last]
    split <;> rfl)
  rw [List.length_mapIdx, Nat.zero_add] at p
  subst p
  have ev : t_Clock_raise_round (ck ds t c) = ((forT (fun (x : Int × Dm) (s : Ck × Option Int) => t_Clock_raise_round_1 x.1 x.2 s.1 s.2) (ds.mapIdx fun i d => ((i : Int), d)) (ck ds t c, none) : TR (Option Int × Ck) Empty (Ck × Option Int)).bind fun s => (TR.rt (s.2, s.1) : TR (Option Int × Ck) Empty Ck)).fn fun s_ => (.stuck : R (Option Int)).bind fun b_ => .ok (b_, s_) := by
    simp [t_Clock_raise_round, ck]
  rw [ev, e]
  rfl
theorem initT {n : Nat} {ds : List Dm} (hn : n ≤ 1000) : t_Clock_init ⟨()⟩ (n : Int) ds = .ok ((), ck ds (List.replicate n 0) (List.replicate n none)) := by
  have h1 : ∀ {α : Type} (a : α), trep [a] (n : Int) = .ok (List.replicate n a) := fun a => by
    unfold trep
    rw [if_pos ⟨by omega, by omega, by simp [sizeLine]; omega⟩]
    congr 1
    induction n with
    | zero => rfl
    | succ m ih =>
      have : ((m + 1 : Nat) : Int).toNat = m + 1 := by omega
      rw [this, List.replicate_succ, List.replicate_succ, List.flatten_cons]
      have ih := ih (by omega)
      rw [show ((m : Nat) : Int).toNat = m by omega] at ih
      rw [ih]; rfl
  have h2 : b1 cNone (R.ok ()) = R.ok (none : Option Int) := rfl
  simp [t_Clock_init, h1, h2, ck]
def go (ds : List Dm) : Nat → St → List Int ⊕ St
  | 0, s => .inr s
  | m + 1, s => if (rnd ds (s.1, s.2.1, none) ds.length).2.2 = none then .inl (rnd ds (s.1, s.2.1, none) ds.length).1 else go ds m (rnd ds (s.1, s.2.1, none) ds.length)
theorem goT {n : Nat} {ds : List Dm} (h : WOK n ds) : ∀ (xs : List Int) (x : St), SL n x → (forT (fun u_ (s : Ck × Option Int) => t_timetable_1 u_ s.1 s.2) xs (ck ds x.1 x.2.1, x.2.2) : TR (Str × List (Option Int)) Empty (Ck × Option Int)) = match go ds xs.length x with
    | .inl t => .rt ("times", t.map some)
    | .inr y => .nx (ck ds y.1 y.2.1, y.2.2)
  | [], x, _ => rfl
  | u :: xs, x, hx => by
    have hr := roundT (t := x.1) (c := x.2.1) h hx
    have hl : SL n (rnd ds (x.1, x.2.1, none) ds.length) := rnd_len (x := (x.1, x.2.1, none)) hx _
    simp only [List.length_cons, go]
    generalize rnd ds (x.1, x.2.1, none) ds.length = y at hr hl
    have e : t_timetable_1 u (ck ds x.1 x.2.1) x.2.2 = if y.2.2 = none then .rt ("times", y.1.map some) else .nx (ck ds y.1 y.2.1, y.2.2) := by
      simp only [t_timetable_1, R.bind_ok, hr, R.tr_ok, tite_ap, b1_ap, b2_ap, pj_ap, mk2_ap]
      cases q : y.2.2 with
      | none => rfl
      | some v => rfl
    cases q : y.2.2 with
    | none =>
      rw [q] at e
      rw [if_pos rfl]
      exact forT_rt e
    | some v =>
      rw [q] at e
      rw [if_neg nofun]
      rw [forT_nx (by rw [e]; rfl), ← q]
      exact goT h xs y hl
/-! the law's way to it -/
def cz (c : List (Option Int)) : List Int := c.map fun o => o.getD 0
theorem lawStep {n : Nat} {ds : List Dm} {x : St} {k : Int} (h : WOK n ds) (hx : SL n x) (h0 : 0 ≤ k) (h1 : k < ds.length) :
    t_law_rounds_3 ds k x.1 (cz x.2.1) x.2.2 = .nx ((stp x k (gd ds k)).1, cz (stp x k (gd ds k)).2.1, (stp x k (gd ds k)).2.2) := by
  have b := h.2 _ (gd_mem h0 h1)
  have e := ixd h0 h1
  generalize gd ds k = d at b e
  obtain ⟨t, c, l⟩ := x
  obtain ⟨q1, q2⟩ := hx
  simp only at q1 q2
  obtain ⟨i, j, w⟩ := d
  simp only at b
  have e1 : tidx t i = .ok (g0 t i) := ix0 b.1.1 (by omega)
  have e2 : tidx t j = .ok (g0 t j) := ix0 b.2.1 (by omega)
  have e3 : ∀ v, tset t j v = .ok (t.set j.toNat v) := fun v => tset_of (k := j.toNat) (by omega) (by omega)
  have e4 : ∀ v, tset (cz c) j v = .ok ((cz c).set j.toNat v) := fun v => tset_of (k := j.toNat) (by omega) (by simp [cz]; omega)
  have e5 : (cz c).set j.toNat k = cz (c.set j.toNat (some k)) := by simp [cz, List.map_set]
  by_cases q : g0 t j < g0 t i + w
  · simp [t_law_rounds_3, e, e1, e2, e3, e4, e5, stp, viol, q]
  · simp [t_law_rounds_3, e, e1, e2, stp, viol, q]
theorem lawRound {n : Nat} {ds : List Dm} {x : St} (lap : Int) (h : WOK n ds) (hx : SL n x) :
    t_law_rounds_4 ds lap x.1 (cz x.2.1) x.2.2 = if (rnd ds (x.1, x.2.1, none) ds.length).2.2 = none then .rt ("times", (rnd ds (x.1, x.2.1, none) ds.length).1) else .nx ((rnd ds (x.1, x.2.1, none) ds.length).1, cz (rnd ds (x.1, x.2.1, none) ds.length).2.1, (rnd ds (x.1, x.2.1, none) ds.length).2.2) := by
  have hx0 : SL n (x.1, x.2.1, none) := hx
  obtain ⟨s', e, p⟩ := forT_ix (l := List Int × List Int × Option Int) (f := fun (k : Int) (s : List Int × List Int × Option Int) => t_law_rounds_3 ds k s.1 s.2.1 s.2.2) (fun i s => s = ((rnd ds (x.1, x.2.1, none) i).1, cz (rnd ds (x.1, x.2.1, none) i).2.1, (rnd ds (x.1, x.2.1, none) i).2.2)) (rangeI 0 ds.length) 0 (x.1, cz x.2.1, none) rfl (fun i a s ha hs => by
    rw [Nat.zero_add] at hs ⊢
    subst hs
    obtain ⟨hi, rfl⟩ := rangeI_get ha
    rw [Int.zero_add]
    exact ⟨_, .inl (lawStep h (rnd_len hx0 i) (by omega) (by omega)), rfl⟩)
  rw [rangeI_len, Nat.zero_add] at p
  subst p
  have hr : trange1 (ds.length : Int) = .ok (rangeI 0 ds.length) := trange1_nat (by have := h.1; omega)
  simp only [t_law_rounds_4, R.tr_ok, b1_ap, R.bind_ok, tlen_ap, hr]
  have e' : (forT (fun k (s : List Int × List Int × Option Int) => match s with | (times, causes, last) => t_law_rounds_3 ds k times causes last) (rangeI 0 ds.length) (x.1, cz x.2.1, none) : TR (Str × List Int) (List Int × List Int × Option Int) (List Int × List Int × Option Int)) = _ := e
  rw [e']
  generalize rnd ds (x.1, x.2.1, none) ds.length = y
  simp only [TR.bind_nx, tite_ap, b1_ap, R.bind_ok]
  cases q : y.2.2 with
  | none => rfl
  | some v => rfl
theorem lawGo {n : Nat} {ds : List Dm} (h : WOK n ds) : ∀ (xs : List Int) (x : St), SL n x → (forT (fun lap (s : List Int × List Int × Option Int) => t_law_rounds_4 ds lap s.1 s.2.1 s.2.2) xs (x.1, cz x.2.1, x.2.2) : TR (Str × List Int) Empty (List Int × List Int × Option Int)) = match go ds xs.length x with
    | .inl t => .rt ("times", t)
    | .inr y => .nx (y.1, cz y.2.1, y.2.2)
  | [], x, _ => rfl
  | u :: xs, x, hx => by
    have e := lawRound u h hx
    have hl : SL n (rnd ds (x.1, x.2.1, none) ds.length) := rnd_len (x := (x.1, x.2.1, none)) hx _
    simp only [List.length_cons, go]
    generalize rnd ds (x.1, x.2.1, none) ds.length = y at e hl
    cases q : y.2.2 with
    | none =>
      rw [q] at e
      rw [if_pos rfl]
      exact forT_rt e
    | some v =>
      rw [q] at e
      rw [if_neg nofun]
      rw [forT_nx (by rw [e]; rfl), ← q]
      exact lawGo h xs y hl
/-! ### who caused whom -/
structure Iv (n : Nat) (ds : List Dm) (R q : Nat) (x : St) (r : Nat → Nat) : Prop where
  len : SL n x
  i1 : ∀ j < n, 1 ≤ r j → ∃ k : Nat, k < ds.length ∧ x.2.1[j]? = some (some (k : Int)) ∧ r j ≤ r (gd ds (k : Int)).a.toNat + 1
  i2 : ∀ k < ds.length, viol x.1 (gd ds (k : Int)) = true → R + (if k < q then 1 else 0) ≤ r (gd ds (k : Int)).a.toNat
  i3 : ∀ e, x.2.2 = some e → 0 ≤ e ∧ e < n ∧ r e.toNat = R + 1
  i4 : ∀ j, r j ≤ R + 1
  i5 : ∀ k < q, k < ds.length → x.2.2 = none → viol x.1 (gd ds (k : Int)) = false
theorem g0_set {t : List Int} {i j v : Int} (hi : 0 ≤ i) (hj : 0 ≤ j) (hl : j < t.length) : g0 (t.set j.toNat v) i = if i = j then v else g0 t i := by
  unfold g0
  by_cases q : i = j
  · subst q
    rw [if_pos rfl, List.getD_eq_getElem?_getD, List.getElem?_set_self (by omega)]; rfl
  · rw [if_neg q, List.getD_eq_getElem?_getD, List.getElem?_set_ne (by omega), List.getD_eq_getElem?_getD]
theorem Iv.step {n : Nat} {ds : List Dm} {R q : Nat} {x : St} {r : Nat → Nat} (w : WOK n ds) (h : Iv n ds R q x r) (hq : q < ds.length) : ∃ r', Iv n ds R (q + 1) (stp x (q : Int) (gd ds (q : Int))) r' := by
  have b : ∀ k : Nat, k < ds.length → _ := fun k hk => w.2 _ (gd_mem (i := (k : Int)) (by omega) (by omega))
  have bq := b q hq
  unfold stp
  cases hv : viol x.1 (gd ds (q : Int)) with
  | false =>
    rw [if_neg nofun]
    refine ⟨r, h.len, h.i1, fun k hk hk2 => ?_, h.i3, h.i4, fun k hk hk2 hn => ?_⟩
    · have := h.i2 k hk hk2
      by_cases e : k = q
      · subst e; rw [hv] at hk2; cases hk2
      · by_cases e2 : k < q
        · rw [if_pos e2] at this; rw [if_pos (by omega)]; exact this
        · rw [if_neg (by omega)]; rw [if_neg e2] at this; exact this
    · by_cases e : k = q
      · subst e; exact hv
      · exact h.i5 k (by omega) hk2 hn
  | true =>
    rw [if_pos rfl]
    have h2 := h.i2 q hq hv
    rw [if_neg (by omega), Nat.add_zero] at h2
    obtain ⟨t, c, l⟩ := x
    have hl := h.len
    obtain ⟨hl1, hl2⟩ := hl
    simp only at hl1 hl2 hv h2
    have hb1 : (gd ds (q : Int)).b < (t.length : Int) := by omega
    refine ⟨fun j => if j = (gd ds (q : Int)).b.toNat then R + 1 else r j, ⟨by simp [hl1], by simp [hl2]⟩, fun j hj hr => ?_, fun k hk hk2 => ?_, fun e he => ?_, fun j => ?_, fun k hk hk2 hn => ?_⟩
    · by_cases e : j = (gd ds (q : Int)).b.toNat
      · refine ⟨q, hq, ?_, ?_⟩
        · have hb2 : (gd ds (q : Int)).b.toNat < c.length := by have := bq.2; omega
          rw [e]; exact List.getElem?_set_self hb2
        · show (if j = (gd ds (q : Int)).b.toNat then R + 1 else r j) ≤ (if (gd ds (q : Int)).a.toNat = (gd ds (q : Int)).b.toNat then R + 1 else r (gd ds (q : Int)).a.toNat) + 1
          rw [if_pos e]
          by_cases e2 : (gd ds (q : Int)).a.toNat = (gd ds (q : Int)).b.toNat
          · rw [if_pos e2]; omega
          · rw [if_neg e2]; omega
      · rw [if_neg e] at hr ⊢
        obtain ⟨k, k1, k2, k3⟩ := h.i1 j hj hr
        refine ⟨k, k1, ?_, ?_⟩
        · rw [List.getElem?_set_ne (by omega)]; exact k2
        · have := h.i4 j
          split <;> omega
    · simp only at hk2
      by_cases e : (gd ds (k : Int)).a.toNat = (gd ds (q : Int)).b.toNat
      · rw [if_pos e]; split <;> omega
      · rw [if_neg e]
        have bk := b k hk
        unfold viol at hk2 hv
        rw [g0_set bk.2.1 bq.2.1 hb1, g0_set bk.1.1 bq.2.1 hb1, if_neg (show ¬ (gd ds (k : Int)).a = (gd ds (q : Int)).b by omega)] at hk2
        have hkv : viol t (gd ds (k : Int)) = true := by
          unfold viol
          simp only [decide_eq_true_eq] at hk2 hv ⊢
          split at hk2
          · rename_i e2; rw [e2]; omega
          · exact hk2
        have h3 := h.i2 k hk hkv
        by_cases e3 : k = q
        · subst e3
          exfalso
          simp only [decide_eq_true_eq] at hk2
          rw [if_pos trivial] at hk2
          omega
        · by_cases e2 : k < q
          · rw [if_pos e2] at h3; rw [if_pos (by omega)]; exact h3
          · rw [if_neg (by omega)]; rw [if_neg e2] at h3; exact h3
    · simp only [Option.some.injEq] at he
      subst he
      exact ⟨bq.2.1, bq.2.2, if_pos rfl⟩
    · split
      · omega
      · exact h.i4 j
    · cases hn
theorem Iv.round {n : Nat} {ds : List Dm} {R : Nat} {x : St} {r : Nat → Nat} (w : WOK n ds) (h : Iv n ds R 0 x r) : ∀ q, q ≤ ds.length → ∃ r', Iv n ds R q (rnd ds x q) r'
  | 0, _ => ⟨r, h⟩
  | q + 1, hq => by
    obtain ⟨r', h'⟩ := Iv.round w h q (by omega)
    exact h'.step w (by omega)
theorem Iv.next {n : Nat} {ds : List Dm} {R : Nat} {x : St} {r : Nat → Nat} (h : Iv n ds R ds.length x r) : Iv n ds (R + 1) 0 (x.1, x.2.1, none) r := ⟨h.len, h.i1, fun k hk hv => by
  have := h.i2 k hk hv
  rw [if_pos hk] at this
  rw [if_neg (by omega)]; exact this, fun e he => (nomatch he), fun j => Nat.le_succ_of_le (h.i4 j), fun k hk => absurd hk (by omega)⟩
theorem go_inv {n : Nat} {ds : List Dm} (w : WOK n ds) : ∀ (m R : Nat) (x : St) (r : Nat → Nat), Iv n ds R 0 (x.1, x.2.1, none) r → match go ds m x with
    | .inl t => t.length = n ∧ ∀ d ∈ ds, viol t d = false
    | .inr y => (m = 0 ∧ y = x) ∨ (1 ≤ m ∧ y.2.2 ≠ none ∧ ∃ r', Iv n ds (R + m - 1) ds.length y r')
  | 0, R, x, r, h => .inl ⟨rfl, rfl⟩
  | m + 1, R, x, r, h => by
    obtain ⟨r', h'⟩ := h.round w ds.length (Nat.le_refl _)
    unfold go
    generalize rnd ds (x.1, x.2.1, none) ds.length = y at h'
    by_cases q : y.2.2 = none
    · rw [if_pos q]
      refine ⟨h'.len.1, fun d hd => ?_⟩
      obtain ⟨k, hk, rfl⟩ := List.mem_iff_getElem.mp hd
      have := h'.i5 k hk hk q
      unfold gd at this
      simpa [hk] using this
    · rw [if_neg q]
      have ih := go_inv w m (R + 1) y r' h'.next
      generalize go ds m y = g at ih
      cases g with
      | inl t => exact ih
      | inr z =>
        refine .inr ⟨by omega, ?_⟩
        rcases ih with ⟨e1, e2⟩ | ⟨e1, e2, r2, e3⟩
        · subst e1; subst e2
          exact ⟨q, r', by rw [show R + (0 + 1) - 1 = R by omega]; exact h'⟩
        · exact ⟨e2, r2, by rw [show R + (m + 1) - 1 = R + 1 + m - 1 by omega]; exact e3⟩
/-! ### back along the causes -/
def kk (c : List (Option Int)) (ev : Int) : Int := (c.getD ev.toNat none).getD 0
def pr (ds : List Dm) (c : List (Option Int)) (ev : Int) : Int := (gd ds (kk c ev)).a
def it (ds : List Dm) (c : List (Option Int)) (ev : Int) : Nat → Int
  | 0 => ev
  | s + 1 => pr ds c (it ds c ev s)
def Gd (n : Nat) (ds : List Dm) (c : List (Option Int)) (ev : Int) : Prop := 0 ≤ ev ∧ ev < n ∧ ∃ k : Nat, k < ds.length ∧ c[ev.toNat]? = some (some (k : Int))
theorem Gd.kk {n : Nat} {ds : List Dm} {c : List (Option Int)} {ev : Int} (h : Gd n ds c ev) : ∃ k : Nat, k < ds.length ∧ c[ev.toNat]? = some (some (k : Int)) ∧ kk c ev = (k : Int) := by
  obtain ⟨_, _, k, h1, h2⟩ := h
  exact ⟨k, h1, h2, by unfold LW.kk; rw [List.getD_eq_getElem?_getD, h2]; rfl⟩
theorem chain {n : Nat} {ds : List Dm} {x : St} {r : Nat → Nat} {R : Nat} {ev : Int} (w : WOK n ds) (h : Iv n ds R ds.length x r) (h0 : 0 ≤ ev ∧ ev < n) : ∀ s, s ≤ r ev.toNat → (0 ≤ it ds x.2.1 ev s ∧ it ds x.2.1 ev s < n) ∧ r ev.toNat - s ≤ r (it ds x.2.1 ev s).toNat
  | 0, _ => ⟨h0, Nat.le_refl _⟩
  | s + 1, hs => by
    obtain ⟨⟨a1, a2⟩, a3⟩ := chain w h h0 s (by omega)
    have hj : (it ds x.2.1 ev s).toNat < n := by omega
    obtain ⟨k, k1, k2, k3⟩ := h.i1 _ hj (by omega)
    have e : kk x.2.1 (it ds x.2.1 ev s) = (k : Int) := by unfold kk; rw [List.getD_eq_getElem?_getD, k2]; rfl
    have hm := w.2 _ (gd_mem (ds := ds) (i := (k : Int)) (by omega) (by omega))
    show (0 ≤ pr ds x.2.1 _ ∧ pr ds x.2.1 _ < n) ∧ _ ≤ r (pr ds x.2.1 _).toNat
    unfold pr
    rw [e]
    exact ⟨hm.1, by omega⟩
theorem chainG {n : Nat} {ds : List Dm} {x : St} {r : Nat → Nat} {R : Nat} {ev : Int} (w : WOK n ds) (h : Iv n ds R ds.length x r) (h0 : 0 ≤ ev ∧ ev < n) {s : Nat} (hs : s < r ev.toNat) : Gd n ds x.2.1 (it ds x.2.1 ev s) := by
  obtain ⟨⟨a1, a2⟩, a3⟩ := chain w h h0 s (by omega)
  obtain ⟨k, k1, k2, k3⟩ := h.i1 (it ds x.2.1 ev s).toNat (by omega) (by omega)
  exact ⟨a1, a2, k, k1, k2⟩
theorem it_add (ds : List Dm) (c : List (Option Int)) (ev : Int) (a : Nat) : ∀ b, it ds c ev (a + b) = it ds c (it ds c ev a) b
  | 0 => rfl
  | b + 1 => by show pr ds c (it ds c ev (a + b)) = pr ds c _; rw [it_add ds c ev a b]
theorem dup_of : ∀ (xs : List Int), ¬ xs.Nodup → ∃ a b : Nat, a < b ∧ b < xs.length ∧ xs[a]? = xs[b]?
  | [], h => absurd List.nodup_nil h
  | x :: xs, h => by
    by_cases q : x ∈ xs
    · obtain ⟨i, hi, rfl⟩ := List.mem_iff_getElem.mp q
      exact ⟨0, i + 1, by omega, by simp; omega, by simp [hi]⟩
    · have : ¬ xs.Nodup := fun z => h (List.nodup_cons.mpr ⟨q, z⟩)
      obtain ⟨a, b, h1, h2, h3⟩ := dup_of xs this
      exact ⟨a + 1, b + 1, by omega, by simp; omega, by simpa using h3⟩
theorem cycle {n : Nat} {ds : List Dm} {c : List (Option Int)} {ev : Int} (hr : ∀ s, s ≤ n → 0 ≤ it ds c ev s ∧ it ds c ev s < n) (hg : ∀ s, s < n → Gd n ds c (it ds c ev s)) :
    ∃ m, 1 ≤ m ∧ m ≤ n ∧ it ds c (it ds c ev n) m = it ds c ev n ∧ (∀ s, s < m → Gd n ds c (it ds c (it ds c ev n) s)) ∧ ∀ s, 1 ≤ s → s < m → it ds c (it ds c ev n) s ≠ it ds c ev n := by
  have hd : ¬ ((List.range (n + 1)).map (it ds c ev)).Nodup := fun z => by
    have := nodup_le n _ z fun x hx => by
      obtain ⟨s, hs, rfl⟩ := List.mem_map.mp hx
      exact hr s (by have := List.mem_range.mp hs; omega)
    simp at this
    omega
  obtain ⟨a, b, h1, h2, h3⟩ := dup_of _ hd
  simp at h2
  have e : it ds c ev a = it ds c ev b := by
    have ha : a < n + 1 := by omega
    simpa [ha, h2] using h3
  have per : ∀ i, it ds c ev (b + i) = it ds c ev (a + i) := fun i => by rw [it_add, it_add, e]
  have hp : it ds c ev n = it ds c ev (n - (b - a)) := by
    have := per (n - b)
    rw [show b + (n - b) = n by omega, show a + (n - b) = n - (b - a) by omega] at this
    exact this
  have sh : ∀ s, it ds c (it ds c ev n) s = it ds c ev (n - (b - a) + s) := fun s => by rw [hp, it_add]
  have hex : ∃ m, 1 ≤ m ∧ m ≤ b - a ∧ it ds c (it ds c ev n) m = it ds c ev n := ⟨b - a, by omega, by omega, by rw [sh, show n - (b - a) + (b - a) = n by omega]⟩
  have least : ∀ k m, m ≤ k → 1 ≤ m → m ≤ b - a → it ds c (it ds c ev n) m = it ds c ev n → ∃ m, 1 ≤ m ∧ m ≤ b - a ∧ it ds c (it ds c ev n) m = it ds c ev n ∧ ∀ s, 1 ≤ s → s < m → it ds c (it ds c ev n) s ≠ it ds c ev n := by
    intro k
    induction k with
    | zero => intro m h1 h2; omega
    | succ k ih =>
      intro m q1 q2 q3 q4
      by_cases z : ∃ s, 1 ≤ s ∧ s < m ∧ it ds c (it ds c ev n) s = it ds c ev n
      · obtain ⟨s, s1, s2, s3⟩ := z
        exact ih s (by omega) s1 (by omega) s3
      · exact ⟨m, q2, q3, q4, fun s s1 s2 s3 => z ⟨s, s1, s2, s3⟩⟩
  obtain ⟨m0, w1, w2, w3⟩ := hex
  obtain ⟨m, m1, m2, m3, m4⟩ := least m0 m0 (Nat.le_refl _) w1 w2 w3
  exact ⟨m, m1, by omega, m3, fun s hs => by rw [sh]; exact hg _ (by omega), m4⟩
theorem Gd.cz {n : Nat} {ds : List Dm} {c : List (Option Int)} {ev : Int} (hl : c.length = n) (h : Gd n ds c ev) : tidx (cz c) ev = .ok (LW.kk c ev) ∧ tidx c ev = .ok (some (LW.kk c ev)) ∧ tidx ds (LW.kk c ev) = .ok (gd ds (LW.kk c ev)) := by
  obtain ⟨k, h1, h2, h3⟩ := h.kk
  rw [h3]
  refine ⟨tidx_of (k := ev.toNat) (by have := h.1; omega) ?_, tidx_of (k := ev.toNat) (by have := h.1; omega) h2, ixd (by omega) (by omega)⟩
  simp [LW.cz, h2]
theorem beforeT {n : Nat} {ds : List Dm} {t : List Int} {c : List (Option Int)} {ev : Int} (hl : c.length = n) (h : Gd n ds c ev) : t_Clock_before (ck ds t c) (some ev) = .ok (pr ds c ev) := by
  obtain ⟨e1, e2, e3⟩ := h.cz hl
  simp [t_Clock_before, ck, cSome, e2, e3, pr]
theorem backT {n : Nat} {ds : List Dm} {t : List Int} {c : List (Option Int)} {ev : Int} (hl : c.length = n) (hg : ∀ s, s < n → Gd n ds c (it ds c ev s)) : (forT (fun u_ event => t_Clock_event_on_ring_1 (ck ds t c) u_ event) (rangeI 0 n) (some ev) : TR (Option Int) Empty (Option Int)) = .nx (some (it ds c ev n)) := by
  obtain ⟨s', e, p⟩ := forT_ix (l := Empty) (f := fun u_ event => t_Clock_event_on_ring_1 (ck ds t c) u_ event) (fun i s => s = some (it ds c ev i)) (rangeI 0 n) 0 (some ev) rfl (fun i a s ha hs => by
    rw [Nat.zero_add] at hs ⊢
    subst hs
    obtain ⟨hi, rfl⟩ := rangeI_get ha
    exact ⟨_, .inl (by simp [t_Clock_event_on_ring_1, beforeT hl (hg i hi)]; rfl), rfl⟩)
  rw [rangeI_len, Nat.zero_add] at p
  rw [e, p]
theorem lawBackT {n : Nat} {ds : List Dm} {c : List (Option Int)} {ev : Int} (hl : c.length = n) (hg : ∀ s, s < n → Gd n ds c (it ds c ev s)) : (forT (fun k last => t_law_rounds_5 ds (cz c) k last) (rangeI 0 n) (some ev) : TR (Str × List Int) Empty (Option Int)) = .nx (some (it ds c ev n)) := by
  obtain ⟨s', e, p⟩ := forT_ix (l := Empty) (f := fun k last => t_law_rounds_5 ds (cz c) k last) (fun i s => s = some (it ds c ev i)) (rangeI 0 n) 0 (some ev) rfl (fun i a s ha hs => by
    rw [Nat.zero_add] at hs ⊢
    subst hs
    obtain ⟨hi, rfl⟩ := rangeI_get ha
    obtain ⟨e1, e2, e3⟩ := (hg i hi).cz hl
    exact ⟨_, .inl (by simp [t_law_rounds_5, cSome, e1, e3]; rfl), rfl⟩)
  rw [rangeI_len, Nat.zero_add] at p
  rw [e, p]
def ringR (ds : List Dm) (c : List (Option Int)) (z : Int) (m : Nat) : List Int := ((List.range m).map fun s => kk c (it ds c z s)).reverse
theorem ringR_succ (ds : List Dm) (c : List (Option Int)) (z : Int) (m : Nat) : ringR ds c z (m + 1) = kk c (it ds c z m) :: ringR ds c z m := by
  unfold ringR
  rw [List.range_succ, List.map_append, List.reverse_append]; rfl
theorem ringR_len (ds : List Dm) (c : List (Option Int)) (z : Int) (m : Nat) : (ringR ds c z m).length = m := by simp [ringR]
theorem lawRing {n m : Nat} {ds : List Dm} {c : List (Option Int)} {z : Int} (hl : c.length = n) (hm : m ≤ 1000) (hc : it ds c z m = z) (hg : ∀ s, s < m → Gd n ds c (it ds c z s)) (hn : ∀ s, 1 ≤ s → s < m → it ds c z s ≠ z) :
    ∀ (xs : List Int) (s : Nat), s < m → m - s ≤ xs.length → (forT (fun k (x : List Int × Option Int) => t_law_rounds_6 ds (cz c) (some z) k x.1 x.2) xs (ringR ds c z s, some (it ds c z s)) : TR (Str × List Int) Empty (List Int × Option Int)) = .rt ("ring", ringR ds c z m)
  | [], s, h1, h2 => by simp at h2; omega
  | x :: xs, s, h1, h2 => by
    obtain ⟨e1, e2, e3⟩ := (hg s h1).cz hl
    have e4 : taddL [kk c (it ds c z s)] (ringR ds c z s) = .ok (ringR ds c z (s + 1)) := by
      rw [taddL_ok (by simp [ringR_len]; omega), ringR_succ]; rfl
    have e : t_law_rounds_6 ds (cz c) (some z) x (ringR ds c z s) (some (it ds c z s)) = if it ds c z (s + 1) = z then .rt ("ring", ringR ds c z (s + 1)) else .nx (ringR ds c z (s + 1), some (it ds c z (s + 1))) := by
      have e5 : pr ds c (it ds c z s) = it ds c z (s + 1) := rfl
      have e6 : (gd ds (kk c (it ds c z s))).a = it ds c z (s + 1) := rfl
      have e7 : teq (some (it ds c z (s + 1))) (some z) = .ok (decide (it ds c z (s + 1) = z)) := by
        rw [teq_ok (by trivial) (by trivial)]; simp
      simp [t_law_rounds_6, cSome, cJust, e1, e3, e4, e6, e7]
    by_cases q : s + 1 = m
    · rw [q, hc, if_pos rfl] at e
      exact forT_rt e
    · rw [if_neg (hn (s + 1) (by omega) (by omega))] at e
      rw [forT_nx e]
      exact lawRing hl hm hc hg hn xs (s + 1) (by omega) (by simp at h2; omega)
def fdR (ds : List Dm) (c : List (Option Int)) (z : Int) (m : Nat) : List (Option Int) := (List.range m).map fun s => some (kk c (it ds c z s))
theorem fdR_succ (ds : List Dm) (c : List (Option Int)) (z : Int) (m : Nat) : fdR ds c z (m + 1) = fdR ds c z m ++ [some (kk c (it ds c z m))] := by
  unfold fdR
  rw [List.range_succ, List.map_append]; rfl
theorem fdR_rev (ds : List Dm) (c : List (Option Int)) (z : Int) (m : Nat) : (fdR ds c z m).reverse = (ringR ds c z m).map some := by
  unfold fdR ringR
  rw [List.map_reverse, List.map_map]; rfl
theorem ringLoop {n m : Nat} {ds : List Dm} {t : List Int} {c : List (Option Int)} {z : Int} (hl : c.length = n) (hm : m ≤ 1000) (hc : it ds c z m = z) (hg : ∀ s, s < m → Gd n ds c (it ds c z s)) (hn : ∀ s, 1 ≤ s → s < m → it ds c z s ≠ z) :
    ∀ (j s : Nat), 1 ≤ s → s + j = m → (whileT (fun (x : List (Option Int) × Int) => (b2 tne (b1 cJust (R.ok x.2)) (R.ok (some z)))) (fun x => t_Clock_ring_through_1 (ck ds t c) x.1 x.2) (j + 1) (fdR ds c z s, it ds c z s) : TR (List (Option Int)) Empty (List (Option Int) × Int)) = .nx (fdR ds c z m, z)
  | 0, s, h1, h2 => by
    rw [show s = m by omega, hc]
    have e7 : tne (some z) (some z) = .ok false := tne_rfl (by trivial)
    simp [whileT, cJust, e7]
  | j + 1, s, h1, h2 => by
    have e7 : tne (some (it ds c z s)) (some z) = .ok true := by
      rw [tne_ok (by trivial) (by trivial)]; simp [hn s h1 (by omega)]
    obtain ⟨e1, e2, e3⟩ := (hg s (by omega)).cz hl
    have e8 : t_Clock_ring_through_1 (ck ds t c) (fdR ds c z s) (it ds c z s) = .nx (fdR ds c z (s + 1), it ds c z (s + 1)) := by
      have e4 : tapp (fdR ds c z s) (some (kk c (it ds c z s))) = .ok (fdR ds c z (s + 1)) := by
        rw [tapp_ok (by simp [fdR]; omega), fdR_succ]
      simp [t_Clock_ring_through_1, cJust, e2, e4, beforeT hl (hg s (by omega))]
      rfl
    have ih := ringLoop (t := t) hl hm hc hg hn j (s + 1) (by omega) (by omega)
    rw [whileT]
    simp only [b2_ap, b1_ap, cJust, R.bind_ok, e7, R.tr_ok, if_true, e8]
    exact ih
theorem ringT {n m : Nat} {ds : List Dm} {t : List Int} {c : List (Option Int)} {z : Int} (hl : c.length = n) (h1 : 1 ≤ m) (hm : m ≤ 1000) (hc : it ds c z m = z) (hg : ∀ s, s < m → Gd n ds c (it ds c z s)) (hn : ∀ s, 1 ≤ s → s < m → it ds c z s ≠ z) : t_Clock_ring_through (ck ds t c) (some z) = .ok ((ringR ds c z m).map some) := by
  obtain ⟨e1, e2, e3⟩ := (hg 0 (by omega)).cz hl
  have e1 : tidx c z = .ok (some (kk c z)) := e2
  have e5 := beforeT (t := t) hl (hg 0 (by omega))
  have e5 : t_Clock_before (ck ds t c) (some z) = .ok (it ds c z 1) := e5
  have e6 := loopT_of (ringLoop (t := t) hl hm hc hg hn (m - 1) 1 (by omega) (by omega)) nofun
  have e7 : [some (kk c z)] = fdR ds c z 1 := rfl
  have e6' : (loopT (fun (x : List (Option Int) × Int) => (cJust x.2).bind fun a => tne a (some z)) (fun (x : List (Option Int) × Int) => t_Clock_ring_through_1 (ck ds t c) x.1 x.2) (fdR ds c z 1, it ds c z 1) : TR (List (Option Int)) Empty (List (Option Int) × Int)) = .nx (fdR ds c z m, z) := e6
  unfold t_Clock_ring_through
  simp only [b1_ap, b2_ap, R.bind_ok, pj_ap, cSome, e1, tcons_ap, R.tr_ok, e5, e7]
  rw [e6']
  simp [fdR_rev]
/-- both ways to the verdict -/
theorem clockT {n : Nat} {ds : List Dm} (w : WOK n ds) (hn : 1 ≤ n) (hn2 : n ≤ 1000) :
    (∃ ts, t_law_rounds n ds = .ok ("times", ts) ∧ t_timetable n ds = .ok ("times", ts.map some) ∧ ts.length = n ∧ ∀ d ∈ ds, viol ts d = false) ∨
    ∃ ring, ring ≠ [] ∧ ring.length ≤ n ∧ t_law_rounds n ds = .ok ("ring", ring) ∧ t_timetable n ds = .ok ("ring", ring.map some) := by
  have iv0 : Iv n ds 0 0 (List.replicate n 0, List.replicate n none, none) fun _ => 0 := ⟨⟨by simp, by simp⟩, fun j _ h => absurd h (by omega), fun k _ _ => by simp, fun e h => (nomatch h), fun j => Nat.zero_le _, fun k hk => absurd hk (by omega)⟩
  have hsl : SL n (List.replicate n 0, List.replicate n none, none) := ⟨by simp, by simp⟩
  have g1 := goT w (rangeI 0 n) (List.replicate n 0, List.replicate n none, none) hsl
  have g2 := lawGo w (rangeI 0 n) (List.replicate n 0, List.replicate n none, none) hsl
  have g3 := go_inv w n 0 (List.replicate n 0, List.replicate n none, none) _ iv0
  rw [rangeI_len] at g1 g2
  have hr : trange1 (n : Int) = .ok (rangeI 0 n) := trange1_nat (by omega)
  have r0 : tmap (fun (k : Int) => (R.ok (0 : Int))) (rangeI 0 n) = .ok (List.replicate n 0) := by
    rw [tmap_ok (fun _ => (0 : Int)) fun a _ => rfl, List.map_const', rangeI_len]
  have hcz : cz (List.replicate n none) = List.replicate n 0 := by simp [cz]
  simp only [hcz] at g2
  have ev1 : t_timetable n ds = ((forT (fun u_ (s : Ck × Option Int) => t_timetable_1 u_ s.1 s.2) (rangeI 0 n) (ck ds (List.replicate n 0) (List.replicate n none), none) : TR (Str × List (Option Int)) Empty (Ck × Option Int)).bind fun s => ((t_Clock_event_on_ring s.1 s.2).bind fun a => t_Clock_ring_through s.1 a).tr fun r => (TR.rt ("ring", r) : TR (Str × List (Option Int)) Empty Unit)).fn fun _ => .stuck := by
    unfold t_timetable
    simp only [R.bind_ok, initT hn2, R.tr_ok, b1_ap, b2_ap, hr, mk2_ap, R.tr_bind]
  have ev2 : t_law_rounds n ds = ((forT (fun lap (s : List Int × List Int × Option Int) => t_law_rounds_4 ds lap s.1 s.2.1 s.2.2) (rangeI 0 n) (List.replicate n 0, List.replicate n 0, none) : TR (Str × List Int) Empty (List Int × List Int × Option Int)).bind fun s => (forT (fun k last => t_law_rounds_5 ds s.2.1 k last) (rangeI 0 n) s.2.2).bind fun last => (forT (fun k (x : List Int × Option Int) => t_law_rounds_6 ds s.2.1 last k x.1 x.2) (rangeI 0 n) ([], last)).bind fun _ => (TR.rt ("ring", []) : TR (Str × List Int) Empty Unit)).fn fun _ => .stuck := by
    unfold t_law_rounds
    simp only [R.bind_ok, R.tr_ok, b1_ap, b2_ap, hr, mk2_ap, r0, calm_okk]
    rfl
  cases hgo : go ds n (List.replicate n 0, List.replicate n none, none) with
  | inl t =>
    rw [hgo] at g1 g2 g3
    refine .inl ⟨t, ?_, ?_, g3.1, g3.2⟩
    · rw [ev2, g2]; rfl
    · rw [ev1, g1]; rfl
  | inr y =>
    rw [hgo] at g1 g2 g3
    rcases g3 with ⟨e, _⟩ | ⟨_, hy, r, iv⟩
    · omega
    have hlc : y.2.1.length = n := iv.len.2
    obtain ⟨ev, hev⟩ := Option.ne_none_iff_exists'.mp hy
    obtain ⟨v1, v2, v3⟩ := iv.i3 ev hev
    rw [show 0 + n - 1 + 1 = n by omega] at v3
    have hch := chain w iv ⟨v1, v2⟩
    have hcg : ∀ s, s < n → Gd n ds y.2.1 (it ds y.2.1 ev s) := fun s hs => chainG w iv ⟨v1, v2⟩ (by rw [v3]; exact hs)
    obtain ⟨m, m1, m2, m3, m4, m5⟩ := cycle (fun s hs => (hch s (by rw [v3]; exact hs)).1) hcg
    refine .inr ⟨ringR ds y.2.1 (it ds y.2.1 ev n) m, fun z => ?_, by rw [ringR_len]; exact m2, ?_, ?_⟩
    · have := congrArg List.length z
      rw [ringR_len] at this; simp at this; omega
    · rw [ev2, g2]
      simp only [TR.bind_nx, hev]
      rw [lawBackT hlc hcg]
      simp only [TR.bind_nx]
      have := lawRing hlc (by omega) m3 m4 m5 (rangeI 0 n) 0 (by omega) (by rw [rangeI_len]; omega)
      rw [show ringR ds y.2.1 (it ds y.2.1 ev n) 0 = [] from rfl, show it ds y.2.1 (it ds y.2.1 ev n) 0 = it ds y.2.1 ev n from rfl] at this
      rw [this]
      rfl
    · rw [ev1, g1]
      simp only [TR.bind_nx, hev]
      have hlt : y.1.length = n := iv.len.1
      have e1 : t_Clock_event_on_ring (ck ds y.1 y.2.1) (some ev) = .ok (some (it ds y.2.1 ev n)) := by
        have := backT (t := y.1) hlc hcg
        simp only [t_Clock_event_on_ring, b1_ap, R.bind_ok, pj_ap, tlen_ap, hlt, hr, R.tr_ok]
        rw [this]; rfl
      rw [e1]
      simp only [R.bind_ok]
      rw [ringT hlc m1 (by omega) m3 m4 m5]
      rfl

theorem scaleT5 {x y : Int} {P : Int → Prop} (h0 : 0 ≤ x) (h1 : x < 5) (k : ∀ s : Int, P s) : Ok (tidx [(1 : Int), 1, 1, 1000, y] x) P :=
  tidx_wp h0 (by simp; omega) fun s _ _ => k s
theorem pw25 : tpowI 10 25 = .ok ((10 : Int) ^ 25) := tpowI_ok (by decide)
theorem pw26 : tpowI 10 26 = .ok ((10 : Int) ^ 26) := tpowI_ok (by decide)
theorem tin123 (a : Int) : tin a [(1 : Int), 2, 3] = .ok (decide (a = 1 ∨ a = 2 ∨ a = 3)) := by
  rw [tin_ok (by trivial) (by simp)]; simp
def InR (n : Nat) (d : Dm) : Prop := (0 ≤ d.a ∧ d.a < n) ∧ 0 ≤ d.b ∧ d.b < n
theorem worldStep {n : Nat} {kind scale : Int} {picks hidden : List Int} {m : Nat} (hn : 1 ≤ n) (hp : Dr (3 * m) 5040 picks) (hh : Dr n 60 hidden) {k : Nat} (hk : k < m) (hm : m ≤ 100) {ds : List Dm} (hl : ds.length = k) (hd : ∀ d ∈ ds, InR n d) :
    Tk (t_law_world_1 n kind scale picks hidden (k : Int) ds) (fun es => es.length = k + 1 ∧ ∀ d ∈ es, InR n d) (fun _ => False) (fun _ => False) (fun _ => False) := by
  unfold t_law_world_1
  iterate 12 rotate_right
  rename_i a0 _ _ h1 h2 b0 _ _ h3 h4 c0 _ _ _ _
  refine Ok.eq (tin123 kind) ?_
  have fin : ∀ c : Int, (ds ++ [(⟨a0 % n, b0 % n, c⟩ : Dm)]).length = k + 1 ∧ ∀ d ∈ ds ++ [(⟨a0 % n, b0 % n, c⟩ : Dm)], InR n d := fun c => ⟨by simp [hl], fun x hx => by
    rcases List.mem_append.mp hx with q | q
    · exact hd x q
    · rw [List.mem_singleton.mp q]; exact ⟨⟨h1, h2⟩, h3, h4⟩⟩
  simp only [tandB_ap, decide_eq_true_eq]
  repeat' (first | split | ac_rfl)
  all_goals exact fin _
theorem chainOk {n : Nat} {hidden : List Int} {scale : Int} (hn : 1 ≤ n) (hn2 : n ≤ 1000) (hh : Dr n 60 hidden) {P : List Dm → Prop} (h : ∀ c : List Dm, c.length = n - 1 → (∀ d ∈ c, InR n d) → P c) : Ok (tmap (fun k => b3 mk3 (R.ok k) (b2 taddI (R.ok k) (R.ok (1 : Int))) (b2 tmulI (b2 taddI (R.ok (1 : Int)) (b2 tidx (R.ok hidden) (R.ok k))) (R.ok scale))) (rangeI 0 (n - 1))) P := by
  refine tmap_wpA (InR n) (fun a ha => ?_) fun ys hl hy => h ys (by rw [hl, rangeI_len]) hy
  obtain ⟨k, hk, rfl⟩ := rangeI_mem.mp ha
  iterate 3 rotate_right
  exact ⟨⟨by simp only; omega, by simp only; omega⟩, by simp only; omega, by simp only; omega⟩
theorem chainOk2 {n : Nat} {hidden : List Int} {scale : Int} (hn : 1 ≤ n) (hn2 : n ≤ 1000) (hh : Dr n 60 hidden) {P : List Dm → Prop} (h : ∀ c : List Dm, c.length = n - 1 → (∀ d ∈ c, InR n d) → P c) : Ok (tmap (fun k => b3 mk3 (R.ok k) (b2 taddI (R.ok k) (R.ok (1 : Int))) (b2 tmulI (b2 tsubI (b2 tidx (R.ok hidden) (b2 taddI (R.ok k) (R.ok (1 : Int)))) (b2 tidx (R.ok hidden) (R.ok k))) (R.ok scale))) (rangeI 0 (n - 1))) P := by
  refine tmap_wpA (InR n) (fun a ha => ?_) fun ys hl hy => h ys (by rw [hl, rangeI_len]) hy
  obtain ⟨k, hk, rfl⟩ := rangeI_mem.mp ha
  iterate 4 rotate_right
  exact ⟨⟨by simp only; omega, by simp only; omega⟩, by simp only; omega, by simp only; omega⟩
theorem tail {n : Nat} {ds c : List Dm} {d5 : Int} (hl : ds.length ≤ 33) (hd : ∀ d ∈ ds, InR n d) (hn : n ≤ 16) (hc : c.length ≤ n) (hcd : ∀ d ∈ c, InR n d) {P : List Dm → Prop} (k : ∀ es : List Dm, es.length ≤ 100 → (∀ d ∈ es, InR n d) → P es) : Ok (taddL (cutG ds (some 0) (some d5)) c) fun a => Ok (taddL a (cutG ds (some d5) none)) P := by
  have l1 := cutG_len ds (some 0) (some d5)
  have l2 := cutG_len ds (some d5) none
  refine taddL_wp (by omega) (taddL_wp (by simp; omega) (k _ (by simp; omega) fun d h => ?_))
  simp only [List.mem_append] at h
  rcases h with (h | h) | h
  · exact hd d (cutG_mem h)
  · exact hcd d h
  · exact hd d (cutG_mem h)
theorem chainTail {n : Nat} (hn : 1 ≤ n) (hn2 : n ≤ 16) {draws : List Int} (hdr : Dr 6 5040 draws) {ds c : List Dm} (hl : ds.length ≤ 33) (hd : ∀ d ∈ ds, InR n d) (hc : c.length = n - 1) (hcd : ∀ d ∈ c, InR n d) {P : List Dm → Prop} (k : ∀ es : List Dm, es.length ≤ 100 → (∀ d ∈ es, InR n d) → P es) :
    Ok (tmap (fun link : Dm => R.ok link.c) c) fun a => Ok (tidx draws 4) fun a_10 => Ok (tmodI a_10 3) fun a_11 => Ok (tapp c.reverse (⟨(n : Int) - 1, 0, a_11 - 1 - a.sum⟩ : Dm)) fun a => Ok (tidx draws 5) fun a_12 => Ok (tmodI a_12 (↑ds.length + 1)) fun a_13 => Ok (taddL (cutG ds (some 0) (some a_13)) a) fun a => Ok (taddL a (cutG ds (some a_13) none)) P := by
  refine tmap_wpA (fun _ => True) (fun a _ => by simp) fun ys _ _ => ?_
  rotate_right
  rotate_right
  refine tapp_wp (by simp; omega) ?_
  rotate_right
  rotate_right
  refine tail hl hd hn2 (by simp; omega) (fun d h => ?_) k
  rcases List.mem_append.mp h with q | q
  · exact hcd d (List.mem_reverse.mp q)
  · rw [List.mem_singleton.mp q]; exact ⟨⟨by simp only; omega, by simp only; omega⟩, by simp only; omega, by simp only; omega⟩
theorem worldT (ns : List Int) (at_ most : Int) (h0 : 0 ≤ at_) (hm : 1 ≤ most ∧ most ≤ 16) : Ok (t_law_world ns at_ most) fun p => ∃ n : Nat, p.1 = n ∧ 1 ≤ n ∧ n ≤ 16 ∧ WOK n p.2 ∧ p.2.length ≤ 100 := by
  simp only [t_law_world, b2_ap, R.bind_ok, pw25]
  iterate 6 rotate_right
  rename_i draws hdr d0 _ _ h1 h2 d1 _ _
  obtain ⟨n, hn⟩ : ∃ n : Nat, 1 + d0 % most = n := ⟨(1 + d0 % most).toNat, by omega⟩
  have hn1 : 1 ≤ n := by omega
  have hn2 : n ≤ 16 := by omega
  rw [hn]
  iterate 5 rotate_right
  refine scaleT5 (by omega) (by omega) fun sc => ?_
  iterate 6 rotate_right
  rename_i _ _ kd _ _ _ _ _ _ _ _ _ _ picks hp _ hidden hh
  obtain ⟨m, hm2⟩ : ∃ m : Nat, d1 % (2 * most + 1) = m := ⟨(d1 % (2 * most + 1)).toNat, by omega⟩
  have hm3 : m ≤ 32 := by omega
  rw [hm2, show (3 * (m : Int)).toNat = 3 * m by omega] at hp
  rw [hm2, show ((m : Nat) : Int).toNat = m by omega]
  have hh : Dr n 60 hidden := hh
  have done : ∀ es : List Dm, es.length ≤ 100 → (∀ d ∈ es, InR n d) → ∃ n_1 : Nat, (n : Int) = ↑n_1 ∧ 1 ≤ n_1 ∧ n_1 ≤ 16 ∧ WOK n_1 es ∧ es.length ≤ 100 := fun es h3 h4 => ⟨n, rfl, hn1, hn2, ⟨by omega, h4⟩, h3⟩
  refine forT_wpR (fun i (ds : List Dm) => ds.length = i ∧ ∀ d ∈ ds, InR n d) ⟨rfl, by simp⟩ (fun i hi ds ⟨h3, h4⟩ => Tk.to _ (worldStep hn1 hp hh hi (by omega) h3 h4) fun _ h => h) fun ds h => ?_
  obtain ⟨h3, h4⟩ := h
  split
  · refine trange1_wp (by omega) (by omega) ?_
    rw [show ((n : Int) - 1).toNat = n - 1 by omega]
    refine chainOk hn1 (by omega) hh fun c c1 c2 => ?_
    split
    · refine trange1_wp (by omega) (by omega) ?_
      rw [show ((n : Int) - 1).toNat = n - 1 by omega]
      refine chainOk2 hn1 (by omega) hh fun c c1 c2 => ?_
      exact chainTail hn1 hn2 hdr (by omega) h4 c1 c2 done
    · exact chainTail hn1 hn2 hdr (by omega) h4 c1 c2 done
  · exact done ds (by omega) h4

theorem noTimes {m : Nat} (hm : 1 ≤ m ∧ m ≤ 4) {ev : List Int} {L : List Dm} (hl : L.length = m) (h : ∀ k : Nat, k < m → ∀ d, L[k]? = some d → d.a = g0 ev (k : Int) ∧ d.b = g0 ev (((k + 1) % m : Nat) : Int)) {d0 : Dm} (h0 : L[0]? = some d0) {X : Int} (hX : 1 ≤ X) (ts : List Int) :
    ∃ d ∈ L.set 0 ⟨d0.a, d0.b, d0.c - (L.map T3.c).sum + X⟩, viol ts d = true := by
  apply Classical.byContradiction
  intro hc
  have hc : ∀ d ∈ L.set 0 ⟨d0.a, d0.b, d0.c - (L.map T3.c).sum + X⟩, g0 ts d.a + d.c ≤ g0 ts d.b := fun d hd => by
    have : ¬ viol ts d = true := fun z => hc ⟨d, hd, z⟩
    unfold viol at this
    simp only [decide_eq_true_eq] at this
    omega
  have e4 : m = 1 ∨ m = 2 ∨ m = 3 ∨ m = 4 := by omega
  rcases e4 with rfl | rfl | rfl | rfl
  · obtain ⟨l0, rfl⟩ := List.length_eq_one_iff.mp hl
    simp only [List.getElem?_cons_zero, Option.some.injEq] at h0
    subst h0
    have q0 := h 0 (by omega) l0 rfl
    have c0 := hc _ (by simp; rfl)
    simp at q0 c0
    rw [q0.1, q0.2] at c0
    omega
  · match L, hl with
    | [l0, l1], _ =>
      simp only [List.getElem?_cons_zero, Option.some.injEq] at h0
      subst h0
      have q0 := h 0 (by omega) l0 rfl
      have q1 := h 1 (by omega) l1 rfl
      have c0 := hc ⟨l0.a, l0.b, _⟩ (by simp; exact .inl rfl)
      have c1 := hc l1 (by simp)
      simp at q0 q1 c0
      rw [q0.1, q0.2] at c0
      rw [q1.1, q1.2] at c1
      omega
  · match L, hl with
    | [l0, l1, l2], _ =>
      simp only [List.getElem?_cons_zero, Option.some.injEq] at h0
      subst h0
      have q0 := h 0 (by omega) l0 rfl
      have q1 := h 1 (by omega) l1 rfl
      have q2 := h 2 (by omega) l2 rfl
      have c0 := hc ⟨l0.a, l0.b, _⟩ (by simp; exact .inl rfl)
      have c1 := hc l1 (by simp)
      have c2 := hc l2 (by simp)
      simp at q0 q1 q2 c0
      rw [q0.1, q0.2] at c0
      rw [q1.1, q1.2] at c1
      rw [q2.1, q2.2] at c2
      omega
  · match L, hl with
    | [l0, l1, l2, l3], _ =>
      simp only [List.getElem?_cons_zero, Option.some.injEq] at h0
      subst h0
      have q0 := h 0 (by omega) l0 rfl
      have q1 := h 1 (by omega) l1 rfl
      have q2 := h 2 (by omega) l2 rfl
      have q3 := h 3 (by omega) l3 rfl
      have c0 := hc ⟨l0.a, l0.b, _⟩ (by simp; exact .inl rfl)
      have c1 := hc l1 (by simp)
      have c2 := hc l2 (by simp)
      have c3 := hc l3 (by simp)
      simp at q0 q1 q2 q3 c0
      rw [q0.1, q0.2] at c0
      rw [q1.1, q1.2] at c1
      rw [q2.1, q2.2] at c2
      rw [q3.1, q3.2] at c3
      omega
theorem plantedT {n : Nat} (hn : 1 ≤ n) {ds : List Dm} (w : WOK n ds) (hl : ds.length ≤ 100) {draws : List Int} (hd : Dr 13 5040 draws) : Ok (t_law_planted n ds draws) fun es => WOK n es ∧ ∀ ts : List Int, ∃ d ∈ es, viol ts d = true := by
  simp only [t_law_planted, b2_ap, R.bind_ok, pw26]
  iterate 3 rotate_right
  rename_i d0 _ _ _ _
  obtain ⟨m, hm⟩ : ∃ m : Nat, 1 + d0 % 4 = m := ⟨(1 + d0 % 4).toNat, by omega⟩
  have hm4 : 1 ≤ m ∧ m ≤ 4 := by omega
  rw [hm, show ((m : Nat) : Int).toNat = m by omega]
  refine tmap_wpA (fun v : Int => 0 ≤ v ∧ v < n) (fun a ha => ?_) fun ev hev hev2 => ?_
  · obtain ⟨k, hk, rfl⟩ := rangeI_mem.mp ha
    iterate 2 rotate_right
    omega
  rw [rangeI_len] at hev
  rotate_right
  rw [show ((m : Nat) : Int).toNat = m by omega]
  refine tmap_wp (fun (k : Int) (d : Dm) => (d.a = g0 ev k ∧ d.b = g0 ev ((k + 1) % m)) ∧ InR n d) (fun a ha => ?_) fun L hL hL2 => ?_
  · obtain ⟨k, hk, rfl⟩ := rangeI_mem.mp ha
    rw [Int.zero_add]
    have i1 : ∀ j : Int, 0 ≤ j → j < m → 0 ≤ g0 ev j ∧ g0 ev j < n := fun j j0 j1 => hev2 _ (by
      have : j.toNat < ev.length := by omega
      unfold g0; simp [this])
    have i2 := Int.emod_nonneg ((k : Int) + 1) (show (m : Int) ≠ 0 by omega)
    have i3 := Int.emod_lt_of_pos ((k : Int) + 1) (show (0 : Int) < m by omega)
    simp only [b3_ap, R.bind_ok, Ok_bind, b2_ap, b1_ap]
    refine Ok.eq (ix0 (by omega) (by omega)) ?_
    simp only [taddI_ap, tint_ap, R.bind_ok, Ok_bind, Ok_ok]
    refine tmod_wp (by omega) fun _ _ => ?_
    refine Ok.eq (ix0 (by omega) (by omega)) ?_
    iterate 2 rotate_right
    exact ⟨⟨trivial, trivial⟩, i1 _ (by omega) (by omega), i1 _ i2 i3⟩
  rw [rangeI_len] at hL
  have hL3 : ∀ k : Nat, k < m → ∀ d, L[k]? = some d → (d.a = g0 ev (k : Int) ∧ d.b = g0 ev (((k + 1) % m : Nat) : Int)) ∧ InR n d := fun k hk d hd => by
    have e : (rangeI 0 m)[k]? = some (k : Int) := by
      have : k < (rangeI 0 m).length := by rw [rangeI_len]; exact hk
      have := List.getElem?_eq_getElem this
      obtain ⟨_, e⟩ := rangeI_get this
      rw [this, e, Int.zero_add]
    have := hL2 k _ _ e hd
    rw [show (((k + 1) % m : Nat) : Int) = ((k : Int) + 1) % m by rw [Int.natCast_emod]; rfl]
    exact this
  have hc : tmap (fun link : Dm => R.ok link.c) L = .ok (L.map T3.c) := tmap_ok _ fun _ _ => rfl
  refine Ok.eq hc ?_
  obtain ⟨l0, e0⟩ : ∃ l0, L[0]? = some l0 := ⟨L[0], by simp⟩
  refine Ok.eq (tidx_of (k := 0) rfl e0) ?_
  iterate 3 rotate_right
  refine tidx_wp (by omega) (by simp; omega) fun X hX _ => ?_
  have hX1 : 1 ≤ X := by
    simp at hX
    omega
  refine tset_wp (by omega) (by omega) ?_
  have key := noTimes hm4 hL (fun k hk d hd => (hL3 k hk d hd).1) e0 hX1
  have inr : ∀ d ∈ L.set 0 ⟨l0.a, l0.b, l0.c - (L.map T3.c).sum + X⟩, InR n d := fun d hd => by
    obtain ⟨k, hk, rfl⟩ := List.mem_iff_getElem.mp hd
    rw [List.length_set] at hk
    rw [List.getElem_set]
    split
    · exact (hL3 0 (by omega) l0 e0).2
    · exact (hL3 k (by omega) _ (List.getElem?_eq_getElem hk)).2
  have len : (L.set 0 ⟨l0.a, l0.b, l0.c - (L.map T3.c).sum + X⟩).length = m := by rw [List.length_set, hL]
  rw [show Int.toNat 0 = 0 from rfl]
  generalize L.set 0 ⟨l0.a, l0.b, l0.c - (L.map T3.c).sum + X⟩ = L' at key inr len ⊢
  iterate 2 rotate_right
  rename_i d5 _ _ _ _
  generalize d5 % ((ds.length : Int) + 1) = sp
  have l1 := cutG_len ds (some 0) (some sp)
  have l2 := cutG_len ds (some sp) none
  refine taddL_wp (by omega) (taddL_wp (by omega) (taddL_wp (by omega) (taddL_wp (by simp; omega) ?_)))
  iterate 2 rotate_right
  refine tidx_wp (by omega) (by simp; omega) fun es he _ => ?_
  have hw : ∀ d ∈ ds, InR n d := w.2
  simp at he
  rcases he with rfl | rfl | rfl
  · refine ⟨⟨by simp; omega, fun d h => ?_⟩, fun ts => ?_⟩
    · rcases List.mem_append.mp h with q | q
      · exact inr d q
      · exact hw d q
    · obtain ⟨d, h1, h2⟩ := key ts
      exact ⟨d, by simp [h1], h2⟩
  · refine ⟨⟨by simp; omega, fun d h => ?_⟩, fun ts => ?_⟩
    · rcases List.mem_append.mp h with q | q
      · exact hw d q
      · exact inr d q
    · obtain ⟨d, h1, h2⟩ := key ts
      exact ⟨d, by simp [h1], h2⟩
  · refine ⟨⟨by simp; omega, fun d h => ?_⟩, fun ts => ?_⟩
    · simp only [List.mem_append] at h
      rcases h with q | q | q
      · exact hw d (cutG_mem q)
      · exact inr d q
      · exact hw d (cutG_mem q)
    · obtain ⟨d, h1, h2⟩ := key ts
      exact ⟨d, by simp [h1], h2⟩

theorem same_itemsT {n : Nat} {d : PyData} {xs : List PyData} (hv : ∀ (i : Nat) x, xs[i]? = some x → vidx d (.int (i : Int)) = .ok x) (ih : ∀ x ∈ xs, t_law_same n x x = .ok true) :
    (forT (fun k (_ : Unit) => t_law_same_1 (t_law_same n) d d k) (rangeI 0 xs.length) () : TR Bool Empty Unit) = .nx () :=
  forT_pass fun a ha => by
    obtain ⟨k, hk, rfl⟩ := rangeI_mem.mp ha
    have e3 : xs[k]? = some xs[k] := by simp [hk]
    have e4 := hv k _ e3
    have e5 := ih xs[k] (List.getElem_mem hk)
    refine .inl ?_
    rw [Int.zero_add]
    have e6 : Enc.e (k : Int) = PyData.int (k : Int) := rfl
    simp [t_law_same_1, e4, e5, e6]
theorem sameT : ∀ (n : Nat) (d : PyData), okS n d → t_law_same n d d = .ok true
  | 0, _, h => h.elim
  | n + 1, d, h => by
    unfold t_law_same
    cases d with
    | none => simp [dB1]
    | bool b => simp [dB1]
    | int b => simp [dB1]
    | str b => simp [dB1, veq_str h h]
    | list xs =>
      have e := same_itemsT (n := n) (fun i x hx => vidx_list hx) fun x hx => sameT n x (h.2 x hx)
      simp [dB1, trange1_nat h.1, e]
    | tuple xs =>
      have e := same_itemsT (n := n) (fun i x hx => vidx_tuple hx) fun x hx => sameT n x (h.2 x hx)
      simp [dB1, trange1_nat h.1, e]
    | dict _ => exact h.elim

theorem e_some (w : Str) (xs : List Int) : Enc.e ((w, xs.map some) : Str × List (Option Int)) = Enc.e ((w, xs) : Str × List Int) := by
  show PyData.tuple [.str w, .list ((xs.map some).map Enc.e)] = PyData.tuple [.str w, .list (xs.map Enc.e)]
  rw [List.map_map]; rfl
theorem lawTurn {n : Nat} {ds : List Dm} (w : WOK n ds) (h1 : 1 ≤ n) (h2 : n ≤ 16) (rings : Int) (h0 : 0 ≤ rings) :
    Tk (t_law_1 n ds rings) (fun r => rings ≤ r ∧ ((∀ ts : List Int, ∃ d ∈ ds, viol ts d = true) → rings + 1 ≤ r)) (fun _ => False) (fun _ => False) (fun _ => False) := by
  have hne : tne ds ds = .ok false := tne_rfl (by simp; have := w.1; omega)
  obtain ⟨wd, xs, hx, hl, e1, e2, hw⟩ : ∃ (wd : Str) (xs : List Int), xs ≠ [] ∧ xs.length ≤ 16 ∧ t_law_rounds n ds = .ok (wd, xs) ∧ t_timetable n ds = .ok (wd, xs.map some) ∧ ((wd = "times" ∧ ∀ d ∈ ds, viol xs d = false) ∨ wd = "ring") := by
    rcases clockT w h1 (by omega) with ⟨ts, e1, e2, e3, e4⟩ | ⟨ring, e1, e2, e3, e4⟩
    · exact ⟨_, ts, fun z => by subst z; simp at e3; omega, by omega, e1, e2, .inl ⟨rfl, e4⟩⟩
    · exact ⟨_, ring, e1, by omega, e3, e4, .inr rfl⟩
  have hwd : okS 9 (.str wd) := by
    rcases hw with ⟨q, _⟩ | q
    · subst q; exact (by decide +kernel : PyData.strOk ("times" : Str) = true)
    · subst q; exact (by decide +kernel : PyData.strOk ("ring" : Str) = true)
  have hs : t_law_same 10 (Enc.e ((wd, xs.map some) : Str × List (Option Int))) (Enc.e ((wd, xs) : Str × List Int)) = .ok true := by
    rw [e_some]
    refine sameT 10 _ ?_
    show okS 10 (.tuple [.str wd, .list (xs.map Enc.e)])
    refine ⟨by simp, fun d hd => ?_⟩
    simp at hd
    rcases hd with q | q
    · subst q; exact hwd
    · subst q
      refine ⟨by simp; omega, fun d hd => ?_⟩
      obtain ⟨i, _, rfl⟩ := List.mem_map.mp hd
      exact trivial
  have hp : tpopL (xs.map some) = some (xs.map some).dropLast := if_pos (by simp; exact List.length_pos_iff.mpr hx)
  have hpos : ∀ b : Int, tapp (xs.map some).dropLast (some b) = .ok ((xs.map some).dropLast ++ [some b]) := fun b => tapp_ok (by simp; omega)
  have hstr : PyData.strOk wd = true := hwd
  have hr : PyData.strOk ("ring" : Str) = true := by decide +kernel
  simp only [t_law_1, b2_ap, b1_ap, R.bind_ok, R.tr_ok, e1, e2, torB_ap, cUp, hs, tid_ap, tnotB, hne, tite_ap, Bool.not_true, Bool.false_eq_true, if_false, tfd_some, hp, cJust, tnegI_ap, hpos, pj_ap, teq_str hstr hr, tintB_ap, taddI_ap, Tk_nx]
  rcases hw with ⟨q, hv⟩ | q
  · subst q
    refine ⟨by simp, fun z => ?_⟩
    obtain ⟨d, h3, h4⟩ := z xs
    rw [hv d h3] at h4; cases h4
  · subst q
    exact ⟨by simp; omega, fun _ => by simp⟩
theorem lawAt (ns : List Int) (at_ : Int) (ha : at_ = 0 ∨ at_ = 1 ∨ at_ = 2) (rings : Int) (h0 : 0 ≤ rings) : Tk (t_law_2 ns at_ rings) (fun r => rings + 1 ≤ r) (fun _ => False) (fun _ => False) (fun _ => False) := by
  obtain ⟨mst, e1, hm⟩ : ∃ mst : Int, tidx [(8 : Int), 8, 16] at_ = .ok mst ∧ 1 ≤ mst ∧ mst ≤ 16 := by
    rcases ha with rfl | rfl | rfl
    · exact ⟨8, rfl, by omega⟩
    · exact ⟨8, rfl, by omega⟩
    · exact ⟨16, rfl, by omega⟩
  have e2 : tmulI 3 at_ = .ok (3 * at_) := tmulI_l (sm_of (by omega))
  simp only [t_law_2, b3_ap, b2_ap, b1_ap, R.bind_ok, R.tr_ok, e1, e2, tcons_ap, Tk_tr]
  refine Ok.imp (worldT ns (3 * at_) mst (by omega) hm) fun p hp => ?_
  obtain ⟨n, q1, q2, q3, w, q4⟩ := hp
  obtain ⟨cnt, ds⟩ := p
  simp only at q1 w q4
  subst q1
  simp only [Ok_bind, taddI_ap, R.bind_ok]
  refine cell_wp (by omega) fun c => ?_
  refine numbers_wp (by omega) (by omega) (by omega) (by omega) fun draws hd => ?_
  refine (plantedT q2 w q4 hd).imp fun ps hps => ?_
  simp only [Ok_ok, Tk_bind]
  refine forT_wp (fun i r => rings + (if 2 ≤ i then 1 else 0) ≤ r) 0 (by simp) (fun i a s hi hs => ?_) fun s hs => by simp at hs ⊢; omega
  have hs0 : 0 ≤ s := by split at hs <;> omega
  match i, hi with
  | 0, hi =>
    simp at hi; subst hi
    simp at hs ⊢
    exact Tk.to _ (lawTurn w q2 q3 s hs0) fun r h => by have := h.1; omega
  | 1, hi =>
    simp at hi; subst hi
    simp at hs ⊢
    exact Tk.to _ (lawTurn hps.1 q2 q3 s hs0) fun r h => by have := h.2 hps.2; omega
  | 2, hi =>
    simp at hi; subst hi
    simp at hs ⊢
    exact Tk.to _ (lawTurn w q2 q3 s hs0) fun r h => by have := h.1; omega
  | i + 3, hi => simp at hi
theorem mathT : ∀ ns : List Int, ns.length ≤ 63 → t_law ns = .ok true := fun ns _ => by
  have h : Ok (t_law ns) (fun b => b = true) := by
    have e : trange1 3 = .ok (rangeI 0 3) := trange1_nat (n := 3) (by omega)
    simp only [t_law, b1_ap, b2_ap, R.bind_ok, R.tr_ok, e, Ok_fn, Tk_bind, Tk_tr, Ok_bind]
    refine forT_wpR (fun i (r : Int) => (i : Int) ≤ r) (Int.le_refl _) (fun i hi s hs => ?_) fun s hs => by
      have : (3 : Int) ≤ s := hs
      simp [this]
    exact Tk.to _ (lawAt ns (i : Int) (by omega) s (by omega)) fun r h => by omega
  obtain ⟨b, e, rfl⟩ := h
  exact e

theorem math : ∀ ns : List Int, ns.length ≤ 63 → m_law [.list (ns.map PyData.int)] = .ok (.bool true) := law_T mathT
end LW
namespace LW
open PySem PySem.Spec PyProof.Rows L2 VL
theorem txt_mk {K : PySem.W.Frag} {h : Heap} {mg : Str → Option Value} (X : K.In h) (G : h.Ns mainGlobals mg)
    {C_Clock : Addr} (aC_Clock : PySem.W.nsIn K mainGlobals "Clock" = some (some (.ref C_Clock))) (pgC_Clock : PySem.W.plainGet K C_Clock Str.empty = true) (hdC_Clock : PySem.W.hasDictIn K C_Clock = true) (poC_Clock : PySem.W.plainOver K C_Clock = true) (saC_Clock : PySem.W.findIn K (.ref C_Clock) "__setattr__" = some (some (.builtin "object.__setattr__"))) (mkC_Clock : PySem.W.makesIn K C_Clock = true) (kcC_Clock : PySem.W.keepIn K (.ref C_Clock) = true)
    (nf_Clock_demands : PySem.W.findIn K (.ref C_Clock) "demands" = some none)
    (nf_Clock_times : PySem.W.findIn K (.ref C_Clock) "times" = some none)
    (nf_Clock_causes : PySem.W.findIn K (.ref C_Clock) "causes" = some none)
    {f1 : Addr} {od1 an1 : Option Addr} {sl1 : Array (Option Value)} {oc1 kV1 dc1 pm1 cd1 ct1 : Value}
    (a1 : PySem.W.findIn K (.ref C_Clock) "__init__" = some (some (.ref f1))) (i1 : PySem.W.isFn K (.ref f1) = true)
    (l1 : K.lookup f1 = some ⟨oc1, od1, .func (PySem.W.fnOf "__init__" "Clock.__init__" (defArgs s_Clock_init) (defBody s_Clock_init) (defScope s_Clock_init) .none kV1 dc1 pm1 an1 cd1 ct1), sl1⟩) (c1 : PySem.W.codeIn K cd1 "Clock.__init__" = true) (k1 : PySem.W.keepIn K (.ref f1) = true)
    {f2 : Addr} {od2 an2 : Option Addr} {sl2 : Array (Option Value)} {oc2 kV2 dc2 pm2 cd2 ct2 : Value}
    (a2 : PySem.W.findIn K (.ref C_Clock) "raise_for" = some (some (.ref f2))) (i2 : PySem.W.isFn K (.ref f2) = true)
    (l2 : K.lookup f2 = some ⟨oc2, od2, .func (PySem.W.fnOf "raise_for" "Clock.raise_for" (defArgs s_Clock_raise_for) (defBody s_Clock_raise_for) (defScope s_Clock_raise_for) .none kV2 dc2 pm2 an2 cd2 ct2), sl2⟩) (c2 : PySem.W.codeIn K cd2 "Clock.raise_for" = true) (k2 : PySem.W.keepIn K (.ref f2) = true)
    {f3 : Addr} {od3 an3 : Option Addr} {sl3 : Array (Option Value)} {oc3 kV3 dc3 pm3 cd3 ct3 : Value}
    (a3 : PySem.W.findIn K (.ref C_Clock) "raise_round" = some (some (.ref f3))) (i3 : PySem.W.isFn K (.ref f3) = true)
    (l3 : K.lookup f3 = some ⟨oc3, od3, .func (PySem.W.fnOf "raise_round" "Clock.raise_round" (defArgs s_Clock_raise_round) (defBody s_Clock_raise_round) (defScope s_Clock_raise_round) .none kV3 dc3 pm3 an3 cd3 ct3), sl3⟩) (c3 : PySem.W.codeIn K cd3 "Clock.raise_round" = true) (k3 : PySem.W.keepIn K (.ref f3) = true)
    {f4 : Addr} {od4 an4 : Option Addr} {sl4 : Array (Option Value)} {oc4 kV4 dc4 pm4 cd4 ct4 : Value}
    (a4 : PySem.W.findIn K (.ref C_Clock) "before" = some (some (.ref f4))) (i4 : PySem.W.isFn K (.ref f4) = true)
    (l4 : K.lookup f4 = some ⟨oc4, od4, .func (PySem.W.fnOf "before" "Clock.before" (defArgs s_Clock_before) (defBody s_Clock_before) (defScope s_Clock_before) .none kV4 dc4 pm4 an4 cd4 ct4), sl4⟩) (c4 : PySem.W.codeIn K cd4 "Clock.before" = true) (k4 : PySem.W.keepIn K (.ref f4) = true)
    {f5 : Addr} {od5 an5 : Option Addr} {sl5 : Array (Option Value)} {oc5 kV5 dc5 pm5 cd5 ct5 : Value}
    (a5 : PySem.W.findIn K (.ref C_Clock) "event_on_ring" = some (some (.ref f5))) (i5 : PySem.W.isFn K (.ref f5) = true)
    (l5 : K.lookup f5 = some ⟨oc5, od5, .func (PySem.W.fnOf "event_on_ring" "Clock.event_on_ring" (defArgs s_Clock_event_on_ring) (defBody s_Clock_event_on_ring) (defScope s_Clock_event_on_ring) .none kV5 dc5 pm5 an5 cd5 ct5), sl5⟩) (c5 : PySem.W.codeIn K cd5 "Clock.event_on_ring" = true) (k5 : PySem.W.keepIn K (.ref f5) = true)
    {f6 : Addr} {od6 an6 : Option Addr} {sl6 : Array (Option Value)} {oc6 kV6 dc6 pm6 cd6 ct6 : Value}
    (a6 : PySem.W.findIn K (.ref C_Clock) "ring_through" = some (some (.ref f6))) (i6 : PySem.W.isFn K (.ref f6) = true)
    (l6 : K.lookup f6 = some ⟨oc6, od6, .func (PySem.W.fnOf "ring_through" "Clock.ring_through" (defArgs s_Clock_ring_through) (defBody s_Clock_ring_through) (defScope s_Clock_ring_through) .none kV6 dc6 pm6 an6 cd6 ct6), sl6⟩) (c6 : PySem.W.codeIn K cd6 "Clock.ring_through" = true) (k6 : PySem.W.keepIn K (.ref f6) = true)
    {f7 : Addr} {od7 an7 : Option Addr} {sl7 : Array (Option Value)} {oc7 kV7 dc7 pm7 cd7 ct7 : Value}
    (a7 : PySem.W.nsIn K mainGlobals "timetable" = some (some (.ref f7)))
    (l7 : K.lookup f7 = some ⟨oc7, od7, .func (PySem.W.fnOf "timetable" "timetable" (defArgs s_timetable) (defBody s_timetable) (defScope s_timetable) .none kV7 dc7 pm7 an7 cd7 ct7), sl7⟩) (c7 : PySem.W.codeIn K cd7 "timetable" = true) (k7 : PySem.W.keepIn K (.ref f7) = true)
    {f8 : Addr} {od8 an8 : Option Addr} {sl8 : Array (Option Value)} {oc8 kV8 dc8 pm8 cd8 ct8 : Value}
    (a8 : PySem.W.nsIn K mainGlobals "_law_cell" = some (some (.ref f8)))
    (l8 : K.lookup f8 = some ⟨oc8, od8, .func (PySem.W.fnOf "_law_cell" "_law_cell" (defArgs s_law_cell) (defBody s_law_cell) (defScope s_law_cell) .none kV8 dc8 pm8 an8 cd8 ct8), sl8⟩) (c8 : PySem.W.codeIn K cd8 "_law_cell" = true) (k8 : PySem.W.keepIn K (.ref f8) = true)
    {f9 : Addr} {od9 an9 : Option Addr} {sl9 : Array (Option Value)} {oc9 kV9 dc9 pm9 cd9 ct9 : Value}
    (a9 : PySem.W.nsIn K mainGlobals "_law_numbers" = some (some (.ref f9)))
    (l9 : K.lookup f9 = some ⟨oc9, od9, .func (PySem.W.fnOf "_law_numbers" "_law_numbers" (defArgs s_law_numbers) (defBody s_law_numbers) (defScope s_law_numbers) .none kV9 dc9 pm9 an9 cd9 ct9), sl9⟩) (c9 : PySem.W.codeIn K cd9 "_law_numbers" = true) (k9 : PySem.W.keepIn K (.ref f9) = true)
    {f10 : Addr} {od10 an10 : Option Addr} {sl10 : Array (Option Value)} {oc10 kV10 dc10 pm10 cd10 ct10 : Value}
    (a10 : PySem.W.nsIn K mainGlobals "_law_same" = some (some (.ref f10)))
    (l10 : K.lookup f10 = some ⟨oc10, od10, .func (PySem.W.fnOf "_law_same" "_law_same" (defArgs s_law_same) (defBody s_law_same) (defScope s_law_same) .none kV10 dc10 pm10 an10 cd10 ct10), sl10⟩) (c10 : PySem.W.codeIn K cd10 "_law_same" = true) (k10 : PySem.W.keepIn K (.ref f10) = true)
    {f11 : Addr} {od11 an11 : Option Addr} {sl11 : Array (Option Value)} {oc11 kV11 dc11 pm11 cd11 ct11 : Value}
    (a11 : PySem.W.nsIn K mainGlobals "_law_world" = some (some (.ref f11)))
    (l11 : K.lookup f11 = some ⟨oc11, od11, .func (PySem.W.fnOf "_law_world" "_law_world" (defArgs s_law_world) (defBody s_law_world) (defScope s_law_world) .none kV11 dc11 pm11 an11 cd11 ct11), sl11⟩) (c11 : PySem.W.codeIn K cd11 "_law_world" = true) (k11 : PySem.W.keepIn K (.ref f11) = true)
    {f12 : Addr} {od12 an12 : Option Addr} {sl12 : Array (Option Value)} {oc12 kV12 dc12 pm12 cd12 ct12 : Value}
    (a12 : PySem.W.nsIn K mainGlobals "_law_rounds" = some (some (.ref f12)))
    (l12 : K.lookup f12 = some ⟨oc12, od12, .func (PySem.W.fnOf "_law_rounds" "_law_rounds" (defArgs s_law_rounds) (defBody s_law_rounds) (defScope s_law_rounds) .none kV12 dc12 pm12 an12 cd12 ct12), sl12⟩) (c12 : PySem.W.codeIn K cd12 "_law_rounds" = true) (k12 : PySem.W.keepIn K (.ref f12) = true)
    {f13 : Addr} {od13 an13 : Option Addr} {sl13 : Array (Option Value)} {oc13 kV13 dc13 pm13 cd13 ct13 : Value}
    (a13 : PySem.W.nsIn K mainGlobals "_law_planted" = some (some (.ref f13)))
    (l13 : K.lookup f13 = some ⟨oc13, od13, .func (PySem.W.fnOf "_law_planted" "_law_planted" (defArgs s_law_planted) (defBody s_law_planted) (defScope s_law_planted) .none kV13 dc13 pm13 an13 cd13 ct13), sl13⟩) (c13 : PySem.W.codeIn K cd13 "_law_planted" = true) (k13 : PySem.W.keepIn K (.ref f13) = true)
    {f14 : Addr} {od14 an14 : Option Addr} {sl14 : Array (Option Value)} {oc14 kV14 dc14 pm14 cd14 ct14 : Value}
    (a14 : PySem.W.nsIn K mainGlobals "law" = some (some (.ref f14)))
    (l14 : K.lookup f14 = some ⟨oc14, od14, .func (PySem.W.fnOf "law" "law" (defArgs s_law) (defBody s_law) (defScope s_law) .none kV14 dc14 pm14 an14 cd14 ct14), sl14⟩) (c14 : PySem.W.codeIn K cd14 "law" = true) (k14 : PySem.W.keepIn K (.ref f14) = true)
    (z_bool : PySem.W.nsIn K mainGlobals "bool" = some none)
    (z_enumerate : PySem.W.nsIn K mainGlobals "enumerate" = some none)
    (z_int : PySem.W.nsIn K mainGlobals "int" = some none)
    (z_isinstance : PySem.W.nsIn K mainGlobals "isinstance" = some none)
    (z_len : PySem.W.nsIn K mainGlobals "len" = some none)
    (z_list : PySem.W.nsIn K mainGlobals "list" = some none)
    (z_range : PySem.W.nsIn K mainGlobals "range" = some none)
    (z_str : PySem.W.nsIn K mainGlobals "str" = some none)
    (z_sum : PySem.W.nsIn K mainGlobals "sum" = some none)
    (z_tuple : PySem.W.nsIn K mainGlobals "tuple" = some none) : ∃ T : Txt K mg, T.f_law = f14 ∧ ∀ (s : Shared) (v : Value), BindsTo s T.d_law ⟨[v], []⟩ [("script", v)] :=
  ⟨{ C_Clock := C_Clock, at_Clock := clsOf_of aC_Clock, cl_Clock := ⟨pgC_Clock, hdC_Clock, poC_Clock, saC_Clock⟩, mg_Clock := PySem.W.mg_of X G aC_Clock,
        f_Clock___init__ := f1, d_Clock___init__ := _, F_Clock___init__ := fun_mk (st := s_Clock_init) l1 c1 k1, B_Clock___init__ := ((fun_mk (st := s_Clock_init) l1 c1 k1).binds fun _ _ _ _ _ _ us hl => match us, hl with | [_, _, _], _ => rfl),
        K_Clock := ⟨mkC_Clock, a1, i1, kcC_Clock⟩,
        f_Clock_raise_for := f2, d_Clock_raise_for := _, F_Clock_raise_for := fun_mk (st := s_Clock_raise_for) l2 c2 k2, B_Clock_raise_for := ((fun_mk (st := s_Clock_raise_for) l2 c2 k2).binds fun _ _ _ _ _ _ us hl => match us, hl with | [_, _], _ => rfl),
        M_Clock_raise_for := ⟨a2, i2, k2⟩,
        f_Clock_raise_round := f3, d_Clock_raise_round := _, F_Clock_raise_round := fun_mk (st := s_Clock_raise_round) l3 c3 k3, B_Clock_raise_round := ((fun_mk (st := s_Clock_raise_round) l3 c3 k3).binds fun _ _ _ _ _ _ us hl => match us, hl with | [_], _ => rfl),
        M_Clock_raise_round := ⟨a3, i3, k3⟩,
        f_Clock_before := f4, d_Clock_before := _, F_Clock_before := fun_mk (st := s_Clock_before) l4 c4 k4, B_Clock_before := ((fun_mk (st := s_Clock_before) l4 c4 k4).binds fun _ _ _ _ _ _ us hl => match us, hl with | [_, _], _ => rfl),
        M_Clock_before := ⟨a4, i4, k4⟩,
        f_Clock_event_on_ring := f5, d_Clock_event_on_ring := _, F_Clock_event_on_ring := fun_mk (st := s_Clock_event_on_ring) l5 c5 k5, B_Clock_event_on_ring := ((fun_mk (st := s_Clock_event_on_ring) l5 c5 k5).binds fun _ _ _ _ _ _ us hl => match us, hl with | [_, _], _ => rfl),
        M_Clock_event_on_ring := ⟨a5, i5, k5⟩,
        f_Clock_ring_through := f6, d_Clock_ring_through := _, F_Clock_ring_through := fun_mk (st := s_Clock_ring_through) l6 c6 k6, B_Clock_ring_through := ((fun_mk (st := s_Clock_ring_through) l6 c6 k6).binds fun _ _ _ _ _ _ us hl => match us, hl with | [_, _], _ => rfl),
        M_Clock_ring_through := ⟨a6, i6, k6⟩,
        f_timetable := f7, d_timetable := _, F_timetable := fun_mk (st := s_timetable) l7 c7 k7, g_timetable := PySem.W.mg_of X G a7, B_timetable := ((fun_mk (st := s_timetable) l7 c7 k7).binds fun _ _ _ _ _ _ us hl => match us, hl with | [_, _], _ => rfl),
        f__law_cell := f8, d__law_cell := _, F__law_cell := fun_mk (st := s_law_cell) l8 c8 k8, g__law_cell := PySem.W.mg_of X G a8, B__law_cell := ((fun_mk (st := s_law_cell) l8 c8 k8).binds fun _ _ _ _ _ _ us hl => match us, hl with | [_, _], _ => rfl),
        f__law_numbers := f9, d__law_numbers := _, F__law_numbers := fun_mk (st := s_law_numbers) l9 c9 k9, g__law_numbers := PySem.W.mg_of X G a9, B__law_numbers := ((fun_mk (st := s_law_numbers) l9 c9 k9).binds fun _ _ _ _ _ _ us hl => match us, hl with | [_, _, _], _ => rfl),
        f__law_same := f10, d__law_same := _, F__law_same := fun_mk (st := s_law_same) l10 c10 k10, g__law_same := PySem.W.mg_of X G a10, B__law_same := ((fun_mk (st := s_law_same) l10 c10 k10).binds fun _ _ _ _ _ _ us hl => match us, hl with | [_, _], _ => rfl),
        f__law_world := f11, d__law_world := _, F__law_world := fun_mk (st := s_law_world) l11 c11 k11, g__law_world := PySem.W.mg_of X G a11, B__law_world := ((fun_mk (st := s_law_world) l11 c11 k11).binds fun _ _ _ _ _ _ us hl => match us, hl with | [_, _, _], _ => rfl),
        f__law_rounds := f12, d__law_rounds := _, F__law_rounds := fun_mk (st := s_law_rounds) l12 c12 k12, g__law_rounds := PySem.W.mg_of X G a12, B__law_rounds := ((fun_mk (st := s_law_rounds) l12 c12 k12).binds fun _ _ _ _ _ _ us hl => match us, hl with | [_, _], _ => rfl),
        f__law_planted := f13, d__law_planted := _, F__law_planted := fun_mk (st := s_law_planted) l13 c13 k13, g__law_planted := PySem.W.mg_of X G a13, B__law_planted := ((fun_mk (st := s_law_planted) l13 c13 k13).binds fun _ _ _ _ _ _ us hl => match us, hl with | [_, _, _], _ => rfl),
        f_law := f14, d_law := _, F_law := fun_mk (st := s_law) l14 c14 k14, g_law := PySem.W.mg_of X G a14, B_law := ((fun_mk (st := s_law) l14 c14 k14).binds fun _ _ _ _ _ _ us hl => match us, hl with | [_], _ => rfl),
        ct := (ctab_cons (clsOf_of aC_Clock) ⟨pgC_Clock, hdC_Clock, poC_Clock, saC_Clock⟩ (List.forall_mem_cons.mpr ⟨nf_Clock_demands, (List.forall_mem_cons.mpr ⟨nf_Clock_times, (List.forall_mem_cons.mpr ⟨nf_Clock_causes, (fun _ h => absurd h List.not_mem_nil)⟩)⟩)⟩) ctab_nil),
        b_bool := PySem.W.mg_none_of X G z_bool,
        b_enumerate := PySem.W.mg_none_of X G z_enumerate,
        b_int := PySem.W.mg_none_of X G z_int,
        b_isinstance := PySem.W.mg_none_of X G z_isinstance,
        b_len := PySem.W.mg_none_of X G z_len,
        b_list := PySem.W.mg_none_of X G z_list,
        b_range := PySem.W.mg_none_of X G z_range,
        b_str := PySem.W.mg_none_of X G z_str,
        b_sum := PySem.W.mg_none_of X G z_sum,
        b_tuple := PySem.W.mg_none_of X G z_tuple }, rfl, fun s v => .of_eq rfl⟩
theorem law_ok {P : Program} {w : World} {K : PySem.W.Frag} {mg : Str → Option Value} {base : Heap} (T : Txt K mg) (math : ∀ ns : List Int, ns.length ≤ 63 → m_law [.list (ns.map PyData.int)] = .ok (.bool true)) : FnOk P w K mg base (L2.CX P w) 12 T.f_law T.d_law ["script"] spL := fn_law (ok_law T) math
end LW
open PySem PySem.W PyProof.Rows
set_option maxHeartbeats 0 in
theorem PySem.Challenge.cw_trackswhole_k73_the_ring_that_rounds_fin_holds : PySem.Challenge.rw_trackswhole_k73_the_ring_that_rounds_fin.Holds := by
  w_on; o_law; k_head; (case hw => w_witness2)
  k_fill
  refine L2.walk_of (l := PySem.Challenge.rw_trackswhole_k73_the_ring_that_rounds_fin) (n := 63) (k := 12) (x := "script") (CX := fun w => L2.CX PySem.Challenge.rw_trackswhole_k73_the_ring_that_rounds_fin.prog w) (sp := fun _ => VL.spL) rfl (by decide) rfl ⟨rfl, by decide, by decide⟩ (fun w h Y => PySem.W.kIn_of Y) ?F ?S (fun _ _ _ _ _ h => VL.cx_false h)
  case S =>
    intro w H a ns hl hO hS
    exact VL.spL_of hl hS (by kernel_rfl)
  case F =>
    intro w mg fa h KX G hmg
    obtain ⟨T, e, hb⟩ := LW.txt_mk KX G (aC_Clock := by k_is) (pgC_Clock := by k_is) (hdC_Clock := by k_is) (poC_Clock := by k_is) (saC_Clock := by k_is) (mkC_Clock := by k_is) (kcC_Clock := by k_is) (nf_Clock_demands := by k_is) (nf_Clock_times := by k_is) (nf_Clock_causes := by k_is) (a1 := by k_is) (i1 := by k_is) (l1 := by k_is) (c1 := by k_is) (k1 := by k_is) (a2 := by k_is) (i2 := by k_is) (l2 := by k_is) (c2 := by k_is) (k2 := by k_is) (a3 := by k_is) (i3 := by k_is) (l3 := by k_is) (c3 := by k_is) (k3 := by k_is) (a4 := by k_is) (i4 := by k_is) (l4 := by k_is) (c4 := by k_is) (k4 := by k_is) (a5 := by k_is) (i5 := by k_is) (l5 := by k_is) (c5 := by k_is) (k5 := by k_is) (a6 := by k_is) (i6 := by k_is) (l6 := by k_is) (c6 := by k_is) (k6 := by k_is) (a7 := by k_is) (l7 := by k_is) (c7 := by k_is) (k7 := by k_is) (a8 := by k_is) (l8 := by k_is) (c8 := by k_is) (k8 := by k_is) (a9 := by k_is) (l9 := by k_is) (c9 := by k_is) (k9 := by k_is) (a10 := by k_is) (l10 := by k_is) (c10 := by k_is) (k10 := by k_is) (a11 := by k_is) (l11 := by k_is) (c11 := by k_is) (k11 := by k_is) (a12 := by k_is) (l12 := by k_is) (c12 := by k_is) (k12 := by k_is) (a13 := by k_is) (l13 := by k_is) (c13 := by k_is) (k13 := by k_is) (a14 := by k_is) (l14 := by k_is) (c14 := by k_is) (k14 := by k_is) (z_bool := by k_is) (z_enumerate := by k_is) (z_int := by k_is) (z_isinstance := by k_is) (z_len := by k_is) (z_list := by k_is) (z_range := by k_is) (z_str := by k_is) (z_sum := by k_is) (z_tuple := by k_is)
    have e2 := hmg.symm.trans T.g_law
    cases e2
    exact ⟨T.d_law, hb, fun base _ _ => LW.law_ok T LW.math⟩
