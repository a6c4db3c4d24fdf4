import PyProof.Rows.All
import HandS.ForMost
import HandS.Deep
import HandS.Exc
import HandS.ExcOwn
import HandS.TryOnly
import HandS.CallSlots
import HandS.WordsExc
import HandS.TupAny
import HandS.Wide
import HandS.IsInst
import HandS.Flow
import HandS.Conv
import HandS.Ends
import HandS.ExcIs
import HandS.Flt
import HandS.SetFor
import HandS.SortInts
import HandS.Style
import HandS.Rev
import HandS.GenList
import HandS.New0
import KE.SortData
import PyProof.Rows.SortWalk
import KE.DataMinMax
import HandS.SortKw
import HandS.DictComp
import HandS.Strs
import PyProof.Rows.SortShellAny
import PyProof.SetRoads
import HandS.WideMore
import Open.Row
import PySem.Challenge.RW_trackswhole_k68_whole_passes_that_are_en
set_option Elab.async false
set_option linter.all false
set_option maxRecDepth 100000
set_option maxHeartbeats 1000000
namespace VL
open PySem PySem.Spec PyProof.Rows L2

inductive R (α : Type) where
  | stuck
  | err (c : Str)
  | ok (a : α)
def R.bind {α β : Type} (x : R α) (f : α → R β) : R β := match x with
  | .stuck => .stuck
  | .err c => .err c
  | .ok a => f a
instance : Monad R where
  pure := R.ok
  bind := R.bind
@[simp] theorem R.bind_ok {α β : Type} (a : α) (f : α → R β) : R.bind (.ok a) f = f a := rfl
@[simp] theorem R.bind_err {α β : Type} (c : Str) (f : α → R β) : R.bind (.err c) f = .err c := rfl
@[simp] theorem R.bind_stuck {α β : Type} (f : α → R β) : R.bind .stuck f = .stuck := rfl
abbrev D := PyData
abbrev KS := Sum (List L2.Key) (List (List L2.Key))
def keyD : L2.Key → PyData
  | .inl i => .int i
  | .inr x => .str x
def KS.data : KS → List PyData
  | .inl ks => ks.map keyD
  | .inr ks => ks.map fun k => .tuple (k.map keyD)
def KS.len : KS → Nat
  | .inl ks => ks.length
  | .inr ks => ks.length
def hoD : KS → List V → HO
  | .inl ks, vs => .dK (ks.zip vs)
  | .inr ks, vs => .dT (ks.zip vs)
def clsOf (K : PySem.W.Frag) (c : Str) : Option Addr := match PySem.W.nsIn K mainGlobals c with
  | some (some (.ref C)) => some C
  | _ => none
def insD (c : Str) (ns : List Str) (ds : List PyData) : PyData := .dict ((.none, .str c) :: (ns.map PyData.str).zip ds)
def KS.kind : KS → Bool
  | .inl _ => false
  | .inr _ => true
def dctD (ks : KS) (ds : List PyData) : PyData := .dict ((.none, .bool ks.kind) :: ks.data.zip ds)
def NoT (o : HO) : Prop := (∀ ys, o ≠ .tup ys) ∧ ∀ u ys, o ≠ .frz u (.tup ys)
theorem NoT.lst (vs : List V) : NoT (.lst vs) := ⟨fun ys h => (nomatch h), fun u ys h => (nomatch h)⟩
theorem NoT.hoD (ks : KS) (vs : List V) : NoT (hoD ks vs) := by cases ks <;> exact ⟨fun ys h => (nomatch h), fun u ys h => (nomatch h)⟩
theorem NoT.ins (C dx : Addr) (fs : List (Str × V)) : NoT (.ins C dx fs) := ⟨fun ys h => (nomatch h), fun u ys h => (nomatch h)⟩
theorem NoT.own (a : Addr) : NoT (.own a) := ⟨fun ys h => (nomatch h), fun u ys h => (nomatch h)⟩

def TupAt (K : PySem.W.Frag) (F : Hp) (a : Addr) (xs : List V) : Prop :=
  F a = some (.tup xs) ∨
    ∃ (o : Obj) (its : Array Value) (n : Nat), K.lookup a = some o ∧ o.cls = .type "tuple" ∧ o.data = .seq its n ∧ its.size ≤ sizeLine ∧ Vals xs its.toList
theorem TupAt.sq {K : PySem.W.Frag} {F : Hp} {a : Addr} {xs : List V} (h : TupAt K F a xs) : SqT K F a xs := h.elim (fun z => .inl (.inl z)) .inr
theorem TupAt.mono {K : PySem.W.Frag} {H H' : Hp} {a : Addr} {xs : List V} (e : Same H H') (h : TupAt K H a xs) : TupAt K H' a xs := h.elim (fun z => .inl (e _ _ z)) .inr
mutual
/- the value v is the data d, its lists and tuples in the heap F -/
inductive Is (K : PySem.W.Frag) (F : Hp) : V → D → Prop
  | non : Is K F .non .none
  | bl (b : Bool) : Is K F (.bl b) (.bool b)
  | int (i : Int) : Is K F (.int i) (.int i)
  | str (x : Str) : Is K F (.str x) (.str x)
  | lst {a : Addr} {xs : List V} {ds : List D} : Rd F a (.lst xs) → IsAll K F xs ds → Is K F (.ref a) (.list ds)
  | tup {a : Addr} {xs : List V} {ds : List D} : TupAt K F a xs → IsAll K F xs ds → Is K F (.ref a) (.tuple ds)
  /- a caught exception at a, of the class that stands under the name c -/
  | exc (a : Addr) (c : Str) : Is K F (.ref a) (.dict [(.none, .int (a : Int)), (.none, .str c)])
  | dct {a : Addr} {ks : KS} {vs : List V} {ds : List D} : Rd F a (hoD ks vs) → ks.len = vs.length → IsAll K F vs ds → Is K F (.ref a) (dctD ks ds)
  | ins {a C dx : Addr} {c : Str} {ns : List Str} {vs : List V} {ds : List D} : clsOf K c = some C → F a = some (.ins C dx (ns.zip vs)) → ns.length = vs.length → IsAll K F vs ds → Is K F (.ref a) (insD c ns ds)
inductive IsAll (K : PySem.W.Frag) (F : Hp) : List V → List D → Prop
  | nil : IsAll K F [] []
  | cons {v : V} {vs : List V} {d : D} {ds : List D} : Is K F v d → IsAll K F vs ds → IsAll K F (v :: vs) (d :: ds)
end
mutual
theorem Is.dp {K : PySem.W.Frag} {F : Hp} : ∀ {d : D} {v : V}, d.canLay0 = true → Is K F v d → Dp K F v d
  | .none, _, _, h => by cases h; exact .non
  | .bool b, _, _, h => by cases h; exact .bl b
  | .int i, _, _, h => by cases h; exact .int i
  | .str x, _, _, h => by cases h; exact .str x
  | .list ds, _, l, h => by cases h with | lst hs ha => exact .lst (.inl hs) (IsAll.dp (by simpa only [PyData.canLay0] using l) ha)
  | .tuple ds, _, l, h => by cases h with | tup hs ha => exact .tup hs.sq (IsAll.dp (by simpa only [PyData.canLay0] using l) ha)
  | .dict _, _, l, h => by simp [PyData.canLay0] at l
theorem IsAll.dp {K : PySem.W.Frag} {F : Hp} : ∀ {ds : List D} {vs : List V}, PyData.canLayAll0 ds = true → IsAll K F vs ds → DpAll K F vs ds
  | [], _, _, h => by cases h; exact .nil
  | d :: ds, _, l, h => by
    cases h with
    | cons h1 h2 =>
      simp only [PyData.canLayAll0, Bool.and_eq_true] at l
      exact .cons (Is.dp l.1 h1) (IsAll.dp l.2 h2)
end
theorem Rd.mono {H H' : Hp} {a : Addr} {o : HO} (e : Same H H') (h : Rd H a o) : Rd H' a o := by
  rcases h with h | ⟨u, h⟩
  · exact .inl (e _ _ h)
  · exact .inr ⟨u, e _ _ h⟩
theorem Same.tupl {K : PySem.W.Frag} {H H' : Hp} {a : Addr} {xs : List V} (e : Same H H') (h : TupAt K H a xs) : SqT K H' a xs := (h.mono e).sq
theorem Is.mono {K : PySem.W.Frag} {F F' : Hp} (e : Same F F') {d : D} {v : V} (h : Is K F v d) : Is K F' v d :=
  Is.rec (motive_1 := fun v d _ => Is K F' v d) (motive_2 := fun vs ds _ => IsAll K F' vs ds) .non (fun b => .bl b) (fun i => .int i) (fun x => .str x) (fun hs _ ih => .lst (Rd.mono e hs) ih) (fun hs _ ih => .tup (TupAt.mono e hs) ih)
    (fun a c => .exc a c) (fun hr hl _ ih => .dct (Rd.mono e hr) hl ih) (fun hc hr hl _ ih => .ins hc (e _ _ hr) hl ih) .nil (fun _ _ i1 i2 => .cons i1 i2) h
theorem IsAll.mono {K : PySem.W.Frag} {F F' : Hp} (e : Same F F') : ∀ {ds : List D} {vs : List V}, IsAll K F vs ds → IsAll K F' vs ds
  | [], _, h => by cases h; exact .nil
  | d :: ds, _, h => by cases h with | cons h1 h2 => exact .cons (Is.mono e h1) (IsAll.mono e h2)
theorem IsAll.len {K : PySem.W.Frag} {F : Hp} : ∀ {ds : List D} {vs : List V}, IsAll K F vs ds → vs.length = ds.length
  | [], _, h => by cases h; rfl
  | d :: ds, _, h => by
    cases h with
    | cons h1 h2 => rw [List.length_cons, List.length_cons, IsAll.len h2]
theorem IsAll.get {K : PySem.W.Frag} {F : Hp} : ∀ {ds : List D} {vs : List V} {i : Nat} {v : V}, IsAll K F vs ds → vs[i]? = some v → ∃ d, ds[i]? = some d ∧ Is K F v d
  | [], _, i, v, h, e => by cases h; simp at e
  | d :: ds, _, 0, v, h, e => by
    cases h with
    | cons h1 h2 => simp at e; subst e; exact ⟨d, rfl, h1⟩
  | d :: ds, _, i + 1, v, h, e => by
    cases h with
    | cons h1 h2 =>
      obtain ⟨x, h3, h4⟩ := IsAll.get (i := i) h2 (by simpa using e)
      exact ⟨x, by simpa using h3, h4⟩
theorem IsAll.get' {K : PySem.W.Frag} {F : Hp} : ∀ {ds : List D} {vs : List V} {i : Nat} {d : D}, IsAll K F vs ds → ds[i]? = some d → ∃ v, vs[i]? = some v ∧ Is K F v d
  | [], _, i, v, h, e => by simp at e
  | d :: ds, _, 0, v, h, e => by
    cases h with
    | cons h1 h2 => simp at e; subst e; exact ⟨_, rfl, h1⟩
  | d :: ds, _, i + 1, v, h, e => by
    cases h with
    | cons h1 h2 =>
      obtain ⟨x, h3, h4⟩ := IsAll.get' (i := i) h2 (by simpa using e)
      exact ⟨x, by simpa using h3, h4⟩
theorem IsAll.append {K : PySem.W.Frag} {F : Hp} : ∀ {ds es : List D} {vs us : List V}, IsAll K F vs ds → IsAll K F us es → IsAll K F (vs ++ us) (ds ++ es)
  | [], _, _, _, h, g => by cases h; exact g
  | d :: ds, es, _, us, h, g => by
    cases h with
    | cons h1 h2 => exact .cons h1 (IsAll.append h2 g)
theorem IsAll.take {K : PySem.W.Frag} {F : Hp} : ∀ (n : Nat) {ds : List D} {vs : List V}, IsAll K F vs ds → IsAll K F (vs.take n) (ds.take n)
  | 0, _, _, h => by simp; exact .nil
  | n + 1, [], _, h => by cases h; simp; exact .nil
  | n + 1, d :: ds, _, h => by
    cases h with
    | cons h1 h2 => exact .cons h1 (IsAll.take n h2)
theorem IsAll.drop {K : PySem.W.Frag} {F : Hp} : ∀ (n : Nat) {ds : List D} {vs : List V}, IsAll K F vs ds → IsAll K F (vs.drop n) (ds.drop n)
  | 0, _, _, h => by simpa using h
  | n + 1, [], _, h => by cases h; simp; exact .nil
  | n + 1, d :: ds, _, h => by
    cases h with
    | cons h1 h2 => simpa using IsAll.drop n h2
theorem IsAll.set {K : PySem.W.Frag} {F : Hp} {x : D} {u : V} (hx : Is K F u x) : ∀ (n : Nat) {ds : List D} {vs : List V}, IsAll K F vs ds → IsAll K F (vs.set n u) (ds.set n x)
  | _, [], _, h => by cases h; simp; exact .nil
  | 0, d :: ds, _, h => by
    cases h with
    | cons h1 h2 => exact .cons hx h2
  | n + 1, d :: ds, _, h => by
    cases h with
    | cons h1 h2 => exact .cons h1 (IsAll.set hx n h2)
theorem IsAll.reverse {K : PySem.W.Frag} {F : Hp} : ∀ {ds : List D} {vs : List V}, IsAll K F vs ds → IsAll K F vs.reverse ds.reverse
  | [], _, h => by cases h; exact .nil
  | d :: ds, _, h => by
    cases h with
    | cons h1 h2 =>
      rw [List.reverse_cons, List.reverse_cons]
      exact IsAll.append (IsAll.reverse h2) (.cons h1 .nil)
/- data without lists -/
mutual
def lf : D → Bool
  | .list _ => false
  | .dict _ => false
  | .tuple xs => lfs xs
  | _ => true
def lfs : List D → Bool
  | [] => true
  | x :: xs => lf x && lfs xs
end
@[simp] theorem lf_int (i : Int) : lf (.int i) = true := by simp [lf]
@[simp] theorem lf_bool (i : Bool) : lf (.bool i) = true := by simp [lf]
@[simp] theorem lf_str (i : Str) : lf (.str i) = true := by simp [lf]
@[simp] theorem lf_none : lf .none = true := by simp [lf]
@[simp] theorem lf_tuple (xs : List D) : lf (.tuple xs) = lfs xs := by simp [lf]
@[simp] theorem lf_list (xs : List D) : lf (.list xs) = false := by simp [lf]
@[simp] theorem lfs_nil : lfs [] = true := by simp [lfs]
@[simp] theorem lfs_cons (x : D) (xs : List D) : lfs (x :: xs) = (lf x && lfs xs) := by simp [lfs]
mutual
theorem Is.lfree {K : PySem.W.Frag} {F F' : Hp} (e : ∀ b, (∃ ys, Rd F b (.tup ys)) → F' b = F b) : ∀ {d : D} {v : V}, lf d = true → Is K F v d → Is K F' v d
  | .none, _, _, h => by cases h; exact .non
  | .bool b, _, _, h => by cases h; exact .bl b
  | .int i, _, _, h => by cases h; exact .int i
  | .str x, _, _, h => by cases h; exact .str x
  | .list ds, _, l, h => by simp at l
  | .tuple ds, _, l, h => by
    cases h with
    | tup hs ha =>
      refine .tup ?_ (IsAll.lfree e (by simpa using l) ha)
      rcases hs with hs | hs
      · exact .inl ((e _ ⟨_, .inl hs⟩).trans hs)
      · exact .inr hs
  | .dict _, _, l, h => by simp [lf] at l
theorem IsAll.lfree {K : PySem.W.Frag} {F F' : Hp} (e : ∀ b, (∃ ys, Rd F b (.tup ys)) → F' b = F b) : ∀ {ds : List D} {vs : List V}, lfs ds = true → IsAll K F vs ds → IsAll K F' vs ds
  | [], _, _, h => by cases h; exact .nil
  | d :: ds, _, l, h => by
    cases h with
    | cons h1 h2 =>
      simp at l
      exact .cons (Is.lfree e l.1 h1) (IsAll.lfree e l.2 h2)
end

def NT (H : Hp) (a : Addr) : Prop := H a = none ∨ ∃ ys, H a = some (.tup ys)
theorem NT.back {H H1 : Hp} {a : Addr} (s : Same H H1) (h : NT H1 a) : NT H a := by
  cases q : H a with
  | none => exact .inl q
  | some o =>
    rcases h with h | ⟨ys, h⟩
    · rw [s _ _ q] at h; cases h
    · rw [s _ _ q] at h; cases h; exact .inr ⟨ys, q⟩
theorem NT.no {H : Hp} {a : Addr} {o : HO} (h : NT H a) (e : H a = some o) (n : ∀ ys, o ≠ .tup ys) : False := by
  rcases h with h | ⟨ys, h⟩
  · rw [e] at h; cases h
  · rw [e] at h; cases h; exact n _ rfl
structure Ext (B H B' H' : Hp) : Prop where
  hh : Same H H'
  bb : Same B B'
  bh : Same B' H'
  nw : ∀ a, B a = none → B' a ≠ none → NT H a
theorem Ext.refl {B H : Hp} (h : Same B H) : Ext B H B H := ⟨Same.refl H, Same.refl B, h, fun a x y => absurd x y⟩
theorem Ext.trans {B H B1 H1 B2 H2 : Hp} (a : Ext B H B1 H1) (b : Ext B1 H1 B2 H2) : Ext B H B2 H2 :=
  ⟨a.hh.trans b.hh, a.bb.trans b.bb, b.bh, fun x h1 h2 => by
    cases e : B1 x with
    | none => exact (b.nw x e h2).back a.hh
    | some o => exact a.nw x h1 (by rw [e]; exact fun z => nomatch z)⟩
theorem same_upd {H : Hp} {p : Addr} {o : HO} (h : H p = none) : Same H (upd H p o) := fun b u e => by
  rw [upd_ne (ne_of_none e h)]
  exact e
theorem Ext.new {B H : Hp} {p : Addr} {o : HO} (h : Same B H) (n : H p = none) : Ext B H (upd B p o) (upd H p o) := by
  refine ⟨same_upd n, same_upd (Same.free h n), fun b x e => ?_, fun a h1 h2 => ?_⟩
  · by_cases hb : b = p
    · subst hb; rw [upd_same] at e ⊢; exact e
    · rw [upd_ne hb] at e ⊢; exact h _ _ e
  · by_cases hb : a = p
    · subst hb; exact .inl n
    · rw [upd_ne hb] at h2; exact absurd h1 h2
theorem Ext.own {B H : Hp} {p : Addr} {o : HO} (h : Same B H) (n : H p = none) : Ext B H B (upd H p o) :=
  ⟨same_upd n, Same.refl B, h.trans (same_upd n), fun a x y => absurd x y⟩

def Small (K : PySem.W.Frag) (H : Hp) : Prop := ∀ a xs, SqL K H a xs ∨ SqT K H a xs → xs.length ≤ sizeLine
theorem Inv.small {X : Cx} {pins : List (Addr × Obj)} {σ : L2.St} {H : Hp} {s : Shared} (I : Inv X pins σ H s) : Small X.K H := fun a xs h => by
  rcases h with h | h
  · obtain ⟨_, _, _, z⟩ := I.list h; exact z
  · obtain ⟨_, _, _, z⟩ := I.tuple h; exact z
theorem pe_small {X : Cx} {e : Expr} {t : TE} (h : PE X e t) : PE X e (fun σ H Q => t σ H fun v H' => Small X.K H' → Q v H') := ⟨fun pins s σ H Q I hw =>
  thn (h.run pins s σ H _ I hw) fun u s' ⟨v, H', I', r, q⟩ => ⟨v, H', I', r, q (Inv.small I')⟩⟩
theorem Small.list {K : PySem.W.Frag} {B H : Hp} {v : V} {ds : List D} (s : Small K H) (e : Same B H) (h : Is K B v (.list ds)) : ds.length ≤ sizeLine := by
  cases h with
  | lst hs ha => rw [← IsAll.len ha]; exact s _ _ (.inl (.inl (Rd.mono e hs)))
theorem Small.tuple {K : PySem.W.Frag} {B H : Hp} {v : V} {ds : List D} (s : Small K H) (e : Same B H) (h : Is K B v (.tuple ds)) : ds.length ≤ sizeLine := by
  cases h with
  | tup hs ha => rw [← IsAll.len ha]; exact s _ _ (.inr (Same.tupl e hs))

abbrev PEnv := List (Option D)
structure RF (K : PySem.W.Frag) (B : Hp) (σ : L2.St) (ρ : PEnv) : Prop where
  len : σ.length = ρ.length
  at_ : ∀ (i : Nat) (d : D), ρ[i]? = some (some d) → ∃ v, σ[i]? = some (some v) ∧ Is K B v d
theorem RF.mono {K : PySem.W.Frag} {B B' : Hp} {σ : L2.St} {ρ : PEnv} (h : RF K B σ ρ) (e : Same B B') : RF K B' σ ρ := ⟨h.len, fun i d x => by
  obtain ⟨v, h1, h2⟩ := h.at_ i d x
  exact ⟨v, h1, Is.mono e h2⟩⟩
def ErrAt (X : Cx) (W : WX) (c : Str) (σ : L2.St) (H : Hp) : Prop := ∃ C, X.mg c = some (.ref C) ∧ W (.ref C) none σ H
def Pst {α : Type} (X : Cx) (W : WX) (σ : L2.St) (H : Hp) (k : α → Prop) : R α → Prop
  | .stuck => False
  | .err c => ∀ H', Same H H' → ErrAt X W c σ H'
  | .ok a => k a
theorem Pst.imp {α : Type} {X : Cx} {W : WX} {σ : L2.St} {H : Hp} {k k' : α → Prop} (h : ∀ a, k a → k' a) : ∀ {r : R α}, Pst X W σ H k r → Pst X W σ H k' r
  | .stuck, x => x
  | .err _, x => x
  | .ok a, x => h a x
def KV1 (X : Cx) (B H : Hp) (Q : VK) (d : D) : Prop := ∀ v H' B', Ext B H B' H' → Small X.K H' → Is X.K B' v d → Q v H'
structure VE (X : Cx) (W : WX) (e : Expr) (f : PEnv → R D) : Prop where
  ex : ∃ t, PE X e t ∧ ∀ σ H B ρ Q, Same B H → RF X.K B σ ρ → Pst X W σ H (KV1 X B H Q) (f ρ) → t σ H Q
def KB1 (B H : Hp) (Q : Bool → Hp → Prop) (b : Bool) : Prop := ∀ H' B', Ext B H B' H' → Q b H'
structure VT (X : Cx) (W : WX) (e : Expr) (f : PEnv → R Bool) : Prop where
  ex : ∃ t, PT X e t ∧ ∀ σ H B ρ Q, Same B H → RF X.K B σ ρ → Pst X W σ H (KB1 B H Q) (f ρ) → t σ H Q
def KA1 (X : Cx) (B H : Hp) (Q : List V → Hp → Prop) (ds : List D) : Prop := ∀ vs H' B', Ext B H B' H' → IsAll X.K B' vs ds → Q vs H'
structure VA (X : Cx) (W : WX) (es : List Expr) (f : PEnv → R (List D)) : Prop where
  ex : ∃ t, PA X es t ∧ ∀ σ H B ρ Q, Same B H → RF X.K B σ ρ → Pst X W σ H (KA1 X B H Q) (f ρ) → t σ H Q

section
variable {X : Cx} {W : WX} {a b c : Expr} {es : List Expr} {pos : Pos} {fa fb fc : PEnv → R D}
theorem VE.mk' {e : Expr} {f : PEnv → R D} {t : TE} (h : PE X e t)
    (q : ∀ σ H B ρ Q, Same B H → RF X.K B σ ρ → Pst X W σ H (fun d => ∀ v H' B', Ext B H B' H' → Is X.K B' v d → Q v H') (f ρ) → t σ H Q) : VE X W e f :=
  ⟨_, pe_small h, fun σ H B ρ Q s r p => q σ H B ρ _ s r (Pst.imp (fun d k v H' B' e dp sm => k v H' B' e sm dp) p)⟩

def vVar (i : Nat) : PEnv → R D := fun ρ => match ρ[i]? with
  | some (some d) => .ok d
  | _ => .stuck
def vC (d : D) : PEnv → R D := fun _ => .ok d
theorem vv (i : Nat) {x : Str} (hN : X.N[i]? = some x := by rfl) (hv : Vis X.env.scope x := by first | exact Or.inl rfl | exact Or.inr (Or.inl rfl) | exact Or.inr (Or.inr rfl)) (hd : (x == ("__debug__" : Str)) = false := by decide)
    (hcd : (x == ("__classdict__" : Str)) = false := by decide) : VE X W (.Name x pos) (vVar i) := by
  refine VE.mk' (pe_var hN hv hd hcd) fun σ H B ρ Q s r p => ?_
  unfold vVar at p
  split at p
  · rename_i d e
    obtain ⟨v, e1, dp⟩ := r.at_ i d e
    exact ⟨v, e1, p v H B (.refl s) dp⟩
  · exact p.elim
theorem vint {i j} : VE X W (.Constant (.int i) j pos) (vC (.int i)) := VE.mk' pe_int fun σ H B ρ Q s r p => p _ H B (.refl s) (.int i)
theorem vbool {i j} : VE X W (.Constant (.bool i) j pos) (vC (.bool i)) := VE.mk' pe_bl fun σ H B ρ Q s r p => p _ H B (.refl s) (.bl i)
theorem vstr {i j} : VE X W (.Constant (.str i) j pos) (vC (.str i)) := VE.mk' pe_str fun σ H B ρ Q s r p => p _ H B (.refl s) (.str i)
def v2 (g : D → D → R D) (fa fb : PEnv → R D) : PEnv → R D := fun ρ => (fa ρ).bind fun d => (fb ρ).bind fun e => g d e
def v1 (g : D → R D) (fa : PEnv → R D) : PEnv → R D := fun ρ => (fa ρ).bind g
theorem two {ta tb : TE} (ha : ∀ σ H B ρ Q, Same B H → RF X.K B σ ρ → Pst X W σ H (KV1 X B H Q) (fa ρ) → ta σ H Q) (hb : ∀ σ H B ρ Q, Same B H → RF X.K B σ ρ → Pst X W σ H (KV1 X B H Q) (fb ρ) → tb σ H Q)
    {α : Type} {σ : L2.St} {H B : Hp} {ρ : PEnv} {g : D → D → R α} {K : α → Prop} {Q : V → V → Hp → Prop} (s : Same B H) (r : RF X.K B σ ρ)
    (p : Pst X W σ H K ((fa ρ).bind fun d => (fb ρ).bind fun e => g d e))
    (q : ∀ d e x y H' B', Ext B H B' H' → Small X.K H' → Is X.K B' x d → Is X.K B' y e → Pst X W σ H' K (g d e) → Q x y H') : ta σ H fun x H1 => tb σ H1 fun y H2 => Q x y H2 := by
  refine ha σ H B ρ _ s r ?_
  generalize hfa : fa ρ = ra at p ⊢
  cases ra with
  | stuck => exact p
  | err c => exact p
  | ok d =>
    intro x H1 B1 e1 sm1 d1
    refine hb σ H1 B1 ρ _ e1.bh (r.mono e1.bb) ?_
    simp only [R.bind_ok] at p
    generalize hfb : fb ρ = rb at p ⊢
    cases rb with
    | stuck => exact p
    | err c => exact fun H' z => p H' (e1.hh.trans z)
    | ok e =>
      intro y H2 B2 e2 sm2 d2
      refine q d e x y H2 B2 (e1.trans e2) sm2 (Is.mono e2.bb d1) d2 ?_
      simp only [R.bind_ok] at p
      generalize g d e = rg at p ⊢
      cases rg with
      | stuck => exact p
      | err c => exact fun H' z => p H' ((e1.trans e2).hh.trans z)
      | ok z => exact p
theorem one {ta : TE} (ha : ∀ σ H B ρ Q, Same B H → RF X.K B σ ρ → Pst X W σ H (KV1 X B H Q) (fa ρ) → ta σ H Q)
    {α : Type} {σ : L2.St} {H B : Hp} {ρ : PEnv} {g : D → R α} {K : α → Prop} {Q : V → Hp → Prop} (s : Same B H) (r : RF X.K B σ ρ)
    (p : Pst X W σ H K ((fa ρ).bind g))
    (q : ∀ d x H' B', Ext B H B' H' → Small X.K H' → Is X.K B' x d → Pst X W σ H' K (g d) → Q x H') : ta σ H Q := by
  refine ha σ H B ρ _ s r ?_
  generalize hfa : fa ρ = ra at p ⊢
  cases ra with
  | stuck => exact p
  | err c => exact p
  | ok d =>
    intro x H1 B1 e1 sm1 d1
    refine q d x H1 B1 e1 sm1 d1 ?_
    simp only [R.bind_ok] at p
    generalize g d = rg at p ⊢
    cases rg with
    | stuck => exact p
    | err c => exact fun H' z => p H' (e1.hh.trans z)
    | ok z => exact p
def Rule2 (X : Cx) (W : WX) (r : R2) (g : D → D → R D) : Prop := ∀ d e x y σ H B Q, Same B H → Small X.K H → Is X.K B x d → Is X.K B y e → Pst X W σ H (fun d' => ∀ v H' B', Ext B H B' H' → Is X.K B' v d' → Q v H') (g d e) → r x y H Q
def Rule1 (X : Cx) (W : WX) (r : V → Hp → VK → Prop) (g : D → R D) : Prop := ∀ d x σ H B Q, Same B H → Small X.K H → Is X.K B x d → Pst X W σ H (fun d' => ∀ v H' B', Ext B H B' H' → Is X.K B' v d' → Q v H') (g d) → r x H Q
theorem kv_ext {B H B1 H1 : Hp} {Q : VK} {d : D} (e : Ext B H B1 H1) (p : ∀ v H' B', Ext B H B' H' → Is X.K B' v d → Q v H') : ∀ v H' B', Ext B1 H1 B' H' → Is X.K B' v d → Q v H' := fun v H' B' e' dp => p v H' B' (e.trans e') dp
theorem ve2 {e : Expr} {r : R2} {g : D → D → R D} (mk : ∀ {ta tb : TE}, PE X a ta → PE X b tb → PE X e (tOp r ta tb)) (hr : Rule2 X W r g) (ha : VE X W a fa) (hb : VE X W b fb) : VE X W e (v2 g fa fb) := by
  obtain ⟨ta, pa, qa⟩ := ha.ex
  obtain ⟨tb, pb, qb⟩ := hb.ex
  refine VE.mk' (mk pa pb) fun σ H B ρ Q s rf p => ?_
  exact two qa qb s rf p fun d e x y H' B' ex sm dx dy pg => hr d e x y σ H' B' Q ex.bh sm dx dy (Pst.imp (fun a k => kv_ext ex k) pg)
theorem ve1 {e : Expr} {r : V → Hp → VK → Prop} {g : D → R D} (mk : ∀ {ta : TE}, PE X a ta → PE X e (tUn r ta)) (hr : Rule1 X W r g) (ha : VE X W a fa) : VE X W e (v1 g fa) := by
  obtain ⟨ta, pa, qa⟩ := ha.ex
  refine VE.mk' (mk pa) fun σ H B ρ Q s rf p => ?_
  exact one qa s rf p fun d x H' B' ex sm dx pg => hr d x σ H' B' Q ex.bh sm dx (Pst.imp (fun a k => kv_ext ex k) pg)
end
end VL

namespace VL
open PySem PySem.Spec PyProof.Rows L2

noncomputable instance (a b : Int) : Decidable (IntMulOk a b) := Classical.propDecidable _

def vadd : D → D → R D
  | .int i, .int j => .ok (.int (i + j))
  | .str x, .str y => if x.length + y.length ≤ sizeLine then .ok (.str (x ++ y)) else .stuck
  | .list xs, .list ys => if xs.length + ys.length ≤ sizeLine then .ok (.list (xs ++ ys)) else .stuck
  | .tuple xs, .tuple ys => if xs.length + ys.length ≤ sizeLine then .ok (.tuple (xs ++ ys)) else .stuck
  | _, _ => .stuck
def vsub : D → D → R D
  | .int i, .int j => .ok (.int (i - j))
  | _, _ => .stuck
noncomputable def vmul : D → D → R D
  | .int i, .int j => if IntMulOk i j then .ok (.int (i * j)) else .stuck
  | _, _ => .stuck
noncomputable def vfdiv : D → D → R D
  | .int i, .int j => @ite _ (0 < j ∧ j < 2 ^ 250) (Classical.propDecidable _) (.ok (.int (i / j))) .stuck
  | _, _ => .stuck
def vmod : D → D → R D
  | .int i, .int j => if 0 < j then .ok (.int (i % j)) else .stuck
  | _, _ => .stuck
noncomputable def vpow : D → D → R D
  | .int i, .int j => @ite _ (0 ≤ j ∧ j ≤ 1000 ∧ i.natAbs < 2 ^ 64) (Classical.propDecidable _) (.ok (.int (i ^ j.toNat))) .stuck
  | _, _ => .stuck
def vneg : D → R D
  | .int i => .ok (.int (-i))
  | _ => .stuck
def vlt : D → D → R D
  | .int i, .int j => .ok (.bool (decide (i < j)))
  | _, _ => .stuck
def vle : D → D → R D
  | .int i, .int j => .ok (.bool (decide (i ≤ j)))
  | _, _ => .stuck
def vgt : D → D → R D
  | .int i, .int j => .ok (.bool (decide (j < i)))
  | _, _ => .stuck
def vge : D → D → R D
  | .int i, .int j => .ok (.bool (decide (j ≤ i)))
  | _, _ => .stuck
def vEq (d e : D) : R Bool := if SeqAt.shaped d = true ∧ SeqAt.shaped e = true then .ok (PyData.eqv d e) else .stuck
def veq (d e : D) : R D := (vEq d e).bind fun b => .ok (.bool b)
def vne (d e : D) : R D := (vEq d e).bind fun b => .ok (.bool (!b))
def visnone : D → R D := fun d => .ok (.bool (match d with | .none => true | _ => false))
def vidx : D → D → R D
  | .list xs, .int i => match atI xs i with | some d => .ok d | none => .stuck
  | .tuple xs, .int i => match atI xs i with | some d => .ok d | none => .stuck
  | .str z, .int i => match atI z.cps.toList i with | some c => if z.length ≤ sizeLine then .ok (.str ⟨#[c]⟩) else .stuck | none => .stuck
  | _, _ => .stuck
def vin (d : D) : D → R Bool
  | .list ds => if SeqAt.shaped d = true ∧ SeqAt.shaped (.list ds) = true then .ok (ds.any fun z => PyData.eqv z d) else .stuck
  | _ => .stuck

section
variable {X : Cx} {W : WX} {a b c : Expr} {es : List Expr} {pos : Pos} {fa fb fc : PEnv → R D} {k : Nat}

theorem atI_all {K : PySem.W.Frag} {F : Hp} {vs : List V} {ds : List D} {i : Int} {d : D} (h : IsAll K F vs ds) (e : atI ds i = some d) : ∃ v, atI vs i = some v ∧ Is K F v d := by
  unfold atI at e ⊢
  rw [IsAll.len h]
  cases q : ixN ds.length i with
  | none => rw [q] at e; simp at e
  | some j =>
    rw [q] at e
    simp only [Option.bind_some] at e ⊢
    exact IsAll.get' h e

theorem r_int {K : Int → Int → Prop} {g : Int → Int → V} {G : D → D → R D} {T : Int → Int → D} (hG : ∀ d e, G d e ≠ .stuck → ∃ i j, d = .int i ∧ e = .int j ∧ K i j ∧ G d e = .ok (T i j)) (hg : ∀ i j F, Is X.K F (g i j) (T i j)) : Rule2 X W (rI K g) G := by
  intro d e x y σ H B Q s sm dx dy p
  have h0 : G d e ≠ .stuck := fun z => by rw [z] at p; exact p
  obtain ⟨i, j, rfl, rfl, hk, eG⟩ := hG d e h0
  rw [eG] at p
  cases dx
  cases dy
  exact ⟨i, j, rfl, rfl, hk, p _ H B (.refl s) (hg i j B)⟩
theorem r_int0 {g : Int → Int → V} {G : D → D → R D} {T : Int → Int → D} (hG : ∀ d e, G d e ≠ .stuck → ∃ i j, d = .int i ∧ e = .int j ∧ G d e = .ok (T i j)) (hg : ∀ i j F, Is X.K F (g i j) (T i j)) : Rule2 X W (rI0 g) G := by
  intro d e x y σ H B Q s sm dx dy p
  have h0 : G d e ≠ .stuck := fun z => by rw [z] at p; exact p
  obtain ⟨i, j, rfl, rfl, eG⟩ := hG d e h0
  rw [eG] at p
  cases dx
  cases dy
  exact ⟨i, j, rfl, rfl, p _ H B (.refl s) (hg i j B)⟩

theorem vsub_ (ha : VE X W a fa) (hb : VE X W b fb) : VE X W (.BinOp a .Sub b pos) (v2 vsub fa fb) :=
  ve2 (fun p q => pe_op op_sub p q) (r_int0 (T := fun i j => .int (i - j)) (fun d e h => by cases d <;> first | exact absurd rfl h | (cases e <;> first | exact absurd rfl h | exact ⟨_, _, rfl, rfl, rfl⟩)) fun _ _ _ => .int _) ha hb
theorem vmul_ (ha : VE X W a fa) (hb : VE X W b fb) : VE X W (.BinOp a .Mult b pos) (v2 vmul fa fb) :=
  ve2 (fun p q => pe_op (r := rI IntMulOk fun i j => .int (i * j)) (opI fun _ _ _ _ _ _ _ hc q => mul_int q hc) p q) (r_int (T := fun i j => .int (i * j)) (fun d e h => by
    cases d <;> first | exact absurd rfl h | (cases e <;> first | exact absurd rfl h | skip)
    simp only [vmul] at h ⊢
    split at h
    · rename_i hm; exact ⟨_, _, rfl, rfl, hm, if_pos hm⟩
    · exact absurd rfl h) fun _ _ _ => .int _) ha hb
theorem log2_250 {j : Int} (h0 : 0 < j) (h : j < 2 ^ 250) : CDivW 0 j := wide_div h0 (b := 250) (by omega) (by omega) (by omega)
theorem vfdiv_ (ha : VE X W a fa) (hb : VE X W b fb) : VE X W (.BinOp a .FloorDiv b pos) (v2 vfdiv fa fb) :=
  ve2 (fun p q => pe_op op_fdivW p q) (r_int (K := CDivW) (T := fun i j => .int (i / j)) (fun d e h => by
    cases d <;> first | exact absurd rfl h | (cases e <;> first | exact absurd rfl h | skip)
    simp only [vfdiv] at h ⊢
    split at h
    · rename_i hm; exact ⟨_, _, rfl, rfl, log2_250 hm.1 hm.2, if_pos hm⟩
    · exact absurd rfl h) fun _ _ _ => .int _) ha hb
theorem vmod_ (ha : VE X W a fa) (hb : VE X W b fb) : VE X W (.BinOp a .Mod b pos) (v2 vmod fa fb) :=
  ve2 (fun p q => pe_op op_mod p q) (r_int (T := fun i j => .int (i % j)) (fun d e h => by
    cases d <;> first | exact absurd rfl h | (cases e <;> first | exact absurd rfl h | skip)
    simp only [vmod] at h ⊢
    split at h
    · rename_i hm; exact ⟨_, _, rfl, rfl, hm, if_pos hm⟩
    · exact absurd rfl h) fun _ _ _ => .int _) ha hb
theorem vpow_ (ha : VE X W a fa) (hb : VE X W b fb) : VE X W (.BinOp a .Pow b pos) (v2 vpow fa fb) :=
  ve2 (fun p q => pe_op op_pow p q) (r_int (T := fun i j => .int (i ^ j.toNat)) (fun d e h => by
    cases d <;> first | exact absurd rfl h | (cases e <;> first | exact absurd rfl h | skip)
    simp only [vpow] at h ⊢
    split at h
    · rename_i hm; exact ⟨_, _, rfl, rfl, ⟨hm.1, by omega, hm.2.2⟩, if_pos hm⟩
    · exact absurd rfl h) fun _ _ _ => .int _) ha hb
theorem vneg_ (ha : VE X W a fa) : VE X W (.UnaryOp .USub a pos) (v1 vneg fa) :=
  ve1 (fun p => pe_un un_neg p) (fun d x σ H B Q s sm dx p => by
    cases dx <;> first | exact p.elim | exact ⟨_, rfl, p _ H B (.refl s) (.int _)⟩) ha
theorem vlt_ (ha : VE X W a fa) (hb : VE X W b fb) : VE X W (.Compare a [.Lt] [b] pos) (v2 vlt fa fb) :=
  ve2 (fun p q => pe_cmpR op_lt p q (nomark _)) (r_int0 (T := fun i j => .bool (decide (i < j))) (fun d e h => by cases d <;> first | exact absurd rfl h | (cases e <;> first | exact absurd rfl h | exact ⟨_, _, rfl, rfl, rfl⟩)) fun _ _ _ => .bl _) ha hb
theorem vgt_ (ha : VE X W a fa) (hb : VE X W b fb) : VE X W (.Compare a [.Gt] [b] pos) (v2 vgt fa fb) :=
  ve2 (fun p q => pe_cmpR op_gt p q (nomark _)) (r_int0 (T := fun i j => .bool (decide (j < i))) (fun d e h => by cases d <;> first | exact absurd rfl h | (cases e <;> first | exact absurd rfl h | exact ⟨_, _, rfl, rfl, rfl⟩)) fun _ _ _ => .bl _) ha hb
theorem vge_ (ha : VE X W a fa) (hb : VE X W b fb) : VE X W (.Compare a [.GtE] [b] pos) (v2 vge fa fb) :=
  ve2 (fun p q => pe_cmpR op_ge p q (nomark _)) (r_int0 (T := fun i j => .bool (decide (j ≤ i))) (fun d e h => by cases d <;> first | exact absurd rfl h | (cases e <;> first | exact absurd rfl h | exact ⟨_, _, rfl, rfl, rfl⟩)) fun _ _ _ => .bl _) ha hb
theorem rule_eq : Rule2 X W (rEqD X.K) veq := fun d e x y σ H B Q s sm dx dy p => by
  unfold veq vEq at p
  split at p
  · rename_i h
    exact ⟨d, e, (Is.mono s dx).dp (SeqAt.canLay_of_shaped h.1), (Is.mono s dy).dp (SeqAt.canLay_of_shaped h.2), h.1, h.2, p _ H B (.refl s) (.bl _)⟩
  · exact p.elim
theorem rule_ne : Rule2 X W (rNeD X.K) vne := fun d e x y σ H B Q s sm dx dy p => by
  unfold vne vEq at p
  split at p
  · rename_i h
    exact ⟨d, e, (Is.mono s dx).dp (SeqAt.canLay_of_shaped h.1), (Is.mono s dy).dp (SeqAt.canLay_of_shaped h.2), h.1, h.2, p _ H B (.refl s) (.bl _)⟩
  · exact p.elim
theorem lt65 {n : Nat} (h : n + 65 < cLine) : n + 64 < cLine := by omega
theorem veq_ (hu : X.A.units + 65 < cLine) (ha : VE X W a fa) (hb : VE X W b fb) : VE X W (.Compare a [.Eq] [b] pos) (v2 veq fa fb) := ve2 (fun p q => pe_cmpR (op_eqD (lt65 hu)) p q (nomark _)) rule_eq ha hb
theorem hu65 {A : Around} (hr : Room k A) : A.units + 65 < cLine := by have := hr.un; omega
def rCatL : R2 := fun x y H Q => ∃ l b xs zs, x = .ref l ∧ y = .ref b ∧ Rd H l (.lst xs) ∧ Rd H b (.lst zs) ∧ xs.length + zs.length ≤ sizeLine ∧ ∀ p, H p = none → Q (.ref p) (upd H p (.lst (xs ++ zs)))
theorem op_catL : OpR X (binaryOp .Add) rCatL := by
  intro pins t σ G x y vv uu Q J rX rY hh
  obtain ⟨a, b, xs, zs, rfl, rfl, hH, hB, hz, q⟩ := hh
  cases rX
  cases rY
  obtain ⟨z, us, n, r, e1⟩ : xs.length ≤ sizeLine ∧ ∃ (us : List Value) (n : Nat), Vals xs us ∧ t.heap.get? a = some { cls := .type "list", data := .seq us.toArray n } := hH.ok J.hok
  obtain ⟨z2, us2, n2, r2, e2⟩ : zs.length ≤ sizeLine ∧ ∃ (us : List Value) (n : Nat), Vals zs us ∧ t.heap.get? b = some { cls := .type "list", data := .seq us.toArray n } := hB.ok J.hok
  have hl := r.length
  have hl2 := r2.length
  refine PySem.P.add_list e1 e2 ?_ (by rw [List.size_toArray, List.size_toArray]; omega)
  have eu : us.toArray ++ us2.toArray = (us ++ us2).toArray := by simp
  rw [eu]
  exact ⟨.ref _, _, J.lnew (t' := t.toks) (r.append r2) (by rw [List.length_append]; omega), rfl, q _ J.fresh⟩
theorem vadd_ (ha : VE X W a fa) (hb : VE X W b fb) : VE X W (.BinOp a .Add b pos) (v2 vadd fa fb) := by
  refine ve2 (fun p q => pe_op (L2.OpR.or op_add (L2.OpR.or op_add_str (L2.OpR.or op_catL op_catA))) p q) (fun d e x y σ H B Q s sm dx dy p => ?_) ha hb
  cases dx with
  | int i =>
    cases dy <;> first | exact p.elim | exact .inl ⟨_, _, rfl, rfl, p _ H B (.refl s) (.int _)⟩
  | str z =>
    cases dy <;> first | exact p.elim | skip
    simp only [vadd] at p
    split at p
    · rename_i hz
      exact .inr (.inl ⟨_, _, rfl, rfl, hz, p _ H B (.refl s) (.str _)⟩)
    · exact p.elim
  | lst h1 h2 =>
    cases dy <;> first | exact p.elim | skip
    rename_i h3 h4
    simp only [vadd] at p
    split at p
    · rename_i hz
      refine .inr (.inr (.inl ⟨_, _, _, _, rfl, rfl, Rd.mono s h1, Rd.mono s h3, by rw [IsAll.len h2, IsAll.len h4]; exact hz, fun q hq => ?_⟩))
      exact p _ _ _ (Ext.new s hq) (.lst (.inl upd_same) (IsAll.append (IsAll.mono (Ext.new s hq).bb h2) (IsAll.mono (Ext.new s hq).bb h4)))
    · exact p.elim
  | tup h1 h2 =>
    cases dy <;> first | exact p.elim | skip
    rename_i ds1 a2 xs2 ds2 h3 h4
    simp only [vadd] at p
    split at p
    · rename_i hz
      have l1 := IsAll.len h2
      have l2 := IsAll.len h4
      refine .inr (.inr (.inr ⟨_, _, _, _, rfl, rfl, Same.tupl s h1, Same.tupl s h3, by rw [l1, l2]; exact hz, fun e1 => ?_, fun _ e2 => ?_, fun _ _ q hq => ?_⟩))
      · subst e1
        have : ds1 = [] := List.eq_nil_of_length_eq_zero (by rw [← l1]; rfl)
        subst this
        exact p _ H B (.refl s) (.tup h3 h4)
      · subst e2
        have : ds2 = [] := List.eq_nil_of_length_eq_zero (by rw [← l2]; rfl)
        subst this
        rw [List.append_nil] at p
        exact p _ H B (.refl s) (.tup h1 h2)
      · exact p _ _ _ (Ext.new s hq) (.tup (.inl upd_same) (IsAll.append (IsAll.mono (Ext.new s hq).bb h2) (IsAll.mono (Ext.new s hq).bb h4)))
    · exact p.elim
  | non => cases dy <;> exact p.elim
  | bl _ => cases dy <;> exact p.elim
  | exc _ _ => cases dy <;> exact p.elim
  | dct _ _ _ => cases dy <;> exact p.elim
  | ins _ _ _ _ => cases dy <;> exact p.elim

theorem rule_idx : Rule2 X W (rIx X.K) vidx := fun d e x y σ H B Q s sm dx dy p => by
  cases dx with
  | lst h1 h2 =>
    cases dy <;> first | exact p.elim | skip
    simp only [vidx] at p
    split at p
    · rename_i d' he
      obtain ⟨v, e1, dp⟩ := atI_all h2 he
      exact .inl ⟨_, _, _, v, rfl, rfl, .inl (Rd.mono s h1), e1, p v H B (.refl s) dp⟩
    · exact p.elim
  | tup h1 h2 =>
    cases dy <;> first | exact p.elim | skip
    simp only [vidx] at p
    split at p
    · rename_i d' he
      obtain ⟨v, e1, dp⟩ := atI_all h2 he
      exact .inr (.inl ⟨_, _, _, v, rfl, rfl, Same.tupl s h1, e1, p v H B (.refl s) dp⟩)
    · exact p.elim
  | str z =>
    cases dy <;> first | exact p.elim | skip
    simp only [vidx] at p
    split at p
    · rename_i c' he
      split at p
      · rename_i hz
        exact .inr (.inr ⟨_, _, _, rfl, rfl, hz, he, p _ H B (.refl s) (.str _)⟩)
      · exact p.elim
    · exact p.elim
  | int _ => cases dy <;> exact p.elim
  | non => cases dy <;> exact p.elim
  | bl _ => cases dy <;> exact p.elim
  | exc _ _ => cases dy <;> exact p.elim
  | dct _ _ _ => cases dy <;> exact p.elim
  | ins _ _ _ _ => cases dy <;> exact p.elim
theorem vidx_ (ha : VE X W a fa) (hb : VE X W b fb) (hs : PlainIx b := by exact fun _ _ => rfl) : VE X W (.Subscript a b pos) (v2 vidx fa fb) := ve2 (fun p q => pe_ix ix_seq p q hs) rule_idx ha hb

def aNil : PEnv → R (List D) := fun _ => .ok []
def aCons (f : PEnv → R D) (g : PEnv → R (List D)) : PEnv → R (List D) := fun ρ => (f ρ).bind fun d => (g ρ).bind fun ds => .ok (d :: ds)
theorem va_nil : VA X W [] aNil := ⟨tNil, pa_nil, fun σ H B ρ Q s r p => p [] H B (.refl s) .nil⟩
theorem va_cons {e : Expr} {f : PEnv → R D} {g : PEnv → R (List D)} (h : VE X W e f) (t : VA X W es g) (hs : starEach (e :: es) X.env = (false, eval e X.env) :: starEach es X.env := by rfl) : VA X W (e :: es) (aCons f g) := by
  obtain ⟨ta, pa, qa⟩ := h.ex
  obtain ⟨tb, pb, qb⟩ := t.ex
  refine ⟨_, pa_cons pa pb hs, fun σ H B ρ Q s r p => ?_⟩
  refine qa σ H B ρ _ s r ?_
  unfold aCons at p
  generalize f ρ = rf at p ⊢
  cases rf with
  | stuck => exact p
  | err c => exact p
  | ok d =>
    intro x H1 B1 e1 sm1 d1
    refine qb σ H1 B1 ρ _ e1.bh (r.mono e1.bb) ?_
    simp only [R.bind_ok] at p
    generalize g ρ = rg at p ⊢
    cases rg with
    | stuck => exact p
    | err c => exact fun H' z => p H' (e1.hh.trans z)
    | ok ds =>
      intro xs H2 B2 e2 d2
      exact p _ _ _ (e1.trans e2) (.cons (Is.mono e2.bb d1) d2)
theorem args {g : PEnv → R (List D)} {t : TA} (ht : ∀ σ H B ρ Q, Same B H → RF X.K B σ ρ → Pst X W σ H (KA1 X B H Q) (g ρ) → t σ H Q)
    {α : Type} {σ : L2.St} {H B : Hp} {ρ : PEnv} {G : List D → R α} {K : α → Prop} {Q : List V → Hp → Prop} (s : Same B H) (r : RF X.K B σ ρ)
    (p : Pst X W σ H K ((g ρ).bind G))
    (q : ∀ ds xs H' B', Ext B H B' H' → IsAll X.K B' xs ds → Pst X W σ H' K (G ds) → Q xs H') : t σ H Q := by
  refine ht σ H B ρ _ s r ?_
  generalize g ρ = rg at p ⊢
  cases rg with
  | stuck => exact p
  | err c => exact p
  | ok ds =>
    intro xs H1 B1 e1 d1
    refine q ds xs H1 B1 e1 d1 ?_
    simp only [R.bind_ok] at p
    generalize G ds = rr at p ⊢
    cases rr with
    | stuck => exact p
    | err c => exact fun H' z => p H' (e1.hh.trans z)
    | ok z => exact p
def vtup (g : PEnv → R (List D)) : PEnv → R D := fun ρ => (g ρ).bind fun ds => .ok (.tuple ds)
structure VAn (X : Cx) (W : WX) (n : Nat) (es : List Expr) (f : PEnv → R (List D)) : Prop where
  va : VA X W es f
  len : ∀ ρ ds, f ρ = .ok ds → ds.length = n
theorem van_nil : VAn X W 0 [] aNil := ⟨va_nil, fun ρ ds h => by cases h; rfl⟩
theorem van_cons {n : Nat} {e : Expr} {f : PEnv → R D} {g : PEnv → R (List D)} (h : VE X W e f) (t : VAn X W n es g) (hs : starEach (e :: es) X.env = (false, eval e X.env) :: starEach es X.env := by rfl) : VAn X W (n + 1) (e :: es) (aCons f g) :=
  ⟨va_cons h t.va hs, fun ρ ds q => by
    unfold aCons at q
    generalize f ρ = rf at q
    cases rf with
    | stuck => cases q
    | err c => cases q
    | ok d =>
      simp only [R.bind_ok] at q
      generalize hg : g ρ = rg at q
      cases rg with
      | stuck => cases q
      | err c => cases q
      | ok es' =>
        cases q
        rw [List.length_cons, t.len ρ es' hg]⟩
theorem vtup_ {n : Nat} {x1} {g : PEnv → R (List D)} (h : VAn X W n es g) (hz : n ≤ 1000 := by decide) : VE X W (.Tuple es x1 pos) (vtup g) := by
  obtain ⟨t, pt, qt⟩ := h.va.ex
  refine VE.mk' (pe_tup pt) fun σ H B ρ Q s r p => ?_
  cases hg : g ρ with
  | stuck => unfold vtup at p; rw [hg] at p; exact p.elim
  | err c => unfold vtup at p; rw [hg] at p; exact qt σ H B ρ _ s r (by rw [hg]; exact p)
  | ok ds =>
    unfold vtup at p
    rw [hg] at p
    refine qt σ H B ρ _ s r ?_
    rw [hg]
    intro xs H1 B1 e1 d1
    refine ⟨by rw [IsAll.len d1, h.len ρ ds hg]; exact Nat.le_trans hz (by decide), fun q hq => ?_⟩
    have E := Ext.new (o := HO.tup xs) e1.bh hq
    exact p _ _ _ (e1.trans E) (.tup (.inl upd_same) (IsAll.mono E.bb d1))
end
end VL

namespace VL
open PySem PySem.Spec PyProof.Rows L2

def tbool : D → R Bool
  | .bool b => .ok b
  | _ => .stuck
def vtruth : D → R Bool
  | .none => .ok false
  | .bool b => .ok b
  | .int i => .ok (i != 0)
  | .str y => if y.length ≤ sizeLine then .ok ((y.length : Int) != 0) else .stuck
  | .list xs => .ok (!xs.isEmpty)
  | .tuple xs => .ok (!xs.isEmpty)
  | .dict _ => .stuck
section
variable {X : Cx} {W : WX} {a b c : Expr} {es : List Expr} {pos : Pos} {fa fb fc : PEnv → R D} {ft fu : PEnv → R Bool} {k : Nat}

theorem vt2 {e : Expr} {r : R2} {g : D → D → R D} (mk : ∀ {ta tb : TE}, PE X a ta → PE X b tb → PT X e (tTest (tOp r ta tb))) (hr : Rule2 X W r g) (hg : ∀ d e z, g d e = .ok z → ∃ k, z = .bool k) (ha : VE X W a fa) (hb : VE X W b fb) :
    VT X W e (fun ρ => (v2 g fa fb ρ).bind tbool) := by
  obtain ⟨ta, pa, qa⟩ := ha.ex
  obtain ⟨tb, pb, qb⟩ := hb.ex
  refine ⟨_, mk pa pb, fun σ H B ρ Q s rf p => ?_⟩
  have p' : Pst X W σ H (KB1 B H Q) ((fa ρ).bind fun d => (fb ρ).bind fun e => (g d e).bind tbool) := by
    unfold v2 at p
    generalize fa ρ = ra at p ⊢
    cases ra with
    | stuck => exact p
    | err c => exact p
    | ok d =>
      simp only [R.bind_ok] at p ⊢
      generalize fb ρ = rb at p ⊢
      cases rb <;> exact p
  refine two qa qb s rf p' fun d e x y H' B' ex sm dx dy pg => ?_
  refine hr d e x y σ H' B' _ ex.bh sm dx dy ?_
  generalize hge : g d e = rg at pg ⊢
  cases rg with
  | stuck => exact pg
  | err c => exact pg
  | ok z =>
    obtain ⟨k, rfl⟩ := hg d e z hge
    intro v H2 B2 e2 dv
    cases dv
    exact ⟨k, rfl, pg H2 B2 (ex.trans e2)⟩
theorem vlt_t (ha : VE X W a fa) (hb : VE X W b fb) : VT X W (.Compare a [.Lt] [b] pos) (fun ρ => (v2 vlt fa fb ρ).bind tbool) :=
  vt2 (fun p q => pt_cmpR op_lt p q (nomark _)) (r_int0 (T := fun i j => .bool (decide (i < j))) (fun d e h => by cases d <;> first | exact absurd rfl h | (cases e <;> first | exact absurd rfl h | exact ⟨_, _, rfl, rfl, rfl⟩)) fun _ _ _ => .bl _) (fun d e z h => by cases d <;> first | (cases h; done) | (cases e <;> first | (cases h; done) | (cases h; exact ⟨_, rfl⟩))) ha hb
theorem vgt_t (ha : VE X W a fa) (hb : VE X W b fb) : VT X W (.Compare a [.Gt] [b] pos) (fun ρ => (v2 vgt fa fb ρ).bind tbool) :=
  vt2 (fun p q => pt_cmpR op_gt p q (nomark _)) (r_int0 (T := fun i j => .bool (decide (j < i))) (fun d e h => by cases d <;> first | exact absurd rfl h | (cases e <;> first | exact absurd rfl h | exact ⟨_, _, rfl, rfl, rfl⟩)) fun _ _ _ => .bl _) (fun d e z h => by cases d <;> first | (cases h; done) | (cases e <;> first | (cases h; done) | (cases h; exact ⟨_, rfl⟩))) ha hb
theorem vge_t (ha : VE X W a fa) (hb : VE X W b fb) : VT X W (.Compare a [.GtE] [b] pos) (fun ρ => (v2 vge fa fb ρ).bind tbool) :=
  vt2 (fun p q => pt_cmpR op_ge p q (nomark _)) (r_int0 (T := fun i j => .bool (decide (j ≤ i))) (fun d e h => by cases d <;> first | exact absurd rfl h | (cases e <;> first | exact absurd rfl h | exact ⟨_, _, rfl, rfl, rfl⟩)) fun _ _ _ => .bl _) (fun d e z h => by cases d <;> first | (cases h; done) | (cases e <;> first | (cases h; done) | (cases h; exact ⟨_, rfl⟩))) ha hb
theorem veq_t (hu : X.A.units + 65 < cLine) (ha : VE X W a fa) (hb : VE X W b fb) : VT X W (.Compare a [.Eq] [b] pos) (fun ρ => (v2 veq fa fb ρ).bind tbool) :=
  vt2 (fun p q => pt_cmpR (op_eqD (lt65 hu)) p q (nomark _)) rule_eq (fun d e z h => by
    unfold veq at h
    generalize vEq d e = r at h
    cases r <;> first | (cases h; done) | (cases h; exact ⟨_, rfl⟩)) ha hb
theorem vne_t (hu : X.A.units + 65 < cLine) (ha : VE X W a fa) (hb : VE X W b fb) : VT X W (.Compare a [.NotEq] [b] pos) (fun ρ => (v2 vne fa fb ρ).bind tbool) :=
  vt2 (fun p q => pt_cmpR (op_neD (lt65 hu)) p q (nomark _)) rule_ne (fun d e z h => by
    unfold vne at h
    generalize vEq d e = r at h
    cases r <;> first | (cases h; done) | (cases h; exact ⟨_, rfl⟩)) ha hb
def vIn (d e : D) : R D := (vin d e).bind fun b => .ok (.bool b)
def vNotIn (d e : D) : R D := (vin d e).bind fun b => .ok (.bool (!b))
theorem rule_in : Rule2 X W (rInD X.K) vIn := fun d e x y σ H B Q s sm dx dy p => by
  unfold vIn at p
  cases e <;> first | exact p.elim | skip
  simp only [vin] at p
  split at p
  · rename_i h
    exact ⟨_, _, (Is.mono s dx).dp (SeqAt.canLay_of_shaped h.1), (Is.mono s dy).dp (SeqAt.canLay_of_shaped h.2), h.1, h.2, p _ H B (.refl s) (.bl _)⟩
  · exact p.elim
theorem rule_notin : Rule2 X W (rNotInD X.K) vNotIn := fun d e x y σ H B Q s sm dx dy p => by
  unfold vNotIn at p
  cases e <;> first | exact p.elim | skip
  simp only [vin] at p
  split at p
  · rename_i h
    exact ⟨_, _, (Is.mono s dx).dp (SeqAt.canLay_of_shaped h.1), (Is.mono s dy).dp (SeqAt.canLay_of_shaped h.2), h.1, h.2, p _ H B (.refl s) (.bl _)⟩
  · exact p.elim
theorem vt_truth (h : VE X W a fa) (he : ∀ whole, isTrue a X.env whole = (do let v ← whole; standAt a.pos; holding [v] (truthy v)) := by intro _; rfl) : VT X W a (fun ρ => (fa ρ).bind vtruth) := by
  obtain ⟨ta, pa, qa⟩ := h.ex
  refine ⟨_, pt_truth pa he, fun σ H B ρ Q s rf p => ?_⟩
  refine one qa s rf p fun d x H' B' ex sm dx pg => ?_
  cases dx with
  | non => exact ⟨_, rfl, pg H' B' ex⟩
  | exc _ _ => exact pg.elim
  | dct _ _ _ => exact pg.elim
  | ins _ _ _ _ => exact pg.elim
  | bl b => exact ⟨_, rfl, pg H' B' ex⟩
  | int i => exact ⟨_, rfl, pg H' B' ex⟩
  | str y =>
    simp only [vtruth] at pg
    split at pg
    · rename_i hz
      exact ⟨_, ⟨hz, rfl⟩, pg H' B' ex⟩
    · exact pg.elim
  | lst h1 h2 => 
    refine ⟨_, .inl ⟨_, .inl (Rd.mono ex.bh h1), rfl⟩, ?_⟩
    have e : ∀ {vs : List V} {ds : List D}, IsAll X.K B' vs ds → (!vs.isEmpty) = (!ds.isEmpty) := fun h => by cases h <;> rfl
    rw [e h2]
    exact pg H' B' ex
  | tup h1 h2 =>
    refine ⟨_, .inr (.inl ⟨_, Same.tupl ex.bh h1, rfl⟩), ?_⟩
    have e : ∀ {vs : List V} {ds : List D}, IsAll X.K B' vs ds → (!vs.isEmpty) = (!ds.isEmpty) := fun h => by cases h <;> rfl
    rw [e h2]
    exact pg H' B' ex
structure VW (X : Cx) (W : WX) (e : Expr) (f : PEnv → R Bool) : Prop where
  ex : ∃ t, PW X e t ∧ ∀ σ H B ρ Q, Same B H → RF X.K B σ ρ → Pst X W σ H (KB1 B H Q) (f ρ) → t σ H Q
theorem VW.vt {e : Expr} (h : VW X W e ft) : VT X W e ft := by
  obtain ⟨t, p, q⟩ := h.ex
  exact ⟨t, p.pt, q⟩
def tand (f g : PEnv → R Bool) : PEnv → R Bool := fun ρ => (f ρ).bind fun b => if b then g ρ else .ok false
def tor (f g : PEnv → R Bool) : PEnv → R Bool := fun ρ => (f ρ).bind fun b => if b then .ok true else g ρ
def tnot (f : PEnv → R Bool) : PEnv → R Bool := fun ρ => (f ρ).bind fun b => .ok (!b)
theorem oneT {ta : TT} (ha : ∀ σ H B ρ Q, Same B H → RF X.K B σ ρ → Pst X W σ H (KB1 B H Q) (ft ρ) → ta σ H Q)
    {α : Type} {σ : L2.St} {H B : Hp} {ρ : PEnv} {g : Bool → R α} {K : α → Prop} {Q : Bool → Hp → Prop} (s : Same B H) (r : RF X.K B σ ρ)
    (p : Pst X W σ H K ((ft ρ).bind g))
    (q : ∀ b H' B', Ext B H B' H' → Pst X W σ H' K (g b) → Q b H') : ta σ H Q := by
  refine ha σ H B ρ _ s r ?_
  generalize ft ρ = ra at p ⊢
  cases ra with
  | stuck => exact p
  | err c => exact p
  | ok d =>
    intro H1 B1 e1
    refine q d H1 B1 e1 ?_
    simp only [R.bind_ok] at p
    generalize g d = rg at p ⊢
    cases rg with
    | stuck => exact p
    | err c => exact fun H' z => p H' (e1.hh.trans z)
    | ok z => exact p
theorem kb_ext {B H B1 H1 : Hp} {Q : Bool → Hp → Prop} {d : Bool} (e : Ext B H B1 H1) (p : KB1 B H Q d) : KB1 B1 H1 Q d := fun H' B' e' => p H' B' (e.trans e')
theorem kv1_ext {B H B1 H1 : Hp} {Q : VK} {d : D} (e : Ext B H B1 H1) (p : KV1 X B H Q d) : KV1 X B1 H1 Q d := fun v H' B' e' sm dp => p v H' B' (e.trans e') sm dp
theorem vw_and1 (h : VT X W a ft) : VW X W (.BoolOp .And [a] pos) ft := by
  obtain ⟨t, p, q⟩ := h.ex
  exact ⟨t, pw_and1 p, q⟩
theorem vw_or1 (h : VT X W a ft) : VW X W (.BoolOp .Or [a] pos) ft := by
  obtain ⟨t, p, q⟩ := h.ex
  exact ⟨t, pw_or1 p, q⟩
theorem vw_and (h : VT X W a ft) (g : VW X W (.BoolOp .And (b :: es) pos) fu) : VW X W (.BoolOp .And (a :: b :: es) pos) (tand ft fu) := by
  obtain ⟨t, p, q⟩ := h.ex
  obtain ⟨t2, p2, q2⟩ := g.ex
  refine ⟨_, pw_and p p2, fun σ H B ρ Q s rf pr => ?_⟩
  refine oneT q s rf pr fun d H' B' ex pg => ?_
  cases d with
  | true => exact iteT (q2 σ H' B' ρ Q ex.bh (rf.mono ex.bb) (Pst.imp (fun a k => kb_ext ex k) pg))
  | false => exact iteF (pg H' B' ex)
theorem vw_or (h : VT X W a ft) (g : VW X W (.BoolOp .Or (b :: es) pos) fu) : VW X W (.BoolOp .Or (a :: b :: es) pos) (tor ft fu) := by
  obtain ⟨t, p, q⟩ := h.ex
  obtain ⟨t2, p2, q2⟩ := g.ex
  refine ⟨_, pw_or p p2, fun σ H B ρ Q s rf pr => ?_⟩
  refine oneT q s rf pr fun d H' B' ex pg => ?_
  cases d with
  | false => exact iteF (q2 σ H' B' ρ Q ex.bh (rf.mono ex.bb) (Pst.imp (fun a k => kb_ext ex k) pg))
  | true => exact iteT (pg H' B' ex)
theorem vt_not (h : VT X W a ft) : VT X W (.UnaryOp .Not a pos) (tnot ft) := by
  obtain ⟨t, p, q⟩ := h.ex
  refine ⟨_, pt_not p, fun σ H B ρ Q s rf pr => ?_⟩
  exact oneT q s rf pr fun d H' B' ex pg => pg H' B' ex
def vif (t : PEnv → R Bool) (f g : PEnv → R D) : PEnv → R D := fun ρ => (t ρ).bind fun b => if b then f ρ else g ρ
def vand (f g : PEnv → R D) : PEnv → R D := fun ρ => (f ρ).bind fun d => (tbool d).bind fun b => if b then g ρ else .ok (.bool false)
def vor (f g : PEnv → R D) : PEnv → R D := fun ρ => (f ρ).bind fun d => (tbool d).bind fun b => if b then .ok (.bool true) else g ρ
def vnot (f : PEnv → R D) : PEnv → R D := fun ρ => (f ρ).bind fun d => (tbool d).bind fun b => .ok (.bool (!b))
theorem vone {op} (h : VE X W a fa) : VE X W (.BoolOp op [a] pos) fa := by
  obtain ⟨t, p, q⟩ := h.ex
  exact ⟨t, pe_one p, q⟩
theorem vand_ (h : VE X W a fa) (g : VE X W (.BoolOp .And (b :: es) pos) fb) : VE X W (.BoolOp .And (a :: b :: es) pos) (vand fa fb) := by
  obtain ⟨t, p, q⟩ := h.ex
  obtain ⟨t2, p2, q2⟩ := g.ex
  refine ⟨_, pe_and p p2, fun σ H B ρ Q s rf pr => ?_⟩
  refine one q s rf pr fun d x H' B' ex sm dx pg => ?_
  cases dx <;> first | exact pg.elim | skip
  rename_i b
  refine ⟨b, rfl, ?_⟩
  cases b with
  | true => exact iteT (q2 σ H' B' ρ Q ex.bh (rf.mono ex.bb) (Pst.imp (fun a k => kv1_ext ex k) pg))
  | false => exact iteF (pg _ H' B' ex sm (.bl _))
theorem vnot_ (h : VE X W a fa) : VE X W (.UnaryOp .Not a pos) (vnot fa) := by
  obtain ⟨t, p, q⟩ := h.ex
  refine VE.mk' (pe_not p) fun σ H B ρ Q s rf pr => ?_
  refine one q s rf pr fun d x H' B' ex sm dx pg => ?_
  cases dx <;> first | exact pg.elim | exact ⟨_, rfl, pg _ H' B' ex (.bl _)⟩
def vchain (g g' : D → D → R D) (fa fb fc : PEnv → R D) : PEnv → R D := fun ρ => (fa ρ).bind fun d => (fb ρ).bind fun e => (g d e).bind fun z => (tbool z).bind fun k => if k then (fc ρ).bind fun f => g' e f else .ok (.bool false)
structure IntCmp (X : Cx) (op : CmpOp) (p : Int → Int → Bool) (g : D → D → R D) : Prop where
  op : OpR X (compareOp op) (rI0 fun i j => .bl (p i j))
  g : ∀ d e, g d e ≠ .stuck → ∃ i j, d = .int i ∧ e = .int j ∧ g d e = .ok (.bool (p i j))
theorem ic_lt : IntCmp X .Lt (fun i j => decide (i < j)) vlt := ⟨op_lt, fun d e h => by cases d <;> first | exact absurd rfl h | (cases e <;> first | exact absurd rfl h | exact ⟨_, _, rfl, rfl, rfl⟩)⟩
theorem ic_le : IntCmp X .LtE (fun i j => decide (i ≤ j)) vle := ⟨op_le, fun d e h => by cases d <;> first | exact absurd rfl h | (cases e <;> first | exact absurd rfl h | exact ⟨_, _, rfl, rfl, rfl⟩)⟩
theorem chain_ok {op op' : CmpOp} {p p' : Int → Int → Bool} {g g' : D → D → R D} {ta tb tc : TE} (i1 : IntCmp X op p g) (i2 : IntCmp X op' p' g') (ha : ∀ σ H B ρ Q, Same B H → RF X.K B σ ρ → Pst X W σ H (KV1 X B H Q) (fa ρ) → ta σ H Q) (hb : ∀ σ H B ρ Q, Same B H → RF X.K B σ ρ → Pst X W σ H (KV1 X B H Q) (fb ρ) → tb σ H Q)
    (hc : ∀ σ H B ρ Q, Same B H → RF X.K B σ ρ → Pst X W σ H (KV1 X B H Q) (fc ρ) → tc σ H Q) {σ : L2.St} {H B : Hp} {ρ : PEnv} {Q : VK} (s : Same B H) (rf : RF X.K B σ ρ)
    (pr : Pst X W σ H (fun d => ∀ v H' B', Ext B H B' H' → Is X.K B' v d → Q v H') (vchain g g' fa fb fc ρ)) : tChain (rI0 fun i j => .bl (p i j)) (rI0 fun i j => .bl (p' i j)) ta tb tc σ H Q := by
  unfold vchain at pr
  refine two ha hb s rf pr fun d e x y H' B' ex sm dx dy pg => ?_
  have h0 : g d e ≠ .stuck := fun z => by rw [z] at pg; exact pg
  obtain ⟨i, j, rfl, rfl, eg⟩ := i1.g d e h0
  rw [eg] at pg
  cases dx
  cases dy
  refine ⟨i, j, rfl, rfl, p i j, rfl, ?_⟩
  simp only [R.bind_ok, tbool] at pg
  cases hp : p i j with
  | false =>
    rw [hp] at pg
    exact iteF (pg _ H' B' ex (.bl _))
  | true =>
    rw [hp] at pg
    refine iteT ?_
    simp only [if_true] at pg
    refine one hc ex.bh (rf.mono ex.bb) pg fun f z H2 B2 ex2 sm2 dz pg2 => ?_
    have h1 : g' (.int j) f ≠ .stuck := fun z => by rw [z] at pg2; exact pg2
    obtain ⟨j', m, ej, rfl, eg2⟩ := i2.g _ f h1
    cases ej
    rw [eg2] at pg2
    cases dz
    exact ⟨_, m, rfl, rfl, pg2 _ H2 B2 (ex.trans ex2) (.bl _)⟩
theorem vchain_ {op op' : CmpOp} {p p' : Int → Int → Bool} {g g' : D → D → R D} (i1 : IntCmp X op p g) (i2 : IntCmp X op' p' g') (ha : VE X W a fa) (hb : VE X W b fb) (hc : VE X W c fc) (hm : lastMarks [op, op'] [b, c] = false := by with_unfolding_all rfl) :
    VE X W (.Compare a [op, op'] [b, c] pos) (vchain g g' fa fb fc) := by
  obtain ⟨ta, pa, qa⟩ := ha.ex
  obtain ⟨tb, pb, qb⟩ := hb.ex
  obtain ⟨tc, pc, qc⟩ := hc.ex
  exact VE.mk' (pe_chain i1.op i2.op pa pb pc hm) fun σ H B ρ Q s rf pr => chain_ok i1 i2 qa qb qc s rf pr
def RuleC (X : Cx) (W : WX) (r : List V → Hp → VK → Prop) (g : List D → R D) : Prop := ∀ ds vs σ H B Q, Same B H → IsAll X.K B vs ds → Pst X W σ H (fun d' => ∀ v H' B', Ext B H B' H' → Is X.K B' v d' → Q v H') (g ds) → r vs H Q
def vapp (g : List D → R D) (f : PEnv → R (List D)) : PEnv → R D := fun ρ => (f ρ).bind g
theorem vcB {x : Str} {id : String} {r : List V → Hp → VK → Prop} {g : List D → R D} {f : PEnv → R (List D)} {p : Pos} {e : Expr} (hc : CallR X (.builtin id) r) (hr : RuleC X W r g) (hm : X.mg x = none) (hv : bootBuiltins x = some (.builtin id)) (ha : VA X W (e :: es) f)
    (hg : Gl X x := by rfl) (hn : x ≠ "__name__" := by decide) (hdb : (x == ("__debug__" : Str)) = false := by decide)
    (he : starEach (e :: es) X.env = (false, eval e X.env) :: starEach es X.env := by rfl) (hpl : (backTo pos (starEach es X.env)).any (·.1) = false := by rfl) : VE X W (.Call (.Name x p) (e :: es) [] pos) (vapp g f) := by
  obtain ⟨t, pt, qt⟩ := ha.ex
  refine VE.mk' (pe_callB hc hg hm hv pt hn hdb he hpl) fun σ H B ρ Q s rf pr => ?_
  exact args qt s rf pr fun ds xs H' B' ex dx pg => hr ds xs σ H' B' Q ex.bh dx (Pst.imp (fun a k => kv_ext ex k) pg)
theorem vcT {x : Str} {T : String} {r : List V → Hp → VK → Prop} {g : List D → R D} {f : PEnv → R (List D)} {p : Pos} {e : Expr} (hc : CallR X (.type T) r) (hr : RuleC X W r g) (hm : X.mg x = none) (hv : bootBuiltins x = some (.type T)) (ha : VA X W (e :: es) f)
    (hg : Gl X x := by rfl) (hn : x ≠ "__name__" := by decide) (hdb : (x == ("__debug__" : Str)) = false := by decide)
    (he : starEach (e :: es) X.env = (false, eval e X.env) :: starEach es X.env := by rfl) (hpl : (backTo pos (starEach es X.env)).any (·.1) = false := by rfl) : VE X W (.Call (.Name x p) (e :: es) [] pos) (vapp g f) := by
  obtain ⟨t, pt, qt⟩ := ha.ex
  refine VE.mk' (pe_callTy hc hg hm hv pt hn hdb he hpl) fun σ H B ρ Q s rf pr => ?_
  exact args qt s rf pr fun ds xs H' B' ex dx pg => hr ds xs σ H' B' Q ex.bh dx (Pst.imp (fun a k => kv_ext ex k) pg)
def spV (K : PySem.W.Frag) (mg : Str → Option Value) (n : Nat) (g : List D → R D) : Sp := fun vs H Q E => vs.length = n ∧ ∃ ds B, Same B H ∧ IsAll K B vs ds ∧
  match g ds with
  | .stuck => False
  | .err c => ∀ H', Same H H' → ∃ C, mg c = some (.ref C) ∧ E (.ref C) none H'
  | .ok d => ∀ v H' B', Ext B H B' H' → Is K B' v d → Q v H'
theorem vcall {x : Str} {f : Addr} {fd : FuncData} {ps : List Str} {n : Nat} {g : List D → R D} {fa : PEnv → R (List D)} {p : Pos} {e : Expr} (F : FnOk X.prog X.w X.K X.mg X.base (L2.CX X.prog X.w) k f fd ps (spV X.K X.mg n g)) (hr : Room k X.A) (hm : X.mg x = some (.ref f)) (hk : PySem.W.keepIn X.K (.ref f) = true) (hb : Binds X.K fd ps [])
    (tk : Takes X W) (ha : VAn X W n (e :: es) fa) (hg : Gl X x := by rfl) (hdb : (x == ("__debug__" : Str)) = false := by decide) (he : starEach (e :: es) X.env = (false, eval e X.env) :: starEach es X.env := by rfl) (hpl : (backTo pos (starEach es X.env)).any (·.1) = false := by rfl) :
    VE X W (.Call (.Name x p) (e :: es) [] pos) (vapp g fa) := by
  obtain ⟨t, pt, qt⟩ := ha.va.ex
  refine VE.mk' (pe_callS F hr hg hm hk hb (fun σ => passAt tk σ) pt hdb he hpl) fun σ H B ρ Q s rf pr => ?_
  have hl := ha.len ρ
  unfold vapp at pr
  generalize hfa : fa ρ = rr at pr hl
  cases rr with
  | stuck => exact pr.elim
  | err c => exact qt σ H B ρ _ s rf (by rw [hfa]; exact pr)
  | ok ds =>
    refine qt σ H B ρ _ s rf ?_
    rw [hfa]
    intro xs H1 B1 e1 dx
    refine ⟨by rw [IsAll.len dx]; exact hl ds rfl, ds, B1, e1.bh, dx, ?_⟩
    simp only [R.bind_ok] at pr
    generalize g ds = rg at pr ⊢
    cases rg with
    | stuck => exact pr
    | err c => exact fun H' z => pr H' (e1.hh.trans z)
    | ok d => exact fun v H' B' e' dv => pr v H' B' (e1.trans e') dv
end
end VL

namespace VL
open PySem PySem.Spec PyProof.Rows L2

def vlen : List D → R D
  | [.list xs] => .ok (.int xs.length)
  | [.tuple xs] => .ok (.int xs.length)
  | [.str z] => if z.length ≤ sizeLine then .ok (.int z.length) else .stuck
  | _ => .stuck
def vint1 : List D → R D
  | [.int i] => .ok (.int i)
  | [.bool k] => .ok (.int (if k then 1 else 0))
  | _ => .stuck
def vabs : List D → R D
  | [.int i] => .ok (.int (if i < 0 then -i else i))
  | _ => .stuck
def vtuple1 : List D → R D
  | [.list xs] => .ok (.tuple xs)
  | [.tuple xs] => .ok (.tuple xs)
  | _ => .stuck
def vlist1 : List D → R D
  | [.list xs] => .ok (.list xs)
  | [.tuple xs] => .ok (.list xs)
  | _ => .stuck
def intsOf : List D → Option (List Int)
  | [] => some []
  | .int i :: r => (intsOf r).map (i :: ·)
  | _ :: _ => none
def boolsOf : List D → Option (List Bool)
  | [] => some []
  | .bool i :: r => (boolsOf r).map (i :: ·)
  | _ :: _ => none
def vmax1 (ns : List Int) : R D := match ns.max? with | some m => .ok (.int m) | none => .stuck
def vmin1 (ns : List Int) : R D := match ns.min? with | some m => .ok (.int m) | none => .stuck
def vmax : List D → R D
  | [.list xs] => match intsOf xs with | some ns => vmax1 ns | none => .stuck
  | [.int i, .int j] => .ok (.int (if j > i then j else i))
  | _ => .stuck
def vmin : List D → R D
  | [.list xs] => match intsOf xs with | some ns => vmin1 ns | none => .stuck
  | [.int i, .int j] => .ok (.int (if j < i then j else i))
  | _ => .stuck
def vall : List D → R D
  | [.list xs] => match boolsOf xs with | some bs => .ok (.bool (bs.all id)) | none => .stuck
  | _ => .stuck
theorem intsOf_some : ∀ {ds : List D} {ns : List Int}, intsOf ds = some ns → ds = ns.map PyData.int
  | [], ns, h => by cases h; rfl
  | .int i :: r, ns, h => by
    simp only [intsOf] at h
    cases q : intsOf r with
    | none => rw [q] at h; cases h
    | some ms =>
      rw [q] at h
      cases h
      rw [List.map_cons, intsOf_some q]
  | .none :: _, _, h => by cases h
  | .bool _ :: _, _, h => by cases h
  | .str _ :: _, _, h => by cases h
  | .list _ :: _, _, h => by cases h
  | .tuple _ :: _, _, h => by cases h
  | .dict _ :: _, _, h => by cases h
theorem boolsOf_some : ∀ {ds : List D} {ns : List Bool}, boolsOf ds = some ns → ds = ns.map PyData.bool
  | [], ns, h => by cases h; rfl
  | .bool i :: r, ns, h => by
    simp only [boolsOf] at h
    cases q : boolsOf r with
    | none => rw [q] at h; cases h
    | some ms =>
      rw [q] at h
      cases h
      rw [List.map_cons, boolsOf_some q]
  | .none :: _, _, h => by cases h
  | .int _ :: _, _, h => by cases h
  | .str _ :: _, _, h => by cases h
  | .list _ :: _, _, h => by cases h
  | .tuple _ :: _, _, h => by cases h
  | .dict _ :: _, _, h => by cases h
theorem intsOf_map (ns : List Int) : intsOf (ns.map PyData.int) = some ns := by
  induction ns with
  | nil => rfl
  | cons n r ih => rw [List.map_cons]; simp only [intsOf, ih]; rfl
theorem boolsOf_map (ns : List Bool) : boolsOf (ns.map PyData.bool) = some ns := by
  induction ns with
  | nil => rfl
  | cons n r ih => rw [List.map_cons]; simp only [boolsOf, ih]; rfl
theorem is_ints {K : PySem.W.Frag} {F : Hp} : ∀ {ns : List Int} {vs : List V}, IsAll K F vs (ns.map PyData.int) → vs = ns.map V.int
  | [], _, h => by cases h; rfl
  | n :: r, _, h => by
    rw [List.map_cons] at h
    cases h with
    | cons h1 h2 => cases h1; rw [is_ints h2, List.map_cons]
theorem is_bools {K : PySem.W.Frag} {F : Hp} : ∀ {ns : List Bool} {vs : List V}, IsAll K F vs (ns.map PyData.bool) → vs = ns.map V.bl
  | [], _, h => by cases h; rfl
  | n :: r, _, h => by
    rw [List.map_cons] at h
    cases h with
    | cons h1 h2 => cases h1; rw [is_bools h2, List.map_cons]
theorem CallR.or {X : Cx} {f : Value} {r r' : List V → Hp → VK → Prop} (h : CallR X f r) (h' : CallR X f r') : CallR X f (fun xs H Q => r xs H Q ∨ r' xs H Q) := L2.CallR.or h h'

section
variable {X : Cx} {W : WX} {a b c : Expr} {es : List Expr} {pos : Pos} {fa fb fc : PEnv → R D} {ft fu : PEnv → R Bool} {k : Nat}

theorem rc_len : RuleC X W (fun xs H Q => (∃ p ys, xs = [.ref p] ∧ (SqL X.K H p ys ∨ SqT X.K H p ys) ∧ Q (.int ys.length) H) ∨ ∃ z, xs = [.str z] ∧ z.length ≤ sizeLine ∧ Q (.int z.length) H) vlen := fun ds vs σ H B Q s dx p => by
  cases dx with
  | nil => exact p.elim
  | cons h1 h2 =>
    cases h2 with
    | cons _ _ => cases h1 <;> exact p.elim
    | nil =>
      cases h1 <;> first | exact p.elim | skip
      · simp only [vlen] at p
        split at p
        · rename_i hz
          exact .inr ⟨_, rfl, hz, p _ H B (.refl s) (.int _)⟩
        · exact p.elim
      · rename_i h3 h4
        refine .inl ⟨_, _, rfl, .inl (.inl (Rd.mono s h3)), ?_⟩
        rw [IsAll.len h4]
        exact p _ H B (.refl s) (.int _)
      · rename_i h3 h4
        refine .inl ⟨_, _, rfl, .inr (Same.tupl s h3), ?_⟩
        rw [IsAll.len h4]
        exact p _ H B (.refl s) (.int _)
theorem vlen_ {f : PEnv → R (List D)} {p : Pos} {e : Expr} (hm : X.mg "len" = none) (ha : VA X W [e] f) (hg : Gl X "len" := by rfl) (he : starEach [e] X.env = (false, eval e X.env) :: starEach [] X.env := by rfl) (hpl : (backTo pos (starEach [] X.env)).any (·.1) = false := by rfl) :
    VE X W (.Call (.Name "len" p) [e] [] pos) (vapp vlen f) := vcB (L2.CallR.or call_len_seq call_len_str) rc_len hm boot_len ha hg (by decide) (by decide) he hpl
theorem rc_int : RuleC X W (fun xs H Q => (∃ i, xs = [.int i] ∧ Q (.int i) H) ∨ ∃ k, xs = [.bl k] ∧ Q (.int (if k then 1 else 0)) H) vint1 := fun ds vs σ H B Q s dx p => by
  cases dx with
  | nil => exact p.elim
  | cons h1 h2 =>
    cases h2 with
    | cons _ _ => cases h1 <;> exact p.elim
    | nil =>
      cases h1 <;> first | exact p.elim | skip
      · exact .inr ⟨_, rfl, p _ H B (.refl s) (.int _)⟩
      · exact .inl ⟨_, rfl, p _ H B (.refl s) (.int _)⟩
theorem vint_ {f : PEnv → R (List D)} {p : Pos} {e : Expr} (hm : X.mg "int" = none) (ha : VA X W [e] f) (hg : Gl X "int" := by rfl) (he : starEach [e] X.env = (false, eval e X.env) :: starEach [] X.env := by rfl) (hpl : (backTo pos (starEach [] X.env)).any (·.1) = false := by rfl) :
    VE X W (.Call (.Name "int" p) [e] [] pos) (vapp vint1 f) := vcT call_int1 rc_int hm boot_int ha hg (by decide) (by decide) he hpl
theorem rc_all : RuleC X W (rAll X.K) vall := fun ds vs σ H B Q s dx p => by
  cases dx with
  | nil => exact p.elim
  | cons h1 h2 =>
    cases h2 with
    | cons _ _ => cases h1 <;> exact p.elim
    | nil =>
      cases h1 <;> first | exact p.elim | skip
      rename_i h3 h4
      simp only [vall] at p
      split at p
      · rename_i ns hi
        rw [boolsOf_some hi] at h4
        have e := is_bools h4
        subst e
        exact ⟨_, ns, rfl, .inl (Rd.mono s h3), p _ H B (.refl s) (.bl _)⟩
      · exact p.elim
theorem vall_ {f : PEnv → R (List D)} {p : Pos} {e : Expr} (hc : X.calm = true) (hm : X.mg "all" = none) (ha : VA X W [e] f) (hg : Gl X "all" := by rfl) (he : starEach [e] X.env = (false, eval e X.env) :: starEach [] X.env := by rfl) (hpl : (backTo pos (starEach [] X.env)).any (·.1) = false := by rfl) :
    VE X W (.Call (.Name "all" p) [e] [] pos) (vapp vall f) := vcB (cr_all hc) rc_all hm (by decide +kernel) ha hg (by decide) (by decide) he hpl
def tyName : D → String
  | .none => "NoneType"
  | .bool _ => "bool"
  | .int _ => "int"
  | .str _ => "str"
  | .list _ => "list"
  | .tuple _ => "tuple"
  | .dict _ => "dict"
def isiT (T : String) (n : String) : Bool := n == T || (n == "bool" && T == "int")
def visi (T : String) : D → R D
  | .dict _ => .stuck
  | d => .ok (.bool (isiT T (tyName d)))
structure TyOk (T : String) : Prop where
  k : ∀ n ∈ ["NoneType", "bool", "int", "str", "list", "tuple"], kitB n T = some (isiT T n)
theorem ty_bool : TyOk "bool" := ⟨by decide +kernel⟩
theorem is_ty {K : PySem.W.Frag} {B H : Hp} (s : Same B H) {d : D} {v : V} (nd : ∀ k, d ≠ .dict k) (h : Is K B v d) : TyX K H v (.type (tyName d)) := by
  cases h with
  | non => exact .base .non
  | bl b => exact .base (.bl b)
  | int i => exact .base (.int i)
  | str z => exact .base (.str z)
  | lst h1 h2 =>
    rcases h1 with h | ⟨o, h⟩
    · exact .base (.lst (s _ _ h))
    · exact .base (.frz (s _ _ h))
  | exc _ _ => exact absurd rfl (nd _)
  | dct _ _ _ => exact absurd rfl (nd _)
  | ins _ _ _ _ => exact absurd rfl (nd _)
  | tup h1 h2 =>
    rcases h1 with h | ⟨o, its, n, h, c, _⟩
    · exact .base (.tup (s _ _ h))
    · exact .kTuple h c
theorem visi_ {T : String} {p p2 : Pos} (hT : TyOk T) (hm : X.mg "isinstance" = none) {x : Str} (hx : X.mg x = none) (hv : bootBuiltins x = some (.type T)) (ha : VE X W a fa)
    (hg : Gl X "isinstance" := by rfl) (hgx : Gl X x := by rfl) (hn : x ≠ "__name__" := by decide) (hdb : (x == ("__debug__" : Str)) = false := by decide)
    (he : starEach [a, .Name x p2] X.env = (false, eval a X.env) :: starEach [.Name x p2] X.env := by rfl) (he2 : starEach [.Name x p2] X.env = (false, eval (.Name x p2) X.env) :: starEach [] X.env := by rfl) (hpl : (backTo pos (starEach [.Name x p2] X.env)).any (·.1) = false := by rfl) :
    VE X W (.Call (.Name "isinstance" p) [a, .Name x p2] [] pos) (v1 (visi T) fa) := by
  obtain ⟨ta, pa, qa⟩ := ha.ex
  have p2' : PE X (.Name x p2) (tC (.ty T)) := pe_bltn hgx hx hv rfl hn hdb
  refine VE.mk' (pe_callB call_isi hg hm (by decide +kernel) (pa_cons pa (pa_cons p2' pa_nil he2) he) (by decide) (by decide) he hpl) fun σ H B ρ Q s rf p => ?_
  refine one qa s rf p fun d v H' B' ex sm dx pg => ?_
  have nd : ∀ k, d ≠ .dict k := fun k e => by subst e; exact pg.elim
  have ev : visi T d = .ok (.bool (isiT T (tyName d))) := by
    cases d <;> first | rfl | exact absurd rfl (nd _)
  rw [ev] at pg
  refine ⟨v, .ty T, .type (tyName d), .type T, isiT T (tyName d), rfl, .ty T, is_ty ex.bh nd dx, kit_ty (hT.k _ ?_), pg _ H' B' ex (.bl _)⟩
  cases dx <;> first | exact absurd rfl (nd _) | simp [tyName]

def cutL (xs : List D) (lo hi : Option Int) : List D := (xs.drop (HT.sIx xs.length 0 lo)).take (HT.sIx xs.length xs.length hi - HT.sIx xs.length 0 lo)
theorem IsAll.cut {K : PySem.W.Frag} {F : Hp} {vs : List V} {ds : List D} (h : IsAll K F vs ds) (lo hi : Option Int) : IsAll K F (cutV vs lo hi) (cutL ds lo hi) := by
  unfold cutV cutL
  rw [IsAll.len h]
  exact IsAll.take _ (IsAll.drop _ h)
def vcut (lo hi : Option Int) : D → R D
  | .list xs => .ok (.list (cutL xs lo hi))
  | .tuple xs => .ok (.tuple (cutL xs lo hi))
  | _ => .stuck
structure VO1 (X : Cx) (W : WX) (e : Option Expr) (f : PEnv → R (Option Int)) : Prop where
  ex : ∃ t, PO X e t ∧ ∀ σ H B ρ Q, Same B H → RF X.K B σ ρ → Pst X W σ H (fun i => ∀ H' B', Ext B H B' H' → Q i H') (f ρ) → t σ H Q
def oInt : D → R (Option Int)
  | .int i => .ok (some i)
  | _ => .stuck
theorem vo_none : VO1 X W none (fun _ => .ok none) := ⟨_, po_none, fun σ H B ρ Q s rf p => p H B (.refl s)⟩
theorem vo_some (h : VE X W a fa) : VO1 X W (some a) (fun ρ => (fa ρ).bind oInt) := by
  obtain ⟨t, p, q⟩ := h.ex
  refine ⟨_, po_some p, fun σ H B ρ Q s rf pr => ?_⟩
  refine one q s rf pr fun d x H' B' ex sm dx pg => ?_
  cases dx <;> first | exact pg.elim | exact ⟨_, rfl, pg H' B' ex⟩
def vslice (f : PEnv → R D) (l u : PEnv → R (Option Int)) : PEnv → R D := fun ρ => (f ρ).bind fun d => (l ρ).bind fun lo => (u ρ).bind fun hi => vcut lo hi d
theorem whole_cut (xs : List D) (lo hi : Option Int) (h : HT.sIx xs.length 0 lo = 0 ∧ HT.sIx xs.length xs.length hi = xs.length) : cutL xs lo hi = xs := by
  unfold cutL
  rw [h.1, h.2]
  simp
theorem vslice_ {lo hi : Option Expr} {p2 : Pos} {fl fu : PEnv → R (Option Int)} (ha : VE X W a fa) (hl : VO1 X W lo fl) (hu : VO1 X W hi fu) : VE X W (.Subscript a (.Slice lo hi none p2) pos) (vslice fa fl fu) := by
  obtain ⟨ta, pa, qa⟩ := ha.ex
  obtain ⟨tl, pl, ql⟩ := hl.ex
  obtain ⟨tu, pu, qu⟩ := hu.ex
  refine VE.mk' (pe_slice (SlR.or sl_list sl_tupA) pa pl pu) fun σ H B ρ Q s rf p => ?_
  unfold vslice at p
  refine one qa s rf p fun d x H1 B1 e1 sm dx p1 => ?_
  refine ql σ H1 B1 ρ _ e1.bh (rf.mono e1.bb) ?_
  generalize fl ρ = rl at p1 ⊢
  cases rl with
  | stuck => exact p1
  | err c => exact p1
  | ok lo' =>
    intro H2 B2 e2
    refine qu σ H2 B2 ρ _ e2.bh (rf.mono (e1.trans e2).bb) ?_
    simp only [R.bind_ok] at p1
    generalize fu ρ = ru at p1 ⊢
    cases ru with
    | stuck => exact p1
    | err c => exact fun H' z => p1 H' (e2.hh.trans z)
    | ok hi' =>
      intro H3 B3 e3
      simp only [R.bind_ok] at p1
      have E := (e1.trans e2).trans e3
      have dx3 := Is.mono (e2.trans e3).bb dx
      cases dx3 <;> first | exact p1.elim | skip
      · rename_i h1 h2
        refine .inl ⟨_, _, rfl, .inl (Rd.mono e3.bh h1), fun q hq => ?_⟩
        exact p1 _ _ _ (E.trans (Ext.new e3.bh hq)) (.lst (.inl upd_same) (IsAll.cut (IsAll.mono (Ext.new e3.bh hq).bb h2) _ _))
      · rename_i h1 h2
        refine .inr ⟨_, _, rfl, Same.tupl e3.bh h1, fun hw => ?_, fun _ q hq => ?_⟩
        · rw [IsAll.len h2] at hw
          rw [show vcut lo' hi' (.tuple _) = .ok (.tuple (cutL _ lo' hi')) from rfl, whole_cut _ _ _ hw] at p1
          exact p1 _ H3 B3 E (.tup h1 h2)
        · exact p1 _ _ _ (E.trans (Ext.new e3.bh hq)) (.tup (.inl upd_same) (IsAll.cut (IsAll.mono (Ext.new e3.bh hq).bb h2) _ _))
end
end VL

namespace VL
open PySem PySem.Spec PyProof.Rows L2

structure Walks (K : PySem.W.Frag) (J : It) (ds : List D) (B : Hp) : Prop where
  go : ∀ i H, Same B H → i < ds.length → J.go i H
  yld : ∀ i H x H' B1, Same B B1 → Same B1 H → i < ds.length → J.yld i H x H' → ∃ d B2, ds[i]? = some d ∧ Ext B1 H B2 H' ∧ Is K B2 x d
  stop : ∀ H, Same B H → J.stop ds.length H
  small : ds.length ≤ sizeLine
def KI1 (X : Cx) (B H : Hp) (Rr : It → Hp → Prop) (ds : List D) : Prop := ∀ J H' B', Ext B H B' H' → Walks X.K J ds B' → Rr J H'
structure VI (X : Cx) (W : WX) (tg iter : Expr) (f : PEnv → R (List D)) : Prop where
  ex : ∃ wi, PI X tg iter wi ∧ ∀ σ H B ρ Rr, Same B H → RF X.K B σ ρ → Pst X W σ H (KI1 X B H Rr) (f ρ) → wi σ H Rr
theorem walks_list {K : PySem.W.Frag} {B : Hp} {a : Addr} {vs : List V} {ds : List D} (h : Rd B a (.lst vs)) (hd : IsAll K B vs ds) (hz : ds.length ≤ sizeLine) : Walks K (Itl K a) ds B where
  go := fun i H s hi => by
    have hl := IsAll.len hd
    exact ⟨vs, vs[i]'(by omega), .inl (Rd.mono s h), by simp⟩
  yld := fun i H x H' B1 s1 s2 hi y => by
    obtain ⟨rfl, y⟩ := y
    have e := y vs (.inl (Rd.mono (s1.trans s2) h))
    obtain ⟨d, e2, e3⟩ := IsAll.get hd e
    exact ⟨d, B1, e2, .refl s2, Is.mono s1 e3⟩
  stop := fun H s => ⟨vs, .inl (Rd.mono s h), by rw [IsAll.len hd]; exact Nat.le_refl _⟩
  small := hz
theorem walks_tup {K : PySem.W.Frag} {B : Hp} {a : Addr} {vs : List V} {ds : List D} (h : TupAt K B a vs) (hd : IsAll K B vs ds) (hz : ds.length ≤ sizeLine) : Walks K (Itt K a) ds B where
  go := fun i H s hi => by
    have hl := IsAll.len hd
    exact ⟨vs, vs[i]'(by omega), Same.tupl s h, by simp⟩
  yld := fun i H x H' B1 s1 s2 hi y => by
    obtain ⟨rfl, y⟩ := y
    have e := y vs (Same.tupl (s1.trans s2) h)
    obtain ⟨d, e2, e3⟩ := IsAll.get hd e
    exact ⟨d, B1, e2, .refl s2, Is.mono s1 e3⟩
  stop := fun H s => ⟨vs, Same.tupl s h, by rw [IsAll.len hd]; exact Nat.le_refl _⟩
  small := hz
def rangeD (lo : Int) (n : Nat) : List D := (List.range n).map fun (i : Nat) => PyData.int (lo + (i : Int))
theorem rangeD_len (lo : Int) (n : Nat) : (rangeD lo n).length = n := by unfold rangeD; simp
theorem rangeD_at {lo : Int} {n i : Nat} (h : i < n) : (rangeD lo n)[i]? = some (.int (lo + (i : Int))) := by
  unfold rangeD
  rw [List.getElem?_map, List.getElem?_range h]
  rfl
theorem walks_range {K : PySem.W.Frag} {B : Hp} {lo : Int} {n : Nat} (hz : n ≤ sizeLine) : Walks K (Itr lo n) (rangeD lo n) B where
  go := fun i H s hi => by rw [rangeD_len] at hi; exact hi
  yld := fun i H x H' B1 s1 s2 hi y => by
    obtain ⟨rfl, rfl⟩ := y
    rw [rangeD_len] at hi
    exact ⟨_, B1, rangeD_at hi, .refl s2, .int _⟩
  stop := fun H s => by rw [rangeD_len]; exact Nat.le_refl _
  small := by rw [rangeD_len]; exact hz
def enumD (ds : List D) : List D := ds.mapIdx fun i d => PyData.tuple [.int (i : Int), d]
def zipD (ds es : List D) : List D := List.zipWith (fun d e => PyData.tuple [d, e]) ds es
theorem zipD_len (ds es : List D) : (zipD ds es).length = min ds.length es.length := by unfold zipD; simp
theorem walks_zip {K : PySem.W.Frag} {B : Hp} {a b : Addr} {vs us : List V} {ds es : List D} (h : Rd B a (.lst vs)) (hd : IsAll K B vs ds) (h' : Rd B b (.lst us)) (he : IsAll K B us es) (hz : ds.length ≤ sizeLine) : Walks K (Itz K a b) (zipD ds es) B where
  go := fun i H s hi => by
    have hl := IsAll.len hd
    have hl' := IsAll.len he
    rw [zipD_len] at hi
    exact ⟨vs, us, vs[i]'(by omega), us[i]'(by omega), .inl (Rd.mono s h), .inl (Rd.mono s h'), by simp, by simp⟩
  yld := fun i H x H' B1 s1 s2 hi y => by
    obtain ⟨T, x', y', rfl, nT, rfl, q1, q2⟩ := y
    have e := q1 vs (.inl (Rd.mono (s1.trans s2) h))
    have e' := q2 us (.inl (Rd.mono (s1.trans s2) h'))
    obtain ⟨d, e2, e3⟩ := IsAll.get hd e
    obtain ⟨d', e2', e3'⟩ := IsAll.get he e'
    refine ⟨.tuple [d, d'], _, ?_, Ext.new s2 nT, .tup (.inl upd_same) (.cons (Is.mono (s1.trans (Ext.new s2 nT).bb) e3) (.cons (Is.mono (s1.trans (Ext.new s2 nT).bb) e3') .nil))⟩
    unfold zipD
    rw [List.getElem?_zipWith, e2, e2']
  stop := fun H s => ⟨vs, us, .inl (Rd.mono s h), .inl (Rd.mono s h'), by rw [zipD_len, IsAll.len hd, IsAll.len he]; omega⟩
  small := by rw [zipD_len]; omega

def seqD : D → R (List D)
  | .list xs => .ok xs
  | .tuple xs => .ok xs
  | _ => .stuck
def rngOk (i j : Int) : Prop := -16777216 ≤ i ∧ i ≤ 16777216 ∧ -16777216 ≤ j ∧ j ≤ 16777216 ∧ j - i ≤ 16777216
noncomputable instance (i j : Int) : Decidable (rngOk i j) := Classical.propDecidable _
noncomputable def vrange1 : D → R (List D)
  | .int j => if rngOk 0 j then .ok (rangeD 0 j.toNat) else .stuck
  | _ => .stuck
noncomputable def vrange2 : D → D → R (List D)
  | .int i, .int j => if rngOk i j then .ok (rangeD i (j - i).toNat) else .stuck
  | _, _ => .stuck
def venum : D → R (List D)
  | .list xs => .ok (enumD xs)
  | _ => .stuck
def vzip : D → D → R (List D)
  | .list xs, .list ys => .ok (zipD xs ys)
  | _, _ => .stuck
def vrev : D → R (List D)
  | .list xs => .ok xs.reverse
  | _ => .stuck
def setsV (σ : L2.St) (bs : List (Nat × V)) : L2.St := bs.foldl (fun σ b => σ.set b.1 (some b.2)) σ
def setsD (ρ : PEnv) (bs : List (Nat × D)) : PEnv := bs.foldl (fun ρ b => ρ.set b.1 (some b.2)) ρ
abbrev Bds (K : PySem.W.Frag) (B : Hp) : List (Nat × V) → List (Nat × D) → Prop := Paired fun p q => p.1 = q.1 ∧ Is K B p.2 q.2
theorem RF.set {K : PySem.W.Frag} {B : Hp} {σ : L2.St} {ρ : PEnv} (h : RF K B σ ρ) (i : Nat) {v : V} {d : D} (hd : Is K B v d) : RF K B (σ.set i (some v)) (ρ.set i (some d)) := ⟨by rw [List.length_set, List.length_set]; exact h.len, fun j e x => by
  by_cases hj : j = i
  · subst hj
    have hl : j < ρ.length := by
      obtain ⟨q, _⟩ := List.getElem?_eq_some_iff.mp x
      rw [List.length_set] at q; exact q
    rw [List.getElem?_set_self hl] at x
    cases x
    rw [List.getElem?_set_self (by rw [h.len]; exact hl)]
    exact ⟨v, rfl, hd⟩
  · rw [List.getElem?_set_ne (Ne.symm hj)] at x
    obtain ⟨u, e1, e2⟩ := h.at_ j e x
    exact ⟨u, by rw [List.getElem?_set_ne (Ne.symm hj)]; exact e1, e2⟩⟩
theorem RF.sets {K : PySem.W.Frag} {B : Hp} : ∀ {bv : List (Nat × V)} {bd : List (Nat × D)} {σ : L2.St} {ρ : PEnv}, RF K B σ ρ → Bds K B bv bd → RF K B (setsV σ bv) (setsD ρ bd)
  | _, _, _, _, h, .nil => h
  | _, _, _, _, h, .cons (a := p) (b := q) r t => by
    obtain ⟨r1, r2⟩ := r
    unfold setsV setsD
    rw [List.foldl_cons, List.foldl_cons, r1]
    exact RF.sets (RF.set h q.1 r2) t
structure VG (X : Cx) (tg : Expr) (sl : List Nat) (k : D → R (List (Nat × D))) : Prop where
  ex : ∃ t, PG X tg t ∧ ∀ v σ H B d Q, Same B H → Is X.K B v d → (∃ bd, k d = .ok bd ∧ ∀ bv, Bds X.K B bv bd → Q (setsV σ bv) H) → t v σ H Q
  sl : ∀ d bs, k d = .ok bs → bs.map (·.1) = sl
structure VGs (X : Cx) (ts : List Expr) (sl : List Nat) (k : List D → R (List (Nat × D))) : Prop where
  ex : ∃ t, PGs X ts t ∧ ∀ vs σ H B ds Q, Same B H → IsAll X.K B vs ds → (∃ bd, k ds = .ok bd ∧ ∀ bv, Bds X.K B bv bd → Q (setsV σ bv) H) → t vs σ H Q
  sl : ∀ ds bs, k ds = .ok bs → bs.map (·.1) = sl ∧ ds.length = ts.length
def gN (i : Nat) : D → R (List (Nat × D)) := fun d => .ok [(i, d)]
def gC (g : D → R (List (Nat × D))) (h : List D → R (List (Nat × D))) : List D → R (List (Nat × D))
  | [] => .stuck
  | d :: ds => (g d).bind fun bs => (h ds).bind fun cs => .ok (bs ++ cs)
def gE : List D → R (List (Nat × D))
  | [] => .ok []
  | _ => .stuck
def gT (h : List D → R (List (Nat × D))) : D → R (List (Nat × D))
  | .tuple xs => h xs
  | .list xs => h xs
  | _ => .stuck
section
variable {X : Cx} {pos : Pos} {e : Expr} {es : List Expr} {g : D → R (List (Nat × D))} {h : List D → R (List (Nat × D))} {sl sl' : List Nat}
theorem vg (i : Nat) {x : Str} (hN : X.N.Nodup) (hi : X.N[i]? = some x := by rfl) (hx : Loc X.env.scope x := by first | exact Or.inl rfl | exact Or.inr rfl) (hf : X.fn x = true ∨ X.env.scope.names.lookup x = some .local := by first | exact .inl rfl | exact .inr rfl) : VG X (.Name x pos) [i] (gN i) :=
  ⟨⟨_, pg_name hN hi hx hf, fun v σ H B d Q s dv ⟨bd, e, q⟩ => by
    cases e
    exact q [(i, v)] (.cons ⟨rfl, dv⟩ .nil)⟩, fun d bs e => by cases e; rfl⟩
theorem vgs_nil : VGs X [] [] gE := ⟨⟨_, pgs_nil, fun vs σ H B ds Q s dv ⟨bd, e, q⟩ => by
  cases dv with
  | nil => cases e; exact ⟨rfl, q [] .nil⟩
  | cons _ _ => cases e⟩, fun ds bs e => by cases ds <;> first | (cases e; exact ⟨rfl, rfl⟩) | cases e⟩
theorem vgs_cons (h1 : VG X e sl g) (h2 : VGs X es sl' h) (hs : (assignEach (e :: es) X.env).map (·.2) = assign e X.env :: (assignEach es X.env).map (·.2) := by rfl) : VGs X (e :: es) (sl ++ sl') (gC g h) := by
  obtain ⟨t, p, q⟩ := h1.ex
  obtain ⟨t2, p2, q2⟩ := h2.ex
  refine ⟨⟨_, pgs_cons p p2 hs, fun vs σ H B ds Q s dv ⟨bd, eb, qq⟩ => ?_⟩, fun ds bs eb => ?_⟩
  · cases dv with
    | nil => cases eb
    | @cons v vs d ds d1 d2 =>
      refine ⟨v, vs, rfl, ?_⟩
      simp only [gC] at eb
      generalize hg : g d = rg at eb
      cases rg with
      | stuck => cases eb
      | err c => cases eb
      | ok b1 =>
        simp only [R.bind_ok] at eb
        generalize hh : h ds = rh at eb
        cases rh with
        | stuck => cases eb
        | err c => cases eb
        | ok b2 =>
          cases eb
          refine q v σ H B d _ s d1 ⟨b1, hg, fun bv1 hb1 => ?_⟩
          refine q2 vs _ H B ds _ s d2 ⟨b2, hh, fun bv2 hb2 => ?_⟩
          have z := qq (bv1 ++ bv2) (by
            have app : ∀ {l1 l2 l3 l4}, Bds X.K B l1 l2 → Bds X.K B l3 l4 → Bds X.K B (l1 ++ l3) (l2 ++ l4) := by
              intro l1 l2 l3 l4 a b
              induction a with
              | nil => exact b
              | cons r t ih => exact .cons r ih
            exact app hb1 hb2)
          unfold setsV at z
          rw [List.foldl_append] at z
          exact z
  · cases ds with
    | nil => cases eb
    | cons d ds =>
      simp only [gC] at eb
      generalize hg : g d = rg at eb
      cases rg with
      | stuck => cases eb
      | err c => cases eb
      | ok b1 =>
        simp only [R.bind_ok] at eb
        generalize hh : h ds = rh at eb
        cases rh with
        | stuck => cases eb
        | err c => cases eb
        | ok b2 =>
          cases eb
          obtain ⟨z1, z2⟩ := h2.sl ds b2 hh
          rw [List.map_append, h1.sl d b1 hg, z1, List.length_cons, List.length_cons, z2]
          exact ⟨rfl, rfl⟩
theorem pg_or {tg : Expr} {t1 t2 : TG} (h1 : PG X tg t1) (h2 : PG X tg t2) : PG X tg (fun v σ H Q => t1 v σ H Q ∨ t2 v σ H Q) :=
  ⟨fun pins s σ H v u Q I r hw => hw.elim (h1.run pins s σ H v u Q I r) (h2.run pins s σ H v u Q I r)⟩
theorem vg_tup {k : Nat} {n : Nat} (hc : X.calm = true) (hh : VGs X es sl h) (hn : (assignEach es X.env).length = n := by rfl) (hst : (assignEach es X.env).findIdx? (·.1) = none := by rfl) (hl : es.length = n := by rfl) : VG X (.Tuple es k pos) sl (gT h) := by
  obtain ⟨t, p, q⟩ := hh.ex
  refine ⟨⟨_, pg_or (pg_tup hc p hn hst) (pg_lst hc p hn hst), fun v σ H B d Q s dv ⟨bd, eb, qq⟩ => ?_⟩, fun d bs eb => ?_⟩
  · cases dv with
    | @tup a xs ds h1 h2 => exact .inl ⟨a, xs, rfl, Same.tupl s h1, by rw [IsAll.len h2, (hh.sl ds bd eb).2, hl], q xs σ H B ds Q s h2 ⟨bd, eb, qq⟩⟩
    | @lst a xs ds h1 h2 => exact .inr ⟨a, xs, rfl, .inl (Rd.mono s h1), by rw [IsAll.len h2, (hh.sl ds bd eb).2, hl], q xs σ H B ds Q s h2 ⟨bd, eb, qq⟩⟩
    | _ => cases eb
  · cases d <;> first | (cases eb; done) | exact (hh.sl _ bs eb).1
end
section
variable {X : Cx} {W : WX} {a b c : Expr} {es : List Expr} {pos : Pos} {fa fb fc : PEnv → R D} {ft fu : PEnv → R Bool} {k : Nat} {tg : Expr}
theorem pi_seq {l : Expr} {tl : TE} (hl : PE X l tl) : PI X tg l (fun σ H Rr => tl σ H fun x G1 => ∃ a, x = .ref a ∧ (((∃ xs, SqL X.K G1 a xs) ∧ Rr (Itl X.K a) G1) ∨ ((∃ xs, SqT X.K G1 a xs) ∧ Rr (Itt X.K a) G1))) := by
  refine ⟨fun pins s σ H R J hh => ?_⟩
  refine thn (hl.run pins s σ H _ J hh) fun v t1 ⟨x, G1, J1, rr, qq⟩ => ?_
  obtain ⟨a, ee, q⟩ := qq
  subst ee
  cases rr
  rcases q with ⟨⟨xs, hq⟩, q⟩ | ⟨⟨xs, hq⟩, q⟩
  · obtain ⟨its, rv, p, hz⟩ := J1.list hq
    refine wpAny_pyIter_list p.isList ?_
    refine ⟨t1.heap.objs.size, [t1.heap.objs.size], _, _, G1, rfl, J1.kept (t' := t1.toks) fun bb o ee => Heap.get?_push_of_some _ ee, turn_list a _, ⟨_, Heap.get?_push_size _ rfl, rfl, rfl⟩, fun bb hb => ?_, q⟩
    have ee : bb = t1.heap.objs.size := by simpa using hb
    subst ee
    exact J1.fpOk (Nat.le_refl _) (J1.hok.fresh (Nat.le_refl _))
  · obtain ⟨its, rv, p, hz⟩ := J1.tuple hq
    refine wpAny_pyIter_tuple (show t1.heap.IsTuple a its.toArray from p) ?_
    refine ⟨t1.heap.objs.size, [t1.heap.objs.size], _, _, G1, rfl, J1.kept (t' := t1.toks) fun bb o ee => Heap.get?_push_of_some _ ee, turn_tuple a _, ⟨_, Heap.get?_push_size _ rfl, rfl, rfl⟩, fun bb hb => ?_, q⟩
    have ee : bb = t1.heap.objs.size := by simpa using hb
    subst ee
    exact J1.fpOk (Nat.le_refl _) (J1.hok.fresh (Nat.le_refl _))
def isq (f : PEnv → R D) : PEnv → R (List D) := fun ρ => (f ρ).bind seqD
theorem vi_seq (h : VE X W a fa) : VI X W tg a (isq fa) := by
  obtain ⟨t, p, q⟩ := h.ex
  refine ⟨_, pi_seq p, fun σ H B ρ Rr s rf pr => ?_⟩
  refine one q s rf pr fun d x H' B' ex sm dx pg => ?_
  have dx0 := dx
  cases dx <;> first | exact pg.elim | skip
  · rename_i h1 h2
    exact ⟨_, rfl, .inl ⟨⟨_, .inl (Rd.mono ex.bh h1)⟩, pg _ H' B' ex (walks_list h1 h2 (Small.list sm ex.bh dx0))⟩⟩
  · rename_i h1 h2
    exact ⟨_, rfl, .inr ⟨⟨_, Same.tupl ex.bh h1⟩, pg _ H' B' ex (walks_tup h1 h2 (Small.tuple sm ex.bh dx0))⟩⟩
def i1 (g : D → R (List D)) (f : PEnv → R D) : PEnv → R (List D) := fun ρ => (f ρ).bind g
def i2 (g : D → D → R (List D)) (f f' : PEnv → R D) : PEnv → R (List D) := fun ρ => (f ρ).bind fun d => (f' ρ).bind fun e => g d e
theorem vi_range1 {p pos : Pos} (hm : X.mg "range" = none) (ha : VE X W a fa) (hg : Gl X "range" := by rfl) (hs : starEach [a] X.env = [(false, eval a X.env)] := by rfl) (he : starEach [a] X.env = (false, eval a X.env) :: starEach [] X.env := by rfl) : VI X W tg (.Call (.Name "range" p) [a] [] pos) (i1 vrange1 fa) := by
  obtain ⟨t, pt, qt⟩ := ha.ex
  refine ⟨_, pi_range1 hg hm (pa_cons pt pa_nil he) hs, fun σ H B ρ Rr s rf pr => ?_⟩
  refine one qt s rf pr fun d x H' B' ex sm dx pg => ?_
  cases dx <;> first | exact pg.elim | skip
  rename_i i
  simp only [vrange1] at pg
  split at pg
  · rename_i hz
    have hz' : -16777216 ≤ (0:Int) ∧ (0:Int) ≤ 16777216 ∧ -16777216 ≤ i ∧ i ≤ 16777216 ∧ i - 0 ≤ 16777216 := hz
    exact ⟨_, rfl, by omega, by omega, pg _ H' B' ex (walks_range (by have := sizeLine_eq; omega))⟩
  · exact pg.elim
theorem vi_range2 {p pos : Pos} (hm : X.mg "range" = none) (ha : VE X W a fa) (hb : VE X W b fb) (hg : Gl X "range" := by rfl) (hs : starEach [a, b] X.env = [(false, eval a X.env), (false, eval b X.env)] := by rfl) (hs2 : starEach [b] X.env = [(false, eval b X.env)] := by rfl)
    (he : starEach [a, b] X.env = (false, eval a X.env) :: starEach [b] X.env := by rfl) (he2 : starEach [b] X.env = (false, eval b X.env) :: starEach [] X.env := by rfl) : VI X W tg (.Call (.Name "range" p) [a, b] [] pos) (i2 vrange2 fa fb) := by
  obtain ⟨t, pt, qt⟩ := ha.ex
  obtain ⟨t2, pt2, qt2⟩ := hb.ex
  refine ⟨_, pi_range2 hg hm (pa_cons pt (pa_cons pt2 pa_nil he2) he) hs hs2, fun σ H B ρ Rr s rf pr => ?_⟩
  refine two qt qt2 s rf pr fun d e x y H' B' ex sm dx dy pg => ?_
  cases dx <;> first | (cases dy <;> exact pg.elim) | skip
  cases dy <;> first | exact pg.elim | skip
  rename_i i j
  simp only [vrange2] at pg
  split at pg
  · rename_i hz
    have hz' : -16777216 ≤ i ∧ i ≤ 16777216 ∧ -16777216 ≤ j ∧ j ≤ 16777216 ∧ j - i ≤ 16777216 := hz
    exact ⟨i, j, rfl, ⟨by omega, by omega, by omega, by omega⟩, pg _ H' B' ex (walks_range (by have := sizeLine_eq; omega))⟩
  · exact pg.elim
theorem vi_zip {p pos tpos : Pos} {elts : List Expr} {kk : Nat} (hm : X.mg "zip" = none) (ha : VE X W a fa) (hb : VE X W b fb) (hg : Gl X "zip" := by rfl) (he : starEach [a, b] X.env = (false, eval a X.env) :: starEach [b] X.env := by rfl) (he2 : starEach [b] X.env = (false, eval b X.env) :: starEach [] X.env := by rfl) (hpl : (backTo pos (starEach [b] X.env)).any (·.1) = false := by rfl) :
    VI X W (.Tuple elts kk tpos) (.Call (.Name "zip" p) [a, b] [] pos) (i2 vzip fa fb) := by
  obtain ⟨t, pt, qt⟩ := ha.ex
  obtain ⟨t2, pt2, qt2⟩ := hb.ex
  refine ⟨_, pi_zip hg hm (pa_cons pt (pa_cons pt2 pa_nil he2) he) he hpl, fun σ H B ρ Rr s rf pr => ?_⟩
  refine two qt qt2 s rf pr fun d e x y H' B' ex sm dx dy pg => ?_
  have dx0 := dx
  cases dx <;> first | (cases dy <;> exact pg.elim) | skip
  cases dy <;> first | exact pg.elim | skip
  rename_i h1 h2 _ _ _ h3 h4
  exact ⟨_, _, _, _, rfl, .inl (Rd.mono ex.bh h1), .inl (Rd.mono ex.bh h3), pg _ H' B' ex (walks_zip h1 h2 h3 h4 (Small.list sm ex.bh dx0))⟩
def wipeD (ρ : PEnv) : List Nat → PEnv
  | [] => ρ
  | v :: vs => (wipeD ρ vs).set v none
theorem RF.wipe {K : PySem.W.Frag} {B : Hp} {σ : L2.St} {ρ : PEnv} (h : RF K B σ ρ) : ∀ vs : List Nat, RF K B (L2.wipe σ vs) (wipeD ρ vs)
  | [] => h
  | v :: vs => by
    have ih := RF.wipe h vs
    unfold L2.wipe wipeD
    refine ⟨by rw [List.length_set, List.length_set]; exact ih.len, fun j e x => ?_⟩
    by_cases hj : j = v
    · subst hj
      have hl : j < (wipeD ρ vs).length := by
        obtain ⟨q, _⟩ := List.getElem?_eq_some_iff.mp x
        rw [List.length_set] at q; exact q
      rw [List.getElem?_set_self hl] at x
      cases x
    · rw [List.getElem?_set_ne (Ne.symm hj)] at x
      obtain ⟨u, e1, e2⟩ := ih.at_ j e x
      exact ⟨u, by rw [List.getElem?_set_ne (Ne.symm hj)]; exact e1, e2⟩
theorem wipe_set {σ : L2.St} {i : Nat} {x : Option V} : ∀ {vs : List Nat}, i ∈ vs → L2.wipe (σ.set i x) vs = L2.wipe σ vs
  | [], h => by cases h
  | v :: vs, h => by
    show (L2.wipe (σ.set i x) vs).set v none = (L2.wipe σ vs).set v none
    by_cases hm : i ∈ vs
    · rw [wipe_set hm]
    · have hv : i = v := by
        rcases List.mem_cons.mp h with e | e
        · exact e
        · exact absurd e hm
      subst hv
      have sw : ∀ ws : List Nat, i ∉ ws → L2.wipe (σ.set i x) ws = (L2.wipe σ ws).set i x := by
        intro ws
        induction ws with
        | nil => intro _; rfl
        | cons w ws ih =>
          intro hw
          have h1 : i ≠ w := fun e => hw (e ▸ List.mem_cons_self)
          show (L2.wipe (σ.set i x) ws).set w none = ((L2.wipe σ ws).set w none).set i x
          rw [ih (fun q => hw (List.mem_cons_of_mem _ q)), List.set_comm _ _ h1]
      rw [sw vs hm, List.set_set]
theorem wipe_idem {σ : L2.St} (vs : List Nat) : L2.wipe (L2.wipe σ vs) vs = L2.wipe σ vs := by
  have : ∀ ws, (∀ w ∈ ws, w ∈ vs) → L2.wipe (L2.wipe σ ws) vs = L2.wipe σ vs := by
    intro ws
    induction ws with
    | nil => intro _; rfl
    | cons w ws ih =>
      intro h
      show L2.wipe ((L2.wipe σ ws).set w none) vs = _
      rw [wipe_set (h w List.mem_cons_self), ih fun x hx => h x (List.mem_cons_of_mem _ hx)]
  exact this vs fun _ h => h
theorem wipe_sets {vs : List Nat} : ∀ {bs : List (Nat × V)} {σ : L2.St}, (∀ b ∈ bs, b.1 ∈ vs) → L2.wipe (setsV σ bs) vs = L2.wipe σ vs
  | [], _, _ => rfl
  | b :: bs, σ, h => by
    show L2.wipe (setsV (σ.set b.1 (some b.2)) bs) vs = _
    rw [wipe_sets fun x hx => h x (List.mem_cons_of_mem _ hx), wipe_set (h b List.mem_cons_self)]
def R.calm {α : Type} : R α → R α
  | .err _ => .stuck
  | r => r
def tyes : PEnv → R Bool := fun _ => .ok true
def compL (kt : D → R (List (Nat × D))) (ft : PEnv → R Bool) (fe : PEnv → R D) (ρ : PEnv) : List D → R (List D)
  | [] => .ok []
  | d :: ds => (kt d).bind fun bs => ((ft (setsD ρ bs)).calm).bind fun b => if b then ((fe (setsD ρ bs)).calm).bind fun y => (compL kt ft fe ρ ds).bind fun ys => .ok (y :: ys) else compL kt ft fe ρ ds
def vcomp (own : List Nat) (fi : PEnv → R (List D)) (kt : D → R (List (Nat × D))) (ft : PEnv → R Bool) (fe : PEnv → R D) : PEnv → R (List D) := fun ρ => (fi ρ).bind fun ds => (compL kt ft fe (wipeD ρ own) ds).calm
abbrev W0 : WX := fun _ _ _ _ => False
structure VTs (X : Cx) (W : WX) (ifs : List Expr) (f : PEnv → R Bool) : Prop where
  ex : ∃ t, PTs X ifs t ∧ ∀ σ H B ρ Q, Same B H → RF X.K B σ ρ → Pst X W σ H (KB1 B H Q) (f ρ) → t σ H Q
theorem vts_nil : VTs X W [] tyes := ⟨_, pts_nil, fun σ H B ρ Q s rf p => p H B (.refl s)⟩
theorem vts_one (h : VT X W c ft) : VTs X W [c] ft := by
  obtain ⟨t, p, q⟩ := h.ex
  exact ⟨t, pts_one p, q⟩
theorem calm_ok {α : Type} {r : R α} {a : α} (h : r.calm = .ok a) : r = .ok a := by
  cases r <;> first | exact h | cases h
theorem calm_ne {α : Type} {r : R α} {c : Str} : r.calm ≠ .err c := by cases r <;> exact fun h => nomatch h
theorem Pst.calm {α : Type} {X : Cx} {W : WX} {σ : L2.St} {H : Hp} {K : α → Prop} {r : R α} {a : α} (h : r.calm = .ok a) (k : K a) : Pst X W σ H K r := by
  rw [calm_ok h]; exact k
def KFr (X : Cx) (B H : Hp) (Q : VK) (ds : List PyData) : Prop := ∀ p vs H' B', Ext B H B' H' → H' p = some (.lst vs) → H p = none → B' p = none → IsAll X.K B' vs ds → Q (.ref p) H'
theorem kfr_of {B H : Hp} {Q : VK} {ds : List PyData} (h : ∀ v H' B', Ext B H B' H' → Is X.K B' v (.list ds) → Q v H') : KFr X B H Q ds := fun p vs H' B' e hp hn bn ia => by
  refine h _ H' (upd B' p (.lst vs)) ⟨e.hh, fun b u q => same_upd bn _ _ (e.bb _ _ q), fun b u q => ?_, fun a h1 h2 => ?_⟩ (.lst (.inl upd_same) (IsAll.mono (same_upd bn) ia))
  · by_cases hb : b = p
    · subst hb; rw [upd_same] at q; cases q; exact hp
    · rw [upd_ne hb] at q; exact e.bh _ _ q
  · by_cases hb : a = p
    · subst hb; exact .inl hn
    · rw [upd_ne hb] at h2; exact e.nw a h1 h2
structure VFr (X : Cx) (W : WX) (e : Expr) (f : PEnv → R (List PyData)) : Prop where
  ex : ∃ t, PE X e t ∧ ∀ σ H B ρ Q, Same B H → RF X.K B σ ρ → Pst X W σ H (KFr X B H Q) (f ρ) → t σ H Q
def vlistOf (f : PEnv → R (List PyData)) : PEnv → R PyData := fun ρ => (f ρ).bind fun ds => .ok (.list ds)
theorem VFr.ve {e : Expr} {f : PEnv → R (List PyData)} (h : VFr X W e f) : VE X W e (vlistOf f) := by
  obtain ⟨t, p, q⟩ := h.ex
  refine VE.mk' p fun σ H B ρ Q s rf pr => q σ H B ρ Q s rf ?_
  unfold vlistOf at pr
  generalize f ρ = r at pr ⊢
  cases r with
  | stuck => exact pr
  | err c => exact pr
  | ok ds => exact kfr_of pr
theorem comp_read1 {wi : TI} {g : TG} {tt : TT} {te : TE} {own sl : List Nat} {fi : PEnv → R (List D)} {kt : D → R (List (Nat × D))} {ft : PEnv → R Bool} {fe : PEnv → R D} 
    (qg : ∀ v σ H B d Q, Same B H → Is X.K B v d → (∃ bd, kt d = .ok bd ∧ ∀ bv, Bds X.K B bv bd → Q (setsV σ bv) H) → g v σ H Q) (hsl : ∀ d bs, kt d = .ok bs → bs.map (·.1) = sl) (hso : ∀ i ∈ sl, i ∈ own)
    (qt : ∀ σ H B ρ Q, Same B H → RF X.K B σ ρ → Pst X W0 σ H (KB1 B H Q) (ft ρ) → tt σ H Q)
    (qe : ∀ σ H B ρ Q, Same B H → RF X.K B σ ρ → Pst X W0 σ H (KV1 X B H Q) (fe ρ) → te σ H Q)
    {σ : L2.St} {H B : Hp} {ρ : PEnv} {Q : VK} (s : Same B H) (rf : RF X.K B σ ρ)
    (qi : ∀ Rr, Pst X W σ H (KI1 X B H Rr) (fi ρ) → wi σ H Rr)
    (pr : Pst X W σ H (KFr X B H Q) (vcomp own fi kt ft fe ρ)) : tLc wi g tt te own σ H Q := by
  unfold vcomp at pr
  refine qi _ ?_
  generalize fi ρ = ri at pr ⊢
  cases ri with
  | stuck => exact pr
  | err c => exact pr
  | ok ds =>
    simp only [R.bind_ok] at pr
    intro J H1 B1 e1 wk D hD
    generalize hc : (compL kt ft fe (wipeD ρ own) ds).calm = rc at pr
    cases rc with
    | stuck => exact pr.elim
    | err c => exact (calm_ne hc).elim
    | ok ys =>
      have hc := calm_ok hc
      have pr : KFr X B H Q ys := pr
      have hDH : H D = none := Same.free e1.hh hD
      have upo : ∀ {B' H' : Hp} {o : HO}, Ext B H B' H' → B' D = none → Ext B H B' (upd H' D o) := fun {B' H' o} x n =>
        ⟨fun b u q => by rw [upd_ne (ne_of_none q hDH)]; exact x.hh _ _ q, x.bb, fun b u q => by rw [upd_ne (ne_of_none q n)]; exact x.bh _ _ q, x.nw⟩
      have keepD : ∀ {Ba Ha B' H' : Hp} {o : List V}, Ext Ba Ha B' H' → Ba D = none → Ha D = some (.lst o) → B' D = none := fun {Ba Ha B' H' o} x n q => by
        cases z : B' D with
        | none => rfl
        | some u =>
          have := x.nw D n (by rw [z]; exact fun w => nomatch w)
          exact (this.no q (fun _ e => nomatch e)).elim
      refine ⟨fun i m Hi => m = ds.length - i ∧ i ≤ ds.length ∧ ∃ Bi acc yd rest, Ext B H Bi Hi ∧ Same B1 Bi ∧ Bi D = none ∧ Hi D = some (.lst acc) ∧ IsAll X.K Bi acc yd ∧ acc.length ≤ i ∧ compL kt ft fe (wipeD ρ own) (ds.drop i) = .ok rest ∧ yd ++ rest = ys,
        ⟨ds.length, by simp, Nat.zero_le _, B1, [], [], ys, upo e1 (Same.free e1.bh hD), Same.refl _, Same.free e1.bh hD, upd_same, .nil, Nat.le_refl _, by simpa using hc, rfl⟩, ?_⟩
      rintro i m Hi ⟨rfl, hi, Bi, acc, yd, rest, ex, b1, bD, hDi, ia, hl, hcr, hys⟩
      by_cases hlt : i < ds.length
      · refine .inr ⟨wk.go i Hi (b1.trans ex.bh) hlt, fun Hi => i + 1 ≤ ds.length ∧ ∃ Bi acc yd rest, Ext B H Bi Hi ∧ Same B1 Bi ∧ Bi D = none ∧ Hi D = some (.lst acc) ∧ IsAll X.K Bi acc yd ∧ acc.length ≤ i + 1 ∧ compL kt ft fe (wipeD ρ own) (ds.drop (i + 1)) = .ok rest ∧ yd ++ rest = ys,
          fun H' q => ⟨ds.length - (i + 1), by omega, rfl, q⟩, fun x H' y => ?_⟩
        obtain ⟨d, B2, e2, E2, dx⟩ := wk.yld i Hi x H' Bi b1 ex.bh hlt y
        have hdrop : ds.drop i = d :: ds.drop (i + 1) := by
          obtain ⟨q1, q2⟩ := List.getElem?_eq_some_iff.mp e2
          rw [List.drop_eq_getElem_cons q1, q2]
        rw [hdrop] at hcr
        simp only [compL] at hcr
        generalize hk : kt d = rk at hcr
        cases rk with
        | stuck => cases hcr
        | err c => cases hcr
        | ok bs =>
          simp only [R.bind_ok] at hcr
          generalize hft : (ft (setsD (wipeD ρ own) bs)).calm = rt at hcr
          cases rt with
          | stuck => cases hcr
          | err c => cases hcr
          | ok b =>
            simp only [R.bind_ok] at hcr
            refine qg x (L2.wipe σ own) H' B2 d _ E2.bh dx ⟨bs, hk, fun bv hb => ?_⟩
            have RF2 : RF X.K B2 (setsV (L2.wipe σ own) bv) (setsD (wipeD ρ own) bs) := RF.sets ((RF.wipe rf own).mono (ex.bb.trans E2.bb)) hb
            have hw : L2.wipe (setsV (L2.wipe σ own) bv) own = L2.wipe σ own := by
              rw [wipe_sets, wipe_idem]
              intro p hp
              refine hso _ ?_
              rw [← hsl d bs hk]
              have fst : ∀ {l1 : List (Nat × V)} {l2 : List (Nat × PyData)}, Bds X.K B2 l1 l2 → l1.map (·.1) = l2.map (·.1) := by
                intro l1 l2 h
                induction h with
                | nil => rfl
                | cons r t ih => rw [List.map_cons, List.map_cons, r.1, ih]
              rw [← fst hb]
              exact List.mem_map_of_mem hp
            refine ⟨hw, ?_⟩
            refine qt _ H' B2 _ _ E2.bh RF2 (Pst.calm hft fun H3 B3 E3 => ?_)
            have hD2 := E2.hh _ _ hDi
            have bD2 := keepD E2 bD hDi
            cases b with
            | true =>
              simp only [if_true] at hcr
              generalize hfe : (fe (setsD (wipeD ρ own) bs)).calm = re at hcr
              cases re with
              | stuck => cases hcr
              | err c => cases hcr
              | ok yv =>
                simp only [R.bind_ok] at hcr
                generalize hrest : compL kt ft fe (wipeD ρ own) (ds.drop (i + 1)) = rr at hcr
                cases rr with
                | stuck => cases hcr
                | err c => cases hcr
                | ok rest' =>
                  cases hcr
                  refine iteT (qe _ H3 B3 _ _ E3.bh (RF2.mono E3.bb) (Pst.calm hfe fun v H4 B4 E4 sm dv => ?_))
                  have E24 := (E2.trans E3).trans E4
                  have bD4 := keepD E24 bD hDi
                  refine ⟨acc, E24.hh _ _ hDi, by have := wk.small; omega, hlt, B4, acc ++ [v], yd ++ [yv], rest', upo (ex.trans E24) bD4, b1.trans E24.bb, bD4, upd_same, IsAll.append (IsAll.mono E24.bb ia) (.cons dv .nil), by rw [List.length_append, List.length_singleton]; omega, rfl, ?_⟩
                  rw [List.append_assoc]; exact hys
            | false =>
              simp only [Bool.false_eq_true, if_false] at hcr
              have E23 := E2.trans E3
              exact iteF ⟨hlt, B3, acc, yd, rest, ex.trans E23, b1.trans E23.bb, keepD E23 bD hDi, E23.hh _ _ hDi, IsAll.mono E23.bb ia, by omega, hcr, hys⟩
      · have e : i = ds.length := by omega
        subst e
        refine .inl ⟨wk.stop Hi (b1.trans ex.bh), ?_⟩
        rw [List.drop_length] at hcr
        cases hcr
        rw [List.append_nil] at hys
        subst hys
        exact pr D acc Hi Bi ex hDi hDH bD ia
theorem comp_read {wi : TI} {g : TG} {tt : TT} {te : TE} {own sl : List Nat} {fi : PEnv → R (List D)} {kt : D → R (List (Nat × D))} {ft : PEnv → R Bool} {fe : PEnv → R D} 
    (qi : ∀ σ H B ρ Rr, Same B H → RF X.K B σ ρ → Pst X W σ H (KI1 X B H Rr) (fi ρ) → wi σ H Rr)
    (qg : ∀ v σ H B d Q, Same B H → Is X.K B v d → (∃ bd, kt d = .ok bd ∧ ∀ bv, Bds X.K B bv bd → Q (setsV σ bv) H) → g v σ H Q) (hsl : ∀ d bs, kt d = .ok bs → bs.map (·.1) = sl) (hso : ∀ i ∈ sl, i ∈ own)
    (qt : ∀ σ H B ρ Q, Same B H → RF X.K B σ ρ → Pst X W0 σ H (KB1 B H Q) (ft ρ) → tt σ H Q)
    (qe : ∀ σ H B ρ Q, Same B H → RF X.K B σ ρ → Pst X W0 σ H (KV1 X B H Q) (fe ρ) → te σ H Q)
    {σ : L2.St} {H B : Hp} {ρ : PEnv} {Q : VK} (s : Same B H) (rf : RF X.K B σ ρ)
    (pr : Pst X W σ H (KFr X B H Q) (vcomp own fi kt ft fe ρ)) : tLc wi g tt te own σ H Q :=
  comp_read1 qg hsl hso qt qe s rf (fun Rr h => qi σ H B ρ Rr s rf h) pr
def tV (X : Cx) (W : WX) (f : PEnv → R PyData) : TE := fun σ H Q => ∃ B ρ, Same B H ∧ RF X.K B σ ρ ∧ Pst X W σ H (KV1 X B H Q) (f ρ)
def tVT (X : Cx) (W : WX) (f : PEnv → R Bool) : TT := fun σ H Q => ∃ B ρ, Same B H ∧ RF X.K B σ ρ ∧ Pst X W σ H (KB1 B H Q) (f ρ)
def tVG (X : Cx) (k : PyData → R (List (Nat × PyData))) : TG := fun v σ H Q => ∃ B d, Same B H ∧ Is X.K B v d ∧ ∃ bd, k d = .ok bd ∧ ∀ bv, Bds X.K B bv bd → Q (setsV σ bv) H
theorem VE.pe {e : Expr} {f : PEnv → R PyData} (h : VE X W e f) : PE X e (tV X W f) := by
  obtain ⟨t, p, q⟩ := h.ex
  exact ⟨fun pins s σ H Q I ⟨B, ρ, s1, r, hp⟩ => p.run pins s σ H Q I (q σ H B ρ Q s1 r hp)⟩
theorem VTs.pt {e : List Expr} {f : PEnv → R Bool} (h : VTs X W e f) : PTs X e (tVT X W f) := by
  obtain ⟨t, p, q⟩ := h.ex
  exact ⟨fun pins s σ H Q I ⟨B, ρ, s1, r, hp⟩ => p.run pins s σ H Q I (q σ H B ρ Q s1 r hp)⟩
theorem VT.pt {e : Expr} {f : PEnv → R Bool} (h : VT X W e f) : PT X e (tVT X W f) := by
  obtain ⟨t, p, q⟩ := h.ex
  exact ⟨fun pins s σ H Q I ⟨B, ρ, s1, r, hp⟩ => p.run pins s σ H Q I (q σ H B ρ Q s1 r hp)⟩
theorem VG.pg {e : Expr} {sl : List Nat} {k : PyData → R (List (Nat × PyData))} (h : VG X e sl k) : PG X e (tVG X k) := by
  obtain ⟨t, p, q⟩ := h.ex
  exact ⟨fun pins s σ H v u Q I r ⟨B, d, s1, dv, hp⟩ => p.run pins s σ H v u Q I r (q v σ H B d Q s1 dv hp)⟩
theorem vcomp_ {elt tg iter : Expr} {ifs : List Expr} {scope : Scope} {own : List (Str × Nat)} {sl : List Nat} {fi : PEnv → R (List D)} {kt : D → R (List (Nat × D))} {ft : PEnv → R Bool} {fe : PEnv → R D} (hc : X.calm = true) (hN : X.N.Nodup) (hi : VI X W tg iter fi) (ok : BlkOk X.N X.env.scope scope own)
    (hg : ∀ (s : Shared) (H : Hp) (C : Addr) (cl : List (Str × Addr)) (fp : List Addr), VG (X.blk s H scope (compEnvC scope cl C X.env) fp) tg sl kt)
    (hso : ∀ i ∈ sl, i ∈ own.map (·.2))
    (ht : ∀ (s : Shared) (H : Hp) (C : Addr) (cl : List (Str × Addr)) (fp : List Addr), VTs (X.blk s H scope (compEnvC scope cl C X.env) fp) W0 ifs ft)
    (he : ∀ (s : Shared) (H : Hp) (C : Addr) (cl : List (Str × Addr)) (fp : List Addr), VE (X.blk s H scope (compEnvC scope cl C X.env) fp) W0 elt fe) (hs : ∀ x, foldedSetIterable iter X.env x = pure x := by intro _; rfl) :
    VFr X W (.ListComp elt [⟨tg, iter, ifs, 0⟩] scope pos) (vcomp (own.map (·.2)) fi kt ft fe) := by
  obtain ⟨wi, pi, qi⟩ := hi.ex
  have h1 : ∀ (s : Shared) (H : Hp) (C : Addr) (cl : List (Str × Addr)) (fp : List Addr), PG (X.blk s H scope (compEnvC scope cl C X.env) fp) tg (tVG X kt) := fun s H C cl fp => (hg s H C cl fp).pg
  have h2 : ∀ (s : Shared) (H : Hp) (C : Addr) (cl : List (Str × Addr)) (fp : List Addr), PTs (X.blk s H scope (compEnvC scope cl C X.env) fp) ifs (tVT X W0 ft) := fun s H C cl fp => (ht s H C cl fp).pt
  have h3 : ∀ (s : Shared) (H : Hp) (C : Addr) (cl : List (Str × Addr)) (fp : List Addr), PE (X.blk s H scope (compEnvC scope cl C X.env) fp) elt (tV X W0 fe) := fun s H C cl fp => (he s H C cl fp).pe
  refine ⟨_, pe_lc hc hN pi ok h1 h2 h3 hs, fun σ H B ρ Q s rf pr => ?_⟩
  have hsl : ∀ d bs, kt d = .ok bs → bs.map (·.1) = sl := (hg {} (fun _ => none) 0 [] []).sl
  exact comp_read qi (fun v σ H B d Q s dv q => ⟨B, d, s, dv, q⟩) hsl hso (fun σ H B ρ Q s r p => ⟨B, ρ, s, r, p⟩) (fun σ H B ρ Q s r p => ⟨B, ρ, s, r, p⟩) s rf pr
theorem vlst_f {n : Nat} {g : PEnv → R (List PyData)} (h : VAn X W n es g) (hz : n ≤ 1000 := by decide) : VFr X W (.List es pos) g := by
  obtain ⟨t, pt, qt⟩ := h.va.ex
  refine ⟨_, pe_lst pt, fun σ H B ρ Q s r p => ?_⟩
  cases hg : g ρ with
  | stuck => rw [hg] at p; exact p.elim
  | err c => rw [hg] at p; exact qt σ H B ρ _ s r (by rw [hg]; exact p)
  | ok ds =>
    rw [hg] at p
    refine qt σ H B ρ _ s r ?_
    rw [hg]
    intro xs H1 B1 e1 d1
    refine ⟨by rw [IsAll.len d1, h.len ρ ds hg]; exact Nat.le_trans hz (by decide), fun q hq => ?_⟩
    exact p q xs _ B1 (e1.trans (Ext.own e1.bh hq)) upd_same (Same.free e1.hh hq) (Same.free e1.bh hq) d1
theorem vlist_f {p : Pos} {e : Expr} {f : PEnv → R PyData} (hm : X.mg "list" = none) (ha : VE X W e f) (hg : Gl X "list" := by rfl) (he : starEach [e] X.env = (false, eval e X.env) :: starEach [] X.env := by rfl) (hpl : (backTo pos (starEach [] X.env)).any (·.1) = false := by rfl) :
    VFr X W (.Call (.Name "list" p) [e] [] pos) (isq f) := by
  obtain ⟨t, pt, qt⟩ := ha.ex
  refine ⟨_, pe_callTy call_list_of hg hm (by decide +kernel) (pa_cons pt pa_nil he) (by decide) (by decide) he hpl, fun σ H B ρ Q s rf pr => ?_⟩
  refine one qt s rf pr fun d x H' B' ex sm dx pg => ?_
  cases dx <;> first | exact pg.elim | skip
  · rename_i h1 h2
    exact ⟨_, _, rfl, .inl (.inl (Rd.mono ex.bh h1)), fun l hl => pg l _ _ B' (ex.trans (Ext.own ex.bh hl)) upd_same (Same.free ex.hh hl) (Same.free ex.bh hl) h2⟩
  · rename_i h1 h2
    exact ⟨_, _, rfl, .inr (Same.tupl ex.bh h1), fun l hl => pg l _ _ B' (ex.trans (Ext.own ex.bh hl)) upd_same (Same.free ex.hh hl) (Same.free ex.bh hl) h2⟩
end
end VL

namespace VL
open PySem PySem.Spec PyProof.Rows L2

inductive O where
  | fz (d : PyData)
  | tup (xs : List O)
  | lst (xs : List O)
  | dct (ks : KS) (xs : List O)
  | ins (c : Str) (ns : List Str) (xs : List O)
  /- what a def was lent: the thing at a -/
  | par (a : Addr) (o : O)
mutual
def O.data : O → PyData
  | .fz d => d
  | .tup xs => .tuple (O.datas xs)
  | .lst xs => .list (O.datas xs)
  | .dct ks xs => dctD ks (O.datas xs)
  | .ins c ns xs => insD c ns (O.datas xs)
  | .par _ o => O.data o
def O.datas : List O → List PyData
  | [] => []
  | x :: xs => O.data x :: O.datas xs
end
theorem O.datas_map : ∀ xs : List O, O.datas xs = xs.map O.data
  | [] => by simp [O.datas]
  | x :: xs => by simp [O.datas, O.datas_map xs]
@[simp] theorem O.data_fz (d : PyData) : O.data (.fz d) = d := by simp [O.data]
@[simp] theorem O.data_lst (xs : List O) : O.data (.lst xs) = .list (xs.map O.data) := by simp [O.data, O.datas_map]
@[simp] theorem O.data_tup (xs : List O) : O.data (.tup xs) = .tuple (xs.map O.data) := by simp [O.data, O.datas_map]
def KS.nd : KS → Prop
  | .inl ks => ks.Nodup
  | .inr ks => ks.Nodup
mutual
inductive Own (K : PySem.W.Frag) (F H : Hp) : V → O → List Addr → Prop
  | fz {v : V} {d : PyData} : Is K F v d → Own K F H v (.fz d) []
  | tup {a : Addr} {vs : List V} {os : List O} {fp : List Addr} : F a = some (.tup vs) → OwnL K F H vs os fp → Own K F H (.ref a) (.tup os) fp
  | lst {a : Addr} {vs : List V} {os : List O} {fp : List Addr} : H a = some (.lst vs) → OwnL K F H vs os fp → Own K F H (.ref a) (.lst os) (a :: fp)
  | dct {a : Addr} {ks : KS} {vs : List V} {os : List O} {fp : List Addr} : H a = some (hoD ks vs) → (ks.len = vs.length ∧ ks.nd) → OwnL K F H vs os fp → Own K F H (.ref a) (.dct ks os) (a :: fp)
  | ins {a C dx : Addr} {c : Str} {ns : List Str} {vs : List V} {os : List O} {fp : List Addr} : clsOf K c = some C → H a = some (.ins C dx (ns.zip vs)) → H dx = some (.own a) → ns.length = vs.length → OwnL K F H vs os fp → Own K F H (.ref a) (.ins c ns os) (a :: dx :: fp)
  | par {a : Addr} {o : O} {fp : List Addr} : Own K F H (.ref a) o fp → Own K F H (.ref a) (.par a o) fp
inductive OwnL (K : PySem.W.Frag) (F H : Hp) : List V → List O → List Addr → Prop
  | nil : OwnL K F H [] [] []
  | cons {v : V} {vs : List V} {o : O} {os : List O} {fp fps : List Addr} : Own K F H v o fp → OwnL K F H vs os fps → OwnL K F H (v :: vs) (o :: os) (fp ++ fps)
end
mutual
theorem Own.keep {K : PySem.W.Frag} {F F' H H' : Hp} (e : Same F F') : ∀ {o : O} {v : V} {fp : List Addr}, Own K F H v o fp → (∀ a ∈ fp, H' a = H a) → Own K F' H' v o fp
  | .fz d, _, _, h, _ => by cases h with | fz h => exact .fz (Is.mono e h)
  | .tup os, _, _, h, k => by cases h with | tup h1 h2 => exact .tup (e _ _ h1) (OwnL.keep e h2 k)
  | .lst os, _, _, h, k => by
    cases h with
    | lst h1 h2 => exact .lst ((k _ List.mem_cons_self).trans h1) (OwnL.keep e h2 fun a ha => k a (List.mem_cons_of_mem _ ha))
  | .dct ks os, _, _, h, k => by
    cases h with
    | dct h1 hl h2 => exact .dct ((k _ List.mem_cons_self).trans h1) hl (OwnL.keep e h2 fun a ha => k a (List.mem_cons_of_mem _ ha))
  | .ins c ns os, _, _, h, k => by
    cases h with
    | ins hc h1 hd hl h2 => exact .ins hc ((k _ List.mem_cons_self).trans h1) ((k _ (List.mem_cons_of_mem _ List.mem_cons_self)).trans hd) hl (OwnL.keep e h2 fun a ha => k a (List.mem_cons_of_mem _ (List.mem_cons_of_mem _ ha)))
  | .par _ o, _, _, h, k => by cases h with | par h1 => exact .par (Own.keep e h1 k)
theorem OwnL.keep {K : PySem.W.Frag} {F F' H H' : Hp} (e : Same F F') : ∀ {os : List O} {vs : List V} {fp : List Addr}, OwnL K F H vs os fp → (∀ a ∈ fp, H' a = H a) → OwnL K F' H' vs os fp
  | [], _, _, h, _ => by cases h; exact .nil
  | o :: os, _, _, h, k => by
    cases h with
    | cons h1 h2 => exact .cons (Own.keep e h1 fun a ha => k a (List.mem_append_left _ ha)) (OwnL.keep e h2 fun a ha => k a (List.mem_append_right _ ha))
end
mutual
/- seen as data, in a heap that holds the frozen part and the footprint -/
theorem Own.is {K : PySem.W.Frag} {F H B : Hp} (e : Same F B) : ∀ {o : O} {v : V} {fp : List Addr}, Own K F H v o fp → (∀ a ∈ fp, B a = H a) → Is K B v o.data
  | .fz d, _, _, h, _ => by cases h with | fz h => rw [O.data_fz]; exact Is.mono e h
  | .tup os, _, _, h, k => by cases h with | tup h1 h2 => rw [O.data]; exact .tup (.inl (e _ _ h1)) (OwnL.is e h2 k)
  | .lst os, _, _, h, k => by
    cases h with
    | lst h1 h2 => rw [O.data]; exact .lst (.inl ((k _ List.mem_cons_self).trans h1)) (OwnL.is e h2 fun a ha => k a (List.mem_cons_of_mem _ ha))
  | .dct ks os, _, _, h, k => by
    cases h with
    | dct h1 hl h2 => rw [O.data]; exact .dct (.inl ((k _ List.mem_cons_self).trans h1)) hl.1 (OwnL.is e h2 fun a ha => k a (List.mem_cons_of_mem _ ha))
  | .ins c ns os, _, _, h, k => by
    cases h with
    | ins hc h1 hd hl h2 => rw [O.data]; exact .ins hc ((k _ List.mem_cons_self).trans h1) hl (OwnL.is e h2 fun a ha => k a (List.mem_cons_of_mem _ (List.mem_cons_of_mem _ ha)))
  | .par _ o, _, _, h, k => by cases h with | par h1 => rw [O.data]; exact Own.is e h1 k
theorem OwnL.is {K : PySem.W.Frag} {F H B : Hp} (e : Same F B) : ∀ {os : List O} {vs : List V} {fp : List Addr}, OwnL K F H vs os fp → (∀ a ∈ fp, B a = H a) → IsAll K B vs (O.datas os)
  | [], _, _, h, _ => by cases h; rw [O.datas]; exact .nil
  | o :: os, _, _, h, k => by
    cases h with
    | cons h1 h2 => rw [O.datas]; exact .cons (Own.is e h1 fun a ha => k a (List.mem_append_left _ ha)) (OwnL.is e h2 fun a ha => k a (List.mem_append_right _ ha))
end
mutual
theorem Own.lstAt {K : PySem.W.Frag} {F H : Hp} : ∀ {o : O} {v : V} {fp : List Addr}, Own K F H v o fp → ∀ a ∈ fp, ∃ u, H a = some u ∧ NoT u
  | .fz d, _, _, h, a, ha => by cases h with | fz h => cases ha
  | .tup os, _, _, h, a, ha => by cases h with | tup h1 h2 => exact OwnL.lstAt h2 a ha
  | .lst os, _, _, h, a, ha => by
    cases h with
    | lst h1 h2 =>
      rcases List.mem_cons.mp ha with e | e
      · subst e; exact ⟨_, h1, .lst _⟩
      · exact OwnL.lstAt h2 a e
  | .dct ks os, _, _, h, a, ha => by
    cases h with
    | dct h1 hl h2 =>
      rcases List.mem_cons.mp ha with e | e
      · subst e; exact ⟨_, h1, .hoD _ _⟩
      · exact OwnL.lstAt h2 a e
  | .ins c ns os, _, _, h, a, ha => by
    cases h with
    | ins hc h1 hd hl h2 =>
      rcases List.mem_cons.mp ha with e | e
      · subst e; exact ⟨_, h1, .ins _ _ _⟩
      · rcases List.mem_cons.mp e with e | e
        · subst e; exact ⟨_, hd, .own _⟩
        · exact OwnL.lstAt h2 a e
  | .par _ o, _, _, h, a, ha => by cases h with | par h1 => exact Own.lstAt h1 a ha
theorem OwnL.lstAt {K : PySem.W.Frag} {F H : Hp} : ∀ {os : List O} {vs : List V} {fp : List Addr}, OwnL K F H vs os fp → ∀ a ∈ fp, ∃ u, H a = some u ∧ NoT u
  | [], _, _, h, a, ha => by cases h; cases ha
  | o :: os, _, _, h, a, ha => by
    cases h with
    | cons h1 h2 =>
      rcases List.mem_append.mp ha with e | e
      · exact Own.lstAt h1 a e
      · exact OwnL.lstAt h2 a e
end
theorem OwnL.len {K : PySem.W.Frag} {F H : Hp} : ∀ {os : List O} {vs : List V} {fp : List Addr}, OwnL K F H vs os fp → vs.length = os.length
  | [], _, _, h => by cases h; rfl
  | o :: os, _, _, h => by
    cases h with
    | cons h1 h2 => rw [List.length_cons, List.length_cons, OwnL.len h2]
theorem OwnL.append {K : PySem.W.Frag} {F H : Hp} : ∀ {os ps : List O} {vs us : List V} {f g : List Addr}, OwnL K F H vs os f → OwnL K F H us ps g → OwnL K F H (vs ++ us) (os ++ ps) (f ++ g)
  | [], _, _, _, _, _, h, q => by cases h; exact q
  | o :: os, _, _, _, _, _, h, q => by
    cases h with
    | cons h1 h2 => rw [List.append_assoc]; exact .cons h1 (OwnL.append h2 q)
theorem OwnL.fzs {K : PySem.W.Frag} {F H : Hp} : ∀ {ds : List PyData} {vs : List V}, IsAll K F vs ds → OwnL K F H vs (ds.map O.fz) []
  | [], _, h => by cases h; exact .nil
  | d :: ds, _, h => by
    cases h with
    | cons h1 h2 => exact .cons (.fz h1) (OwnL.fzs h2)

abbrev OEnv := List (Option O)
inductive Slots (K : PySem.W.Frag) (F H : Hp) : L2.St → OEnv → List Addr → Prop
  | nil : Slots K F H [] [] []
  | un {s : Option V} {σ : L2.St} {ρ : OEnv} {fps : List Addr} : Slots K F H σ ρ fps → Slots K F H (s :: σ) (none :: ρ) fps
  | ow {v : V} {o : O} {fp : List Addr} {σ : L2.St} {ρ : OEnv} {fps : List Addr} : Own K F H v o fp → Slots K F H σ ρ fps → Slots K F H (some v :: σ) (some o :: ρ) (fp ++ fps)
section
variable {K : PySem.W.Frag} {F F' H H' B : Hp} {σ : L2.St} {ρ : OEnv} {fps : List Addr}
theorem Slots.len (h : Slots K F H σ ρ fps) : σ.length = ρ.length := by
  induction h with
  | nil => rfl
  | un _ ih => rw [List.length_cons, List.length_cons, ih]
  | ow _ _ ih => rw [List.length_cons, List.length_cons, ih]
theorem Slots.keep (h : Slots K F H σ ρ fps) (e : Same F F') (k : ∀ a ∈ fps, H' a = H a) : Slots K F' H' σ ρ fps := by
  induction h with
  | nil => exact .nil
  | un _ ih => exact .un (ih k)
  | ow h1 _ ih => exact .ow (h1.keep e fun a ha => k a (List.mem_append_left _ ha)) (ih fun a ha => k a (List.mem_append_right _ ha))
theorem Slots.lstAt (h : Slots K F H σ ρ fps) : ∀ a ∈ fps, ∃ u, H a = some u ∧ NoT u := by
  induction h with
  | nil => intro a ha; cases ha
  | un _ ih => exact ih
  | ow h1 _ ih =>
    intro a ha
    rcases List.mem_append.mp ha with e | e
    · exact h1.lstAt a e
    · exact ih a e
theorem Slots.split (h : Slots K F H σ ρ fps) : ∀ {i : Nat} {o : O}, ρ[i]? = some (some o) → ∃ v fp fpr, σ[i]? = some (some v) ∧ Own K F H v o fp ∧ fps.Perm (fp ++ fpr) ∧
    (∀ s, Slots K F H (σ.set i s) (ρ.set i none) fpr) ∧ ∀ F' H' v' o' fp', Own K F' H' v' o' fp' → Same F F' → (∀ a ∈ fpr, H' a = H a) → ∃ fps', Slots K F' H' (σ.set i (some v')) (ρ.set i (some o')) fps' ∧ fps'.Perm (fp' ++ fpr) := by
  induction h with
  | nil => intro i o e; simp at e
  | @un s σ ρ fps h ih =>
    intro i o e
    cases i with
    | zero => simp at e
    | succ i =>
      obtain ⟨v, fp, fpr, e1, e2, e3, e4, e5⟩ := ih (i := i) (by simpa using e)
      refine ⟨v, fp, fpr, by simpa using e1, e2, e3, fun s => .un (e4 s), fun F' H' v' o' fp' q1 q2 q3 => ?_⟩
      obtain ⟨fps', z1, z2⟩ := e5 F' H' v' o' fp' q1 q2 q3
      exact ⟨fps', .un z1, z2⟩
  | @ow v o' fp σ ρ fps h1 h ih =>
    intro i o e
    cases i with
    | zero =>
      simp at e
      subst e
      exact ⟨v, fp, fps, rfl, h1, .refl _, fun s => .un h, fun F' H' v' o' fp' q1 q2 q3 => ⟨fp' ++ fps, .ow q1 (h.keep q2 q3), .refl _⟩⟩
    | succ i =>
      obtain ⟨v2, fp2, fpr, e1, e2, e3, e4, e5⟩ := ih (i := i) (by simpa using e)
      refine ⟨v2, fp2, fp ++ fpr, by simpa using e1, e2, ?_, fun s => .ow h1 (e4 s), fun F' H' v' o'' fp' q1 q2 q3 => ?_⟩
      · refine (List.Perm.append_left fp e3).trans ?_
        rw [← List.append_assoc, ← List.append_assoc]
        exact List.Perm.append_right _ List.perm_append_comm
      · obtain ⟨fps', z1, z2⟩ := e5 F' H' v' o'' fp' q1 q2 fun a ha => q3 a (List.mem_append_right _ ha)
        refine ⟨fp ++ fps', .ow (h1.keep q2 fun a ha => q3 a (List.mem_append_left _ ha)) z1, ?_⟩
        refine (List.Perm.append_left fp z2).trans ?_
        rw [← List.append_assoc, ← List.append_assoc]
        exact List.Perm.append_right _ List.perm_append_comm
theorem Slots.drop (h : Slots K F H σ ρ fps) : ∀ (i : Nat) (s : Option V), ∃ fpr, Slots K F H (σ.set i s) (ρ.set i none) fpr ∧ fpr.Sublist fps := by
  induction h with
  | nil => intro i s; exact ⟨[], by simp; exact .nil, .refl _⟩
  | @un s' σ ρ fps h ih =>
    intro i s
    cases i with
    | zero => exact ⟨fps, .un h, .refl _⟩
    | succ i => obtain ⟨f, z1, z2⟩ := ih i s; exact ⟨f, .un z1, z2⟩
  | @ow v o' fp σ ρ fps h1 h ih =>
    intro i s
    cases i with
    | zero => exact ⟨fps, .un h, List.sublist_append_right _ _⟩
    | succ i => obtain ⟨f, z1, z2⟩ := ih i s; exact ⟨fp ++ f, .ow h1 z1, List.Sublist.append_left z2 _⟩
theorem Slots.put (h : Slots K F H σ ρ fps) {v : V} {o : O} {fp : List Addr} (ho : Own K F H v o fp) : ∀ (i : Nat), i < ρ.length → ∃ fps', Slots K F H (σ.set i (some v)) (ρ.set i (some o)) fps' ∧ ∃ fpr, fps'.Perm (fp ++ fpr) ∧ fpr.Sublist fps := by
  induction h with
  | nil => intro i hi; simp at hi
  | @un s' σ ρ fps h ih =>
    intro i hi
    cases i with
    | zero => exact ⟨fp ++ fps, .ow ho h, fps, .refl _, .refl _⟩
    | succ i => obtain ⟨f, z1, g, z2, z3⟩ := ih i (by simpa using hi); exact ⟨f, .un z1, g, z2, z3⟩
  | @ow v' o' fp' σ ρ fps h1 h ih =>
    intro i hi
    cases i with
    | zero => exact ⟨fp ++ fps, .ow ho h, fps, .refl _, List.sublist_append_right _ _⟩
    | succ i =>
      obtain ⟨f, z1, g, z2, z3⟩ := ih i (by simpa using hi)
      refine ⟨fp' ++ f, .ow h1 z1, fp' ++ g, ?_, List.Sublist.append_left z3 _⟩
      refine (List.Perm.append_left fp' z2).trans ?_
      rw [← List.append_assoc, ← List.append_assoc]
      exact List.Perm.append_right _ List.perm_append_comm
end
def viewB (ρ : OEnv) : PEnv := ρ.map (Option.map O.data)
def fzOf : Option O → Option PyData
  | some (.fz d) => some d
  | _ => none
def viewF (ρ : OEnv) : PEnv := ρ.map fzOf
theorem Slots.rfB {K : PySem.W.Frag} {F H B : Hp} {σ : L2.St} {ρ : OEnv} {fps : List Addr} (e : Same F B) (h : Slots K F H σ ρ fps) (k : ∀ a ∈ fps, B a = H a) : RF K B σ (viewB ρ) := by
  refine ⟨by unfold viewB; rw [List.length_map]; exact h.len, ?_⟩
  induction h with
  | nil => intro i d x; simp [viewB] at x
  | un _ ih =>
    intro i d x
    cases i with
    | zero => simp [viewB] at x
    | succ i => obtain ⟨v, z1, z2⟩ := ih k i d (by simpa [viewB] using x); exact ⟨v, by simpa using z1, z2⟩
  | @ow v o fp σ ρ fps h1 _ ih =>
    intro i d x
    cases i with
    | zero =>
      simp [viewB] at x
      subst x
      exact ⟨v, rfl, h1.is e fun a ha => k a (List.mem_append_left _ ha)⟩
    | succ i => obtain ⟨v, z1, z2⟩ := ih (fun a ha => k a (List.mem_append_right _ ha)) i d (by simpa [viewB] using x); exact ⟨v, by simpa using z1, z2⟩
theorem Slots.rfF {K : PySem.W.Frag} {F H : Hp} {σ : L2.St} {ρ : OEnv} {fps : List Addr} (h : Slots K F H σ ρ fps) : RF K F σ (viewF ρ) := by
  refine ⟨by unfold viewF; rw [List.length_map]; exact h.len, ?_⟩
  induction h with
  | nil => intro i d x; simp [viewF] at x
  | un _ ih =>
    intro i d x
    cases i with
    | zero => simp [viewF, fzOf] at x
    | succ i => obtain ⟨v, z1, z2⟩ := ih i d (by simpa [viewF] using x); exact ⟨v, by simpa using z1, z2⟩
  | @ow v o fp σ ρ fps h1 _ ih =>
    intro i d x
    cases i with
    | zero =>
      cases o with
      | fz d' =>
        simp [viewF, fzOf] at x
        subst x
        cases h1 with | fz h1 => exact ⟨v, rfl, h1⟩
      | tup _ => simp [viewF, fzOf] at x
      | lst _ => simp [viewF, fzOf] at x
      | dct _ _ => simp [viewF, fzOf] at x
      | ins _ _ _ => simp [viewF, fzOf] at x
      | par _ _ => simp [viewF, fzOf] at x
    | succ i => obtain ⟨v, z1, z2⟩ := ih i d (by simpa [viewF] using x); exact ⟨v, by simpa using z1, z2⟩

structure Hs (F0 H0 F H : Hp) (fps : List Addr) : Prop where
  nd : fps.Nodup
  ow : ∀ a ∈ fps, F a = none ∧ H0 a = none
  fh : Same F H
  f0 : Same F0 F
  h0 : Same H0 H
  nw : ∀ a, F0 a = none → F a ≠ none → NT H0 a
theorem Hs.perm {F0 H0 F H : Hp} {fps fps' : List Addr} (h : Hs F0 H0 F H fps) (p : fps.Perm fps') : Hs F0 H0 F H fps' := ⟨p.nodup_iff.mp h.nd, fun a ha => h.ow a (p.mem_iff.mpr ha), h.fh, h.f0, h.h0, h.nw⟩
theorem Hs.sub {F0 H0 F H : Hp} {fps fps' : List Addr} (h : Hs F0 H0 F H fps) (p : fps'.Sublist fps) : Hs F0 H0 F H fps' := ⟨h.nd.sublist p, fun a ha => h.ow a (p.subset ha), h.fh, h.f0, h.h0, h.nw⟩
theorem Hs.ext {F0 H0 F H F' H' : Hp} {fps : List Addr} (h : Hs F0 H0 F H fps) (e : Ext F H F' H') (l : ∀ a ∈ fps, ∃ u, H a = some u ∧ NoT u) : Hs F0 H0 F' H' fps :=
  ⟨h.nd, fun a ha => ⟨(by
    cases q : F' a with
    | none => rfl
    | some o =>
      obtain ⟨vs, z, zt⟩ := l a ha
      have := e.nw a (h.ow a ha).1 (by rw [q]; exact fun w => nomatch w)
      exact (this.no z zt.1).elim), (h.ow a ha).2⟩, e.bh, h.f0.trans e.bb, h.h0.trans e.hh, fun a h1 h2 => by
    cases q : F a with
    | some o => exact h.nw a h1 (by rw [q]; exact fun w => nomatch w)
    | none => exact (e.nw a q h2).back h.h0⟩
structure RS (K : PySem.W.Frag) (F0 H0 F H : Hp) (σ : L2.St) (ρ : OEnv) : Prop where
  ex : ∃ fps, Slots K F H σ ρ fps ∧ Hs F0 H0 F H fps
theorem RS.ext {K : PySem.W.Frag} {F0 H0 F H F' H' : Hp} {σ : L2.St} {ρ : OEnv} (h : RS K F0 H0 F H σ ρ) (e : Ext F H F' H') : RS K F0 H0 F' H' σ ρ := by
  obtain ⟨fps, s, hs⟩ := h.ex
  exact ⟨fps, s.keep e.bb fun a ha => by
    obtain ⟨vs, z, zt⟩ := s.lstAt a ha
    rw [z]; exact e.hh _ _ z, hs.ext e s.lstAt⟩
theorem RS.grow {K : PySem.W.Frag} {F0 H0 F H H' : Hp} {σ : L2.St} {ρ : OEnv} (h : RS K F0 H0 F H σ ρ) (e : Same H H') : RS K F0 H0 F H' σ ρ := by
  obtain ⟨fps, s, hs⟩ := id h.ex
  exact h.ext ⟨e, Same.refl F, hs.fh.trans e, fun a x y => absurd x y⟩
def bor (F H : Hp) (fps : List Addr) : Hp := fun a => if a ∈ fps then H a else F a
theorem bor_own {F H : Hp} {fps : List Addr} {a : Addr} (h : a ∈ fps) : bor F H fps a = H a := if_pos h
theorem bor_not {F H : Hp} {fps : List Addr} {a : Addr} (h : a ∉ fps) : bor F H fps a = F a := if_neg h
theorem Hs.bor {F0 H0 F H : Hp} {fps : List Addr} (h : Hs F0 H0 F H fps) : Same F (bor F H fps) ∧ Same (VL.bor F H fps) H := by
  refine ⟨fun a o e => ?_, fun a o e => ?_⟩
  · rw [bor_not (fun ha => by rw [(h.ow a ha).1] at e; cases e)]; exact e
  · by_cases ha : a ∈ fps
    · rw [bor_own ha] at e; exact e
    · rw [bor_not ha] at e; exact h.fh _ _ e
theorem Hs.unbor {F0 H0 F H B' H' : Hp} {fps : List Addr} (h : Hs F0 H0 F H fps) (l : ∀ a ∈ fps, ∃ u, H a = some u ∧ NoT u) (e : Ext (VL.bor F H fps) H B' H') :
    ∃ F', Ext F H F' H' ∧ (∀ b, (∃ ys, Rd B' b (.tup ys)) → F' b = B' b) ∧ Same F' B' := by
  obtain ⟨b1, b2⟩ := h.bor
  refine ⟨fun a => if a ∈ fps then none else B' a, ⟨e.hh, fun a o q => ?_, fun a o q => ?_, fun a h1 h2 => ?_⟩, fun b ⟨ys, hb⟩ => ?_, fun a o q => ?_⟩
  · show (if a ∈ fps then none else B' a) = some o
    rw [if_neg (fun ha => by rw [(h.ow a ha).1] at q; cases q)]
    exact e.bb _ _ (b1 _ _ q)
  · by_cases ha : a ∈ fps
    · rw [if_pos ha] at q; cases q
    · rw [if_neg ha] at q; exact e.bh _ _ q
  · by_cases ha : a ∈ fps
    · exact absurd (if_pos ha) h2
    · have h2 : B' a ≠ none := fun z => h2 ((if_neg ha).trans z)
      exact e.nw a (by rw [bor_not ha]; exact h1) h2
  · refine if_neg fun ha => ?_
    obtain ⟨vs, z, zt⟩ := l b ha
    have q := e.bb b _ ((bor_own ha).trans z)
    rcases hb with hb | ⟨o, hb⟩
    · rw [q] at hb; exact zt.1 _ (Option.some.inj hb)
    · rw [q] at hb; exact zt.2 _ _ (Option.some.inj hb)
  · have q : (if a ∈ fps then none else B' a) = some o := q
    by_cases ha : a ∈ fps
    · rw [if_pos ha] at q; cases q
    · rw [if_neg ha] at q; exact q
end VL

namespace VL
open PySem PySem.Spec PyProof.Rows L2

def lfok (d : PyData) : R PyData := if lf d then .ok d else .stuck
def exF (f : PEnv → R PyData) : OEnv → R PyData := fun ρ => f (viewF ρ)
def exB (f : PEnv → R PyData) : OEnv → R PyData := fun ρ => (f (viewB ρ)).bind lfok
def KX (X : Cx) (F H : Hp) (Q : VK) (d : PyData) : Prop := ∀ v H' F', Ext F H F' H' → Is X.K F' v d → Q v H'
structure VX (X : Cx) (W : WX) (e : Expr) (h : OEnv → R PyData) : Prop where
  ex : ∃ t, PE X e t ∧ ∀ σ H F0 H0 F ρ Q, RS X.K F0 H0 F H σ ρ → Pst X W σ H (KX X F H Q) (h ρ) → t σ H Q
def KXT (F H : Hp) (Q : Bool → Hp → Prop) (b : Bool) : Prop := ∀ H' F', Ext F H F' H' → Q b H'
structure VXT (X : Cx) (W : WX) (e : Expr) (h : OEnv → R Bool) : Prop where
  ex : ∃ t, PT X e t ∧ ∀ σ H F0 H0 F ρ Q, RS X.K F0 H0 F H σ ρ → Pst X W σ H (KXT F H Q) (h ρ) → t σ H Q
section
variable {X : Cx} {W : WX} {a b c e : Expr} {es : List Expr} {pos : Pos} {fa fb fc f : PEnv → R PyData} {ft fu : PEnv → R Bool} {k : Nat}
theorem vxF (h : VE X W e f) : VX X W e (exF f) := by
  obtain ⟨t, p, q⟩ := h.ex
  refine ⟨t, p, fun σ H F0 H0 F ρ Q r pr => ?_⟩
  obtain ⟨fps, s, hs⟩ := r.ex
  exact q σ H F _ Q hs.fh s.rfF (Pst.imp (fun d kx v H' B' ex sm dv => kx v H' B' ex dv) pr)
theorem vxB (h : VE X W e f) : VX X W e (exB f) := by
  obtain ⟨t, p, q⟩ := h.ex
  refine ⟨t, p, fun σ H F0 H0 F ρ Q r pr => ?_⟩
  obtain ⟨fps, s, hs⟩ := r.ex
  obtain ⟨b1, b2⟩ := hs.bor
  refine q σ H (bor F H fps) _ Q b2 (s.rfB b1 fun a ha => bor_own ha) ?_
  unfold exB at pr
  generalize f (viewB ρ) = rr at pr ⊢
  cases rr with
  | stuck => exact pr
  | err c => exact pr
  | ok d =>
    simp only [R.bind_ok, lfok] at pr
    split at pr
    · rename_i hl
      intro v H' B' ex sm dv
      obtain ⟨F', e1, e2, e3⟩ := hs.unbor s.lstAt ex
      exact pr v H' F' e1 (Is.lfree e2 hl dv)
    · exact pr.elim
theorem vxT (h : VT X W e ft) : VXT X W e (fun ρ => ft (viewB ρ)) := by
  obtain ⟨t, p, q⟩ := h.ex
  refine ⟨t, p, fun σ H F0 H0 F ρ Q r pr => ?_⟩
  obtain ⟨fps, s, hs⟩ := r.ex
  obtain ⟨b1, b2⟩ := hs.bor
  refine q σ H (bor F H fps) _ Q b2 (s.rfB b1 fun a ha => bor_own ha) (Pst.imp (fun d kx H' B' ex => ?_) pr)
  obtain ⟨F', e1, e2, e3⟩ := hs.unbor s.lstAt ex
  exact kx H' F' e1
end

def KO (X : Cx) (F0 H0 : Hp) (σ : L2.St) (Q : VK) (o : O × OEnv) : Prop := ∀ v H' F', RS X.K F0 H0 F' H' (some v :: σ) (some o.1 :: o.2) → Q v H'
structure VO (X : Cx) (W : WX) (e : Expr) (h : OEnv → R (O × OEnv)) : Prop where
  ex : ∃ t, PE X e t ∧ ∀ σ H F0 H0 F ρ Q, RS X.K F0 H0 F H σ ρ → Pst X W σ H (KO X F0 H0 σ Q) (h ρ) → t σ H Q
def oX (h : OEnv → R PyData) : OEnv → R (O × OEnv) := fun ρ => (h ρ).bind fun d => .ok (.fz d, ρ)
def oFrF (f : PEnv → R (List PyData)) : OEnv → R (O × OEnv) := fun ρ => (f (viewF ρ)).bind fun ds => .ok (.lst (ds.map O.fz), ρ)
def oFrB (f : PEnv → R (List PyData)) : OEnv → R (O × OEnv) := fun ρ => (f (viewB ρ)).bind fun ds => if lfs ds then .ok (.lst (ds.map O.fz), ρ) else .stuck
section
variable {X : Cx} {W : WX} {a b c e : Expr} {es : List Expr} {pos : Pos} {h : OEnv → R PyData} {f : PEnv → R (List PyData)} {k : Nat}
theorem vo_x (g : VX X W e h) : VO X W e (oX h) := by
  obtain ⟨t, p, q⟩ := g.ex
  refine ⟨t, p, fun σ H F0 H0 F ρ Q r pr => ?_⟩
  refine q σ H F0 H0 F ρ Q r ?_
  unfold oX at pr
  generalize h ρ = rr at pr ⊢
  cases rr with
  | stuck => exact pr
  | err c => exact pr
  | ok d =>
    intro v H' F' ex dv
    obtain ⟨fps, s, hs⟩ := (r.ext ex).ex
    exact pr v H' F' ⟨fps, .ow (.fz dv) s, hs⟩
theorem vo_frF (g : VFr X W e f) : VO X W e (oFrF f) := by
  obtain ⟨t, p, q⟩ := g.ex
  refine ⟨t, p, fun σ H F0 H0 F ρ Q r pr => ?_⟩
  obtain ⟨fps, s, hs⟩ := r.ex
  refine q σ H F _ Q hs.fh s.rfF ?_
  unfold oFrF at pr
  generalize f (viewF ρ) = rr at pr ⊢
  cases rr with
  | stuck => exact pr
  | err c => exact pr
  | ok ds =>
    intro pa vs H' B' ex hp hn bn ia
    have hs' := hs.ext ex s.lstAt
    have s' : Slots X.K B' H' σ ρ fps := s.keep ex.bb fun a ha => by
      obtain ⟨us, z, _⟩ := s.lstAt a ha
      rw [z]; exact ex.hh _ _ z
    refine pr (.ref pa) H' B' ⟨[pa] ++ fps, .ow (.lst hp (OwnL.fzs ia)) s', ?_, ?_, hs'.fh, hs'.f0, hs'.h0, hs'.nw⟩
    · refine List.nodup_cons.mpr ⟨fun hm => ?_, hs'.nd⟩
      obtain ⟨us, z, _⟩ := s.lstAt pa hm
      rw [hn] at z; cases z
    · intro a ha
      rcases List.mem_cons.mp ha with e | e
      · subst e; exact ⟨bn, Same.free hs.h0 hn⟩
      · exact hs'.ow a e
theorem vo_frB (g : VFr X W e f) : VO X W e (oFrB f) := by
  obtain ⟨t, p, q⟩ := g.ex
  refine ⟨t, p, fun σ H F0 H0 F ρ Q r pr => ?_⟩
  obtain ⟨fps, s, hs⟩ := r.ex
  obtain ⟨b1, b2⟩ := hs.bor
  refine q σ H (bor F H fps) _ Q b2 (s.rfB b1 fun a ha => bor_own ha) ?_
  unfold oFrB at pr
  generalize f (viewB ρ) = rr at pr ⊢
  cases rr with
  | stuck => exact pr
  | err c => exact pr
  | ok ds =>
    simp only [R.bind_ok] at pr
    split at pr
    · rename_i hl
      intro pa vs H' B' ex hp hn bn ia
      obtain ⟨F', e1, e2, e3⟩ := hs.unbor s.lstAt ex
      have hs' := hs.ext e1 s.lstAt
      have s' : Slots X.K F' H' σ ρ fps := s.keep e1.bb fun a ha => by
        obtain ⟨us, z, _⟩ := s.lstAt a ha
        rw [z]; exact e1.hh _ _ z
      have hpa : pa ∉ fps := fun hm => by
        obtain ⟨us, z, _⟩ := s.lstAt pa hm
        rw [hn] at z; cases z
      have fn : F' pa = none := by
        cases z : F' pa with
        | none => rfl
        | some o => have w := e3 _ _ z; rw [bn] at w; cases w
      refine pr (.ref pa) H' F' ⟨[pa] ++ fps, .ow (.lst hp (OwnL.fzs (IsAll.lfree e2 hl ia))) s', ?_, ?_, hs'.fh, hs'.f0, hs'.h0, hs'.nw⟩
      · exact List.nodup_cons.mpr ⟨hpa, hs'.nd⟩
      · intro a ha
        rcases List.mem_cons.mp ha with e | e
        · subst e; exact ⟨fn, Same.free hs.h0 hn⟩
        · exact hs'.ow a e
    · exact pr.elim
end

inductive SR where
  | stuck
  | err (c : Str) (ρ : OEnv)
  | nx (ρ : OEnv)
  | rt (o : O) (ρ : OEnv)
  | bk (ρ : OEnv)
  | ct (ρ : OEnv)
def RV (K : PySem.W.Frag) (F0 H0 F H : Hp) (v : V) (o : O) : Prop := ∃ fp, Own K F H v o fp ∧ Hs F0 H0 F H fp
def SPst (X : Cx) (W : WX) (F0 H0 : Hp) (D : Ends) : SR → Prop
  | .stuck => False
  | .err c ρ => ∀ σ' H' F', RS X.K F0 H0 F' H' σ' ρ → ErrAt X W c σ' H'
  | .nx ρ => ∀ σ' H' F', RS X.K F0 H0 F' H' σ' ρ → D.nx σ' H'
  | .bk ρ => ∀ σ' H' F', RS X.K F0 H0 F' H' σ' ρ → D.bk σ' H'
  | .ct ρ => ∀ σ' H' F', RS X.K F0 H0 F' H' σ' ρ → D.ct σ' H'
  | .rt o ρ => ∀ v σ' H' F', RS X.K F0 H0 F' H' (some v :: σ') (some o :: ρ) → D.rt v H'
structure VS (X : Cx) (W : WX) (st : Stmt) (g : OEnv → SR) : Prop where
  ex : ∃ t, PS X st t ∧ ∀ D σ H F0 H0 F ρ, RS X.K F0 H0 F H σ ρ → SPst X W F0 H0 D (g ρ) → t D σ H
structure VSs (X : Cx) (W : WX) (sts : List Stmt) (g : OEnv → SR) : Prop where
  ex : ∃ t, PSs X sts t ∧ ∀ D σ H F0 H0 F ρ, RS X.K F0 H0 F H σ ρ → SPst X W F0 H0 D (g ρ) → t D σ H
def SR.seq (r : SR) (g : OEnv → SR) : SR := match r with
  | .nx ρ => g ρ
  | r => r
def R.sr {α : Type} (x : R α) (ρ : OEnv) (f : α → SR) : SR := match x with
  | .stuck => .stuck
  | .err c => .err c ρ
  | .ok a => f a
@[simp] theorem R.sr_ok {α : Type} (a : α) (ρ : OEnv) (f : α → SR) : R.sr (.ok a) ρ f = f a := rfl
@[simp] theorem R.sr_err {α : Type} (c : Str) (ρ : OEnv) (f : α → SR) : R.sr (.err c : R α) ρ f = .err c ρ := rfl
@[simp] theorem R.sr_stuck {α : Type} (ρ : OEnv) (f : α → SR) : R.sr (.stuck : R α) ρ f = .stuck := rfl
@[simp] theorem SR.seq_nx (ρ : OEnv) (g : OEnv → SR) : SR.seq (.nx ρ) g = g ρ := rfl
@[simp] theorem SR.seq_rt (o : O) (ρ : OEnv) (g : OEnv → SR) : SR.seq (.rt o ρ) g = .rt o ρ := rfl
@[simp] theorem SR.seq_err (c : Str) (ρ : OEnv) (g : OEnv → SR) : SR.seq (.err c ρ) g = .err c ρ := rfl
@[simp] theorem SR.seq_bk (ρ : OEnv) (g : OEnv → SR) : SR.seq (.bk ρ) g = .bk ρ := rfl
@[simp] theorem SR.seq_ct (ρ : OEnv) (g : OEnv → SR) : SR.seq (.ct ρ) g = .ct ρ := rfl
theorem sr_pst {α : Type} {X : Cx} {W : WX} {F0 H0 F H : Hp} {D : Ends} {σ : L2.St} {ρ : OEnv} {x : R α} {f : α → SR} {K : α → Prop} (r : RS X.K F0 H0 F H σ ρ) (p : SPst X W F0 H0 D (x.sr ρ f)) (h : ∀ a, SPst X W F0 H0 D (f a) → K a) : Pst X W σ H K x := by
  cases x with
  | stuck => exact p
  | err c => exact fun H' e => p σ H' F (r.grow e)
  | ok a => exact h a p
section
variable {X : Cx} {W : WX} {a b c e : Expr} {st : Stmt} {sts rest : List Stmt} {pos : Pos} {g h : OEnv → SR} {hx : OEnv → R PyData} {ho : OEnv → R (O × OEnv)} {k : Nat}
theorem vss_nil : VSs X W [] (fun ρ => .nx ρ) := ⟨_, pss_nil, fun D σ H F0 H0 F ρ r p => p σ H F r⟩
theorem vss_cons (h1 : VS X W st g) (h2 : VSs X W rest h) : VSs X W (st :: rest) (fun ρ => (g ρ).seq h) := by
  obtain ⟨t, p, q⟩ := h1.ex
  obtain ⟨t2, p2, q2⟩ := h2.ex
  refine ⟨_, pss_cons p p2, fun D σ H F0 H0 F ρ r pr => ?_⟩
  refine q _ σ H F0 H0 F ρ r ?_
  generalize g ρ = rr at pr ⊢
  cases rr with
  | nx ρ' => exact fun σ' H' F' r' => q2 D σ' H' F0 H0 F' ρ' r' pr
  | stuck => exact pr
  | err c ρ' => exact pr
  | rt o _ => exact pr
  | bk ρ' => exact pr
  | ct ρ' => exact pr
theorem vss_one (h1 : VS X W st g) : VSs X W [st] g := by
  obtain ⟨t, p, q⟩ := h1.ex
  exact ⟨_, pss_one p, q⟩
def EnvT (K : PySem.W.Frag) (T : OEnv → OEnv) : Prop := ∀ F0 H0 F H σ ρ, RS K F0 H0 F H σ ρ → ∃ F', RS K F0 H0 F' H σ (T ρ)
theorem vss_t {T : OEnv → OEnv} (hT : EnvT X.K T) (h1 : VSs X W sts g) : VSs X W sts (fun ρ => g (T ρ)) := by
  obtain ⟨t, p, q⟩ := h1.ex
  refine ⟨t, p, fun D σ H F0 H0 F ρ r pr => ?_⟩
  obtain ⟨F', r'⟩ := hT F0 H0 F H σ ρ r
  exact q D σ H F0 H0 F' (T ρ) r' pr
def kill (is : List Nat) (ρ : OEnv) : OEnv := is.foldl (fun ρ i => ρ.set i none) ρ
def freezeAt (ρ : OEnv) (i : Nat) : OEnv := match ρ[i]? with
  | some (some o) => ρ.set i (some (.fz o.data))
  | _ => ρ
def freeze (is : List Nat) (ρ : OEnv) : OEnv := is.foldl freezeAt ρ
theorem RS.drop {K : PySem.W.Frag} {F0 H0 F H : Hp} {σ : L2.St} {ρ : OEnv} (r : RS K F0 H0 F H σ ρ) (i : Nat) : RS K F0 H0 F H σ (ρ.set i none) := by
  obtain ⟨fps, s, hs⟩ := r.ex
  by_cases hi : i < σ.length
  · obtain ⟨fpr, z1, z2⟩ := s.drop i σ[i]
    rw [List.set_getElem_self] at z1
    exact ⟨fpr, z1, hs.sub z2⟩
  · rw [List.set_eq_of_length_le (by rw [← s.len]; omega)]
    exact ⟨fps, s, hs⟩
theorem envT_kill (K : PySem.W.Frag) : ∀ is : List Nat, EnvT K (kill is)
  | [], F0, H0, F, H, σ, ρ, r => ⟨F, r⟩
  | i :: is, F0, H0, F, H, σ, ρ, r => envT_kill K is F0 H0 F H σ (ρ.set i none) (r.drop i)
theorem set_same {σ : L2.St} {i : Nat} {v : V} (e : σ[i]? = some (some v)) : σ.set i (some v) = σ := by
  refine List.ext_getElem? fun j => ?_
  by_cases hj : j = i
  · subst hj
    obtain ⟨q1, q2⟩ := List.getElem?_eq_some_iff.mp e
    rw [List.getElem?_set_self q1, e]
  · rw [List.getElem?_set_ne (Ne.symm hj)]
theorem RS.freeze {K : PySem.W.Frag} {F0 H0 F H : Hp} {σ : L2.St} {ρ : OEnv} (r : RS K F0 H0 F H σ ρ) (i : Nat) : ∃ F', RS K F0 H0 F' H σ (freezeAt ρ i) := by
  unfold freezeAt
  split
  · rename_i o eo
    obtain ⟨fps, s, hs⟩ := r.ex
    obtain ⟨v, fp, fpr, e1, e2, e3, e4, e5⟩ := s.split eo
    have hp := hs.perm e3
    have nd := List.nodup_append.mp hp.nd
    have own : ∀ a ∈ fp, F a = none ∧ H0 a = none := fun a ha => hp.ow a (List.mem_append_left _ ha)
    refine ⟨bor F H fp, ?_⟩
    have b1 : Same F (bor F H fp) := fun a u q => by
      rw [bor_not (fun ha => by rw [(own a ha).1] at q; cases q)]; exact q
    obtain ⟨fps', z1, z2⟩ := e5 (bor F H fp) H v (.fz o.data) [] (.fz (e2.is b1 fun a ha => bor_own ha)) b1 (fun _ _ => rfl)
    rw [set_same e1] at z1
    refine ⟨fps', z1, (Hs.perm ⟨?_, fun a ha => ⟨?_, ?_⟩, fun a u q => ?_, hs.f0.trans b1, hs.h0, fun a h1 h2 => ?_⟩ z2.symm)⟩
    · exact nd.2.1
    · have ha : a ∈ fpr := ha
      rw [bor_not (fun hm => nd.2.2 a hm a ha rfl)]
      exact (hp.ow a (List.mem_append_right _ ha)).1
    · exact (hp.ow a (List.mem_append_right _ ha)).2
    · by_cases ha : a ∈ fp
      · rw [bor_own ha] at q; exact q
      · rw [bor_not ha] at q; exact hs.fh _ _ q
    · by_cases ha : a ∈ fp
      · exact .inl (own a ha).2
      · rw [bor_not ha] at h2; exact hs.nw a h1 h2
  · exact ⟨F, r⟩
theorem envT_freeze (K : PySem.W.Frag) : ∀ is : List Nat, EnvT K (freeze is)
  | [], F0, H0, F, H, σ, ρ, r => ⟨F, r⟩
  | i :: is, F0, H0, F, H, σ, ρ, r => by
    obtain ⟨F', r'⟩ := r.freeze i
    exact envT_freeze K is F0 H0 F' H σ _ r'

theorem RS.put {K : PySem.W.Frag} {F0 H0 F H : Hp} {σ : L2.St} {ρ : OEnv} {v : V} {o : O} (r : RS K F0 H0 F H (some v :: σ) (some o :: ρ)) (i : Nat) : RS K F0 H0 F H (σ.set i (some v)) (ρ.set i (some o)) := by
  obtain ⟨fps, s, hs⟩ := r.ex
  cases s with
  | @ow v o fp σ ρ fps h1 s =>
    by_cases hi : i < ρ.length
    · obtain ⟨fps', z1, g, z2, z3⟩ := s.put h1 i hi
      exact ⟨fps', z1, (hs.sub (List.Sublist.append_left z3 fp)).perm z2.symm⟩
    · have l := s.len
      rw [List.set_eq_of_length_le (show σ.length ≤ i by omega), List.set_eq_of_length_le (show ρ.length ≤ i by omega)]
      exact ⟨fps, s, hs.sub (List.sublist_append_right _ _)⟩
def sSet (i : Nat) (h : OEnv → R (O × OEnv)) : OEnv → SR := fun ρ => (h ρ).sr ρ fun p => .nx (p.2.set i (some p.1))
theorem vs_set (i : Nat) {x : Str} {pos' : Pos} (hN : X.N.Nodup) (he : VO X W e ho) (hi : X.N[i]? = some x := by rfl) (hxl : Loc X.env.scope x := by first | exact Or.inl rfl | exact Or.inr rfl) (hs : swapsWith e (some (.Name x pos')) pos.line X.env = pure false := by rfl) (hf : X.fn x = true ∨ X.env.scope.names.lookup x = some .local := by first | exact .inl rfl | exact .inr rfl) :
    VS X W (.Assign [.Name x pos'] e pos) (sSet i ho) := by
  obtain ⟨t, p, q⟩ := he.ex
  refine ⟨_, ps_set hN hi hxl p hs hf, fun D σ H F0 H0 F ρ r pr => ?_⟩
  refine q σ H F0 H0 F ρ _ r (sr_pst r pr fun o po v H' F' r' => ?_)
  exact po _ _ _ (r'.put i)
theorem vs_setLc (i : Nat) {x : Str} {py : Pos} {elt tg iter : Expr} {ifs : List Expr} {scope : Scope} {own : List (Str × Nat)} {sl : List Nat} {fi : PEnv → R (List PyData)} {kt : PyData → R (List (Nat × PyData))} {ft : PEnv → R Bool} {fe : PEnv → R PyData} {cpos : Pos}
    {hh : OEnv → R (O × OEnv)} (mode : ∀ {t : TE}, (∀ σ H B ρ Q, Same B H → RF X.K B σ ρ → Pst X W σ H (KFr X B H Q) (vcomp (own.map (·.2)) fi kt ft fe ρ) → t σ H Q) → ∀ σ H F0 H0 F ρ Q, RS X.K F0 H0 F H σ ρ → Pst X W σ H (KO X F0 H0 σ Q) (hh ρ) → t σ H Q)
    (hc : X.calm = true) (hN : X.N.Nodup) (hy : X.N[i]? = some x) (hyl : X.env.scope.names.lookup x = some .local) (hsw : swapsWith (.ListComp elt [⟨tg, iter, ifs, 0⟩] scope cpos) (some (.Name x py)) pos.line X.env = pure true)
    (hi : VI X W tg iter fi) (ok : BlkOk X.N X.env.scope scope own)
    (hg : ∀ (s : Shared) (H : Hp) (C : Addr) (cl : List (Str × Addr)) (fp : List Addr), VG (X.blk s H scope (compEnvC scope cl C X.env) fp) tg sl kt)
    (hso : ∀ i ∈ sl, i ∈ own.map (·.2))
    (ht : ∀ (s : Shared) (H : Hp) (C : Addr) (cl : List (Str × Addr)) (fp : List Addr), VTs (X.blk s H scope (compEnvC scope cl C X.env) fp) W0 ifs ft)
    (hee : ∀ (s : Shared) (H : Hp) (C : Addr) (cl : List (Str × Addr)) (fp : List Addr), VE (X.blk s H scope (compEnvC scope cl C X.env) fp) W0 elt fe) (hs : ∀ x, foldedSetIterable iter X.env x = pure x := by intro _; rfl) :
    VS X W (.Assign [.Name x py] (.ListComp elt [⟨tg, iter, ifs, 0⟩] scope cpos) pos) (sSet i hh) := by
  obtain ⟨wi, pi, qi⟩ := hi.ex
  have h1 : ∀ (s : Shared) (H : Hp) (C : Addr) (cl : List (Str × Addr)) (fp : List Addr), PG (X.blk s H scope (compEnvC scope cl C X.env) fp) tg (tVG X kt) := fun s H C cl fp => (hg s H C cl fp).pg
  have h2 : ∀ (s : Shared) (H : Hp) (C : Addr) (cl : List (Str × Addr)) (fp : List Addr), PTs (X.blk s H scope (compEnvC scope cl C X.env) fp) ifs (tVT X W0 ft) := fun s H C cl fp => (ht s H C cl fp).pt
  have h3 : ∀ (s : Shared) (H : Hp) (C : Addr) (cl : List (Str × Addr)) (fp : List Addr), PE (X.blk s H scope (compEnvC scope cl C X.env) fp) elt (tV X W0 fe) := fun s H C cl fp => (hee s H C cl fp).pe
  have hsl : ∀ d bs, kt d = .ok bs → bs.map (·.1) = sl := (hg {} (fun _ => none) 0 [] []).sl
  refine ⟨_, ps_setLc hc hN hy hyl hsw pi ok h1 h2 h3 hs, fun D σ H F0 H0 F ρ r pr => ?_⟩
  refine mode (fun σ H B ρ Q s rf pr => comp_read qi (fun v σ H B d Q s dv q => ⟨B, d, s, dv, q⟩) hsl hso (fun σ H B ρ Q s r p => ⟨B, ρ, s, r, p⟩) (fun σ H B ρ Q s r p => ⟨B, ρ, s, r, p⟩) s rf pr) σ H F0 H0 F ρ _ r (sr_pst r pr fun o po v H' F' r' => ?_)
  exact po _ _ _ (r'.put i)
def sRet (h : OEnv → R (O × OEnv)) : OEnv → SR := fun ρ => (h ρ).sr ρ fun p => .rt p.1 p.2
theorem vs_ret (he : VO X W e ho) : VS X W (.Return (some e) pos) (sRet ho) := by
  obtain ⟨t, p, q⟩ := he.ex
  refine ⟨_, ps_ret p, fun D σ H F0 H0 F ρ r pr => ?_⟩
  refine q σ H F0 H0 F ρ _ r (sr_pst r pr fun o po v H' F' r' => ?_)
  exact po v σ H' F' r'
def sExpr (h : OEnv → R (O × OEnv)) : OEnv → SR := fun ρ => (h ρ).sr ρ fun p => .nx p.2
def sIf (t : OEnv → R Bool) (g h : OEnv → SR) : OEnv → SR := fun ρ => (t ρ).sr ρ fun b => if b then g ρ else h ρ
theorem vs_if {ts us : List Stmt} {ht : OEnv → R Bool} (h0 : VXT X W c ht) (h1 : VSs X W ts g) (h2 : VSs X W us h) : VS X W (.If c ts us pos) (sIf ht g h) := by
  obtain ⟨t, p, q⟩ := h0.ex
  obtain ⟨t1, p1, q1⟩ := h1.ex
  obtain ⟨t2, p2, q2⟩ := h2.ex
  refine ⟨_, ps_if p p1 p2, fun D σ H F0 H0 F ρ r pr => ?_⟩
  refine q σ H F0 H0 F ρ _ r (sr_pst r pr fun b pb H' F' ex => ?_)
  cases b with
  | true => exact iteT (q1 D σ H' F0 H0 F' ρ (r.ext ex) pb)
  | false => exact iteF (q2 D σ H' F0 H0 F' ρ (r.ext ex) pb)
end
end VL

namespace VL
open PySem PySem.Spec PyProof.Rows L2

theorem Hs.rebase {F0 H0 F1 F H : Hp} {fps : List Addr} (h : Hs F1 H0 F H fps) (s : Same F0 F1) (n : ∀ a, F0 a = none → F1 a ≠ none → NT H0 a) : Hs F0 H0 F H fps :=
  ⟨h.nd, h.ow, h.fh, s.trans h.f0, h.h0, fun a h1 h2 => by
    cases q : F1 a with
    | none => exact h.nw a q h2
    | some o => exact n a h1 (by rw [q]; exact fun w => nomatch w)⟩
theorem RS.self {K : PySem.W.Frag} {F0 H0 F H : Hp} {σ : L2.St} {ρ : OEnv} (r : RS K F0 H0 F H σ ρ) : RS K F H0 F H σ ρ ∧ Same F0 F ∧ ∀ a, F0 a = none → F a ≠ none → NT H0 a := by
  obtain ⟨fps, s, hs⟩ := r.ex
  exact ⟨⟨fps, s, hs.nd, hs.ow, hs.fh, Same.refl F, hs.h0, fun a x y => absurd x y⟩, hs.f0, hs.nw⟩
theorem RS.rebase {K : PySem.W.Frag} {F0 H0 F1 F H : Hp} {σ : L2.St} {ρ : OEnv} (r : RS K F1 H0 F H σ ρ) (s : Same F0 F1) (n : ∀ a, F0 a = none → F1 a ≠ none → NT H0 a) : RS K F0 H0 F H σ ρ := by
  obtain ⟨fps, sl, hs⟩ := r.ex
  exact ⟨fps, sl, hs.rebase s n⟩
theorem RV.rebase {K : PySem.W.Frag} {F0 H0 F1 F H : Hp} {v : V} {o : O} (r : RV K F1 H0 F H v o) (s : Same F0 F1) (n : ∀ a, F0 a = none → F1 a ≠ none → NT H0 a) : RV K F0 H0 F H v o := by
  obtain ⟨fps, sl, hs⟩ := r
  exact ⟨fps, sl, hs.rebase s n⟩
theorem RS.tail {K : PySem.W.Frag} {F0 H0 F H : Hp} {σ : L2.St} {ρ : OEnv} {s : Option V} {o : Option O} (r : RS K F0 H0 F H (s :: σ) (o :: ρ)) : RS K F0 H0 F H σ ρ := by
  obtain ⟨fps, sl, hs⟩ := r.ex
  cases sl with
  | un s => exact ⟨_, s, hs⟩
  | ow h1 s => exact ⟨_, s, hs.sub (List.sublist_append_right _ _)⟩
theorem RS.consFz {K : PySem.W.Frag} {F0 H0 F H : Hp} {σ : L2.St} {ρ : OEnv} {v : V} {d : PyData} (r : RS K F0 H0 F H σ ρ) (h : Is K F v d) : RS K F0 H0 F H (some v :: σ) (some (.fz d) :: ρ) := by
  obtain ⟨fps, sl, hs⟩ := r.ex
  exact ⟨_, .ow (.fz h) sl, hs⟩
def setsO (ρ : OEnv) (bs : List (Nat × PyData)) : OEnv := bs.foldl (fun ρ b => ρ.set b.1 (some (.fz b.2))) ρ
theorem RS.sets {K : PySem.W.Frag} {F0 H0 F H : Hp} : ∀ {bv : List (Nat × V)} {bd : List (Nat × PyData)} {σ : L2.St} {ρ : OEnv}, RS K F0 H0 F H σ ρ → Bds K F bv bd → RS K F0 H0 F H (setsV σ bv) (setsO ρ bd)
  | _, _, _, _, r, .nil => r
  | _, _, _, _, r, .cons (a := p) (b := q) h t => by
    obtain ⟨r1, r2⟩ := h
    unfold setsV setsO
    rw [List.foldl_cons, List.foldl_cons, r1]
    exact RS.sets ((r.consFz r2).put q.1) t

theorem OwnL.setAt {K : PySem.W.Frag} {F H : Hp} {y : V} {o : O} {fpo : List Addr} (ho : Own K F H y o fpo) : ∀ {os : List O} {vs : List V} {fp : List Addr} (j : Nat), OwnL K F H vs os fp → ∃ fp', OwnL K F H (vs.set j y) (os.set j o) fp' ∧ ∃ fp'', fp'.Perm fp'' ∧ fp''.Sublist (fp ++ fpo)
  | [], _, _, j, h => by cases h; exact ⟨[], by simp; exact .nil, [], .refl _, List.nil_sublist _⟩
  | p :: os, _, _, 0, h => by
    cases h with
    | @cons v vs _ _ f1 f2 h1 h2 =>
      refine ⟨fpo ++ f2, .cons ho h2, f2 ++ fpo, List.perm_append_comm, ?_⟩
      rw [List.append_assoc]
      exact List.sublist_append_right _ _
  | p :: os, _, _, j + 1, h => by
    cases h with
    | @cons v vs _ _ f1 f2 h1 h2 =>
      obtain ⟨f3, z1, f4, z2, z3⟩ := OwnL.setAt ho j h2
      refine ⟨f1 ++ f3, .cons h1 z1, f1 ++ f4, List.Perm.append_left f1 z2, ?_⟩
      rw [List.append_assoc]
      exact List.Sublist.append_left z3 f1
structure Chg (tv : List V → V → List V) (to : List O → O → List O) : Prop where
  own : ∀ {K : PySem.W.Frag} {F H : Hp} {vs : List V} {os : List O} {y : V} {o : O} {fp fpo : List Addr}, OwnL K F H vs os fp → Own K F H y o fpo → ∃ fp', OwnL K F H (tv vs y) (to os o) fp' ∧ ∃ fp'', fp'.Perm fp'' ∧ fp''.Sublist (fp ++ fpo)
theorem chg_app : Chg (fun vs y => vs ++ [y]) (fun os o => os ++ [o]) := ⟨fun {K F H vs os y o fp fpo} h1 h2 => by
  refine ⟨fp ++ fpo, ?_, fp ++ fpo, .refl _, .refl _⟩
  have z := OwnL.append h1 (.cons h2 .nil)
  rw [List.append_nil] at z
  exact z⟩
theorem chg_set (j : Nat) : Chg (fun vs y => vs.set j y) (fun os o => os.set j o) := ⟨fun h1 h2 => OwnL.setAt h2 j h1⟩
theorem RS.mut {K : PySem.W.Frag} {F0 H0 F H : Hp} {σ : L2.St} {ρ : OEnv} {y : V} {o : O} {i : Nat} {os : List O} {tv : List V → V → List V} {to : List O → O → List O} (c : Chg tv to) (r : RS K F0 H0 F H (some y :: σ) (some o :: ρ)) (ei : ρ[i]? = some (some (.lst os))) :
    ∃ a vs, σ[i]? = some (some (.ref a)) ∧ H a = some (.lst vs) ∧ vs.length = os.length ∧ RS K F0 H0 F (upd H a (.lst (tv vs y))) σ (ρ.set i (some (.lst (to os o)))) := by
  obtain ⟨fps, sl, hs⟩ := r.ex
  cases sl with
  | @ow _ _ fpo _ _ fpt h1 s =>
    obtain ⟨v, fp, fpr, e1, e2, e3, e4, e5⟩ := s.split ei
    cases e2 with
    | @lst a vs _ fpi ha hl =>
      refine ⟨a, vs, e1, ha, hl.len, ?_⟩
      have hp : Hs F0 H0 F H (fpo ++ ((a :: fpi) ++ fpr)) := hs.perm (List.Perm.append_left fpo e3)
      have nd := List.nodup_append.mp hp.nd
      have nd2 := List.nodup_append.mp nd.2.1
      have na_o : a ∉ fpo := fun m => nd.2.2 a m a (List.mem_append_left _ List.mem_cons_self) rfl
      have na_i : a ∉ fpi := (List.nodup_cons.mp nd2.1).1
      have na_r : a ∉ fpr := fun m => nd2.2.2 a List.mem_cons_self a m rfl
      have hk : ∀ b, b ≠ a → upd H a (.lst (tv vs y)) b = H b := fun b hb => upd_ne hb
      have o1 : Own K F (upd H a (.lst (tv vs y))) y o fpo := h1.keep (Same.refl F) fun b hb => hk b fun e => na_o (e ▸ hb)
      have l1 : OwnL K F (upd H a (.lst (tv vs y))) vs os fpi := hl.keep (Same.refl F) fun b hb => hk b fun e => na_i (e ▸ hb)
      obtain ⟨fp', z1, fp'', z2, z3⟩ := c.own l1 o1
      obtain ⟨fps', w1, w2⟩ := e5 F (upd H a (.lst (tv vs y))) (.ref a) (.lst (to os o)) (a :: fp') (.lst upd_same z1) (Same.refl F) fun b hb => hk b fun e => na_r (e ▸ hb)
      rw [set_same e1] at w1
      have an : F a = none ∧ H0 a = none := hp.ow a (List.mem_append_right _ (List.mem_append_left _ List.mem_cons_self))
      have base : Hs F0 H0 F (upd H a (.lst (tv vs y))) (fpo ++ ((a :: fpi) ++ fpr)) := ⟨hp.nd, hp.ow, fun b u q => by
        rw [hk b (fun e => by rw [e, an.1] at q; cases q)]; exact hp.fh _ _ q, hp.f0, fun b u q => by
        rw [hk b (fun e => by rw [e, an.2] at q; cases q)]; exact hp.h0 _ _ q, hp.nw⟩
      have p1 : (fpo ++ ((a :: fpi) ++ fpr)).Perm (a :: ((fpi ++ fpo) ++ fpr)) := by
        have : (fpo ++ ((a :: fpi) ++ fpr)).Perm (((a :: fpi) ++ fpo) ++ fpr) := by
          rw [← List.append_assoc]
          exact List.Perm.append_right _ List.perm_append_comm
        simpa using this
      have p2 : Hs F0 H0 F (upd H a (.lst (tv vs y))) (a :: (fp'' ++ fpr)) := (base.perm p1).sub (List.Sublist.cons_cons a (List.Sublist.append_right z3 fpr))
      refine ⟨fps', w1, (p2.perm ?_).perm w2.symm⟩
      exact List.Perm.cons a (List.Perm.append_right fpr z2.symm)

section
variable {X : Cx} {W : WX} {a b c e : Expr} {st : Stmt} {sts rest : List Stmt} {pos : Pos} {g h : OEnv → SR} {hx hx' : OEnv → R PyData} {ho : OEnv → R (O × OEnv)} {k : Nat}
def sApp (i : Nat) (h : OEnv → R (O × OEnv)) : OEnv → SR := fun ρ => match ρ[i]? with
  | some (some (.lst _)) => (h ρ).sr ρ fun p => match p.2[i]? with
    | some (some (.lst os)) => if os.length < sizeLine then .nx (p.2.set i (some (.lst (os ++ [p.1])))) else .stuck
    | _ => .stuck
  | _ => .stuck
theorem vs_app (i : Nat) {x : Str} {p1 p2 p3 : Pos} (mk : ∀ {t : TE}, PE X e t → PE X (.Call (.Attribute (.Name x p1) "append" p2) [e] [] p3) (tBM X.K "list" rAppend (tVar i) (tCons t tNil))) (he : VO X W e ho)
    (hs : swapsWith (.Call (.Attribute (.Name x p1) "append" p2) [e] [] p3) none pos.line X.env = pure false := by rfl) :
    VS X W (.Expr (.Call (.Attribute (.Name x p1) "append" p2) [e] [] p3) pos) (sApp i ho) := by
  obtain ⟨t, p, q⟩ := he.ex
  refine ⟨_, ps_expr (mk p) hs, fun D σ H F0 H0 F ρ r pr => ?_⟩
  unfold sApp at pr
  split at pr
  · rename_i os0 e0
    obtain ⟨fps, sl, hss⟩ := r.ex
    obtain ⟨v, fp, fpr, e1, e2, e3, e4, e5⟩ := sl.split e0
    cases e2 with
    | @lst ad vs _ fpi ha hl =>
      refine ⟨.ref ad, e1, .inl ⟨rfl, _, .inl (.inl ha)⟩, ?_⟩
      refine q σ H F0 H0 F ρ _ r (sr_pst r pr fun o po y H' F' r' => ?_)
      split at po
      · rename_i os eo
        split at po
        · rename_i hz
          obtain ⟨ad', vs', e6, e7, e8, r2⟩ := r'.mut chg_app eo
          rw [e1] at e6
          cases e6
          exact ⟨ad, vs', y, rfl, rfl, e7, by rw [e8]; exact hz, po _ _ _ r2⟩
        · exact po.elim
      · exact po.elim
  · exact pr.elim
def sAug (f : Int → Int → Int) (i : Nat) (h : OEnv → R PyData) : OEnv → SR := fun ρ => match ρ[i]? with
  | some (some (.fz (.int a))) => (h ρ).sr ρ fun d => match d with
    | .int b => .nx (ρ.set i (some (.fz (.int (f a b)))))
    | _ => .stuck
  | _ => .stuck
theorem vs_aug {f : Int → Int → Int} {op : Operator} (hop : PIp X op (ipI f)) (i : Nat) {x : Str} {p1 : Pos} (hN : X.N.Nodup) (he : VX X W e hx) (hi : X.N[i]? = some x := by rfl) (hxl : Loc X.env.scope x := by first | exact Or.inl rfl | exact Or.inr rfl) (hf : X.fn x = true ∨ X.env.scope.names.lookup x = some .local := by first | exact .inl rfl | exact .inr rfl) :
    VS X W (.AugAssign (.Name x p1) op e pos) (sAug f i hx) := by
  obtain ⟨t, p, q⟩ := he.ex
  refine ⟨_, ps_aug hN hi hxl p hop hf, fun D σ H F0 H0 F ρ r pr => ?_⟩
  unfold sAug at pr
  split at pr
  · rename_i n en
    obtain ⟨fps, sl, hss⟩ := r.ex
    obtain ⟨v, fp, fpr, e1, e2, e3, e4, e5⟩ := sl.split en
    cases e2 with
    | fz hv =>
      cases hv
      refine ⟨_, e1, ?_⟩
      refine q σ H F0 H0 F ρ _ r (sr_pst r pr fun d pd y H' F' ex dy => ?_)
      cases dy <;> first | exact pd.elim | skip
      rename_i m
      exact ⟨n, m, rfl, rfl, pd _ H' F' (((r.ext ex).consFz (.int (f n m))).put i)⟩
  · exact pr.elim
def sTup (k : PyData → R (List (Nat × PyData))) (h : OEnv → R PyData) : OEnv → SR := fun ρ => (h ρ).sr ρ fun d => match k d with | .ok bd => .nx (setsO ρ bd) | _ => .stuck
theorem vs_tup {tg : Expr} {sl : List Nat} {k : PyData → R (List (Nat × PyData))} (hg : VG X tg sl k) (he : VX X W e hx) (h1 : swapsWithSole [tg] e pos.line X.env = pure false := by rfl) (h2 : swappedStores [tg] e X.env = pure none := by rfl) (h3 : (assignEach [tg] X.env).map (·.2) = [assign tg X.env] := by rfl) :
    VS X W (.Assign [tg] e pos) (sTup k hx) := by
  obtain ⟨t, p, q⟩ := he.ex
  obtain ⟨tg', pg, qg⟩ := hg.ex
  refine ⟨_, ps_asg p pg h1 h2 h3, fun D σ H F0 H0 F ρ r pr => ?_⟩
  unfold sTup at pr
  refine q σ H F0 H0 F ρ _ r (sr_pst r pr fun d pd v H' F' ex dv => ?_)
  have r' := r.ext ex
  obtain ⟨fps, sl', hss⟩ := r'.ex
  generalize hk : k d = rk at pd
  cases rk with
  | stuck => exact pd.elim
  | err c => exact pd.elim
  | ok bd => exact qg v σ H' F' d _ hss.fh dv ⟨bd, hk, fun bv hb => pd _ H' F' (RS.sets r' hb)⟩
end
end VL

namespace VL
open PySem PySem.Spec PyProof.Rows L2

def KIX (X : Cx) (F H : Hp) (Rr : It → Hp → Prop) (ds : List PyData) : Prop := ∀ J H' F', Ext F H F' H' → Walks X.K J ds F' → Rr J H'
structure VIX (X : Cx) (W : WX) (tg iter : Expr) (h : OEnv → R (List PyData)) : Prop where
  ex : ∃ wi, PI X tg iter wi ∧ ∀ σ H F0 H0 F ρ Rr, RS X.K F0 H0 F H σ ρ → Pst X W σ H (KIX X F H Rr) (h ρ) → wi σ H Rr
section
variable {X : Cx} {W : WX} {a b c e tg iter : Expr} {st : Stmt} {sts rest : List Stmt} {pos : Pos} {g h : OEnv → SR} {hx hx' ha hb : OEnv → R PyData} {ho : OEnv → R (O × OEnv)} {k : Nat}
theorem vix_F {f : PEnv → R (List PyData)} (h : VI X W tg iter f) : VIX X W tg iter (fun ρ => f (viewF ρ)) := by
  obtain ⟨wi, p, q⟩ := h.ex
  refine ⟨wi, p, fun σ H F0 H0 F ρ Rr r pr => ?_⟩
  obtain ⟨fps, s, hs⟩ := r.ex
  exact q σ H F _ Rr hs.fh s.rfF pr
def x1 (g : PyData → R (List PyData)) (h : OEnv → R PyData) : OEnv → R (List PyData) := fun ρ => (h ρ).bind g
def x2 (g : PyData → PyData → R (List PyData)) (h h' : OEnv → R PyData) : OEnv → R (List PyData) := fun ρ => (h ρ).bind fun d => (h' ρ).bind fun e => g d e
theorem oneX {ta : TE} (hq : ∀ σ H F0 H0 F ρ Q, RS X.K F0 H0 F H σ ρ → Pst X W σ H (KX X F H Q) (hx ρ) → ta σ H Q)
    {α : Type} {σ : L2.St} {F0 H0 H F : Hp} {ρ : OEnv} {g : PyData → R α} {K : α → Prop} {Q : V → Hp → Prop} (r : RS X.K F0 H0 F H σ ρ)
    (p : Pst X W σ H K ((hx ρ).bind g))
    (q : ∀ d x H' F', Ext F H F' H' → Is X.K F' x d → Pst X W σ H' K (g d) → Q x H') : ta σ H Q := by
  refine hq σ H F0 H0 F ρ _ r ?_
  generalize hx ρ = ra at p ⊢
  cases ra with
  | stuck => exact p
  | err c => exact p
  | ok d =>
    intro x H1 F1 e1 d1
    refine q d x H1 F1 e1 d1 ?_
    simp only [R.bind_ok] at p
    generalize g d = rg at p ⊢
    cases rg with
    | stuck => exact p
    | err c => exact fun H' z => p H' (e1.hh.trans z)
    | ok z => exact p
theorem vix_range1 {p pos : Pos} (hm : X.mg "range" = none) (h1 : VX X W a ha) (hg : Gl X "range" := by rfl) (hs : starEach [a] X.env = [(false, eval a X.env)] := by rfl) (he : starEach [a] X.env = (false, eval a X.env) :: starEach [] X.env := by rfl) : VIX X W tg (.Call (.Name "range" p) [a] [] pos) (x1 vrange1 ha) := by
  obtain ⟨t, pt, qt⟩ := h1.ex
  refine ⟨_, pi_range1 hg hm (pa_cons pt pa_nil he) hs, fun σ H F0 H0 F ρ Rr r pr => ?_⟩
  refine oneX qt r pr fun d x H' F' ex dx pg => ?_
  cases dx <;> first | exact pg.elim | skip
  rename_i i
  simp only [vrange1] at pg
  split at pg
  · rename_i hz
    have hz' : -16777216 ≤ (0:Int) ∧ (0:Int) ≤ 16777216 ∧ -16777216 ≤ i ∧ i ≤ 16777216 ∧ i - 0 ≤ 16777216 := hz
    exact ⟨_, rfl, by omega, by omega, pg _ H' F' ex (walks_range (by have := sizeLine_eq; omega))⟩
  · exact pg.elim
theorem vix_range2 {p pos : Pos} (hm : X.mg "range" = none) (h1 : VX X W a ha) (h2 : VX X W b hb) (hg : Gl X "range" := by rfl) (hs : starEach [a, b] X.env = [(false, eval a X.env), (false, eval b X.env)] := by rfl) (hs2 : starEach [b] X.env = [(false, eval b X.env)] := by rfl)
    (he : starEach [a, b] X.env = (false, eval a X.env) :: starEach [b] X.env := by rfl) (he2 : starEach [b] X.env = (false, eval b X.env) :: starEach [] X.env := by rfl) : VIX X W tg (.Call (.Name "range" p) [a, b] [] pos) (x2 vrange2 ha hb) := by
  obtain ⟨t, pt, qt⟩ := h1.ex
  obtain ⟨t2, pt2, qt2⟩ := h2.ex
  refine ⟨_, pi_range2 hg hm (pa_cons pt (pa_cons pt2 pa_nil he2) he) hs hs2, fun σ H F0 H0 F ρ Rr r pr => ?_⟩
  refine oneX qt r pr fun d x H1 F1 ex1 dx p1 => ?_
  refine oneX qt2 (r.ext ex1) p1 fun e y H' F' ex dy pg => ?_
  cases dx <;> first | (cases dy <;> exact pg.elim) | skip
  cases dy <;> first | exact pg.elim | skip
  rename_i i j
  simp only [vrange2] at pg
  split at pg
  · rename_i hz
    have hz' : -16777216 ≤ i ∧ i ≤ 16777216 ∧ -16777216 ≤ j ∧ j ≤ 16777216 ∧ j - i ≤ 16777216 := hz
    exact ⟨i, j, rfl, ⟨by omega, by omega, by omega, by omega⟩, pg _ H' F' (ex1.trans ex) (walks_range (by have := sizeLine_eq; omega))⟩
  · exact pg.elim

def forL (kt : PyData → R (List (Nat × PyData))) (kl : OEnv → OEnv) (gb : OEnv → SR) : List PyData → OEnv → SR
  | [], ρ => .nx ρ
  | d :: ds, ρ => match kt d with
    | .ok bs => (match gb (setsO ρ bs) with
      | .nx ρ' => forL kt kl gb ds (kl ρ')
      | .ct ρ' => forL kt kl gb ds (kl ρ')
      | .bk ρ' => .nx ρ'
      | r => r)
    | _ => .stuck
def sFor (hi : OEnv → R (List PyData)) (kt : PyData → R (List (Nat × PyData))) (kl : OEnv → OEnv) (gb : OEnv → SR) : OEnv → SR := fun ρ => (hi ρ).sr ρ fun ds => forL kt kl gb ds ρ
theorem RS.head {K : PySem.W.Frag} {F0 H0 F H : Hp} {σ : L2.St} {ρ : OEnv} {v : V} {o : O} (r : RS K F0 H0 F H (some v :: σ) (some o :: ρ)) : RV K F0 H0 F H v o := by
  obtain ⟨fps, sl, hs⟩ := r.ex
  cases sl with
  | ow h1 s => exact ⟨_, h1, hs.sub (List.sublist_append_left _ _)⟩
theorem SPst.rebase {F0 H0 F1 : Hp} {D D' : Ends} (s : Same F0 F1) (n : ∀ a, F0 a = none → F1 a ≠ none → NT H0 a) {r : SR} (hn : ∀ ρ, (r = .nx ρ → ∀ σ' H' F', RS X.K F1 H0 F' H' σ' ρ → D'.nx σ' H') ∧ (r = .bk ρ → ∀ σ' H' F', RS X.K F1 H0 F' H' σ' ρ → D'.bk σ' H') ∧ (r = .ct ρ → ∀ σ' H' F', RS X.K F1 H0 F' H' σ' ρ → D'.ct σ' H'))
    (hrt : D'.rt = D.rt) (p : ∀ ρ, r ≠ .nx ρ → r ≠ .bk ρ → r ≠ .ct ρ → SPst X W F0 H0 D r) (hs : r ≠ .stuck) : SPst X W F1 H0 D' r := by
  cases r with
  | stuck => exact absurd rfl hs
  | err c ρ => exact fun σ' H' F' x => p ρ (fun z => nomatch z) (fun z => nomatch z) (fun z => nomatch z) σ' H' F' (x.rebase s n)
  | nx ρ => exact (hn ρ).1 rfl
  | bk ρ => exact (hn ρ).2.1 rfl
  | ct ρ => exact (hn ρ).2.2 rfl
  | rt o ρ => exact fun v σ' H' F' x => by rw [hrt]; exact p [] (fun z => nomatch z) (fun z => nomatch z) (fun z => nomatch z) v σ' H' F' (x.rebase s n)
theorem vs_for {body : List Stmt} {sl : List Nat} {kt : PyData → R (List (Nat × PyData))} {hi : OEnv → R (List PyData)} {kl : OEnv → OEnv} {gb : OEnv → SR} (hp : PassesOwn (model X.prog X.w) X.A X.env X.xe) (hc : X.calm = true) (h1 : VIX X W tg iter hi) (h2 : VG X tg sl kt) (hk : EnvT X.K kl) (h3 : VSs X W body gb)
    (hs : ∀ x, foldedSetIterable iter X.env x = pure x := by intro _; rfl) : VS X W (.For tg iter body [] pos) (sFor hi kt kl gb) := by
  obtain ⟨wi, pi, qi⟩ := h1.ex
  obtain ⟨tg', pg, qg⟩ := h2.ex
  obtain ⟨tb, pb, qb⟩ := h3.ex
  refine ⟨_, ps_for hp hc pi pg pb hs, fun D σ H F0 H0 F ρ r pr => ?_⟩
  refine qi σ H F0 H0 F ρ _ r (sr_pst r pr fun ds pd J H1 F1 ex wk => ?_)
  have r1 := r.ext ex
  refine ⟨fun i m σ H => m = ds.length - i ∧ i ≤ ds.length ∧ ∃ F' ρ', RS X.K F0 H0 F' H σ ρ' ∧ Same F1 F' ∧ SPst X W F0 H0 D (forL kt kl gb (ds.drop i) ρ'), ⟨ds.length, by simp, Nat.zero_le _, F1, ρ, r1, Same.refl _, by simpa using pd⟩, ?_⟩
  rintro i m σ' Hi ⟨rfl, hi', F', ρ', r', s1, pd'⟩
  obtain ⟨rs, b1, b2⟩ := r'.self
  have fh : Same F' Hi := by obtain ⟨_, _, hs⟩ := rs.ex; exact hs.fh
  by_cases hlt : i < ds.length
  · refine .inr ⟨wk.go i Hi (s1.trans fh) hlt, fun σ' H => i + 1 ≤ ds.length ∧ ∃ F' ρ', RS X.K F0 H0 F' H σ' ρ' ∧ Same F1 F' ∧ SPst X W F0 H0 D (forL kt kl gb (ds.drop (i + 1)) ρ'), fun σ'' H'' q => ⟨ds.length - (i + 1), by omega, rfl, q⟩, fun x H' y => ?_⟩
    obtain ⟨d, F2, e2, E2, dx⟩ := wk.yld i Hi x H' F' s1 fh hlt y
    have hdrop : ds.drop i = d :: ds.drop (i + 1) := by
      obtain ⟨q1, q2⟩ := List.getElem?_eq_some_iff.mp e2
      rw [List.drop_eq_getElem_cons q1, q2]
    rw [hdrop] at pd'
    simp only [forL] at pd'
    generalize hkd : kt d = rk at pd'
    cases rk with
    | stuck => exact pd'.elim
    | err c => exact pd'.elim
    | ok bs =>
      simp only at pd'
      refine qg x σ' H' F2 d _ E2.bh dx ⟨bs, hkd, fun bv hb => ?_⟩
      have r2 : RS X.K F' H0 F2 H' (setsV σ' bv) (setsO ρ' bs) := RS.sets (rs.ext E2) hb
      have again : ∀ {σ3 : L2.St} {H3 F3 : Hp} {ρ3 : OEnv}, RS X.K F' H0 F3 H3 σ3 ρ3 → SPst X W F0 H0 D (forL kt kl gb (ds.drop (i + 1)) (kl ρ3)) → i + 1 ≤ ds.length ∧ ∃ F' ρ', RS X.K F0 H0 F' H3 σ3 ρ' ∧ Same F1 F' ∧ SPst X W F0 H0 D (forL kt kl gb (ds.drop (i + 1)) ρ') := fun {σ3 H3 F3 ρ3} r3 p3 => by
        obtain ⟨F4, r4⟩ := hk F' H0 F3 H3 σ3 ρ3 r3
        refine ⟨hlt, F4, kl ρ3, r4.rebase b1 b2, s1.trans ?_, p3⟩
        obtain ⟨_, _, hs⟩ := r4.ex
        exact hs.f0
      refine qb _ (setsV σ' bv) H' F' H0 F2 (setsO ρ' bs) r2 ?_
      generalize hgb : gb (setsO ρ' bs) = rg at pd'
      cases rg with
      | stuck => exact pd'.elim
      | err c ρ3 => exact fun σ3 H3 F3 r3 => pd' σ3 H3 F3 (r3.rebase b1 b2)
      | nx ρ3 => exact fun σ3 H3 F3 r3 => again r3 pd'
      | ct ρ3 => exact fun σ3 H3 F3 r3 => again r3 pd'
      | bk ρ3 => exact fun σ3 H3 F3 r3 => pd' σ3 H3 F3 (r3.rebase b1 b2)
      | rt o _ => exact fun v σ3 H3 F3 r3 => pd' v σ3 H3 F3 (r3.rebase b1 b2)
  · have e : i = ds.length := by omega
    subst e
    refine .inl ⟨wk.stop Hi (s1.trans fh), ?_⟩
    rw [List.drop_length] at pd'
    exact pd' σ' Hi F' r'

def sForK (hi : OEnv → R (List PyData)) (T : OEnv → OEnv) (kt : PyData → R (List (Nat × PyData))) (kl : OEnv → OEnv) (gb : OEnv → SR) : OEnv → SR := fun ρ => (hi ρ).sr ρ fun ds => forL kt kl gb ds (T ρ)
theorem vs_forK {body : List Stmt} {sl : List Nat} {kt : PyData → R (List (Nat × PyData))} {hi : OEnv → R (List PyData)} {T kl : OEnv → OEnv} {gb : OEnv → SR} (hp : PassesOwn (model X.prog X.w) X.A X.env X.xe) (hc : X.calm = true) (h1 : VIX X W tg iter hi) (h2 : VG X tg sl kt) (hT : ∀ F0 H0 F H σ ρ, RS X.K F0 H0 F H σ ρ → RS X.K F0 H0 F H σ (T ρ)) (hk : EnvT X.K kl) (h3 : VSs X W body gb)
    (hs : ∀ x, foldedSetIterable iter X.env x = pure x := by intro _; rfl) : VS X W (.For tg iter body [] pos) (sForK hi T kt kl gb) := by
  obtain ⟨wi, pi, qi⟩ := h1.ex
  obtain ⟨tg', pg, qg⟩ := h2.ex
  obtain ⟨tb, pb, qb⟩ := h3.ex
  refine ⟨_, ps_for hp hc pi pg pb hs, fun D σ H F0 H0 F ρ r pr => ?_⟩
  refine qi σ H F0 H0 F ρ _ r (sr_pst r pr fun ds pd J H1 F1 ex wk => ?_)
  have r1 := hT _ _ _ _ _ _ (r.ext ex)
  refine ⟨fun i m σ H => m = ds.length - i ∧ i ≤ ds.length ∧ ∃ F' ρ', RS X.K F0 H0 F' H σ ρ' ∧ Same F1 F' ∧ SPst X W F0 H0 D (forL kt kl gb (ds.drop i) ρ'), ⟨ds.length, by simp, Nat.zero_le _, F1, T ρ, r1, Same.refl _, by simpa using pd⟩, ?_⟩
  rintro i m σ' Hi ⟨rfl, hi', F', ρ', r', s1, pd'⟩
  obtain ⟨rs, b1, b2⟩ := r'.self
  have fh : Same F' Hi := by obtain ⟨_, _, hs⟩ := rs.ex; exact hs.fh
  by_cases hlt : i < ds.length
  · refine .inr ⟨wk.go i Hi (s1.trans fh) hlt, fun σ' H => i + 1 ≤ ds.length ∧ ∃ F' ρ', RS X.K F0 H0 F' H σ' ρ' ∧ Same F1 F' ∧ SPst X W F0 H0 D (forL kt kl gb (ds.drop (i + 1)) ρ'), fun σ'' H'' q => ⟨ds.length - (i + 1), by omega, rfl, q⟩, fun x H' y => ?_⟩
    obtain ⟨d, F2, e2, E2, dx⟩ := wk.yld i Hi x H' F' s1 fh hlt y
    have hdrop : ds.drop i = d :: ds.drop (i + 1) := by
      obtain ⟨q1, q2⟩ := List.getElem?_eq_some_iff.mp e2
      rw [List.drop_eq_getElem_cons q1, q2]
    rw [hdrop] at pd'
    simp only [forL] at pd'
    generalize hkd : kt d = rk at pd'
    cases rk with
    | stuck => exact pd'.elim
    | err c => exact pd'.elim
    | ok bs =>
      simp only at pd'
      refine qg x σ' H' F2 d _ E2.bh dx ⟨bs, hkd, fun bv hb => ?_⟩
      have r2 : RS X.K F' H0 F2 H' (setsV σ' bv) (setsO ρ' bs) := RS.sets (rs.ext E2) hb
      have again : ∀ {σ3 : L2.St} {H3 F3 : Hp} {ρ3 : OEnv}, RS X.K F' H0 F3 H3 σ3 ρ3 → SPst X W F0 H0 D (forL kt kl gb (ds.drop (i + 1)) (kl ρ3)) → i + 1 ≤ ds.length ∧ ∃ F' ρ', RS X.K F0 H0 F' H3 σ3 ρ' ∧ Same F1 F' ∧ SPst X W F0 H0 D (forL kt kl gb (ds.drop (i + 1)) ρ') := fun {σ3 H3 F3 ρ3} r3 p3 => by
        obtain ⟨F4, r4⟩ := hk F' H0 F3 H3 σ3 ρ3 r3
        refine ⟨hlt, F4, kl ρ3, r4.rebase b1 b2, s1.trans ?_, p3⟩
        obtain ⟨_, _, hs⟩ := r4.ex
        exact hs.f0
      refine qb _ (setsV σ' bv) H' F' H0 F2 (setsO ρ' bs) r2 ?_
      generalize hgb : gb (setsO ρ' bs) = rg at pd'
      cases rg with
      | stuck => exact pd'.elim
      | err c ρ3 => exact fun σ3 H3 F3 r3 => pd' σ3 H3 F3 (r3.rebase b1 b2)
      | nx ρ3 => exact fun σ3 H3 F3 r3 => again r3 pd'
      | ct ρ3 => exact fun σ3 H3 F3 r3 => again r3 pd'
      | bk ρ3 => exact fun σ3 H3 F3 r3 => pd' σ3 H3 F3 (r3.rebase b1 b2)
      | rt o _ => exact fun v σ3 H3 F3 r3 => pd' v σ3 H3 F3 (r3.rebase b1 b2)
  · have e : i = ds.length := by omega
    subst e
    refine .inl ⟨wk.stop Hi (s1.trans fh), ?_⟩
    rw [List.drop_length] at pd'
    exact pd' σ' Hi F' r'

theorem rs_kill (K : PySem.W.Frag) : ∀ (is : List Nat) F0 H0 F H σ ρ, RS K F0 H0 F H σ ρ → RS K F0 H0 F H σ (kill is ρ)
  | [], _, _, _, _, _, _, r => r
  | i :: is, F0, H0, F, H, σ, ρ, r => rs_kill K is F0 H0 F H σ (ρ.set i none) (r.drop i)

def sPar (i j : Nat) (h h' : OEnv → R PyData) : OEnv → SR := fun ρ => (h ρ).sr ρ fun d => (h' ρ).sr ρ fun e => .nx ((ρ.set i (some (.fz d))).set j (some (.fz e)))
end

def spO (K : PySem.W.Frag) (mg : Str → Option Value) (n : Nat) (g : List PyData → R O) : Sp := fun vs H Q E => vs.length = n ∧ ∃ ds B, Same B H ∧ IsAll K B vs ds ∧
  match g ds with
  | .stuck => False
  | .err c => ∀ H', Same H H' → ∃ C, mg c = some (.ref C) ∧ E (.ref C) none H'
  | .ok o => ∀ v H' F', RV K B H F' H' v o → Q v H'
def startO (n : Nat) (ds : List PyData) : OEnv := ds.map (fun d => some (.fz d)) ++ List.replicate (n - ds.length) none
def runB (n : Nat) (g : OEnv → SR) (ds : List PyData) : R O := match g (startO n ds) with
  | .rt o _ => .ok o
  | .nx _ => .ok (.fz .none)
  | .err c _ => .err c
  | _ => .stuck
theorem slots_start {K : PySem.W.Frag} {B H : Hp} : ∀ {ds : List PyData} {vs : List V} (m : Nat), IsAll K B vs ds → Slots K B H (vs.map some ++ List.replicate m none) (ds.map (fun d => some (O.fz d)) ++ List.replicate m none) []
  | [], _, m, h => by
    cases h
    induction m with
    | zero => exact .nil
    | succ m ih => exact .un ih
  | d :: ds, _, m, h => by
    cases h with
    | cons h1 h2 => exact .ow (fp := []) (.fz h1) (slots_start m h2)
section
variable {P : Program} {w : World} {K : PySem.W.Frag} {mg : Str → Option Value} {base : Heap}
theorem fn_vl {x qual : Str} {st : Stmt} {f : Addr} {fd : FuncData} {N ps : List Str} {k n : Nat} {g : OEnv → SR} (F : Fun K x qual st f fd) (S : FnScope N ps (defScope st)) (hn : n = ps.length)
    (hb : ∀ (cdv : Value) (A : Around) (outer : List Env) (s : Shared) (H : Hp) (E : XK), Room k (A.deeper (envOfC qual (defScope st) s.heap.objs.size f cdv)) →
      VSs (cxOf (L2.CX P w) P w K mg base N qual (defScope st) f cdv A outer s H E) (fun cls d _ H => E cls d H) (defBody st) g) :
    FnOk P w K mg base (L2.CX P w) (k + 1) f fd ps (spO K mg n (runB N.length g)) := by
  refine F.okX S (fun vs H Q E h => by rw [h.1, hn]) (fun cdv A outer s H vs Q E hr h => ?_)
  obtain ⟨hl, ds, B, sb, ia, post⟩ := h
  obtain ⟨t, p, q⟩ := (hb cdv A outer s H E hr).ex
  refine ⟨t, p, q _ _ H B H B (startO N.length ds) ?_ ?_⟩
  · refine ⟨[], ?_, List.nodup_nil, fun a ha => (nomatch ha), sb, Same.refl _, Same.refl _, fun a x y => absurd x y⟩
    unfold L2.start startO
    rw [IsAll.len ia]
    exact slots_start _ ia
  · unfold runB at post
    generalize g (startO N.length ds) = r at post ⊢
    cases r with
    | stuck => exact post
    | err c ρ =>
      intro σ' H' F' x
      obtain ⟨_, _, hs⟩ := x.ex
      exact post H' hs.h0
    | nx ρ =>
      intro σ' H' F' x
      obtain ⟨fps, _, hs⟩ := x.ex
      exact post .non H' F' ⟨[], .fz .non, hs.sub (List.nil_sublist _)⟩
    | bk ρ => exact post.elim
    | ct ρ => exact post.elim
    | rt o _ => exact fun v σ' H' F' x => post v H' F' x.head
def frz (g : List PyData → R O) : List PyData → R PyData := fun ds => (g ds).bind fun o => .ok o.data
theorem fn_frz {f : Addr} {fd : FuncData} {ps : List Str} {k n : Nat} {g : List PyData → R O} (F : FnOk P w K mg base (L2.CX P w) k f fd ps (spO K mg n g)) : FnOk P w K mg base (L2.CX P w) k f fd ps (spV K mg n (frz g)) := by
  refine F.imp fun vs H Q E h => ?_
  obtain ⟨hl, ds, B, sb, ia, post⟩ := h
  refine ⟨hl, ds, B, sb, ia, ?_⟩
  unfold frz at post
  generalize g ds = r at post ⊢
  cases r with
  | stuck => exact post
  | err c => exact post
  | ok o =>
    intro v H' F' rv
    obtain ⟨fp, ow, hs⟩ := rv
    obtain ⟨b1, b2⟩ := hs.bor
    refine post v H' (bor F' H' fp) ⟨hs.h0, hs.f0.trans b1, b2, fun a h1 h2 => ?_⟩ (ow.is b1 fun a ha => bor_own ha)
    by_cases ha : a ∈ fp
    · exact .inl (hs.ow a ha).2
    · rw [bor_not ha] at h2; exact hs.nw a h1 h2
end
end VL

namespace VL
open PySem PySem.Spec PyProof.Rows L2

def tst (f : PEnv → R PyData) : PEnv → R Bool := fun ρ => (f ρ).bind tbool
def tnn (f : PEnv → R PyData) : PEnv → R Bool := fun ρ => (v1 visnone f ρ).bind fun d => (tbool d).bind fun b => .ok (!b)
def ttr (f : PEnv → R PyData) : PEnv → R Bool := fun ρ => (f ρ).bind vtruth
def vnn (f : PEnv → R PyData) : PEnv → R PyData := v1 (fun d => (visnone d).bind fun b => match b with | .bool b => .ok (.bool (!b)) | _ => .stuck) f
def vpart (f : PEnv → R PyData) : PEnv → R (Option Int) := fun ρ => (f ρ).bind oInt
def vnopart : PEnv → R (Option Int) := fun _ => .ok none
def seq (g h : OEnv → SR) : OEnv → SR := fun ρ => (g ρ).seq h
def pre (T : OEnv → OEnv) (g : OEnv → SR) : OEnv → SR := fun ρ => g (T ρ)
def tB (t : PEnv → R Bool) : OEnv → R Bool := fun ρ => t (viewB ρ)
def ixF (f : PEnv → R (List PyData)) : OEnv → R (List PyData) := fun ρ => f (viewF ρ)
def sNx : OEnv → SR := fun ρ => .nx ρ
def sBk : OEnv → SR := fun ρ => .bk ρ
def sCt : OEnv → SR := fun ρ => .ct ρ
def sRetN : OEnv → SR := fun ρ => .rt (.fz .none) ρ
def vNotInT : PyData → PyData → R PyData
  | d, .tuple ds => if SeqAt.shaped d = true ∧ SeqAt.shaped (.tuple ds) = true then .ok (.bool (!ds.any fun z => PyData.eqv z d)) else .stuck
  | _, _ => .stuck
def rInTD (K : PySem.W.Frag) (neg : Bool) : R2 := fun x y H Q => ∃ d ds, Dp K H x d ∧ Dp K H y (.tuple ds) ∧ SeqAt.shaped d = true ∧ SeqAt.shaped (.tuple ds) = true ∧ Q (.bl (if neg then !ds.any fun z => PyData.eqv z d else ds.any fun z => PyData.eqv z d)) H
theorem roomT {A : Around} {d : PyData} {ds : List PyData} (h : SeqAt.shaped d = true) (hu : A.units + 65 < cLine) : A.units + 1 + min (PyData.depthAll ds) d.depth < cLine := by
  have := SeqAt.depth_of_shaped h
  have := Nat.min_le_right (PyData.depthAll ds) d.depth
  omega
theorem op_notInTD {X : Cx} (hu : X.A.units + 65 < cLine) : OpR X (compareOp .NotIn) (rInTD X.K true) := by
  intro pins t σ G x y vv uu Q J rX rY hh
  obtain ⟨d, ds, hd, he, sd, se, q⟩ := hh
  obtain ⟨as, k1⟩ := Dp.reads J d x vv hd rX
  obtain ⟨bs, k2⟩ := Dp.reads J (.tuple ds) y uu he rY
  exact SeqAt.notIn_tuple_reads k2 k1 (SeqAt.canLay_of_shaped se) (SeqAt.canLay_of_shaped sd) (roomT sd hu) ⟨.bl _, G, J, rfl, q⟩
end VL

namespace VL
open PySem PySem.Spec PyProof.Rows L2
section
variable {X : Cx} {W : WX} {a b c e tg iter : Expr} {es : List Expr} {st : Stmt} {sts rest : List Stmt} {pos : Pos} {g h : OEnv → SR} {fa fb fc : PEnv → R PyData} {ft fu : PEnv → R Bool} {k : Nat}
theorem qs_nil : VSs X W [] sNx := vss_nil
theorem qs_cons (h1 : VS X W st g) (h2 : VSs X W rest h) : VSs X W (st :: rest) (seq g h) := vss_cons h1 h2
theorem qs_t {T : OEnv → OEnv} (hT : EnvT X.K T) (h1 : VSs X W sts g) : VSs X W sts (pre T g) := vss_t (g := g) (T := T) hT h1
theorem qx_T (h : VT X W e ft) : VXT X W e (tB ft) := vxT h
theorem qix_F {f : PEnv → R (List PyData)} (h : VI X W tg iter f) : VIX X W tg iter (ixF f) := vix_F h
theorem qlt (ha : VE X W a fa) (hb : VE X W b fb) : VT X W (.Compare a [.Lt] [b] pos) (tst (v2 vlt fa fb)) := vlt_t ha hb
theorem qgt (ha : VE X W a fa) (hb : VE X W b fb) : VT X W (.Compare a [.Gt] [b] pos) (tst (v2 vgt fa fb)) := vgt_t ha hb
theorem qge (ha : VE X W a fa) (hb : VE X W b fb) : VT X W (.Compare a [.GtE] [b] pos) (tst (v2 vge fa fb)) := vge_t ha hb
theorem qeq (hu : X.A.units + 65 < cLine) (ha : VE X W a fa) (hb : VE X W b fb) : VT X W (.Compare a [.Eq] [b] pos) (tst (v2 veq fa fb)) := veq_t hu ha hb
theorem qne (hu : X.A.units + 65 < cLine) (ha : VE X W a fa) (hb : VE X W b fb) : VT X W (.Compare a [.NotEq] [b] pos) (tst (v2 vne fa fb)) := vne_t hu ha hb
theorem qtruth (h : VE X W a fa) (he : ∀ whole, isTrue a X.env whole = (do let v ← whole; standAt a.pos; holding [v] (truthy v)) := by intro _; rfl) : VT X W a (ttr fa) := vt_truth h he
theorem qo_some (h : VE X W a fa) : VO1 X W (some a) (vpart fa) := vo_some h
theorem qo_none : VO1 X W none vnopart := vo_none
theorem rule_notInT : Rule2 X W (rInTD X.K true) vNotInT := fun d e x y σ H B Q s sm dx dy p => by
  cases e <;> first | (cases d <;> exact p.elim) | skip
  simp only [vNotInT] at p
  split at p
  · rename_i hf
    exact ⟨_, _, (Is.mono s dx).dp (SeqAt.canLay_of_shaped hf.1), (Is.mono s dy).dp (SeqAt.canLay_of_shaped hf.2), hf.1, hf.2, p _ H B (.refl s) (.bl _)⟩
  · exact p.elim
theorem notInT_bool {d e z : PyData} (h : vNotInT d e = .ok z) : ∃ k, z = .bool k := by
  cases e <;> first | (cases d <;> (cases h; done)) | skip
  simp only [vNotInT] at h
  split at h <;> cases h
  exact ⟨_, rfl⟩
theorem qnotinT (hu : X.A.units + 65 < cLine) (ha : VE X W a fa) (hb : VE X W b fb) (hm : behindInMarks .NotIn b = false := by with_unfolding_all rfl) : VT X W (.Compare a [.NotIn] [b] pos) (tst (v2 vNotInT fa fb)) := vt2 (fun p q => pt_cmpR (op_notInTD hu) p q hm) rule_notInT (fun _ _ _ h => notInT_bool h) ha hb
end
theorem takes0 {X : Cx} : Takes X W0 := fun u s' ⟨_, _, _, _, _, _, _, _, _, _, _, _, _, _, _, _, w⟩ => w.elim
section
variable {X : Cx} {W : WX} {f : PEnv → R (List PyData)} {t : TE}
theorem mode_Z (q : ∀ σ H B ρ Q, Same B H → RF X.K B σ ρ → Pst X W σ H (KFr X B H Q) (f ρ) → t σ H Q) : ∀ σ H F0 H0 F ρ Q, RS X.K F0 H0 F H σ ρ → Pst X W σ H (KO X F0 H0 σ Q) (oX (exF (vlistOf f)) ρ) → t σ H Q := fun σ H F0 H0 F ρ Q r pr => by
  have r0 := r
  obtain ⟨fps, s, hs⟩ := r.ex
  refine q σ H F _ Q hs.fh s.rfF ?_
  unfold oX exF vlistOf at pr
  generalize f (viewF ρ) = rr at pr ⊢
  cases rr with
  | stuck => exact pr
  | err c => exact pr
  | ok ds =>
    refine kfr_of fun v H' F' ex dv => ?_
    obtain ⟨fps, s, hs⟩ := (r0.ext ex).ex
    exact pr v H' F' ⟨fps, .ow (.fz dv) s, hs⟩
end
section
variable {X : Cx} {W : WX} {a b c e tg iter elt : Expr} {ifs : List Expr} {pos : Pos} {scope : Scope} {own : List (Str × Nat)} {sl ownl : List Nat} {fi : PEnv → R (List D)} {kt : D → R (List (Nat × D))} {ft : PEnv → R Bool} {fe : PEnv → R D} {k : Nat}
theorem qcomp (hc : X.calm = true) (hN : X.N.Nodup) (hi : VI X W tg iter fi) (ok : BlkOk X.N X.env.scope scope own) (ho : own.map (·.2) = ownl)
    (hg : ∀ (s : Shared) (H : Hp) (C : Addr) (cl : List (Str × Addr)) (fp : List Addr), VG (X.blk s H scope (compEnvC scope cl C X.env) fp) tg sl kt)
    (hso : ∀ i ∈ sl, i ∈ ownl)
    (ht : ∀ (s : Shared) (H : Hp) (C : Addr) (cl : List (Str × Addr)) (fp : List Addr), VTs (X.blk s H scope (compEnvC scope cl C X.env) fp) W0 ifs ft)
    (he : ∀ (s : Shared) (H : Hp) (C : Addr) (cl : List (Str × Addr)) (fp : List Addr), VE (X.blk s H scope (compEnvC scope cl C X.env) fp) W0 elt fe) (hs : ∀ x, foldedSetIterable iter X.env x = pure x := by intro _; rfl) :
    VFr X W (.ListComp elt [⟨tg, iter, ifs, 0⟩] scope pos) (vcomp ownl fi kt ft fe) := by
  subst ho
  exact vcomp_ hc hN hi ok hg hso ht he hs
theorem qsetLc {cpos : Pos} {x : Str} {py : Pos} {hh : OEnv → R (O × OEnv)} (i : Nat) (mode : ∀ {t : TE}, (∀ σ H B ρ Q, Same B H → RF X.K B σ ρ → Pst X W σ H (KFr X B H Q) (vcomp ownl fi kt ft fe ρ) → t σ H Q) → ∀ σ H F0 H0 F ρ Q, RS X.K F0 H0 F H σ ρ → Pst X W σ H (KO X F0 H0 σ Q) (hh ρ) → t σ H Q)
    (hc : X.calm = true) (hN : X.N.Nodup) (hy : X.N[i]? = some x) (hyl : X.env.scope.names.lookup x = some .local) (hsw : swapsWith (.ListComp elt [⟨tg, iter, ifs, 0⟩] scope cpos) (some (.Name x py)) pos.line X.env = pure true)
    (hi : VI X W tg iter fi) (ok : BlkOk X.N X.env.scope scope own) (ho : own.map (·.2) = ownl)
    (hg : ∀ (s : Shared) (H : Hp) (C : Addr) (cl : List (Str × Addr)) (fp : List Addr), VG (X.blk s H scope (compEnvC scope cl C X.env) fp) tg sl kt)
    (hso : ∀ i ∈ sl, i ∈ ownl)
    (ht : ∀ (s : Shared) (H : Hp) (C : Addr) (cl : List (Str × Addr)) (fp : List Addr), VTs (X.blk s H scope (compEnvC scope cl C X.env) fp) W0 ifs ft)
    (hee : ∀ (s : Shared) (H : Hp) (C : Addr) (cl : List (Str × Addr)) (fp : List Addr), VE (X.blk s H scope (compEnvC scope cl C X.env) fp) W0 elt fe) (hs : ∀ x, foldedSetIterable iter X.env x = pure x := by intro _; rfl) :
    VS X W (.Assign [.Name x py] (.ListComp elt [⟨tg, iter, ifs, 0⟩] scope cpos) pos) (sSet i hh) := by
  subst ho
  exact vs_setLc i mode hc hN hy hyl hsw hi ok hg hso ht hee hs
theorem ints_is {K : PySem.W.Frag} {F : Hp} : ∀ ns : List Int, IsAll K F (ns.map V.int) (ns.map PyData.int)
  | [] => .nil
  | n :: ns => .cons (.int n) (ints_is ns)
theorem rgV_is {K : PySem.W.Frag} {F : Hp} (i j : Int) : IsAll K F (rgV i j) (rangeD i (j - i).toNat) := by
  have := ints_is (K := K) (F := F) ((List.range (j - i).toNat).map fun n : Nat => i + (n : Int))
  unfold rgV rangeD
  rw [List.map_map, List.map_map] at this
  exact this
theorem rgOk_of {i j : Int} (h : rngOk i j) : RgOk i j := by
  obtain ⟨h1, h2, h3, h4, h5⟩ := h
  exact ⟨by omega, by omega, by omega, by omega, by omega⟩
theorem qlist_rg2 {p p2 pos2 : Pos} {fa fb : PEnv → R PyData} (hc : X.calm = true) (hm : X.mg "list" = none) (hm2 : X.mg "range" = none) (ha : VE X W a fa) (hb : VE X W b fb) (hg : Gl X "list" := by rfl) (hg2 : Gl X "range" := by rfl)
    (n1 : starEach [a, b] X.env = (false, eval a X.env) :: starEach [b] X.env := by rfl) (n2 : starEach [b] X.env = (false, eval b X.env) :: starEach [] X.env := by rfl) (hp : (backTo pos2 (starEach [b] X.env)).any (·.1) = false := by rfl)
    (n3 : starEach [.Call (.Name "range" p2) [a, b] [] pos2] X.env = (false, eval (.Call (.Name "range" p2) [a, b] [] pos2) X.env) :: starEach [] X.env := by rfl) : VFr X W (.Call (.Name "list" p) [.Call (.Name "range" p2) [a, b] [] pos2] [] pos) (i2 vrange2 fa fb) := by
  obtain ⟨t, pt, qt⟩ := ha.ex
  obtain ⟨t2, pt2, qt2⟩ := hb.ex
  refine ⟨_, pe_listRg hc hg hm (prg_2 hg2 hm2 pt pt2 n1 n2 hp) n3, fun σ H B ρ Q s rf pr => ?_⟩
  refine two qt qt2 s rf pr fun d e x y H' B' ex sm dx dy pg => ?_
  cases dx <;> first | (cases dy <;> exact pg.elim) | skip
  cases dy <;> first | exact pg.elim | skip
  rename_i i j
  simp only [vrange2] at pg
  split at pg
  · rename_i hz
    refine ⟨i, j, rfl, rfl, rgOk_of hz, fun q hq => ?_⟩
    have pg : KFr X B H Q (rangeD i (j - i).toNat) := pg
    exact pg q _ _ B' (ex.trans (Ext.own ex.bh hq)) upd_same (Same.free ex.hh hq) (Same.free ex.bh hq) (rgV_is i j)
  · exact pg.elim
end
def spL : Sp := fun vs H Q _ => ∃ (a : Addr) (ns : List Int), vs = [.ref a] ∧ ns.length ≤ 63 ∧ Rd H a (.lst (ns.map V.int)) ∧ ∀ H', Same H H' → Q (.bl true) H'
def noLst (K : PySem.W.Frag) : Bool := K.all fun p => match p.2.cls with | .type "list" => false | _ => true
theorem lookup_all {K : PySem.W.Frag} {p : Addr × Obj → Bool} : ∀ {K : List (Addr × Obj)} {a : Addr} {o : Obj}, K.all p = true → K.lookup a = some o → ∃ b, p (b, o) = true
  | [], a, o, _, e => by cases e
  | (b, u) :: K, a, o, h, e => by
    rw [List.all_cons, Bool.and_eq_true] at h
    rw [List.lookup_cons] at e
    split at e
    · cases e; exact ⟨b, h.1⟩
    · exact lookup_all (K := K) h.2 e
theorem spL_of {K : PySem.W.Frag} {H : Hp} {a : Addr} {ns : List Int} (hl : ns.length ≤ 63) (hS : SqL K H a (ns.map V.int)) (hK : noLst K = true) : spL [.ref a] H (fun v _ => v = .bl true) fun _ _ _ => False := by
  rcases hS with h | ⟨o, its, n, h1, h2, _⟩
  · exact ⟨a, ns, rfl, hl, h, fun _ _ => rfl⟩
  · obtain ⟨b, hb⟩ := lookup_all (K := K) (p := fun p => match p.2.cls with | .type "list" => false | _ => true) hK h1
    simp only [h2] at hb
    cases hb
theorem fn_law {P : Program} {w : World} {K : PySem.W.Frag} {mg : Str → Option Value} {base : Heap} {f : Addr} {fd : FuncData} {ps : List Str} {k : Nat} {g : List PyData → R PyData} (F : FnOk P w K mg base (L2.CX P w) k f fd ps (spV K mg 1 g))
    (math : ∀ ns : List Int, ns.length ≤ 63 → g [.list (ns.map PyData.int)] = .ok (.bool true)) : FnOk P w K mg base (L2.CX P w) k f fd ps spL := by
  refine F.imp fun vs H Q E q => ?_
  obtain ⟨a, ns, rfl, hl, hr, post⟩ := q
  refine ⟨rfl, [.list (ns.map PyData.int)], H, Same.refl H, .cons (.lst hr (ints_is ns)) .nil, ?_⟩
  rw [math ns hl]
  intro v H' B' ex dv
  cases dv
  exact post H' ex.hh
theorem cx_false {P : Program} {w : World} {H : Hp} {s : Shared} {e : Value} {s' : Shared} (h : L2.CX P w [] H s (fun _ _ _ => False) e s') : False := by
  obtain ⟨_, _, _, _, _, _, _, _, _, _, _, _, h⟩ := h
  exact h
end VL

namespace VL
open PySem PySem.Spec PyProof.Rows

def fin : SR → R PyData
  | .rt o _ => .ok o.data
  | .nx _ => .ok .none
  | .err c _ => .err c
  | _ => .stuck
@[simp] theorem fin_rt (o : O) (ρ : OEnv) : fin (.rt o ρ) = .ok o.data := rfl
@[simp] theorem fin_nx (ρ : OEnv) : fin (.nx ρ) = .ok .none := rfl
@[simp] theorem fin_err (c : Str) (ρ : OEnv) : fin (.err c ρ) = .err c := rfl
theorem frz_fin (n : Nat) (g : OEnv → SR) (ds : List PyData) : frz (runB n g) ds = fin (g (startO n ds)) := by
  unfold frz runB
  cases g (startO n ds) <;> rfl
@[simp] theorem seq_ap (g h : OEnv → SR) (ρ : OEnv) : seq g h ρ = (g ρ).seq h := rfl
@[simp] theorem pre_ap (T : OEnv → OEnv) (g : OEnv → SR) (ρ : OEnv) : pre T g ρ = g (T ρ) := rfl
@[simp] theorem tB_ap (t : PEnv → R Bool) (ρ : OEnv) : tB t ρ = t (viewB ρ) := rfl
@[simp] theorem ixF_ap (t : PEnv → R (List PyData)) (ρ : OEnv) : ixF t ρ = t (viewF ρ) := rfl
@[simp] theorem sRet_ap (h : OEnv → R (O × OEnv)) (ρ : OEnv) : sRet h ρ = (h ρ).sr ρ fun p => .rt p.1 p.2 := rfl
@[simp] theorem sSet_ap (i : Nat) (h : OEnv → R (O × OEnv)) (ρ : OEnv) : sSet i h ρ = (h ρ).sr ρ fun p => .nx (p.2.set i (some p.1)) := rfl
@[simp] theorem sExpr_ap (h : OEnv → R (O × OEnv)) (ρ : OEnv) : sExpr h ρ = (h ρ).sr ρ fun p => .nx p.2 := rfl
@[simp] theorem sIf_ap (t : OEnv → R Bool) (g h : OEnv → SR) (ρ : OEnv) : sIf t g h ρ = (t ρ).sr ρ fun b => if b then g ρ else h ρ := rfl
@[simp] theorem sNx_ap (ρ : OEnv) : sNx ρ = .nx ρ := rfl
@[simp] theorem sBk_ap (ρ : OEnv) : sBk ρ = .bk ρ := rfl
@[simp] theorem sCt_ap (ρ : OEnv) : sCt ρ = .ct ρ := rfl
@[simp] theorem sRetN_ap (ρ : OEnv) : sRetN ρ = .rt (.fz .none) ρ := rfl
@[simp] theorem oX_ap (h : OEnv → R PyData) (ρ : OEnv) : oX h ρ = (h ρ).bind fun d => .ok (.fz d, ρ) := rfl
@[simp] theorem exF_ap (f : PEnv → R PyData) (ρ : OEnv) : exF f ρ = f (viewF ρ) := rfl
@[simp] theorem exB_ap (f : PEnv → R PyData) (ρ : OEnv) : exB f ρ = (f (viewB ρ)).bind lfok := rfl
@[simp] theorem oFrF_ap (f : PEnv → R (List PyData)) (ρ : OEnv) : oFrF f ρ = (f (viewF ρ)).bind fun ds => .ok (.lst (ds.map O.fz), ρ) := rfl
@[simp] theorem oFrB_ap (f : PEnv → R (List PyData)) (ρ : OEnv) : oFrB f ρ = (f (viewB ρ)).bind fun ds => if lfs ds then .ok (.lst (ds.map O.fz), ρ) else .stuck := rfl
@[simp] theorem sPar_ap (i j : Nat) (h h' : OEnv → R PyData) (ρ : OEnv) : sPar i j h h' ρ = (h ρ).sr ρ fun d => (h' ρ).sr ρ fun e => .nx ((ρ.set i (some (.fz d))).set j (some (.fz e))) := rfl
@[simp] theorem sTup_ap (k : PyData → R (List (Nat × PyData))) (h : OEnv → R PyData) (ρ : OEnv) : sTup k h ρ = (h ρ).sr ρ fun d => match k d with | .ok bd => .nx (setsO ρ bd) | _ => .stuck := rfl
@[simp] theorem sFor_ap (hi : OEnv → R (List PyData)) (kt : PyData → R (List (Nat × PyData))) (kl : OEnv → OEnv) (gb : OEnv → SR) (ρ : OEnv) : sFor hi kt kl gb ρ = (hi ρ).sr ρ fun ds => forL kt kl gb ds ρ := rfl
@[simp] theorem sForK_ap (hi : OEnv → R (List PyData)) (T : OEnv → OEnv) (kt : PyData → R (List (Nat × PyData))) (kl : OEnv → OEnv) (gb : OEnv → SR) (ρ : OEnv) : sForK hi T kt kl gb ρ = (hi ρ).sr ρ fun ds => forL kt kl gb ds (T ρ) := rfl
@[simp] theorem lfok_ap (d : PyData) : lfok d = if lf d then .ok d else .stuck := rfl
@[simp] theorem kill_nil (ρ : OEnv) : kill [] ρ = ρ := rfl
@[simp] theorem kill_cons (i : Nat) (is : List Nat) (ρ : OEnv) : kill (i :: is) ρ = kill is (ρ.set i none) := rfl
@[simp] theorem freeze_nil (ρ : OEnv) : freeze [] ρ = ρ := rfl
@[simp] theorem freeze_cons (i : Nat) (is : List Nat) (ρ : OEnv) : freeze (i :: is) ρ = freeze is (freezeAt ρ i) := rfl
@[simp] theorem setsO_nil (ρ : OEnv) : setsO ρ [] = ρ := rfl
@[simp] theorem setsO_cons (b : Nat × PyData) (bs : List (Nat × PyData)) (ρ : OEnv) : setsO ρ (b :: bs) = setsO (ρ.set b.1 (some (.fz b.2))) bs := rfl
@[simp] theorem setsD_nil (ρ : PEnv) : setsD ρ [] = ρ := rfl
@[simp] theorem setsD_cons (b : Nat × PyData) (bs : List (Nat × PyData)) (ρ : PEnv) : setsD ρ (b :: bs) = setsD (ρ.set b.1 (some b.2)) bs := rfl
@[simp] theorem wipeD_nil (ρ : PEnv) : wipeD ρ [] = ρ := rfl
@[simp] theorem wipeD_cons (i : Nat) (is : List Nat) (ρ : PEnv) : wipeD ρ (i :: is) = (wipeD ρ is).set i none := rfl
@[simp] theorem viewF_nil : viewF [] = [] := rfl
@[simp] theorem viewF_none (ρ : OEnv) : viewF (none :: ρ) = none :: viewF ρ := rfl
@[simp] theorem viewF_fz (d : PyData) (ρ : OEnv) : viewF (some (.fz d) :: ρ) = some d :: viewF ρ := rfl
@[simp] theorem viewF_lst (xs : List O) (ρ : OEnv) : viewF (some (.lst xs) :: ρ) = none :: viewF ρ := rfl
@[simp] theorem viewB_nil : viewB [] = [] := rfl
@[simp] theorem viewB_none (ρ : OEnv) : viewB (none :: ρ) = none :: viewB ρ := rfl
@[simp] theorem viewB_some (o : O) (ρ : OEnv) : viewB (some o :: ρ) = some o.data :: viewB ρ := rfl
@[simp] theorem v2_ap (g : D → D → R D) (fa fb : PEnv → R D) (ρ : PEnv) : v2 g fa fb ρ = (fa ρ).bind fun d => (fb ρ).bind fun e => g d e := rfl
@[simp] theorem v1_ap (g : D → R D) (fa : PEnv → R D) (ρ : PEnv) : v1 g fa ρ = (fa ρ).bind g := rfl
@[simp] theorem vC_ap (d : D) (ρ : PEnv) : vC d ρ = .ok d := rfl
@[simp] theorem vnn_ap (f : PEnv → R PyData) (ρ : PEnv) : vnn f ρ = (f ρ).bind fun d => .ok (.bool (match d with | .none => false | _ => true)) := by
  unfold vnn v1 visnone
  generalize f ρ = r
  cases r with
  | stuck => rfl
  | err c => rfl
  | ok d => cases d <;> rfl
@[simp] theorem tnn_ap (f : PEnv → R PyData) (ρ : PEnv) : tnn f ρ = (f ρ).bind fun d => .ok (match d with | .none => false | _ => true) := by
  unfold tnn v1 visnone
  generalize f ρ = r
  cases r with
  | stuck => rfl
  | err c => rfl
  | ok d => cases d <;> rfl
@[simp] theorem tst_ap (f : PEnv → R PyData) (ρ : PEnv) : tst f ρ = (f ρ).bind tbool := rfl
@[simp] theorem ttr_ap (f : PEnv → R PyData) (ρ : PEnv) : ttr f ρ = (f ρ).bind vtruth := rfl
@[simp] theorem vpart_ap (f : PEnv → R PyData) (ρ : PEnv) : vpart f ρ = (f ρ).bind oInt := rfl
@[simp] theorem vnopart_ap (ρ : PEnv) : vnopart ρ = .ok none := rfl
@[simp] theorem oInt_int (i : Int) : oInt (.int i) = .ok (some i) := rfl
@[simp] theorem tbool_bool (b : Bool) : tbool (.bool b) = .ok b := rfl
@[simp] theorem tand_ap (f g : PEnv → R Bool) (ρ : PEnv) : tand f g ρ = (f ρ).bind fun b => if b then g ρ else .ok false := rfl
@[simp] theorem tor_ap (f g : PEnv → R Bool) (ρ : PEnv) : tor f g ρ = (f ρ).bind fun b => if b then .ok true else g ρ := rfl
@[simp] theorem tnot_ap (f : PEnv → R Bool) (ρ : PEnv) : tnot f ρ = (f ρ).bind fun b => .ok (!b) := rfl
@[simp] theorem tyes_ap (ρ : PEnv) : tyes ρ = .ok true := rfl
@[simp] theorem vif_ap (t : PEnv → R Bool) (f g : PEnv → R D) (ρ : PEnv) : vif t f g ρ = (t ρ).bind fun b => if b then f ρ else g ρ := rfl
@[simp] theorem vand_ap (f g : PEnv → R D) (ρ : PEnv) : vand f g ρ = (f ρ).bind fun d => (tbool d).bind fun b => if b then g ρ else .ok (.bool false) := rfl
@[simp] theorem vor_ap (f g : PEnv → R D) (ρ : PEnv) : vor f g ρ = (f ρ).bind fun d => (tbool d).bind fun b => if b then .ok (.bool true) else g ρ := rfl
@[simp] theorem vnot_ap (f : PEnv → R D) (ρ : PEnv) : vnot f ρ = (f ρ).bind fun d => (tbool d).bind fun b => .ok (.bool (!b)) := rfl
@[simp] theorem vchain_ap (g g' : D → D → R D) (fa fb fc : PEnv → R D) (ρ : PEnv) : vchain g g' fa fb fc ρ = (fa ρ).bind fun d => (fb ρ).bind fun e => (g d e).bind fun z => (tbool z).bind fun k => if k then (fc ρ).bind fun f => g' e f else .ok (.bool false) := rfl
@[simp] theorem aNil_ap (ρ : PEnv) : aNil ρ = .ok [] := rfl
@[simp] theorem aCons_ap (f : PEnv → R D) (g : PEnv → R (List D)) (ρ : PEnv) : aCons f g ρ = (f ρ).bind fun d => (g ρ).bind fun ds => .ok (d :: ds) := rfl
@[simp] theorem vtup_ap (g : PEnv → R (List D)) (ρ : PEnv) : vtup g ρ = (g ρ).bind fun ds => .ok (.tuple ds) := rfl
@[simp] theorem vlistOf_ap (g : PEnv → R (List D)) (ρ : PEnv) : vlistOf g ρ = (g ρ).bind fun ds => .ok (.list ds) := rfl
@[simp] theorem vapp_ap (g : List D → R D) (f : PEnv → R (List D)) (ρ : PEnv) : vapp g f ρ = (f ρ).bind g := rfl
@[simp] theorem vslice_ap (f : PEnv → R D) (l u : PEnv → R (Option Int)) (ρ : PEnv) : vslice f l u ρ = (f ρ).bind fun d => (l ρ).bind fun lo => (u ρ).bind fun hi => vcut lo hi d := rfl
@[simp] theorem x1_ap (g : PyData → R (List PyData)) (h : OEnv → R PyData) (ρ : OEnv) : x1 g h ρ = (h ρ).bind g := rfl
@[simp] theorem x2_ap (g : PyData → PyData → R (List PyData)) (h h' : OEnv → R PyData) (ρ : OEnv) : x2 g h h' ρ = (h ρ).bind fun d => (h' ρ).bind fun e => g d e := rfl
@[simp] theorem i1_ap (g : PyData → R (List PyData)) (h : PEnv → R PyData) (ρ : PEnv) : i1 g h ρ = (h ρ).bind g := rfl
@[simp] theorem i2_ap (g : PyData → PyData → R (List PyData)) (h h' : PEnv → R PyData) (ρ : PEnv) : i2 g h h' ρ = (h ρ).bind fun d => (h' ρ).bind fun e => g d e := rfl
@[simp] theorem isq_ap (h : PEnv → R PyData) (ρ : PEnv) : isq h ρ = (h ρ).bind seqD := rfl
@[simp] theorem seqD_list (xs : List PyData) : seqD (.list xs) = .ok xs := rfl
@[simp] theorem seqD_tuple (xs : List PyData) : seqD (.tuple xs) = .ok xs := rfl
@[simp] theorem gN_ap (i : Nat) (d : PyData) : gN i d = .ok [(i, d)] := rfl
@[simp] theorem calm_okk {α : Type} (a : α) : (R.ok a).calm = .ok a := rfl
@[simp] theorem calm_ite {α : Type} (p : Prop) [Decidable p] (a b : R α) : (if p then a else b).calm = if p then a.calm else b.calm := by split <;> rfl

@[simp] theorem vadd_int (a b : Int) : vadd (.int a) (.int b) = .ok (.int (a + b)) := rfl
@[simp] theorem vsub_int (a b : Int) : vsub (.int a) (.int b) = .ok (.int (a - b)) := rfl
@[simp] theorem vlt_int (a b : Int) : vlt (.int a) (.int b) = .ok (.bool (decide (a < b))) := rfl
@[simp] theorem vle_int (a b : Int) : vle (.int a) (.int b) = .ok (.bool (decide (a ≤ b))) := rfl
@[simp] theorem vgt_int (a b : Int) : vgt (.int a) (.int b) = .ok (.bool (decide (b < a))) := rfl
@[simp] theorem vge_int (a b : Int) : vge (.int a) (.int b) = .ok (.bool (decide (b ≤ a))) := rfl
@[simp] theorem vneg_int (a : Int) : vneg (.int a) = .ok (.int (-a)) := rfl
theorem vmul_int {a b : Int} (h : IntMulOk a b) : vmul (.int a) (.int b) = .ok (.int (a * b)) := if_pos h
@[simp] theorem vfdiv_int {a b : Int} (h : 0 < b ∧ b < 2 ^ 250) : vfdiv (.int a) (.int b) = .ok (.int (a / b)) := if_pos h
@[simp] theorem vmod_int (a b : Int) : vmod (.int a) (.int b) = if 0 < b then .ok (.int (a % b)) else .stuck := rfl
@[simp] theorem vpow_int {a b : Int} (h : 0 ≤ b ∧ b ≤ 1000 ∧ a.natAbs < 2 ^ 64) : vpow (.int a) (.int b) = .ok (.int (a ^ b.toNat)) := if_pos h
@[simp] theorem veq_int (a b : Int) : veq (.int a) (.int b) = .ok (.bool (decide (a = b))) := by
  unfold veq vEq; simp [SeqAt.shaped, PyData.canLay0, PyData.depth, PyData.eqv, Bool.beq_eq_decide_eq]
@[simp] theorem vne_int (a b : Int) : vne (.int a) (.int b) = .ok (.bool (!decide (a = b))) := by
  unfold vne vEq; simp [SeqAt.shaped, PyData.canLay0, PyData.depth, PyData.eqv, Bool.beq_eq_decide_eq]
theorem veq_str {a b : Str} (ha : PyData.strOk a = true) (hb : PyData.strOk b = true) : veq (.str a) (.str b) = .ok (.bool (decide (a = b))) := by
  unfold veq vEq; simp [SeqAt.shaped, PyData.canLay0, PyData.depth, PyData.eqv, ha, hb, Bool.beq_eq_decide_eq]
theorem vne_str {a b : Str} (ha : PyData.strOk a = true) (hb : PyData.strOk b = true) : vne (.str a) (.str b) = .ok (.bool (!decide (a = b))) := by
  unfold vne vEq; simp [SeqAt.shaped, PyData.canLay0, PyData.depth, PyData.eqv, ha, hb, Bool.beq_eq_decide_eq]
@[simp] theorem veq_bool (a b : Bool) : veq (.bool a) (.bool b) = .ok (.bool (decide (a = b))) := by
  unfold veq vEq; simp [SeqAt.shaped, PyData.canLay0, PyData.depth, PyData.eqv, Bool.beq_eq_decide_eq]
@[simp] theorem vne_bool (a b : Bool) : vne (.bool a) (.bool b) = .ok (.bool (!decide (a = b))) := by
  unfold vne vEq; simp [SeqAt.shaped, PyData.canLay0, PyData.depth, PyData.eqv, Bool.beq_eq_decide_eq]
@[simp] theorem vint1_int (a : Int) : vint1 [.int a] = .ok (.int a) := rfl
@[simp] theorem vint1_bool (a : Bool) : vint1 [.bool a] = .ok (.int (if a then 1 else 0)) := rfl
@[simp] theorem vabs_int (a : Int) : vabs [.int a] = .ok (.int (if a < 0 then -a else a)) := rfl
@[simp] theorem vlen_list (a : List PyData) : vlen [.list a] = .ok (.int a.length) := rfl
@[simp] theorem vlen_tuple (a : List PyData) : vlen [.tuple a] = .ok (.int a.length) := rfl
@[simp] theorem vtuple1_list (a : List PyData) : vtuple1 [.list a] = .ok (.tuple a) := rfl
@[simp] theorem vtuple1_tuple (a : List PyData) : vtuple1 [.tuple a] = .ok (.tuple a) := rfl
@[simp] theorem vlist1_list (a : List PyData) : vlist1 [.list a] = .ok (.list a) := rfl
@[simp] theorem vlist1_tuple (a : List PyData) : vlist1 [.tuple a] = .ok (.list a) := rfl
@[simp] theorem vmax_two (i j : Int) : vmax [.int i, .int j] = .ok (.int (if j > i then j else i)) := rfl
@[simp] theorem vmin_two (i j : Int) : vmin [.int i, .int j] = .ok (.int (if j < i then j else i)) := rfl
@[simp] theorem vtruth_int (i : Int) : vtruth (.int i) = .ok (i != 0) := rfl
@[simp] theorem vtruth_bool (i : Bool) : vtruth (.bool i) = .ok i := rfl
@[simp] theorem vtruth_none : vtruth .none = .ok false := rfl
@[simp] theorem vtruth_list (i : List PyData) : vtruth (.list i) = .ok (!i.isEmpty) := rfl
@[simp] theorem vtruth_tuple (i : List PyData) : vtruth (.tuple i) = .ok (!i.isEmpty) := rfl
@[simp] theorem visnone_none : visnone .none = .ok (.bool true) := rfl
@[simp] theorem visnone_bool (b : Bool) : visnone (.bool b) = .ok (.bool false) := rfl
@[simp] theorem visnone_int (b : Int) : visnone (.int b) = .ok (.bool false) := rfl
@[simp] theorem visnone_str (b : Str) : visnone (.str b) = .ok (.bool false) := rfl
@[simp] theorem visnone_list (b : List PyData) : visnone (.list b) = .ok (.bool false) := rfl
@[simp] theorem visnone_tuple (b : List PyData) : visnone (.tuple b) = .ok (.bool false) := rfl
@[simp] theorem vrange1_int (j : Int) : vrange1 (.int j) = if rngOk 0 j then .ok (rangeD 0 j.toNat) else .stuck := rfl
@[simp] theorem vrange2_int (i j : Int) : vrange2 (.int i) (.int j) = if rngOk i j then .ok (rangeD i (j - i).toNat) else .stuck := rfl
@[simp] theorem venum_list (xs : List PyData) : venum (.list xs) = .ok (enumD xs) := rfl
@[simp] theorem vzip_list (xs ys : List PyData) : vzip (.list xs) (.list ys) = .ok (zipD xs ys) := rfl
@[simp] theorem vrev_list (xs : List PyData) : vrev (.list xs) = .ok xs.reverse := rfl
@[simp] theorem visi_int_none  : visi "int" .none = .ok (.bool false) := rfl
@[simp] theorem visi_int_bool (b : Bool) : visi "int" (.bool b) = .ok (.bool true) := rfl
@[simp] theorem visi_int_int (b : Int) : visi "int" (.int b) = .ok (.bool true) := rfl
@[simp] theorem visi_int_str (b : Str) : visi "int" (.str b) = .ok (.bool false) := rfl
@[simp] theorem visi_int_list (b : List PyData) : visi "int" (.list b) = .ok (.bool false) := rfl
@[simp] theorem visi_int_tuple (b : List PyData) : visi "int" (.tuple b) = .ok (.bool false) := rfl
@[simp] theorem visi_bool_none  : visi "bool" .none = .ok (.bool false) := rfl
@[simp] theorem visi_bool_bool (b : Bool) : visi "bool" (.bool b) = .ok (.bool true) := rfl
@[simp] theorem visi_bool_int (b : Int) : visi "bool" (.int b) = .ok (.bool false) := rfl
@[simp] theorem visi_bool_str (b : Str) : visi "bool" (.str b) = .ok (.bool false) := rfl
@[simp] theorem visi_bool_list (b : List PyData) : visi "bool" (.list b) = .ok (.bool false) := rfl
@[simp] theorem visi_bool_tuple (b : List PyData) : visi "bool" (.tuple b) = .ok (.bool false) := rfl
@[simp] theorem visi_str_none  : visi "str" .none = .ok (.bool false) := rfl
@[simp] theorem visi_str_bool (b : Bool) : visi "str" (.bool b) = .ok (.bool false) := rfl
@[simp] theorem visi_str_int (b : Int) : visi "str" (.int b) = .ok (.bool false) := rfl
@[simp] theorem visi_str_str (b : Str) : visi "str" (.str b) = .ok (.bool true) := rfl
@[simp] theorem visi_str_list (b : List PyData) : visi "str" (.list b) = .ok (.bool false) := rfl
@[simp] theorem visi_str_tuple (b : List PyData) : visi "str" (.tuple b) = .ok (.bool false) := rfl
@[simp] theorem visi_list_none  : visi "list" .none = .ok (.bool false) := rfl
@[simp] theorem visi_list_bool (b : Bool) : visi "list" (.bool b) = .ok (.bool false) := rfl
@[simp] theorem visi_list_int (b : Int) : visi "list" (.int b) = .ok (.bool false) := rfl
@[simp] theorem visi_list_str (b : Str) : visi "list" (.str b) = .ok (.bool false) := rfl
@[simp] theorem visi_list_list (b : List PyData) : visi "list" (.list b) = .ok (.bool true) := rfl
@[simp] theorem visi_list_tuple (b : List PyData) : visi "list" (.tuple b) = .ok (.bool false) := rfl
@[simp] theorem visi_tuple_none  : visi "tuple" .none = .ok (.bool false) := rfl
@[simp] theorem visi_tuple_bool (b : Bool) : visi "tuple" (.bool b) = .ok (.bool false) := rfl
@[simp] theorem visi_tuple_int (b : Int) : visi "tuple" (.int b) = .ok (.bool false) := rfl
@[simp] theorem visi_tuple_str (b : Str) : visi "tuple" (.str b) = .ok (.bool false) := rfl
@[simp] theorem visi_tuple_list (b : List PyData) : visi "tuple" (.list b) = .ok (.bool false) := rfl
@[simp] theorem visi_tuple_tuple (b : List PyData) : visi "tuple" (.tuple b) = .ok (.bool true) := rfl
@[simp] theorem vVar_0 (d : PyData) (ρ : PEnv) : vVar 0 (some d :: ρ) = .ok d := rfl
@[simp] theorem vVar_1 (x0 : Option PyData) (d : PyData) (ρ : PEnv) : vVar 1 (x0 :: some d :: ρ) = .ok d := rfl
@[simp] theorem vVar_2 (x0 x1 : Option PyData) (d : PyData) (ρ : PEnv) : vVar 2 (x0 :: x1 :: some d :: ρ) = .ok d := rfl
@[simp] theorem vVar_3 (x0 x1 x2 : Option PyData) (d : PyData) (ρ : PEnv) : vVar 3 (x0 :: x1 :: x2 :: some d :: ρ) = .ok d := rfl
@[simp] theorem vVar_4 (x0 x1 x2 x3 : Option PyData) (d : PyData) (ρ : PEnv) : vVar 4 (x0 :: x1 :: x2 :: x3 :: some d :: ρ) = .ok d := rfl
@[simp] theorem vVar_5 (x0 x1 x2 x3 x4 : Option PyData) (d : PyData) (ρ : PEnv) : vVar 5 (x0 :: x1 :: x2 :: x3 :: x4 :: some d :: ρ) = .ok d := rfl
@[simp] theorem vVar_6 (x0 x1 x2 x3 x4 x5 : Option PyData) (d : PyData) (ρ : PEnv) : vVar 6 (x0 :: x1 :: x2 :: x3 :: x4 :: x5 :: some d :: ρ) = .ok d := rfl
@[simp] theorem vVar_7 (x0 x1 x2 x3 x4 x5 x6 : Option PyData) (d : PyData) (ρ : PEnv) : vVar 7 (x0 :: x1 :: x2 :: x3 :: x4 :: x5 :: x6 :: some d :: ρ) = .ok d := rfl
@[simp] theorem vVar_8 (x0 x1 x2 x3 x4 x5 x6 x7 : Option PyData) (d : PyData) (ρ : PEnv) : vVar 8 (x0 :: x1 :: x2 :: x3 :: x4 :: x5 :: x6 :: x7 :: some d :: ρ) = .ok d := rfl
@[simp] theorem vVar_9 (x0 x1 x2 x3 x4 x5 x6 x7 x8 : Option PyData) (d : PyData) (ρ : PEnv) : vVar 9 (x0 :: x1 :: x2 :: x3 :: x4 :: x5 :: x6 :: x7 :: x8 :: some d :: ρ) = .ok d := rfl
@[simp] theorem vVar_10 (x0 x1 x2 x3 x4 x5 x6 x7 x8 x9 : Option PyData) (d : PyData) (ρ : PEnv) : vVar 10 (x0 :: x1 :: x2 :: x3 :: x4 :: x5 :: x6 :: x7 :: x8 :: x9 :: some d :: ρ) = .ok d := rfl
@[simp] theorem vVar_11 (x0 x1 x2 x3 x4 x5 x6 x7 x8 x9 x10 : Option PyData) (d : PyData) (ρ : PEnv) : vVar 11 (x0 :: x1 :: x2 :: x3 :: x4 :: x5 :: x6 :: x7 :: x8 :: x9 :: x10 :: some d :: ρ) = .ok d := rfl
@[simp] theorem vVar_12 (x0 x1 x2 x3 x4 x5 x6 x7 x8 x9 x10 x11 : Option PyData) (d : PyData) (ρ : PEnv) : vVar 12 (x0 :: x1 :: x2 :: x3 :: x4 :: x5 :: x6 :: x7 :: x8 :: x9 :: x10 :: x11 :: some d :: ρ) = .ok d := rfl
@[simp] theorem vVar_13 (x0 x1 x2 x3 x4 x5 x6 x7 x8 x9 x10 x11 x12 : Option PyData) (d : PyData) (ρ : PEnv) : vVar 13 (x0 :: x1 :: x2 :: x3 :: x4 :: x5 :: x6 :: x7 :: x8 :: x9 :: x10 :: x11 :: x12 :: some d :: ρ) = .ok d := rfl
@[simp] theorem vVar_14 (x0 x1 x2 x3 x4 x5 x6 x7 x8 x9 x10 x11 x12 x13 : Option PyData) (d : PyData) (ρ : PEnv) : vVar 14 (x0 :: x1 :: x2 :: x3 :: x4 :: x5 :: x6 :: x7 :: x8 :: x9 :: x10 :: x11 :: x12 :: x13 :: some d :: ρ) = .ok d := rfl
@[simp] theorem vVar_15 (x0 x1 x2 x3 x4 x5 x6 x7 x8 x9 x10 x11 x12 x13 x14 : Option PyData) (d : PyData) (ρ : PEnv) : vVar 15 (x0 :: x1 :: x2 :: x3 :: x4 :: x5 :: x6 :: x7 :: x8 :: x9 :: x10 :: x11 :: x12 :: x13 :: x14 :: some d :: ρ) = .ok d := rfl
@[simp] theorem vVar_16 (x0 x1 x2 x3 x4 x5 x6 x7 x8 x9 x10 x11 x12 x13 x14 x15 : Option PyData) (d : PyData) (ρ : PEnv) : vVar 16 (x0 :: x1 :: x2 :: x3 :: x4 :: x5 :: x6 :: x7 :: x8 :: x9 :: x10 :: x11 :: x12 :: x13 :: x14 :: x15 :: some d :: ρ) = .ok d := rfl
@[simp] theorem vVar_17 (x0 x1 x2 x3 x4 x5 x6 x7 x8 x9 x10 x11 x12 x13 x14 x15 x16 : Option PyData) (d : PyData) (ρ : PEnv) : vVar 17 (x0 :: x1 :: x2 :: x3 :: x4 :: x5 :: x6 :: x7 :: x8 :: x9 :: x10 :: x11 :: x12 :: x13 :: x14 :: x15 :: x16 :: some d :: ρ) = .ok d := rfl
@[simp] theorem vVar_18 (x0 x1 x2 x3 x4 x5 x6 x7 x8 x9 x10 x11 x12 x13 x14 x15 x16 x17 : Option PyData) (d : PyData) (ρ : PEnv) : vVar 18 (x0 :: x1 :: x2 :: x3 :: x4 :: x5 :: x6 :: x7 :: x8 :: x9 :: x10 :: x11 :: x12 :: x13 :: x14 :: x15 :: x16 :: x17 :: some d :: ρ) = .ok d := rfl
@[simp] theorem vVar_19 (x0 x1 x2 x3 x4 x5 x6 x7 x8 x9 x10 x11 x12 x13 x14 x15 x16 x17 x18 : Option PyData) (d : PyData) (ρ : PEnv) : vVar 19 (x0 :: x1 :: x2 :: x3 :: x4 :: x5 :: x6 :: x7 :: x8 :: x9 :: x10 :: x11 :: x12 :: x13 :: x14 :: x15 :: x16 :: x17 :: x18 :: some d :: ρ) = .ok d := rfl
@[simp] theorem vVar_20 (x0 x1 x2 x3 x4 x5 x6 x7 x8 x9 x10 x11 x12 x13 x14 x15 x16 x17 x18 x19 : Option PyData) (d : PyData) (ρ : PEnv) : vVar 20 (x0 :: x1 :: x2 :: x3 :: x4 :: x5 :: x6 :: x7 :: x8 :: x9 :: x10 :: x11 :: x12 :: x13 :: x14 :: x15 :: x16 :: x17 :: x18 :: x19 :: some d :: ρ) = .ok d := rfl
@[simp] theorem vVar_21 (x0 x1 x2 x3 x4 x5 x6 x7 x8 x9 x10 x11 x12 x13 x14 x15 x16 x17 x18 x19 x20 : Option PyData) (d : PyData) (ρ : PEnv) : vVar 21 (x0 :: x1 :: x2 :: x3 :: x4 :: x5 :: x6 :: x7 :: x8 :: x9 :: x10 :: x11 :: x12 :: x13 :: x14 :: x15 :: x16 :: x17 :: x18 :: x19 :: x20 :: some d :: ρ) = .ok d := rfl
@[simp] theorem vVar_22 (x0 x1 x2 x3 x4 x5 x6 x7 x8 x9 x10 x11 x12 x13 x14 x15 x16 x17 x18 x19 x20 x21 : Option PyData) (d : PyData) (ρ : PEnv) : vVar 22 (x0 :: x1 :: x2 :: x3 :: x4 :: x5 :: x6 :: x7 :: x8 :: x9 :: x10 :: x11 :: x12 :: x13 :: x14 :: x15 :: x16 :: x17 :: x18 :: x19 :: x20 :: x21 :: some d :: ρ) = .ok d := rfl
@[simp] theorem vVar_23 (x0 x1 x2 x3 x4 x5 x6 x7 x8 x9 x10 x11 x12 x13 x14 x15 x16 x17 x18 x19 x20 x21 x22 : Option PyData) (d : PyData) (ρ : PEnv) : vVar 23 (x0 :: x1 :: x2 :: x3 :: x4 :: x5 :: x6 :: x7 :: x8 :: x9 :: x10 :: x11 :: x12 :: x13 :: x14 :: x15 :: x16 :: x17 :: x18 :: x19 :: x20 :: x21 :: x22 :: some d :: ρ) = .ok d := rfl
@[simp] theorem vVar_24 (x0 x1 x2 x3 x4 x5 x6 x7 x8 x9 x10 x11 x12 x13 x14 x15 x16 x17 x18 x19 x20 x21 x22 x23 : Option PyData) (d : PyData) (ρ : PEnv) : vVar 24 (x0 :: x1 :: x2 :: x3 :: x4 :: x5 :: x6 :: x7 :: x8 :: x9 :: x10 :: x11 :: x12 :: x13 :: x14 :: x15 :: x16 :: x17 :: x18 :: x19 :: x20 :: x21 :: x22 :: x23 :: some d :: ρ) = .ok d := rfl
@[simp] theorem vVar_25 (x0 x1 x2 x3 x4 x5 x6 x7 x8 x9 x10 x11 x12 x13 x14 x15 x16 x17 x18 x19 x20 x21 x22 x23 x24 : Option PyData) (d : PyData) (ρ : PEnv) : vVar 25 (x0 :: x1 :: x2 :: x3 :: x4 :: x5 :: x6 :: x7 :: x8 :: x9 :: x10 :: x11 :: x12 :: x13 :: x14 :: x15 :: x16 :: x17 :: x18 :: x19 :: x20 :: x21 :: x22 :: x23 :: x24 :: some d :: ρ) = .ok d := rfl
@[simp] theorem vVar_26 (x0 x1 x2 x3 x4 x5 x6 x7 x8 x9 x10 x11 x12 x13 x14 x15 x16 x17 x18 x19 x20 x21 x22 x23 x24 x25 : Option PyData) (d : PyData) (ρ : PEnv) : vVar 26 (x0 :: x1 :: x2 :: x3 :: x4 :: x5 :: x6 :: x7 :: x8 :: x9 :: x10 :: x11 :: x12 :: x13 :: x14 :: x15 :: x16 :: x17 :: x18 :: x19 :: x20 :: x21 :: x22 :: x23 :: x24 :: x25 :: some d :: ρ) = .ok d := rfl
@[simp] theorem vVar_27 (x0 x1 x2 x3 x4 x5 x6 x7 x8 x9 x10 x11 x12 x13 x14 x15 x16 x17 x18 x19 x20 x21 x22 x23 x24 x25 x26 : Option PyData) (d : PyData) (ρ : PEnv) : vVar 27 (x0 :: x1 :: x2 :: x3 :: x4 :: x5 :: x6 :: x7 :: x8 :: x9 :: x10 :: x11 :: x12 :: x13 :: x14 :: x15 :: x16 :: x17 :: x18 :: x19 :: x20 :: x21 :: x22 :: x23 :: x24 :: x25 :: x26 :: some d :: ρ) = .ok d := rfl
@[simp] theorem vVar_28 (x0 x1 x2 x3 x4 x5 x6 x7 x8 x9 x10 x11 x12 x13 x14 x15 x16 x17 x18 x19 x20 x21 x22 x23 x24 x25 x26 x27 : Option PyData) (d : PyData) (ρ : PEnv) : vVar 28 (x0 :: x1 :: x2 :: x3 :: x4 :: x5 :: x6 :: x7 :: x8 :: x9 :: x10 :: x11 :: x12 :: x13 :: x14 :: x15 :: x16 :: x17 :: x18 :: x19 :: x20 :: x21 :: x22 :: x23 :: x24 :: x25 :: x26 :: x27 :: some d :: ρ) = .ok d := rfl
@[simp] theorem vVar_29 (x0 x1 x2 x3 x4 x5 x6 x7 x8 x9 x10 x11 x12 x13 x14 x15 x16 x17 x18 x19 x20 x21 x22 x23 x24 x25 x26 x27 x28 : Option PyData) (d : PyData) (ρ : PEnv) : vVar 29 (x0 :: x1 :: x2 :: x3 :: x4 :: x5 :: x6 :: x7 :: x8 :: x9 :: x10 :: x11 :: x12 :: x13 :: x14 :: x15 :: x16 :: x17 :: x18 :: x19 :: x20 :: x21 :: x22 :: x23 :: x24 :: x25 :: x26 :: x27 :: x28 :: some d :: ρ) = .ok d := rfl
def Sm (n : Nat) (a : Int) : Prop := a.natAbs < 2 ^ n
theorem Sm.mono {m n : Nat} {a : Int} (h : Sm m a) (l : m ≤ n) : Sm n a := Nat.lt_of_lt_of_le h (Nat.pow_le_pow_right (by omega) l)
theorem Sm.neg {n : Nat} {a : Int} (h : Sm n a) : Sm n (-a) := by unfold Sm at *; rw [Int.natAbs_neg]; exact h
theorem Sm.add {m : Nat} {a b : Int} (h : Sm m a) (g : Sm m b) : Sm (m + 1) (a + b) := by
  unfold Sm at *
  rw [Nat.pow_succ]
  have := Int.natAbs_add_le a b
  omega
theorem Sm.sub {m : Nat} {a b : Int} (h : Sm m a) (g : Sm m b) : Sm (m + 1) (a - b) := by
  rw [Int.sub_eq_add_neg]; exact h.add g.neg
theorem Sm.mul {m n : Nat} {a b : Int} (h : Sm m a) (g : Sm n b) : Sm (m + n) (a * b) := by
  unfold Sm at *
  rw [Int.natAbs_mul, Nat.pow_add]
  exact Nat.mul_lt_mul'' h g
theorem Sm.bits {n : Nat} {a : Int} (h : Sm n a) : Builtin.Int.intBits a ≤ n := by
  unfold Builtin.Int.intBits
  split
  · omega
  · rename_i h0
    have h1 : a.natAbs ≠ 0 := fun z => h0 (by simp; omega)
    have := (Nat.log2_lt h1).mpr h
    omega
theorem Sm.mulOk {m n : Nat} {a b : Int} (h : Sm m a) (g : Sm n b) (l : m + n ≤ 134217728 := by decide) : IntMulOk a b := by
  have h1 := h.bits
  have h2 := g.bits
  unfold IntMulOk Builtin.Int.intTooBig
  intro z
  rw [Bool.and_eq_true] at z
  have z2 := of_decide_eq_true z.2
  have : (bitsLine : Int) = 134217728 := by unfold bitsLine; decide
  omega
theorem vmul_sm {m n : Nat} {a b : Int} (h : Sm m a) (g : Sm n b) (l : m + n ≤ 134217728 := by decide) : vmul (.int a) (.int b) = .ok (.int (a * b)) := vmul_int (h.mulOk g l)
end VL

namespace VL
open PySem PySem.Spec PyProof.Rows
theorem atI_nat {α : Type} (xs : List α) (k : Nat) : L2.atI xs (k : Int) = xs[k]? := by
  unfold L2.atI L2.ixN
  by_cases h : k < xs.length
  · simp [h]
  · simp [h]
theorem vidx_list {xs : List PyData} {k : Nat} {d : PyData} (h : xs[k]? = some d) : vidx (.list xs) (.int (k : Int)) = .ok d := by
  simp only [vidx, atI_nat, h]
theorem vidx_tuple {xs : List PyData} {k : Nat} {d : PyData} (h : xs[k]? = some d) : vidx (.tuple xs) (.int (k : Int)) = .ok d := by
  simp only [vidx, atI_nat, h]
@[simp] theorem vidx_list_0 (a : PyData) (xs : List PyData) : vidx (.list (a :: xs)) (.int 0) = .ok a := vidx_list (k := 0) rfl
@[simp] theorem vidx_list_1 (a b : PyData) (xs : List PyData) : vidx (.list (a :: b :: xs)) (.int 1) = .ok b := vidx_list (k := 1) rfl
@[simp] theorem vidx_list_2 (a b c : PyData) (xs : List PyData) : vidx (.list (a :: b :: c :: xs)) (.int 2) = .ok c := vidx_list (k := 2) rfl
@[simp] theorem vidx_list_3 (a b c d : PyData) (xs : List PyData) : vidx (.list (a :: b :: c :: d :: xs)) (.int 3) = .ok d := vidx_list (k := 3) rfl
@[simp] theorem vidx_list_4 (a b c d e : PyData) (xs : List PyData) : vidx (.list (a :: b :: c :: d :: e :: xs)) (.int 4) = .ok e := vidx_list (k := 4) rfl
@[simp] theorem vidx_list_5 (a b c d e f : PyData) (xs : List PyData) : vidx (.list (a :: b :: c :: d :: e :: f :: xs)) (.int 5) = .ok f := vidx_list (k := 5) rfl
@[simp] theorem vidx_tuple_0 (a : PyData) (xs : List PyData) : vidx (.tuple (a :: xs)) (.int 0) = .ok a := vidx_tuple (k := 0) rfl
@[simp] theorem vidx_tuple_1 (a b : PyData) (xs : List PyData) : vidx (.tuple (a :: b :: xs)) (.int 1) = .ok b := vidx_tuple (k := 1) rfl
@[simp] theorem vidx_tuple_2 (a b c : PyData) (xs : List PyData) : vidx (.tuple (a :: b :: c :: xs)) (.int 2) = .ok c := vidx_tuple (k := 2) rfl
@[simp] theorem vidx_tuple_3 (a b c d : PyData) (xs : List PyData) : vidx (.tuple (a :: b :: c :: d :: xs)) (.int 3) = .ok d := vidx_tuple (k := 3) rfl
@[simp] theorem vidx_tuple_4 (a b c d e : PyData) (xs : List PyData) : vidx (.tuple (a :: b :: c :: d :: e :: xs)) (.int 4) = .ok e := vidx_tuple (k := 4) rfl
theorem rngOk_nat {n : Nat} (h : n ≤ 16777216) : rngOk 0 (n : Int) := by unfold rngOk; omega
@[simp] theorem vrange1_nat {n : Nat} (h : n ≤ 16777216) : vrange1 (.int (n : Int)) = .ok (rangeD 0 n) := by
  rw [vrange1_int, if_pos (rngOk_nat h)]; simp
theorem sm_of {n : Nat} {a : Int} (h : -(2 ^ n : Int) < a ∧ a < 2 ^ n) : Sm n a := by
  unfold Sm
  have e : ((2 ^ n : Nat) : Int) = 2 ^ n := by simp
  omega
theorem Sm.lit {n : Nat} {a : Int} (h : a.natAbs < 2 ^ n := by decide) : Sm n a := h
theorem szL : sizeLine = 16777216 := by with_unfolding_all rfl
end VL

namespace VL
open PySem PySem.Spec PyProof.Rows
@[simp] theorem gT_ap (k : List PyData → R (List (Nat × PyData))) (xs : List PyData) : gT k (.tuple xs) = k xs := rfl
@[simp] theorem gT_apL (k : List PyData → R (List (Nat × PyData))) (xs : List PyData) : gT k (.list xs) = k xs := rfl
@[simp] theorem gC_ap (g : PyData → R (List (Nat × PyData))) (h : List PyData → R (List (Nat × PyData))) (d : PyData) (ds : List PyData) : gC g h (d :: ds) = (g d).bind fun bs => (h ds).bind fun cs => .ok (bs ++ cs) := rfl
@[simp] theorem gE_ap : gE [] = .ok [] := rfl
class Bd (a : Int) (n : outParam Nat) : Prop where
  h : Sm n a
instance bd_add {a b : Int} {m n : Nat} [ha : Bd a m] [hb : Bd b n] : Bd (a + b) (max m n + 1) := ⟨(ha.h.mono (Nat.le_max_left m n)).add (hb.h.mono (Nat.le_max_right m n))⟩
instance bd_sub {a b : Int} {m n : Nat} [ha : Bd a m] [hb : Bd b n] : Bd (a - b) (max m n + 1) := ⟨(ha.h.mono (Nat.le_max_left m n)).sub (hb.h.mono (Nat.le_max_right m n))⟩
instance bd_mul {a b : Int} {m n : Nat} [ha : Bd a m] [hb : Bd b n] : Bd (a * b) (m + n) := ⟨ha.h.mul hb.h⟩
instance bd_neg {a : Int} {m : Nat} [ha : Bd a m] : Bd (-a) m := ⟨ha.h.neg⟩
instance bd_ite {p : Prop} [Decidable p] {a b : Int} {m n : Nat} [ha : Bd a m] [hb : Bd b n] : Bd (if p then a else b) (max m n) := ⟨by
  split
  · exact ha.h.mono (Nat.le_max_left m n)
  · exact hb.h.mono (Nat.le_max_right m n)⟩
theorem bd_modl {a k : Int} {n : Nat} (h0 : 0 < k) (h : k < 2 ^ n) : Bd (a % k) n := ⟨by
  have a1 := Int.emod_nonneg a (b := k) (by omega)
  have a2 := Int.emod_lt_of_pos a h0
  exact sm_of ⟨by omega, by omega⟩⟩
@[simp] theorem vmul_bd {a b : Int} {m n : Nat} [ha : Bd a m] [hb : Bd b n] (h : m + n ≤ 134217728) : vmul (.int a) (.int b) = .ok (.int (a * b)) := vmul_sm ha.h hb.h h
end VL

namespace VL
open PySem PySem.Spec PyProof.Rows
def okS : Nat → PyData → Prop
  | 0, _ => False
  | _ + 1, .none => True
  | _ + 1, .bool _ => True
  | _ + 1, .int _ => True
  | _ + 1, .str s => PyData.strOk s = true
  | n + 1, .list xs => xs.length ≤ 16777216 ∧ ∀ x ∈ xs, okS n x
  | n + 1, .tuple xs => xs.length ≤ 16777216 ∧ ∀ x ∈ xs, okS n x
  | _ + 1, .dict _ => False
theorem all_lay {n : Nat} (ih : ∀ {d : PyData}, okS n d → d.canLay0 = true ∧ d.depth ≤ n ∧ PyData.eqv d d = true) : ∀ ys : List PyData, (∀ x ∈ ys, okS n x) → PyData.canLayAll0 ys = true ∧ PyData.depthAll ys ≤ n ∧ PyData.eqvAll ys ys = true
  | [], _ => by simp [PyData.canLayAll0, PyData.depthAll, PyData.eqvAll]
  | y :: ys, hy => by
    have h1 := ih (hy y List.mem_cons_self)
    have h2 := all_lay ih ys fun x hx => hy x (List.mem_cons_of_mem _ hx)
    simp only [PyData.canLayAll0, PyData.depthAll, PyData.eqvAll, Bool.and_eq_true]
    exact ⟨⟨h1.1, h2.1⟩, by omega, h1.2.2, h2.2.2⟩
theorem okS.lay : ∀ {n : Nat} {d : PyData}, okS n d → d.canLay0 = true ∧ d.depth ≤ n ∧ PyData.eqv d d = true
  | 0, _, h => h.elim
  | n + 1, .none, _ => by simp [PyData.canLay0, PyData.depth, PyData.eqv]
  | n + 1, .bool _, _ => by simp [PyData.canLay0, PyData.depth, PyData.eqv]
  | n + 1, .int _, _ => by simp [PyData.canLay0, PyData.depth, PyData.eqv]
  | n + 1, .str s, h => by simp only [PyData.canLay0, PyData.depth, PyData.eqv]; exact ⟨h, Nat.zero_le _, by simp⟩
  | n + 1, .list xs, h => by
    have := all_lay (fun {d} => okS.lay (n := n) (d := d)) xs h.2
    simp only [PyData.canLay0, PyData.depth, PyData.eqv]
    exact ⟨this.1, by omega, this.2.2⟩
  | n + 1, .tuple xs, h => by
    have := all_lay (fun {d} => okS.lay (n := n) (d := d)) xs h.2
    simp only [PyData.canLay0, PyData.depth, PyData.eqv]
    exact ⟨this.1, by omega, this.2.2⟩
theorem okS.shaped {n : Nat} {d : PyData} (h : okS n d) (hn : n ≤ 64 := by decide) : SeqAt.shaped d = true := by
  have := h.lay
  unfold SeqAt.shaped
  rw [this.1, decide_eq_true (show d.depth ≤ 64 by omega)]
  rfl
theorem vEq_ok {m n : Nat} {d e : PyData} (h : okS m d) (g : okS n e) (hm : m ≤ 64 := by decide) (hn : n ≤ 64 := by decide) : vEq d e = .ok (PyData.eqv d e) := if_pos ⟨h.shaped hm, g.shaped hn⟩
@[simp] theorem veq_strS {a b : Str} (ha : PyData.strOk a = true) (hb : PyData.strOk b = true) : veq (.str a) (.str b) = .ok (.bool (decide (a = b))) := veq_str ha hb
@[simp] theorem vne_strS {a b : Str} (ha : PyData.strOk a = true) (hb : PyData.strOk b = true) : vne (.str a) (.str b) = .ok (.bool (!decide (a = b))) := vne_str ha hb
@[simp] theorem vcomp_ap (own : List Nat) (fi : PEnv → R (List PyData)) (kt : PyData → R (List (Nat × PyData))) (ft : PEnv → R Bool) (fe : PEnv → R PyData) (ρ : PEnv) : vcomp own fi kt ft fe ρ = (fi ρ).bind fun ds => (compL kt ft fe (wipeD ρ own) ds).calm := rfl
@[simp] theorem vadd_list {xs ys : List PyData} (h : xs.length + ys.length ≤ 16777216) : vadd (.list xs) (.list ys) = .ok (.list (xs ++ ys)) := if_pos (by rw [szL]; exact h)
@[simp] theorem vadd_tuple {xs ys : List PyData} (h : xs.length + ys.length ≤ 16777216) : vadd (.tuple xs) (.tuple ys) = .ok (.tuple (xs ++ ys)) := if_pos (by rw [szL]; exact h)
end VL

namespace VL
open PySem PySem.Spec PyProof.Rows L2
structure ExcF (K : PySem.W.Frag) (mg : Str → Option Value) (x : Str) (C : Addr) : Prop where
  xF : PySem.W.excIn K C [.type "ValueError", .type "Exception", .type "BaseException", .type "object"] "ValueError.__new__" = true
  gF : mg x = some (.ref C)
  kF : PySem.W.keepIn K (.ref C) = true
  bF : PySem.W.subIn K (.ref C) (.type "BaseException") = some true
  tF : PySem.W.typeIn K (.ref C) = some (.type "type")
def sRaise (c : Str) : OEnv → SR := fun ρ => .err c ρ
@[simp] theorem sRaise_ap (c : Str) (ρ : OEnv) : sRaise c ρ = .err c ρ := rfl
end VL

namespace VL
open PySem PySem.Spec PyProof.Rows L2
def excD (a : Addr) (c : Str) : PyData := .dict [(.none, .int (a : Int)), (.none, .str c)]
noncomputable def anyA (g : Addr → SR) : SR := open Classical in if h : ∃ r, ∀ a, g a = r then Classical.choose h else .stuck
def SR.unset (i : Nat) : SR → SR
  | .nx ρ => .nx (ρ.set i none)
  | .bk ρ => .bk (ρ.set i none)
  | .ct ρ => .ct (ρ.set i none)
  | .rt o _ => .rt o []
  | _ => .stuck
@[simp] theorem unset_nx (i : Nat) (ρ : OEnv) : SR.unset i (.nx ρ) = .nx (ρ.set i none) := rfl
@[simp] theorem unset_bk (i : Nat) (ρ : OEnv) : SR.unset i (.bk ρ) = .bk (ρ.set i none) := rfl
@[simp] theorem unset_ct (i : Nat) (ρ : OEnv) : SR.unset i (.ct ρ) = .ct (ρ.set i none) := rfl
@[simp] theorem unset_rt (i : Nat) (o : O) (ρ : OEnv) : SR.unset i (.rt o ρ) = .rt o [] := rfl
noncomputable def catchA (tb : Str → Option Bool) (i : Nat) (gs : Addr → Str → OEnv → SR) : SR → SR
  | .err c ρ => match tb c with
    | some true => anyA fun a => (gs a c (ρ.set i (some (.fz (excD a c))))).unset i
    | some false => .err c ρ
    | none => .stuck
  | r => r
noncomputable def sTryAs (gb : OEnv → SR) (tb : Str → Option Bool) (i : Nat) (gs : Addr → Str → OEnv → SR) : OEnv → SR := fun ρ => catchA tb i gs (gb ρ)
@[simp] theorem sTryAs_ap (gb : OEnv → SR) (tb : Str → Option Bool) (i : Nat) (gs : Addr → Str → OEnv → SR) (ρ : OEnv) : sTryAs gb tb i gs ρ = catchA tb i gs (gb ρ) := rfl
@[simp] theorem catchA_nx (tb : Str → Option Bool) (i : Nat) (gs : Addr → Str → OEnv → SR) (ρ : OEnv) : catchA tb i gs (.nx ρ) = .nx ρ := rfl
@[simp] theorem catchA_rt (tb : Str → Option Bool) (i : Nat) (gs : Addr → Str → OEnv → SR) (o : O) (ρ : OEnv) : catchA tb i gs (.rt o ρ) = .rt o ρ := rfl
@[simp] theorem catchA_ct (tb : Str → Option Bool) (i : Nat) (gs : Addr → Str → OEnv → SR) (ρ : OEnv) : catchA tb i gs (.ct ρ) = .ct ρ := rfl
@[simp] theorem catchA_bk (tb : Str → Option Bool) (i : Nat) (gs : Addr → Str → OEnv → SR) (ρ : OEnv) : catchA tb i gs (.bk ρ) = .bk ρ := rfl
structure HTab (K : PySem.W.Frag) (mg : Str → Option Value) (x : Str) (tb : Str → Option Bool) : Prop where
  ex : ∃ c, mg x = some c ∧ ∀ cn b, tb cn = some b → ∃ C, mg cn = some (.ref C) ∧ PySem.W.exmOne K (.ref C) c = some b
theorem RS.only {K : PySem.W.Frag} {F0 H0 F H : Hp} {σ : L2.St} {ρ : OEnv} {v : V} {o : O} (r : RS K F0 H0 F H (some v :: σ) (some o :: ρ)) : RS K F0 H0 F H [some v] [some o] := by
  obtain ⟨fp, h1, h2⟩ := r.head
  exact ⟨fp ++ [], .ow h1 .nil, by rw [List.append_nil]; exact h2⟩
section
variable {X : Cx} {W : WX} {body suite : List Stmt} {b₀ : Stmt} {np pos pos' : Pos} {x n : Str} {gb : OEnv → SR} {gs : Addr → Str → OEnv → SR} {tb : Str → Option Bool}
noncomputable def catchO (tb : Str → Option Bool) (gs : OEnv → SR) : SR → SR
  | .err c ρ => match tb c with
    | some true => (match gs ρ with
      | .err _ _ => .stuck
      | r => r)
    | some false => .err c ρ
    | none => .stuck
  | r => r
noncomputable def sTryO (gb : OEnv → SR) (tb : Str → Option Bool) (gs : OEnv → SR) : OEnv → SR := fun ρ => catchO tb gs (gb ρ)
@[simp] theorem sTryO_ap (gb : OEnv → SR) (tb : Str → Option Bool) (gs : OEnv → SR) (ρ : OEnv) : sTryO gb tb gs ρ = catchO tb gs (gb ρ) := rfl
@[simp] theorem catchO_nx (tb : Str → Option Bool) (gs : OEnv → SR) (ρ : OEnv) : catchO tb gs (.nx ρ) = .nx ρ := rfl
@[simp] theorem catchO_rt (tb : Str → Option Bool) (gs : OEnv → SR) (o : O) (ρ : OEnv) : catchO tb gs (.rt o ρ) = .rt o ρ := rfl
@[simp] theorem catchO_ct (tb : Str → Option Bool) (gs : OEnv → SR) (ρ : OEnv) : catchO tb gs (.ct ρ) = .ct ρ := rfl
@[simp] theorem catchO_bk (tb : Str → Option Bool) (gs : OEnv → SR) (ρ : OEnv) : catchO tb gs (.bk ρ) = .bk ρ := rfl
end
def vIsE (a : Addr) (cn : Str) (tb : Str → Option Bool) : PyData → R PyData
  | .dict [(.none, .int a'), (.none, .str c')] => if a' = (a : Int) ∧ c' = cn then (match tb cn with | some b => .ok (.bool b) | none => .stuck) else .stuck
  | _ => .stuck
@[simp] theorem vIsE_ap (a : Addr) (cn : Str) (tb : Str → Option Bool) : vIsE a cn tb (excD a cn) = match tb cn with | some b => .ok (.bool b) | none => .stuck := by
  simp [vIsE, excD]
structure ITab (K : PySem.W.Frag) (mg : Str → Option Value) (x : Str) (cv : Value) (tb : Str → Option Bool) : Prop where
  kt : ∀ cn D b, mg cn = some (.ref D) → tb cn = some b → ExcC K D ∧ PySem.W.kitOne K (.ref D) cv = some b
section
variable {X : Cx} {W : WX} {a : Addr} {oe : Obj} {pn : List (Addr × Obj)} {C : Addr} {cn : Str} {ea : Expr} {fa : PEnv → R PyData}
end
end VL

namespace VL
open PySem PySem.Spec PyProof.Rows
theorem vNotInT_ok {m n : Nat} {d : PyData} {ds : List PyData} (h : okS m d) (g : okS n (.tuple ds)) (hm : m ≤ 64 := by decide) (hn : n ≤ 64 := by decide) : vNotInT d (.tuple ds) = .ok (.bool (!ds.any fun z => PyData.eqv z d)) := if_pos ⟨h.shaped hm, g.shaped hn⟩
theorem vin_ok {m n : Nat} {d : PyData} {ds : List PyData} (h : okS m d) (g : okS n (.list ds)) (hm : m ≤ 64 := by decide) (hn : n ≤ 64 := by decide) : vin d (.list ds) = .ok (ds.any fun z => PyData.eqv z d) := if_pos ⟨h.shaped hm, g.shaped hn⟩
theorem vIn_ok {m n : Nat} {d : PyData} {ds : List PyData} (h : okS m d) (g : okS n (.list ds)) (hm : m ≤ 64 := by decide) (hn : n ≤ 64 := by decide) : vIn d (.list ds) = .ok (.bool (ds.any fun z => PyData.eqv z d)) := by
  unfold vIn; rw [vin_ok h g hm hn]; rfl
theorem vNotIn_ok {m n : Nat} {d : PyData} {ds : List PyData} (h : okS m d) (g : okS n (.list ds)) (hm : m ≤ 64 := by decide) (hn : n ≤ 64 := by decide) : vNotIn d (.list ds) = .ok (.bool (!ds.any fun z => PyData.eqv z d)) := by
  unfold vNotIn; rw [vin_ok h g hm hn]; rfl
@[simp] theorem vcut_list (lo hi : Option Int) (xs : List PyData) : vcut lo hi (.list xs) = .ok (.list (cutL xs lo hi)) := rfl
@[simp] theorem vcut_tuple (lo hi : Option Int) (xs : List PyData) : vcut lo hi (.tuple xs) = .ok (.tuple (cutL xs lo hi)) := rfl
theorem cut_from (xs : List PyData) (k : Nat) : cutL xs (some (k : Int)) none = xs.drop k := by
  unfold cutL
  rw [HT.sIx_nat, HT.sIx_none]
  by_cases h : k ≤ xs.length
  · rw [Nat.min_eq_left h, List.take_of_length_le (by rw [List.length_drop]; omega)]
  · rw [Nat.min_eq_right (by omega), List.drop_length, List.drop_of_length_le (by omega), List.take_nil]
@[simp] theorem cut_1 (x : PyData) (xs : List PyData) : cutL (x :: xs) (some 1) none = xs := cut_from (x :: xs) 1
theorem okS.mono : ∀ {m n : Nat} {d : PyData}, m ≤ n → okS m d → okS n d
  | 0, _, _, _, h => h.elim
  | _ + 1, 0, _, hl, _ => absurd hl (by omega)
  | m + 1, n + 1, .none, _, _ => trivial
  | m + 1, n + 1, .bool _, _, _ => trivial
  | m + 1, n + 1, .int _, _, _ => trivial
  | m + 1, n + 1, .str _, _, h => h
  | m + 1, n + 1, .list xs, hl, h => ⟨h.1, fun x hx => okS.mono (by omega) (h.2 x hx)⟩
  | m + 1, n + 1, .tuple xs, hl, h => ⟨h.1, fun x hx => okS.mono (by omega) (h.2 x hx)⟩
  | m + 1, n + 1, .dict _, _, h => h.elim
end VL

namespace VL
open PySem PySem.Spec PyProof.Rows L2
theorem RS.glue {K : PySem.W.Frag} {F0 H0 F H : Hp} {σ : L2.St} {ρ : OEnv} {y : V} {i : Nat} {os os2 : List O} (r : RS K F0 H0 F H (some y :: σ) (some (.lst os2) :: ρ)) (ei : ρ[i]? = some (some (.lst os))) :
    ∃ a vs b zs, σ[i]? = some (some (.ref a)) ∧ H a = some (.lst vs) ∧ vs.length = os.length ∧ y = .ref b ∧ H b = some (.lst zs) ∧ zs.length = os2.length ∧ RS K F0 H0 F (upd H a (.lst (vs ++ zs))) σ (ρ.set i (some (.lst (os ++ os2)))) := by
  obtain ⟨fps, sl, hs⟩ := r.ex
  cases sl with
  | @ow _ _ fpo _ _ fpt h1 s =>
    obtain ⟨v, fp, fpr, e1, e2, e3, e4, e5⟩ := s.split ei
    cases h1 with
    | @lst b zs _ fpb hb hlb =>
    cases e2 with
    | @lst a vs _ fpi ha hl =>
      refine ⟨a, vs, b, zs, e1, ha, hl.len, rfl, hb, hlb.len, ?_⟩
      have hp : Hs F0 H0 F H ((b :: fpb) ++ ((a :: fpi) ++ fpr)) := hs.perm (List.Perm.append_left (b :: fpb) e3)
      have hp1 : Hs F0 H0 F H (fpb ++ ((a :: fpi) ++ fpr)) := hp.sub (List.sublist_cons_self b _)
      have nd := List.nodup_append.mp hp1.nd
      have nd2 := List.nodup_append.mp nd.2.1
      have na_b : a ∉ fpb := fun m => nd.2.2 a m a (List.mem_append_left _ List.mem_cons_self) rfl
      have na_i : a ∉ fpi := (List.nodup_cons.mp nd2.1).1
      have na_r : a ∉ fpr := fun m => nd2.2.2 a List.mem_cons_self a m rfl
      have hk : ∀ c, c ≠ a → upd H a (.lst (vs ++ zs)) c = H c := fun c hc => upd_ne hc
      have l1 : OwnL K F (upd H a (.lst (vs ++ zs))) vs os fpi := hl.keep (Same.refl F) fun c hc => hk c fun e => na_i (e ▸ hc)
      have l2 : OwnL K F (upd H a (.lst (vs ++ zs))) zs os2 fpb := hlb.keep (Same.refl F) fun c hc => hk c fun e => na_b (e ▸ hc)
      obtain ⟨fps', w1, w2⟩ := e5 F (upd H a (.lst (vs ++ zs))) (.ref a) (.lst (os ++ os2)) (a :: (fpi ++ fpb)) (.lst upd_same (OwnL.append l1 l2)) (Same.refl F) fun c hc => hk c fun e => na_r (e ▸ hc)
      rw [set_same e1] at w1
      have an : F a = none ∧ H0 a = none := hp1.ow a (List.mem_append_right _ (List.mem_append_left _ List.mem_cons_self))
      have base : Hs F0 H0 F (upd H a (.lst (vs ++ zs))) (fpb ++ ((a :: fpi) ++ fpr)) := ⟨hp1.nd, hp1.ow, fun c u q => by
        rw [hk c (fun e => by rw [e, an.1] at q; cases q)]; exact hp1.fh _ _ q, hp1.f0, fun c u q => by
        rw [hk c (fun e => by rw [e, an.2] at q; cases q)]; exact hp1.h0 _ _ q, hp1.nw⟩
      have p1 : (fpb ++ ((a :: fpi) ++ fpr)).Perm ((a :: (fpi ++ fpb)) ++ fpr) := by
        have : (fpb ++ ((a :: fpi) ++ fpr)).Perm (((a :: fpi) ++ fpb) ++ fpr) := by
          rw [← List.append_assoc]
          exact List.Perm.append_right _ List.perm_append_comm
        simpa using this
      exact ⟨fps', w1, (base.perm p1).perm w2.symm⟩
section
variable {X : Cx} {W : WX} {a b c e : Expr} {pos : Pos} {fa fb fc : PEnv → R PyData} {ho : OEnv → R (O × OEnv)} {k : Nat}
def sExt (i : Nat) (h : OEnv → R (O × OEnv)) : OEnv → SR := fun ρ => match ρ[i]? with
  | some (some (.lst _)) => (h ρ).sr ρ fun p => match p.1, p.2[i]? with
    | .lst os2, some (some (.lst os)) => if os.length + os2.length ≤ sizeLine then .nx (p.2.set i (some (.lst (os ++ os2)))) else .stuck
    | _, _ => .stuck
  | _ => .stuck
theorem vs_ext (i : Nat) {x : Str} {p1 p2 p3 : Pos} (mk : ∀ {t : TE}, PE X e t → PE X (.Call (.Attribute (.Name x p1) "extend" p2) [e] [] p3) (tBM X.K "list" rExtend (tVar i) (tCons t tNil))) (he : VO X W e ho)
    (hs : swapsWith (.Call (.Attribute (.Name x p1) "extend" p2) [e] [] p3) none pos.line X.env = pure false := by rfl) :
    VS X W (.Expr (.Call (.Attribute (.Name x p1) "extend" p2) [e] [] p3) pos) (sExt i ho) := by
  obtain ⟨t, p, q⟩ := he.ex
  refine ⟨_, ps_expr (mk p) hs, fun D σ H F0 H0 F ρ r pr => ?_⟩
  unfold sExt at pr
  split at pr
  · rename_i os0 e0
    obtain ⟨fps, sl, hss⟩ := r.ex
    obtain ⟨v, fp, fpr, e1, e2, e3, e4, e5⟩ := sl.split e0
    cases e2 with
    | @lst ad vs _ fpi ha hl =>
      refine ⟨.ref ad, e1, .inl ⟨rfl, _, .inl (.inl ha)⟩, ?_⟩
      refine q σ H F0 H0 F ρ _ r (sr_pst r pr fun o po y H' F' r' => ?_)
      obtain ⟨o1, ρ1⟩ := o
      simp only at po r'
      split at po
      · rename_i os2 os e9 eo
        split at po
        · rename_i hz
          obtain ⟨ad', vs', b', zs, e6, e7, e8, rfl, e10, e11, r2⟩ := r'.glue eo
          rw [e1] at e6
          cases e6
          exact ⟨ad, b', vs', zs, rfl, rfl, e7, e10, by rw [e8, e11]; exact hz, po _ _ _ r2⟩
        · exact po.elim
      · exact po.elim
  · exact pr.elim
def vmax3 : List PyData → R PyData
  | [.int i, .int j, .int k] => .ok (.int (max (max i j) k))
  | _ => .stuck
def vmin3 : List PyData → R PyData
  | [.int i, .int j, .int k] => .ok (.int (min (min i j) k))
  | _ => .stuck
@[simp] theorem vmax3_ap (i j k : Int) : vmax3 [.int i, .int j, .int k] = .ok (.int (max (max i j) k)) := rfl
@[simp] theorem vmin3_ap (i j k : Int) : vmin3 [.int i, .int j, .int k] = .ok (.int (min (min i j) k)) := rfl
def lcat : PyData → PyData → R (List PyData)
  | .list xs, .list ys => if xs.length + ys.length ≤ sizeLine then .ok (xs ++ ys) else .stuck
  | _, _ => .stuck
def fcat (f g : PEnv → R PyData) : PEnv → R (List PyData) := fun ρ => (f ρ).bind fun d => (g ρ).bind fun e => lcat d e
@[simp] theorem fcat_ap (f g : PEnv → R PyData) (ρ : PEnv) : fcat f g ρ = (f ρ).bind fun d => (g ρ).bind fun e => lcat d e := rfl
@[simp] theorem lcat_list {xs ys : List PyData} (h : xs.length + ys.length ≤ 16777216) : lcat (.list xs) (.list ys) = .ok (xs ++ ys) := if_pos (by rw [szL]; exact h)
def lcut (lo hi : Option Int) : PyData → R (List PyData)
  | .list xs => .ok (cutL xs lo hi)
  | _ => .stuck
def fslice (f : PEnv → R PyData) (l u : PEnv → R (Option Int)) : PEnv → R (List PyData) := fun ρ => (f ρ).bind fun d => (l ρ).bind fun lo => (u ρ).bind fun hi => lcut lo hi d
@[simp] theorem fslice_ap (f : PEnv → R PyData) (l u : PEnv → R (Option Int)) (ρ : PEnv) : fslice f l u ρ = (f ρ).bind fun d => (l ρ).bind fun lo => (u ρ).bind fun hi => lcut lo hi d := rfl
@[simp] theorem lcut_list (lo hi : Option Int) (xs : List PyData) : lcut lo hi (.list xs) = .ok (cutL xs lo hi) := rfl
end
end VL

namespace VL
open PySem PySem.Spec PyProof.Rows L2
theorem RS.push {K : PySem.W.Frag} {F0 H0 F H F' H' : Hp} {σ : L2.St} {ρ : OEnv} {v : V} {o : O} (r : RS K F0 H0 F H σ ρ) (q : RV K F H F' H' v o) : RS K F0 H0 F' H' (some v :: σ) (some o :: ρ) := by
  obtain ⟨fps, s, hs⟩ := r.ex
  obtain ⟨fp, ow, h1⟩ := q
  have lst := s.lstAt
  refine ⟨fp ++ fps, .ow ow (s.keep h1.f0 fun a ha => ?_), ?_, fun a ha => ?_, h1.fh, hs.f0.trans h1.f0, hs.h0.trans h1.h0, fun a z1 z2 => ?_⟩
  · obtain ⟨vs, z, _⟩ := lst a ha
    rw [z]; exact h1.h0 _ _ z
  · refine List.nodup_append.mpr ⟨h1.nd, hs.nd, fun a ha b hb e => ?_⟩
    subst e
    obtain ⟨vs, z, _⟩ := lst a hb
    rw [(h1.ow a ha).2] at z
    cases z
  · rcases List.mem_append.mp ha with m | m
    · exact ⟨(h1.ow a m).1, Same.free hs.h0 (h1.ow a m).2⟩
    · refine ⟨?_, (hs.ow a m).2⟩
      obtain ⟨vs, z, zt⟩ := lst a m
      cases q : F' a with
      | none => rfl
      | some u =>
        have := h1.nw a (hs.ow a m).1 (by rw [q]; exact fun w => nomatch w)
        exact (this.no z zt.1).elim
  · cases q : F a with
    | some u => exact hs.nw a z1 (by rw [q]; exact fun w => nomatch w)
    | none => exact (h1.nw a q z2).back hs.h0
section
variable {X : Cx} {W : WX} {a b c e : Expr} {es : List Expr} {pos : Pos} {hx : OEnv → R PyData} {k : Nat}
def oCall (g : List PyData → R O) (fa : PEnv → R (List PyData)) : OEnv → R (O × OEnv) := fun ρ => (fa (viewF ρ)).bind fun ds => (g ds).bind fun o => .ok (o, ρ)
@[simp] theorem oCall_ap (g : List PyData → R O) (fa : PEnv → R (List PyData)) (ρ : OEnv) : oCall g fa ρ = (fa (viewF ρ)).bind fun ds => (g ds).bind fun o => .ok (o, ρ) := rfl
theorem OwnL.pick {K : PySem.W.Frag} {F H : Hp} : ∀ {os : List O} {vs : List V} {fp : List Addr} {j : Nat} {o : O}, OwnL K F H vs os fp → os[j]? = some o → ∃ y f1 f2, vs[j]? = some y ∧ Own K F H y o f1 ∧ OwnL K F H (vs.eraseIdx j) (os.eraseIdx j) f2 ∧ fp.Perm (f1 ++ f2)
  | [], _, _, _, _, h, e => by simp at e
  | p :: os, _, _, 0, o, h, e => by
    cases h with
    | @cons v vs _ _ f1 f2 h1 h2 =>
      simp at e
      subst e
      exact ⟨v, f1, f2, rfl, h1, h2, .refl _⟩
  | p :: os, _, _, j + 1, o, h, e => by
    cases h with
    | @cons v vs _ _ f1 f2 h1 h2 =>
      obtain ⟨y, g1, g2, z1, z2, z3, z4⟩ := OwnL.pick (j := j) h2 (by simpa using e)
      refine ⟨y, g1, f1 ++ g2, by simpa using z1, z2, .cons h1 z3, ?_⟩
      refine (List.Perm.append_left f1 z4).trans ?_
      rw [← List.append_assoc, ← List.append_assoc]
      exact List.Perm.append_right _ List.perm_append_comm
theorem RS.take {K : PySem.W.Frag} {F0 H0 F H : Hp} {σ : L2.St} {ρ : OEnv} {i j : Nat} {os : List O} {o : O} (r : RS K F0 H0 F H σ ρ) (ei : ρ[i]? = some (some (.lst os))) (ej : os[j]? = some o) :
    ∃ a vs y, σ[i]? = some (some (.ref a)) ∧ H a = some (.lst vs) ∧ vs.length = os.length ∧ vs[j]? = some y ∧ RS K F0 H0 F (upd H a (.lst (vs.eraseIdx j))) (some y :: σ) (some o :: ρ.set i (some (.lst (os.eraseIdx j)))) := by
  obtain ⟨fps, s, hs⟩ := r.ex
  obtain ⟨v, fp, fpr, e1, e2, e3, e4, e5⟩ := s.split ei
  cases e2 with
  | @lst a vs _ fpi ha hl =>
    obtain ⟨y, g1, g2, z1, z2, z3, z4⟩ := hl.pick ej
    refine ⟨a, vs, y, e1, ha, hl.len, z1, ?_⟩
    have hp : Hs F0 H0 F H ((a :: (g1 ++ g2)) ++ fpr) := (hs.perm e3).perm (List.Perm.append_right fpr (List.Perm.cons a z4))
    have nd := List.nodup_append.mp hp.nd
    have na := List.nodup_cons.mp nd.1
    have na_r : a ∉ fpr := fun m => nd.2.2 a List.mem_cons_self a m rfl
    have hk : ∀ c, c ≠ a → upd H a (.lst (vs.eraseIdx j)) c = H c := fun c hc => upd_ne hc
    have l1 : Own K F (upd H a (.lst (vs.eraseIdx j))) y o g1 := z2.keep (Same.refl F) fun c hc => hk c fun e => na.1 (e ▸ List.mem_append_left _ hc)
    have l2 : OwnL K F (upd H a (.lst (vs.eraseIdx j))) (vs.eraseIdx j) (os.eraseIdx j) g2 := z3.keep (Same.refl F) fun c hc => hk c fun e => na.1 (e ▸ List.mem_append_right _ hc)
    obtain ⟨fps', w1, w2⟩ := e5 F (upd H a (.lst (vs.eraseIdx j))) (.ref a) (.lst (os.eraseIdx j)) (a :: g2) (.lst upd_same l2) (Same.refl F) fun c hc => hk c fun e => na_r (e ▸ hc)
    rw [set_same e1] at w1
    have an : F a = none ∧ H0 a = none := hp.ow a (List.mem_append_left _ List.mem_cons_self)
    have base : Hs F0 H0 F (upd H a (.lst (vs.eraseIdx j))) ((a :: (g1 ++ g2)) ++ fpr) := ⟨hp.nd, hp.ow, fun c u q => by
      rw [hk c (fun e => by rw [e, an.1] at q; cases q)]; exact hp.fh _ _ q, hp.f0, fun c u q => by
      rw [hk c (fun e => by rw [e, an.2] at q; cases q)]; exact hp.h0 _ _ q, hp.nw⟩
    refine ⟨g1 ++ fps', .ow l1 w1, base.perm ?_⟩
    have p1 : ((a :: (g1 ++ g2)) ++ fpr).Perm (g1 ++ ((a :: g2) ++ fpr)) := by
      have : ((a :: (g1 ++ g2)) ++ fpr).Perm ((g1 ++ (a :: g2)) ++ fpr) := List.Perm.append_right fpr List.perm_middle.symm
      rw [List.append_assoc] at this
      exact this
    exact p1.trans (List.Perm.append_left g1 w2.symm)
noncomputable def oPopAt (i : Nat) (hk : OEnv → R PyData) : OEnv → R (O × OEnv) := fun ρ => match ρ[i]? with
  | some (some (.lst os)) => (hk ρ).bind fun d => match d with
    | .int j => @ite _ (0 ≤ j ∧ j < 16777216) (Classical.propDecidable _) (match os[j.toNat]? with
      | some o => .ok (o, ρ.set i (some (.lst (os.eraseIdx j.toNat))))
      | none => .stuck) .stuck
    | _ => .stuck
  | _ => .stuck
theorem vo_popAt (i : Nat) {x : Str} {p1 p2 p3 : Pos} (mk : ∀ {t : TE}, PE X e t → PE X (.Call (.Attribute (.Name x p1) "pop" p2) [e] [] p3) (tBM X.K "list" rPopAt (tVar i) (tCons t tNil))) (he : VX X W e hx) :
    VO X W (.Call (.Attribute (.Name x p1) "pop" p2) [e] [] p3) (oPopAt i hx) := by
  obtain ⟨t, p, q⟩ := he.ex
  refine ⟨_, mk p, fun σ H F0 H0 F ρ Q r pr => ?_⟩
  unfold oPopAt at pr
  split at pr
  · rename_i os e0
    obtain ⟨fps, sl, hss⟩ := id r.ex
    obtain ⟨v, fp, fpr, e1, e2, e3, e4, e5⟩ := sl.split e0
    cases e2 with
    | @lst ad vs0 _ fpi ha hl =>
      refine ⟨.ref ad, e1, .inl ⟨rfl, _, .inl (.inl ha)⟩, ?_⟩
      refine q σ H F0 H0 F ρ _ r ?_
      generalize hx ρ = rk at pr ⊢
      cases rk with
      | stuck => exact pr
      | err c => exact pr
      | ok d =>
        intro y0 H' F' ex dx
        simp only [R.bind_ok] at pr
        cases dx <;> first | exact pr.elim | skip
        rename_i j
        simp only at pr
        split at pr
        · rename_i hj
          split at pr
          · rename_i o eo
            obtain ⟨ad', vs, y, w1, w2, w3, w4, r2⟩ := (r.ext ex).take e0 eo
            rw [e1] at w1
            cases w1
            obtain ⟨hjl, _⟩ := List.getElem?_eq_some_iff.mp eo
            refine ⟨ad, vs, j, j.toNat, y, rfl, rfl, w2, by omega, by omega, ?_, w4, pr y _ F' r2⟩
            unfold seqIndex?
            have hb : (decide (0 ≤ j) && decide (j < (os.length : Int))) = true := by
              rw [Bool.and_eq_true, decide_eq_true_eq, decide_eq_true_eq]; omega
            rw [w3, if_neg (show ¬ j < 0 by omega)]
            exact if_pos hb
          · exact pr.elim
        · exact pr.elim
  · exact pr.elim
theorem erase_map {α β : Type} (f : α → β) : ∀ (l : List α) (m : Nat), (l.map f).eraseIdx m = (l.eraseIdx m).map f
  | [], _ => rfl
  | _ :: _, 0 => rfl
  | x :: l, m + 1 => by
    show f x :: (l.map f).eraseIdx m = f x :: (l.eraseIdx m).map f
    rw [erase_map f l m]
end
def finO : SR → R O
  | .rt o _ => .ok o
  | .nx _ => .ok (.fz .none)
  | .err c _ => .err c
  | _ => .stuck
@[simp] theorem finO_rt (o : O) (ρ : OEnv) : finO (.rt o ρ) = .ok o := rfl
@[simp] theorem finO_nx (ρ : OEnv) : finO (.nx ρ) = .ok (.fz .none) := rfl
@[simp] theorem finO_err (c : Str) (ρ : OEnv) : finO (.err c ρ) = .err c := rfl
theorem runB_fin (n : Nat) (g : OEnv → SR) (ds : List PyData) : runB n g ds = finO (g (startO n ds)) := by
  unfold runB
  cases g (startO n ds) <;> rfl
end VL

namespace VL
open PySem PySem.Spec PyProof.Rows L2
def vindex : PyData → PyData → R PyData
  | .list ds, d => if SeqAt.shaped (.list ds) = true ∧ SeqAt.shaped d = true then (match ds.findIdx? (fun z => PyData.eqv z d) with
    | some j => .ok (.int (j : Nat))
    | none => .stuck) else .stuck
  | _, _ => .stuck
def isL : PyData → R PyData
  | .list ds => .ok (.list ds)
  | _ => .stuck
def vindexF (fa fb : PEnv → R PyData) : PEnv → R PyData := fun ρ => (fa ρ).bind fun d => (isL d).bind fun d => (fb ρ).bind fun e => vindex d e
@[simp] theorem vindexF_ap (fa fb : PEnv → R PyData) (ρ : PEnv) : vindexF fa fb ρ = (fa ρ).bind fun d => (isL d).bind fun d => (fb ρ).bind fun e => vindex d e := rfl
@[simp] theorem isL_list (ds : List PyData) : isL (.list ds) = .ok (.list ds) := rfl
section
variable {X : Cx} {W : WX} {a b : Expr} {fa fb : PEnv → R PyData} {k : Nat}
theorem vindex_ {p2 p3 : Pos} (hu : X.A.units + 65 < cLine) (ha : VE X W a fa) (hb : VE X W b fb) (hs : starEach [b] X.env = (false, eval b X.env) :: starEach [] X.env := by rfl)
    (hbase : attributeBase a "index" X.env (eval a X.env) = eval a X.env := by rfl)
    (hfew : ((backTo p3 (starEach [b] X.env)).all (fun x => !x.1) && (backToKw p3 (keywordEach [] X.env)).all (fun x => x.1.isSome)
      && decide ([b].length + ([] : List Keyword).length + (if ([] : List Keyword).isEmpty then 0 else 1) < 30)) = true := by rfl)
    (hline : (p2.endLine == p3.line) = true := by rfl) (hplain : (backTo p3 (starEach [] X.env)).any (·.1) = false := by rfl) : VE X W (.Call (.Attribute a "index" p2) [b] [] p3) (vindexF fa fb) := by
  obtain ⟨ta, pa, qa⟩ := ha.ex
  obtain ⟨tb, pb, qb⟩ := hb.ex
  refine VE.mk' (pe_bm PySem.F.plainAttrs_list PySem.F.slot_list_index PySem.F.type_list_index (mt_indexD hu) pa (pa_cons pb pa_nil hs) hbase hfew hline hs hplain) fun σ H B ρ Q s rf pr => ?_
  unfold vindexF at pr
  refine qa σ H B ρ _ s rf ?_
  generalize fa ρ = ra at pr ⊢
  cases ra with
  | stuck => exact pr
  | err c => exact pr
  | ok d =>
    intro x H1 B1 e1 sm1 d1
    simp only [R.bind_ok] at pr
    have tv : (tyV X.K "list" x H1 ∧ isL d = .ok d) ∨ isL d = .stuck := by
      cases d1 with
      | lst h1 h2 => exact .inl ⟨.inl ⟨rfl, _, .inl (Rd.mono e1.bh h1)⟩, rfl⟩
      | _ => exact .inr rfl
    rcases tv with ⟨tv, el⟩ | no
    · refine ⟨tv, ?_⟩
      rw [el] at pr
      simp only [R.bind_ok] at pr
      refine qb σ H1 B1 ρ _ e1.bh (rf.mono e1.bb) ?_
      generalize fb ρ = rb at pr ⊢
      cases rb with
      | stuck => exact pr
      | err c => exact fun H' z => pr H' (e1.hh.trans z)
      | ok e =>
        intro y H2 B2 e2 sm2 d2
        simp only [R.bind_ok] at pr
        have E := e1.trans e2
        have d1' := Is.mono e2.bb d1
        cases d1' <;> first | exact pr.elim | skip
        rename_i h1 h2
        simp only [vindex] at pr
        split at pr
        · rename_i hsh
          split at pr
          · rename_i j hj
            obtain ⟨hj1, hj2, hj3⟩ := List.findIdx?_eq_some_iff_getElem.mp hj
            have dd : Is X.K B2 (.ref _) (.list _) := .lst h1 h2
            refine ⟨_, y, e, _, j, _, rfl, rfl, (Is.mono E.bh dd).dp (SeqAt.canLay_of_shaped hsh.1), (Is.mono E.bh d2).dp (SeqAt.canLay_of_shaped hsh.2), hsh.1, hsh.2, List.getElem?_eq_getElem hj1, hj2, fun m z' hm hz => ?_, pr _ H2 B2 E (.int _)⟩
            obtain ⟨q1, q2⟩ := List.getElem?_eq_some_iff.mp hz
            have := hj3 m hm
            rw [q2] at this
            simpa using this
          · exact pr.elim
        · exact pr.elim
    · rw [no] at pr; exact pr.elim
end
end VL

namespace VL
open PySem PySem.Spec PyProof.Rows L2
def lrev : PyData → R (List PyData)
  | .list xs => .ok xs.reverse
  | _ => .stuck
def frev (f : PEnv → R PyData) : PEnv → R (List PyData) := fun ρ => (f ρ).bind lrev
@[simp] theorem frev_ap (f : PEnv → R PyData) (ρ : PEnv) : frev f ρ = (f ρ).bind lrev := rfl
@[simp] theorem lrev_list (xs : List PyData) : lrev (.list xs) = .ok xs.reverse := rfl
def srtI (ns : List Int) : List Int := ns.mergeSort fun a b => decide (a ≤ b)
theorem srtI_perm (ns : List Int) : (srtI ns).Perm ns := List.mergeSort_perm ns _
theorem srtI_ord (ns : List Int) : (srtI ns).Pairwise (· ≤ ·) := by
  have := List.pairwise_mergeSort (le := fun a b : Int => decide (a ≤ b)) (fun a b c h1 h2 => by simp at *; omega) (fun a b => by simp; omega) ns
  exact this.imp fun h => by simpa using h
theorem srtI_eq {ns ms : List Int} (p : ms.Perm ns) (o : ms.Pairwise (· ≤ ·)) : ms = srtI ns :=
  List.Perm.eq_of_pairwise (fun a b _ _ h1 h2 => Int.le_antisymm h1 h2) o (srtI_ord ns) (p.trans (srtI_perm ns).symm)
def lsort : PyData → R (List PyData)
  | .list xs => (match intsOf xs with
    | some ns => .ok ((srtI ns).map .int)
    | none => .stuck)
  | _ => .stuck
def fsort (f : PEnv → R PyData) : PEnv → R (List PyData) := fun ρ => (f ρ).bind lsort
@[simp] theorem fsort_ap (f : PEnv → R PyData) (ρ : PEnv) : fsort f ρ = (f ρ).bind lsort := rfl
section
variable {X : Cx} {W : WX} {a : Expr} {fa : PEnv → R PyData}
theorem vrev_f {k : Nat} {p1 p2 p3 pos : Pos} (ha : VE X W a fa) : VFr X W (.Subscript a (.Slice none none (some (.UnaryOp .USub (.Constant (.int 1) k p1) p2)) p3) pos) (frev fa) := by
  obtain ⟨ta, pa, qa⟩ := ha.ex
  refine ⟨_, pe_revL pa, fun σ H B ρ Q s rf p => ?_⟩
  refine one qa s rf p fun d x H' B' ex sm dx pg => ?_
  cases dx <;> first | exact pg.elim | skip
  rename_i h1 h2
  exact ⟨_, _, rfl, .inl (Rd.mono ex.bh h1), fun q hq => pg q _ _ B' (ex.trans (Ext.own ex.bh hq)) upd_same (Same.free ex.hh hq) (Same.free ex.bh hq) (IsAll.reverse h2)⟩
end
end VL

namespace VL
open PySem PySem.Spec PyProof.Rows
theorem vall_bools (bs : List Bool) : vall [.list (bs.map .bool)] = .ok (.bool (bs.all id)) := by simp only [vall, boolsOf_map]
end VL

namespace VL
open PySem PySem.Spec PyProof.Rows L2

class Enc (α : Type) where
  e : α → PyData
open Enc (e)
structure Tup (α : Type) where
  l : List α
  deriving DecidableEq
structure T1 (α : Type) where
  a : α
  deriving DecidableEq
structure T3 (α β γ : Type) where
  a : α
  b : β
  c : γ
  deriving DecidableEq
structure T4 (α β γ δ : Type) where
  a : α
  b : β
  c : γ
  d : δ
  deriving DecidableEq
structure T5 (α β γ δ ε : Type) where
  a : α
  b : β
  c : γ
  d : δ
  x : ε
  deriving DecidableEq
structure T6 (α β γ δ ε ζ : Type) where
  a : α
  b : β
  c : γ
  d : δ
  x : ε
  y : ζ
  deriving DecidableEq
structure T7 (α β γ δ ε ζ η : Type) where
  a : α
  b : β
  c : γ
  d : δ
  x : ε
  y : ζ
  z : η
  deriving DecidableEq
instance : Enc Int := ⟨.int⟩
instance : Enc Bool := ⟨.bool⟩
instance : Enc Str := ⟨.str⟩
instance : Enc Unit := ⟨fun _ => .none⟩
instance : Enc PyData := ⟨fun d => d⟩
section
variable {α β γ δ ε ζ η θ ι : Type} [Enc α] [Enc β] [Enc γ] [Enc δ] [Enc ε] [Enc ζ] [Enc η] [Enc θ] [Enc ι]
instance : Enc (List α) := ⟨fun xs => .list (xs.map Enc.e)⟩
instance : Enc (Tup α) := ⟨fun xs => .tuple (xs.l.map Enc.e)⟩
instance : Enc (T1 α) := ⟨fun p => .tuple [e p.a]⟩
instance : Enc (α × β) := ⟨fun p => .tuple [e p.1, e p.2]⟩
instance : Enc (T3 α β γ) := ⟨fun p => .tuple [e p.a, e p.b, e p.c]⟩
instance : Enc (T4 α β γ δ) := ⟨fun p => .tuple [e p.a, e p.b, e p.c, e p.d]⟩
instance : Enc (T5 α β γ δ ε) := ⟨fun p => .tuple [e p.a, e p.b, e p.c, e p.d, e p.x]⟩
instance : Enc (T6 α β γ δ ε ζ) := ⟨fun p => .tuple [e p.a, e p.b, e p.c, e p.d, e p.x, e p.y]⟩
instance : Enc (T7 α β γ δ ε ζ η) := ⟨fun p => .tuple [e p.a, e p.b, e p.c, e p.d, e p.x, e p.y, e p.z]⟩
instance : Enc (Option α) := ⟨fun o => match o with | none => .none | some a => e a⟩
end

def TQ {α γ : Type} (f : α → γ) (x : R γ) (t : R α) : Prop := match t with
  | .ok a => x = .ok (f a)
  | .err c => x = .err c
  | .stuck => True
theorem TQ.ok {α γ : Type} {f : α → γ} {x : R γ} {t : R α} {a : α} (h : TQ f x t) (e : t = .ok a) : x = .ok (f a) := by subst e; exact h
theorem TQ.er {α γ : Type} {f : α → γ} {x : R γ} {t : R α} {c : Str} (h : TQ f x t) (e : t = .err c) : x = .err c := by subst e; exact h
theorem TQ.bind {α γ α' γ' : Type} {f : α → γ} {f' : α' → γ'} {x : R γ} {t : R α} {k : γ → R γ'} {l : α → R α'} (h : TQ f x t) (hk : ∀ a, TQ f' (k (f a)) (l a)) : TQ f' (x.bind k) (t.bind l) := by
  cases t with
  | stuck => trivial
  | err c => show TQ f' (x.bind k) (.err c); rw [show x = .err c from h]; rfl
  | ok a => rw [show x = .ok (f a) from h]; exact hk a
abbrev TEq {α : Type} [Enc α] (x : R PyData) (t : R α) : Prop := TQ Enc.e x t
abbrev TL {α : Type} [Enc α] (x : R (List PyData)) (t : R (List α)) : Prop := TQ (List.map Enc.e) x t
abbrev TB (x t : R Bool) : Prop := TQ (fun b => b) x t
abbrev TO (x t : R (Option Int)) : Prop := TQ (fun b => b) x t
def b1 {α β : Type} (f : α → R β) (s : R α) : R β := s.bind f
def b2 {α β γ : Type} (f : α → β → R γ) (s : R α) (t : R β) : R γ := s.bind fun a => t.bind fun b => f a b
def b3 {α β γ δ : Type} (f : α → β → γ → R δ) (s : R α) (t : R β) (u : R γ) : R δ := s.bind fun a => t.bind fun b => u.bind fun c => f a b c
def b4 {α β γ δ ε : Type} (f : α → β → γ → δ → R ε) (s : R α) (t : R β) (u : R γ) (v : R δ) : R ε := s.bind fun a => t.bind fun b => u.bind fun c => v.bind fun d => f a b c d
def b5 {α β γ δ ε ζ : Type} (f : α → β → γ → δ → ε → R ζ) (s : R α) (t : R β) (u : R γ) (v : R δ) (w : R ε) : R ζ := s.bind fun a => t.bind fun b => u.bind fun c => v.bind fun d => w.bind fun x => f a b c d x
def b6 {α β γ δ ε ζ η : Type} (f : α → β → γ → δ → ε → ζ → R η) (s : R α) (t : R β) (u : R γ) (v : R δ) (w : R ε) (r : R ζ) : R η := s.bind fun a => t.bind fun b => u.bind fun c => v.bind fun d => w.bind fun x => r.bind fun y => f a b c d x y
def b7 {α β γ δ ε ζ η θ : Type} (f : α → β → γ → δ → ε → ζ → η → R θ) (s : R α) (t : R β) (u : R γ) (v : R δ) (w : R ε) (r : R ζ) (q : R η) : R θ := s.bind fun a => t.bind fun b => u.bind fun c => v.bind fun d => w.bind fun x => r.bind fun y => q.bind fun z => f a b c d x y z
def bite {α : Type} (c : R Bool) (s t : R α) : R α := c.bind fun b => if b then s else t
@[simp] theorem b1_ap {α β : Type} (f : α → R β) (s : R α) : b1 f s = s.bind f := rfl
@[simp] theorem b2_ap {α β γ : Type} (f : α → β → R γ) (s : R α) (t : R β) : b2 f s t = s.bind fun a => t.bind fun b => f a b := rfl
@[simp] theorem b3_ap {α β γ δ : Type} (f : α → β → γ → R δ) (s : R α) (t : R β) (u : R γ) : b3 f s t u = s.bind fun a => t.bind fun b => u.bind fun c => f a b c := rfl
@[simp] theorem b4_ap {α β γ δ ε : Type} (f : α → β → γ → δ → R ε) (s : R α) (t : R β) (u : R γ) (v : R δ) : b4 f s t u v = s.bind fun a => t.bind fun b => u.bind fun c => v.bind fun d => f a b c d := rfl
@[simp] theorem b5_ap {α β γ δ ε ζ : Type} (f : α → β → γ → δ → ε → R ζ) (s : R α) (t : R β) (u : R γ) (v : R δ) (w : R ε) : b5 f s t u v w = s.bind fun a => t.bind fun b => u.bind fun c => v.bind fun d => w.bind fun x => f a b c d x := rfl
@[simp] theorem b6_ap {α β γ δ ε ζ η : Type} (f : α → β → γ → δ → ε → ζ → R η) (s : R α) (t : R β) (u : R γ) (v : R δ) (w : R ε) (r : R ζ) : b6 f s t u v w r = s.bind fun a => t.bind fun b => u.bind fun c => v.bind fun d => w.bind fun x => r.bind fun y => f a b c d x y := rfl
@[simp] theorem b7_ap {α β γ δ ε ζ η θ : Type} (f : α → β → γ → δ → ε → ζ → η → R θ) (s : R α) (t : R β) (u : R γ) (v : R δ) (w : R ε) (r : R ζ) (q : R η) : b7 f s t u v w r q = s.bind fun a => t.bind fun b => u.bind fun c => v.bind fun d => w.bind fun x => r.bind fun y => q.bind fun z => f a b c d x y z := rfl
@[simp] theorem bite_ap {α : Type} (c : R Bool) (s t : R α) : bite c s t = c.bind fun b => if b then s else t := rfl
@[simp] theorem R.bind_assoc {α β γ : Type} (x : R α) (f : α → R β) (g : β → R γ) : (x.bind f).bind g = x.bind fun a => (f a).bind g := by cases x <;> rfl
theorem R.bind_ite {α β : Type} (p : Prop) [Decidable p] (x y : R α) (f : α → R β) : (if p then x else y).bind f = if p then x.bind f else y.bind f := by split <;> rfl

def taddI (a b : Int) : R Int := .ok (a + b)
def tsubI (a b : Int) : R Int := .ok (a - b)
noncomputable def tmulI (a b : Int) : R Int := open Classical in if IntMulOk a b then .ok (a * b) else .stuck
noncomputable def tfdivI (a b : Int) : R Int := @ite _ (0 < b ∧ b < 2 ^ 250) (Classical.propDecidable _) (.ok (a / b)) .stuck
def tmodI (a b : Int) : R Int := if 0 < b then .ok (a % b) else .stuck
noncomputable def tpowI (a b : Int) : R Int := @ite _ (0 ≤ b ∧ b ≤ 1000 ∧ a.natAbs < 2 ^ 64) (Classical.propDecidable _) (.ok (a ^ b.toNat)) .stuck
def tnegI (a : Int) : R Int := .ok (-a)
def tltI (a b : Int) : R Bool := .ok (decide (a < b))
def tleI (a b : Int) : R Bool := .ok (decide (a ≤ b))
def tgtI (a b : Int) : R Bool := .ok (decide (b < a))
def tgeI (a b : Int) : R Bool := .ok (decide (b ≤ a))
def taddL {α : Type} (a b : List α) : R (List α) := if a.length + b.length ≤ 16777216 then .ok (a ++ b) else .stuck
def tidx {α : Type} (xs : List α) (i : Int) : R α := match atI xs i with | some d => .ok d | none => .stuck
def tidxV {α : Type} (xs : Tup α) (i : Int) : R α := tidx xs.l i
def tlen {α : Type} (xs : List α) : R Int := .ok xs.length
def tlenV {α : Type} (xs : Tup α) : R Int := .ok xs.l.length
def tint (i : Int) : R Int := .ok i
def tintB (b : Bool) : R Int := .ok (if b then 1 else 0)
def tabs (i : Int) : R Int := .ok (if i < 0 then -i else i)
def ttupL {α : Type} (xs : List α) : R (Tup α) := .ok ⟨xs⟩
def tlistV {α : Type} (xs : Tup α) : R (List α) := .ok xs.l
def tid {α : Type} (x : α) : R α := .ok x
def tsum (xs : List Int) : R Int := .ok xs.sum
def tmax2 (i j : Int) : R Int := .ok (if j > i then j else i)
def tmin2 (i j : Int) : R Int := .ok (if j < i then j else i)
def tmax3 (i j k : Int) : R Int := .ok (max (max i j) k)
def tmin3 (i j k : Int) : R Int := .ok (min (min i j) k)
def tallB (xs : List Bool) : R Bool := .ok (xs.all id)
def tanyB (xs : List Bool) : R Bool := .ok (xs.any id)
def cutG {α : Type} (xs : List α) (lo hi : Option Int) : List α := (xs.drop (HT.sIx xs.length 0 lo)).take (HT.sIx xs.length xs.length hi - HT.sIx xs.length 0 lo)
def tcut {α : Type} (xs : List α) (lo hi : Option Int) : R (List α) := .ok (cutG xs lo hi)
def tcutV {α : Type} (xs : Tup α) (lo hi : Option Int) : R (Tup α) := .ok ⟨cutG xs.l lo hi⟩
def tpart (i : Int) : R (Option Int) := .ok (some i)
def rangeI (lo : Int) (n : Nat) : List Int := (List.range n).map fun i : Nat => lo + (i : Int)
noncomputable def trange1 (j : Int) : R (List Int) := if rngOk 0 j then .ok (rangeI 0 j.toNat) else .stuck
noncomputable def trange2 (i j : Int) : R (List Int) := if rngOk i j then .ok (rangeI i (j - i).toNat) else .stuck
def tenum {α : Type} (xs : List α) : R (List (Int × α)) := .ok (xs.mapIdx fun i d => ((i : Int), d))
def tzip {α β : Type} (xs : List α) (ys : List β) : R (List (α × β)) := .ok (List.zipWith (fun a b => (a, b)) xs ys)
def trev {α : Type} (xs : List α) : R (List α) := .ok xs.reverse
def tsort (xs : List Int) : R (List Int) := .ok (srtI xs)
def tseqV {α : Type} (xs : Tup α) : R (List α) := .ok xs.l
def tnotB (b : Bool) : R Bool := .ok (!b)
def tandB (s t : R Bool) : R Bool := s.bind fun b => if b then t else .ok false
def torB (s t : R Bool) : R Bool := s.bind fun b => if b then .ok true else t
def tchain {α β γ : Type} (g : α → β → R Bool) (g' : β → γ → R Bool) (s : R α) (t : R β) (u : R γ) : R Bool := s.bind fun a => t.bind fun b => (g a b).bind fun k => if k then u.bind fun c => g' b c else .ok false
def ttruI (i : Int) : R Bool := .ok (i != 0)
def ttruL {α : Type} (xs : List α) : R Bool := .ok (!xs.isEmpty)
def ttruV {α : Type} (xs : Tup α) : R Bool := .ok (!xs.l.isEmpty)
def tisnoneD (d : PyData) : R Bool := .ok (match d with | .none => true | _ => false)
def tisnoneO {α : Type} (o : Option α) : R Bool := .ok o.isNone
def tcons {α : Type} (s : R α) (t : R (List α)) : R (List α) := s.bind fun a => t.bind fun as => .ok (a :: as)
def tcomp {α β : Type} (c : α → R Bool) (f : α → R β) : List α → R (List β)
  | [] => .ok []
  | a :: as => ((c a).calm).bind fun b => if b then ((f a).calm).bind fun y => (tcomp c f as).bind fun ys => .ok (y :: ys) else tcomp c f as
def tmap {α β : Type} (f : α → R β) : List α → R (List β)
  | [] => .ok []
  | a :: as => ((f a).calm).bind fun y => (tmap f as).bind fun ys => .ok (y :: ys)
def tpair {α β : Type} (s : R α) (t : R β) : R (α × β) := s.bind fun a => t.bind fun b => .ok (a, b)
@[simp] theorem taddI_ap (a b : Int) : taddI a b = .ok (a + b) := rfl
@[simp] theorem tsubI_ap (a b : Int) : tsubI a b = .ok (a - b) := rfl
@[simp] theorem tnegI_ap (a : Int) : tnegI a = .ok (-a) := rfl
@[simp] theorem tltI_ap (a b : Int) : tltI a b = .ok (decide (a < b)) := rfl
@[simp] theorem tleI_ap (a b : Int) : tleI a b = .ok (decide (a ≤ b)) := rfl
@[simp] theorem tgtI_ap (a b : Int) : tgtI a b = .ok (decide (b < a)) := rfl
@[simp] theorem tgeI_ap (a b : Int) : tgeI a b = .ok (decide (b ≤ a)) := rfl
@[simp] theorem tlen_ap {α : Type} (xs : List α) : tlen xs = .ok (xs.length : Int) := rfl
@[simp] theorem tlenV_ap {α : Type} (xs : Tup α) : tlenV xs = .ok (xs.l.length : Int) := rfl
@[simp] theorem tint_ap (i : Int) : tint i = .ok i := rfl
@[simp] theorem tintB_ap (b : Bool) : tintB b = .ok (if b then 1 else 0) := rfl
@[simp] theorem tabs_ap (i : Int) : tabs i = .ok (if i < 0 then -i else i) := rfl
@[simp] theorem ttupL_ap {α : Type} (xs : List α) : ttupL xs = .ok ⟨xs⟩ := rfl
@[simp] theorem tlistV_ap {α : Type} (xs : Tup α) : tlistV xs = .ok xs.l := rfl
@[simp] theorem tid_ap {α : Type} (x : α) : tid x = .ok x := rfl
@[simp] theorem tsum_ap (xs : List Int) : tsum xs = .ok xs.sum := rfl
@[simp] theorem tmax2_ap (i j : Int) : tmax2 i j = .ok (if j > i then j else i) := rfl
@[simp] theorem tmin2_ap (i j : Int) : tmin2 i j = .ok (if j < i then j else i) := rfl
@[simp] theorem tmax3_ap (i j k : Int) : tmax3 i j k = .ok (max (max i j) k) := rfl
@[simp] theorem tmin3_ap (i j k : Int) : tmin3 i j k = .ok (min (min i j) k) := rfl
@[simp] theorem tallB_ap (xs : List Bool) : tallB xs = .ok (xs.all id) := rfl
@[simp] theorem tanyB_ap (xs : List Bool) : tanyB xs = .ok (xs.any id) := rfl
@[simp] theorem tcut_ap {α : Type} (xs : List α) (lo hi : Option Int) : tcut xs lo hi = .ok (cutG xs lo hi) := rfl
@[simp] theorem tcutV_ap {α : Type} (xs : Tup α) (lo hi : Option Int) : tcutV xs lo hi = .ok ⟨cutG xs.l lo hi⟩ := rfl
@[simp] theorem tpart_ap (i : Int) : tpart i = .ok (some i) := rfl
@[simp] theorem tenum_ap {α : Type} (xs : List α) : tenum xs = .ok (xs.mapIdx fun i d => ((i : Int), d)) := rfl
@[simp] theorem tzip_ap {α β : Type} (xs : List α) (ys : List β) : tzip xs ys = .ok (List.zipWith (fun a b => (a, b)) xs ys) := rfl
@[simp] theorem trev_ap {α : Type} (xs : List α) : trev xs = .ok xs.reverse := rfl
@[simp] theorem tsort_ap (xs : List Int) : tsort xs = .ok (srtI xs) := rfl
@[simp] theorem tseqV_ap {α : Type} (xs : Tup α) : tseqV xs = .ok xs.l := rfl
@[simp] theorem tnotB_ap (b : Bool) : tnotB b = .ok (!b) := rfl
@[simp] theorem tandB_ap (s t : R Bool) : tandB s t = s.bind fun b => if b then t else .ok false := rfl
@[simp] theorem torB_ap (s t : R Bool) : torB s t = s.bind fun b => if b then .ok true else t := rfl
@[simp] theorem tchain_ap {α β γ : Type} (g : α → β → R Bool) (g' : β → γ → R Bool) (s : R α) (t : R β) (u : R γ) : tchain g g' s t u = s.bind fun a => t.bind fun b => (g a b).bind fun k => if k then u.bind fun c => g' b c else .ok false := rfl
@[simp] theorem ttruI_ap (i : Int) : ttruI i = .ok (i != 0) := rfl
@[simp] theorem ttruL_ap {α : Type} (xs : List α) : ttruL xs = .ok (!xs.isEmpty) := rfl
@[simp] theorem ttruV_ap {α : Type} (xs : Tup α) : ttruV xs = .ok (!xs.l.isEmpty) := rfl
@[simp] theorem tisnoneO_ap {α : Type} (o : Option α) : tisnoneO o = .ok o.isNone := rfl
@[simp] theorem tisnoneD_ap (d : PyData) : tisnoneD d = .ok (match d with | .none => true | _ => false) := rfl
@[simp] theorem tcons_ap {α : Type} (s : R α) (t : R (List α)) : tcons s t = s.bind fun a => t.bind fun as => .ok (a :: as) := rfl
@[simp] theorem tpair_ap {α β : Type} (s : R α) (t : R β) : tpair s t = s.bind fun a => t.bind fun b => .ok (a, b) := rfl
@[simp] theorem tidxV_ap {α : Type} (xs : Tup α) (i : Int) : tidxV xs i = tidx xs.l i := rfl

class EqE (α : Type) [Enc α] where
  dec : DecidableEq α
  ok : α → Prop
  dep : Nat
  lay : ∀ a, ok a → okS dep (e a)
  eqv : ∀ a b : α, ok a → ok b → PyData.eqv (e a) (e b) = @decide (a = b) (dec a b)
instance : EqE Int where
  dec := inferInstance
  ok := fun _ => True
  dep := 1
  lay := fun _ _ => trivial
  eqv := fun a b _ _ => by simp [Enc.e, PyData.eqv, Bool.beq_eq_decide_eq]
instance : EqE Bool where
  dec := inferInstance
  ok := fun _ => True
  dep := 1
  lay := fun _ _ => trivial
  eqv := fun a b _ _ => by simp [Enc.e, PyData.eqv, Bool.beq_eq_decide_eq]
instance : EqE Str where
  dec := inferInstance
  ok := fun s => PyData.strOk s = true
  dep := 1
  lay := fun _ h => h
  eqv := fun a b _ _ => by simp [Enc.e, PyData.eqv, Bool.beq_eq_decide_eq]
instance : EqE Unit where
  dec := inferInstance
  ok := fun _ => True
  dep := 1
  lay := fun _ _ => trivial
  eqv := fun a b _ _ => by simp [Enc.e, PyData.eqv]
section
variable {α β γ δ ε ζ η : Type} [Enc α] [Enc β] [Enc γ] [Enc δ] [Enc ε] [Enc ζ] [Enc η]
theorem eqvAll_map [q : EqE α] : ∀ xs ys : List α, (∀ x ∈ xs, EqE.ok x) → (∀ x ∈ ys, EqE.ok x) → PyData.eqvAll (xs.map e) (ys.map e) = (@List.hasDecEq α q.dec xs ys).decide
  | [], [], _, _ => by simp [PyData.eqvAll]
  | [], _ :: _, _, _ => by simp [PyData.eqvAll]
  | _ :: _, [], _, _ => by simp [PyData.eqvAll]
  | x :: xs, y :: ys, h, g => by
    have ih := eqvAll_map xs ys (fun z hz => h z (List.mem_cons_of_mem _ hz)) fun z hz => g z (List.mem_cons_of_mem _ hz)
    have ix := EqE.eqv x y (h x List.mem_cons_self) (g y List.mem_cons_self)
    simp only [List.map_cons, PyData.eqvAll, ix, ih]
    rw [Bool.eq_iff_iff]
    simp
instance [q : EqE α] : EqE (List α) where
  dec := @List.hasDecEq α q.dec
  ok := fun xs => xs.length ≤ 16777216 ∧ ∀ x ∈ xs, EqE.ok x
  dep := EqE.dep α + 1
  lay := fun xs h => ⟨by rw [List.length_map]; exact h.1, fun x hx => by
    obtain ⟨a, ha, rfl⟩ := List.mem_map.mp hx
    exact EqE.lay a (h.2 a ha)⟩
  eqv := fun xs ys h g => by
    show PyData.eqv (.list _) (.list _) = _
    simp only [PyData.eqv]
    exact eqvAll_map xs ys h.2 g.2
instance [q : EqE α] : EqE (Tup α) where
  dec := fun a b => @instDecidableEqTup.decEq α q.dec a b
  ok := fun xs => xs.l.length ≤ 16777216 ∧ ∀ x ∈ xs.l, EqE.ok x
  dep := EqE.dep α + 1
  lay := fun xs h => ⟨by rw [List.length_map]; exact h.1, fun x hx => by
    obtain ⟨a, ha, rfl⟩ := List.mem_map.mp hx
    exact EqE.lay a (h.2 a ha)⟩
  eqv := fun xs ys h g => by
    obtain ⟨xs⟩ := xs
    obtain ⟨ys⟩ := ys
    show PyData.eqv (.tuple _) (.tuple _) = _
    simp only [PyData.eqv]
    rw [eqvAll_map xs ys h.2 g.2, Bool.eq_iff_iff]
    simp
theorem okS_m {n m : Nat} {d : PyData} (h : okS n d) (l : n ≤ m) : okS m d := okS.mono l h
instance [q : EqE α] : EqE (T1 α) where
  dec := fun a b => @instDecidableEqT1.decEq α q.dec a b
  ok := fun p => EqE.ok p.a
  dep := EqE.dep α + 1
  lay := fun p h => ⟨by simp, fun x hx => by
    rw [List.mem_singleton.mp hx]
    exact EqE.lay p.a h⟩
  eqv := fun p q h g => by
    obtain ⟨a⟩ := p
    obtain ⟨b⟩ := q
    show PyData.eqv (.tuple [e a]) (.tuple [e b]) = _
    simp only [PyData.eqv, PyData.eqvAll]
    rw [EqE.eqv a b h g, Bool.eq_iff_iff]
    simp
instance [q : EqE α] [r : EqE β] : EqE (α × β) where
  dec := @instDecidableEqProd α β q.dec r.dec
  ok := fun p => EqE.ok p.1 ∧ EqE.ok p.2
  dep := max (EqE.dep α) (EqE.dep β) + 1
  lay := fun p h => ⟨by simp, fun x hx => by
    simp only [List.mem_cons, List.not_mem_nil, or_false] at hx
    rcases hx with rfl | rfl
    · exact okS_m (EqE.lay _ h.1) (by omega)
    · exact okS_m (EqE.lay _ h.2) (by omega)⟩
  eqv := fun p q h g => by
    obtain ⟨a, b⟩ := p
    obtain ⟨c, d⟩ := q
    show PyData.eqv (.tuple [e a, e b]) (.tuple [e c, e d]) = _
    simp only [PyData.eqv, PyData.eqvAll]
    rw [EqE.eqv a c h.1 g.1, EqE.eqv b d h.2 g.2, Bool.eq_iff_iff]
    simp
instance [q : EqE α] [r : EqE β] [s : EqE γ] : EqE (T3 α β γ) where
  dec := fun a b => @instDecidableEqT3.decEq α β γ q.dec r.dec s.dec a b
  ok := fun p => EqE.ok p.a ∧ EqE.ok p.b ∧ EqE.ok p.c
  dep := max (EqE.dep α) (max (EqE.dep β) (EqE.dep γ)) + 1
  lay := fun p h => ⟨by simp, fun x hx => by
    simp only [List.mem_cons, List.not_mem_nil, or_false] at hx
    rcases hx with rfl | rfl | rfl
    · exact okS_m (EqE.lay _ h.1) (by omega)
    · exact okS_m (EqE.lay _ h.2.1) (by omega)
    · exact okS_m (EqE.lay _ h.2.2) (by omega)⟩
  eqv := fun p q h g => by
    obtain ⟨a, b, c⟩ := p
    obtain ⟨a', b', c'⟩ := q
    show PyData.eqv (.tuple [e a, e b, e c]) (.tuple [e a', e b', e c']) = _
    simp only [PyData.eqv, PyData.eqvAll]
    rw [EqE.eqv a a' h.1 g.1, EqE.eqv b b' h.2.1 g.2.1, EqE.eqv c c' h.2.2 g.2.2, Bool.eq_iff_iff]
    simp
instance [q : EqE α] [r : EqE β] [s : EqE γ] [t : EqE δ] : EqE (T4 α β γ δ) where
  dec := fun a b => @instDecidableEqT4.decEq α β γ δ q.dec r.dec s.dec t.dec a b
  ok := fun p => EqE.ok p.a ∧ EqE.ok p.b ∧ EqE.ok p.c ∧ EqE.ok p.d
  dep := max (max (EqE.dep α) (EqE.dep β)) (max (EqE.dep γ) (EqE.dep δ)) + 1
  lay := fun p h => ⟨by simp, fun x hx => by
    simp only [List.mem_cons, List.not_mem_nil, or_false] at hx
    rcases hx with rfl | rfl | rfl | rfl
    · exact okS_m (EqE.lay _ h.1) (by omega)
    · exact okS_m (EqE.lay _ h.2.1) (by omega)
    · exact okS_m (EqE.lay _ h.2.2.1) (by omega)
    · exact okS_m (EqE.lay _ h.2.2.2) (by omega)⟩
  eqv := fun p q h g => by
    obtain ⟨a, b, c, d⟩ := p
    obtain ⟨a', b', c', d'⟩ := q
    show PyData.eqv (.tuple [e a, e b, e c, e d]) (.tuple [e a', e b', e c', e d']) = _
    simp only [PyData.eqv, PyData.eqvAll]
    rw [EqE.eqv a a' h.1 g.1, EqE.eqv b b' h.2.1 g.2.1, EqE.eqv c c' h.2.2.1 g.2.2.1, EqE.eqv d d' h.2.2.2 g.2.2.2, Bool.eq_iff_iff]
    simp
end
noncomputable def teq {α : Type} [Enc α] [q : EqE α] (a b : α) : R Bool := @ite _ (EqE.ok a ∧ EqE.ok b) (Classical.propDecidable _) (.ok (@decide (a = b) (q.dec a b))) .stuck
noncomputable def tne {α : Type} [Enc α] [q : EqE α] (a b : α) : R Bool := @ite _ (EqE.ok a ∧ EqE.ok b) (Classical.propDecidable _) (.ok (!@decide (a = b) (q.dec a b))) .stuck
noncomputable def tin {α : Type} [Enc α] [q : EqE α] (a : α) (xs : List α) : R Bool := @ite _ (EqE.ok a ∧ EqE.ok xs) (Classical.propDecidable _) (.ok (xs.any fun x => @decide (x = a) (q.dec x a))) .stuck
noncomputable def tnin {α : Type} [Enc α] [q : EqE α] (a : α) (xs : List α) : R Bool := @ite _ (EqE.ok a ∧ EqE.ok xs) (Classical.propDecidable _) (.ok (!xs.any fun x => @decide (x = a) (q.dec x a))) .stuck
@[simp] theorem ok_int (a : Int) : EqE.ok a = True := rfl
@[simp] theorem ok_bool (a : Bool) : EqE.ok a = True := rfl
@[simp] theorem ok_unit (a : Unit) : EqE.ok a = True := rfl
@[simp] theorem ok_str (a : Str) : EqE.ok a = (PyData.strOk a = true) := rfl
section
variable {α β γ δ : Type} [Enc α] [Enc β] [Enc γ] [Enc δ]
@[simp] theorem ok_list [EqE α] (a : List α) : EqE.ok a = (a.length ≤ 16777216 ∧ ∀ x ∈ a, EqE.ok x) := rfl
@[simp] theorem ok_vt [EqE α] (a : Tup α) : EqE.ok a = (a.l.length ≤ 16777216 ∧ ∀ x ∈ a.l, EqE.ok x) := rfl
@[simp] theorem ok_t1 [EqE α] (p : T1 α) : EqE.ok p = EqE.ok p.a := rfl
@[simp] theorem ok_pair [EqE α] [EqE β] (p : α × β) : EqE.ok p = (EqE.ok p.1 ∧ EqE.ok p.2) := rfl
@[simp] theorem ok_t3 [EqE α] [EqE β] [EqE γ] (p : T3 α β γ) : EqE.ok p = (EqE.ok p.a ∧ EqE.ok p.b ∧ EqE.ok p.c) := rfl
@[simp] theorem ok_t4 [EqE α] [EqE β] [EqE γ] [EqE δ] (p : T4 α β γ δ) : EqE.ok p = (EqE.ok p.a ∧ EqE.ok p.b ∧ EqE.ok p.c ∧ EqE.ok p.d) := rfl
theorem teq_ok [q : EqE α] [DecidableEq α] {a b : α} (h : EqE.ok a) (g : EqE.ok b) : teq a b = .ok (decide (a = b)) := by unfold teq; rw [if_pos ⟨h, g⟩]; congr
theorem tne_ok [q : EqE α] [DecidableEq α] {a b : α} (h : EqE.ok a) (g : EqE.ok b) : tne a b = .ok (!decide (a = b)) := by unfold tne; rw [if_pos ⟨h, g⟩]; congr
theorem tin_ok [q : EqE α] [DecidableEq α] {a : α} {xs : List α} (h : EqE.ok a) (g : EqE.ok xs) : tin a xs = .ok (decide (a ∈ xs)) := by
  unfold tin; rw [if_pos ⟨h, g⟩]
  congr 1
  rw [Bool.eq_iff_iff]
  simp
theorem tnin_ok [q : EqE α] [DecidableEq α] {a : α} {xs : List α} (h : EqE.ok a) (g : EqE.ok xs) : tnin a xs = .ok (!decide (a ∈ xs)) := by
  unfold tnin; rw [if_pos ⟨h, g⟩]
  congr 2
  rw [Bool.eq_iff_iff]
  simp
@[simp] theorem teq_int (a b : Int) : teq a b = .ok (decide (a = b)) := teq_ok trivial trivial
@[simp] theorem tne_int (a b : Int) : tne a b = .ok (!decide (a = b)) := tne_ok trivial trivial
@[simp] theorem teq_bool (a b : Bool) : teq a b = .ok (decide (a = b)) := teq_ok trivial trivial
@[simp] theorem tne_bool (a b : Bool) : tne a b = .ok (!decide (a = b)) := tne_ok trivial trivial
theorem teq_rfl [q : EqE α] {a : α} (h : EqE.ok a) : teq a a = .ok true := by letI := q.dec; rw [teq_ok h h]; simp
theorem tne_rfl [q : EqE α] {a : α} (h : EqE.ok a) : tne a a = .ok false := by letI := q.dec; rw [tne_ok h h]; simp
end
class NN (α : Type) [Enc α] : Prop where
  nn : ∀ a : α, PyData.eqv .none (e a) = false ∧ PyData.eqv (e a) .none = false
instance : NN Int := ⟨fun _ => ⟨rfl, rfl⟩⟩
instance : NN Bool := ⟨fun _ => ⟨rfl, rfl⟩⟩
instance : NN Str := ⟨fun _ => ⟨rfl, rfl⟩⟩
instance {α : Type} [Enc α] : NN (List α) := ⟨fun _ => ⟨rfl, rfl⟩⟩
instance {α : Type} [Enc α] : NN (Tup α) := ⟨fun _ => ⟨rfl, rfl⟩⟩
instance {α : Type} [Enc α] : NN (T1 α) := ⟨fun _ => ⟨rfl, rfl⟩⟩
instance {α β : Type} [Enc α] [Enc β] : NN (α × β) := ⟨fun _ => ⟨rfl, rfl⟩⟩
instance {α β γ : Type} [Enc α] [Enc β] [Enc γ] : NN (T3 α β γ) := ⟨fun _ => ⟨rfl, rfl⟩⟩
instance {α β γ δ : Type} [Enc α] [Enc β] [Enc γ] [Enc δ] : NN (T4 α β γ δ) := ⟨fun _ => ⟨rfl, rfl⟩⟩
theorem dec_os {α : Type} (i : DecidableEq α) (j : DecidableEq (Option α)) (a b : α) : @decide (a = b) (i a b) = @decide (some a = some b) (j (some a) (some b)) := by
  by_cases h : a = b
  · rw [decide_eq_true h, decide_eq_true (congrArg some h)]
  · rw [decide_eq_false h, decide_eq_false fun k => h (Option.some.inj k)]
instance {α : Type} [Enc α] [q : EqE α] [n : NN α] : EqE (Option α) where
  dec := letI := q.dec; inferInstance
  ok := fun o => match o with | none => True | some a => EqE.ok a
  dep := EqE.dep α + 1
  lay := fun o h => by
    cases o with
    | none => exact trivial
    | some a => exact okS_m (EqE.lay a h) (by omega)
  eqv := fun a b h g => by
    cases a with
    | none => cases b with
      | none => rfl
      | some b => exact (NN.nn b).1
    | some a => cases b with
      | none => exact (NN.nn a).2
      | some b => exact (EqE.eqv a b h g).trans (dec_os _ _ _ _)
@[simp] theorem ok_onone {α : Type} [Enc α] [q : EqE α] [n : NN α] : EqE.ok (none : Option α) = True := rfl
@[simp] theorem ok_osome {α : Type} [Enc α] [q : EqE α] [n : NN α] (a : α) : EqE.ok (some a) = EqE.ok a := rfl
theorem ok_oint (a : Option Int) : EqE.ok a := by cases a <;> exact trivial
@[simp] theorem teq_oint (a b : Option Int) : teq a b = .ok (decide (a = b)) := teq_ok (ok_oint a) (ok_oint b)
@[simp] theorem tne_oint (a b : Option Int) : tne a b = .ok (!decide (a = b)) := tne_ok (ok_oint a) (ok_oint b)
end VL

namespace VL
open PySem PySem.Spec PyProof.Rows L2
open Enc (e)

section
variable {α β γ δ ε ζ η θ : Type} [Enc α] [Enc β] [Enc γ] [Enc δ] [Enc ε] [Enc ζ] [Enc η] [Enc θ] {ρ : PEnv} {f g h f1 f2 f3 f4 f5 f6 f7 : PEnv → R PyData}
theorem t_var (i : Nat) (a : α) (h : ρ[i]? = some (some (e a)) := by rfl) : TEq (vVar i ρ) (.ok a) := by
  show vVar i ρ = .ok (e a)
  unfold vVar; rw [h]
theorem t_varO (i : Nat) (ox : α → O) (a : α) (hd : ∀ a, O.data (ox a) = e a) (h : ρ[i]? = some (some (O.data (ox a))) := by rfl) : TEq (vVar i ρ) (.ok a) := by
  show vVar i ρ = .ok (e a)
  unfold vVar; rw [h, hd]
theorem t_c {d : PyData} (a : α) (h : d = e a := by rfl) : TEq (vC d ρ) (.ok a) := by rw [h]; exact rfl
theorem t_2 {op : PyData → PyData → R PyData} {top : α → β → R γ} {s : R α} {t : R β} (ho : ∀ a b, TEq (op (e a) (e b)) (top a b)) (ha : TEq (f ρ) s) (hb : TEq (g ρ) t) : TEq (v2 op f g ρ) (b2 top s t) :=
  ha.bind fun a => hb.bind fun b => ho a b
theorem t_1 {op : PyData → R PyData} {top : α → R γ} {s : R α} (ho : ∀ a, TEq (op (e a)) (top a)) (ha : TEq (f ρ) s) : TEq (v1 op f ρ) (b1 top s) := ha.bind ho
theorem t_tst {s : R Bool} (ha : TEq (f ρ) s) : TB (tst f ρ) s := by
  cases s with
  | stuck => trivial
  | err c => show (f ρ).bind tbool = _; rw [show f ρ = .err c from ha]; rfl
  | ok b => show (f ρ).bind tbool = _; rw [show f ρ = .ok (.bool b) from ha]; rfl
theorem t_ttr {s : R α} {top : α → R Bool} (ho : ∀ a, TB (vtruth (e a)) (top a)) (ha : TEq (f ρ) s) : TB (ttr f ρ) (b1 top s) := ha.bind ho
theorem t_tand {c d : PEnv → R Bool} {s t : R Bool} (ha : TB (c ρ) s) (hb : TB (d ρ) t) : TB (tand c d ρ) (tandB s t) := ha.bind fun b => by cases b <;> first | exact hb | exact rfl
theorem t_tor {c d : PEnv → R Bool} {s t : R Bool} (ha : TB (c ρ) s) (hb : TB (d ρ) t) : TB (tor c d ρ) (torB s t) := ha.bind fun b => by cases b <;> first | exact hb | exact rfl
theorem t_tnot {c : PEnv → R Bool} {s : R Bool} (ha : TB (c ρ) s) : TB (tnot c ρ) (b1 tnotB s) := ha.bind fun b => rfl
theorem t_vand {s t : R Bool} (ha : TEq (f ρ) s) (hb : TEq (g ρ) t) : TEq (vand f g ρ) (tandB s t) := ha.bind fun b => by cases b <;> first | exact hb | exact rfl
theorem t_vnot {s : R Bool} (ha : TEq (f ρ) s) : TEq (vnot f ρ) (b1 tnotB s) := ha.bind fun b => rfl
theorem t_vchain {op op' : PyData → PyData → R PyData} {top : α → β → R Bool} {top' : β → γ → R Bool} {s : R α} {t : R β} {u : R γ} (ho : ∀ a b, TEq (op (e a) (e b)) (top a b)) (ho' : ∀ a b, TEq (op' (e a) (e b)) (top' a b)) (ha : TEq (f ρ) s) (hb : TEq (g ρ) t) (hc : TEq (h ρ) u) : TEq (vchain op op' f g h ρ) (tchain top top' s t u) :=
  ha.bind fun a => hb.bind fun b => (ho a b).bind fun k => by
    cases k
    · exact rfl
    · exact hc.bind fun c => ho' b c
theorem t_call1 {m : List PyData → R PyData} {t : α → R β} (hm : ∀ a, TEq (m [e a]) (t a)) {s1 : R α} (h1 : TEq (f1 ρ) s1) : TEq (vapp m (aCons f1 aNil) ρ) (b1 t s1) := by
  show TEq (R.bind (R.bind (f1 ρ) fun d => .ok [d]) m) _
  rw [R.bind_assoc]
  exact h1.bind fun a => hm a
theorem t_call2 {m : List PyData → R PyData} {t : α → β → R γ} (hm : ∀ a b, TEq (m [e a, e b]) (t a b)) {s1 : R α} {s2 : R β} (h1 : TEq (f1 ρ) s1) (h2 : TEq (f2 ρ) s2) : TEq (vapp m (aCons f1 (aCons f2 aNil)) ρ) (b2 t s1 s2) := by
  simp only [vapp_ap, aCons_ap, aNil_ap, R.bind_assoc, R.bind_ok]
  exact h1.bind fun a => h2.bind fun b => hm a b
theorem t_call3 {m : List PyData → R PyData} {t : α → β → γ → R δ} (hm : ∀ a b c, TEq (m [e a, e b, e c]) (t a b c)) {s1 : R α} {s2 : R β} {s3 : R γ} (h1 : TEq (f1 ρ) s1) (h2 : TEq (f2 ρ) s2) (h3 : TEq (f3 ρ) s3) : TEq (vapp m (aCons f1 (aCons f2 (aCons f3 aNil))) ρ) (b3 t s1 s2 s3) := by
  simp only [vapp_ap, aCons_ap, aNil_ap, R.bind_assoc, R.bind_ok]
  exact h1.bind fun a => h2.bind fun b => h3.bind fun c => hm a b c
theorem t_call4 {m : List PyData → R PyData} {t : α → β → γ → δ → R ε} (hm : ∀ a b c d, TEq (m [e a, e b, e c, e d]) (t a b c d)) {s1 : R α} {s2 : R β} {s3 : R γ} {s4 : R δ} (h1 : TEq (f1 ρ) s1) (h2 : TEq (f2 ρ) s2) (h3 : TEq (f3 ρ) s3) (h4 : TEq (f4 ρ) s4) : TEq (vapp m (aCons f1 (aCons f2 (aCons f3 (aCons f4 aNil)))) ρ) (b4 t s1 s2 s3 s4) := by
  simp only [vapp_ap, aCons_ap, aNil_ap, R.bind_assoc, R.bind_ok]
  exact h1.bind fun a => h2.bind fun b => h3.bind fun c => h4.bind fun d => hm a b c d
theorem t_call5 {m : List PyData → R PyData} {t : α → β → γ → δ → ε → R ζ} (hm : ∀ a b c d x, TEq (m [e a, e b, e c, e d, e x]) (t a b c d x)) {s1 : R α} {s2 : R β} {s3 : R γ} {s4 : R δ} {s5 : R ε} (h1 : TEq (f1 ρ) s1) (h2 : TEq (f2 ρ) s2) (h3 : TEq (f3 ρ) s3) (h4 : TEq (f4 ρ) s4) (h5 : TEq (f5 ρ) s5) : TEq (vapp m (aCons f1 (aCons f2 (aCons f3 (aCons f4 (aCons f5 aNil))))) ρ) (b5 t s1 s2 s3 s4 s5) := by
  simp only [vapp_ap, aCons_ap, aNil_ap, R.bind_assoc, R.bind_ok]
  exact h1.bind fun a => h2.bind fun b => h3.bind fun c => h4.bind fun d => h5.bind fun x => hm a b c d x
def mk1 {α : Type} (a : α) : R (T1 α) := .ok ⟨a⟩
def mk2 {α β : Type} (a : α) (b : β) : R (α × β) := .ok (a, b)
def mk3 {α β γ : Type} (a : α) (b : β) (c : γ) : R (T3 α β γ) := .ok ⟨a, b, c⟩
def mk4 {α β γ δ : Type} (a : α) (b : β) (c : γ) (d : δ) : R (T4 α β γ δ) := .ok ⟨a, b, c, d⟩
def mk5 {α β γ δ ε : Type} (a : α) (b : β) (c : γ) (d : δ) (x : ε) : R (T5 α β γ δ ε) := .ok ⟨a, b, c, d, x⟩
def mk6 {α β γ δ ε ζ : Type} (a : α) (b : β) (c : γ) (d : δ) (x : ε) (y : ζ) : R (T6 α β γ δ ε ζ) := .ok ⟨a, b, c, d, x, y⟩
def mk7 {α β γ δ ε ζ η : Type} (a : α) (b : β) (c : γ) (d : δ) (x : ε) (y : ζ) (z : η) : R (T7 α β γ δ ε ζ η) := .ok ⟨a, b, c, d, x, y, z⟩
def mkV {α : Type} (xs : List α) : R (Tup α) := .ok ⟨xs⟩
@[simp] theorem mk1_ap {α : Type} (a : α) : mk1 a = .ok ⟨a⟩ := rfl
@[simp] theorem mk2_ap {α β : Type} (a : α) (b : β) : mk2 a b = .ok (a, b) := rfl
@[simp] theorem mk3_ap {α β γ : Type} (a : α) (b : β) (c : γ) : mk3 a b c = .ok ⟨a, b, c⟩ := rfl
@[simp] theorem mk4_ap {α β γ δ : Type} (a : α) (b : β) (c : γ) (d : δ) : mk4 a b c d = .ok ⟨a, b, c, d⟩ := rfl
@[simp] theorem mk5_ap {α β γ δ ε : Type} (a : α) (b : β) (c : γ) (d : δ) (x : ε) : mk5 a b c d x = .ok ⟨a, b, c, d, x⟩ := rfl
@[simp] theorem mk6_ap {α β γ δ ε ζ : Type} (a : α) (b : β) (c : γ) (d : δ) (x : ε) (y : ζ) : mk6 a b c d x y = .ok ⟨a, b, c, d, x, y⟩ := rfl
@[simp] theorem mk7_ap {α β γ δ ε ζ η : Type} (a : α) (b : β) (c : γ) (d : δ) (x : ε) (y : ζ) (z : η) : mk7 a b c d x y z = .ok ⟨a, b, c, d, x, y, z⟩ := rfl
@[simp] theorem mkV_ap {α : Type} (xs : List α) : mkV xs = .ok ⟨xs⟩ := rfl
theorem t_tup2 {s1 : R α} {s2 : R β} (h1 : TEq (f1 ρ) s1) (h2 : TEq (f2 ρ) s2) : TEq (vtup (aCons f1 (aCons f2 aNil)) ρ) (b2 mk2 s1 s2) := by
  simp only [vtup_ap, aCons_ap, aNil_ap, R.bind_assoc, R.bind_ok]
  exact h1.bind fun a => h2.bind fun b => rfl
theorem t_nil : TL (aNil ρ) (.ok ([] : List α)) := rfl
theorem t_cons {g : PEnv → R (List PyData)} {s : R α} {t : R (List α)} (ha : TEq (f ρ) s) (hb : TL (g ρ) t) : TL (aCons f g ρ) (tcons s t) := ha.bind fun a => hb.bind fun as => rfl
theorem t_tupV {g : PEnv → R (List PyData)} {s : R (List α)} (ha : TL (g ρ) s) : TEq (vtup g ρ) (b1 mkV s) := ha.bind fun as => rfl
theorem t_list {g : PEnv → R (List PyData)} {s : R (List α)} (ha : TL (g ρ) s) : TEq (vlistOf g ρ) s := by
  cases s with
  | stuck => trivial
  | err c => show (g ρ).bind _ = _; rw [show g ρ = .err c from ha]; rfl
  | ok b => show (g ρ).bind _ = _; rw [show g ρ = .ok (b.map e) from ha]; rfl
theorem t_isq {s : R (List α)} (ha : TEq (f ρ) s) : TL (isq f ρ) s := by
  cases s with
  | stuck => trivial
  | err c => show (f ρ).bind _ = _; rw [show f ρ = .err c from ha]; rfl
  | ok b => show (f ρ).bind _ = _; rw [show f ρ = .ok (e b) from ha]; rfl
def tseq2 {α : Type} (p : α × α) : R (List α) := .ok [p.1, p.2]
def tseq3 {α : Type} (p : T3 α α α) : R (List α) := .ok [p.a, p.b, p.c]
def tseq4 {α : Type} (p : T4 α α α α) : R (List α) := .ok [p.a, p.b, p.c, p.d]
@[simp] theorem tseq2_ap {α : Type} (p : α × α) : tseq2 p = .ok [p.1, p.2] := rfl
@[simp] theorem tseq3_ap {α : Type} (p : T3 α α α) : tseq3 p = .ok [p.a, p.b, p.c] := rfl
@[simp] theorem tseq4_ap {α : Type} (p : T4 α α α α) : tseq4 p = .ok [p.a, p.b, p.c, p.d] := rfl
theorem TL_id {x : R (List PyData)} : TL x x := by cases x with
  | stuck => trivial
  | err c => exact rfl
  | ok a => show R.ok a = .ok (a.map e); rw [show (e : PyData → PyData) = id from rfl, List.map_id]
theorem t_isqD {s : R PyData} (ha : TEq (f ρ) s) : TL (isq f ρ) (b1 seqD s) := ha.bind fun d => TL_id
theorem t_i1 {op : PyData → R (List PyData)} {top : α → R (List γ)} {s : R α} (ho : ∀ a, TL (op (e a)) (top a)) (ha : TEq (f ρ) s) : TL (i1 op f ρ) (b1 top s) := ha.bind ho
theorem t_i2 {op : PyData → PyData → R (List PyData)} {top : α → β → R (List γ)} {s : R α} {t : R β} (ho : ∀ a b, TL (op (e a) (e b)) (top a b)) (ha : TEq (f ρ) s) (hb : TEq (g ρ) t) : TL (i2 op f g ρ) (b2 top s t) := ha.bind fun a => hb.bind fun b => ho a b
theorem TQ.calm {α γ : Type} {f : α → γ} {x : R γ} {t : R α} (h : TQ f x t) : TQ f x.calm t.calm := by
  cases t with
  | stuck => trivial
  | err c => trivial
  | ok a => rw [show x = .ok (f a) from h]; exact rfl
theorem compL_T {kt : PyData → R (List (Nat × PyData))} {ft : PEnv → R Bool} {fe : PEnv → R PyData} {ρ : PEnv} {bs : β → List (Nat × PyData)} {k : α → R β} {c : β → R Bool} {t : β → R γ} (hk : ∀ a, TQ bs (kt (e a)) (k a)) (hc : ∀ b, TB (ft (setsD ρ (bs b))) (c b)) (hf : ∀ b, TEq (fe (setsD ρ (bs b))) (t b)) : ∀ xs : List α, TL (compL kt ft fe ρ (xs.map e)) (tcomp (fun a => (k a).bind c) (fun a => (k a).bind t) xs)
  | [] => rfl
  | a :: as => by
    have ih := compL_T hk hc hf as
    have h1 := hk a
    show TQ _ ((kt (e a)).bind _) ((((k a).bind c).calm).bind _)
    cases hka : k a with
    | stuck => trivial
    | err s => trivial
    | ok b =>
      rw [h1.ok hka]
      simp only [hka, R.bind_ok]
      refine (hc b).calm.bind fun z => ?_
      cases z with
      | false => exact ih
      | true =>
        simp only [if_true]
        exact (hf b).calm.bind (f' := List.map e) (k := fun d => (compL kt ft fe ρ (List.map e as)).bind fun ys => R.ok (d :: ys)) (l := fun y => (tcomp (fun a => (k a).bind c) (fun a => (k a).bind t) as).bind fun ys => .ok (y :: ys)) fun y => ih.bind (k := fun ys => .ok (e y :: ys)) (l := fun ys => .ok (y :: ys)) fun ys => (show TL (R.ok (e y :: List.map e ys)) (R.ok (y :: ys)) from rfl)
theorem t_comp {own : List Nat} {fi : PEnv → R (List PyData)} {kt : PyData → R (List (Nat × PyData))} {ft : PEnv → R Bool} {fe : PEnv → R PyData} {s : R (List α)} {c : β → R Bool} {t : β → R γ} (bs : β → List (Nat × PyData)) (k : α → R β) (hi : TL (fi ρ) s) (hk : ∀ a, TQ bs (kt (e a)) (k a)) (hc : ∀ b, TB (ft (setsD (wipeD ρ own) (bs b))) (c b)) (hf : ∀ b, TEq (fe (setsD (wipeD ρ own) (bs b))) (t b)) :
    TL (vcomp own fi kt ft fe ρ) (s.bind fun xs => (tcomp (fun a => (k a).bind c) (fun a => (k a).bind t) xs).calm) := hi.bind (l := fun xs => (tcomp (fun a => (k a).bind c) (fun a => (k a).bind t) xs).calm) fun xs => (compL_T hk hc hf xs).calm
theorem tcomp_yes {α γ : Type} (f : α → R γ) : ∀ xs : List α, tcomp (fun _ => .ok true) f xs = tmap f xs
  | [] => rfl
  | a :: as => by
    show R.bind _ _ = R.bind _ _
    simp only [calm_okk, R.bind_ok, if_true, tcomp_yes f as]
theorem t_map {own : List Nat} {fi : PEnv → R (List PyData)} {kt : PyData → R (List (Nat × PyData))} {fe : PEnv → R PyData} {s : R (List α)} {t : α → R γ} (bs : α → List (Nat × PyData)) (hi : TL (fi ρ) s) (hk : ∀ a, kt (e a) = .ok (bs a)) (hf : ∀ b, TEq (fe (setsD (wipeD ρ own) (bs b))) (t b)) :
    TL (vcomp own fi kt tyes fe ρ) (s.bind fun xs => (tmap t xs).calm) := by
  have h := t_comp (ρ := ρ) (own := own) (fi := fi) (kt := kt) (ft := tyes) (fe := fe) (c := fun _ => .ok true) (t := t) bs (fun a => .ok a) hi (fun a => hk a) (fun b => rfl) hf
  simp only [R.bind_ok, tcomp_yes] at h
  exact h
theorem t_fil {own : List Nat} {fi : PEnv → R (List PyData)} {kt : PyData → R (List (Nat × PyData))} {ft : PEnv → R Bool} {fe : PEnv → R PyData} {s : R (List α)} {c : α → R Bool} {t : α → R γ} (bs : α → List (Nat × PyData)) (hi : TL (fi ρ) s) (hk : ∀ a, kt (e a) = .ok (bs a)) (hc : ∀ b, TB (ft (setsD (wipeD ρ own) (bs b))) (c b)) (hf : ∀ b, TEq (fe (setsD (wipeD ρ own) (bs b))) (t b)) :
    TL (vcomp own fi kt ft fe ρ) (s.bind fun xs => (tcomp c t xs).calm) := by
  have h := t_comp (ρ := ρ) (own := own) (fi := fi) (kt := kt) (ft := ft) (fe := fe) (c := c) (t := t) bs (fun a => .ok a) hi (fun a => hk a) hc hf
  simp only [R.bind_ok] at h
  exact h
theorem t_part {s : R Int} (h : TEq (f ρ) s) : TO (vpart f ρ) (b1 tpart s) := h.bind fun _ => rfl
theorem t_nopart : TO (vnopart ρ) (.ok none) := rfl
theorem cut_map {α β : Type} (g : α → β) (xs : List α) (lo hi : Option Int) : cutG (xs.map g) lo hi = (cutG xs lo hi).map g := by
  unfold cutG
  rw [List.length_map, List.map_take, List.map_drop]
theorem t_slice {l u : PEnv → R (Option Int)} {s : R (List α)} {a b : R (Option Int)} (h : TEq (f ρ) s) (hl : TO (l ρ) a) (hu : TO (u ρ) b) : TEq (vslice f l u ρ) (b3 tcut s a b) :=
  h.bind fun xs => hl.bind fun lo => hu.bind fun hi => by
    show R.ok (PyData.list (cutL _ _ _)) = _
    exact congrArg (fun z => R.ok (PyData.list z)) (cut_map e xs lo hi)
theorem t_sliceD {l u : PEnv → R (Option Int)} {s : R PyData} {a b : R (Option Int)} (h : TEq (f ρ) s) (hl : TO (l ρ) a) (hu : TO (u ρ) b) : TEq (vslice f l u ρ) (b3 (fun d lo hi => vcut lo hi d) s a b) :=
  h.bind fun xs => hl.bind fun lo => hu.bind fun hi => by
    show TEq (vcut lo hi xs) (vcut lo hi xs)
    cases vcut lo hi xs <;> first | exact rfl | trivial
theorem t_frev {s : R (List α)} (h : TEq (f ρ) s) : TL (frev f ρ) (b1 trev s) := h.bind fun xs => by
  show R.ok _ = R.ok _
  rw [List.map_reverse]
theorem t_index {top : List α → β → R Int} {s : R (List α)} {t : R β} (ho : ∀ a b, TEq (vindex (e a) (e b)) (top a b)) (ha : TEq (f ρ) s) (hb : TEq (g ρ) t) : TEq (vindexF f g ρ) (b2 top s t) := ha.bind fun a => hb.bind fun b => ho a b
def Co (c : α → R β) : Prop := ∀ a, TEq (.ok (e a)) (c a)
theorem t_co {x : R PyData} {s : R α} {c : α → R β} (hc : Co c) (h : TEq x s) : TEq x (b1 c s) := by
  cases s with
  | stuck => trivial
  | err c => exact h
  | ok a => rw [show x = .ok (e a) from h]; exact hc a
def cUp (a : α) : R PyData := .ok (e a)
@[simp] theorem cUp_ap (a : α) : cUp a = .ok (e a) := rfl
theorem Co.up : Co (cUp : α → R PyData) := fun _ => rfl
def cInt : PyData → R Int | .int i => .ok i | _ => .stuck
theorem Co.int : Co cInt := fun d => by cases d <;> first | exact rfl | trivial
@[simp] theorem cInt_ap (i : Int) : cInt (.int i) = .ok i := rfl
def cBool : PyData → R Bool | .bool i => .ok i | _ => .stuck
theorem Co.bool : Co cBool := fun d => by cases d <;> first | exact rfl | trivial
@[simp] theorem cBool_ap (i : Bool) : cBool (.bool i) = .ok i := rfl
def cStr : PyData → R Str | .str i => .ok i | _ => .stuck
theorem Co.str : Co cStr := fun d => by cases d <;> first | exact rfl | trivial
@[simp] theorem cStr_ap (i : Str) : cStr (.str i) = .ok i := rfl
def cNil (_ : List Empty) : R (List α) := .ok []
instance : Enc Empty := ⟨fun x => nomatch x⟩
theorem Co.nil : Co (cNil : List Empty → R (List α)) := fun xs => by cases xs with
  | nil => exact rfl
  | cons x _ => exact nomatch x
@[simp] theorem cNil_ap (x : List Empty) : (cNil x : R (List α)) = .ok [] := rfl
theorem tmap_Co {c : α → R β} (hc : Co c) : ∀ xs : List α, TL (.ok (xs.map e)) (tmap c xs)
  | [] => rfl
  | a :: as => by
    have h1 := hc a
    have ih := tmap_Co hc as
    unfold tmap
    cases hca : c a with
    | stuck => trivial
    | err s => trivial
    | ok b =>
      rw [hca] at h1
      simp only [calm_okk, R.bind_ok]
      cases hcs : tmap c as with
      | stuck => trivial
      | err s => rw [hcs] at ih; exact nomatch (show R.ok (as.map e) = .err s from ih)
      | ok bs =>
        rw [hcs] at ih
        have e1 : R.ok (as.map e) = .ok (bs.map e) := ih
        have e2 : R.ok (e a) = .ok (e b) := h1
        show R.ok (e a :: as.map e) = .ok (e b :: bs.map e)
        rw [R.ok.inj e1, R.ok.inj e2]
theorem Co.list {c : α → R β} (hc : Co c) : Co (tmap c) := fun xs => by
  have h := tmap_Co hc xs
  generalize tmap c xs = t at h
  cases t with
  | stuck => trivial
  | err s => exact nomatch (show R.ok (xs.map e) = .err s from h)
  | ok ys => exact congrArg (fun z => R.ok (PyData.list z)) (R.ok.inj (show R.ok (xs.map e) = .ok (ys.map e) from h))
def cSome {α : Type} : Option α → R α | some a => .ok a | none => .stuck
@[simp] theorem cSome_ap {α : Type} (a : α) : cSome (some a) = .ok a := rfl
theorem Co.some : Co (cSome : Option α → R α) := fun o => by cases o <;> first | exact rfl | trivial
def cJust {α : Type} (a : α) : R (Option α) := .ok (some a)
@[simp] theorem cJust_ap {α : Type} (a : α) : cJust a = .ok (some a) := rfl
def cNone {α : Type} (_ : Unit) : R (Option α) := .ok none
@[simp] theorem cNone_ap {α : Type} (u : Unit) : (cNone u : R (Option α)) = .ok none := rfl
theorem Co.none : Co (cNone : Unit → R (Option α)) := fun a => rfl
def cP2 {α β γ δ : Type} (c : α → R γ) (d : β → R δ) (p : α × β) : R (γ × δ) := (c p.1).bind fun x => (d p.2).bind fun y => .ok (x, y)
@[simp] theorem cP2_ap {α β γ δ : Type} (c : α → R γ) (d : β → R δ) (p : α × β) : cP2 c d p = (c p.1).bind fun x => (d p.2).bind fun y => .ok (x, y) := rfl
theorem Co.p2 {c : α → R γ} {d : β → R δ} (hc : Co c) (hd : Co d) : Co (cP2 c d) := fun p => by
  have h1 := hc p.1
  have h2 := hd p.2
  unfold cP2
  cases hx : c p.1 with
  | stuck => trivial
  | err s => rw [hx] at h1; exact nomatch (show R.ok (e p.1) = .err s from h1)
  | ok x =>
    cases hy : d p.2 with
    | stuck => trivial
    | err s => rw [hy] at h2; exact nomatch (show R.ok (e p.2) = .err s from h2)
    | ok y =>
      rw [hx] at h1; rw [hy] at h2
      show R.ok (PyData.tuple [e p.1, e p.2]) = .ok (PyData.tuple [e x, e y])
      rw [R.ok.inj (show R.ok (e p.1) = .ok (e x) from h1), R.ok.inj (show R.ok (e p.2) = .ok (e y) from h2)]
def c2V {α : Type} (p : α × α) : R (Tup α) := .ok ⟨[p.1, p.2]⟩
def c3V {α : Type} (p : T3 α α α) : R (Tup α) := .ok ⟨[p.a, p.b, p.c]⟩
def c4V {α : Type} (p : T4 α α α α) : R (Tup α) := .ok ⟨[p.a, p.b, p.c, p.d]⟩
def c1V {α : Type} (p : T1 α) : R (Tup α) := .ok ⟨[p.a]⟩
@[simp] theorem c1V_ap {α : Type} (p : T1 α) : c1V p = .ok ⟨[p.a]⟩ := rfl
@[simp] theorem c2V_ap {α : Type} (p : α × α) : c2V p = .ok ⟨[p.1, p.2]⟩ := rfl
@[simp] theorem c3V_ap {α : Type} (p : T3 α α α) : c3V p = .ok ⟨[p.a, p.b, p.c]⟩ := rfl
@[simp] theorem c4V_ap {α : Type} (p : T4 α α α α) : c4V p = .ok ⟨[p.a, p.b, p.c, p.d]⟩ := rfl
theorem Co.t1 : Co (c1V : T1 α → R (Tup α)) := fun _ => rfl
theorem Co.t2 : Co (c2V : α × α → R (Tup α)) := fun _ => rfl
theorem Co.t3 : Co (c3V : T3 α α α → R (Tup α)) := fun _ => rfl
end
section
variable {α β γ δ α' β' γ' δ' : Type} [Enc α] [Enc β] [Enc γ] [Enc δ] [Enc α'] [Enc β'] [Enc γ'] [Enc δ']
theorem Co.inv {c : α → R β} (hc : Co c) (a : α) : c a = .stuck ∨ ∃ b, c a = .ok b ∧ e a = e b := by
  have h := hc a
  cases hx : c a with
  | stuck => exact .inl rfl
  | err s => rw [hx] at h; exact nomatch (show R.ok (e a) = .err s from h)
  | ok b => rw [hx] at h; exact .inr ⟨b, rfl, R.ok.inj (show R.ok (e a) = .ok (e b) from h)⟩
def cP3 (c : α → R α') (d : β → R β') (f : γ → R γ') (p : T3 α β γ) : R (T3 α' β' γ') := (c p.a).bind fun x => (d p.b).bind fun y => (f p.c).bind fun z => .ok ⟨x, y, z⟩
def cP4 (c : α → R α') (d : β → R β') (f : γ → R γ') (g : δ → R δ') (p : T4 α β γ δ) : R (T4 α' β' γ' δ') := (c p.a).bind fun x => (d p.b).bind fun y => (f p.c).bind fun z => (g p.d).bind fun w => .ok ⟨x, y, z, w⟩
@[simp] theorem cP3_ap (c : α → R α') (d : β → R β') (f : γ → R γ') (p : T3 α β γ) : cP3 c d f p = (c p.a).bind fun x => (d p.b).bind fun y => (f p.c).bind fun z => .ok ⟨x, y, z⟩ := rfl
@[simp] theorem cP4_ap (c : α → R α') (d : β → R β') (f : γ → R γ') (g : δ → R δ') (p : T4 α β γ δ) : cP4 c d f g p = (c p.a).bind fun x => (d p.b).bind fun y => (f p.c).bind fun z => (g p.d).bind fun w => .ok ⟨x, y, z, w⟩ := rfl
theorem Co.p3 {c : α → R α'} {d : β → R β'} {f : γ → R γ'} (hc : Co c) (hd : Co d) (hf : Co f) : Co (cP3 c d f) := fun p => by
  unfold cP3
  rcases hc.inv p.a with h | ⟨x, h, e1⟩
  · rw [h]; trivial
  rcases hd.inv p.b with h2 | ⟨y, h2, e2⟩
  · rw [h, h2]; trivial
  rcases hf.inv p.c with h3 | ⟨z, h3, e3⟩
  · rw [h, h2, h3]; trivial
  rw [h, h2, h3]
  show R.ok (PyData.tuple [e p.a, e p.b, e p.c]) = .ok (PyData.tuple [e x, e y, e z])
  rw [e1, e2, e3]
theorem Co.p4 {c : α → R α'} {d : β → R β'} {f : γ → R γ'} {g : δ → R δ'} (hc : Co c) (hd : Co d) (hf : Co f) (hg : Co g) : Co (cP4 c d f g) := fun p => by
  unfold cP4
  rcases hc.inv p.a with h | ⟨x, h, e1⟩
  · rw [h]; trivial
  rcases hd.inv p.b with h2 | ⟨y, h2, e2⟩
  · rw [h, h2]; trivial
  rcases hf.inv p.c with h3 | ⟨z, h3, e3⟩
  · rw [h, h2, h3]; trivial
  rcases hg.inv p.d with h4 | ⟨w, h4, e4⟩
  · rw [h, h2, h3, h4]; trivial
  rw [h, h2, h3, h4]
  show R.ok (PyData.tuple [e p.a, e p.b, e p.c, e p.d]) = .ok (PyData.tuple [e x, e y, e z, e w])
  rw [e1, e2, e3, e4]
end
section
variable {α : Type} [Enc α]
def cD2 : PyData → R (PyData × PyData) | .tuple [a, b] => .ok (a, b) | .list [a, b] => .ok (a, b) | _ => .stuck
theorem cD2_k {i j : Nat} (d : PyData) : TQ (fun p : PyData × PyData => [(i, e p.1), (j, e p.2)]) (gT (gC (gN i) (gC (gN j) gE)) (e d)) (cD2 d) := by
  cases d with
  | tuple xs => rcases xs with _ | ⟨a, _ | ⟨b, _ | ⟨c, xs⟩⟩⟩ <;> first | exact rfl | trivial
  | list xs => rcases xs with _ | ⟨a, _ | ⟨b, _ | ⟨c, xs⟩⟩⟩ <;> first | exact rfl | trivial
  | _ => trivial
end
end VL

namespace VL
open PySem PySem.Spec PyProof.Rows L2
open Enc (e)

theorem cite_pos {p : Prop} (h : p) {α : Type} {a b : α} : @ite α p (Classical.propDecidable p) a b = a := if_pos h
theorem cite_neg {p : Prop} (h : ¬ p) {α : Type} {a b : α} : @ite α p (Classical.propDecidable p) a b = b := if_neg h
section
variable {α β γ δ ε ζ η θ : Type} [Enc α] [Enc β] [Enc γ] [Enc δ] [Enc ε] [Enc ζ] [Enc η] [Enc θ]
theorem o_addI (a b : Int) : TEq (vadd (e a) (e b)) (taddI a b) := rfl
theorem o_subI (a b : Int) : TEq (vsub (e a) (e b)) (tsubI a b) := rfl
theorem o_mulI (a b : Int) : TEq (vmul (e a) (e b)) (tmulI a b) := by
  show TEq (if IntMulOk a b then _ else _) (if IntMulOk a b then _ else _)
  by_cases h : IntMulOk a b
  · rw [if_pos h, if_pos h]; exact rfl
  · rw [if_neg h, if_neg h]; trivial
theorem o_fdivI (a b : Int) : TEq (vfdiv (e a) (e b)) (tfdivI a b) := by
  by_cases h : 0 < b ∧ b < 2 ^ 250
  · rw [show tfdivI a b = .ok (a / b) from if_pos h]; exact if_pos h
  · rw [show tfdivI a b = .stuck from if_neg h]; trivial
theorem o_modI (a b : Int) : TEq (vmod (e a) (e b)) (tmodI a b) := by
  show TEq (if 0 < b then _ else _) (if 0 < b then _ else _)
  split
  · exact rfl
  · trivial
theorem o_powI (a b : Int) : TEq (vpow (e a) (e b)) (tpowI a b) := by
  by_cases h : 0 ≤ b ∧ b ≤ 1000 ∧ a.natAbs < 2 ^ 64
  · rw [show tpowI a b = .ok (a ^ b.toNat) from if_pos h]; exact if_pos h
  · rw [show tpowI a b = .stuck from if_neg h]; trivial
theorem o_negI (a : Int) : TEq (vneg (e a)) (tnegI a) := rfl
theorem o_ltI (a b : Int) : TEq (vlt (e a) (e b)) (tltI a b) := rfl
theorem o_leI (a b : Int) : TEq (vle (e a) (e b)) (tleI a b) := rfl
theorem o_gtI (a b : Int) : TEq (vgt (e a) (e b)) (tgtI a b) := rfl
theorem o_geI (a b : Int) : TEq (vge (e a) (e b)) (tgeI a b) := rfl
theorem o_addL (a b : List α) : TEq (vadd (e a) (e b)) (taddL a b) := by
  show TEq (if (a.map e).length + (b.map e).length ≤ sizeLine then _ else _) (if _ then _ else _)
  rw [List.length_map, List.length_map, szL]
  split
  · show R.ok (PyData.list _) = R.ok (PyData.list _)
    rw [List.map_append]
  · trivial
theorem atI_map {α β : Type} (f : α → β) (xs : List α) (i : Int) : atI (xs.map f) i = (atI xs i).map f := by
  unfold atI
  rw [List.length_map]
  cases ixN xs.length i <;> simp
theorem o_idx (a : List α) (b : Int) : TEq (vidx (e a) (e b)) (tidx a b) := by
  show TEq (match atI (a.map e) b with | some d => .ok d | none => .stuck) (match atI a b with | some d => .ok d | none => .stuck)
  rw [atI_map]
  cases atI a b <;> first | exact rfl | trivial
def pj {α β : Type} (f : α → β) (a : α) : R β := .ok (f a)
@[simp] theorem pj_ap {α β : Type} (f : α → β) (a : α) : pj f a = .ok (f a) := rfl
theorem o_pj {n : Int} {p : α → β} (h : ∀ a : α, vidx (e a) (.int n) = .ok (e (p a)) := by intro _; rfl) {ρ : PEnv} {f : PEnv → R PyData} {s : R α} (ha : TEq (f ρ) s) : TEq (v2 vidx f (vC (.int n)) ρ) (b1 (pj p) s) := ha.bind fun a => h a
theorem vEq_T [q : EqE α] (a b : α) (h : EqE.ok a ∧ EqE.ok b) (hd : EqE.dep α ≤ 64) : vEq (e a) (e b) = .ok (@decide (a = b) (q.dec a b)) := by
  rw [vEq_ok (EqE.lay a h.1) (EqE.lay b h.2) hd hd, EqE.eqv a b h.1 h.2]
theorem o_eq [q : EqE α] (hd : EqE.dep α ≤ 64 := by decide) (a b : α) : TEq (veq (e a) (e b)) (teq a b) := by
  unfold teq
  by_cases h : EqE.ok a ∧ EqE.ok b
  · rw [if_pos h]; unfold veq; rw [vEq_T a b h hd]; exact rfl
  · rw [if_neg h]; trivial
theorem o_ne [q : EqE α] (hd : EqE.dep α ≤ 64 := by decide) (a b : α) : TEq (vne (e a) (e b)) (tne a b) := by
  unfold tne
  by_cases h : EqE.ok a ∧ EqE.ok b
  · rw [if_pos h]; unfold vne; rw [vEq_T a b h hd]; exact rfl
  · rw [if_neg h]; trivial
theorem any_T [q : EqE α] {a : α} (ha : EqE.ok a) : ∀ {xs : List α}, (∀ x ∈ xs, EqE.ok x) → ((xs.map e).any fun z => PyData.eqv z (e a)) = xs.any fun x => @decide (x = a) (q.dec x a)
  | [], _ => rfl
  | x :: xs, h => by
    rw [List.map_cons, List.any_cons, List.any_cons, any_T ha fun y hy => h y (List.mem_cons_of_mem _ hy), EqE.eqv x a (h x List.mem_cons_self) ha]
theorem o_in [q : EqE α] (hd : EqE.dep α + 1 ≤ 64 := by decide) (a : α) (b : List α) : TEq (vIn (e a) (e b)) (tin a b) := by
  unfold tin
  by_cases h : EqE.ok a ∧ EqE.ok b
  · rw [if_pos h]
    show TEq (vIn (e a) (.list (b.map e))) _
    rw [vIn_ok (EqE.lay a h.1) (EqE.lay b h.2) (by omega) hd, any_T h.1 h.2.2]; exact rfl
  · rw [if_neg h]; trivial
theorem o_nin [q : EqE α] (hd : EqE.dep α + 1 ≤ 64 := by decide) (a : α) (b : List α) : TEq (vNotIn (e a) (e b)) (tnin a b) := by
  unfold tnin
  by_cases h : EqE.ok a ∧ EqE.ok b
  · rw [if_pos h]
    show TEq (vNotIn (e a) (.list (b.map e))) _
    rw [vNotIn_ok (EqE.lay a h.1) (EqE.lay b h.2) (by omega) hd, any_T h.1 h.2.2]; exact rfl
  · rw [if_neg h]; trivial
noncomputable def tinV {α : Type} [Enc α] [EqE α] (a : α) (xs : Tup α) : R Bool := tin a xs.l
noncomputable def tninV {α : Type} [Enc α] [EqE α] (a : α) (xs : Tup α) : R Bool := tnin a xs.l
@[simp] theorem tinV_ap [EqE α] (a : α) (xs : Tup α) : tinV a xs = tin a xs.l := rfl
@[simp] theorem tninV_ap [EqE α] (a : α) (xs : Tup α) : tninV a xs = tnin a xs.l := rfl
theorem o_ninV [q : EqE α] (hd : EqE.dep α + 1 ≤ 64 := by decide) (a : α) (b : Tup α) : TEq (vNotInT (e a) (e b)) (tninV a b) := by
  unfold tninV tnin
  by_cases h : EqE.ok a ∧ EqE.ok b.l
  · rw [if_pos h]
    show TEq (vNotInT (e a) (.tuple (b.l.map e))) _
    rw [vNotInT_ok (EqE.lay a h.1) (EqE.lay (α := Tup α) b h.2) (by omega) hd, any_T h.1 h.2.2]; exact rfl
  · rw [if_neg h]; trivial
noncomputable def tindex {α : Type} [Enc α] [q : EqE α] (xs : List α) (a : α) : R Int := @ite _ (EqE.ok a ∧ EqE.ok xs) (Classical.propDecidable _) (match xs.findIdx? fun x => @decide (x = a) (q.dec x a) with | some j => .ok (j : Nat) | none => .stuck) .stuck
theorem find_T [q : EqE α] {a : α} (ha : EqE.ok a) : ∀ {xs : List α}, (∀ x ∈ xs, EqE.ok x) → ((xs.map e).findIdx? fun z => PyData.eqv z (e a)) = xs.findIdx? fun x => @decide (x = a) (q.dec x a)
  | [], _ => rfl
  | x :: xs, h => by
    rw [List.map_cons, List.findIdx?_cons, List.findIdx?_cons, find_T ha fun y hy => h y (List.mem_cons_of_mem _ hy), EqE.eqv x a (h x List.mem_cons_self) ha]
theorem o_index [q : EqE α] (hd : EqE.dep α + 1 ≤ 64 := by decide) (b : List α) (a : α) : TEq (vindex (e b) (e a)) (tindex b a) := by
  unfold tindex
  by_cases h : EqE.ok a ∧ EqE.ok b
  · rw [if_pos h]
    show TEq (if _ then _ else _) _
    rw [if_pos ⟨okS.shaped (EqE.lay b h.2) hd, okS.shaped (EqE.lay a h.1) (by omega)⟩, find_T h.1 h.2.2]
    cases b.findIdx? fun x => @decide (x = a) (q.dec x a) <;> first | exact rfl | trivial
  · rw [if_neg h]; trivial
/- anything over data -/
theorem o_D2 {op : PyData → PyData → R PyData} (a b : PyData) : TEq (op (e a) (e b)) (op a b) := by
  show TEq (op a b) (op a b)
  cases op a b <;> first | exact rfl | trivial
def dB (op : PyData → PyData → R PyData) (a b : PyData) : R Bool := (op a b).bind cBool
def dB1 (op : PyData → R PyData) (a : PyData) : R Bool := (op a).bind cBool
@[simp] theorem dB_ap (op : PyData → PyData → R PyData) (a b : PyData) : dB op a b = (op a b).bind cBool := rfl
@[simp] theorem dB1_ap (op : PyData → R PyData) (a : PyData) : dB1 op a = (op a).bind cBool := rfl
theorem o_DB2 {op : PyData → PyData → R PyData} (a b : PyData) : TEq (op (e a) (e b)) (dB op a b) := t_co Co.bool (o_D2 a b)
theorem o_len (a : List α) : TEq (vlen [e a]) (tlen a) := by show R.ok (PyData.int ((a.map e).length)) = _; rw [List.length_map]; rfl
theorem o_D1L {op : List PyData → R PyData} (a : PyData) : TEq (op [e a]) (op [a]) := by
  show TEq (op [a]) (op [a])
  cases op [a] <;> first | exact rfl | trivial
theorem o_int (a : Int) : TEq (vint1 [e a]) (tint a) := rfl
theorem o_intB (a : Bool) : TEq (vint1 [e a]) (tintB a) := rfl
theorem o_all (a : List Bool) : TEq (vall [e a]) (tallB a) := vall_bools a
theorem o_range1 (j : Int) : TL (vrange1 (e j)) (trange1 j) := by
  show TL (if rngOk 0 j then _ else _) (if rngOk 0 j then _ else _)
  split
  · show R.ok _ = R.ok _
    unfold rangeD rangeI; rw [List.map_map]; rfl
  · trivial
theorem o_range2 (i j : Int) : TL (vrange2 (e i) (e j)) (trange2 i j) := by
  show TL (if rngOk i j then _ else _) (if rngOk i j then _ else _)
  split
  · show R.ok _ = R.ok _
    unfold rangeD rangeI; rw [List.map_map]; rfl
  · trivial
theorem o_zip (xs : List α) (ys : List β) : TL (vzip (e xs) (e ys)) (tzip xs ys) := by
  show R.ok (zipD (xs.map e) (ys.map e)) = R.ok _
  unfold zipD
  rw [List.zipWith_map, List.map_zipWith]; rfl
theorem o_truB (i : Bool) : TB (vtruth (e i)) (tid i) := rfl
def tK {α : Type} (b : Bool) (_ : α) : R Bool := .ok b
@[simp] theorem tK_ap {α : Type} (b : Bool) (a : α) : tK b a = .ok b := rfl
theorem o_K {op : PyData → R PyData} {b : Bool} (h : ∀ a : α, op (e a) = .ok (.bool b) := by intro _; rfl) (i : α) : TEq (op (e i)) (tK b i) := h i

abbrev oF (a : α) : O := .fz (e a)
abbrev oL {α : Type} (ox : α → O) (xs : List α) : O := .lst (xs.map ox)
theorem dF (a : α) : O.data (oF a) = e a := O.data_fz _
theorem dL {ox : α → O} (h : ∀ a, O.data (ox a) = e a) (xs : List α) : O.data (oL ox xs) = e xs := by
  show _ = PyData.list (xs.map e)
  rw [O.data_lst, List.map_map]
  congr 1
  exact List.map_congr_left fun a _ => h a
class LF (α : Type) [Enc α] : Prop where
  h : ∀ a : α, lf (e a) = true
instance : LF Int := ⟨lf_int⟩
instance : LF Bool := ⟨lf_bool⟩
instance : LF Str := ⟨lf_str⟩
instance : LF Unit := ⟨fun _ => lf_none⟩
instance [LF α] : LF (T1 α) := ⟨fun p => by show lf (.tuple _) = true; simp [LF.h]⟩
instance [LF α] [LF β] : LF (α × β) := ⟨fun p => by show lf (.tuple _) = true; simp [LF.h]⟩
instance [LF α] [LF β] [LF γ] : LF (T3 α β γ) := ⟨fun p => by show lf (.tuple _) = true; simp [LF.h]⟩
instance [LF α] [LF β] [LF γ] [LF δ] : LF (T4 α β γ δ) := ⟨fun p => by show lf (.tuple _) = true; simp [LF.h]⟩
instance [LF α] [LF β] [LF γ] [LF δ] [LF ε] : LF (T5 α β γ δ ε) := ⟨fun p => by show lf (.tuple _) = true; simp [LF.h]⟩
theorem lfs_map [LF α] : ∀ xs : List α, lfs (xs.map e) = true
  | [] => lfs_nil
  | x :: xs => by rw [List.map_cons, lfs_cons, LF.h, lfs_map xs]; rfl
instance [LF α] : LF (Tup α) := ⟨fun p => by show lf (.tuple _) = true; rw [lf_tuple]; exact lfs_map _⟩
instance [LF α] : LF (Option α) := ⟨fun p => by cases p with | none => exact lf_none | some a => exact LF.h a⟩
theorem t_exF {f : PEnv → R PyData} {ρ : OEnv} {s : R α} (h : TEq (f (viewF ρ)) s) : TEq (exF f ρ) s := h
theorem t_exB [LF α] {f : PEnv → R PyData} {ρ : OEnv} {s : R α} (h : TEq (f (viewB ρ)) s) : TEq (exB f ρ) s := by
  show TEq ((f (viewB ρ)).bind lfok) s
  cases s with
  | stuck => trivial
  | err c => show (f (viewB ρ)).bind lfok = _; rw [show f (viewB ρ) = .err c from h]; rfl
  | ok a => show (f (viewB ρ)).bind lfok = _; rw [show f (viewB ρ) = .ok (e a) from h]; show (if lf (e a) = true then _ else _) = _; rw [if_pos (LF.h a)]
theorem p_x {h : OEnv → R PyData} {ρ : OEnv} {s : R α} (hs : TEq (h ρ) s) : TQ (fun a : α => (oF a, ρ)) (oX h ρ) s := by
  cases s with
  | stuck => trivial
  | err c => show (h ρ).bind _ = _; rw [show h ρ = .err c from hs]; rfl
  | ok a => show (h ρ).bind _ = _; rw [show h ρ = .ok (e a) from hs]; rfl
theorem p_frF {f : PEnv → R (List PyData)} {ρ : OEnv} {s : R (List α)} (hs : TL (f (viewF ρ)) s) : TQ (fun a : List α => (oL oF a, ρ)) (oFrF f ρ) s := by
  cases s with
  | stuck => trivial
  | err c => show (f (viewF ρ)).bind _ = _; rw [show f (viewF ρ) = .err c from hs]; rfl
  | ok a => show (f (viewF ρ)).bind _ = _; rw [show f (viewF ρ) = .ok (a.map e) from hs]; show R.ok _ = R.ok _; rw [List.map_map]; rfl
theorem p_frB [LF α] {f : PEnv → R (List PyData)} {ρ : OEnv} {s : R (List α)} (hs : TL (f (viewB ρ)) s) : TQ (fun a : List α => (oL oF a, ρ)) (oFrB f ρ) s := by
  cases s with
  | stuck => trivial
  | err c => show (f (viewB ρ)).bind _ = _; rw [show f (viewB ρ) = .err c from hs]; rfl
  | ok a => show (f (viewB ρ)).bind _ = _; rw [show f (viewB ρ) = .ok (a.map e) from hs]; show (if lfs (a.map e) = true then _ else _) = R.ok _; rw [if_pos (lfs_map a), List.map_map]; rfl
noncomputable def tpopAt {α : Type} (xs : List α) (j : Int) : R (α × List α) := @ite _ (0 ≤ j ∧ j < 16777216) (Classical.propDecidable _) (match xs[j.toNat]? with | some a => .ok (a, xs.eraseIdx j.toNat) | none => .stuck) .stuck
theorem p_popAt {α : Type} {ox : α → O} {ρ : OEnv} {hk : OEnv → R PyData} {t : R Int} (i : Nat) (xs : List α) (hj : TEq (hk ρ) t) (h : ρ[i]? = some (some (oL ox xs)) := by rfl) : TQ (fun p : α × List α => (ox p.1, ρ.set i (some (oL ox p.2)))) (oPopAt i hk ρ) (t.bind fun j => tpopAt xs j) := by
  unfold oPopAt; rw [h]
  refine hj.bind fun j => ?_
  unfold tpopAt
  by_cases hc : 0 ≤ j ∧ j < 16777216
  · simp only [e, Enc.e]
    rw [cite_pos hc, cite_pos hc, List.getElem?_map]
    cases xs[j.toNat]? with
    | none => trivial
    | some a => show R.ok _ = R.ok _; rw [erase_map]
  · rw [cite_neg hc]; trivial
theorem a_0 {ρ : PEnv} {k : List PyData → R O} {ox : θ → O} {t : R θ} (h : TQ ox (k []) t) : TQ ox ((aNil ρ).bind k) t := h
theorem a_1 {f : PEnv → R PyData} {g : PEnv → R (List PyData)} {ρ : PEnv} {k : List PyData → R O} {ox : θ → O} {s : R α} {t : α → R θ} (ha : TEq (f ρ) s) (h : ∀ a, TQ ox ((g ρ).bind fun ds => k (e a :: ds)) (t a)) : TQ ox ((aCons f g ρ).bind k) (s.bind t) := by
  show TQ ox (R.bind (R.bind _ _) _) _
  rw [R.bind_assoc]
  refine ha.bind fun a => ?_
  have := h a
  rw [R.bind_assoc]
  exact this
end
end VL

namespace VL
open PySem PySem.Spec PyProof.Rows L2
open Enc (e)
inductive TR (β l σ : Type) where
  | nx (s : σ)
  | bk (s : l)
  | ct (s : l)
  | rt (b : β)
  | err (c : Str)
  | stuck
def TR.bind {β l σ τ : Type} (x : TR β l σ) (k : σ → TR β l τ) : TR β l τ := match x with
  | .nx s => k s
  | .bk s => .bk s
  | .ct s => .ct s
  | .rt b => .rt b
  | .err c => .err c
  | .stuck => .stuck
def R.tr {α β l σ : Type} (x : R α) (k : α → TR β l σ) : TR β l σ := match x with
  | .ok a => k a
  | .err c => .err c
  | .stuck => .stuck
def tite {β l σ : Type} (c : R Bool) (s t : TR β l σ) : TR β l σ := c.tr fun b => if b then s else t
def forT {α β l σ : Type} (f : α → σ → TR β σ σ) : List α → σ → TR β l σ
  | [], s => .nx s
  | a :: as, s => match f a s with
    | .nx s' => forT f as s'
    | .ct s' => forT f as s'
    | .bk s' => .nx s'
    | .rt b => .rt b
    | .err c => .err c
    | .stuck => .stuck
def TR.fn {β l σ : Type} (x : TR β l σ) (d : σ → R β) : R β := match x with
  | .nx s => d s
  | .rt b => .ok b
  | .err c => .err c
  | _ => .stuck
def ttry {β l σ : Type} (s : TR β l σ) (tb : Str → Option Bool) (h : TR β l σ) : TR β l σ := match s with
  | .err c => match tb c with
    | some true => (match h with
      | .err _ => .stuck
      | r => r)
    | some false => .err c
    | none => .stuck
  | r => r
section
variable {β l σ τ α : Type}
@[simp] theorem TR.bind_nx (s : σ) (k : σ → TR β l τ) : TR.bind (.nx s) k = k s := rfl
@[simp] theorem TR.bind_bk (s : l) (k : σ → TR β l τ) : TR.bind (.bk s) k = .bk s := rfl
@[simp] theorem TR.bind_ct (s : l) (k : σ → TR β l τ) : TR.bind (.ct s) k = .ct s := rfl
@[simp] theorem TR.bind_rt (s : β) (k : σ → TR β l τ) : TR.bind (.rt s) k = .rt s := rfl
@[simp] theorem TR.bind_err (c : Str) (k : σ → TR β l τ) : TR.bind (.err c) k = .err c := rfl
@[simp] theorem R.tr_ok (a : α) (k : α → TR β l σ) : R.tr (.ok a) k = k a := rfl
@[simp] theorem R.tr_err (c : Str) (k : α → TR β l σ) : R.tr (.err c) k = .err c := rfl
@[simp] theorem R.tr_bind {γ : Type} (x : R γ) (f : γ → R α) (k : α → TR β l σ) : R.tr (x.bind f) k = x.tr fun c => (f c).tr k := by cases x <;> rfl
@[simp] theorem R.tr_ite (p : Prop) [Decidable p] (x y : R α) (k : α → TR β l σ) : R.tr (if p then x else y) k = if p then x.tr k else y.tr k := by split <;> rfl
@[simp] theorem TR.bind_ite (p : Prop) [Decidable p] (x y : TR β l σ) (k : σ → TR β l τ) : TR.bind (if p then x else y) k = if p then x.bind k else y.bind k := by split <;> rfl
@[simp] theorem TR.bind_tr (x : R α) (f : α → TR β l σ) (k : σ → TR β l τ) : TR.bind (x.tr f) k = x.tr fun a => (f a).bind k := by cases x <;> rfl
@[simp] theorem TR.bind_bind {υ : Type} (x : TR β l σ) (f : σ → TR β l τ) (k : τ → TR β l υ) : TR.bind (x.bind f) k = x.bind fun a => (f a).bind k := by cases x <;> rfl
@[simp] theorem tite_ap (c : R Bool) (s t : TR β l σ) : tite c s t = c.tr fun b => if b then s else t := rfl
@[simp] theorem forT_nil (f : α → σ → TR β σ σ) (s : σ) : (forT f [] s : TR β l σ) = .nx s := rfl
@[simp] theorem TR.fn_nx (s : σ) (d : σ → R β) : TR.fn (.nx s : TR β l σ) d = d s := rfl
@[simp] theorem TR.fn_rt (b : β) (d : σ → R β) : TR.fn (.rt b : TR β l σ) d = .ok b := rfl
@[simp] theorem TR.fn_err (c : Str) (d : σ → R β) : TR.fn (.err c : TR β l σ) d = .err c := rfl
@[simp] theorem TR.fn_ite (p : Prop) [Decidable p] (x y : TR β l σ) (d : σ → R β) : TR.fn (if p then x else y) d = if p then x.fn d else y.fn d := by split <;> rfl
@[simp] theorem TR.fn_tr (x : R α) (f : α → TR β l σ) (d : σ → R β) : TR.fn (x.tr f) d = x.bind fun a => (f a).fn d := by cases x <;> rfl
end
def SQ {β l σ : Type} (E : σ → OEnv → Prop) (L : l → OEnv → Prop) (er : O → OEnv → β → Prop) (Z : OEnv → Prop) (r : SR) : TR β l σ → Prop
  | .nx s => ∃ ρ, r = .nx ρ ∧ E s ρ
  | .bk s => ∃ ρ, r = .bk ρ ∧ L s ρ
  | .ct s => ∃ ρ, r = .ct ρ ∧ L s ρ
  | .rt b => ∃ o ρ, r = .rt o ρ ∧ er o ρ b
  | .err c => ∃ ρ, r = .err c ρ ∧ Z ρ
  | .stuck => True
section
variable {β l σ τ α γ : Type} {E : σ → OEnv → Prop} {E1 : τ → OEnv → Prop} {L : l → OEnv → Prop} {er : O → OEnv → β → Prop} {Z : OEnv → Prop} {ρ : OEnv} {g h k g1 : OEnv → SR}
theorem q_nx (s : σ) (h : E s ρ) : SQ E L er Z (sNx ρ) (.nx s) := ⟨ρ, rfl, h⟩
theorem SR.seq_nxr (r : SR) : SR.seq r sNx = r := by cases r <;> rfl
theorem q_end {t : TR β l σ} (h : SQ E L er Z (seq g sNx ρ) t) : SQ E L er Z (g ρ) t := by
  have : seq g sNx ρ = g ρ := SR.seq_nxr _
  rw [this] at h; exact h
theorem q_nxs {t : TR β l σ} (h : SQ E L er Z (k ρ) t) : SQ E L er Z (seq sNx k ρ) t := h
theorem q_assoc {t : TR β l σ} (hh : SQ E L er Z (seq g (seq h k) ρ) t) : SQ E L er Z (seq (seq g h) k ρ) t := by
  have : seq (seq g h) k ρ = seq g (seq h k) ρ := by
    show SR.seq (SR.seq (g ρ) h) k = SR.seq (g ρ) (seq h k)
    cases g ρ <;> rfl
  rw [this]; exact hh
theorem q_pre {T : OEnv → OEnv} {t : TR β l σ} (hh : SQ E L er Z (seq g k (T ρ)) t) : SQ E L er Z (seq (pre T g) k ρ) t := hh
theorem q_pre0 {T : OEnv → OEnv} {t : TR β l σ} (hh : SQ E L er Z (g (T ρ)) t) : SQ E L er Z (pre T g ρ) t := hh
theorem freeze1 [Enc α] {ox : α → O} {is : List Nat} (i : Nat) (a : α) (hd : ∀ a, O.data (ox a) = e a) (h : ρ[i]? = some (some (ox a)) := by rfl) : freeze (i :: is) ρ = freeze is (ρ.set i (some (oF a))) := by
  rw [freeze_cons]
  unfold freezeAt; rw [h]
  show freeze is (ρ.set i (some (.fz (O.data (ox a))))) = _
  rw [hd]
theorem q_at {ρ' : OEnv} {t : TR β l σ} (he : ρ = ρ') (hh : SQ E L er Z (g ρ') t) : SQ E L er Z (g ρ) t := by rw [he]; exact hh
theorem SQ.sr {α γ : Type} {f : α → γ} {x : R γ} {t : R α} {kk : γ → SR} {ll : α → TR β l σ} (h : TQ f x t) (z : Z ρ) (hk : ∀ a, SQ E L er Z (kk (f a)) (ll a)) : SQ E L er Z (x.sr ρ kk) (t.tr ll) := by
  cases t with
  | stuck => trivial
  | err c => rw [show x = .err c from h]; exact ⟨ρ, rfl, z⟩
  | ok a => rw [show x = .ok (f a) from h]; exact hk a
theorem seq_sr {γ : Type} (x : R γ) (kk : γ → SR) : SR.seq (x.sr ρ kk) k = x.sr ρ fun c => (kk c).seq k := by cases x <;> rfl
theorem q_set {i : Nat} {ho : OEnv → R (O × OEnv)} {ox : α → O × OEnv} {t : R α} {ll : α → TR β l σ} (h : TQ ox (ho ρ) t) (z : Z ρ) (hk : ∀ a, SQ E L er Z (k ((ox a).2.set i (some (ox a).1))) (ll a)) : SQ E L er Z (seq (sSet i ho) k ρ) (t.tr ll) := by
  show SQ E L er Z (SR.seq (R.sr _ _ _) k) _
  rw [seq_sr]
  exact SQ.sr h z hk
theorem q_ret {ho : OEnv → R (O × OEnv)} {ox : α → O × OEnv} {f : α → β} {t : R α} (h : TQ ox (ho ρ) t) (z : Z ρ) (hr : ∀ a, er (ox a).1 (ox a).2 (f a)) : SQ E L er Z (seq (sRet ho) k ρ) (t.tr fun a => .rt (f a)) := by
  show SQ E L er Z (SR.seq (R.sr _ _ _) k) _
  rw [seq_sr]
  exact SQ.sr h z fun a => ⟨_, _, rfl, hr a⟩
theorem q_if {c : PEnv → R Bool} {s : R Bool} {t1 t2 : TR β l σ} (hc : TB (c (viewB ρ)) s) (z : Z ρ) (h1 : SQ E L er Z (seq g k ρ) t1) (h2 : SQ E L er Z (seq h k ρ) t2) : SQ E L er Z (seq (sIf (tB c) g h) k ρ) (tite s t1 t2) := by
  show SQ E L er Z (SR.seq (R.sr _ _ _) k) _
  rw [seq_sr]
  refine SQ.sr hc z fun b => ?_
  cases b
  · exact h2
  · exact h1
theorem SQ.bind {r : SR} {t : TR β l τ} {ll : τ → TR β l σ} (h : SQ E1 L er Z r t) (hk : ∀ s ρ, E1 s ρ → SQ E L er Z (k ρ) (ll s)) : SQ E L er Z (r.seq k) (t.bind ll) := by
  cases t with
  | stuck => trivial
  | nx s => obtain ⟨ρ, e1, e2⟩ := h; rw [e1]; exact hk s ρ e2
  | bk s => obtain ⟨ρ, e1, e2⟩ := h; rw [e1]; exact ⟨ρ, rfl, e2⟩
  | ct s => obtain ⟨ρ, e1, e2⟩ := h; rw [e1]; exact ⟨ρ, rfl, e2⟩
  | rt s => obtain ⟨o, ρ, e1, e2⟩ := h; rw [e1]; exact ⟨o, ρ, rfl, e2⟩
  | err c => obtain ⟨ρ, e1, e2⟩ := h; rw [e1]; exact ⟨ρ, rfl, e2⟩
/- ways that meet again -/
theorem q_join {Es : τ → OEnv} {t : TR β l τ} {ll : τ → TR β l σ} (h : SQ (fun s ρ => ρ = Es s) L er Z (g ρ) t) (hk : ∀ s, SQ E L er Z (k (Es s)) (ll s)) : SQ E L er Z (seq g k ρ) (t.bind ll) :=
  SQ.bind h fun s ρ e1 => by rw [e1]; exact hk s
theorem forL_T {α' : Type} [Enc α] {kt : PyData → R (List (Nat × PyData))} {kl : OEnv → OEnv} {gb : OEnv → SR} {Es : τ → OEnv} {bs : α' → List (Nat × PyData)} {c : α → R α'} {body : α' → τ → TR β τ τ} (hk : ∀ a, TQ bs (kt (e a)) (c a)) (hkl : ∀ s, kl (Es s) = Es s)
    (hb : ∀ b s, SQ (fun s ρ => kl ρ = Es s) (fun s ρ => ρ = Es s) er Z (gb (setsO (Es s) (bs b))) (body b s)) : ∀ (xs : List α) (s : τ), SQ (fun s ρ => ρ = Es s) L er Z (forL kt kl gb (xs.map e) (Es s)) (forT (fun a s => (c a).calm.tr fun b => body b s) xs s : TR β l τ)
  | [], s => ⟨_, rfl, rfl⟩
  | a :: as, s => by
    have h1 := hk a
    simp only [List.map_cons, forL, forT]
    cases hca : c a with
    | stuck => trivial
    | err x => trivial
    | ok b =>
      rw [hca] at h1
      rw [show kt (e a) = .ok (bs b) from h1]
      simp only [R.tr_ok, calm_okk]
      have h2 := hb b s
      cases ht : body b s with
      | stuck => trivial
      | nx s' =>
        rw [ht] at h2; obtain ⟨ρ', e1, e2⟩ := h2
        rw [e1]; simp only [e2]
        exact forL_T hk hkl hb as s'
      | ct s' =>
        rw [ht] at h2; obtain ⟨ρ', e1, e2⟩ := h2
        rw [e1]; simp only [e2, hkl]
        exact forL_T hk hkl hb as s'
      | bk s' => rw [ht] at h2; obtain ⟨ρ', e1, e2⟩ := h2; rw [e1]; exact ⟨_, rfl, e2⟩
      | rt b => rw [ht] at h2; obtain ⟨o, ρ', e1, e2⟩ := h2; rw [e1]; exact ⟨_, _, rfl, e2⟩
      | err b => rw [ht] at h2; obtain ⟨ρ', e1, e2⟩ := h2; rw [e1]; exact ⟨_, rfl, e2⟩
theorem forL_T0 [Enc α] {kt : PyData → R (List (Nat × PyData))} {kl : OEnv → OEnv} {gb : OEnv → SR} {Es : τ → OEnv} {bs : α → List (Nat × PyData)} {body : α → τ → TR β τ τ} (hk : ∀ a, kt (e a) = .ok (bs a)) (hkl : ∀ s, kl (Es s) = Es s)
    (hb : ∀ b s, SQ (fun s ρ => kl ρ = Es s) (fun s ρ => ρ = Es s) er Z (gb (setsO (Es s) (bs b))) (body b s)) (xs : List α) (s : τ) : SQ (fun s ρ => ρ = Es s) L er Z (forL kt kl gb (xs.map e) (Es s)) (forT body xs s : TR β l τ) :=
  forL_T (c := fun a => .ok a) (bs := bs) (fun a => hk a) hkl hb xs s
theorem q_for [Enc α] {hi : OEnv → R (List PyData)} {kt : PyData → R (List (Nat × PyData))} {kl : OEnv → OEnv} {gb : OEnv → SR} {t : R (List α)} {body : α → τ → TR β τ τ} {ll : τ → TR β l σ} (Es : τ → OEnv) (bs : α → List (Nat × PyData)) (s0 : τ) (h : TL (hi ρ) t) (z : Z ρ) (he : ρ = Es s0) (hk : ∀ a, kt (e a) = .ok (bs a)) (hkl : ∀ s, kl (Es s) = Es s)
    (hb : ∀ b s, SQ (fun s ρ => kl ρ = Es s) (fun s ρ => ρ = Es s) er Z (gb (setsO (Es s) (bs b))) (body b s)) (hr : ∀ s, SQ E L er Z (k (Es s)) (ll s)) : SQ E L er Z (seq (sFor hi kt kl gb) k ρ) (t.tr fun xs => (forT body xs s0).bind ll) := by
  show SQ E L er Z (SR.seq (R.sr _ _ _) k) _
  rw [seq_sr]
  refine SQ.sr h z fun xs => ?_
  rw [he]
  exact SQ.bind (forL_T0 hk hkl hb xs s0) fun s ρ e1 => by rw [e1]; exact hr s
theorem q_forK [Enc α] {hi : OEnv → R (List PyData)} {T : OEnv → OEnv} {kt : PyData → R (List (Nat × PyData))} {kl : OEnv → OEnv} {gb : OEnv → SR} {t : R (List α)} {body : α → τ → TR β τ τ} {ll : τ → TR β l σ} (Es : τ → OEnv) (bs : α → List (Nat × PyData)) (s0 : τ) (h : TL (hi ρ) t) (z : Z ρ) (he : T ρ = Es s0) (hk : ∀ a, kt (e a) = .ok (bs a)) (hkl : ∀ s, kl (Es s) = Es s)
    (hb : ∀ b s, SQ (fun s ρ => kl ρ = Es s) (fun s ρ => ρ = Es s) er Z (gb (setsO (Es s) (bs b))) (body b s)) (hr : ∀ s, SQ E L er Z (k (Es s)) (ll s)) : SQ E L er Z (seq (sForK hi T kt kl gb) k ρ) (t.tr fun xs => (forT body xs s0).bind ll) := by
  show SQ E L er Z (SR.seq (R.sr _ _ _) k) _
  rw [seq_sr]
  refine SQ.sr h z fun xs => ?_
  rw [he]
  exact SQ.bind (forL_T0 hk hkl hb xs s0) fun s ρ e1 => by rw [e1]; exact hr s
theorem SQ.ne {r : SR} {t : TR β l τ} (h : SQ E1 L er Z r t) (ht : t ≠ .stuck) : r ≠ .stuck := by
  cases t with
  | stuck => exact absurd rfl ht
  | nx s => obtain ⟨ρ', e1, _⟩ := h; rw [e1]; exact nofun
  | ct s => obtain ⟨ρ', e1, _⟩ := h; rw [e1]; exact nofun
  | bk s => obtain ⟨ρ', e1, _⟩ := h; rw [e1]; exact nofun
  | rt s => obtain ⟨_, ρ', e1, _⟩ := h; rw [e1]; exact nofun
  | err s => obtain ⟨ρ', e1, _⟩ := h; rw [e1]; exact nofun
theorem q_tup {α' : Type} [Enc α] {kt : PyData → R (List (Nat × PyData))} {hx : OEnv → R PyData} {t : R α} {ll : α' → TR β l σ} (c : α → R α') (bs : α' → List (Nat × PyData)) (h : TEq (hx ρ) t) (z : Z ρ) (hk : ∀ a, TQ bs (kt (e a)) (c a)) (hr : ∀ b, SQ E L er Z (k (setsO ρ (bs b))) (ll b)) : SQ E L er Z (seq (sTup kt hx) k ρ) (t.tr fun a => (c a).calm.tr ll) := by
  show SQ E L er Z (SR.seq (R.sr _ _ _) k) _
  rw [seq_sr]
  refine SQ.sr h z fun a => ?_
  have h1 := hk a
  cases hca : c a with
  | stuck => trivial
  | err x => trivial
  | ok b => rw [hca] at h1; rw [show kt (e a) = .ok (bs b) from h1]; exact hr b
def tapp {α : Type} (xs : List α) (a : α) : R (List α) := if xs.length < 16777216 then .ok (xs ++ [a]) else .stuck
theorem q_app {ox : α → O} {ho : OEnv → R (O × OEnv)} {t : R α} {ll : List α → TR β l σ} (i : Nat) (xs : List α) (h : TQ (fun a => (ox a, ρ)) (ho ρ) t) (z : Z ρ) (hr : ∀ ys, SQ E L er Z (k (ρ.set i (some (oL ox ys)))) (ll ys)) (hi : ρ[i]? = some (some (oL ox xs)) := by rfl) : SQ E L er Z (seq (sApp i ho) k ρ) (t.tr fun a => (tapp xs a).tr ll) := by
  show SQ E L er Z (SR.seq (sApp i ho ρ) k) _
  unfold sApp
  rw [hi]
  show SQ E L er Z (SR.seq (R.sr _ _ _) k) _
  rw [seq_sr]
  refine SQ.sr h z fun a => ?_
  unfold tapp
  simp only [hi, List.length_map, szL]
  split
  · show SQ _ _ _ _ (k _) (ll (xs ++ [a]))
    have := hr (xs ++ [a])
    rw [show oL ox (xs ++ [a]) = O.lst (xs.map ox ++ [ox a]) by simp [oL]] at this
    exact this
  · trivial
theorem q_aug {f : Int → Int → Int} {h : OEnv → R PyData} {t : R Int} {ll : Int → TR β l σ} (i : Nat) (a : Int) (hs : TEq (h ρ) t) (z : Z ρ) (hr : ∀ b, SQ E L er Z (k (ρ.set i (some (oF b)))) (ll b)) (hi : ρ[i]? = some (some (oF a)) := by rfl) : SQ E L er Z (seq (sAug f i h) k ρ) ((b1 (fun b => R.ok (f a b)) t).tr ll) := by
  show SQ E L er Z (SR.seq (sAug f i h ρ) k) _
  unfold sAug
  rw [hi]
  show SQ E L er Z (SR.seq (R.sr _ _ _) k) _
  rw [seq_sr, b1_ap, R.tr_bind]
  exact SQ.sr hs z fun b => hr (f a b)
def text {α : Type} (xs ys : List α) : R (List α) := if xs.length + ys.length ≤ 16777216 then .ok (xs ++ ys) else .stuck
theorem q_ext {ox : α → O} {ho : OEnv → R (O × OEnv)} {t : R (List α)} {ll : List α → TR β l σ} (i : Nat) (xs : List α) (h : TQ (fun a => (oL ox a, ρ)) (ho ρ) t) (z : Z ρ) (hr : ∀ ys, SQ E L er Z (k (ρ.set i (some (oL ox ys)))) (ll ys)) (hi : ρ[i]? = some (some (oL ox xs)) := by rfl) : SQ E L er Z (seq (sExt i ho) k ρ) (t.tr fun a => (text xs a).tr ll) := by
  show SQ E L er Z (SR.seq (sExt i ho ρ) k) _
  unfold sExt
  rw [hi]
  show SQ E L er Z (SR.seq (R.sr _ _ _) k) _
  rw [seq_sr]
  refine SQ.sr h z fun a => ?_
  unfold text
  simp only [hi, List.length_map, szL]
  split
  · show SQ _ _ _ _ (k _) (ll (xs ++ a))
    have := hr (xs ++ a)
    rw [show oL ox (xs ++ a) = O.lst (xs.map ox ++ a.map ox) by simp [oL]] at this
    exact this
  · trivial
theorem q_asn {t : TR β l σ} (h : SQ E L er Z (g ρ) t) : SQ E L er Z (seq g sNx ρ) t := by
  have : seq g sNx ρ = g ρ := SR.seq_nxr _
  rw [this]; exact h
theorem t_x1 {α γ : Type} [Enc α] [Enc γ] {op : PyData → R (List PyData)} {top : α → R (List γ)} {h : OEnv → R PyData} {s : R α} (ho : ∀ a, TL (op (e a)) (top a)) (ha : TEq (h ρ) s) : TL (x1 op h ρ) (b1 top s) := ha.bind ho
theorem t_x2 {α β γ : Type} [Enc α] [Enc β] [Enc γ] {op : PyData → PyData → R (List PyData)} {top : α → β → R (List γ)} {h h' : OEnv → R PyData} {s : R α} {t : R β} (ho : ∀ a b, TL (op (e a) (e b)) (top a b)) (ha : TEq (h ρ) s) (hb : TEq (h' ρ) t) : TL (x2 op h h' ρ) (b2 top s t) := ha.bind fun a => hb.bind fun b => ho a b
theorem p_nilO {α : Type} {ox : α → O} : TQ (fun a : List α => (oL ox a, ρ)) (oFrF aNil ρ) (.ok []) := rfl
end
theorem fn_T {β l σ : Type} [Enc β] {g : OEnv → SR} {ρ : OEnv} {E : σ → OEnv → Prop} {L : l → OEnv → Prop} {t : TR β l σ} {d : σ → R β} (h : SQ E L (fun o _ b => O.data o = e b) (fun _ => True) (g ρ) t) (hd : ∀ s, TEq (.ok .none) (d s)) : TEq (fin (g ρ)) (t.fn d) := by
  cases t with
  | stuck => trivial
  | nx s => obtain ⟨ρ', e1, e2⟩ := h; rw [e1]; exact hd s
  | ct s => trivial
  | bk s => trivial
  | rt s => obtain ⟨_, ρ', e1, e2⟩ := h; rw [e1]; show R.ok _ = R.ok _; rw [e2]
  | err c => obtain ⟨ρ', e1, e2⟩ := h; rw [e1]; exact rfl
theorem fn_TO {β l σ : Type} {ox : β → O} {g : OEnv → SR} {ρ : OEnv} {E : σ → OEnv → Prop} {L : l → OEnv → Prop} {t : TR β l σ} (h : SQ E L (fun o _ b => o = ox b) (fun _ => True) (g ρ) t) : TQ ox (finO (g ρ)) (t.fn fun _ => .stuck) := by
  cases t with
  | stuck => trivial
  | nx s => trivial
  | ct s => trivial
  | bk s => trivial
  | rt s => obtain ⟨_, ρ', e1, e2⟩ := h; rw [e1]; show R.ok _ = R.ok _; rw [e2]
  | err c => obtain ⟨ρ', e1, e2⟩ := h; rw [e1]; exact rfl
theorem frz_T {β : Type} [Enc β] {ox : β → O} {g : List PyData → R O} {ds : List PyData} {t : R β} (hd : ∀ b, O.data (ox b) = e b) (h : TQ ox (g ds) t) : TEq (frz g ds) t := by
  cases t with
  | stuck => trivial
  | err c => show R.bind (g ds) _ = _; rw [show g ds = .err c from h]; rfl
  | ok b => show R.bind (g ds) _ = _; rw [show g ds = .ok (ox b) from h]; show R.ok _ = R.ok _; rw [hd]
end VL

namespace VL
open PySem PySem.Spec PyProof.Rows L2
open Enc (e)
section
variable {α β l σ γ : Type}
theorem forT_nx {f : α → σ → TR β σ σ} {a : α} {as : List α} {s s' : σ} (h : f a s = .nx s') : (forT f (a :: as) s : TR β l σ) = forT f as s' := by simp only [forT, h]
theorem forT_ct {f : α → σ → TR β σ σ} {a : α} {as : List α} {s s' : σ} (h : f a s = .ct s') : (forT f (a :: as) s : TR β l σ) = forT f as s' := by simp only [forT, h]
theorem forT_rt {f : α → σ → TR β σ σ} {a : α} {as : List α} {s : σ} {b : β} (h : f a s = .rt b) : (forT f (a :: as) s : TR β l σ) = .rt b := by simp only [forT, h]
def TR.go (r : TR β σ σ) (s : σ) : Prop := r = .nx s ∨ r = .ct s
theorem forT_go {f : α → σ → TR β σ σ} {a : α} {as : List α} {s s' : σ} (h : (f a s).go s') : (forT f (a :: as) s : TR β l σ) = forT f as s' := h.elim forT_nx forT_ct
theorem forT_ix {f : α → σ → TR β σ σ} (P : Nat → σ → Prop) : ∀ (xs : List α) (j : Nat) (s : σ), P j s → (∀ i a s, xs[i]? = some a → P (j + i) s → ∃ s', (f a s).go s' ∧ P (j + i + 1) s') → ∃ s', (forT f xs s : TR β l σ) = .nx s' ∧ P (j + xs.length) s'
  | [], j, s, hp, _ => ⟨s, rfl, hp⟩
  | a :: as, j, s, hp, h => by
    obtain ⟨s1, h1, h2⟩ := h 0 a s rfl hp
    obtain ⟨s2, h3, h4⟩ := forT_ix P as (j + 1) s1 h2 fun i b s hb hp' => by
      have := h (i + 1) b s (by simpa using hb) (by rw [show j + (i + 1) = j + 1 + i by omega]; exact hp')
      rw [show j + (i + 1) + 1 = j + 1 + i + 1 by omega] at this
      exact this
    exact ⟨s2, by rw [forT_go h1]; exact h3, by rw [List.length_cons, show j + (as.length + 1) = j + 1 + as.length by omega]; exact h4⟩
theorem forT_chk {f : α → σ → TR β σ σ} (bad : α → Bool) (b : β) {s : σ} : ∀ {xs : List α}, (∀ a ∈ xs, (bad a = true → f a s = .rt b) ∧ (bad a = false → (f a s).go s)) → (forT f xs s : TR β l σ) = if xs.any bad = true then .rt b else .nx s
  | [], _ => rfl
  | a :: as, h => by
    obtain ⟨h1, h2⟩ := h a List.mem_cons_self
    have ih := forT_chk bad b (xs := as) fun x hx => h x (List.mem_cons_of_mem _ hx)
    cases hb : bad a with
    | true => rw [forT_rt (h1 hb), List.any_cons, hb]; rfl
    | false => rw [forT_go (h2 hb), ih, List.any_cons, hb]; rfl
theorem forT_pass {f : α → σ → TR β σ σ} {s : σ} : ∀ {xs : List α}, (∀ a ∈ xs, (f a s).go s) → (forT f xs s : TR β l σ) = .nx s
  | [], _ => rfl
  | a :: as, h => by rw [forT_go (h a List.mem_cons_self)]; exact forT_pass fun x hx => h x (List.mem_cons_of_mem _ hx)
theorem tmap_ok {f : α → R γ} (g : α → γ) : ∀ {xs : List α}, (∀ a ∈ xs, f a = .ok (g a)) → tmap f xs = .ok (xs.map g)
  | [], _ => rfl
  | a :: as, h => by
    simp only [tmap, h a List.mem_cons_self, calm_okk, R.bind_ok, tmap_ok g fun x hx => h x (List.mem_cons_of_mem _ hx), List.map_cons]
theorem tmap_ex {f : α → R γ} (S : γ → Prop) : ∀ {xs : List α}, (∀ a ∈ xs, ∃ y, f a = .ok y ∧ S y) → ∃ ys, tmap f xs = .ok ys ∧ ys.length = xs.length ∧ ∀ y ∈ ys, S y
  | [], _ => ⟨[], rfl, rfl, fun _ h => nomatch h⟩
  | a :: as, h => by
    obtain ⟨y, h1, h2⟩ := h a List.mem_cons_self
    obtain ⟨ys, h3, h4, h5⟩ := tmap_ex S (xs := as) fun x hx => h x (List.mem_cons_of_mem _ hx)
    refine ⟨y :: ys, by simp only [tmap, h1, calm_okk, R.bind_ok, h3], by simp [h4], fun z hz => ?_⟩
    rcases List.mem_cons.mp hz with q | q
    · subst q; exact h2
    · exact h5 z q
theorem tcomp_ok {c : α → R Bool} {f : α → R γ} (p : α → Bool) (g : α → γ) : ∀ {xs : List α}, (∀ a ∈ xs, c a = .ok (p a) ∧ (p a = true → f a = .ok (g a))) → tcomp c f xs = .ok ((xs.filter p).map g)
  | [], _ => rfl
  | a :: as, h => by
    obtain ⟨h1, h2⟩ := h a List.mem_cons_self
    have ih := tcomp_ok p g (xs := as) fun x hx => h x (List.mem_cons_of_mem _ hx)
    cases hp : p a with
    | true => simp only [tcomp, h1, hp, calm_okk, R.bind_ok, if_true, h2 hp, ih, List.filter_cons, List.map_cons]
    | false => simp only [tcomp, h1, hp, calm_okk, R.bind_ok, ih, List.filter_cons]; rfl
theorem tidx_nat {xs : List α} {k : Nat} {a : α} (h : xs[k]? = some a) : tidx xs (k : Int) = .ok a := by
  unfold tidx; rw [atI_nat, h]
theorem tidx_of {xs : List α} {j : Int} {k : Nat} {a : α} (hj : j = (k : Int)) (h : xs[k]? = some a) : tidx xs j = .ok a := by rw [hj]; exact tidx_nat h
theorem tidx_lt {xs : List α} {k : Nat} (h : k < xs.length) : tidx xs (k : Int) = .ok xs[k] := tidx_nat (by simp [h])
@[simp] theorem tidx_0 (a : α) (xs : List α) : tidx (a :: xs) 0 = .ok a := tidx_nat (k := 0) rfl
@[simp] theorem tidx_1 (a b : α) (xs : List α) : tidx (a :: b :: xs) 1 = .ok b := tidx_nat (k := 1) rfl
@[simp] theorem tidx_2 (a b c : α) (xs : List α) : tidx (a :: b :: c :: xs) 2 = .ok c := tidx_nat (k := 2) rfl
@[simp] theorem tidx_3 (a b c d : α) (xs : List α) : tidx (a :: b :: c :: d :: xs) 3 = .ok d := tidx_nat (k := 3) rfl
@[simp] theorem tidx_4 (a b c d f : α) (xs : List α) : tidx (a :: b :: c :: d :: f :: xs) 4 = .ok f := tidx_nat (k := 4) rfl
@[simp] theorem tidx_5 (a b c d f g : α) (xs : List α) : tidx (a :: b :: c :: d :: f :: g :: xs) 5 = .ok g := tidx_nat (k := 5) rfl
@[simp] theorem tidx_6 (a b c d f g h : α) (xs : List α) : tidx (a :: b :: c :: d :: f :: g :: h :: xs) 6 = .ok h := tidx_nat (k := 6) rfl
@[simp] theorem tidx_7 (a b c d f g h i : α) (xs : List α) : tidx (a :: b :: c :: d :: f :: g :: h :: i :: xs) 7 = .ok i := tidx_nat (k := 7) rfl
theorem tapp_ok {xs : List α} {a : α} (h : xs.length < 16777216) : tapp xs a = .ok (xs ++ [a]) := if_pos h
theorem taddL_ok {xs ys : List α} (h : xs.length + ys.length ≤ 16777216) : taddL xs ys = .ok (xs ++ ys) := if_pos h
theorem text_ok {xs ys : List α} (h : xs.length + ys.length ≤ 16777216) : text xs ys = .ok (xs ++ ys) := if_pos h
end
@[simp] theorem rangeI_len (lo : Int) (n : Nat) : (rangeI lo n).length = n := by unfold rangeI; simp
theorem rangeI_succ (lo : Int) (n : Nat) : rangeI lo (n + 1) = lo :: rangeI (lo + 1) n := by
  unfold rangeI
  rw [List.range_succ_eq_map, List.map_cons, List.map_map]
  congr 1
  · simp
  · refine List.map_congr_left fun k _ => ?_
    simp only [Function.comp]
    omega
theorem rangeI_get {lo : Int} {n i : Nat} {d : Int} (h : (rangeI lo n)[i]? = some d) : i < n ∧ d = lo + (i : Int) := by
  unfold rangeI at h
  rw [List.getElem?_map] at h
  by_cases hi : i < n
  · rw [List.getElem?_range hi] at h
    simp at h
    exact ⟨hi, h.symm⟩
  · rw [List.getElem?_eq_none (by simp; omega)] at h
    simp at h
theorem rangeI_mem {lo : Int} {n : Nat} {d : Int} : d ∈ rangeI lo n ↔ ∃ k : Nat, k < n ∧ d = lo + (k : Int) := by
  unfold rangeI
  simp only [List.mem_map, List.mem_range]
  exact ⟨fun ⟨k, h1, h2⟩ => ⟨k, h1, h2.symm⟩, fun ⟨k, h1, h2⟩ => ⟨k, h1, h2.symm⟩⟩
@[simp] theorem trange1_nat {n : Nat} (h : n ≤ 16777216) : trange1 (n : Int) = .ok (rangeI 0 n) := by
  unfold trange1; rw [if_pos (rngOk_nat h)]; simp
theorem trange2_of {i j : Int} {n : Nat} (hj : (j - i).toNat = n) (h1 : -16777216 ≤ i) (h2 : i ≤ 16777216) (h3 : -16777216 ≤ j) (h4 : j ≤ 16777216) (h5 : j - i ≤ 16777216) : trange2 i j = .ok (rangeI i n) := by
  unfold trange2; rw [if_pos (show rngOk i j from ⟨h1, h2, h3, h4, h5⟩), hj]
theorem tmulI_ok {a b : Int} (h : IntMulOk a b) : tmulI a b = .ok (a * b) := by unfold tmulI; rw [if_pos h]
theorem tmulI_r {a b : Int} (h : Sm 64 b) : tmulI a b = .ok (a * b) := tmulI_ok (IntMulOk.of_right h.bits)
theorem tmulI_l {a b : Int} (h : Sm 64 a) : tmulI a b = .ok (a * b) := tmulI_ok (IntMulOk.of_left h.bits)
theorem tmulI_sm {m n : Nat} {a b : Int} (h : Sm m a) (g : Sm n b) (l : m + n ≤ 134217728 := by decide) : tmulI a b = .ok (a * b) := tmulI_ok (h.mulOk g l)
@[simp] theorem tmulI_bd {a b : Int} {m n : Nat} [ha : Bd a m] [hb : Bd b n] (h : m + n ≤ 134217728) : tmulI a b = .ok (a * b) := tmulI_sm ha.h hb.h h
theorem tfdivI_pos {a b : Int} (h : 0 < b) (h2 : b < 2 ^ 250) : tfdivI a b = .ok (a / b) := by unfold tfdivI; rw [cite_pos ⟨h, h2⟩]
@[simp] theorem tmodI_pos {a b : Int} (h : 0 < b) : tmodI a b = .ok (a % b) := if_pos h
theorem tpowI_ok {a b : Int} (h : 0 ≤ b ∧ b ≤ 1000 ∧ a.natAbs < 2 ^ 64) : tpowI a b = .ok (a ^ b.toNat) := by unfold tpowI; rw [cite_pos h]
theorem cutG_from {α : Type} (xs : List α) (k : Nat) : cutG xs (some (k : Int)) none = xs.drop k := by
  unfold cutG
  rw [HT.sIx_nat]
  show (xs.drop (min k xs.length)).take (xs.length - min k xs.length) = _
  by_cases h : k ≤ xs.length
  · rw [Nat.min_eq_left h, List.take_of_length_le (by simp)]
  · rw [Nat.min_eq_right (by omega), List.drop_of_length_le (Nat.le_refl _), List.drop_of_length_le (by omega)]; simp
theorem cutG_mid {α : Type} (xs : List α) (j k : Nat) : cutG xs (some (j : Int)) (some (k : Int)) = (xs.drop j).take (k - j) := by
  unfold cutG
  rw [HT.sIx_nat, HT.sIx_nat]
  by_cases hj : j ≤ xs.length
  · rw [Nat.min_eq_left hj]
    by_cases hk : k ≤ xs.length
    · rw [Nat.min_eq_left hk]
    · rw [Nat.min_eq_right (by omega), List.take_of_length_le (by simp), List.take_of_length_le (by simp; omega)]
  · rw [Nat.min_eq_right (show xs.length ≤ j by omega), List.drop_of_length_le (Nat.le_refl _), List.drop_of_length_le (show xs.length ≤ j by omega)]; simp
def Dr (n : Nat) (lim : Int) (ds : List Int) : Prop := ds.length = n ∧ ∀ d ∈ ds, 0 ≤ d ∧ d < lim
theorem Dr.snoc {n : Nat} {lim d : Int} {ds : List Int} (h : Dr n lim ds) (h0 : 0 ≤ d) (h1 : d < lim) : Dr (n + 1) lim (ds ++ [d]) :=
  ⟨by rw [List.length_append, h.1]; rfl, fun x hx => by
    rcases List.mem_append.mp hx with q | q
    · exact h.2 x q
    · rw [List.mem_singleton.mp q]; exact ⟨h0, h1⟩⟩
theorem Dr.idx {n : Nat} {lim : Int} {ds : List Int} (h : Dr n lim ds) (i : Nat) (hi : i < n) : ∃ d, tidx ds (i : Int) = .ok d ∧ 0 ≤ d ∧ d < lim := by
  have hl : i < ds.length := by rw [h.1]; exact hi
  exact ⟨ds[i], tidx_lt hl, h.2 _ (List.getElem_mem hl)⟩
theorem Dr.ix {n : Nat} {lim : Int} {ds : List Int} (h : Dr n lim ds) (j : Int) (h0 : 0 ≤ j := by omega) (h1 : j < (n : Int) := by omega) : ∃ d, tidx ds j = .ok d ∧ 0 ≤ d ∧ d < lim := by
  obtain ⟨d, e, r⟩ := h.idx j.toNat (by omega)
  exact ⟨d, by rw [show ((j.toNat : Nat) : Int) = j by omega] at e; exact e, r⟩
end VL

namespace VL
open PySem PySem.Spec PyProof.Rows L2

def O.kids : O → Option (List O)
  | .tup xs => some xs
  | .lst xs => some xs
  | .dct _ xs => some xs
  | .ins _ _ xs => some xs
  | .par _ o => some [o]
  | .fz _ => none
def O.setKid : O → Nat → O → O
  | .tup xs, k, n => .tup (xs.set k n)
  | .lst xs, k, n => .lst (xs.set k n)
  | .dct ks xs, k, n => .dct ks (xs.set k n)
  | .ins c ns xs, k, n => .ins c ns (xs.set k n)
  | .par a _, _, n => .par a n
  | .fz d, _, _ => .fz d
def O.at (o : O) : List Nat → Option O
  | [] => some o
  | k :: ks => match o.kids with
    | some xs => (match xs[k]? with
      | some x => O.at x ks
      | none => none)
    | none => none
def O.put (o : O) : List Nat → O → O
  | [], n => n
  | k :: ks, n => match o.kids with
    | some xs => (match xs[k]? with
      | some x => o.setKid k (O.put x ks n)
      | none => o)
    | none => o
inductive Pth (K : PySem.W.Frag) (F H : Hp) : V → O → List Nat → V → Prop
  | nil {v : V} {o : O} : Pth K F H v o [] v
  | lst {a : Addr} {vs : List V} {os : List O} {k : Nat} {p : List Nat} {v1 v' : V} {o1 : O} : H a = some (.lst vs) → vs.length = os.length → vs[k]? = some v1 → os[k]? = some o1 → Pth K F H v1 o1 p v' → Pth K F H (.ref a) (.lst os) (k :: p) v'
  | tup {a : Addr} {vs : List V} {os : List O} {k : Nat} {p : List Nat} {v1 v' : V} {o1 : O} : F a = some (.tup vs) → vs.length = os.length → vs[k]? = some v1 → os[k]? = some o1 → Pth K F H v1 o1 p v' → Pth K F H (.ref a) (.tup os) (k :: p) v'
  | dct {a : Addr} {ks : KS} {vs : List V} {os : List O} {k : Nat} {p : List Nat} {v1 v' : V} {o1 : O} : H a = some (hoD ks vs) → ks.len = vs.length → vs.length = os.length → vs[k]? = some v1 → os[k]? = some o1 → Pth K F H v1 o1 p v' → Pth K F H (.ref a) (.dct ks os) (k :: p) v'
  | ins {a C dx : Addr} {c : Str} {ns : List Str} {vs : List V} {os : List O} {k : Nat} {p : List Nat} {v1 v' : V} {o1 : O} : clsOf K c = some C → H a = some (.ins C dx (ns.zip vs)) → ns.length = vs.length → vs.length = os.length → vs[k]? = some v1 → os[k]? = some o1 → Pth K F H v1 o1 p v' → Pth K F H (.ref a) (.ins c ns os) (k :: p) v'
  | par {a : Addr} {o : O} {p : List Nat} {v' : V} : Pth K F H (.ref a) o p v' → Pth K F H (.ref a) (.par a o) (0 :: p) v'
theorem Pth.mono {K : PySem.W.Frag} {F F' H H' : Hp} (e : Same H H') (ef : Same F F') {v : V} {o : O} {p : List Nat} {v' : V} (h : Pth K F H v o p v') : Pth K F' H' v o p v' := by
  induction h with
  | nil => exact .nil
  | lst h1 h2 h3 h4 _ ih => exact .lst (e _ _ h1) h2 h3 h4 ih
  | tup h1 h2 h3 h4 _ ih => exact .tup (ef _ _ h1) h2 h3 h4 ih
  | dct h1 hl h2 h3 h4 _ ih => exact .dct (e _ _ h1) hl h2 h3 h4 ih
  | ins hc h1 hl h2 h3 h4 _ ih => exact .ins hc (e _ _ h1) hl h2 h3 h4 ih
  | par _ ih => exact .par ih
theorem OwnL.child {K : PySem.W.Frag} {F H : Hp} : ∀ {os : List O} {vs : List V} {fps : List Addr} {k : Nat} {o1 : O}, OwnL K F H vs os fps → os[k]? = some o1 → ∃ v1 f1 fr, vs[k]? = some v1 ∧ Own K F H v1 o1 f1 ∧ fps.Perm (f1 ++ fr) ∧
    ∀ F2 H2 o2 f2, Own K F2 H2 v1 o2 f2 → Same F F2 → (∀ a ∈ fr, H2 a = H a) → ∃ fq, OwnL K F2 H2 vs (os.set k o2) fq ∧ fq.Perm (f2 ++ fr)
  | [], _, _, k, o1, h, e => by simp at e
  | o :: os, _, _, 0, o1, h, e => by
    cases h with
    | @cons v vs _ _ f1 f2 h1 h2 =>
      simp at e
      subst e
      exact ⟨v, f1, f2, rfl, h1, .refl _, fun F2 H2 o2 f3 q1 q2 q3 => ⟨f3 ++ f2, .cons q1 (h2.keep q2 q3), .refl _⟩⟩
  | o :: os, _, _, k + 1, o1, h, e => by
    cases h with
    | @cons v vs _ _ f1 f2 h1 h2 =>
      obtain ⟨v1, g1, gr, e1, e2, e3, e4⟩ := OwnL.child (k := k) h2 (by simpa using e)
      refine ⟨v1, g1, f1 ++ gr, by simpa using e1, e2, ?_, fun F2 H2 o2 f3 q1 q2 q3 => ?_⟩
      · refine (List.Perm.append_left f1 e3).trans ?_
        rw [← List.append_assoc, ← List.append_assoc]
        exact List.Perm.append_right _ List.perm_append_comm
      · obtain ⟨fq, z1, z2⟩ := e4 F2 H2 o2 f3 q1 q2 fun a ha => q3 a (List.mem_append_right _ ha)
        refine ⟨f1 ++ fq, .cons (h1.keep q2 fun a ha => q3 a (List.mem_append_left _ ha)) z1, ?_⟩
        refine (List.Perm.append_left f1 z2).trans ?_
        rw [← List.append_assoc, ← List.append_assoc]
        exact List.Perm.append_right _ List.perm_append_comm
theorem perm_mid {α : Type} (c a b : List α) : (c ++ (a ++ b)).Perm (a ++ (c ++ b)) := by
  rw [← List.append_assoc, ← List.append_assoc]
  exact List.Perm.append_right _ List.perm_append_comm
theorem Own.path {K : PySem.W.Frag} {F H : Hp} : ∀ (p : List Nat) {o : O} {v : V} {fp : List Addr} {o' : O}, Own K F H v o fp → o.at p = some o' → ∃ v' f1 fr, Pth K F H v o p v' ∧ Own K F H v' o' f1 ∧ fp.Perm (f1 ++ fr) ∧
    ∀ F2 H2 o2 f2, Own K F2 H2 v' o2 f2 → Same F F2 → (∀ a ∈ fr, H2 a = H a) → ∃ fq, Own K F2 H2 v (o.put p o2) fq ∧ fq.Perm (f2 ++ fr)
  | [], o, v, fp, o', h, e => by
    simp only [O.at, Option.some.injEq] at e
    subst e
    exact ⟨v, fp, [], .nil, h, by simp, fun F2 H2 o2 f2 q1 q2 q3 => ⟨f2, q1, by simp⟩⟩
  | k :: p, o, v, fp, o', h, e => by
    simp only [O.at] at e
    cases o with
    | fz d => cases e
    | par a o =>
      simp only [O.kids] at e
      cases k with
      | succ k => simp at e
      | zero =>
        simp only [List.getElem?_cons_zero] at e
        cases h with
        | par h1 =>
          obtain ⟨v', f1, fr, e1, e2, e3, e4⟩ := Own.path p h1 e
          refine ⟨v', f1, fr, .par e1, e2, e3, fun F2 H2 o2 f2 q1 q2 q3 => ?_⟩
          obtain ⟨fq, z1, z2⟩ := e4 F2 H2 o2 f2 q1 q2 q3
          exact ⟨fq, .par z1, z2⟩
    | tup os =>
      simp only [O.kids] at e
      cases hk : os[k]? with
      | none => rw [hk] at e; cases e
      | some x =>
        rw [hk] at e
        cases h with
        | tup h1 h2 =>
          obtain ⟨v1, g1, gr, c1, c2, c3, c4⟩ := h2.child hk
          obtain ⟨v', f1, fr, e1, e2, e3, e4⟩ := Own.path p c2 e
          refine ⟨v', f1, fr ++ gr, .tup h1 h2.len c1 hk e1, e2, ?_, fun F2 H2 o2 f2 q1 q2 q3 => ?_⟩
          · rw [← List.append_assoc]; exact c3.trans (List.Perm.append_right _ e3)
          · obtain ⟨fq, z1, z2⟩ := e4 F2 H2 o2 f2 q1 q2 fun a ha => q3 a (List.mem_append_left _ ha)
            obtain ⟨fz, w1, w2⟩ := c4 F2 H2 _ fq z1 q2 fun a ha => q3 a (List.mem_append_right _ ha)
            refine ⟨fz, ?_, ?_⟩
            · simp only [O.put, O.kids, hk, O.setKid]; exact .tup (q2 _ _ h1) w1
            · rw [← List.append_assoc]; exact w2.trans (List.Perm.append_right _ z2)
    | lst os =>
      simp only [O.kids] at e
      cases hk : os[k]? with
      | none => rw [hk] at e; cases e
      | some x =>
        rw [hk] at e
        cases h with
        | @lst a vs _ fpi h1 h2 =>
          obtain ⟨v1, g1, gr, c1, c2, c3, c4⟩ := h2.child hk
          obtain ⟨v', f1, fr, e1, e2, e3, e4⟩ := Own.path p c2 e
          refine ⟨v', f1, a :: (fr ++ gr), .lst h1 h2.len c1 hk e1, e2, ?_, fun F2 H2 o2 f2 q1 q2 q3 => ?_⟩
          · refine (List.Perm.cons a (c3.trans (List.Perm.append_right _ e3))).trans ?_
            rw [List.append_assoc]
            exact (List.perm_middle (l₁ := f1) (l₂ := fr ++ gr) (a := a)).symm
          · obtain ⟨fq, z1, z2⟩ := e4 F2 H2 o2 f2 q1 q2 fun a ha => q3 a (List.mem_cons_of_mem _ (List.mem_append_left _ ha))
            obtain ⟨fz, w1, w2⟩ := c4 F2 H2 _ fq z1 q2 fun a ha => q3 a (List.mem_cons_of_mem _ (List.mem_append_right _ ha))
            refine ⟨a :: fz, ?_, ?_⟩
            · simp only [O.put, O.kids, hk, O.setKid]; exact .lst ((q3 a List.mem_cons_self).trans h1) w1
            · refine (List.Perm.cons a (w2.trans (List.Perm.append_right _ z2))).trans ?_
              rw [List.append_assoc]
              exact (List.perm_middle (l₁ := f2) (l₂ := fr ++ gr) (a := a)).symm
    | dct ks os =>
      simp only [O.kids] at e
      cases hk : os[k]? with
      | none => rw [hk] at e; cases e
      | some x =>
        rw [hk] at e
        cases h with
        | @dct a _ vs _ fpi h1 hl h2 =>
          obtain ⟨v1, g1, gr, c1, c2, c3, c4⟩ := h2.child hk
          obtain ⟨v', f1, fr, e1, e2, e3, e4⟩ := Own.path p c2 e
          refine ⟨v', f1, a :: (fr ++ gr), .dct h1 hl.1 h2.len c1 hk e1, e2, ?_, fun F2 H2 o2 f2 q1 q2 q3 => ?_⟩
          · refine (List.Perm.cons a (c3.trans (List.Perm.append_right _ e3))).trans ?_
            rw [List.append_assoc]
            exact (List.perm_middle (l₁ := f1) (l₂ := fr ++ gr) (a := a)).symm
          · obtain ⟨fq, z1, z2⟩ := e4 F2 H2 o2 f2 q1 q2 fun a ha => q3 a (List.mem_cons_of_mem _ (List.mem_append_left _ ha))
            obtain ⟨fz, w1, w2⟩ := c4 F2 H2 _ fq z1 q2 fun a ha => q3 a (List.mem_cons_of_mem _ (List.mem_append_right _ ha))
            refine ⟨a :: fz, ?_, ?_⟩
            · simp only [O.put, O.kids, hk, O.setKid]; exact .dct ((q3 a List.mem_cons_self).trans h1) hl w1
            · refine (List.Perm.cons a (w2.trans (List.Perm.append_right _ z2))).trans ?_
              rw [List.append_assoc]
              exact (List.perm_middle (l₁ := f2) (l₂ := fr ++ gr) (a := a)).symm
    | ins c ns os =>
      simp only [O.kids] at e
      cases hk : os[k]? with
      | none => rw [hk] at e; cases e
      | some x =>
        rw [hk] at e
        cases h with
        | @ins a C dx _ _ vs _ fpi hc h1 hd hl h2 =>
          obtain ⟨v1, g1, gr, c1, c2, c3, c4⟩ := h2.child hk
          obtain ⟨v', f1, fr, e1, e2, e3, e4⟩ := Own.path p c2 e
          refine ⟨v', f1, a :: dx :: (fr ++ gr), .ins hc h1 hl h2.len c1 hk e1, e2, ?_, fun F2 H2 o2 f2 q1 q2 q3 => ?_⟩
          · refine (List.Perm.cons a (List.Perm.cons dx (c3.trans (List.Perm.append_right _ e3)))).trans ?_
            rw [List.append_assoc]
            exact perm_mid [a, dx] f1 (fr ++ gr)
          · obtain ⟨fq, z1, z2⟩ := e4 F2 H2 o2 f2 q1 q2 fun a ha => q3 a (List.mem_cons_of_mem _ (List.mem_cons_of_mem _ (List.mem_append_left _ ha)))
            obtain ⟨fz, w1, w2⟩ := c4 F2 H2 _ fq z1 q2 fun a ha => q3 a (List.mem_cons_of_mem _ (List.mem_cons_of_mem _ (List.mem_append_right _ ha)))
            refine ⟨a :: dx :: fz, ?_, ?_⟩
            · simp only [O.put, O.kids, hk, O.setKid]
              exact .ins hc ((q3 a List.mem_cons_self).trans h1) ((q3 dx (List.mem_cons_of_mem _ List.mem_cons_self)).trans hd) hl w1
            · refine (List.Perm.cons a (List.Perm.cons dx (w2.trans (List.Perm.append_right _ z2)))).trans ?_
              rw [List.append_assoc]
              exact perm_mid [a, dx] f2 (fr ++ gr)
def cutH (H : Hp) (fp : List Addr) : Hp := fun a => if a ∈ fp then none else H a
theorem cutH_in {H : Hp} {fp : List Addr} {a : Addr} (h : a ∈ fp) : cutH H fp a = none := if_pos h
theorem cutH_out {H : Hp} {fp : List Addr} {a : Addr} (h : a ∉ fp) : cutH H fp a = H a := if_neg h
theorem NT.cut {H H0 : Hp} {fp : List Addr} {a : Addr} (h : NT (cutH H fp) a) (c : cutH H fp a = none → H0 a = none) (s : Same H0 H) : NT H0 a := by
  rcases h with h | ⟨ys, h⟩
  · exact .inl (c h)
  · refine NT.back s (.inr ⟨ys, ?_⟩)
    by_cases m : a ∈ fp
    · rw [cutH_in m] at h; cases h
    · rw [cutH_out m] at h; exact h
theorem RS.place {K : PySem.W.Frag} {F0 H0 F H : Hp} {σ : L2.St} {ρ : OEnv} {y : V} {oy : O} {i : Nat} {o o' : O} {p : List Nat} (r : RS K F0 H0 F H (some y :: σ) (some oy :: ρ)) (ei : ρ[i]? = some (some o)) (ep : o.at p = some o') :
    ∃ v v' f1 fy, σ[i]? = some (some v) ∧ Pth K F H v o p v' ∧ Own K F H v' o' f1 ∧ Own K F H y oy fy ∧ (fy ++ f1).Nodup ∧ (∀ a ∈ fy ++ f1, F a = none) ∧ Same F H ∧
      ∀ F2 H2 o2, RV K F (cutH H (fy ++ f1)) F2 H2 v' o2 → RS K F0 H0 F2 H2 σ (ρ.set i (some (o.put p o2))) := by
  obtain ⟨fps, sl, hs⟩ := r.ex
  cases sl with
  | @ow _ _ fy _ _ fpt hy s =>
    obtain ⟨v, fp, fpr, e1, e2, e3, e4, e5⟩ := s.split ei
    obtain ⟨v', f1, fr, p1, p2, p3, p4⟩ := e2.path p ep
    have hp : Hs F0 H0 F H (fy ++ (f1 ++ (fr ++ fpr))) := hs.perm (List.Perm.append_left fy (e3.trans (by rw [← List.append_assoc]; exact List.Perm.append_right _ p3)))
    have hp' : Hs F0 H0 F H ((fy ++ f1) ++ (fr ++ fpr)) := by rw [List.append_assoc]; exact hp
    have nd := List.nodup_append.mp hp'.nd
    have lstT : ∀ a ∈ fr ++ fpr, ∃ u, H a = some u ∧ NoT u := fun a ha => by
      rcases List.mem_append.mp ha with q | q
      · exact e2.lstAt a (p3.mem_iff.mpr (List.mem_append_right _ q))
      · exact s.lstAt a (e3.mem_iff.mpr (List.mem_append_right _ q))
    have lst : ∀ a ∈ fr ++ fpr, ∃ u, H a = some u := fun a ha => by
      obtain ⟨u, z, _⟩ := lstT a ha; exact ⟨u, z⟩
    refine ⟨v, v', f1, fy, e1, p1, p2, hy, nd.1, fun a ha => (hp'.ow a (List.mem_append_left _ ha)).1, hs.fh, fun F2 H2 o2 ⟨f2, w1, w2⟩ => ?_⟩
    have kp : ∀ a ∈ fr ++ fpr, cutH H (fy ++ f1) a = H a := fun a ha => cutH_out fun m => nd.2.2 a m a ha rfl
    have keep : ∀ a ∈ fr ++ fpr, H2 a = H a := fun a ha => by
      obtain ⟨u, z⟩ := lst a ha
      rw [z]
      exact w2.h0 _ _ ((kp a ha).trans z)
    obtain ⟨fq, g1, g2⟩ := p4 F2 H2 o2 f2 w1 w2.f0 fun a ha => keep a (List.mem_append_left _ ha)
    obtain ⟨fz, g3, g4⟩ := e5 F2 H2 v _ fq g1 w2.f0 fun a ha => keep a (List.mem_append_right _ ha)
    rw [set_same e1] at g3
    have pm : fz.Perm (f2 ++ (fr ++ fpr)) := g4.trans (by rw [← List.append_assoc]; exact List.Perm.append_right _ g2)
    have cut0 : ∀ a, cutH H (fy ++ f1) a = none → H0 a = none := fun a ha => by
      by_cases m : a ∈ fy ++ f1
      · exact (hp'.ow a (List.mem_append_left _ m)).2
      · rw [cutH_out m] at ha; exact Same.free hs.h0 ha
    refine ⟨fz, g3, Hs.perm ?_ pm.symm⟩
    refine ⟨List.nodup_append.mpr ⟨w2.nd, nd.2.1, fun a ha b hb e => ?_⟩, fun a ha => ?_, w2.fh, hs.f0.trans w2.f0, fun a u z => ?_, fun a z1 z2 => ?_⟩
    · subst e
      obtain ⟨u, z⟩ := lst a hb
      have := (w2.ow a ha).2
      rw [kp a hb, z] at this
      cases this
    · rcases List.mem_append.mp ha with m | m
      · exact ⟨(w2.ow a m).1, cut0 a (w2.ow a m).2⟩
      · refine ⟨?_, (hp'.ow a (List.mem_append_right _ m)).2⟩
        cases q : F2 a with
        | none => rfl
        | some u =>
          have := w2.nw a (hp'.ow a (List.mem_append_right _ m)).1 (by rw [q]; exact fun w => nomatch w)
          obtain ⟨u', z, zt⟩ := lstT a m
          exact (this.no ((kp a m).trans z) zt.1).elim
    · refine w2.h0 _ _ ?_
      rw [cutH_out fun m => by rw [(hp'.ow a (List.mem_append_left _ m)).2] at z; cases z]
      exact hs.h0 _ _ z
    · cases q : F a with
      | some u => exact hs.nw a z1 (by rw [q]; exact fun w => nomatch w)
      | none => exact (w2.nw a q z2).cut (cut0 a) hs.h0
theorem RV.cell {K : PySem.W.Frag} {F H : Hp} {a : Addr} {ho2 : HO} {o2 : O} {f1 fi : List Addr} (fh : Same F H) (nd : f1.Nodup) (fn : ∀ b ∈ f1, F b = none) (ha : a ∈ f1) (hfi : ∀ b ∈ fi, b ∈ f1) (hfa : a ∉ fi) (ndi : fi.Nodup) (ho : Own K F (upd H a ho2) (.ref a) o2 (a :: fi)) : RV K F (cutH H f1) F (upd H a ho2) (.ref a) o2 :=
  ⟨a :: fi, ho, List.nodup_cons.mpr ⟨hfa, ndi⟩, fun b hb => by
    rcases List.mem_cons.mp hb with q | q
    · subst q; exact ⟨fn _ ha, cutH_in ha⟩
    · exact ⟨fn b (hfi b q), cutH_in (hfi b q)⟩, fun b u z => by
    have hb : b ≠ a := fun e => by rw [e, fn a ha] at z; cases z
    rw [upd_ne hb]; exact fh _ _ z, Same.refl F, fun b u z => by
    have hb : b ≠ a := fun e => by rw [e, cutH_in ha] at z; cases z
    rw [upd_ne hb]
    by_cases m : b ∈ f1
    · rw [cutH_in m] at z; cases z
    · rw [cutH_out m] at z; exact z, fun b z1 z2 => absurd z1 z2⟩
theorem RS.mutL {K : PySem.W.Frag} {F0 H0 F H : Hp} {σ : L2.St} {ρ : OEnv} {y : V} {oy : O} {i : Nat} {o : O} {os : List O} {p : List Nat} (r : RS K F0 H0 F H (some y :: σ) (some oy :: ρ)) (ei : ρ[i]? = some (some o)) (ep : o.at p = some (.lst os)) :
    ∃ v a vs, σ[i]? = some (some v) ∧ Pth K F H v o p (.ref a) ∧ H a = some (.lst vs) ∧ vs.length = os.length ∧
      ∀ {tv : List V → V → List V} {to : List O → O → List O}, Chg tv to → RS K F0 H0 F (upd H a (.lst (tv vs y))) σ (ρ.set i (some (o.put p (.lst (to os oy))))) := by
  obtain ⟨v, v', f1, fy, e1, e2, e3, e4, nd, fn, fh, back⟩ := r.place ei ep
  cases e3 with
  | @lst a vs _ fi ha hl =>
    refine ⟨v, a, vs, e1, e2, ha, hl.len, fun {tv to} c => back F _ _ ?_⟩
    have nd2 := List.nodup_append.mp nd
    have na_y : a ∉ fy := fun m => nd2.2.2 a m a List.mem_cons_self rfl
    have na_i : a ∉ fi := (List.nodup_cons.mp nd2.2.1).1
    have hk : ∀ b, b ≠ a → upd H a (.lst (tv vs y)) b = H b := fun b hb => upd_ne hb
    have o1 : Own K F (upd H a (.lst (tv vs y))) y oy fy := e4.keep (Same.refl F) fun b hb => hk b fun e => na_y (e ▸ hb)
    have l1 : OwnL K F (upd H a (.lst (tv vs y))) vs os fi := hl.keep (Same.refl F) fun b hb => hk b fun e => na_i (e ▸ hb)
    obtain ⟨fp', z1, fp'', z2, z3⟩ := c.own l1 o1
    have sub : ∀ b ∈ fp', b ∈ fi ++ fy := fun b hb => z3.subset (z2.mem_iff.mp hb)
    have ndf : (fi ++ fy).Nodup := List.nodup_append.mpr ⟨(List.nodup_cons.mp nd2.2.1).2, nd2.1, fun x hx w hw e => nd2.2.2 w hw x (List.mem_cons_of_mem _ hx) e.symm⟩
    refine RV.cell (fi := fp') fh nd fn (List.mem_append_right _ List.mem_cons_self) (fun b hb => ?_) (fun m => ?_) (z2.nodup_iff.mpr (ndf.sublist z3)) (.lst upd_same z1)
    · rcases List.mem_append.mp (sub b hb) with q | q
      · exact List.mem_append_right _ (List.mem_cons_of_mem _ q)
      · exact List.mem_append_left _ q
    · rcases List.mem_append.mp (sub a m) with q | q
      · exact na_i q
      · exact na_y q
end VL

namespace VL
open PySem PySem.Spec PyProof.Rows L2

theorem hoD_inj {k1 k2 : KS} {v1 v2 : List V} (h : hoD k1 v1 = hoD k2 v2) (l1 : k1.len = v1.length) (l2 : k2.len = v2.length) : v1 = v2 := by
  cases k1 with
  | inl a =>
    cases k2 with
    | inl b =>
      simp only [hoD, HO.dK.injEq] at h
      have := congrArg (List.map Prod.snd) h
      rw [List.map_snd_zip (Nat.le_of_eq l1.symm), List.map_snd_zip (Nat.le_of_eq l2.symm)] at this
      exact this
    | inr b => cases h
  | inr a =>
    cases k2 with
    | inl b => cases h
    | inr b =>
      simp only [hoD, HO.dT.injEq] at h
      have := congrArg (List.map Prod.snd) h
      rw [List.map_snd_zip (Nat.le_of_eq l1.symm), List.map_snd_zip (Nat.le_of_eq l2.symm)] at this
      exact this
theorem zip_inj {α β : Type} {n1 n2 : List α} {v1 v2 : List β} (h : n1.zip v1 = n2.zip v2) (l1 : n1.length = v1.length) (l2 : n2.length = v2.length) : n1 = n2 ∧ v1 = v2 := by
  constructor
  · have := congrArg (List.map Prod.fst) h
    rw [List.map_fst_zip (Nat.le_of_eq l1), List.map_fst_zip (Nat.le_of_eq l2)] at this
    exact this
  · have := congrArg (List.map Prod.snd) h
    rw [List.map_snd_zip (Nat.le_of_eq l1.symm), List.map_snd_zip (Nat.le_of_eq l2.symm)] at this
    exact this
theorem Pth.det {K : PySem.W.Frag} {F H : Hp} {v : V} {o : O} {p : List Nat} {x y : V} (h : Pth K F H v o p x) (g : Pth K F H v o p y) : x = y := by
  induction h generalizing y with
  | nil => cases g; rfl
  | lst h1 h2 h3 h4 _ ih =>
    cases g with
    | lst g1 g2 g3 g4 g5 =>
      rw [h1] at g1; cases g1
      rw [h3] at g3; cases g3
      rw [h4] at g4; cases g4
      exact ih g5
  | tup h1 h2 h3 h4 _ ih =>
    cases g with
    | tup g1 g2 g3 g4 g5 =>
      rw [h1] at g1; cases g1
      rw [h3] at g3; cases g3
      rw [h4] at g4; cases g4
      exact ih g5
  | dct h1 hl h2 h3 h4 _ ih =>
    cases g with
    | dct g1 gl g2 g3 g4 g5 =>
      rw [h1] at g1
      have := hoD_inj (Option.some.inj g1) hl gl
      subst this
      rw [h3] at g3; cases g3
      rw [h4] at g4; cases g4
      exact ih g5
  | ins hc h1 hl h2 h3 h4 _ ih =>
    cases g with
    | ins gc g1 gl g2 g3 g4 g5 =>
      rw [h1] at g1
      have e := Option.some.inj g1
      injection e with e1 e2 e3
      have := (zip_inj e3 hl gl).2
      subst this
      rw [h3] at g3; cases g3
      rw [h4] at g4; cases g4
      exact ih g5
  | par _ ih => cases g with | par g => exact ih g
theorem Pth.app {K : PySem.W.Frag} {F H : Hp} {v : V} {o : O} {p q : List Nat} {x y : V} {o1 : O} (h : Pth K F H v o p x) (ho : o.at p = some o1) (g : Pth K F H x o1 q y) : Pth K F H v o (p ++ q) y := by
  induction h with
  | nil => simp only [O.at, Option.some.injEq] at ho; subst ho; exact g
  | lst h1 h2 h3 h4 _ ih => exact .lst h1 h2 h3 h4 (ih (by simpa only [O.at, O.kids, h4] using ho) g)
  | tup h1 h2 h3 h4 _ ih => exact .tup h1 h2 h3 h4 (ih (by simpa only [O.at, O.kids, h4] using ho) g)
  | dct h1 hl h2 h3 h4 _ ih => exact .dct h1 hl h2 h3 h4 (ih (by simpa only [O.at, O.kids, h4] using ho) g)
  | ins hc h1 hl h2 h3 h4 _ ih => exact .ins hc h1 hl h2 h3 h4 (ih (by simpa only [O.at, O.kids, h4] using ho) g)
  | par _ ih => exact .par (ih (by simpa [O.at, O.kids] using ho) g)
theorem RS.non {K : PySem.W.Frag} {F0 H0 F H : Hp} {σ : L2.St} {ρ : OEnv} (r : RS K F0 H0 F H σ ρ) : RS K F0 H0 F H (some .non :: σ) (some (.fz .none) :: ρ) := r.consFz .non
theorem RS.slot {K : PySem.W.Frag} {F0 H0 F H : Hp} {σ : L2.St} {ρ : OEnv} {i : Nat} {o : O} (r : RS K F0 H0 F H σ ρ) (e : ρ[i]? = some (some o)) : ∃ v, σ[i]? = some (some v) := by
  obtain ⟨fps, s, hs⟩ := r.ex
  obtain ⟨v, fp, fpr, e1, _⟩ := s.split e
  exact ⟨v, e1⟩

structure VPl (X : Cx) (W : WX) (e : Expr) (h : OEnv → R (Nat × List Nat)) : Prop where
  ex : ∃ t, PE X e t ∧ ∀ σ H F0 H0 F ρ Q, RS X.K F0 H0 F H σ ρ → Pst X W σ H (fun ip => ∃ o v, ρ[ip.1]? = some (some o) ∧ σ[ip.1]? = some (some v) ∧ (∃ o', o.at ip.2 = some o') ∧ ∀ v' H' F', Ext F H F' H' → Pth X.K F' H' v o ip.2 v' → Q v' H') (h ρ) → t σ H Q
def lentP : O → List Nat
  | .par _ _ => [0]
  | _ => []
def pVar (i : Nat) : OEnv → R (Nat × List Nat) := fun ρ => match ρ[i]? with
  | some (some o) => .ok (i, lentP o)
  | _ => .stuck
section
variable {X : Cx} {W : WX} {a b c e : Expr} {es : List Expr} {pos : Pos} {hx hk : OEnv → R PyData} {hp : OEnv → R (Nat × List Nat)} {ho : OEnv → R (O × OEnv)} {k : Nat}
theorem vpl_var (i : Nat) (pv : PE X e (tVar i)) : VPl X W e (pVar i) := by
  refine ⟨_, pv, fun σ H F0 H0 F ρ Q r pr => ?_⟩
  unfold pVar at pr
  split at pr
  · rename_i o eo
    obtain ⟨o2, v, e1, e2, ⟨o', e3⟩, q⟩ := pr
    refine ⟨v, e2, q v H F ?_ ?_⟩
    · obtain ⟨_, _, hs⟩ := r.ex; exact .refl hs.fh
    · have e1' : ρ[i]? = some (some o2) := e1
      rw [eo] at e1'
      cases e1'
      obtain ⟨v0, v', f1, fy, g1, g2, g3, _⟩ := r.non.place eo e3
      have g1' : σ[i]? = some (some v0) := g1
      rw [show σ[i]? = some (some v) from e2] at g1'
      cases g1'
      cases o <;> first | exact .nil | skip
      rename_i ad o1
      cases g2 with
      | par g => exact .par .nil
  · exact pr.elim
end
end VL

namespace VL
open PySem PySem.Spec PyProof.Rows L2

structure VOq (X : Cx) (W : WX) (e : Expr) (h : OEnv → R (O × OEnv)) : Prop where
  ex : ∃ t, PE X e t ∧ ∀ σ H F0 H0 F ρ Q, RS X.K F0 H0 F H σ ρ → Pst X W σ H (fun p : O × OEnv => ∀ v H' F', Same H H' → Same F F' → RS X.K F0 H0 F' H' (some v :: σ) (some p.1 :: p.2) → Q v H') (h ρ) → t σ H Q
structure VOs (X : Cx) (W : WX) (es : List Expr) (h : OEnv → R (List O × OEnv)) : Prop where
  ex : ∃ t, PA X es t ∧ ∀ σ H F0 H0 F ρ Q, RS X.K F0 H0 F H σ ρ → Pst X W σ H (fun p : List O × OEnv => ∀ vs H' F', vs.length = p.1.length → Same H H' → Same F F' → RS X.K F0 H0 F' H' (vs.map some ++ σ) (p.1.map some ++ p.2) → Q vs H') (h ρ) → t σ H Q
def oNil : OEnv → R (List O × OEnv) := fun ρ => .ok ([], ρ)
def oCons (h : OEnv → R (O × OEnv)) (g : OEnv → R (List O × OEnv)) : OEnv → R (List O × OEnv) := fun ρ => (h ρ).bind fun p => (g p.2).bind fun q => .ok (p.1 :: q.1, q.2)
def oTup (g : OEnv → R (List O × OEnv)) : OEnv → R (O × OEnv) := fun ρ => (g ρ).bind fun p => if p.1.length ≤ 1000 then .ok (.tup p.1, p.2) else .stuck
@[simp] theorem oNil_ap (ρ : OEnv) : oNil ρ = .ok ([], ρ) := rfl
@[simp] theorem oCons_ap (h : OEnv → R (O × OEnv)) (g : OEnv → R (List O × OEnv)) (ρ : OEnv) : oCons h g ρ = (h ρ).bind fun p => (g p.2).bind fun q => .ok (p.1 :: q.1, q.2) := rfl
@[simp] theorem oTup_ap (g : OEnv → R (List O × OEnv)) (ρ : OEnv) : oTup g ρ = (g ρ).bind fun p => if p.1.length ≤ 1000 then .ok (.tup p.1, p.2) else .stuck := rfl
section
variable {X : Cx} {W : WX} {a b c e : Expr} {es : List Expr} {pos : Pos} {hx hk : OEnv → R PyData} {hp : OEnv → R (Nat × List Nat)} {ho : OEnv → R (O × OEnv)} {g : OEnv → R (List O × OEnv)} {f : PEnv → R (List PyData)} {k : Nat}
theorem VOq.vo (h : VOq X W e ho) : VO X W e ho := by
  obtain ⟨t, p, q⟩ := h.ex
  exact ⟨t, p, fun σ H F0 H0 F ρ Q r pr => q σ H F0 H0 F ρ Q r (Pst.imp (fun p k v H' F' _ _ r' => k v H' F' r') pr)⟩
end
end VL

namespace VL
open PySem PySem.Spec PyProof.Rows L2
structure VOn (X : Cx) (W : WX) (e : Expr) (h : OEnv → R O) : Prop where
  q : VOq X W e (fun ρ => (h ρ).bind fun o => .ok (o, ρ))
def nX (hx : OEnv → R PyData) : OEnv → R O := fun ρ => (hx ρ).bind fun d => .ok (.fz d)
def nFrF (f : PEnv → R (List PyData)) : OEnv → R O := fun ρ => (f (viewF ρ)).bind fun ds => .ok (.lst (ds.map O.fz))
def nCall (g : List PyData → R O) (fa : PEnv → R (List PyData)) : OEnv → R O := fun ρ => (fa (viewF ρ)).bind g
@[simp] theorem nX_ap (hx : OEnv → R PyData) (ρ : OEnv) : nX hx ρ = (hx ρ).bind fun d => .ok (.fz d) := rfl
@[simp] theorem nFrF_ap (f : PEnv → R (List PyData)) (ρ : OEnv) : nFrF f ρ = (f (viewF ρ)).bind fun ds => .ok (.lst (ds.map O.fz)) := rfl
@[simp] theorem nCall_ap (g : List PyData → R O) (fa : PEnv → R (List PyData)) (ρ : OEnv) : nCall g fa ρ = (fa (viewF ρ)).bind g := rfl
section
variable {X : Cx} {W : WX} {a b c e oe ce : Expr} {es : List Expr} {pos : Pos} {hx hk : OEnv → R PyData} {hp : OEnv → R (Nat × List Nat)} {ho : OEnv → R (O × OEnv)} {hn : OEnv → R O} {g : OEnv → R (List O × OEnv)} {f : PEnv → R (List PyData)} {k : Nat}
theorem VOn.ex (h : VOn X W e hn) : ∃ t, PE X e t ∧ ∀ σ H F0 H0 F ρ Q, RS X.K F0 H0 F H σ ρ → Pst X W σ H (fun o : O => ∀ v H' F', Same H H' → Same F F' → RS X.K F0 H0 F' H' (some v :: σ) (some o :: ρ) → Q v H') (hn ρ) → t σ H Q := by
  obtain ⟨t, p, q⟩ := h.q.ex
  refine ⟨t, p, fun σ H F0 H0 F ρ Q r pr => q σ H F0 H0 F ρ Q r ?_⟩
  show Pst X W σ H _ ((hn ρ).bind _)
  cases hr : hn ρ with
  | stuck => rw [hr] at pr; exact pr
  | err c => rw [hr] at pr; exact pr
  | ok o => rw [hr] at pr; exact pr
structure MutOk (r : V → List V → Hp → VK → Prop) (f : List O → O → Option (List O)) : Prop where
  ok : ∀ os oy os', f os oy = some os' → ∃ (tv : List V → V → List V) (to : List O → O → List O), Chg tv to ∧ to os oy = os' ∧ ∀ (a : Addr) (vs : List V) (y : V) (H : Hp) (Q : VK), H a = some (.lst vs) → vs.length = os.length → Q .non (upd H a (.lst (tv vs y))) → r (.ref a) [y] H Q
theorem VPl.go (h : VPl X W oe hp) : ∃ t, PE X oe t ∧ ∀ σ H F0 H0 F ρ Q (kk : Nat × List Nat → SR) (D : Ends), RS X.K F0 H0 F H σ ρ → SPst X W F0 H0 D ((hp ρ).sr ρ kk) →
    (∀ ip o v o', ρ[ip.1]? = some (some o) → σ[ip.1]? = some (some v) → o.at ip.2 = some o' → SPst X W F0 H0 D (kk ip) → ∀ v' H' F', Ext F H F' H' → Pth X.K F' H' v o ip.2 v' → Q v' H') →
    (∀ ip, SPst X W F0 H0 D (kk ip) → ∃ o o', ρ[ip.1]? = some (some o) ∧ o.at ip.2 = some o') → t σ H Q := by
  obtain ⟨t, p, q⟩ := h.ex
  refine ⟨t, p, fun σ H F0 H0 F ρ Q kk D r pr hq hd => q σ H F0 H0 F ρ Q r (sr_pst r pr fun ip po => ?_)⟩
  obtain ⟨o, o', e1, e2⟩ := hd ip po
  obtain ⟨v, ev⟩ := r.slot e1
  exact ⟨o, v, e1, ev, ⟨o', e2⟩, hq ip o v o' e1 ev e2 po⟩
structure MutOk0 (r : V → List V → Hp → VK → Prop) (f : List O → Option (List O)) : Prop where
  ok : ∀ os os', f os = some os' → ∃ (tv : List V → V → List V) (to : List O → O → List O), Chg tv to ∧ to os (.fz .none) = os' ∧ ∀ (a : Addr) (vs : List V) (H : Hp) (Q : VK), H a = some (.lst vs) → vs.length = os.length → Q .non (upd H a (.lst (tv vs .non))) → r (.ref a) [] H Q
def sSetP (hp : OEnv → R (Nat × List Nat)) (hk : OEnv → R PyData) (h : OEnv → R (O × OEnv)) : OEnv → SR := fun ρ => (h ρ).sr ρ fun p => (hp p.2).sr p.2 fun ip => match p.2[ip.1]? with
  | some (some o) => (match o.at ip.2 with
    | some (.lst os) => (hk p.2).sr p.2 fun d => (match d with
      | .int j => (match ixN os.length j with
        | some n => .nx (p.2.set ip.1 (some (o.put ip.2 (.lst (os.set n p.1)))))
        | none => .stuck)
      | _ => .stuck)
    | _ => .stuck)
  | _ => .stuck
theorem vs_setP {p2 : Pos} (mk : ∀ {te to tk : TE}, PE X e te → PE X oe to → PE X b tk → PS X (.Assign [.Subscript oe b p2] e pos) (tAsg te (gSub to tk rSetL))) (h1 : VPl X W oe hp) (h2 : VX X W b hk) (h3 : VO X W e ho) :
    VS X W (.Assign [.Subscript oe b p2] e pos) (sSetP hp hk ho) := by
  obtain ⟨t1, p1, q1⟩ := h1.go
  obtain ⟨t2, pk, qk⟩ := h2.ex
  obtain ⟨t3, p3, q3⟩ := h3.ex
  refine ⟨_, mk p3 p1 pk, fun D σ H F0 H0 F ρ rs pr => ?_⟩
  unfold sSetP at pr
  refine q3 σ H F0 H0 F ρ _ rs (sr_pst rs pr fun py po y H1 F1 ry => ?_)
  have rt := ry.tail
  refine q1 σ H1 F0 H0 F1 py.2 _ _ D rt po (fun ip o v o' e1 ev e2 po v' H2 F2 ex pt => ?_) (fun ip po => ?_)
  · rw [e1] at po
    simp only [e2] at po
    cases o' with
    | lst os =>
      simp only at po
      have rt2 := rt.ext ex
      refine qk σ H2 F0 H0 F2 py.2 _ rt2 (sr_pst rt2 po fun d pd => ?_)
      intro iv H3 F3 ex3 di
      cases di <;> first | exact pd.elim | skip
      rename_i j
      simp only at pd
      cases hix : ixN os.length j with
      | none => rw [hix] at pd; exact pd.elim
      | some n =>
        rw [hix] at pd
        obtain ⟨v3, a3, vs3, k1, k2, k3, k4, k5⟩ := ((ry.ext ex).ext ex3).mutL e1 e2
        have k1' : σ[ip.1]? = some (some v3) := k1
        rw [ev] at k1'; cases k1'
        have ea := (pt.mono ex3.hh ex3.bb).det k2
        subst ea
        exact ⟨a3, vs3, j, n, rfl, rfl, k3, by rw [k4]; exact hix, pd _ _ _ (k5 (chg_set n))⟩
    | _ => exact po.elim
  · split at po
    · rename_i o eo
      split at po
      · rename_i os eo2; exact ⟨o, _, eo, eo2⟩
      · exact po.elim
    · exact po.elim
end
end VL

namespace VL
open PySem PySem.Spec PyProof.Rows L2
def setsT (ρ : OEnv) (bs : List (Nat × O)) : OEnv := bs.foldl (fun ρ b => ρ.set b.1 (some b.2)) ρ
@[simp] theorem setsT_nil (ρ : OEnv) : setsT ρ [] = ρ := rfl
@[simp] theorem setsT_cons (ρ : OEnv) (b : Nat × O) (bs : List (Nat × O)) : setsT ρ (b :: bs) = setsT (ρ.set b.1 (some b.2)) bs := rfl
theorem set_app {α : Type} (us : List α) (xs : List α) (i : Nat) (x : α) : (us ++ xs).set (us.length + i) x = us ++ xs.set i x := by
  rw [List.set_append, if_neg (by omega), Nat.add_sub_cancel_left]
theorem RS.setsT {K : PySem.W.Frag} {F0 H0 F H : Hp} : ∀ {is : List Nat} {vs : List V} {os : List O} {σ : L2.St} {ρ : OEnv}, vs.length = os.length → RS K F0 H0 F H (vs.map some ++ σ) (os.map some ++ ρ) → is.length = vs.length → RS K F0 H0 F H (setsV σ (is.zip vs)) (VL.setsT ρ (is.zip os))
  | [], [], [], σ, ρ, _, r, _ => r
  | i :: is, v :: vs, o :: os, σ, ρ, l, r, l2 => by
    have r1 := RS.put (σ := vs.map some ++ σ) (ρ := os.map some ++ ρ) r (vs.length + i)
    have e1 : (vs.map some ++ σ).set (vs.length + i) (some v) = vs.map some ++ σ.set i (some v) := by
      have := set_app (vs.map some) σ i (some v); rw [List.length_map] at this; exact this
    have e2 : (os.map some ++ ρ).set (vs.length + i) (some o) = os.map some ++ ρ.set i (some o) := by
      have := set_app (os.map some) ρ i (some o); rw [List.length_map, ← show vs.length = os.length by simpa using l] at this; exact this
    rw [e1, e2] at r1
    exact RS.setsT (is := is) (vs := vs) (os := os) (σ := σ.set i (some v)) (ρ := ρ.set i (some o)) (by simpa using l) r1 (by simpa using l2)
  | [], _ :: _, _, _, _, _, _, l2 => by simp at l2
  | _ :: _, [], _, _, _, _, _, l2 => by simp at l2
  | [], [], _ :: _, _, _, l, _, _ => by simp at l
  | _ :: _, _ :: _, [], _, _, l, _, _ => by simp at l
structure VGN (X : Cx) (ts : List Expr) (is : List Nat) : Prop where
  ex : ∃ t, PGs X ts t ∧ ∀ vs σ H Q, vs.length = is.length → Q (setsV σ (is.zip vs)) H → t vs σ H Q
section
variable {X : Cx} {W : WX} {a b c e oe ce : Expr} {es : List Expr} {pos : Pos} {hx hk : OEnv → R PyData} {hp : OEnv → R (Nat × List Nat)} {ho : OEnv → R (O × OEnv)} {hn : OEnv → R O} {is : List Nat} {k : Nat}
def sTupN (is : List Nat) (ho : OEnv → R (O × OEnv)) : OEnv → SR := fun ρ => (ho ρ).sr ρ fun p => match p.1 with
  | .tup os => if os.length = is.length then .nx (VL.setsT p.2 (is.zip os)) else .stuck
  | .fz (.tuple ds) => if ds.length = is.length then .nx (setsO p.2 (is.zip ds)) else .stuck
  | .fz (.list ds) => if ds.length = is.length then .nx (setsO p.2 (is.zip ds)) else .stuck
  | _ => .stuck
@[simp] theorem sTupN_ap (is : List Nat) (ho : OEnv → R (O × OEnv)) (ρ : OEnv) : sTupN is ho ρ = (ho ρ).sr ρ fun p => match p.1 with
  | .tup os => if os.length = is.length then .nx (VL.setsT p.2 (is.zip os)) else .stuck
  | .fz (.tuple ds) => if ds.length = is.length then .nx (setsO p.2 (is.zip ds)) else .stuck
  | .fz (.list ds) => if ds.length = is.length then .nx (setsO p.2 (is.zip ds)) else .stuck
  | _ => .stuck := rfl
end
end VL

namespace VL
open PySem PySem.Spec PyProof.Rows L2
open Enc (e)
section
variable {α β γ δ : Type}
abbrev oT2 (f : α → O) (g : β → O) (p : α × β) : O := .tup [f p.1, g p.2]
abbrev oT3 (f : α → O) (g : β → O) (h : γ → O) (p : T3 α β γ) : O := .tup [f p.a, g p.b, h p.c]
variable {ρ ρ1 ρ2 ρ3 ρ4 : OEnv} {h1 h2 h3 h4 : OEnv → R (O × OEnv)} {f1 : α → O} {f2 : β → O} {f3 : γ → O} {f4 : δ → O}
theorem TQ.mk {γ' : Type} {f : α → γ'} {x : R γ'} {t : R α} (h : ∀ a, t = .ok a → x = .ok (f a)) (h' : ∀ c, t = .err c → x = .err c) : TQ f x t := by
  cases t with
  | stuck => trivial
  | err c => exact h' c rfl
  | ok a => exact h a rfl
variable {hn : OEnv → R O}
structure LQ (ox : α → O) (p : List Nat) (get : α → Option (List β)) (oe : β → O) (set : α → List β → α) : Prop where
  g : ∀ x ys, get x = some ys → (ox x).at p = some (oL oe ys)
  s : ∀ x ys zs, get x = some ys → (ox x).put p (oL oe zs) = ox (set x zs)
end
section
variable {β l σ τ α γ ι : Type} {E : σ → OEnv → Prop} {L : l → OEnv → Prop} {er : O → OEnv → β → Prop} {Z : OEnv → Prop} {ρ : OEnv} {g h k g1 : OEnv → SR}
def tmutP {α γ δ : Type} (get : α → Option (List γ)) (set : α → List γ → α) (x : α) (f : List γ → R (List γ)) : R α := match get x with
  | some ys => (f ys).bind fun zs => .ok (set x zs)
  | none => .stuck
@[simp] theorem tmutP_some {α γ : Type} {get : α → Option (List γ)} {set : α → List γ → α} {x : α} {f : List γ → R (List γ)} {ys : List γ} (h : get x = some ys) : tmutP (δ := Unit) get set x f = (f ys).bind fun zs => .ok (set x zs) := by unfold tmutP; rw [h]
def tfd {γ β l σ : Type} (o : Option γ) (f : γ → TR β l σ) : TR β l σ := match o with
  | some y => f y
  | none => .stuck
@[simp] theorem tfd_some {γ β l σ : Type} (y : γ) (f : γ → TR β l σ) : tfd (some y) f = f y := rfl
end
end VL

namespace VL
open PySem PySem.Spec PyProof.Rows L2
open Enc (e)
def ttryA {β l σ : Type} (s : TR β l σ) (tb : Str → Option Bool) (h : Str → TR β l σ) : TR β l σ := match s with
  | .err c => match tb c with
    | some true => (match h c with
      | .err _ => .stuck
      | r => r)
    | some false => .err c
    | none => .stuck
  | r => r
section
variable {β l σ τ : Type}
@[simp] theorem ttryA_nx (s : σ) (tb : Str → Option Bool) (h : Str → TR β l σ) : ttryA (.nx s) tb h = .nx s := rfl
@[simp] theorem ttryA_rt (s : β) (tb : Str → Option Bool) (h : Str → TR β l σ) : ttryA (.rt s) tb h = .rt s := rfl
@[simp] theorem ttryA_ct (s : l) (tb : Str → Option Bool) (h : Str → TR β l σ) : ttryA (.ct s) tb h = .ct s := rfl
@[simp] theorem ttryA_bk (s : l) (tb : Str → Option Bool) (h : Str → TR β l σ) : ttryA (.bk s) tb h = .bk s := rfl
@[simp] theorem ttry_nx (s : σ) (tb : Str → Option Bool) (h : TR β l σ) : ttry (.nx s) tb h = .nx s := rfl
@[simp] theorem ttry_rt (s : β) (tb : Str → Option Bool) (h : TR β l σ) : ttry (.rt s) tb h = .rt s := rfl
@[simp] theorem ttry_ct (s : l) (tb : Str → Option Bool) (h : TR β l σ) : ttry (.ct s) tb h = .ct s := rfl
@[simp] theorem ttry_bk (s : l) (tb : Str → Option Bool) (h : TR β l σ) : ttry (.bk s) tb h = .bk s := rfl
variable {E : σ → OEnv → Prop} {L : l → OEnv → Prop} {er : O → OEnv → β → Prop} {Z : OEnv → Prop} {ρ : OEnv} {k : OEnv → SR}
end
def cNever {α β : Type} (_ : α) : R β := .stuck
@[simp] theorem cNever_ap {α β : Type} (a : α) : (cNever a : R β) = .stuck := rfl
end VL

namespace VL
open PySem PySem.Spec PyProof.Rows L2
section
variable {X : Cx} {pins : List (Addr × Obj)} {σ : L2.St} {H : Hp} {s : Shared} {a : Addr} {y v d : V} {u r : Value} {o : Option V} {A : Around} {E : Value → Shared → Prop}
theorem key_sq (I : Inv X pins σ H s) {b : Addr} {k : List L2.Key} (h : SqT X.K H b (k.map kV)) : (tupleKind (mixKind X.prog X.w)).is s.heap k b := by
  obtain ⟨its, r, ⟨o, e, hc, n, hd⟩, _⟩ := I.tuple h
  exact ⟨o, its.toArray, n, e, hc, hd, by simpa using items_are r⟩
def DG (K : PySem.W.Frag) (H : Hp) (a : Addr) (y : V) (r : Option V) : Prop :=
  (∃ kvs k, Rd H a (.dK kvs) ∧ y = kV k ∧ r = valV kvs k) ∨ ∃ kvs k b, Rd H a (.dT kvs) ∧ y = .ref b ∧ SqT K H b (k.map kV) ∧ r = valV kvs k
theorem DG.is (g : DG X.K H a y o) : IsD H a := by
  rcases g with ⟨kvs, k, e, _⟩ | ⟨kvs, k, b, e, _⟩
  · exact .inl ⟨kvs, e⟩
  · exact .inr ⟨kvs, e⟩
theorem dg_getItem {Q : Value → Shared → Prop} (hu : A.units + 1 < cLine) (I : Inv X pins σ H s) (g : DG X.K H a y (some v)) (ry : RelV y u) (h : ∀ w' s', Inv X pins σ H s' → RelV v w' → Q w' s') :
    wpAny (model X.prog X.w) A (getItem (.ref a) u) Q E s := by
  rcases g with ⟨kvs, k, e, ey, l⟩ | ⟨kvs, k, b, e, ey, eb, l⟩
  · exact d_getItem hu I (.inl ⟨kvs, k, e, ey, l⟩) ry h
  · subst ey
    cases (show u = Value.ref b from ry)
    obtain ⟨z, hd, xs, rel, dd⟩ := dt_rd I.hok e
    obtain ⟨w', hw, rw'⟩ := RelO.some_of (v := v) (o := (atKey xs k).map (·.2)) (by rw [l]; exact rel.val k)
    obtain ⟨p, hp, hp2⟩ := Option.map_eq_some_iff.mp hw
    refine wpAny_getItem_heap (tupleKind_room_in1 hu) (key_sq I eb) dd hp ?_
    rw [hp2]
    exact h w' _ (I.tok _) rw'
theorem dg_in {Q : Value → Shared → Prop} (hu : A.units + 1 < cLine) (I : Inv X pins σ H s) (g : DG X.K H a y o) (ry : RelV y u) (h : ∀ s', Inv X pins σ H s' → Q (.bool o.isSome) s') :
    wpAny (model X.prog X.w) A (compareOp .In u (.ref a)) Q E s := by
  rcases g with ⟨kvs, k, e, ey, l⟩ | ⟨kvs, k, b, e, ey, eb, l⟩
  · exact d_in hu I (.inl ⟨kvs, k, e, ey, l⟩) ry h
  · subst ey
    cases (show u = Value.ref b from ry)
    obtain ⟨z, hd, xs, rel, dd⟩ := dt_rd I.hok e
    refine wpAny_in_heap (tupleKind_room_in1 hu) (key_sq I eb) hd dd ?_
    have q := (rel.val k).isSome_eq
    rw [Option.isSome_map] at q
    rw [← q, ← l]
    exact h _ (I.tok _)
theorem dg_notIn {Q : Value → Shared → Prop} (hu : A.units + 1 < cLine) (I : Inv X pins σ H s) (g : DG X.K H a y o) (ry : RelV y u) (h : ∀ s', Inv X pins σ H s' → Q (.bool (!o.isSome)) s') :
    wpAny (model X.prog X.w) A (compareOp .NotIn u (.ref a)) Q E s := by
  rcases g with ⟨kvs, k, e, ey, l⟩ | ⟨kvs, k, b, e, ey, eb, l⟩
  · exact d_notIn hu I (.inl ⟨kvs, k, e, ey, l⟩) ry h
  · subst ey
    cases (show u = Value.ref b from ry)
    obtain ⟨z, hd, xs, rel, dd⟩ := dt_rd I.hok e
    refine wpAny_notIn_heap (tupleKind_room_in1 hu) (key_sq I eb) hd dd ?_
    have q := (rel.val k).isSome_eq
    rw [Option.isSome_map] at q
    rw [← q, ← l]
    exact h _ (I.tok _)
end
section
variable {X : Cx} {o i e f : Expr} {pos apos cpos : Pos} {td ty tx : TE}
def rDG (K : PySem.W.Frag) : V → V → Hp → VK → Prop := fun x y H Q => ∃ a v, x = .ref a ∧ DG K H a y (some v) ∧ Q v H
def rDIn (K : PySem.W.Frag) : V → V → Hp → VK → Prop := fun y x H Q => ∃ a o, x = .ref a ∧ DG K H a y o ∧ Q (.bl o.isSome) H
def rDNin (K : PySem.W.Frag) : V → V → Hp → VK → Prop := fun y x H Q => ∃ a o, x = .ref a ∧ DG K H a y o ∧ Q (.bl (!o.isSome)) H
theorem op_dgin (hu : X.A.units + 1 < cLine) : OpR X (compareOp .In) (rDIn X.K) := by
  intro pins s σ H x y u v Q I rx ry h
  obtain ⟨a, ov, rfl, g, q⟩ := h
  obtain rfl : v = Value.ref a := ry
  exact dg_in hu I g rx fun s3 I3 => ⟨.bl ov.isSome, H, I3, rfl, q⟩
theorem op_dgnin (hu : X.A.units + 1 < cLine) : OpR X (compareOp .NotIn) (rDNin X.K) := by
  intro pins s σ H x y u v Q I rx ry h
  obtain ⟨a, ov, rfl, g, q⟩ := h
  obtain rfl : v = Value.ref a := ry
  exact dg_notIn hu I g rx fun s3 I3 => ⟨.bl (!ov.isSome), H, I3, rfl, q⟩
end

def dictOf : PyData → Option (Bool × List (PyData × PyData))
  | .dict ((.none, .bool t) :: kvs) => some (t, kvs)
  | _ => none
theorem dictOf_some {d : PyData} {t : Bool} {kvs : List (PyData × PyData)} (h : dictOf d = some (t, kvs)) : d = .dict ((.none, .bool t) :: kvs) := by
  unfold dictOf at h
  split at h
  · injection h with h; injection h with h1 h2; subst h1 h2; rfl
  · cases h
def flatD : PyData → Bool
  | .int _ => true
  | .str _ => true
  | _ => false
def keyOk (t : Bool) : PyData → Bool
  | .int _ => !t
  | .str _ => !t
  | .tuple ks => t && ks.all flatD
  | _ => false
noncomputable def dLook (kvs : List (PyData × PyData)) (k : PyData) : Option PyData := match kvs with
  | [] => none
  | (j, v) :: r => @ite _ (j = k) (Classical.propDecidable _) (some v) (dLook r k)
noncomputable def vdLook (d k : PyData) : R (Option PyData) := match dictOf d with
  | some (t, kvs) => if keyOk t k = true then .ok (dLook kvs k) else .stuck
  | none => .stuck
theorem keyD_inj {j k : L2.Key} (h : keyD j = keyD k) : j = k := by
  cases j <;> cases k <;> simp [keyD] at h <;> simp [h]
theorem keyDs_inj : ∀ {j k : List L2.Key}, j.map keyD = k.map keyD → j = k
  | [], [], _ => rfl
  | [], _ :: _, h => by simp at h
  | _ :: _, [], h => by simp at h
  | a :: j, b :: k, h => by
    rw [List.map_cons, List.map_cons] at h
    injection h with h1 h2
    rw [keyD_inj h1, keyDs_inj h2]
theorem is_key {K : PySem.W.Frag} {B : Hp} {y : V} {k : L2.Key} (h : Is K B y (keyD k)) : y = kV k := by
  cases k <;> (cases h; rfl)
theorem flat_keys : ∀ {ds : List PyData}, ds.all flatD = true → ∃ k : List L2.Key, ds = k.map keyD
  | [], _ => ⟨[], rfl⟩
  | d :: ds, h => by
    rw [List.all_cons, Bool.and_eq_true] at h
    obtain ⟨k, rfl⟩ := flat_keys h.2
    cases d with
    | int i => exact ⟨.inl i :: k, rfl⟩
    | str x => exact ⟨.inr x :: k, rfl⟩
    | none => exact absurd h.1 (by simp [flatD])
    | bool b => exact absurd h.1 (by simp [flatD])
    | list b => exact absurd h.1 (by simp [flatD])
    | tuple b => exact absurd h.1 (by simp [flatD])
    | dict b => exact absurd h.1 (by simp [flatD])
theorem isAll_keys {K : PySem.W.Frag} {B : Hp} : ∀ {k : List L2.Key} {vs : List V}, IsAll K B vs (k.map keyD) → vs = k.map kV
  | [], _, h => by cases h; rfl
  | a :: k, _, h => by
    cases h with
    | cons h1 h2 => rw [List.map_cons, is_key h1, isAll_keys h2]
def RelD (K : PySem.W.Frag) (B : Hp) (ov : Option V) (o : Option PyData) : Prop := match ov, o with
  | some v, some d => Is K B v d
  | none, none => True
  | _, _ => False
theorem look_rel {κ : Type} [DecidableEq κ] (f : κ → PyData) (hf : ∀ {a b}, f a = f b → a = b) {K : PySem.W.Frag} {B : Hp} (k : κ) : ∀ {ks : List κ} {vs : List V} {ds : List PyData}, IsAll K B vs ds → ks.length = vs.length →
    RelD K B (valV (ks.zip vs) k) (dLook ((ks.map f).zip ds) (f k))
  | [], [], ds, h, _ => by cases h; exact trivial
  | [], _ :: _, _, _, hl => by cases hl
  | _ :: _, [], _, _, hl => by cases hl
  | j :: ks, v :: vs, ds, h, hl => by
    cases h with
    | @cons _ _ d ds h1 h2 =>
      have ih := look_rel f hf k (ks := ks) h2 (by simpa using hl)
      rw [List.map_cons, List.zip_cons_cons, List.zip_cons_cons]
      unfold dLook
      by_cases e : j = k
      · rw [valV_pos (p := (j, v)) e, if_pos (congrArg f e)]; exact h1
      · rw [valV_neg (p := (j, v)) e, if_neg fun z => e (hf z)]; exact ih
theorem look_core {K : PySem.W.Frag} {B H : Hp} {x y : V} {d k : PyData} {o : Option PyData} (s : Same B H) (hx : Is K B x d) (hy : Is K B y k) (h : vdLook d k = .ok o) : ∃ a ov, x = .ref a ∧ DG K H a y ov ∧ RelD K B ov o := by
  unfold vdLook at h
  split at h
  · rename_i t kvs e
    have ed := dictOf_some e
    subst ed
    split at h
    · rename_i hk
      injection h with h
      subst h
      cases hx with
      | @dct a ks vs ds hr hl ha =>
        cases ks with
        | inl ks =>
          obtain ⟨k', rfl⟩ : ∃ k', k = keyD k' := by
            cases k with
            | int i => exact ⟨.inl i, rfl⟩
            | str z => exact ⟨.inr z, rfl⟩
            | none => exact absurd hk (by simp [keyOk])
            | bool b => exact absurd hk (by simp [keyOk])
            | list b => exact absurd hk (by simp [keyOk])
            | tuple b => exact absurd hk (by simp [keyOk, KS.kind])
            | dict b => exact absurd hk (by simp [keyOk])
          exact ⟨a, valV (ks.zip vs) k', rfl, .inl ⟨_, k', Rd.mono s hr, is_key hy, rfl⟩, look_rel keyD keyD_inj k' ha hl⟩
        | inr ks =>
          cases k with
          | int i => exact absurd hk (by simp [keyOk, KS.kind])
          | str z => exact absurd hk (by simp [keyOk, KS.kind])
          | none => exact absurd hk (by simp [keyOk])
          | bool b => exact absurd hk (by simp [keyOk])
          | list b => exact absurd hk (by simp [keyOk])
          | dict b => exact absurd hk (by simp [keyOk])
          | tuple js =>
            obtain ⟨k', rfl⟩ := flat_keys (ds := js) (by simpa [keyOk, KS.kind] using hk)
            cases hy with
            | @tup b xs _ ht hxs =>
              have e2 := isAll_keys hxs
              subst e2
              exact ⟨a, valV (ks.zip vs) k', rfl, .inr ⟨_, k', b, Rd.mono s hr, rfl, Same.tupl s ht, rfl⟩, look_rel (fun k : List L2.Key => .tuple (k.map keyD)) (fun z => by injection z with z; exact keyDs_inj z) k' ha hl⟩
    · cases h
  · cases h
noncomputable def dgetD (d k : PyData) : R PyData := (vdLook d k).bind fun o => match o with | some v => .ok v | none => .stuck
noncomputable def dinD (k d : PyData) : R PyData := (vdLook d k).bind fun o => .ok (.bool o.isSome)
noncomputable def dninD (k d : PyData) : R PyData := (vdLook d k).bind fun o => .ok (.bool (!o.isSome))
noncomputable def vix (d k : PyData) : R PyData := match dictOf d with
  | some _ => dgetD d k
  | none => vidx d k
noncomputable def vInX (k d : PyData) : R PyData := match dictOf d with
  | some _ => dinD k d
  | none => vIn k d
noncomputable def vNotInX (k d : PyData) : R PyData := match dictOf d with
  | some _ => dninD k d
  | none => vNotIn k d
section
variable {X : Cx} {W : WX} {a b : Expr} {pos : Pos} {fa fb : PEnv → R PyData}
theorem rule_dg : Rule2 X W (rDG X.K) dgetD := fun d e x y σ H B Q s sm dx dy p => by
  unfold dgetD at p
  cases q : vdLook d e with
  | stuck => rw [q] at p; exact p.elim
  | err c => exact absurd q (by unfold vdLook; split <;> (try split) <;> exact fun h => nomatch h)
  | ok o =>
    rw [q] at p
    obtain ⟨a, ov, rfl, g, r⟩ := look_core s dx dy q
    cases o with
    | none => exact p.elim
    | some d' =>
      cases ov with
      | none => exact r.elim
      | some v => exact ⟨a, v, rfl, g, p v H B (.refl s) r⟩
theorem rule_din : Rule2 X W (rDIn X.K) dinD := fun d e x y σ H B Q s sm dx dy p => by
  unfold dinD at p
  cases q : vdLook e d with
  | stuck => rw [q] at p; exact p.elim
  | err c => exact absurd q (by unfold vdLook; split <;> (try split) <;> exact fun h => nomatch h)
  | ok o =>
    rw [q] at p
    obtain ⟨a, ov, rfl, g, r⟩ := look_core s dy dx q
    refine ⟨a, ov, rfl, g, ?_⟩
    have : ov.isSome = o.isSome := by cases ov <;> cases o <;> first | rfl | exact r.elim
    rw [this]
    exact p _ H B (.refl s) (.bl _)
theorem rule_dnin : Rule2 X W (rDNin X.K) dninD := fun d e x y σ H B Q s sm dx dy p => by
  unfold dninD at p
  cases q : vdLook e d with
  | stuck => rw [q] at p; exact p.elim
  | err c => exact absurd q (by unfold vdLook; split <;> (try split) <;> exact fun h => nomatch h)
  | ok o =>
    rw [q] at p
    obtain ⟨a, ov, rfl, g, r⟩ := look_core s dy dx q
    refine ⟨a, ov, rfl, g, ?_⟩
    have : ov.isSome = o.isSome := by cases ov <;> cases o <;> first | rfl | exact r.elim
    rw [this]
    exact p _ H B (.refl s) (.bl _)

theorem ix_dg (hu : X.A.units + 1 < cLine) : IxR X (rDG X.K) := by
  intro value slice pins s σ H x y v u Q I rx ry h hs
  obtain ⟨p, r, rfl, g, q⟩ := h
  obtain rfl : v = Value.ref p := rx
  exact tail_any (isD_at I g.is).1 PySem.F.slot_dict_getitem.lookup (dg_getItem hu I g ry fun w' s3 I3 rw' => ⟨r, H, I3, rw', q⟩) hs
theorem rule_or1 {r1 r2 : R2} {g1 g2 : PyData → PyData → R PyData} (c : PyData → Bool) (h1 : Rule2 X W r1 g1) (h2 : Rule2 X W r2 g2) {g : PyData → PyData → R PyData} (hg : ∀ d k, g d k = if c d = true then g2 d k else g1 d k) : Rule2 X W (fun x y H Q => r1 x y H Q ∨ r2 x y H Q) g := fun d e x y σ H B Q s sm dx dy p => by
  rw [hg] at p
  by_cases q : c d = true
  · rw [if_pos q] at p; exact .inr (h2 d e x y σ H B Q s sm dx dy p)
  · rw [if_neg q] at p; exact .inl (h1 d e x y σ H B Q s sm dx dy p)
theorem rule_or2 {r1 r2 : R2} {g1 g2 : PyData → PyData → R PyData} (c : PyData → Bool) (h1 : Rule2 X W r1 g1) (h2 : Rule2 X W r2 g2) {g : PyData → PyData → R PyData} (hg : ∀ d k, g d k = if c k = true then g2 d k else g1 d k) : Rule2 X W (fun x y H Q => r1 x y H Q ∨ r2 x y H Q) g := fun d e x y σ H B Q s sm dx dy p => by
  rw [hg] at p
  by_cases q : c e = true
  · rw [if_pos q] at p; exact .inr (h2 d e x y σ H B Q s sm dx dy p)
  · rw [if_neg q] at p; exact .inl (h1 d e x y σ H B Q s sm dx dy p)
theorem vix_if (d k : PyData) : vix d k = if (dictOf d).isSome = true then dgetD d k else vidx d k := by unfold vix; cases dictOf d <;> simp
theorem vInX_if (k d : PyData) : vInX k d = if (dictOf d).isSome = true then dinD k d else vIn k d := by unfold vInX; cases dictOf d <;> simp
theorem vNotInX_if (k d : PyData) : vNotInX k d = if (dictOf d).isSome = true then dninD k d else vNotIn k d := by unfold vNotInX; cases dictOf d <;> simp
theorem vix_ (hu : X.A.units + 65 < cLine) (ha : VE X W a fa) (hb : VE X W b fb) (hs : PlainIx b := by exact fun _ _ => rfl) : VE X W (.Subscript a b pos) (v2 vix fa fb) :=
  ve2 (fun p q => pe_ix (ix_seq.or (ix_dg (by omega))) p q hs) (rule_or1 (fun d => (dictOf d).isSome) rule_idx rule_dg vix_if) ha hb
theorem dinD_bool : ∀ d k z, dinD d k = .ok z → ∃ b, z = .bool b := fun d k z h => by
  unfold dinD at h
  cases q : vdLook k d with
  | stuck => rw [q] at h; cases h
  | err c => rw [q] at h; cases h
  | ok o => rw [q] at h; injection h with h; exact ⟨_, h.symm⟩
theorem dninD_bool : ∀ d k z, dninD d k = .ok z → ∃ b, z = .bool b := fun d k z h => by
  unfold dninD at h
  cases q : vdLook k d with
  | stuck => rw [q] at h; cases h
  | err c => rw [q] at h; cases h
  | ok o => rw [q] at h; injection h with h; exact ⟨_, h.symm⟩
theorem vInX_bool : ∀ d k z, vInX d k = .ok z → ∃ b, z = .bool b := fun d k z h => by
  rw [vInX_if] at h
  split at h
  · exact dinD_bool _ _ _ h
  · unfold vIn at h
    generalize vin d k = r at h
    cases r <;> first | (cases h; done) | (cases h; exact ⟨_, rfl⟩)
theorem vNotInX_bool : ∀ d k z, vNotInX d k = .ok z → ∃ b, z = .bool b := fun d k z h => by
  rw [vNotInX_if] at h
  split at h
  · exact dninD_bool _ _ _ h
  · unfold vNotIn at h
    generalize vin d k = r at h
    cases r <;> first | (cases h; done) | (cases h; exact ⟨_, rfl⟩)
theorem winX (hu : X.A.units + 65 < cLine) (ha : VE X W a fa) (hb : VE X W b fb) (hm : behindInMarks .In b = false := by with_unfolding_all rfl) : VE X W (.Compare a [.In] [b] pos) (v2 vInX fa fb) :=
  ve2 (fun p q => pe_cmpR ((op_inD hu).or (op_dgin (by omega))) p q hm) (rule_or2 (fun d => (dictOf d).isSome) rule_in rule_din vInX_if) ha hb
theorem qinX (hu : X.A.units + 65 < cLine) (ha : VE X W a fa) (hb : VE X W b fb) (hm : behindInMarks .In b = false := by with_unfolding_all rfl) : VT X W (.Compare a [.In] [b] pos) (tst (v2 vInX fa fb)) :=
  vt2 (fun p q => pt_cmpR ((op_inD hu).or (op_dgin (by omega))) p q hm) (rule_or2 (fun d => (dictOf d).isSome) rule_in rule_din vInX_if) vInX_bool ha hb
theorem qnotinX (hu : X.A.units + 65 < cLine) (ha : VE X W a fa) (hb : VE X W b fb) (hm : behindInMarks .NotIn b = false := by with_unfolding_all rfl) : VT X W (.Compare a [.NotIn] [b] pos) (tst (v2 vNotInX fa fb)) :=
  vt2 (fun p q => pt_cmpR ((op_notInD hu).or (op_dgnin (by omega))) p q hm) (rule_or2 (fun d => (dictOf d).isSome) rule_notin rule_dnin vNotInX_if) vNotInX_bool ha hb
end
end VL

namespace VL
open PySem PySem.Spec PyProof.Rows L2
section
variable {X : Cx} {o e f : Expr} {apos cpos : Pos} {td ty tx : TE}
end
theorem RelD.getD {K : PySem.W.Frag} {B : Hp} {ov : Option V} {o : Option PyData} {v : V} {d : PyData} (h : RelD K B ov o) (hd : Is K B v d) : Is K B (ov.getD v) (o.getD d) := by
  cases ov <;> cases o <;> first | exact hd | exact h | exact h.elim
section
variable {X : Cx} {W : WX} {a b c : Expr} {pos apos cpos : Pos} {fa fb fc : PEnv → R PyData}
end
end VL

namespace VL
open PySem PySem.Spec PyProof.Rows L2
theorem putK_old {κ : Type} [DecidableEq κ] {k : κ} {v : V} : ∀ {ks : List κ} {vs : List V} {n : Nat}, ks.Nodup → ks.length = vs.length → ks[n]? = some k → (ks.zip vs).map (fun kv => if kv.1 = k then (kv.1, v) else kv) = ks.zip (vs.set n v)
  | [], vs, n, _, _, h => by simp at h
  | j :: ks, [], n, _, hl, _ => by cases hl
  | j :: ks, u :: vs, 0, nd, hl, h => by
    simp at h
    subst h
    have nd' := List.nodup_cons.mp nd
    simp only [List.zip_cons_cons, List.map_cons, if_true, List.set_cons_zero]
    congr 1
    have : ∀ kv ∈ ks.zip vs, (fun kv : κ × V => if kv.1 = j then (kv.1, v) else kv) kv = kv := fun kv hkv => by
      have : kv.1 ≠ j := fun e => nd'.1 (e ▸ (List.of_mem_zip hkv).1)
      simp [this]
    rw [List.map_congr_left this, List.map_id']
  | j :: ks, u :: vs, n + 1, nd, hl, h => by
    have nd' := List.nodup_cons.mp nd
    have h' : ks[n]? = some k := by simpa using h
    have : j ≠ k := fun e => nd'.1 (e ▸ List.mem_of_getElem? h')
    simp only [List.zip_cons_cons, List.map_cons, if_neg this, List.set_cons_succ]
    rw [putK_old nd'.2 (by simpa using hl) h']
theorem any_zip {κ : Type} [DecidableEq κ] {k : κ} : ∀ {ks : List κ} {vs : List V}, ks.length = vs.length → ((ks.zip vs).any fun kv => decide (kv.1 = k)) = decide (k ∈ ks)
  | [], [], _ => rfl
  | [], _ :: _, h => by cases h
  | _ :: _, [], h => by cases h
  | j :: ks, u :: vs, h => by
    rw [List.zip_cons_cons, List.any_cons, any_zip (by simpa using h), Bool.eq_iff_iff]
    simp only [Bool.or_eq_true, decide_eq_true_eq, List.mem_cons]
    exact ⟨fun z => z.imp Eq.symm id, fun z => z.imp Eq.symm id⟩
theorem putK_at {κ : Type} [DecidableEq κ] {ks : List κ} {vs : List V} {k : κ} {v : V} {n : Nat} (nd : ks.Nodup) (hl : ks.length = vs.length) (h : ks[n]? = some k) : putK (ks.zip vs) k v = ks.zip (vs.set n v) := by
  unfold putK
  rw [any_zip hl, decide_eq_true (List.mem_of_getElem? h), if_pos rfl]
  exact putK_old nd hl h
theorem putK_end {κ : Type} [DecidableEq κ] {ks : List κ} {vs : List V} {k : κ} {v : V} (hl : ks.length = vs.length) (h : k ∉ ks) : putK (ks.zip vs) k v = (ks ++ [k]).zip (vs ++ [v]) := by
  unfold putK
  rw [any_zip hl, decide_eq_false h]
  rw [List.zip_append hl]
  rfl
theorem RS.mutD {K : PySem.W.Frag} {F0 H0 F H : Hp} {σ : L2.St} {ρ : OEnv} {y : V} {oy : O} {i : Nat} {o : O} {ks : KS} {os : List O} {p : List Nat} (r : RS K F0 H0 F H (some y :: σ) (some oy :: ρ)) (ei : ρ[i]? = some (some o)) (ep : o.at p = some (.dct ks os)) :
    ∃ v a vs, σ[i]? = some (some v) ∧ Pth K F H v o p (.ref a) ∧ H a = some (hoD ks vs) ∧ vs.length = os.length ∧ ks.len = vs.length ∧ ks.nd ∧
      ∀ {ks2 : KS} {tv : List V → V → List V} {to : List O → O → List O}, Chg tv to → ks2.len = (tv vs y).length → ks2.nd → RS K F0 H0 F (upd H a (hoD ks2 (tv vs y))) σ (ρ.set i (some (o.put p (.dct ks2 (to os oy))))) := by
  obtain ⟨v, v', f1, fy, e1, e2, e3, e4, nd, fn, fh, back⟩ := r.place ei ep
  cases e3 with
  | @dct a _ vs _ fi ha hkl hl =>
    refine ⟨v, a, vs, e1, e2, ha, hl.len, hkl.1, hkl.2, fun {ks2 tv to} c l2 n2 => back F _ _ ?_⟩
    have nd2 := List.nodup_append.mp nd
    have na_y : a ∉ fy := fun m => nd2.2.2 a m a List.mem_cons_self rfl
    have na_i : a ∉ fi := (List.nodup_cons.mp nd2.2.1).1
    have hk : ∀ b, b ≠ a → upd H a (hoD ks2 (tv vs y)) b = H b := fun b hb => upd_ne hb
    have o1 : Own K F (upd H a (hoD ks2 (tv vs y))) y oy fy := e4.keep (Same.refl F) fun b hb => hk b fun e => na_y (e ▸ hb)
    have l1 : OwnL K F (upd H a (hoD ks2 (tv vs y))) vs os fi := hl.keep (Same.refl F) fun b hb => hk b fun e => na_i (e ▸ hb)
    obtain ⟨fp', z1, fp'', z2, z3⟩ := c.own l1 o1
    have sub : ∀ b ∈ fp', b ∈ fi ++ fy := fun b hb => z3.subset (z2.mem_iff.mp hb)
    have ndf : (fi ++ fy).Nodup := List.nodup_append.mpr ⟨(List.nodup_cons.mp nd2.2.1).2, nd2.1, fun x hx w hw e => nd2.2.2 w hw x (List.mem_cons_of_mem _ hx) e.symm⟩
    refine RV.cell (fi := fp') fh nd fn (List.mem_append_right _ List.mem_cons_self) (fun b hb => ?_) (fun m => ?_) (z2.nodup_iff.mpr (ndf.sublist z3)) (.dct upd_same ⟨l2, n2⟩ z1)
    · rcases List.mem_append.mp (sub b hb) with q | q
      · exact List.mem_append_right _ (List.mem_cons_of_mem _ q)
      · exact List.mem_append_left _ q
    · rcases List.mem_append.mp (sub a m) with q | q
      · exact na_i q
      · exact na_y q
def keysOf : List PyData → Option (List L2.Key)
  | [] => some []
  | .int i :: ds => (keysOf ds).map (.inl i :: ·)
  | .str x :: ds => (keysOf ds).map (.inr x :: ·)
  | _ :: _ => none
theorem keysOf_some : ∀ {ds : List PyData} {k : List L2.Key}, keysOf ds = some k → ds = k.map keyD
  | [], k, h => by injection h with h; subst h; rfl
  | .int i :: ds, k, h => by
    unfold keysOf at h
    obtain ⟨j, e, rfl⟩ := Option.map_eq_some_iff.mp h
    rw [keysOf_some e]; rfl
  | .str i :: ds, k, h => by
    unfold keysOf at h
    obtain ⟨j, e, rfl⟩ := Option.map_eq_some_iff.mp h
    rw [keysOf_some e]; rfl
  | .none :: ds, k, h => by cases h
  | .bool _ :: ds, k, h => by cases h
  | .list _ :: ds, k, h => by cases h
  | .tuple _ :: ds, k, h => by cases h
  | .dict _ :: ds, k, h => by cases h
def putAt {κ : Type} [DecidableEq κ] (ks : List κ) (os : List O) (j : κ) (y : O) : List κ × List O := match ks.findIdx? (fun x => decide (x = j)) with
  | some n => (ks, os.set n y)
  | none => (ks ++ [j], os ++ [y])
def oPut (cs : List (List L2.Key)) (ks : KS) (os : List O) (k : PyData) (y : O) : Option (KS × List O) := match ks, k with
  | .inl ks, .int i => if ks.length < sizeLine then some (.inl (putAt ks os (.inl i) y).1, (putAt ks os (.inl i) y).2) else none
  | .inl ks, .str i => if ks.length < sizeLine then some (.inl (putAt ks os (.inr i) y).1, (putAt ks os (.inr i) y).2) else none
  | .inr ks, .tuple ds => (match keysOf ds with
    | some j => if ks.length < sizeLine ∧ (cs.all fun c => decide (c ≠ j)) = true then some (.inr (putAt ks os j y).1, (putAt ks os j y).2) else none
    | none => none)
  | _, _ => none
def KNo (K : PySem.W.Frag) (cs : List (List L2.Key)) : Prop := ∀ (a : Addr) (o : Obj) (its : Array Value) (n : Nat) (k : List L2.Key), K.lookup a = some o → o.cls = .type "tuple" → o.data = .seq its n → Vals (k.map kV) its.toList → k ∈ cs
theorem putAt_core {κ : Type} [DecidableEq κ] {ks : List κ} {vs : List V} {os : List O} {j : κ} {y : V} {oy : O} (nd : ks.Nodup) (hl : ks.length = vs.length) :
    ∃ (ks2 : List κ) (tv : List V → V → List V) (to : List O → O → List O), Chg tv to ∧ putAt ks os j oy = (ks2, to os oy) ∧ ks2.Nodup ∧ ks2.length = (tv vs y).length ∧ putK (ks.zip vs) j y = ks2.zip (tv vs y) := by
  unfold putAt
  cases e : ks.findIdx? (fun x => decide (x = j)) with
  | some n =>
    obtain ⟨hn, h1, _⟩ := List.findIdx?_eq_some_iff_getElem.mp e
    have h2 : ks[n]? = some j := by rw [List.getElem?_eq_getElem hn]; exact congrArg some (of_decide_eq_true h1)
    exact ⟨ks, _, _, chg_set n, rfl, nd, by rw [List.length_set]; exact hl, putK_at nd hl h2⟩
  | none =>
    have hm : j ∉ ks := fun m => by
      have := List.findIdx?_eq_none_iff.mp e j m
      simp at this
    refine ⟨ks ++ [j], _, _, chg_app, rfl, ?_, by simp [hl], putK_end hl hm⟩
    rw [List.nodup_append]
    exact ⟨nd, by simp, fun a ha b hb q => hm (by rw [List.mem_singleton.mp hb] at q; exact q ▸ ha)⟩
theorem oPut_core {K : PySem.W.Frag} {cs : List (List L2.Key)} (hK : KNo K cs) {F H : Hp} {a : Addr} {ks ks' : KS} {vs : List V} {os os' : List O} {kd : PyData} {kv y : V} {oy : O} (fh : Same F H) (ha : H a = some (hoD ks vs)) (hl : ks.len = vs.length) (nd : ks.nd) (hk : Is K F kv kd) (h : oPut cs ks os kd oy = some (ks', os')) :
    ∃ (tv : List V → V → List V) (to : List O → O → List O), Chg tv to ∧ to os oy = os' ∧ ks'.nd ∧ ks'.len = (tv vs y).length ∧ DPut H a kv y (upd H a (hoD ks' (tv vs y))) := by
  unfold oPut at h
  cases ks with
  | inl ks =>
    have done : ∀ j : L2.Key, kv = kV j → (if ks.length < sizeLine then some ((Sum.inl (putAt ks os j oy).1 : KS), (putAt ks os j oy).2) else none) = some (ks', os') → ∃ (tv : List V → V → List V) (to : List O → O → List O), Chg tv to ∧ to os oy = os' ∧ ks'.nd ∧ ks'.len = (tv vs y).length ∧ DPut H a kv y (upd H a (hoD ks' (tv vs y))) := fun j ej h => by
      split at h
      · rename_i hz
        obtain ⟨ks2, tv, to, c, e1, e2, e3, e4⟩ := putAt_core (os := os) (j := j) (y := y) (oy := oy) nd hl
        rw [e1] at h
        injection h with h
        injection h with h1 h2
        subst h1 h2
        refine ⟨tv, to, c, rfl, e2, e3, .inl ⟨_, j, ha, ej, ?_, ?_⟩⟩
        · rw [List.length_zip]; omega
        · rw [e4]; rfl
      · cases h
    cases kd with
    | int i => exact done (.inl i) (is_key (k := .inl i) hk) h
    | str i => exact done (.inr i) (is_key (k := .inr i) hk) h
    | _ => cases h
  | inr ks =>
    cases kd with
    | tuple ds =>
      simp only at h
      cases hj : keysOf ds with
      | none => rw [hj] at h; cases h
      | some j =>
        rw [hj] at h
        simp only at h
        split at h
        · rename_i hz
          have := keysOf_some hj
          subst this
          cases hk with
          | @tup b xs _ ht hxs =>
            have e5 := isAll_keys hxs
            subst e5
            have hb : H b = some (.tup (j.map kV)) := by
              rcases ht with q | ⟨o, its, n, q1, q2, q3, q4, q5⟩
              · exact fh _ _ q
              · exact absurd rfl (of_decide_eq_true (List.all_eq_true.mp hz.2 j (hK b o its n j q1 q2 q3 q5)))
            obtain ⟨ks2, tv, to, c, e1, e2, e3, e4⟩ := putAt_core (os := os) (j := j) (y := y) (oy := oy) nd hl
            rw [e1] at h
            injection h with h
            injection h with h1 h2
            subst h1 h2
            refine ⟨tv, to, c, rfl, e2, e3, .inr ⟨_, j, b, ha, rfl, hb, ?_, ?_⟩⟩
            · rw [List.length_zip]; omega
            · rw [e4]; rfl
        · cases h
    | _ => cases h
end VL

namespace VL
open PySem PySem.Spec PyProof.Rows L2
def ks0 (t : Bool) : KS := if t then .inr [] else .inl []
def oDct (t : Bool) : OEnv → R (O × OEnv) := fun ρ => .ok (.dct (ks0 t) [], ρ)
abbrev oDctL (_ : Nat) (t : Bool) : OEnv → R (O × OEnv) := oDct t
def tDNew (t : Bool) : TE := fun _ H Q => ∀ p, H p = none → Q (.ref p) (upd H p (hoD (ks0 t) []))
section
variable {X : Cx} {W : WX} {a b c e oe : Expr} {st : Stmt} {pos p2 : Pos} {hk : OEnv → R PyData} {hp : OEnv → R (Nat × List Nat)} {ho : OEnv → R (O × OEnv)}
theorem pe_dnew (t : Bool) : PE X (.Dict [] [] pos) (tDNew t) := by
  cases t
  · exact pe_dnewK
  · exact pe_dnewT
theorem voq_dct (t : Bool) : VOq X W (.Dict [] [] pos) (oDct t) := by
  refine ⟨_, pe_dnew t, fun σ H F0 H0 F ρ Q r pr => ?_⟩
  obtain ⟨fps, s, hs⟩ := r.ex
  intro pa hn
  have e : Same H (upd H pa (hoD (ks0 t) [])) := fun b u z => by
    have hb : b ≠ pa := fun q => by rw [q, hn] at z; cases z
    rw [upd_ne hb]; exact z
  have ex : Ext F H F (upd H pa (hoD (ks0 t) [])) := ⟨e, Same.refl F, hs.fh.trans e, fun a x y => absurd x y⟩
  have hs' := hs.ext ex s.lstAt
  have s' : Slots X.K F (upd H pa (hoD (ks0 t) [])) σ ρ fps := s.keep ex.bb fun a ha => by
    obtain ⟨us, z, _⟩ := s.lstAt a ha
    rw [z]; exact ex.hh _ _ z
  have bn : F pa = none := Same.free hs.fh hn
  refine pr (.ref pa) _ F e (Same.refl F) ⟨[pa] ++ fps, .ow (.dct upd_same (by cases t <;> exact ⟨rfl, List.nodup_nil⟩) .nil) s', ?_, ?_, hs'.fh, hs'.f0, hs'.h0, hs'.nw⟩
  · refine List.nodup_cons.mpr ⟨fun hm => ?_, hs'.nd⟩
    obtain ⟨us, z, _⟩ := s.lstAt pa hm
    rw [hn] at z; cases z
  · intro a ha
    rcases List.mem_cons.mp ha with e | e
    · subst e; exact ⟨bn, Same.free hs.h0 hn⟩
    · exact hs'.ow a e
theorem vo_dct (t : Bool) : VO X W (.Dict [] [] pos) (oDct t) := (voq_dct t).vo
def sDPut (cs : List (List L2.Key)) (hp : OEnv → R (Nat × List Nat)) (hk : OEnv → R PyData) (h : OEnv → R (O × OEnv)) : OEnv → SR := fun ρ => (h ρ).sr ρ fun p => (hp p.2).sr p.2 fun ip => match p.2[ip.1]? with
  | some (some o) => (match o.at ip.2 with
    | some (.dct ks os) => (hk p.2).sr p.2 fun d => (match oPut cs ks os d p.1 with
      | some (ks', os') => .nx (p.2.set ip.1 (some (o.put ip.2 (.dct ks' os'))))
      | none => .stuck)
    | _ => .stuck)
  | _ => .stuck
theorem vs_dput {cs : List (List L2.Key)} (hK : KNo X.K cs) (hu : X.A.units + 65 < cLine) (h1 : VPl X W oe hp) (h2 : VX X W b hk) (h3 : VO X W e ho) (hs : swapsWith e (some (.Subscript oe b p2)) pos.line X.env = pure false := by rfl) :
    VS X W (.Assign [.Subscript oe b p2] e pos) (sDPut cs hp hk ho) := by
  obtain ⟨t1, p1, q1⟩ := h1.go
  obtain ⟨t2, pk, qk⟩ := h2.ex
  obtain ⟨t3, p3, q3⟩ := h3.ex
  refine ⟨_, ps_dput (by omega) p1 pk p3 hs, fun D σ H F0 H0 F ρ rs pr => ?_⟩
  unfold sDPut at pr
  refine q3 σ H F0 H0 F ρ _ rs (sr_pst rs pr fun py po y H1 F1 ry => ?_)
  have rt := ry.tail
  refine q1 σ H1 F0 H0 F1 py.2 _ _ D rt po (fun ip o v o' e1 ev e2 po v' H2 F2 ex pt => ?_) (fun ip po => ?_)
  · rw [e1] at po
    simp only [e2] at po
    cases o' with
    | dct ks os =>
      simp only at po
      have rt2 := rt.ext ex
      refine qk σ H2 F0 H0 F2 py.2 _ rt2 (sr_pst rt2 po fun d pd => ?_)
      intro iv H3 F3 ex3 di
      cases hix : oPut cs ks os d py.1 with
      | none => rw [hix] at pd; exact pd.elim
      | some kk =>
        obtain ⟨ks', os'⟩ := kk
        rw [hix] at pd
        obtain ⟨v3, a3, vs3, k1, k2, k3, k4, k5, k6, k7⟩ := ((ry.ext ex).ext ex3).mutD e1 e2
        have k1' : σ[ip.1]? = some (some v3) := k1
        rw [ev] at k1'; cases k1'
        have ea := (pt.mono ex3.hh ex3.bb).det k2
        subst ea
        obtain ⟨fps, _, hs3⟩ := ((ry.ext ex).ext ex3).ex
        obtain ⟨tv, to, c, e3, n2, l2, dp⟩ := oPut_core (y := y) hK hs3.fh k3 k5 k6 di hix
        subst e3
        exact ⟨a3, _, rfl, dp, pd _ _ _ (k7 c l2 n2)⟩
    | _ => exact po.elim
  · split at po
    · rename_i o eo
      split at po
      · rename_i ks os eo2; exact ⟨o, _, eo, eo2⟩
      · exact po.elim
    · exact po.elim
theorem PS.or {t1 t2 : TS} (h1 : PS X st t1) (h2 : PS X st t2) : PS X st (fun D σ H => t1 D σ H ∨ t2 D σ H) := ⟨fun pins s σ H D I h => h.elim (h1.run pins s σ H D I) (h2.run pins s σ H D I)⟩
theorem vs_or {g g1 g2 : OEnv → SR} (h1 : VS X W st g1) (h2 : VS X W st g2) (hg : ∀ ρ, g ρ = g1 ρ ∨ g ρ = g2 ρ) : VS X W st g := by
  obtain ⟨t1, p1, q1⟩ := h1.ex
  obtain ⟨t2, p2, q2⟩ := h2.ex
  refine ⟨_, PS.or p1 p2, fun D σ H F0 H0 F ρ rs pr => ?_⟩
  rcases hg ρ with e | e
  · rw [e] at pr; exact .inl (q1 D σ H F0 H0 F ρ rs pr)
  · rw [e] at pr; exact .inr (q2 D σ H F0 H0 F ρ rs pr)
def atDct (hp : OEnv → R (Nat × List Nat)) (h : OEnv → R (O × OEnv)) (ρ : OEnv) : Bool := match h ρ with
  | .ok p => (match hp p.2 with
    | .ok ip => (match p.2[ip.1]? with
      | some (some o) => (match o.at ip.2 with
        | some (.dct _ _) => true
        | _ => false)
      | _ => false)
    | _ => false)
  | _ => false
def sSetX (cs : List (List L2.Key)) (hp : OEnv → R (Nat × List Nat)) (hk : OEnv → R PyData) (h : OEnv → R (O × OEnv)) : OEnv → SR := fun ρ => if atDct hp h ρ = true then sDPut cs hp hk h ρ else sSetP hp hk h ρ
theorem vs_setX {cs : List (List L2.Key)} (hK : KNo X.K cs) (hu : X.A.units + 65 < cLine) (mk : ∀ {te to tk : TE}, PE X e te → PE X oe to → PE X b tk → PS X (.Assign [.Subscript oe b p2] e pos) (tAsg te (gSub to tk rSetL))) (h1 : VPl X W oe hp) (h2 : VX X W b hk) (h3 : VO X W e ho) (hs : swapsWith e (some (.Subscript oe b p2)) pos.line X.env = pure false := by rfl) :
    VS X W (.Assign [.Subscript oe b p2] e pos) (sSetX cs hp hk ho) := vs_or (vs_dput hK hu h1 h2 h3 hs) (vs_setP mk h1 h2 h3) fun ρ => by
  unfold sSetX
  split
  · exact .inl rfl
  · exact .inr rfl
end
end VL

namespace VL
open PySem PySem.Spec PyProof.Rows L2
def flatKey : Value → Option L2.Key
  | .int i _ => some (.inl i)
  | .str x _ => some (.inr x)
  | _ => none
def flatKeys : List Value → Option (List L2.Key)
  | [] => some []
  | v :: vs => match flatKey v, flatKeys vs with
    | some k, some ks => some (k :: ks)
    | _, _ => none
def tupOk (cs : List (List L2.Key)) (o : Obj) : Bool := match o.cls with
  | .type T => if T == "tuple" then (match o.data with
    | .seq its _ => (match flatKeys its.toList with
      | some k => cs.any fun c => decide (c = k)
      | none => true)
    | _ => true) else true
  | _ => true
def kTups (K : PySem.W.Frag) (cs : List (List L2.Key)) : Bool := K.all fun p => tupOk cs p.2
theorem flatKeys_of : ∀ {k : List L2.Key} {us : List Value}, Vals (k.map kV) us → flatKeys us = some k
  | [], _, h => by cases h; rfl
  | a :: k, _, h => by
    rw [List.map_cons] at h
    cases h with
    | @cons x u xs us r1 r2 =>
      have ih := flatKeys_of r2
      have e : flatKey u = some a := by
        cases a with
        | inl i => obtain ⟨t, rfl⟩ := r1; rfl
        | inr x => obtain ⟨t, rfl⟩ := r1; rfl
      simp only [flatKeys, e, ih]
theorem lookup_mem {K : PySem.W.Frag} {a : Addr} {o : Obj} (h : K.lookup a = some o) : ∃ b, (b, o) ∈ K := by
  induction K with
  | nil => cases h
  | cons p K ih =>
    obtain ⟨b, u⟩ := p
    rw [List.lookup_cons] at h
    split at h
    · injection h with h; subst h; exact ⟨b, List.mem_cons_self⟩
    · obtain ⟨c, hc⟩ := ih h; exact ⟨c, List.mem_cons_of_mem _ hc⟩
theorem kno_of {K : PySem.W.Frag} {cs : List (List L2.Key)} (h : kTups K cs = true) : KNo K cs := fun a o its n k hl hc hd hv => by
  obtain ⟨b, hb⟩ := lookup_mem hl
  have := List.all_eq_true.mp h _ hb
  unfold tupOk at this
  simp only [hc, hd, flatKeys_of hv] at this
  rw [if_pos (by decide)] at this
  obtain ⟨c, hc1, hc2⟩ := List.any_eq_true.mp this
  rw [← of_decide_eq_true hc2]; exact hc1
end VL

namespace VL
open PySem PySem.Spec PyProof.Rows L2
open Enc (e)
class FlatE (α : Type) [Enc α] where
  k : α → L2.Key
  enc : ∀ a, e a = keyD (k a)
  inj : ∀ {a b}, k a = k b → a = b
instance : FlatE Int := ⟨.inl, fun _ => rfl, fun h => by injection h⟩
instance : FlatE Str := ⟨.inr, fun _ => rfl, fun h => by injection h⟩
class KeyE (κ : Type) [Enc κ] where
  kind : Bool
  k1 : κ → L2.Key
  k2 : κ → List L2.Key
  enc : ∀ a, e a = if kind = true then .tuple ((k2 a).map keyD) else keyD (k1 a)
  inj : ∀ {a b : κ}, e a = e b → a = b
section
variable {α β γ δ : Type} [Enc α] [Enc β] [Enc γ] [Enc δ]
theorem FlatE.einj [q : FlatE α] {a b : α} (h : e a = e b) : a = b := by
  rw [q.enc, q.enc] at h; exact q.inj (keyD_inj h)
instance [q : FlatE α] : KeyE α := ⟨false, q.k, fun _ => [], fun a => by rw [q.enc]; rfl, fun h => FlatE.einj h⟩
instance [q : FlatE α] [r : FlatE β] : KeyE (α × β) := ⟨true, fun _ => .inl 0, fun p => [q.k p.1, r.k p.2], fun p => by
  show PyData.tuple [e p.1, e p.2] = _
  rw [q.enc, r.enc]; rfl, fun {a b} h => by
  have h : PyData.tuple [e a.1, e a.2] = .tuple [e b.1, e b.2] := h
  injection h with h; injection h with h1 h; injection h with h2 h
  exact Prod.ext (FlatE.einj h1) (FlatE.einj h2)⟩
instance [q : FlatE α] [r : FlatE β] [s : FlatE γ] : KeyE (T3 α β γ) := ⟨true, fun _ => .inl 0, fun p => [q.k p.a, r.k p.b, s.k p.c], fun p => by
  show PyData.tuple [e p.a, e p.b, e p.c] = _
  rw [q.enc, r.enc, s.enc]; rfl, fun {a b} h => by
  have h : PyData.tuple [e a.a, e a.b, e a.c] = .tuple [e b.a, e b.b, e b.c] := h
  injection h with h; injection h with h1 h; injection h with h2 h; injection h with h3 h
  obtain ⟨a1, a2, a3⟩ := a
  obtain ⟨b1, b2, b3⟩ := b
  rw [T3.mk.injEq]
  exact ⟨FlatE.einj h1, FlatE.einj h2, FlatE.einj h3⟩⟩
instance [q : FlatE α] [r : FlatE β] [s : FlatE γ] [t : FlatE δ] : KeyE (T4 α β γ δ) := ⟨true, fun _ => .inl 0, fun p => [q.k p.a, r.k p.b, s.k p.c, t.k p.d], fun p => by
  show PyData.tuple [e p.a, e p.b, e p.c, e p.d] = _
  rw [q.enc, r.enc, s.enc, t.enc]; rfl, fun {a b} h => by
  have h : PyData.tuple [e a.a, e a.b, e a.c, e a.d] = .tuple [e b.a, e b.b, e b.c, e b.d] := h
  injection h with h; injection h with h1 h; injection h with h2 h; injection h with h3 h; injection h with h4 h
  obtain ⟨a1, a2, a3, a4⟩ := a
  obtain ⟨b1, b2, b3, b4⟩ := b
  rw [T4.mk.injEq]
  exact ⟨FlatE.einj h1, FlatE.einj h2, FlatE.einj h3, FlatE.einj h4⟩⟩
theorem map_einj [q : FlatE α] : ∀ {xs ys : List α}, xs.map e = ys.map e → xs = ys
  | [], [], _ => rfl
  | [], _ :: _, h => by simp at h
  | _ :: _, [], h => by simp at h
  | x :: xs, y :: ys, h => by
    rw [List.map_cons, List.map_cons] at h
    injection h with h1 h2
    rw [FlatE.einj h1, map_einj h2]
instance [q : FlatE α] : KeyE (Tup α) := ⟨true, fun _ => .inl 0, fun p => p.l.map q.k, fun p => by
  show PyData.tuple (p.l.map e) = .tuple ((p.l.map q.k).map keyD)
  rw [List.map_map]
  congr 1
  exact List.map_congr_left fun a _ => q.enc a, fun {a b} h => by
  have h : PyData.tuple (a.l.map e) = .tuple (b.l.map e) := h
  injection h with h
  obtain ⟨a⟩ := a
  obtain ⟨b⟩ := b
  rw [Tup.mk.injEq]
  exact map_einj h⟩
end
structure Dc (κ β : Type) where
  l : List (κ × β)
section
variable {κ β : Type} [Enc κ] [Enc β] [q : KeyE κ]
instance : Enc (Dc κ β) := ⟨fun d => .dict ((.none, .bool q.kind) :: d.l.map fun p => (e p.1, e p.2))⟩
noncomputable def Dc.get (d : Dc κ β) (k : κ) : Option β := match d with
  | ⟨l⟩ => go l k
where go : List (κ × β) → κ → Option β
  | [], _ => none
  | (j, v) :: r, k => @ite _ (j = k) (Classical.propDecidable _) (some v) (go r k)
theorem key_ok (k : κ) : keyOk q.kind (e k) = true := by
  rw [q.enc]
  by_cases h : q.kind = true
  · rw [if_pos h, h]
    simp only [keyOk, Bool.true_and, List.all_eq_true]
    intro x hx
    obtain ⟨a, _, rfl⟩ := List.mem_map.mp hx
    cases a <;> rfl
  · rw [if_neg h]
    cases q.k1 k <;> simp [keyD, keyOk, h]
theorem dLook_e (k : κ) : ∀ l : List (κ × β), dLook (l.map fun p => (e p.1, e p.2)) (e k) = (Dc.get.go l k).map e
  | [] => rfl
  | (j, v) :: r => by
    have ih := dLook_e k r
    unfold Dc.get.go
    rw [List.map_cons]
    unfold dLook
    by_cases h : j = k
    · rw [if_pos (congrArg e h), if_pos h]; rfl
    · rw [if_neg fun z => h (q.inj z), if_neg h]; exact ih
theorem vdLook_e (d : Dc κ β) (k : κ) : vdLook (e d) (e k) = .ok ((d.get k).map e) := by
  show (if keyOk q.kind (e k) = true then R.ok (dLook _ _) else .stuck) = _
  rw [if_pos (key_ok k), dLook_e]; rfl
noncomputable def tdget (d : Dc κ β) (k : κ) : R β := match d.get k with | some v => .ok v | none => .stuck
theorem o_dget (d : Dc κ β) (k : κ) : TEq (vix (e d) (e k)) (tdget d k) := by
  show TEq ((vdLook (e d) (e k)).bind _) _
  rw [vdLook_e]
  unfold tdget
  cases d.get k with
  | none => trivial
  | some v => exact rfl
end
end VL

namespace VL
open PySem PySem.Spec PyProof.Rows L2
open Enc (e)
section
variable {κ β : Type} [Enc κ] [Enc β] [q : KeyE κ]
def kS (ks : List κ) : KS := if q.kind = true then .inr (ks.map q.k2) else .inl (ks.map q.k1)
def oM (oe : β → O) (d : Dc κ β) : O := .dct (kS (d.l.map (·.1))) (d.l.map fun p => oe p.2)
theorem kS_kind (ks : List κ) : (kS ks).kind = q.kind := by
  unfold kS
  split
  · rename_i h; exact h.symm
  · rename_i h; show false = _; cases hk : q.kind with
    | true => exact absurd hk h
    | false => rfl
theorem kS_data (ks : List κ) : (kS ks).data = ks.map e := by
  unfold kS
  split
  · rename_i h
    show (ks.map q.k2).map _ = _
    rw [List.map_map]
    refine List.map_congr_left fun a _ => ?_
    rw [q.enc, if_pos h]; rfl
  · rename_i h
    show (ks.map q.k1).map _ = _
    rw [List.map_map]
    refine List.map_congr_left fun a _ => ?_
    rw [q.enc, if_neg h]; rfl
theorem dM {oe : β → O} (h : ∀ b, (oe b).data = e b) (d : Dc κ β) : (oM oe d).data = e d := by
  show dctD (kS _) (O.datas _) = PyData.dict _
  unfold dctD
  rw [kS_kind, kS_data, O.datas_map, List.map_map, List.map_map, List.zip_map']
  congr 2
  exact List.map_congr_left fun p _ => by simp [h]
theorem p_dnew {oe : β → O} {ρ : OEnv} (n : Nat) {t : Bool} (ht : q.kind = t) : TQ (fun d : Dc κ β => (oM oe d, ρ)) (oDctL n t ρ) (.ok ⟨[]⟩) := by
  subst ht
  show R.ok (O.dct (ks0 q.kind) [], ρ) = R.ok (O.dct (kS []) [], ρ)
  have : ks0 q.kind = kS ([] : List κ) := by
    unfold ks0 kS
    split <;> rfl
  rw [this]
noncomputable def Dc.put (d : Dc κ β) (k : κ) (v : β) : Dc κ β := match d.l.findIdx? (fun p => @decide (p.1 = k) (Classical.propDecidable _)) with
  | some n => ⟨d.l.set n (k, v)⟩
  | none => ⟨d.l ++ [(k, v)]⟩
noncomputable def tdput (d : Dc κ β) (k : κ) (v : β) : R (Dc κ β) := if d.l.length < 16777216 then .ok (d.put k v) else .stuck
theorem k1_inj (h : q.kind = false) {a b : κ} (g : q.k1 a = q.k1 b) : a = b := q.inj (by rw [q.enc, q.enc, h, g]; rfl)
theorem k2_inj (h : q.kind = true) {a b : κ} (g : q.k2 a = q.k2 b) : a = b := q.inj (by rw [q.enc, q.enc, h, g]; rfl)
theorem putAt_T {μ : Type} [DecidableEq μ] (f : κ → μ) (hf : ∀ {a b}, f a = f b → a = b) (oe : β → O) (d : Dc κ β) (k : κ) (v : β) :
    putAt ((d.l.map (·.1)).map f) (d.l.map fun p => oe p.2) (f k) (oe v) = (((d.put k v).l.map (·.1)).map f, (d.put k v).l.map fun p => oe p.2) := by
  have e1 : ((d.l.map (·.1)).map f).findIdx? (fun x => decide (x = f k)) = d.l.findIdx? (fun p => @decide (p.1 = k) (Classical.propDecidable _)) := by
    rw [List.map_map, List.findIdx?_map]
    congr 1
    funext p
    simp only [Function.comp]
    rw [Bool.eq_iff_iff]
    simp only [decide_eq_true_eq]
    exact ⟨fun z => hf z, fun z => congrArg f z⟩
  unfold putAt Dc.put
  rw [e1]
  cases hx : d.l.findIdx? (fun p => @decide (p.1 = k) (Classical.propDecidable _)) with
  | none => simp
  | some n =>
    obtain ⟨hn, h1, _⟩ := List.findIdx?_eq_some_iff_getElem.mp hx
    have h1 : d.l[n].1 = k := by simpa using h1
    simp only [List.map_set]
    congr 1
    refine (List.ext_getElem (by simp) fun j h2 h3 => ?_)
    by_cases hj : n = j
    · subst hj; simp [h1]
    · simp [List.getElem_set_ne hj]
theorem oPut_T {cs : List (List L2.Key)} (oe : β → O) (d : Dc κ β) (k : κ) (v : β) (hl : d.l.length < 16777216) (hcs : q.kind = true → (cs.all fun c => decide (c ≠ q.k2 k)) = true) : ∃ ks' os', oPut cs (kS (d.l.map (·.1))) (d.l.map fun p => oe p.2) (e k) (oe v) = some (ks', os') ∧ O.dct ks' os' = oM oe (d.put k v) := by
  unfold kS
  by_cases h : q.kind = true
  · have ek : e k = .tuple ((q.k2 k).map keyD) := by rw [q.enc, if_pos h]
    have hk : ∀ j : List L2.Key, keysOf (j.map keyD) = some j := by
      intro j
      induction j with
      | nil => rfl
      | cons a j ih => cases a <;> simp [keyD, keysOf, ih]
    rw [if_pos h, ek]
    unfold oPut
    simp only [hk]
    rw [if_pos ⟨by rw [List.length_map, List.length_map]; exact hl, hcs h⟩, putAt_T q.k2 (k2_inj h)]
    refine ⟨_, _, rfl, ?_⟩
    unfold oM kS
    rw [if_pos h]
  · have h' : q.kind = false := by cases z : q.kind with
      | true => exact absurd z h
      | false => rfl
    have ek : e k = keyD (q.k1 k) := by rw [q.enc, if_neg h]
    rw [if_neg h, ek]
    have hz : ((d.l.map (·.1)).map q.k1).length < sizeLine := by rw [List.length_map, List.length_map, szL]; exact hl
    have fin : ∀ j : L2.Key, q.k1 k = j → (if ((d.l.map (·.1)).map q.k1).length < sizeLine then some ((Sum.inl (putAt ((d.l.map (·.1)).map q.k1) (d.l.map fun p => oe p.2) j (oe v)).1 : KS), (putAt ((d.l.map (·.1)).map q.k1) (d.l.map fun p => oe p.2) j (oe v)).2) else none) = some ((Sum.inl ((d.put k v).l.map (·.1) |>.map q.k1) : KS), (d.put k v).l.map fun p => oe p.2) := fun j hj => by
      subst hj
      rw [if_pos hz, putAt_T q.k1 (k1_inj h')]
    refine ⟨(Sum.inl ((d.put k v).l.map (·.1) |>.map q.k1) : KS), (d.put k v).l.map fun p => oe p.2, ?_, ?_⟩
    · cases hk : q.k1 k with
      | inl i => exact fin _ hk
      | inr i => exact fin _ hk
    · unfold oM kS
      rw [if_neg h]
end
section
variable {κ γ β l σ : Type} [Enc κ] [Enc γ] [q : KeyE κ] {E : σ → OEnv → Prop} {L : l → OEnv → Prop} {er : O → OEnv → β → Prop} {Z : OEnv → Prop} {ρ : OEnv} {k : OEnv → SR}
theorem q_dputV {cs : List (List L2.Key)} {oe : γ → O} {hk : OEnv → R PyData} {ho : OEnv → R (O × OEnv)} {u : R γ} {w : R κ} {ll : Dc κ γ → TR β l σ} (i : Nat) (d : Dc κ γ) (h0 : TQ (fun a => (oe a, ρ)) (ho ρ) u) (h2 : TEq (hk ρ) w) (z : Z ρ) (hr : ∀ y, SQ E L er Z (k (ρ.set i (some (oM oe y)))) (ll y))
    (hcs : ∀ x : κ, q.kind = true → (cs.all fun c => decide (c ≠ q.k2 x)) = true) (hi : ρ[i]? = some (some (oM oe d)) := by rfl) :
    SQ E L er Z (seq (sSetX cs (pVar i) hk ho) k ρ) (u.tr fun a => w.tr fun j => (tdput d j a).tr ll) := by
  have ev : pVar i ρ = .ok (i, []) := by unfold pVar; rw [hi]; rfl
  show SQ E L er Z (SR.seq (if atDct (pVar i) ho ρ = true then sDPut cs (pVar i) hk ho ρ else sSetP (pVar i) hk ho ρ) k) _
  cases u with
  | stuck => trivial
  | err c =>
    have h0 : ho ρ = .err c := h0
    have : (if atDct (pVar i) ho ρ = true then sDPut cs (pVar i) hk ho ρ else sSetP (pVar i) hk ho ρ) = .err c ρ := by
      split
      · unfold sDPut; rw [h0]; rfl
      · unfold sSetP; rw [h0]; rfl
    rw [this]
    exact ⟨ρ, rfl, z⟩
  | ok a =>
    have h0 : ho ρ = .ok (oe a, ρ) := h0
    have ea : atDct (pVar i) ho ρ = true := by
      unfold atDct
      rw [h0]
      simp only [ev, hi]
      rfl
    rw [if_pos ea]
    unfold sDPut
    rw [h0]
    show SQ E L er Z (SR.seq ((pVar i ρ).sr ρ _) k) _
    rw [ev]
    show SQ E L er Z (SR.seq (match ρ[i]? with | some (some o) => _ | _ => _) k) _
    simp only [hi]
    show SQ E L er Z (SR.seq (R.sr (hk ρ) ρ _) k) _
    rw [seq_sr]
    show SQ E L er Z _ (w.tr fun j => (tdput d j a).tr ll)
    refine SQ.sr h2 z fun j => ?_
    unfold tdput
    by_cases hl : d.l.length < 16777216
    · obtain ⟨ks', os', e1, e2⟩ := oPut_T (cs := cs) oe d j a hl (hcs j)
      rw [if_pos hl]
      simp only [e1]
      show SQ E L er Z (k (ρ.set i (some (O.dct ks' os')))) (ll (d.put j a))
      rw [e2]
      exact hr _
    · rw [if_neg hl]; trivial
end
end VL

namespace VL
open PySem PySem.Spec PyProof.Rows L2
open Enc (e)
section
variable {α β : Type} [Enc α] [Enc β]
theorem o_vixL (a : List α) (i : Int) : TEq (vix (e a) (e i)) (tidx a i) := o_idx a i
theorem o_inX [q : EqE α] (hd : EqE.dep α + 1 ≤ 64 := by decide) (a : α) (b : List α) : TEq (vInX (e a) (e b)) (tin a b) := o_in hd a b
theorem o_ninX [q : EqE α] (hd : EqE.dep α + 1 ≤ 64 := by decide) (a : α) (b : List α) : TEq (vNotInX (e a) (e b)) (tnin a b) := o_nin hd a b
end
section
variable {κ β : Type} [Enc κ] [Enc β] [q : KeyE κ] {ρ : PEnv} {fa fb fc : PEnv → R PyData}
end
section
variable {β l σ τ α γ ι : Type} {E : σ → OEnv → Prop} {L : l → OEnv → Prop} {er : O → OEnv → β → Prop} {Z : OEnv → Prop} {ρ : OEnv} {g h k g1 : OEnv → SR}
end
end VL

namespace VL
open PySem PySem.Spec PyProof.Rows L2
structure VXA (X : Cx) (W : WX) (es : List Expr) (n : Nat) (h : OEnv → R (List PyData)) : Prop where
  len : ∀ ρ ds, h ρ = .ok ds → ds.length = n
  ex : ∃ t, PA X es t ∧ ∀ σ H F0 H0 F ρ Q, RS X.K F0 H0 F H σ ρ → Pst X W σ H (fun ds : List PyData => ∀ vs H' F', Ext F H F' H' → IsAll X.K F' vs ds → Q vs H') (h ρ) → t σ H Q
section
variable {X : Cx} {W : WX} {e : Expr} {es : List Expr} {pos : Pos} {hx : OEnv → R PyData} {hg : OEnv → R (List PyData)} {k n : Nat}
end
end VL

namespace VL
open PySem PySem.Spec PyProof.Rows L2
open Enc (e)
section
variable {α β γ θ : Type} [Enc α] [Enc β] [Enc γ] [Enc θ]
end
end VL

namespace VL
open PySem PySem.Spec PyProof.Rows L2
section
variable {α β γ l σ τ : Type}
def Ok (r : R α) (P : α → Prop) : Prop := ∃ a, r = .ok a ∧ P a
theorem Ok.mk {a : α} {P : α → Prop} (h : P a) : Ok (.ok a) P := ⟨a, rfl, h⟩
@[simp] theorem Ok_ok (a : α) (P : α → Prop) : Ok (.ok a) P = P a := propext ⟨fun ⟨b, e, h⟩ => (R.ok.inj e) ▸ h, fun h => ⟨a, rfl, h⟩⟩
@[simp] theorem Ok_bind (r : R α) (f : α → R β) (P : β → Prop) : Ok (r.bind f) P = Ok r fun a => Ok (f a) P := by
  cases r with
  | ok a => simp
  | err c => exact propext ⟨fun ⟨b, e, h⟩ => (nomatch e), fun ⟨b, e, h⟩ => (nomatch e)⟩
  | stuck => exact propext ⟨fun ⟨b, e, h⟩ => (nomatch e), fun ⟨b, e, h⟩ => (nomatch e)⟩
@[simp] theorem Ok_ite (c : Prop) [Decidable c] (x y : R α) (P : α → Prop) : Ok (if c then x else y) P = if c then Ok x P else Ok y P := by split <;> rfl
theorem Ok.imp {r : R α} {P Q : α → Prop} (h : Ok r P) (i : ∀ a, P a → Q a) : Ok r Q := by obtain ⟨a, e, p⟩ := h; exact ⟨a, e, i a p⟩
theorem Ok.eq {r : R α} {a : α} {P : α → Prop} (e : r = .ok a) (h : P a) : Ok r P := ⟨a, e, h⟩
def Tk (t : TR β l σ) (N : σ → Prop) (Q : β → Prop) (C B : l → Prop) : Prop := (∃ s, t = .nx s ∧ N s) ∨ (∃ b, t = .rt b ∧ Q b) ∨ (∃ s, t = .ct s ∧ C s) ∨ (∃ s, t = .bk s ∧ B s)
theorem Tk.imp {t : TR β l σ} {N N' : σ → Prop} {Q Q' : β → Prop} {C C' B B' : l → Prop} (h : Tk t N Q C B) (n : ∀ s, N s → N' s) (q : ∀ s, Q s → Q' s) (c : ∀ s, C s → C' s) (b : ∀ s, B s → B' s) : Tk t N' Q' C' B' := by
  rcases h with ⟨s, e, h⟩ | ⟨s, e, h⟩ | ⟨s, e, h⟩ | ⟨s, e, h⟩
  · exact .inl ⟨s, e, n s h⟩
  · exact .inr (.inl ⟨s, e, q s h⟩)
  · exact .inr (.inr (.inl ⟨s, e, c s h⟩))
  · exact .inr (.inr (.inr ⟨s, e, b s h⟩))
theorem Tk.to {t : TR β l σ} (N : σ → Prop) {N' : σ → Prop} {Q : β → Prop} {C B : l → Prop} (h : Tk t N (fun _ => False) (fun _ => False) (fun _ => False)) (n : ∀ s, N s → N' s) : Tk t N' Q C B := h.imp n (fun _ h => h.elim) (fun _ h => h.elim) (fun _ h => h.elim)
@[simp] theorem Tk_nx (s : σ) (N : σ → Prop) (Q : β → Prop) (C B : l → Prop) : Tk (.nx s) N Q C B = N s := propext ⟨fun h => (by
  rcases h with ⟨s, e, h⟩ | ⟨s, e, h⟩ | ⟨s, e, h⟩ | ⟨s, e, h⟩ <;> first | (cases e; exact h) | (cases e)), fun h => .inl ⟨s, rfl, h⟩⟩
@[simp] theorem Tk_rt (s : β) (N : σ → Prop) (Q : β → Prop) (C B : l → Prop) : Tk (.rt s) N Q C B = Q s := propext ⟨fun h => (by
  rcases h with ⟨s, e, h⟩ | ⟨s, e, h⟩ | ⟨s, e, h⟩ | ⟨s, e, h⟩ <;> first | (cases e; exact h) | (cases e)), fun h => .inr (.inl ⟨s, rfl, h⟩)⟩
@[simp] theorem Tk_ct (s : l) (N : σ → Prop) (Q : β → Prop) (C B : l → Prop) : Tk (.ct s) N Q C B = C s := propext ⟨fun h => (by
  rcases h with ⟨s, e, h⟩ | ⟨s, e, h⟩ | ⟨s, e, h⟩ | ⟨s, e, h⟩ <;> first | (cases e; exact h) | (cases e)), fun h => .inr (.inr (.inl ⟨s, rfl, h⟩))⟩
@[simp] theorem Tk_bk (s : l) (N : σ → Prop) (Q : β → Prop) (C B : l → Prop) : Tk (.bk s) N Q C B = B s := propext ⟨fun h => (by
  rcases h with ⟨s, e, h⟩ | ⟨s, e, h⟩ | ⟨s, e, h⟩ | ⟨s, e, h⟩ <;> first | (cases e; exact h) | (cases e)), fun h => .inr (.inr (.inr ⟨s, rfl, h⟩))⟩
theorem Tk_no {N : σ → Prop} {Q : β → Prop} {C B : l → Prop} {t : TR β l σ} (h1 : ∀ s, t ≠ .nx s) (h2 : ∀ s, t ≠ .rt s) (h3 : ∀ s, t ≠ .ct s) (h4 : ∀ s, t ≠ .bk s) : Tk t N Q C B = False := propext ⟨fun h => (by
  rcases h with ⟨s, e, h⟩ | ⟨s, e, h⟩ | ⟨s, e, h⟩ | ⟨s, e, h⟩
  · exact h1 _ e
  · exact h2 _ e
  · exact h3 _ e
  · exact h4 _ e), False.elim⟩
@[simp] theorem Tk_err (c : Str) (N : σ → Prop) (Q : β → Prop) (C B : l → Prop) : Tk (.err c) N Q C B = False := Tk_no (fun _ e => (nomatch e)) (fun _ e => (nomatch e)) (fun _ e => (nomatch e)) (fun _ e => (nomatch e))
@[simp] theorem Tk_stuck (N : σ → Prop) (Q : β → Prop) (C B : l → Prop) : Tk .stuck N Q C B = False := Tk_no (fun _ e => (nomatch e)) (fun _ e => (nomatch e)) (fun _ e => (nomatch e)) (fun _ e => (nomatch e))
@[simp] theorem Ok_err (c : Str) (P : α → Prop) : Ok (.err c) P = False := propext ⟨fun ⟨_, e, _⟩ => (nomatch e), False.elim⟩
@[simp] theorem Ok_stuck (P : α → Prop) : Ok (.stuck : R α) P = False := propext ⟨fun ⟨_, e, _⟩ => (nomatch e), False.elim⟩
@[simp] theorem Tk_tr (r : R α) (f : α → TR β l σ) (N : σ → Prop) (Q : β → Prop) (C B : l → Prop) : Tk (r.tr f) N Q C B = Ok r fun a => Tk (f a) N Q C B := by
  cases r <;> simp [R.tr]
@[simp] theorem Tk_bind (t : TR β l τ) (f : τ → TR β l σ) (N : σ → Prop) (Q : β → Prop) (C B : l → Prop) : Tk (t.bind f) N Q C B = Tk t (fun s => Tk (f s) N Q C B) Q C B := by
  cases t <;> simp [TR.bind]
@[simp] theorem Tk_ite (c : Prop) [Decidable c] (x y : TR β l σ) (N : σ → Prop) (Q : β → Prop) (C B : l → Prop) : Tk (if c then x else y) N Q C B = if c then Tk x N Q C B else Tk y N Q C B := by split <;> rfl
@[simp] theorem Ok_fn (t : TR β Empty σ) (d : σ → R β) (P : β → Prop) : Ok (t.fn d) P = Tk t (fun s => Ok (d s) P) P (fun _ => False) (fun _ => False) := by
  cases t with
  | nx s => simp
  | rt s => simp
  | err c => simp
  | stuck => simp [TR.fn]
  | ct s => exact s.elim
  | bk s => exact s.elim
@[simp] theorem Ok_calm (r : R α) (P : α → Prop) : Ok r.calm P = Ok r P := by cases r <;> simp [R.calm]
@[simp] theorem teq_str {a b : Str} (ha : PyData.strOk a = true) (hb : PyData.strOk b = true) : teq a b = .ok (decide (a = b)) := teq_ok ha hb
@[simp] theorem tne_str {a b : Str} (ha : PyData.strOk a = true) (hb : PyData.strOk b = true) : tne a b = .ok (!decide (a = b)) := tne_ok ha hb
end
end VL

namespace RT
open PySem PySem.Spec PyProof.Rows
section
variable {prog : Program} {w : World} {A : Around} {E : Value → Shared → Prop} {s : Shared}
end
end RT

namespace L2
open PySem PySem.Spec PyProof.Rows RT
section
variable {X : Cx}
end
end L2

namespace VL
open PySem PySem.Spec PyProof.Rows L2
inductive MR where
  | stuck
  | err (c : Str)
  | ok (o : O) (os : List O)
section
variable {P : Program} {w : World} {K : PySem.W.Frag} {mg : Str → Option Value} {base : Heap}
end
end VL

namespace VL
open PySem PySem.Spec PyProof.Rows L2
abbrev CT := List (Str × List Str)
def inCt (ct : CT) (c f : Str) : Bool := ct.any fun p => decide (p.1 = c) && p.2.any fun g => decide (g = f)
structure CTab (K : PySem.W.Frag) (ct : CT) : Prop where
  cl : ∀ c f, inCt ct c f = true → ∀ C, clsOf K c = some C → Cls K C ∧ NoAttr K C f
section
variable {X : Cx} {W : WX} {a b c e oe : Expr} {es : List Expr} {pos : Pos} {fa : PEnv → R PyData} {hx hk : OEnv → R PyData} {hp : OEnv → R (Nat × List Nat)} {ho : OEnv → R (O × OEnv)} {k : Nat} {ct : CT}
end

section
variable {X : Cx} {W : WX} {a b c e oe : Expr} {es : List Expr} {pos pos' : Pos} {fa : PEnv → R PyData} {hx hk : OEnv → R PyData} {hp : OEnv → R (Nat × List Nat)} {ho : OEnv → R (O × OEnv)} {k : Nat} {ct : CT}
end
end VL

namespace VL
open PySem PySem.Spec PyProof.Rows L2
inductive Ag where
  | d (x : PyData)
  | l (i : Nat)
inductive AgIs (K : PySem.W.Frag) (F : Hp) (σ : L2.St) : List Ag → List V → Prop
  | nil : AgIs K F σ [] []
  | d {x : PyData} {v : V} {as : List Ag} {vs : List V} : Is K F v x → AgIs K F σ as vs → AgIs K F σ (.d x :: as) (v :: vs)
  | l {i : Nat} {v : V} {as : List Ag} {vs : List V} : σ[i]? = some (some v) → AgIs K F σ as vs → AgIs K F σ (.l i :: as) (v :: vs)
theorem AgIs.mono {K : PySem.W.Frag} {F F' : Hp} {σ : L2.St} {as : List Ag} {vs : List V} (h : AgIs K F σ as vs) (e : Same F F') : AgIs K F' σ as vs := by
  induction h with
  | nil => exact .nil
  | d h1 _ ih => exact .d (Is.mono e h1) ih
  | l h1 _ ih => exact .l h1 ih
theorem AgIs.len {K : PySem.W.Frag} {F : Hp} {σ : L2.St} {as : List Ag} {vs : List V} (h : AgIs K F σ as vs) : vs.length = as.length := by
  induction h with
  | nil => rfl
  | d _ _ ih => rw [List.length_cons, List.length_cons, ih]
  | l _ _ ih => rw [List.length_cons, List.length_cons, ih]
structure VAg1 (X : Cx) (W : WX) (e : Expr) (h : OEnv → R Ag) : Prop where
  ex : ∃ t, PE X e t ∧ ∀ σ H F0 H0 F ρ Q, RS X.K F0 H0 F H σ ρ → Pst X W σ H (fun a : Ag => ∀ v H' F', Ext F H F' H' → (∀ as vs, AgIs X.K F' σ as vs → AgIs X.K F' σ (a :: as) (v :: vs)) → Q v H') (h ρ) → t σ H Q
structure VAg (X : Cx) (W : WX) (es : List Expr) (n : Nat) (h : OEnv → R (List Ag)) : Prop where
  len : ∀ ρ as, h ρ = .ok as → as.length = n
  ex : ∃ t, PA X es t ∧ ∀ σ H F0 H0 F ρ Q, RS X.K F0 H0 F H σ ρ → Pst X W σ H (fun as : List Ag => ∀ vs H' F', Ext F H F' H' → AgIs X.K F' σ as vs → Q vs H') (h ρ) → t σ H Q
inductive RM where
  | stuck
  | err (c : Str) (ρ : OEnv)
  | ok (o : O) (ρ : OEnv)
def MPst (X : Cx) (W : WX) (F0 H0 : Hp) (σ : L2.St) (Q : VK) : RM → Prop
  | .stuck => False
  | .err c ρ => ∀ H' F', RS X.K F0 H0 F' H' σ ρ → ErrAt X W c σ H'
  | .ok o ρ => ∀ v H' F', RS X.K F0 H0 F' H' (some v :: σ) (some o :: ρ) → Q v H'
structure VM (X : Cx) (W : WX) (e : Expr) (h : OEnv → RM) : Prop where
  ex : ∃ t, PE X e t ∧ ∀ σ H F0 H0 F ρ Q, RS X.K F0 H0 F H σ ρ → MPst X W F0 H0 σ Q (h ρ) → t σ H Q
section
variable {X : Cx} {W : WX} {a b c e oe : Expr} {es : List Expr} {pos pos' : Pos} {hx : OEnv → R PyData} {h1 : OEnv → R Ag} {hg : OEnv → R (List Ag)} {k n : Nat}
end
end VL

namespace L2
open PySem PySem.Spec PyProof.Rows
section
variable {X : Cx} {CX : CXT} {m x : Str} {p pos apos : Pos} {e o : Expr} {es : List Expr} {ta : TE} {t : TA} {E : St → XK}
variable {k : Nat} {f C : Addr} {fd : FuncData} {ps : List Str} {sp : Sp}
end
end L2
namespace VL
open PySem PySem.Spec PyProof.Rows L2
abbrev MTab := List (Str × (List PyData → R PyData))
section
variable {X : Cx} {W : WX} {a b c e oe o : Expr} {es : List Expr} {pos pos' apos : Pos} {fo : PEnv → R PyData} {fa : PEnv → R (List PyData)} {k n : Nat} {tab : MTab} {m : Str}
end
end VL

namespace VL
open PySem PySem.Spec PyProof.Rows L2
section
variable {X : Cx} {W : WX} {a b c e oe o : Expr} {es : List Expr} {pos pos' apos : Pos} {hg : OEnv → R (List Ag)} {hm : OEnv → RM} {k n : Nat} {m : Str} {g h : OEnv → SR}
end
end VL

namespace VL
open PySem PySem.Spec PyProof.Rows L2
section
variable {X : Cx} {W : WX} {a b c e oe : Expr} {es : List Expr} {pos pos' : Pos} {hx hy : OEnv → R PyData} {hp : OEnv → R (Nat × List Nat)} {fa fb : PEnv → R PyData} {fl : PEnv → R (List PyData)}
end
section
variable {X : Cx} {W : WX} {a b : Expr} {pos : Pos} {fa fb : PEnv → R PyData}
end
end VL
namespace VL
open PySem PySem.Spec PyProof.Rows L2
end VL

namespace VL
open PySem PySem.Spec PyProof.Rows L2
structure MutOkV (r : V → List V → Hp → VK → Prop) (f : List O → Option (List O)) : Prop where
  ok : ∀ os os', f os = some os' → ∃ (tv : List V → V → List V) (to : List O → O → List O), Chg tv to ∧ to os (.fz .none) = os' ∧ ∀ (a : Addr) (vs : List V) (H : Hp) (Q : VK), H a = some (.lst vs) → vs.length = os.length → (∀ y, Q y (upd H a (.lst (tv vs .non)))) → r (.ref a) [] H Q
theorem OwnL.dropLast {K : PySem.W.Frag} {F H : Hp} : ∀ {os : List O} {vs : List V} {fp : List Addr}, OwnL K F H vs os fp → ∃ fp', OwnL K F H vs.dropLast os.dropLast fp' ∧ fp'.Sublist fp
  | [], _, _, h => by cases h; exact ⟨[], .nil, .refl _⟩
  | [o], _, _, h => by
    cases h with
    | cons h1 h2 => cases h2; exact ⟨[], .nil, List.nil_sublist _⟩
  | o :: o2 :: os, _, _, h => by
    cases h with
    | @cons v vs _ _ f1 f2 h1 h2 =>
      obtain ⟨fp', z1, z2⟩ := OwnL.dropLast h2
      cases h2 with
      | @cons v2 vs2 _ _ g1 g2 q1 q2 =>
        have e1 : (v :: v2 :: vs2).dropLast = v :: (v2 :: vs2).dropLast := rfl
        have e2 : (o :: o2 :: os).dropLast = o :: (o2 :: os).dropLast := rfl
        rw [e1, e2]
        exact ⟨f1 ++ fp', .cons h1 z1, List.Sublist.append_left z2 f1⟩
theorem OwnL.reverse {K : PySem.W.Frag} {F H : Hp} : ∀ {os : List O} {vs : List V} {fp : List Addr}, OwnL K F H vs os fp → ∃ fp', OwnL K F H vs.reverse os.reverse fp' ∧ fp'.Perm fp
  | [], _, _, h => by cases h; exact ⟨[], .nil, .refl _⟩
  | o :: os, _, _, h => by
    cases h with
    | @cons v vs _ _ f1 f2 h1 h2 =>
      obtain ⟨fp', z1, z2⟩ := OwnL.reverse h2
      rw [List.reverse_cons, List.reverse_cons]
      refine ⟨fp' ++ (f1 ++ []), OwnL.append z1 (.cons h1 .nil), ?_⟩
      rw [List.append_nil]
      exact List.perm_append_comm.trans (List.Perm.append_left f1 z2)
section
variable {X : Cx} {W : WX} {a b c e oe ce : Expr} {es : List Expr} {pos : Pos} {hp : OEnv → R (Nat × List Nat)}
end
section
variable {β l σ τ α γ ι : Type} {E : σ → OEnv → Prop} {L : l → OEnv → Prop} {er : O → OEnv → β → Prop} {Z : OEnv → Prop} {ρ : OEnv} {g h k g1 : OEnv → SR}
end
end VL

namespace VL
open PySem PySem.Spec PyProof.Rows L2
open Enc (e)
structure In (c : Str) (ns : List Str) (τ : Type) where
  v : τ
class EncL (τ : Type) where
  l : τ → List PyData
section
variable {α β γ δ ε ζ η : Type} [Enc α] [Enc β] [Enc γ] [Enc δ] [Enc ε] [Enc ζ] [Enc η]
instance : EncL Unit := ⟨fun _ => []⟩
instance : EncL (T1 α) := ⟨fun p => [e p.a]⟩
instance : EncL (α × β) := ⟨fun p => [e p.1, e p.2]⟩
instance : EncL (T3 α β γ) := ⟨fun p => [e p.a, e p.b, e p.c]⟩
instance : EncL (T4 α β γ δ) := ⟨fun p => [e p.a, e p.b, e p.c, e p.d]⟩
instance : EncL (T5 α β γ δ ε) := ⟨fun p => [e p.a, e p.b, e p.c, e p.d, e p.x]⟩
instance : EncL (T6 α β γ δ ε ζ) := ⟨fun p => [e p.a, e p.b, e p.c, e p.d, e p.x, e p.y]⟩
instance : EncL (T7 α β γ δ ε ζ η) := ⟨fun p => [e p.a, e p.b, e p.c, e p.d, e p.x, e p.y, e p.z]⟩
instance {c : Str} {ns : List Str} {τ : Type} [EncL τ] : Enc (In c ns τ) := ⟨fun x => insD c ns (EncL.l x.v)⟩
end
section
variable {α β γ δ ε ζ η : Type} {f1 : α → O} {f2 : β → O} {f3 : γ → O} {f4 : δ → O} {f5 : ε → O} {f6 : ζ → O} {f7 : η → O}
abbrev oc1 (f1 : α → O) : T1 α → List O := fun p => [f1 p.a]
abbrev oc2 (f1 : α → O) (f2 : β → O) : α × β → List O := fun p => [f1 p.1, f2 p.2]
abbrev oc3 (f1 : α → O) (f2 : β → O) (f3 : γ → O) : T3 α β γ → List O := fun p => [f1 p.a, f2 p.b, f3 p.c]
abbrev oc4 (f1 : α → O) (f2 : β → O) (f3 : γ → O) (f4 : δ → O) : T4 α β γ δ → List O := fun p => [f1 p.a, f2 p.b, f3 p.c, f4 p.d]
abbrev oc5 (f1 : α → O) (f2 : β → O) (f3 : γ → O) (f4 : δ → O) (f5 : ε → O) : T5 α β γ δ ε → List O := fun p => [f1 p.a, f2 p.b, f3 p.c, f4 p.d, f5 p.x]
abbrev oc6 (f1 : α → O) (f2 : β → O) (f3 : γ → O) (f4 : δ → O) (f5 : ε → O) (f6 : ζ → O) : T6 α β γ δ ε ζ → List O := fun p => [f1 p.a, f2 p.b, f3 p.c, f4 p.d, f5 p.x, f6 p.y]
abbrev oc7 (f1 : α → O) (f2 : β → O) (f3 : γ → O) (f4 : δ → O) (f5 : ε → O) (f6 : ζ → O) (f7 : η → O) : T7 α β γ δ ε ζ η → List O := fun p => [f1 p.a, f2 p.b, f3 p.c, f4 p.d, f5 p.x, f6 p.y, f7 p.z]
variable [Enc α] [Enc β] [Enc γ] [Enc δ] [Enc ε] [Enc ζ] [Enc η] {c : Str} {ns : List Str}
end
section
variable {α β γ τ : Type} [Enc α] [Enc β] [Enc γ] [EncL τ] {c f : Str} {ns : List Str} {ct : CT} {ρ : OEnv} {k : Nat}
end
section
variable {α β γ τ : Type} {c f : Str} {ns : List Str} {ct : CT} {ρ : OEnv} {k : Nat}
end
section
variable {β l σ τ α γ ι : Type} {E : σ → OEnv → Prop} {L : l → OEnv → Prop} {er : O → OEnv → β → Prop} {Z : OEnv → Prop} {ρ : OEnv} {g h k g1 : OEnv → SR} {c f : Str} {ns : List Str} {ct : CT}
end
section
variable {β σ l ς : Type} {N : Nat} {ls : List Nat} {g : OEnv → SR} {ρa : OEnv} {L : l → OEnv → Prop} {lo : ς → List O} {oi : List O} {as : List Addr}
end
section
variable {α β γ σ ς θ : Type} [Enc α] {ρ : OEnv}
end
end VL

namespace VL
open PySem PySem.Spec PyProof.Rows L2
open Enc (e)
section
variable {α β γ σ ς θ τ : Type} {ρ : OEnv} {oy : θ → O} {Es : σ → OEnv} {c m : Str} {ns : List Str}
end
section
variable {β l σ τ α γ ι θ ς : Type} {E : σ → OEnv → Prop} {L : l → OEnv → Prop} {er : O → OEnv → β → Prop} {Z : OEnv → Prop} {ρ : OEnv} {g h k g1 g2 : OEnv → SR} {oy : θ → O} {Es : ς → OEnv} {hm : OEnv → RM} {t : R (θ × ς)}
end
section
variable {β l σ τ α α' γ ι : Type} {E : σ → OEnv → Prop} {L : l → OEnv → Prop} {er : O → OEnv → β → Prop} {Z : OEnv → Prop} {ρ : OEnv} {k : OEnv → SR} {c f : Str} {ns : List Str} {ct : CT}
end
section
variable {β l σ τ α γ ι : Type} [Enc α] [Enc β] {E : σ → OEnv → Prop} {L : l → OEnv → Prop} {Z : OEnv → Prop} {ρ : OEnv} {k : OEnv → SR}
theorem q_retC {ho : OEnv → R (O × OEnv)} {ox : α → O × OEnv} {c : α → R β} {t : R α} (hc : Co c) (hd : ∀ a, O.data (ox a).1 = e a) (h : TQ ox (ho ρ) t) (z : Z ρ) : SQ E L (fun o _ (b : β) => O.data o = e b) Z (seq (sRet ho) k ρ) ((b1 c t).tr fun b => .rt b) := by
  show SQ E L _ Z (SR.seq (R.sr _ _ _) k) _
  rw [seq_sr]
  cases t with
  | stuck => trivial
  | err x => rw [show ho ρ = .err x from h]; exact ⟨ρ, rfl, z⟩
  | ok a =>
    rw [show ho ρ = .ok (ox a) from h]
    have := hc a
    show SQ E L _ Z _ ((c a).tr _)
    cases q : c a with
    | stuck => trivial
    | err x => rw [q] at this; cases this
    | ok b =>
      rw [q] at this
      refine ⟨_, _, rfl, ?_⟩
      show O.data (ox a).1 = e b
      rw [hd]
      injection this
end
section
variable {κ σ α τ θ : Type} {ρ : OEnv}
variable [EncL τ] [Enc θ] {c m : Str} {ns : List Str} {tab : MTab} {g : List PyData → R PyData} {fo : PEnv → R PyData} {fa : PEnv → R (List PyData)} {r : PEnv}
end
section
variable {α : Type} [Enc α] {f : PEnv → R (List PyData)} {g : PEnv → R PyData} {ρ : PEnv}
end
end VL

namespace VL
open PySem PySem.Spec PyProof.Rows L2
open Enc (e)
abbrev OTab := List (Str × (List PyData → R O))
section
variable {X : Cx} {W : WX} {a b c e oe o : Expr} {es : List Expr} {pos pos' apos : Pos} {fo : PEnv → R PyData} {fa : PEnv → R (List PyData)} {k n : Nat} {tab : OTab} {m : Str}
end
section
variable {τ θ κ : Type} [EncL τ] {c m : Str} {ns : List Str} {tab : OTab} {g : List PyData → R O} {fo : PEnv → R PyData} {fa : PEnv → R (List PyData)} {ρ : OEnv} {ox : θ → O}
end
end VL

namespace VL
open PySem PySem.Spec PyProof.Rows L2
open Enc (e)
class Dec (α : Type) [Enc α] where
  dec : PyData → Option α
  ok : ∀ d a, dec d = some a → d = e a
  rt : ∀ a, dec (e a) = some a
instance : Dec PyData := ⟨some, fun d a h => by cases h; rfl, fun a => rfl⟩
instance : Dec Int := ⟨fun d => match d with | .int i => some i | _ => none, fun d a h => by cases d <;> simp at h; subst h; rfl, fun a => rfl⟩
instance : Dec Bool := ⟨fun d => match d with | .bool i => some i | _ => none, fun d a h => by cases d <;> simp at h; subst h; rfl, fun a => rfl⟩
instance : Dec Str := ⟨fun d => match d with | .str i => some i | _ => none, fun d a h => by cases d <;> simp at h; subst h; rfl, fun a => rfl⟩
instance : Dec Unit := ⟨fun d => match d with | .none => some () | _ => none, fun d a h => by cases d <;> simp at h; rfl, fun a => rfl⟩
section
variable {α β γ δ ε : Type} [Enc α] [Enc β] [Enc γ] [Enc δ] [Enc ε] [p : Dec α] [q : Dec β] [r : Dec γ] [s : Dec δ] [t : Dec ε]
def decL : List PyData → Option (List α)
  | [] => some []
  | d :: ds => match p.dec d with
    | some a => (match decL ds with
      | some as => some (a :: as)
      | none => none)
    | none => none
theorem decL_ok : ∀ (ds : List PyData) (as : List α), decL ds = some as → ds = as.map e
  | [], as, h => by cases h; rfl
  | d :: ds, as, h => by
    unfold decL at h
    split at h
    · rename_i a ha
      split at h
      · rename_i as' h2
        cases h
        rw [List.map_cons, ← p.ok d a ha, ← decL_ok ds as' h2]
      · cases h
    · cases h
theorem decL_rt : ∀ as : List α, decL (as.map e) = some as
  | [] => rfl
  | a :: as => by rw [List.map_cons, decL, p.rt]; simp only [decL_rt as]
instance : Dec (List α) where
  dec := fun d => match d with | .list xs => decL xs | _ => none
  ok := fun d a h => by
    cases d <;> simp at h
    rw [decL_ok _ _ h]; rfl
  rt := fun a => decL_rt a
instance : Dec (Tup α) where
  dec := fun d => match d with | .tuple xs => (match decL xs with | some as => some ⟨as⟩ | none => none) | _ => none
  ok := fun d a h => by
    cases d <;> simp at h
    split at h
    · rename_i as h2; cases h; rw [decL_ok _ _ h2]; rfl
    · cases h
  rt := fun a => by
    show (match decL (a.l.map e) with | some as => some (⟨as⟩ : Tup α) | none => none) = _
    rw [decL_rt]
instance : Dec (T1 α) where
  dec := fun d => match d with | .tuple [a] => (match p.dec a with | some a => some ⟨a⟩ | none => none) | _ => none
  ok := fun d x h => by
    split at h
    · split at h
      · rename_i a h1; cases h; rw [p.ok _ _ h1]; rfl
      · cases h
    · cases h
  rt := fun x => by
    show (match p.dec (e x.a) with | some a => some (⟨a⟩ : T1 α) | none => none) = _
    rw [p.rt]
instance : Dec (α × β) where
  dec := fun d => match d with | .tuple [a, b] => (match p.dec a, q.dec b with | some a, some b => some (a, b) | _, _ => none) | _ => none
  ok := fun d x h => by
    split at h
    · split at h
      · rename_i h1 h2; cases h; rw [p.ok _ _ h1, q.ok _ _ h2]; rfl
      · cases h
    · cases h
  rt := fun x => by
    show (match p.dec (e x.1), q.dec (e x.2) with | some a, some b => some (a, b) | _, _ => none) = _
    rw [p.rt, q.rt]
instance : Dec (T3 α β γ) where
  dec := fun d => match d with | .tuple [a, b, c] => (match p.dec a, q.dec b, r.dec c with | some a, some b, some c => some ⟨a, b, c⟩ | _, _, _ => none) | _ => none
  ok := fun d x h => by
    split at h
    · split at h
      · rename_i h1 h2 h3; cases h; rw [p.ok _ _ h1, q.ok _ _ h2, r.ok _ _ h3]; rfl
      · cases h
    · cases h
  rt := fun x => by
    show (match p.dec (e x.a), q.dec (e x.b), r.dec (e x.c) with | some a, some b, some c => some (⟨a, b, c⟩ : T3 α β γ) | _, _, _ => none) = _
    rw [p.rt, q.rt, r.rt]
instance : Dec (T4 α β γ δ) where
  dec := fun d => match d with | .tuple [a, b, c, f] => (match p.dec a, q.dec b, r.dec c, s.dec f with | some a, some b, some c, some f => some ⟨a, b, c, f⟩ | _, _, _, _ => none) | _ => none
  ok := fun d x h => by
    split at h
    · split at h
      · rename_i h1 h2 h3 h4; cases h; rw [p.ok _ _ h1, q.ok _ _ h2, r.ok _ _ h3, s.ok _ _ h4]; rfl
      · cases h
    · cases h
  rt := fun x => by
    show (match p.dec (e x.a), q.dec (e x.b), r.dec (e x.c), s.dec (e x.d) with | some a, some b, some c, some f => some (⟨a, b, c, f⟩ : T4 α β γ δ) | _, _, _, _ => none) = _
    rw [p.rt, q.rt, r.rt, s.rt]
instance [n : NN α] : Dec (Option α) where
  dec := fun d => match d with | .none => some none | d => (match p.dec d with | some a => some (some a) | none => none)
  ok := fun d x h => by
    split at h
    · cases h; rfl
    · split at h
      · rename_i a h1; cases h; rw [p.ok _ _ h1]; rfl
      · cases h
  rt := fun x => by
    cases x with
    | none => rfl
    | some a =>
      show (match e a with | .none => some none | d => (match p.dec d with | some a => some (some a) | none => none)) = _
      have h := (n.nn a).1
      split
      · rename_i h2; rw [h2] at h; cases h
      · rw [p.rt]
def cDec (d : PyData) : R α := match p.dec d with
  | some a => .ok a
  | none => .stuck
theorem Co.dec : Co (cDec : PyData → R α) := fun d => by
  unfold cDec
  cases h : p.dec d with
  | none => trivial
  | some a => show R.ok d = R.ok (e a); rw [← p.ok d a h]
@[simp] theorem cDec_e (a : α) : (cDec (e a) : R α) = .ok a := by unfold cDec; rw [p.rt]
end
@[simp] theorem cDec_int (i : Int) : (cDec (.int i) : R Int) = .ok i := rfl
@[simp] theorem cDec_str (i : Str) : (cDec (.str i) : R Str) = .ok i := rfl
@[simp] theorem cDec_bool (i : Bool) : (cDec (.bool i) : R Bool) = .ok i := rfl
end VL

namespace VL
open PySem PySem.Spec PyProof.Rows L2
open Enc (e)
section
variable {α β γ l σ : Type} {ρ : OEnv} {E : σ → OEnv → Prop} {L : l → OEnv → Prop} {er : O → OEnv → β → Prop} {Z : OEnv → Prop} {k : OEnv → SR}
theorem q_appG {ox : α → O} {g : γ → α} {u : γ → OEnv} {ho : OEnv → R (O × OEnv)} {t : R γ} {ll : γ → List α → TR β l σ} (i : Nat) (xs : List α) (h : TQ (fun c => (ox (g c), u c)) (ho ρ) t) (z : Z ρ) (hr : ∀ c ys, SQ E L er Z (k ((u c).set i (some (oL ox ys)))) (ll c ys)) (hi : ρ[i]? = some (some (oL ox xs)) := by rfl) (hu : ∀ c, (u c)[i]? = some (some (oL ox xs)) := by intro c; rfl) : SQ E L er Z (seq (sApp i ho) k ρ) (t.tr fun c => (tapp xs (g c)).tr (ll c)) := by
  show SQ E L er Z (SR.seq (sApp i ho ρ) k) _
  unfold sApp
  rw [hi]
  show SQ E L er Z (SR.seq (R.sr _ _ _) k) _
  rw [seq_sr]
  refine SQ.sr h z fun c => ?_
  unfold tapp
  simp only [hu, List.length_map, szL]
  split
  · show SQ _ _ _ _ (k _) (ll c (xs ++ [g c]))
    have := hr c (xs ++ [g c])
    rw [show oL ox (xs ++ [g c]) = O.lst (xs.map ox ++ [ox (g c)]) by simp [oL]] at this
    exact this
  · trivial
end
end VL

namespace VL
open PySem PySem.Spec PyProof.Rows L2
open Enc (e)
section
variable {X : Cx} {W : WX} {pos : Pos}
structure DLs (X : Cx) (pos : Pos) (keys : List (Option Expr)) (vals : List Expr) (kvs : List (L2.Key × L2.Key)) : Prop where
  pps : PPs X pos keys vals (kvs.map fun p => (tC (kV p.1), tC (kV p.2)))
  hk : keys.all (·.isSome) = true
  hl : keys.length = vals.length
  hn : keys.length = kvs.length
end
end VL

namespace L2
open PySem PySem.Spec PyProof.Rows PySem.W PySem.Calls Builtin
section
variable {X : Cx} {x : Str} {p pos : Pos} {C : Addr}
structure Mk0 (K : PySem.W.Frag) (C : Addr) : Prop where
  makes : PySem.W.makesIn K C = true
  init : PySem.W.findIn K (.ref C) "__init__" = some (some (.builtin "object.__init__"))
  top : PySem.W.mroIn K C (.type "object") = some true
  kp : PySem.W.keepIn K (.ref C) = true
end
end L2
namespace VL
open PySem PySem.Spec PyProof.Rows L2
section
variable {X : Cx} {W : WX} {p pos : Pos} {C : Addr} {cn : Str}
end
end VL

namespace VL
open PySem PySem.Spec PyProof.Rows L2
open Enc (e)
abbrev TTab := List (Str × R PyData)
def tLook (c : Str) : TTab → R PyData
  | [] => .stuck
  | (d, r) :: t => if d = c then r else tLook c t
def tmD (tab : TTab) : PyData → R PyData
  | .dict [(.none, .str c)] => tLook c tab
  | _ => .stuck
section
variable {fo : PEnv → R PyData} {fa : PEnv → R (List PyData)} {ρ : PEnv} {m : Str}
inductive TMs (ρ : PEnv) (fa : PEnv → R (List PyData)) : MTab → TTab → Prop
  | nil : TMs ρ fa [] []
  | cons {c : Str} {g : List PyData → R PyData} {r : R PyData} {tab : MTab} {tt : TTab} : TEq (vapp g (aCons (vC (insD c [] [])) fa) ρ) r → TMs ρ fa tab tt → TMs ρ fa ((c, g) :: tab) ((c, r) :: tt)
@[simp] theorem tmD_ins (c : Str) (tt : TTab) : tmD tt (insD c [] []) = tLook c tt := rfl
end
end VL

namespace VL
open PySem PySem.Spec PyProof.Rows L2
mutual
def olf : O → Bool
  | .fz d => lf d
  | .tup xs => olfs xs
  | .lst xs => olfs xs
  | .dct _ xs => olfs xs
  | .ins _ _ xs => olfs xs
  | .par _ o => olf o
def olfs : List O → Bool
  | [] => true
  | x :: xs => olf x && olfs xs
end
mutual
theorem Own.lfree {K : PySem.W.Frag} {F F' H : Hp} (e : ∀ b, (∃ ys, Rd F b (.tup ys)) → F' b = F b) : ∀ {o : O} {v : V} {fp : List Addr}, olf o = true → Own K F H v o fp → Own K F' H v o fp
  | .fz d, _, _, l, h => by cases h with | fz h => exact .fz (Is.lfree e (by simpa [olf] using l) h)
  | .tup os, _, _, l, h => by
    cases h with
    | tup h1 h2 => exact .tup ((e _ ⟨_, .inl h1⟩).trans h1) (OwnL.lfree e (by simpa [olf] using l) h2)
  | .lst os, _, _, l, h => by cases h with | lst h1 h2 => exact .lst h1 (OwnL.lfree e (by simpa [olf] using l) h2)
  | .dct ks os, _, _, l, h => by cases h with | dct h1 h3 h2 => exact .dct h1 h3 (OwnL.lfree e (by simpa [olf] using l) h2)
  | .ins c ns os, _, _, l, h => by cases h with | ins h1 h3 h4 h5 h2 => exact .ins h1 h3 h4 h5 (OwnL.lfree e (by simpa [olf] using l) h2)
  | .par a o, _, _, l, h => by cases h with | par h => exact .par (Own.lfree e (by simpa [olf] using l) h)
theorem OwnL.lfree {K : PySem.W.Frag} {F F' H : Hp} (e : ∀ b, (∃ ys, Rd F b (.tup ys)) → F' b = F b) : ∀ {os : List O} {vs : List V} {fp : List Addr}, olfs os = true → OwnL K F H vs os fp → OwnL K F' H vs os fp
  | [], _, _, _, h => by cases h; exact .nil
  | o :: os, _, _, l, h => by
    cases h with
    | cons h1 h2 =>
      simp [olfs] at l
      exact .cons (Own.lfree e l.1 h1) (OwnL.lfree e l.2 h2)
end
def oCallB (g : List PyData → R O) (fa : PEnv → R (List PyData)) : OEnv → R (O × OEnv) := fun ρ => (fa (viewB ρ)).bind fun ds => (g ds).bind fun o => if olf o then .ok (o, ρ) else .stuck
section
variable {X : Cx} {W : WX} {es : List Expr} {pos : Pos} {k : Nat}
theorem vo_callB {x : Str} {f : Addr} {fd : FuncData} {ps : List Str} {n : Nat} {g : List PyData → R O} {fa : PEnv → R (List PyData)} {p : Pos} {e : Expr} (F : FnOk X.prog X.w X.K X.mg X.base (L2.CX X.prog X.w) k f fd ps (spO X.K X.mg n g)) (hr : Room k X.A) (hm : X.mg x = some (.ref f)) (hk : PySem.W.keepIn X.K (.ref f) = true) (hb : Binds X.K fd ps [])
    (tk : Takes X W) (ha : VAn X W n (e :: es) fa) (hg : Gl X x := by rfl) (hdb : (x == ("__debug__" : Str)) = false := by decide) (he : starEach (e :: es) X.env = (false, eval e X.env) :: starEach es X.env := by rfl) (hpl : (backTo pos (starEach es X.env)).any (·.1) = false := by rfl) :
    VO X W (.Call (.Name x p) (e :: es) [] pos) (oCallB g fa) := by
  obtain ⟨t, pt, qt⟩ := ha.va.ex
  refine ⟨_, pe_callS F hr hg hm hk hb (fun σ => passAt tk σ) pt hdb he hpl, fun σ H F0 H0 Fz ρ Q r pr => ?_⟩
  obtain ⟨fps, s, hs⟩ := id r.ex
  obtain ⟨b1, b2⟩ := hs.bor
  have hl := ha.len (viewB ρ)
  have rf := s.rfB b1 fun a ha => bor_own ha
  unfold oCallB at pr
  generalize hfa : fa (viewB ρ) = rr at pr hl
  cases rr with
  | stuck => exact pr.elim
  | err c => exact qt σ H (bor Fz H fps) (viewB ρ) _ b2 rf (by rw [hfa]; exact pr)
  | ok ds =>
    refine qt σ H (bor Fz H fps) (viewB ρ) _ b2 rf ?_
    rw [hfa]
    intro xs H1 F1 e1 dx
    refine ⟨by rw [IsAll.len dx]; exact hl ds rfl, ds, F1, e1.bh, dx, ?_⟩
    simp only [R.bind_ok] at pr
    generalize g ds = rg at pr ⊢
    cases rg with
    | stuck => exact pr
    | err c => exact fun H' z => pr H' (e1.hh.trans z)
    | ok o =>
      simp only [R.bind_ok] at pr
      split at pr
      · rename_i hlf
        intro v H' F' rv
        obtain ⟨fp, ow, h1⟩ := rv
        have ex : Ext (bor Fz H fps) H F' H' := e1.trans ⟨h1.h0, h1.f0, h1.fh, h1.nw⟩
        obtain ⟨F2, x1, x2, x3⟩ := hs.unbor s.lstAt ex
        refine pr v H' F2 (r.push ⟨fp, Own.lfree x2 hlf ow, h1.nd, fun a ha => ⟨?_, ?_⟩, x1.bh, x1.bb, x1.hh, x1.nw⟩)
        · cases q : F2 a with
          | none => rfl
          | some u => have := x3 _ _ q; rw [(h1.ow a ha).1] at this; cases this
        · exact Same.free e1.hh (h1.ow a ha).2
      · exact pr.elim
end
class LFO {α : Type} (ox : α → O) : Prop where
  h : ∀ a : α, olf (ox a) = true
theorem olfs_map {α : Type} {ox : α → O} [LFO ox] : ∀ xs : List α, olfs (xs.map ox) = true
  | [] => by simp [olfs]
  | x :: xs => by simp [olfs, LFO.h x, olfs_map xs]
instance {α : Type} [Enc α] [LF α] : LFO (oF : α → O) := ⟨fun a => by simp [oF, olf, LF.h a]⟩
instance {α : Type} {ox : α → O} [LFO ox] : LFO (oL ox) := ⟨fun a => by simp [oL, olf, olfs_map a]⟩
instance {α β : Type} {f : α → O} {g : β → O} [LFO f] [LFO g] : LFO (oT2 f g) := ⟨fun a => by simp [oT2, olf, olfs, LFO.h]⟩
instance {α β γ : Type} {f : α → O} {g : β → O} {h : γ → O} [LFO f] [LFO g] [LFO h] : LFO (oT3 f g h) := ⟨fun a => by simp [oT3, olf, olfs, LFO.h]⟩
theorem p_callB {α : Type} {ox : α → O} [LFO ox] {g : List PyData → R O} {fa : PEnv → R (List PyData)} {ρ : OEnv} {s : R α} (h : TQ ox ((fa (viewB ρ)).bind g) s) : TQ (fun a : α => (ox a, ρ)) (oCallB g fa ρ) s := by
  have e1 : oCallB g fa ρ = ((fa (viewB ρ)).bind g).bind fun o => if olf o then .ok (o, ρ) else .stuck := by rw [R.bind_assoc]; rfl
  rw [e1]
  cases s with
  | stuck => trivial
  | err c => show R.bind _ _ = _; rw [show (fa (viewB ρ)).bind g = .err c from h]; rfl
  | ok a => show R.bind _ _ = _; rw [show (fa (viewB ρ)).bind g = .ok (ox a) from h]; simp only [R.bind_ok, LFO.h a, if_true]
end VL

namespace VL
open PySem PySem.Spec PyProof.Rows L2
def oLst (g : OEnv → R (List O × OEnv)) : OEnv → R (O × OEnv) := fun ρ => (g ρ).bind fun p => if p.1.length ≤ 1000 then .ok (.lst p.1, p.2) else .stuck
@[simp] theorem oLst_ap (g : OEnv → R (List O × OEnv)) (ρ : OEnv) : oLst g ρ = (g ρ).bind fun p => if p.1.length ≤ 1000 then .ok (.lst p.1, p.2) else .stuck := rfl
def oZ (h : OEnv → R (O × OEnv)) : OEnv → R (O × OEnv) := fun ρ => (h ρ).bind fun p => .ok (.fz p.1.data, p.2)
@[simp] theorem oZ_ap (h : OEnv → R (O × OEnv)) (ρ : OEnv) : oZ h ρ = (h ρ).bind fun p => .ok (.fz p.1.data, p.2) := rfl
section
variable {X : Cx} {W : WX} {e : Expr} {es : List Expr} {pos : Pos} {ho : OEnv → R (O × OEnv)} {g : OEnv → R (List O × OEnv)}
end
open Enc (e)
structure H2 (α β : Type) where
  a : α
  b : β
  deriving DecidableEq
structure H3 (α β γ : Type) where
  a : α
  b : β
  c : γ
  deriving DecidableEq
section
variable {α β γ θ : Type} [Enc α] [Enc β] [Enc γ]
instance : Enc (H2 α β) := ⟨fun p => .list [e p.a, e p.b]⟩
instance : Enc (H3 α β γ) := ⟨fun p => .list [e p.a, e p.b, e p.c]⟩
def mkh2 (a : α) (b : β) : R (H2 α β) := .ok ⟨a, b⟩
def mkh3 (a : α) (b : β) (c : γ) : R (H3 α β γ) := .ok ⟨a, b, c⟩
@[simp] theorem mkh2_ap (a : α) (b : β) : mkh2 a b = .ok ⟨a, b⟩ := rfl
@[simp] theorem mkh3_ap (a : α) (b : β) (c : γ) : mkh3 a b c = .ok ⟨a, b, c⟩ := rfl
def mkc (a : θ) (as : List θ) : R (List θ) := .ok (a :: as)
@[simp] theorem mkc_ap (a : θ) (as : List θ) : mkc a as = .ok (a :: as) := rfl
variable {ρ ρ1 ρ2 ρ3 : OEnv} {h1 h2 h3 : OEnv → R (O × OEnv)} {f1 : α → O} {f2 : β → O} {f3 : γ → O} {g : OEnv → R (List O × OEnv)} {ox : θ → O}
end
end VL

namespace VL
open PySem PySem.Spec PyProof.Rows L2
open Enc (e)
section
variable {α β : Type} [Enc α] [Enc β] {ρ : PEnv} {f : PEnv → R PyData} {s : R α}
end
example : ∀ a : T5 Int Int Int Int Int, vcut none (some 2) (e a) = .ok (e ((a.a, a.b) : Int × Int)) := by intro _; rfl
section
variable {α β γ δ ε : Type} [Enc α] [Enc β] [Enc γ] [Enc δ] [Enc ε]
instance [q : EqE α] [r : EqE β] [s : EqE γ] [t : EqE δ] [u : EqE ε] : EqE (T5 α β γ δ ε) where
  dec := fun a b => @instDecidableEqT5.decEq α β γ δ ε q.dec r.dec s.dec t.dec u.dec a b
  ok := fun p => EqE.ok p.a ∧ EqE.ok p.b ∧ EqE.ok p.c ∧ EqE.ok p.d ∧ EqE.ok p.x
  dep := max (max (EqE.dep α) (EqE.dep β)) (max (EqE.dep γ) (max (EqE.dep δ) (EqE.dep ε))) + 1
  lay := fun p h => ⟨by simp, fun x hx => by
    simp only [List.mem_cons, List.not_mem_nil, or_false] at hx
    rcases hx with rfl | rfl | rfl | rfl | rfl
    · exact okS_m (EqE.lay _ h.1) (by omega)
    · exact okS_m (EqE.lay _ h.2.1) (by omega)
    · exact okS_m (EqE.lay _ h.2.2.1) (by omega)
    · exact okS_m (EqE.lay _ h.2.2.2.1) (by omega)
    · exact okS_m (EqE.lay _ h.2.2.2.2) (by omega)⟩
  eqv := fun p q h g => by
    obtain ⟨a, b, c, d, f⟩ := p
    obtain ⟨a', b', c', d', f'⟩ := q
    show PyData.eqv (.tuple [e a, e b, e c, e d, e f]) (.tuple [e a', e b', e c', e d', e f']) = _
    simp only [PyData.eqv, PyData.eqvAll]
    rw [EqE.eqv a a' h.1 g.1, EqE.eqv b b' h.2.1 g.2.1, EqE.eqv c c' h.2.2.1 g.2.2.1, EqE.eqv d d' h.2.2.2.1 g.2.2.2.1, EqE.eqv f f' h.2.2.2.2 g.2.2.2.2, Bool.eq_iff_iff]
    simp
@[simp] theorem ok_t5 [EqE α] [EqE β] [EqE γ] [EqE δ] [EqE ε] (p : T5 α β γ δ ε) : EqE.ok p = (EqE.ok p.a ∧ EqE.ok p.b ∧ EqE.ok p.c ∧ EqE.ok p.d ∧ EqE.ok p.x) := rfl
end
end VL

namespace VL
open PySem PySem.Spec PyProof.Rows L2
def SortOk (ds : List PyData) : Prop := PySem.W.AllAlike ds ∧ PySem.W.Sortable ds ∧ ∀ d ∈ ds, okS 60 d
def dLe (a b : PyData) : Bool := !PySem.W.dataLt b a
noncomputable def lsortD : PyData → R (List PyData)
  | .list ds => @ite _ (SortOk ds) (Classical.propDecidable _) (.ok (ds.mergeSort dLe)) .stuck
  | _ => .stuck
noncomputable def fsortD (f : PEnv → R PyData) : PEnv → R (List PyData) := fun ρ => (f ρ).bind lsortD
def outZ (xs : List V) (ds : List PyData) : List (V × PyData) := (xs.zip ds).mergeSort fun a b => dLe a.2 b.2
theorem dpAll_len {K : PySem.W.Frag} {H : Hp} : ∀ {xs : List V} {ds : List PyData}, DpAll K H xs ds → xs.length = ds.length
  | _, _, .nil => rfl
  | _, _, .cons _ t => by rw [List.length_cons, List.length_cons, dpAll_len t]
theorem isAll_zip {K : PySem.W.Frag} {F : Hp} : ∀ {xs : List V} {ds : List PyData}, IsAll K F xs ds → ∀ p ∈ xs.zip ds, Is K F p.1 p.2
  | _, _, .nil, p, h => by simp at h
  | _, _, .cons h t, p, hm => by
    rw [List.zip_cons_cons] at hm
    rcases List.mem_cons.mp hm with e | m
    · rw [e]; exact h
    · exact isAll_zip t p m
theorem isAll_of {K : PySem.W.Frag} {F : Hp} : ∀ l : List (V × PyData), (∀ p ∈ l, Is K F p.1 p.2) → IsAll K F (l.map Prod.fst) (l.map Prod.snd)
  | [], _ => .nil
  | p :: l, h => .cons (h p List.mem_cons_self) (isAll_of l fun q hq => h q (List.mem_cons_of_mem _ hq))
theorem outZ_snd {xs : List V} {ds : List PyData} (hl : xs.length = ds.length) : (outZ xs ds).map Prod.snd = ds.mergeSort dLe := by
  unfold outZ
  rw [List.map_mergeSort (s := dLe) (fun a _ b _ => rfl), List.map_snd_zip (Nat.le_of_eq hl.symm)]
theorem outZ_mem {xs : List V} {ds : List PyData} {p : V × PyData} (h : p ∈ outZ xs ds) : p ∈ xs.zip ds := (List.mergeSort_perm _ _).mem_iff.mp h
section
variable {X : Cx} {W : WX} {a : Expr} {fa : PEnv → R PyData}
theorem each_of {pins : List (Addr × Obj)} {σ : L2.St} {H : Hp} {s : Shared} (I : Inv X pins σ H s) : ∀ {xs : List V} {ds : List PyData} {its : List Value}, Vals xs its → DpAll X.K H xs ds → PySem.W.EachIs (fun u (b : V × PyData) => RelV b.1 u ∧ ∃ as, Reads s.heap u b.2 as) its (xs.zip ds)
  | _, _, _, r, .nil => by cases r; exact .nil
  | _, _, _, r, .cons h t => by
    cases r with
    | cons r1 r2 => exact .cons ⟨r1, Dp.reads I _ _ _ h r1⟩ (each_of I r2 t)
theorem vals_each : ∀ {out : List Value} {l : List (V × PyData)}, PySem.W.EachIs (fun u (b : V × PyData) => RelV b.1 u) out l → Vals (l.map Prod.fst) out
  | _, _, .nil => .nil
  | _, _, .cons h t => .cons h (vals_each t)
def rSortD (K : PySem.W.Frag) : List V → Hp → VK → Prop := fun vs H Q => ∃ (a : Addr) (xs : List V) (ds : List PyData), vs = [V.ref a] ∧ SqL K H a xs ∧ DpAll K H xs ds ∧ SortOk ds ∧ ∀ p, H p = none → Q (.ref p) (upd H p (.lst ((outZ xs ds).map Prod.fst)))
theorem cr_sortedD (hu : X.A.units + 65 < cLine) : CallR X (.builtin "sorted") (rSortD X.K) := by
  intro pins s σ H vs us Q I r h
  obtain ⟨a, xs, ds, rfl, hs, hd, ⟨hal, hk, hok⟩, q⟩ := h
  obtain ⟨its, rv, hl, hz⟩ := I.list hs
  obtain ⟨u, rfl, ru⟩ := vals1 r
  obtain rfl : u = Value.ref a := ru
  have hlen := dpAll_len hd
  have em : (xs.zip ds).map Prod.snd = ds := List.map_snd_zip (Nat.le_of_eq hlen.symm)
  have e := each_of I rv hd
  refine PySem.W.sorted_data (enc := Prod.snd) (R := fun u (b : V × PyData) => RelV b.1 u) (bs := xs.zip ds) hl.isList (e.mono fun _ _ h => h.1) (e.mono fun _ _ h => h.2) (by rw [em]; exact hal) (by rw [em]; exact hk) ?_ (fun b hb => ?_) fun out ho ex => ?_
  · rw [List.length_zip]
    exact Nat.le_trans (Nat.min_le_left _ _) hz
  · have := (hok b.2 (List.of_mem_zip hb).2).lay.2.1
    omega
  · have e1 : (xs.zip ds).mergeSort (PySem.W.dataLe false Prod.snd) = outZ xs ds := rfl
    rw [e1] at ex
    refine ⟨.ref _, upd H _ (.lst ((outZ xs ds).map Prod.fst)), I.laid (t' := s.toks) (fun b o e => sortedAll_old e) (Nat.le_succ _) ?_, rfl, q _ (I.hok.fresh (Nat.le_succ _))⟩
    obtain ⟨n, hn⟩ := sortedAll_at s.heap its out.toArray
    refine ⟨?_, out, n, vals_each ex, hn⟩
    rw [List.length_map]
    unfold outZ
    rw [List.length_mergeSort, List.length_zip]
    exact Nat.le_trans (Nat.min_le_left _ _) hz
theorem vsortD_f {p pos : Pos} (hu : X.A.units + 65 < cLine) (hm : X.mg "sorted" = none) (ha : VE X W a fa) (hg : Gl X "sorted" := by rfl) (he : starEach [a] X.env = (false, eval a X.env) :: starEach [] X.env := by rfl) (hpl : (backTo pos (starEach [] X.env)).any (·.1) = false := by rfl) :
    VFr X W (.Call (.Name "sorted" p) [a] [] pos) (fsortD fa) := by
  obtain ⟨ta, pa, qa⟩ := ha.ex
  refine ⟨_, pe_callB (cr_sortedD hu) hg hm (by decide +kernel) (pa_cons pa pa_nil he) (by decide) (by decide) he hpl, fun σ H B ρ Q s rf pr => ?_⟩
  refine one qa s rf pr fun d x H' B' ex sm dx pg => ?_
  cases dx <;> first | exact pg.elim | skip
  rename_i h1 h2
  simp only [lsortD] at pg
  split at pg
  · rename_i hk
    have lay : ∀ {n : Nat} (ds : List PyData), (∀ d ∈ ds, okS n d) → PyData.canLayAll0 ds = true := fun ds => by
      induction ds with
      | nil => intro _; simp [PyData.canLayAll0]
      | cons d ds ih =>
        intro h
        simp only [PyData.canLayAll0, Bool.and_eq_true]
        exact ⟨(h d List.mem_cons_self).lay.1, ih fun x hx => h x (List.mem_cons_of_mem _ hx)⟩
    refine ⟨_, _, _, rfl, .inl (Rd.mono ex.bh h1), (IsAll.mono ex.bh h2).dp (lay _ hk.2.2), hk, fun q hq => ?_⟩
    have hz := IsAll.len h2
    have key := isAll_of (outZ _ _) fun p hp => isAll_zip h2 p (outZ_mem hp)
    rw [outZ_snd (by first | exact hz | exact hz.symm)] at key
    exact pg q _ _ B' (ex.trans (Ext.own ex.bh hq)) upd_same (Same.free ex.hh hq) (Same.free ex.bh hq) key
  · exact pg.elim
end
end VL

namespace VL
open PySem PySem.Spec PyProof.Rows L2
open Enc (e)
class AlkE (α : Type) [Enc α] : Prop where
  al : ∀ a b : α, PySem.W.alike (e a) (e b) = true
class TupE (α : Type) [Enc α] : Prop where
  tu : ∀ a : α, ∃ x r, e a = .tuple (x :: r)
instance : AlkE Int := ⟨fun a b => by simp [Enc.e, PySem.W.alike]⟩
instance : AlkE Bool := ⟨fun a b => by simp [Enc.e, PySem.W.alike]⟩
instance : AlkE Str := ⟨fun a b => by simp [Enc.e, PySem.W.alike]⟩
section
variable {α β γ δ ε : Type} [Enc α] [Enc β] [Enc γ] [Enc δ] [Enc ε]
theorem alikeAll_map [AlkE α] : ∀ xs ys : List α, PySem.W.alikeAll (xs.map e) (ys.map e) = true
  | [], ys => by simp [PySem.W.alikeAll]
  | x :: xs, [] => by simp [PySem.W.alikeAll]
  | x :: xs, y :: ys => by simp [PySem.W.alikeAll, AlkE.al x y, alikeAll_map xs ys]
instance [AlkE α] : AlkE (List α) := ⟨fun a b => by show PySem.W.alike (.list _) (.list _) = true; simp only [PySem.W.alike]; exact alikeAll_map a b⟩
instance [AlkE α] : AlkE (Tup α) := ⟨fun a b => by show PySem.W.alike (.tuple _) (.tuple _) = true; simp only [PySem.W.alike]; exact alikeAll_map a.l b.l⟩
instance [AlkE α] : AlkE (T1 α) := ⟨fun a b => by show PySem.W.alike (.tuple _) (.tuple _) = true; simp [PySem.W.alike, PySem.W.alikeAll, AlkE.al]⟩
instance [AlkE α] [AlkE β] : AlkE (α × β) := ⟨fun a b => by show PySem.W.alike (.tuple _) (.tuple _) = true; simp [PySem.W.alike, PySem.W.alikeAll, AlkE.al]⟩
instance [AlkE α] [AlkE β] [AlkE γ] : AlkE (T3 α β γ) := ⟨fun a b => by show PySem.W.alike (.tuple _) (.tuple _) = true; simp [PySem.W.alike, PySem.W.alikeAll, AlkE.al]⟩
instance [AlkE α] [AlkE β] [AlkE γ] [AlkE δ] : AlkE (T4 α β γ δ) := ⟨fun a b => by show PySem.W.alike (.tuple _) (.tuple _) = true; simp [PySem.W.alike, PySem.W.alikeAll, AlkE.al]⟩
instance [AlkE α] [AlkE β] [AlkE γ] [AlkE δ] [AlkE ε] : AlkE (T5 α β γ δ ε) := ⟨fun a b => by show PySem.W.alike (.tuple _) (.tuple _) = true; simp [PySem.W.alike, PySem.W.alikeAll, AlkE.al]⟩
instance : TupE (T1 α) := ⟨fun a => ⟨_, _, rfl⟩⟩
instance : TupE (α × β) := ⟨fun a => ⟨_, _, rfl⟩⟩
instance : TupE (T3 α β γ) := ⟨fun a => ⟨_, _, rfl⟩⟩
instance : TupE (T4 α β γ δ) := ⟨fun a => ⟨_, _, rfl⟩⟩
instance : TupE (T5 α β γ δ ε) := ⟨fun a => ⟨_, _, rfl⟩⟩
def tLe (a b : α) : Bool := dLe (e a) (e b)
noncomputable def tsortD [EqE α] (xs : List α) : R (List α) := @ite _ (∀ x ∈ xs, EqE.ok x) (Classical.propDecidable _) (.ok (xs.mergeSort tLe)) .stuck
theorem tsortD_ok [EqE α] {xs : List α} (h : ∀ x ∈ xs, EqE.ok x) : tsortD xs = .ok (xs.mergeSort tLe) := if_pos h
theorem o_sortD [EqE α] [AlkE α] [TupE α] (hd : EqE.dep α ≤ 60 := by decide) (xs : List α) : TL (lsortD (e xs)) (tsortD xs) := by
  unfold tsortD
  by_cases h : ∀ x ∈ xs, EqE.ok x
  · rw [if_pos h]
    show lsortD (.list (xs.map e)) = .ok ((xs.mergeSort tLe).map e)
    have ok : SortOk (xs.map e) := by
      refine ⟨fun d hd d' hd' => ?_, .inl fun d hd => ?_, fun d hd' => ?_⟩
      · obtain ⟨a, _, rfl⟩ := List.mem_map.mp hd
        obtain ⟨b, _, rfl⟩ := List.mem_map.mp hd'
        exact AlkE.al a b
      · obtain ⟨a, _, rfl⟩ := List.mem_map.mp hd
        exact TupE.tu a
      · obtain ⟨a, ha, rfl⟩ := List.mem_map.mp hd'
        exact okS_m (EqE.lay a (h a ha)) hd
    unfold lsortD
    simp only
    rw [if_pos ok]
    have := List.map_mergeSort (r := tLe) (s := dLe) (f := (e : α → PyData)) (l := xs) (fun a _ b _ => rfl)
    rw [this]
  · rw [if_neg h]; trivial
theorem t_sortD [EqE α] [AlkE α] [TupE α] {ρ : PEnv} {f : PEnv → R PyData} {s : R (List α)} (h : TEq (f ρ) s) (hd : EqE.dep α ≤ 60 := by decide) : TL (fsortD f ρ) (b1 tsortD s) := h.bind fun xs => o_sortD hd xs
end
theorem tLe_ii (p q : Int × Int) : tLe p q = decide (p.1 < q.1 ∨ (p.1 = q.1 ∧ p.2 ≤ q.2)) := by
  show (!PySem.W.dataLt (.tuple [.int q.1, .int q.2]) (.tuple [.int p.1, .int p.2])) = _
  rw [PySem.W.dataLt_ii]
  by_cases h : q.1 < p.1 ∨ (q.1 = p.1 ∧ q.2 < p.2)
  · have h' : ¬ (p.1 < q.1 ∨ (p.1 = q.1 ∧ p.2 ≤ q.2)) := by omega
    simp [h, h']
  · have h' : p.1 < q.1 ∨ (p.1 = q.1 ∧ p.2 ≤ q.2) := by omega
    simp [h, h']
end VL

namespace VL
open PySem PySem.Spec PyProof.Rows L2
section
variable {X : Cx} {W : WX} {a b : Expr} {fa fb : PEnv → R PyData}
end
end VL

namespace VL
open PySem PySem.Spec PyProof.Rows L2
def dKeys : PyData → R (List PyData)
  | .dict ((.none, .bool false) :: kvs) => .ok (kvs.map (·.1))
  | _ => .stuck
def fkeys (f : PEnv → R PyData) : PEnv → R (List PyData) := fun ρ => (f ρ).bind dKeys
@[simp] theorem fkeys_ap (f : PEnv → R PyData) (ρ : PEnv) : fkeys f ρ = (f ρ).bind dKeys := rfl
section
variable {X : Cx} {W : WX} {a : Expr} {fa : PEnv → R PyData}
end
open Enc (e)
section
variable {β : Type} [Enc β] {ρ : PEnv} {f : PEnv → R PyData}
end
end VL

namespace VL
open PySem PySem.Spec PyProof.Rows L2
abbrev Dcd := List L2.Key × List PyData
def KFd (X : Cx) (B H : Hp) (Q : VK) (p : Dcd) : Prop := ∀ a vs H' B', Ext B H B' H' → H' a = some (hoD (.inl p.1) vs) → p.1.length = vs.length → p.1.Nodup → H a = none → B' a = none → IsAll X.K B' vs p.2 → Q (.ref a) H'
structure VFd (X : Cx) (W : WX) (e : Expr) (f : PEnv → R Dcd) : Prop where
  ex : ∃ t, PE X e t ∧ ∀ σ H B ρ Q, Same B H → RF X.K B σ ρ → Pst X W σ H (KFd X B H Q) (f ρ) → t σ H Q
section
variable {X : Cx} {W : WX}
variable {kx vx tg iter : Expr} {ifs : List Expr} {scope : Scope} {own : List (Str × Nat)} {sl ownl : List Nat} {fi : PEnv → R (List PyData)} {kt : PyData → R (List (Nat × PyData))} {ft : PEnv → R Bool} {fk fv : PEnv → R PyData} {pos : Pos}
end
section
variable {X : Cx} {W : WX} {f : PEnv → R Dcd} {t : TE}
variable {e : Expr}
end
end VL

namespace VL
open PySem PySem.Spec PyProof.Rows L2
def dK (z : List (L2.Key × V)) : HO := .dK z
section
variable {X : Cx} {W : WX} {x : Str} {i : Nat} {p0 : Pos} {kx vx elt tg : Expr} {ifs : List Expr} {scope : Scope} {own : List (Str × Nat)} {sl ownl : List Nat} {kt : PyData → R (List (Nat × PyData))} {ft : PEnv → R Bool} {fe fk fv : PEnv → R PyData} {pos : Pos}
end
end VL

namespace VL
open PySem PySem.Spec PyProof.Rows L2
open Enc (e)
section
variable {κ β α γ : Type} [Enc κ] [Enc β] [Enc α] [q : KeyE κ]
variable {ρ : PEnv} {fi : PEnv → R (List PyData)} {kt : PyData → R (List (Nat × PyData))} {ft : PEnv → R Bool} {fk fv : PEnv → R PyData} {s : R (List α)} {own : List Nat}
end
end VL

namespace VL
open PySem PySem.Spec PyProof.Rows L2
section
variable {X : Cx} {W : WX} {pos : Pos} {k : Nat}
end
end VL

namespace VL
open PySem PySem.Spec PyProof.Rows L2
section
variable {β l σ α : Type} {E : σ → OEnv → Prop} {L : l → OEnv → Prop} {er : O → OEnv → β → Prop} {Z : OEnv → Prop} {ρ : OEnv} {k : OEnv → SR}
end
end VL

namespace VL
open PySem PySem.Spec PyProof.Rows L2
section
variable {X : Cx} {W : WX} {a b : Expr} {fa fb : PEnv → R PyData} {pos : Pos}
end
section
open Enc (e)
variable {κ β : Type} [Enc κ] [Enc β] [q : KeyE κ] {ρ : PEnv} {fa fb : PEnv → R PyData}
def tdc1 (k : κ) (v : β) : R (Dc κ β) := .ok ⟨[(k, v)]⟩
@[simp] theorem tdc1_ap (k : κ) (v : β) : tdc1 k v = .ok ⟨[(k, v)]⟩ := rfl
end
end VL

namespace VL
open PySem PySem.Spec PyProof.Rows L2
def dKeysT : PyData → R (List PyData)
  | .dict ((.none, .bool true) :: kvs) => .ok (kvs.map (·.1))
  | _ => .stuck
def fkeysT (f : PEnv → R PyData) : PEnv → R (List PyData) := fun ρ => (f ρ).bind dKeysT
@[simp] theorem fkeysT_ap (f : PEnv → R PyData) (ρ : PEnv) : fkeysT f ρ = (f ρ).bind dKeysT := rfl
section
variable {X : Cx} {W : WX} {a : Expr} {fa : PEnv → R PyData}
end
section
open Enc (e)
variable {κ β : Type} [Enc κ] [Enc β] [q : KeyE κ] {ρ : PEnv} {fa : PEnv → R PyData}
def tkeysT (d : Dc κ β) : R (List κ) := .ok (d.l.map (·.1))
@[simp] theorem tkeysT_ap (d : Dc κ β) : tkeysT d = .ok (d.l.map (·.1)) := rfl
end
end VL

namespace VL
open PySem PySem.Spec PyProof.Rows L2
open Enc (e)
section
variable {α β γ : Type} [Enc α] [Enc β] [Enc γ]
def tcat12 (a : T1 α) (b : β × γ) : R (T3 α β γ) := .ok ⟨a.a, b.1, b.2⟩
@[simp] theorem tcat12_ap (a : T1 α) (b : β × γ) : tcat12 a b = .ok ⟨a.a, b.1, b.2⟩ := rfl
def tcat22 {δ : Type} (a : α × β) (b : γ × δ) : R (T4 α β γ δ) := .ok ⟨a.1, a.2, b.1, b.2⟩
@[simp] theorem tcat22_ap {δ : Type} (a : α × β) (b : γ × δ) : tcat22 a b = .ok ⟨a.1, a.2, b.1, b.2⟩ := rfl
end
end VL

namespace VL
open PySem PySem.Spec PyProof.Rows L2
def KNw (X : Cx) (B H : Hp) (Q : VK) (o : O) : Prop := ∀ v H' B' fp, Ext B H B' H' → Own X.K B' H' v o fp → fp.Nodup → (∀ a ∈ fp, H a = none ∧ B' a = none) → Q v H'
structure VN (X : Cx) (W : WX) (e : Expr) (f : PEnv → R O) : Prop where
  ex : ∃ t, PE X e t ∧ ∀ σ H B ρ Q, Same B H → RF X.K B σ ρ → Pst X W σ H (KNw X B H Q) (f ρ) → t σ H Q
section
variable {X : Cx} {W : WX} {e : Expr} {es : List Expr} {pos : Pos} {k : Nat}
def tVN (X : Cx) (W : WX) (f : PEnv → R O) : TE := fun σ H Q => ∃ B ρ, Same B H ∧ RF X.K B σ ρ ∧ Pst X W σ H (KNw X B H Q) (f ρ)
theorem VN.pe {e : Expr} {f : PEnv → R O} (h : VN X W e f) : PE X e (tVN X W f) := by
  obtain ⟨t, p, q⟩ := h.ex
  exact ⟨fun pins s σ H Q I ⟨B, ρ, s1, r, hp⟩ => p.run pins s σ H Q I (q σ H B ρ Q s1 r hp)⟩
variable {elt tg iter : Expr} {ifs : List Expr} {scope : Scope} {own : List (Str × Nat)} {sl ownl : List Nat} {fi : PEnv → R (List PyData)} {kt : PyData → R (List (Nat × PyData))} {ft : PEnv → R Bool} {fe : PEnv → R O}
end
end VL

namespace VL
open PySem PySem.Spec PyProof.Rows L2
section
variable {X : Cx} {W : WX} {e : Expr} {hp : OEnv → R (Nat × List Nat)}
end
section
variable {X : Cx} {W : WX} {es : List Expr} {pos : Pos} {k : Nat}
end
open Enc (e)
section
variable {α β γ τ : Type} [Enc α] [Enc β] {ρ : OEnv} {c f : Str} {ns : List Str} {ct : CT} {k : Nat}
end
section
variable {θ σ σ1 σ2 : Type} {ρ : OEnv}
end
end VL

namespace VL
open PySem PySem.Spec PyProof.Rows L2
open Enc (e)
def tisB (a b : Bool) : R Bool := .ok (decide (a = b))
def tisnB (a b : Bool) : R Bool := .ok (!decide (a = b))
@[simp] theorem tisB_ap (a b : Bool) : tisB a b = .ok (decide (a = b)) := rfl
@[simp] theorem tisnB_ap (a b : Bool) : tisnB a b = .ok (!decide (a = b)) := rfl
section
variable {X : Cx} {W : WX} {a b : Expr} {pos : Pos} {fa fb : PEnv → R PyData}
end
end VL

namespace VL
open PySem PySem.Spec PyProof.Rows L2
open Enc (e)
section
variable {X : Cx} {W : WX} {a b : Expr} {pos : Pos} {ho : OEnv → R (O × OEnv)} {hk : OEnv → R PyData}
end
end VL

namespace VL
open PySem PySem.Spec PyProof.Rows L2
section
variable {X : Cx} {W : WX} {a b c e oe : Expr} {rest : List Stmt} {pos pos1 : Pos} {hp : OEnv → R (Nat × List Nat)} {hj hd : OEnv → R PyData} {g : OEnv → SR}
theorem RS.un {K : PySem.W.Frag} {F0 H0 F H : Hp} {σ : L2.St} {ρ : OEnv} (r : RS K F0 H0 F H σ ρ) (i : Nat) (s : Option V) : RS K F0 H0 F H (σ.set i s) (ρ.set i none) := by
  obtain ⟨fps, s0, hs⟩ := r.ex
  obtain ⟨fpr, z1, z2⟩ := s0.drop i s
  exact ⟨fpr, z1, hs.sub z2⟩
end
open Enc (e)
section
variable {β l σ τ α γ ι : Type} {E : σ → OEnv → Prop} {L : l → OEnv → Prop} {er : O → OEnv → β → Prop} {Z : OEnv → Prop} {ρ : OEnv} {g h k g1 : OEnv → SR}
end
end VL

namespace VL
open PySem PySem.Spec PyProof.Rows L2
structure Ali (H : Hp) (σ : L2.St) (i iy n : Nat) : Prop where
  ex : ∃ aL vs v', σ[iy]? = some (some (.ref aL)) ∧ H aL = some (.lst vs) ∧ vs[n]? = some v' ∧ σ[i]? = some (some v')
theorem Ali.mono {H H' : Hp} {σ : L2.St} {i iy n : Nat} (a : Ali H σ i iy n) (e : Same H H') : Ali H' σ i iy n := by
  obtain ⟨aL, vs, v', h1, h2, h3, h4⟩ := a
  exact ⟨aL, vs, v', h1, e _ _ h2, h3, h4⟩
theorem Ali.set {H : Hp} {σ : L2.St} {i iy n k : Nat} {s : Option V} (a : Ali H σ i iy n) (h1 : k ≠ i) (h2 : k ≠ iy) : Ali H (σ.set k s) i iy n := by
  obtain ⟨aL, vs, v', g1, g2, g3, g4⟩ := a
  exact ⟨aL, vs, v', by rw [List.getElem?_set, if_neg h2]; exact g1, g2, g3, by rw [List.getElem?_set, if_neg h1]; exact g4⟩
def SPA (X : Cx) (W : WX) (F0 H0 : Hp) (D : Ends) (i iy n : Nat) : SR → Prop
  | .nx ρ => ∀ σ' H' F', RS X.K F0 H0 F' H' σ' ρ → Ali H' σ' i iy n → D.nx σ' H'
  | r => SPst X W F0 H0 D r
structure VA1 (X : Cx) (W : WX) (i iy : Nat) (st : Stmt) (g : Nat → OEnv → SR) : Prop where
  ex : ∃ t, PS X st t ∧ ∀ D σ H F0 H0 F ρ n, RS X.K F0 H0 F H σ ρ → Ali H σ i iy n → SPA X W F0 H0 D i iy n (g n ρ) → t D σ H
structure VAs (X : Cx) (W : WX) (i iy : Nat) (sts : List Stmt) (g : Nat → OEnv → SR) : Prop where
  ex : ∃ t, PSs X sts t ∧ ∀ D σ H F0 H0 F ρ n, RS X.K F0 H0 F H σ ρ → Ali H σ i iy n → SPA X W F0 H0 D i iy n (g n ρ) → t D σ H
section
variable {X : Cx} {W : WX} {a b c e oe ce : Expr} {st : Stmt} {sts rest : List Stmt} {pos pos1 : Pos} {hp : OEnv → R (Nat × List Nat)} {hx : OEnv → R PyData} {hn : OEnv → R O} {i iy : Nat} {g h : Nat → OEnv → SR} {gr : OEnv → SR}
end
end VL

namespace VL
open PySem PySem.Spec PyProof.Rows L2
section
variable {X : Cx}
end
def vcount : PyData → PyData → R PyData
  | .list ds, d => if SeqAt.shaped (.list ds) = true ∧ SeqAt.shaped d = true then .ok (.int ((ds.countP fun z => PyData.eqv z d : Nat) : Int)) else .stuck
  | _, _ => .stuck
def vcountF (fa fb : PEnv → R PyData) : PEnv → R PyData := fun ρ => (fa ρ).bind fun d => (isL d).bind fun d => (fb ρ).bind fun e => vcount d e
@[simp] theorem vcountF_ap (fa fb : PEnv → R PyData) (ρ : PEnv) : vcountF fa fb ρ = (fa ρ).bind fun d => (isL d).bind fun d => (fb ρ).bind fun e => vcount d e := rfl
section
variable {X : Cx} {W : WX} {a b : Expr} {fa fb : PEnv → R PyData} {k : Nat}
end
open Enc (e)
section
variable {α β γ : Type} [Enc α] [Enc β] {f g : PEnv → R PyData} {ρ : PEnv}
end
section
variable {β l σ τ α γ ι : Type} {E : σ → OEnv → Prop} {L : l → OEnv → Prop} {er : O → OEnv → β → Prop} {Z : OEnv → Prop} {ρ : OEnv} {g h k g1 : OEnv → SR}
end
end VL

namespace VL
open PySem PySem.Spec PyProof.Rows L2
section
variable {X : Cx} {W : WX} {a b c e oe ce : Expr} {pos : Pos} {hp : OEnv → R (Nat × List Nat)} {hn : OEnv → R O}
end
open Enc (e)
section
variable {β l σ τ α γ ι : Type} {E : σ → OEnv → Prop} {L : l → OEnv → Prop} {er : O → OEnv → β → Prop} {Z : OEnv → Prop} {ρ : OEnv} {g h k g1 : OEnv → SR}
end
end VL

namespace VL
open PySem PySem.Spec PyProof.Rows L2
structure PopT (X : Cx) (T : TE → TE) (f : List O → Option (PyData × List O)) : Prop where
  ex : ∃ body : V → L2.St → Hp → VK → Prop, (∀ to σ H Q, T to σ H Q = to σ H (fun x H1 => tyV X.K "list" x H1 ∧ body x σ H1 Q)) ∧
    ∀ os d os', f os = some (d, os') → ∃ (j : Nat) (tv : List V → V → List V) (to : List O → O → List O), Chg tv to ∧ to os (.fz .none) = os' ∧ os[j]? = some (.fz d) ∧
      ∀ (a : Addr) (vs : List V) (y : V) (σ : L2.St) (H : Hp) (Q : VK), H a = some (.lst vs) → vs.length = os.length → vs[j]? = some y → Q y (upd H a (.lst (tv vs .non))) → body (.ref a) σ H Q
section
variable {X : Cx} {W : WX} {oe be e ce : Expr} {pos : Pos} {hp hq : OEnv → R (Nat × List Nat)}
end
end VL

namespace VL
open PySem PySem.Spec PyProof.Rows L2
open Enc (e)
section
variable {α β γ ι κ l σ : Type} {ρ : OEnv} {E : σ → OEnv → Prop} {L : l → OEnv → Prop} {er : O → OEnv → β → Prop} {Z : OEnv → Prop} {k : OEnv → SR}
end
section
variable {α β γ δ : Type}
instance [Enc α] [Enc β] : Enc (α ⊕ β) where
  e := fun x => match x with
    | .inl a => e a
    | .inr b => e b
def tinl (β : Type) (a : α) : R (α ⊕ β) := .ok (.inl a)
def tinr (α : Type) (b : β) : R (α ⊕ β) := .ok (.inr b)
@[simp] theorem tinl_ap (a : α) : tinl β a = .ok (.inl a) := rfl
@[simp] theorem tinr_ap (b : β) : tinr α b = .ok (.inr b) := rfl
def gInr (x : γ × (δ ⊕ α)) : Option α := match x.2 with
  | .inr ys => some ys
  | .inl _ => none
@[simp] theorem gInr_inr (a : γ) (y : α) : gInr (a, (Sum.inr y : δ ⊕ α)) = some y := rfl
@[simp] theorem gInr_inl (a : γ) (y : δ) : gInr (a, (Sum.inl y : δ ⊕ α)) = none := rfl
end
end VL

namespace VL
open PySem PySem.Spec PyProof.Rows L2
open Enc (e)
section
variable {X : Cx} {W : WX} {a b : Expr} {pos : Pos} {k : Nat}
end
section
variable {X : Cx} {W : WX} {a : Expr} {p pos : Pos}
end
section
variable {α β : Type}
end
end VL
namespace VL
open PySem PySem.Spec PyProof.Rows L2
open Enc (e)
section
variable {α β : Type} {ρ : OEnv}
end
end VL
namespace VL
open PySem PySem.Spec PyProof.Rows L2
open Enc (e)
section
variable {α β γ l σ : Type} {ρ ρ2 : OEnv} {E : σ → OEnv → Prop} {L : l → OEnv → Prop} {er : O → OEnv → β → Prop} {Z : OEnv → Prop} {k : OEnv → SR}
end
end VL

namespace VL
open PySem PySem.Spec PyProof.Rows L2
open Enc (e)
section
variable {X : Cx} {W : WX} {a b : Expr} {pos : Pos} {hk : OEnv → R PyData} {hp : OEnv → R (Nat × List Nat)}
end
end VL

namespace VL
open PySem PySem.Spec PyProof.Rows L2
open Enc (e)
section
variable {κ β : Type} [Enc κ] [Enc β] [q : KeyE κ]
variable {ρ : OEnv}
end
end VL

namespace VL
open PySem PySem.Spec PyProof.Rows L2
abbrev es0 (w : World) : Obj := { cls := .type "set", dict := none, data := .set #[] 0 (.fresh 0 0 (!w.params.followText "set-order")) }
section
variable {P : Program} {w : World} {A : Around} {E : Value → Shared → Prop} {s : Shared}
theorem set_ints {l : Addr} {xs : Array Value} (ns : List Int) {Q : Value → Shared → Prop} (hh : A.handled = none) (hl : s.heap.IsList l xs) (hi : IntsAre xs.toList ns) (hb : ns.length + 1 < scanBound)
    (q : ∀ (g : Heap) (tk c : Nat), SetR w g s.heap.objs.size (fun j => decide (j ∈ ns)) c → (∀ b o, s.heap.get? b = some o → g.get? b = some o) → Q (.ref s.heap.objs.size) { s with heap := g, toks := tk }) :
    wpAny (model P w) A (call (.type "set") [.ref l]) Q E s := by
  have sz : xs.size = ns.length := by
    have := hi.length
    rwa [Array.length_toList] at this
  let D : Addr := s.heap.objs.size
  let h0 : Heap := s.heap.push (es0 w)
  have gD : h0.get? D = some (es0 w) := Heap.get?_push_size _ rfl
  obtain ⟨k, _, mro⟩ := F.called_set.mro
  have f1 := F.called_set.made
  have f2 := F.called_set.sub
  have f3 := F.called_set.notType
  have f4 := F.called_set.canCreate
  have f5 := F.typeCall_set_1 (.ref l)
  refine wpAny_call (codeAny_of_tree ?_)
  refine wpAny_pure ⟨Code.quiet_builtin _ (by decide +kernel), codeAny_builtin F.entry_type_call ?_⟩
  rw [Around.under_plain (weight_type_call_type "set" [.ref l] []) rfl]
  repeat (any_goals (first | assumption | wp_step))
  refine codeAny_mono (code_set_led1 (.ref l) (E := E) (Q₁ := fun o s1 => o = .ref D ∧ s1 = { s with heap := h0 }) ⟨rfl, rfl⟩) fun r s1 hr => ?_
  rcases r with ex | fl
  · exact hr
  cases fl with
  | ret _ =>
    obtain ⟨rfl, e1⟩ := hr
    subst e1
    have tD : Shared.TypeIs { s with heap := h0 } (.ref D) "set" := ⟨_, gD, rfl⟩
    have f6 := F.called_set.init.lookup
    have f7 := F.called_set.init.bind (.ref D)
    repeat (any_goals (first | assumption | wp_step))
    refine codeAny_mono (codeAny_call_builtin (R := wants (fun r s2 => r = .none ∧ ∃ g tk c, s2 = { s with heap := g, toks := tk } ∧ SetR w g D (fun j => decide (j ∈ ns)) c ∧ (∀ b o, s.heap.get? b = some o → g.get? b = some o)) E)
      F.called_set.init.plain F.entry_set_init (check_set_init_1 tD ?_)) fun r s2 hr => ?_
    · obtain ⟨⟨oc, od, oa, os⟩, ho, h1, n, h2⟩ := hl
      simp only at h1 h2
      subst h1; subst h2
      have gl : h0.get? l = some { cls := .type "list", dict := od, data := .seq xs n, slots := os } := Heap.get?_push_of_some _ ho
      have f8 := F.sub_list_set
      have f9 := F.sub_list_frozenset
      have f10 : (Value.type "list" == Value.type "dict") = false := by decide
      have il : h0.IsList l xs := ⟨_, gl, rfl, n, rfl⟩
      unfold Builtin.«set.__init__» noKeywords Builtin.Frozenset.updateFrom
      generalize hp : pyIter = pI
      wp_walk
      subst hp
      refine wpAny_pyIter_list il (wpAny_bind (wpAny_runValue ?_))
      have lD : l < D := Heap.lt_size ho
      have z0 : h0.objs.size = D + 1 := Heap.size_push ..
      have hh3 : A.in1.in1.in1.handled = none := by simp [hh]
      have ne : l ≠ h0.objs.size := by rw [z0]; exact Nat.ne_of_lt (Nat.lt_succ_of_lt lD)
      have nD : D ∉ [h0.objs.size, l] := by
        rw [z0]
        simp only [List.mem_cons, List.not_mem_nil, or_false, not_or]
        exact ⟨Nat.ne_of_lt (Nat.lt_succ_self _), Nat.ne_of_gt lD⟩
      refine set_update_ints ((Walks.list hh3 _ l ne xs).toS) D nD ns sz hb (fun i v hv => ?_) (xs.size - 0) 0 _ (by omega) (Nat.zero_le _) ⟨⟨_, Heap.get?_push_size _ rfl, rfl, rfl⟩, il.push _⟩ ⟨0, Nat.le_refl 0, setR_new_at (Heap.get?_push_of_some _ gD)⟩ fun s' c mv _ R => ?_
      · have lt : i < ns.length := by rw [← sz]; exact (Array.getElem?_eq_some_iff.mp hv).1
        obtain ⟨t, ht⟩ := PyProof.Rows.IntsAre.int_at hi i v (by rw [Array.getElem?_toList]; exact hv)
        exact ⟨ns[i], t, List.getElem?_eq_getElem lt, by rw [ht, List.getD_eq_getElem?_getD, List.getElem?_eq_getElem lt]; rfl⟩
      · obtain ⟨g, g2, d2, tk, o2⟩ := s'
        obtain rfl : g2 = s.gens := mv.gens
        obtain rfl : d2 = s.drawn := mv.drawn
        obtain rfl : o2 = s.os := mv.os
        refine wpAny_pure (wpAny_pure ⟨rfl, g, tk, c, rfl, R, fun b o hb => mv.heap b o ?_ (Heap.get?_push_of_some _ (Heap.get?_push_of_some _ hb))⟩)
        have lb : b < D := Heap.lt_size hb
        rw [z0]
        simp only [List.mem_cons, List.not_mem_nil, or_false, not_or]
        exact ⟨Nat.ne_of_lt lb, Nat.ne_of_lt (Nat.lt_succ_of_lt lb)⟩
    · rcases r with ex | fl
      · exact hr
      cases fl with
      | ret _ =>
        obtain ⟨rfl, g, tk, c, rfl, R, kp⟩ := hr
        repeat (any_goals (first | assumption | wp_step))
        exact q _ _ _ R kp
      | _ => exact hr.elim
  | _ => exact hr.elim
end
end VL

namespace VL
open PySem PySem.Spec PyProof.Rows L2
def uqI : List Int → List Int
  | [] => []
  | a :: as => if a ∈ uqI as then uqI as else a :: uqI as
theorem uqI_mem {k : Int} : ∀ {ns : List Int}, k ∈ uqI ns ↔ k ∈ ns
  | [] => Iff.rfl
  | a :: as => by
    unfold uqI
    have ih := uqI_mem (k := k) (ns := as)
    split
    · rename_i h
      rw [ih, List.mem_cons]
      exact ⟨.inr, fun z => z.elim (fun z => by rw [z]; exact uqI_mem.mp h) id⟩
    · rw [List.mem_cons, List.mem_cons, ih]
theorem uqI_nodup : ∀ ns : List Int, (uqI ns).Nodup
  | [] => List.nodup_nil
  | a :: as => by
    unfold uqI
    split
    · exact uqI_nodup as
    · rename_i h; exact List.nodup_cons.mpr ⟨h, uqI_nodup as⟩
theorem uqI_len : ∀ ns : List Int, (uqI ns).length ≤ ns.length
  | [] => Nat.le_refl _
  | a :: as => by
    unfold uqI
    have := uqI_len as
    split <;> simp <;> omega
theorem setR_keys {w : World} {h : Heap} {a : Addr} {ns : List Int} {n : Nat} (R : SetR w h a (fun j => decide (j ∈ ns)) n) : n = (uqI ns).length := by
  obtain ⟨o, es, ep, t, _, _, _, _, nd, hm, _, _, hn, _, _⟩ := R
  have p : (es.toList.map keyOf).Perm (uqI ns) := (List.perm_ext_iff_of_nodup nd (uqI_nodup ns)).mpr fun k => by
    rw [← hm k, uqI_mem]; simp
  have := p.length_eq
  rw [List.length_map, Array.length_toList, hn] at this
  exact this
def sO (w : World) (p : Addr) (ns : List Int) : HO := SetO w p (fun j => decide (j ∈ ns)) (uqI ns).length
section
variable {X : Cx}
def rSetL (X : Cx) : List V → Hp → VK → Prop := fun vs H Q => ∃ (a : Addr) (ns : List Int), vs = [V.ref a] ∧ SqL X.K H a (ns.map V.int) ∧ ns.length + 1 < scanBound ∧ ∀ p, H p = none → Q (.ref p) (upd H p (sO X.w p ns))
theorem cr_setL (hc : X.calm = true) : CallR X (.type "set") (rSetL X) := by
  intro pins s σ H vs us Q I r h
  obtain ⟨a, ns, rfl, hs, hb, q⟩ := h
  obtain ⟨its, rv, hl, _⟩ := I.list hs
  rw [Vals.ref1 r]
  refine set_ints ns (I.ok.hd hc) hl.isList rv.ints hb fun g tk c R kp => ?_
  have e := setR_keys R
  subst e
  exact ⟨.ref _, upd H s.heap.objs.size (sO X.w s.heap.objs.size ns), I.laid kp (Nat.le_refl _) (setO_new R), rfl, q _ (I.hok.fresh (Nat.le_refl _))⟩
def rLenS (w : World) : List V → Hp → VK → Prop := fun vs H Q => ∃ (p : Addr) (ns : List Int), vs = [V.ref p] ∧ H p = some (sO w p ns) ∧ Q (.int (uqI ns).length) H
theorem cr_lenS : CallR X (.builtin "len") (rLenS X.w) := by
  intro pins s σ H vs us Q I r h
  obtain ⟨p, ns, rfl, hp, q⟩ := h
  rw [Vals.ref1 r]
  obtain ⟨o, es, ep, t, ho, hex, hd, _, _, _, hb, hf, hn, _, _⟩ := setO_get I hp
  refine call_len_set ho hex hd hf ?_ ⟨.int (uqI ns).length, H, I.tok _, ⟨s.toks + 1, by rw [hn]⟩, q⟩
  unfold scanBound at hb
  omega
def rSrtS (w : World) : List V → Hp → VK → Prop := fun vs H Q => ∃ (a : Addr) (ns : List Int), vs = [V.ref a] ∧ H a = some (sO w a ns) ∧ ∀ p, H p = none → Q (.ref p) (upd H p (.lst ((srtI (uqI ns)).map V.int)))
theorem cr_srtS (hc : X.calm = true) : CallR X (.builtin "sorted") (rSrtS X.w) := by
  intro pins s σ H vs us Q I r h
  obtain ⟨a, ns, rfl, ha, q⟩ := h
  have R := setO_get I ha
  rw [Vals.ref1 r]
  obtain ⟨o, es, ep, t, ho, hex, hd, g, nd, hm, hb, hf, hn, hr, hl⟩ := R
  refine Calls.call_function_entry kind_sorted plain_sorted entry_sorted (args_sorted1 _) ?_
  unfold Builtin.«sorted»
  refine wpAny_bind (m := checkCount "sorted" 1 1 _) (wpAny_pure (wpAny_bind (collect_set (A := X.A.in1) (I.ok.hd hc) ⟨o, ho, hex.1, hd⟩ hf hb hr hl fun s1 us k1 hz g1 o1 pm => ?_)))
  have ul : us.length = (uqI ns).length := by rw [pm.length_eq, List.length_map, Array.length_toList]; exact hn
  have uB : us.length < scanBound := by rw [pm.length_eq, List.length_map, Array.length_toList]; exact hb
  have hI : IntsAre us (us.map Builtin.Re.reRawOf) := ints_of us fun v hv => by
    obtain ⟨x, hx, e⟩ := List.mem_map.mp (pm.mem_iff.mp hv)
    obtain ⟨k, tk, e1, _⟩ := g x hx
    exact ⟨k, tk, by rw [← e]; exact e1⟩
  have pk : (us.map Builtin.Re.reRawOf).Perm (es.toList.map keyOf) := by
    have := pm.map Builtin.Re.reRawOf
    rwa [List.map_map] at this
  have pu : (es.toList.map keyOf).Perm (uqI ns) := (List.perm_ext_iff_of_nodup nd (uqI_nodup ns)).mpr fun k => by
    rw [← hm k, uqI_mem]; simp
  have uz : us.length ≤ sizeLine := by unfold scanBound at uB; rw [sizeLine_eq]; omega
  refine wpAny_bind (wpAny_newList ?_ uz)
  have oL : (s1.heap.push (seqObj "list" us.toArray 0)).get? s1.heap.objs.size = some (seqObj "list" us.toArray 0) := Heap.get?_push_size _ rfl
  refine wpAny_bind (wpAny_holding (wpAny_call_entry slot_list_sort ⟨_, oL, rfl⟩ entry_list_sort (list_sort_treeAny oL hI uz fun out ms a1 a2 a3 => ⟨_, rfl, ?_⟩) (args_list_sort _)))
  obtain ⟨c, hcp⟩ := sortedHeap_at (vs := us) (out := out) oL
  have em : ms = srtI (uqI ns) := srtI_eq (a2.trans (pk.trans pu)) a3
  have kp : ∀ b u, s.heap.get? b = some u → (sortedHeap (s1.heap.push (seqObj "list" us.toArray 0)) s1.heap.objs.size us out).get? b = some u := fun b u e => by
    have e1 := k1 b u e
    have lt := Heap.lt_size e1
    rw [sortedHeap_old (Nat.ne_of_lt lt) (by rw [size_push']; exact Nat.lt_succ_of_lt lt)]
    exact Heap.get?_push_of_some _ e1
  have nH : H s1.heap.objs.size = none := I.hok.fresh hz
  have hlen : ((srtI (uqI ns)).map V.int).length ≤ sizeLine := by
    rw [List.length_map, ← em, (a2.trans (pk.trans pu)).length_eq, ← ul]; exact uz
  rw [em] at a1
  let s2 : Shared := { s1 with heap := sortedHeap (s1.heap.push (seqObj "list" us.toArray 0)) s1.heap.objs.size us out }
  have J : Inv X pins σ (upd H s1.heap.objs.size (.lst ((srtI (uqI ns)).map V.int))) { s with heap := s2.heap, gens := s2.gens, drawn := s2.drawn, toks := s2.toks } :=
    I.call (ch := []) (Un.laid kp hz nH) (I.hok.laid kp hz ⟨hlen, out.toList, c, vals_of_ints a1, hcp⟩) (by show AllBare s1.gens; rw [g1]; exact I.bare) (fun _ z => nomatch z)
  have e2 : s2 = { s with heap := s2.heap, gens := s2.gens, drawn := s2.drawn, toks := s2.toks } := by
    show s2 = { heap := s2.heap, gens := s2.gens, drawn := s2.drawn, toks := s2.toks, os := s.os }
    rw [← o1]
  refine wpAny_pure ⟨_, rfl, ?_⟩
  show ∃ x H', Inv X pins σ H' s2 ∧ _
  rw [e2]
  exact ⟨.ref s1.heap.objs.size, _, J, rfl, q _ nH⟩
end
def KSt (X : Cx) (B H : Hp) (Q : VK) (ns : List Int) : Prop := ∀ p H' B', Ext B H B' H' → H' p = some (sO X.w p ns) → H p = none → B' p = none → Q (.ref p) H'
structure VSt (X : Cx) (W : WX) (e : Expr) (f : PEnv → R (List Int)) : Prop where
  ex : ∃ t, PE X e t ∧ ∀ σ H B ρ Q, Same B H → RF X.K B σ ρ → Pst X W σ H (KSt X B H Q) (f ρ) → t σ H Q
def setL : PyData → R (List Int)
  | .list ds => match intsOf ds with
    | some ns => if ns.length < 4000 then .ok ns else .stuck
    | none => .stuck
  | _ => .stuck
def stL (f : PEnv → R PyData) : PEnv → R (List Int) := fun ρ => (f ρ).bind setL
def fsrtS (f : PEnv → R (List Int)) : PEnv → R (List PyData) := fun ρ => (f ρ).bind fun ns => .ok ((srtI (uqI ns)).map .int)
def vlenS (f : PEnv → R (List Int)) : PEnv → R PyData := fun ρ => (f ρ).bind fun ns => .ok (.int (uqI ns).length)
section
variable {X : Cx} {W : WX} {a : Expr} {fa : PEnv → R PyData} {f : PEnv → R (List Int)} {p pos : Pos}
theorem vst_list (hc : X.calm = true) (hm : X.mg "set" = none) (ha : VE X W a fa) (hg : Gl X "set" := by rfl) (he : starEach [a] X.env = (false, eval a X.env) :: starEach [] X.env := by rfl) (hpl : (backTo pos (starEach [] X.env)).any (·.1) = false := by rfl) :
    VSt X W (.Call (.Name "set" p) [a] [] pos) (stL fa) := by
  obtain ⟨ta, pa, qa⟩ := ha.ex
  refine ⟨_, pe_callTy (cr_setL hc) hg hm (by decide +kernel) (pa_cons pa pa_nil he) (by decide) (by decide) he hpl, fun σ H B ρ Q s rf pr => ?_⟩
  refine one qa s rf pr fun d x H' B' ex sm dx pg => ?_
  cases dx <;> first | exact pg.elim | skip
  rename_i h3 h4
  simp only [setL] at pg
  split at pg
  · rename_i ns hi
    split at pg
    · rename_i hz
      rw [intsOf_some hi] at h4
      have e := is_ints h4
      subst e
      exact ⟨_, ns, rfl, .inl (Rd.mono ex.bh h3), by unfold scanBound; omega, fun q hq => pg q _ B' (ex.trans (Ext.own ex.bh hq)) upd_same (Same.free ex.hh hq) (Same.free ex.bh hq)⟩
    · exact pg.elim
  · exact pg.elim
theorem vst_sorted (hc : X.calm = true) (hm : X.mg "sorted" = none) (ha : VSt X W a f) (hg : Gl X "sorted" := by rfl) (he : starEach [a] X.env = (false, eval a X.env) :: starEach [] X.env := by rfl) (hpl : (backTo pos (starEach [] X.env)).any (·.1) = false := by rfl) :
    VFr X W (.Call (.Name "sorted" p) [a] [] pos) (fsrtS f) := by
  obtain ⟨ta, pa, qa⟩ := ha.ex
  refine ⟨_, pe_callB (cr_srtS hc) hg hm (by decide +kernel) (pa_cons pa pa_nil he) (by decide) (by decide) he hpl, fun σ H B ρ Q s rf pr => ?_⟩
  unfold fsrtS at pr
  refine qa σ H B ρ _ s rf ?_
  generalize f ρ = r at pr ⊢
  cases r with
  | stuck => exact pr
  | err c => exact pr
  | ok ns => exact fun ad H1 B1 ex hh hn bn => ⟨ad, ns, rfl, hh, fun q hq => pr q _ _ B1 (ex.trans (Ext.own ex.bh hq)) upd_same (Same.free ex.hh hq) (Same.free ex.bh hq) (ints_is _)⟩
theorem vst_len (hm : X.mg "len" = none) (ha : VSt X W a f) (hg : Gl X "len" := by rfl) (he : starEach [a] X.env = (false, eval a X.env) :: starEach [] X.env := by rfl) (hpl : (backTo pos (starEach [] X.env)).any (·.1) = false := by rfl) :
    VE X W (.Call (.Name "len" p) [a] [] pos) (vlenS f) := by
  obtain ⟨ta, pa, qa⟩ := ha.ex
  refine VE.mk' (pe_callB cr_lenS hg hm (by decide +kernel) (pa_cons pa pa_nil he) (by decide) (by decide) he hpl) fun σ H B ρ Q s rf pr => ?_
  unfold vlenS at pr
  refine qa σ H B ρ _ s rf ?_
  generalize f ρ = r at pr ⊢
  cases r with
  | stuck => exact pr
  | err c => exact pr
  | ok ns => exact fun ad H1 B1 ex hh hn bn => ⟨ad, ns, rfl, hh, pr _ H1 B1 ex (.int _)⟩
end
end VL

namespace VL
open PySem PySem.Spec PyProof.Rows L2
open Enc (e)
def tstL (xs : List Int) : R (List Int) := if xs.length < 4000 then .ok xs else .stuck
def tsrtS (xs : List Int) : R (List Int) := .ok (srtI (uqI xs))
def tlenSt (xs : List Int) : R Int := .ok ((uqI xs).length : Int)
section
variable {ρ : PEnv} {fa : PEnv → R PyData} {f : PEnv → R (List Int)} {s : R (List Int)}
theorem p_stL (h : TEq (fa ρ) s) : TQ id (stL fa ρ) (b1 tstL s) := by
  unfold stL
  refine h.bind fun xs => ?_
  have e1 : setL (.list (xs.map PyData.int)) = if xs.length < 4000 then R.ok xs else .stuck := by
    unfold setL
    have := intsOf_map xs
    simp only [this]
  show TQ id (setL (.list (xs.map PyData.int))) _
  rw [e1]
  unfold tstL
  split
  · exact rfl
  · trivial
theorem l_srtS (h : TQ id (f ρ) s) : TL (fsrtS f ρ) (b1 tsrtS s) := by
  unfold fsrtS
  exact h.bind fun xs => rfl
theorem t_lenSt (h : TQ id (f ρ) s) : TEq (vlenS f ρ) (b1 tlenSt s) := by
  unfold vlenS
  exact h.bind fun xs => rfl
end
end VL

namespace VL
open PySem PySem.Spec PyProof.Rows L2
open Enc (e)
def sAugG (op : PyData → PyData → R PyData) (i : Nat) (h : OEnv → R PyData) : OEnv → SR := fun ρ => match ρ[i]? with
  | some (some (.fz (.int a))) => (h ρ).sr ρ fun d => match op (.int a) d with
    | .ok z => .nx (ρ.set i (some (.fz z)))
    | _ => .stuck
  | _ => .stuck
section
variable {X : Cx} {W : WX} {e : Expr} {hx : OEnv → R PyData} {pos : Pos}
def ipK (C : Int → Int → Prop) (f : Int → Int → Int) : TIp := fun x y H Q => ∃ i j, x = .int i ∧ y = .int j ∧ C i j ∧ Q (.int (f i j)) H
theorem ip_mulK : PIp X .Mult (ipK IntMulOk fun i j => i * j) := by
  intro pins s σ H x y v u Q I r1 r2 h
  obtain ⟨i, j, rfl, rfl, hc, q⟩ := h
  obtain ⟨t, rfl⟩ := r1
  obtain ⟨t', rfl⟩ := r2
  exact imul_int ⟨.int _, H, I.tok _, ⟨_, rfl⟩, q⟩ hc
theorem ip_fdivK : PIp X .FloorDiv (ipK CDivW fun i j => i / j) := by
  intro pins s σ H x y v u Q I r1 r2 h
  obtain ⟨i, j, rfl, rfl, hc, q⟩ := h
  exact iop_fdivW pins s σ H _ _ v u Q I r1 r2 ⟨i, j, rfl, rfl, hc, q⟩
theorem vs_augG {op : PyData → PyData → R PyData} {o : Operator} {C : Int → Int → Prop} {f : Int → Int → Int} (hop : PIp X o (ipK C f)) (ho : ∀ a d z, op (.int a) d = .ok z → ∃ b, d = .int b ∧ C a b ∧ z = .int (f a b)) (i : Nat) {x : Str} {p1 : Pos} (hN : X.N.Nodup) (he : VX X W e hx) (hi : X.N[i]? = some x := by rfl) (hxl : Loc X.env.scope x := by first | exact Or.inl rfl | exact Or.inr rfl) (hf : X.fn x = true ∨ X.env.scope.names.lookup x = some .local := by first | exact .inl rfl | exact .inr rfl | assumption) :
    VS X W (.AugAssign (.Name x p1) o e pos) (sAugG op i hx) := by
  obtain ⟨t, p, q⟩ := he.ex
  refine ⟨_, ps_aug hN hi hxl p hop hf, fun D σ H F0 H0 F ρ r pr => ?_⟩
  unfold sAugG at pr
  split at pr
  · rename_i n en
    obtain ⟨fps, sl, hss⟩ := r.ex
    obtain ⟨v, fp, fpr, e1, e2, e3, e4, e5⟩ := sl.split en
    cases e2 with
    | fz hv =>
      cases hv
      refine ⟨_, e1, ?_⟩
      refine q σ H F0 H0 F ρ _ r (sr_pst r pr fun d pd y H' F' ex dy => ?_)
      cases hz : op (.int n) d with
      | stuck => rw [hz] at pd; exact pd.elim
      | err c => rw [hz] at pd; exact pd.elim
      | ok z =>
        rw [hz] at pd
        obtain ⟨b, rfl, hc, rfl⟩ := ho n d z hz
        cases dy
        exact ⟨n, b, rfl, rfl, hc, pd _ H' F' (((r.ext ex).consFz (.int (f n b))).put i)⟩
  · exact pr.elim
theorem au_mul : ∀ a d z, vmul (.int a) d = .ok z → ∃ b, d = .int b ∧ IntMulOk a b ∧ z = .int (a * b) := fun a d z h => by
  cases d <;> first | (cases h; done) | skip
  rename_i b
  simp only [vmul] at h
  split at h
  · rename_i hm; cases h; exact ⟨b, rfl, hm, rfl⟩
  · cases h
theorem au_fdiv : ∀ a d z, vfdiv (.int a) d = .ok z → ∃ b, d = .int b ∧ CDivW a b ∧ z = .int (a / b) := fun a d z h => by
  cases d <;> first | (cases h; done) | skip
  rename_i b
  simp only [vfdiv] at h
  split at h
  · rename_i hm; cases h; exact ⟨b, rfl, log2_250 hm.1 hm.2, rfl⟩
  · cases h
end
section
variable {β l σ : Type} {ρ : OEnv} {E : σ → OEnv → Prop} {L : l → OEnv → Prop} {er : O → OEnv → β → Prop} {Z : OEnv → Prop} {k : OEnv → SR}
theorem q_augG {op : PyData → PyData → R PyData} {g : Int → Int → R Int} (hg : ∀ a b, TEq (op (.int a) (.int b)) (g a b)) (hn : ∀ a b c, g a b ≠ .err c) {h : OEnv → R PyData} {t : R Int} {ll : Int → TR β l σ} (i : Nat) (a : Int) (hs : TEq (h ρ) t) (z : Z ρ) (hr : ∀ b, SQ E L er Z (k (ρ.set i (some (oF b)))) (ll b)) (hi : ρ[i]? = some (some (oF a)) := by rfl) :
    SQ E L er Z (seq (sAugG op i h) k ρ) ((b1 (g a) t).tr ll) := by
  show SQ E L er Z (SR.seq (sAugG op i h ρ) k) _
  unfold sAugG
  rw [hi]
  show SQ E L er Z (SR.seq (R.sr _ _ _) k) _
  rw [seq_sr, b1_ap, R.tr_bind]
  refine SQ.sr hs z fun b => ?_
  show SQ E L er Z (SR.seq (match op (.int a) (.int b) with | .ok z => .nx (ρ.set i (some (.fz z))) | _ => .stuck) k) _
  have q := hg a b
  cases hx : g a b with
  | stuck => exact trivial
  | err c => exact absurd hx (hn a b c)
  | ok c =>
    rw [hx] at q
    have q : op (.int a) (.int b) = .ok (.int c) := q
    rw [q]
    exact hr c
theorem gmul (a b : Int) : TEq (vmul (.int a) (.int b)) (tmulI a b) := by
  unfold tmulI
  show TEq (if IntMulOk a b then _ else _) _
  split
  · exact rfl
  · trivial
theorem gmul_ne (a b : Int) (c : Str) : tmulI a b ≠ .err c := by unfold tmulI; split <;> exact fun h => nomatch h
end
end VL
namespace VL
open PySem PySem.Spec PyProof.Rows L2
theorem gfdiv (a b : Int) : TEq (vfdiv (.int a) (.int b)) (tfdivI a b) := o_fdivI a b
theorem gfdiv_ne (a b : Int) (c : Str) : tfdivI a b ≠ .err c := by unfold tfdivI; split <;> exact fun h => nomatch h
end VL

namespace LW
open PySem PySem.Spec PyProof.Rows L2 VL
def topS (i : Nat) : Stmt := PySem.Challenge.pw_trackswhole_k68_whole_passes_that_are_en.main.body.getD i (.Pass ⟨0, 0, 0, 0⟩)
instance lit_0 : Bd (0 : Int) 4 := ⟨.lit⟩
instance lit_1 : Bd (1 : Int) 4 := ⟨.lit⟩
instance mod_1 (a : Int) : Bd (a % 1) 4 := bd_modl (by decide) (by decide)
instance lit_2 : Bd (2 : Int) 4 := ⟨.lit⟩
instance mod_2 (a : Int) : Bd (a % 2) 4 := bd_modl (by decide) (by decide)
instance lit_3 : Bd (3 : Int) 4 := ⟨.lit⟩
instance mod_3 (a : Int) : Bd (a % 3) 4 := bd_modl (by decide) (by decide)
instance lit_4 : Bd (4 : Int) 4 := ⟨.lit⟩
instance mod_4 (a : Int) : Bd (a % 4) 4 := bd_modl (by decide) (by decide)
instance lit_5 : Bd (5 : Int) 4 := ⟨.lit⟩
instance mod_5 (a : Int) : Bd (a % 5) 4 := bd_modl (by decide) (by decide)
instance lit_6 : Bd (6 : Int) 4 := ⟨.lit⟩
instance mod_6 (a : Int) : Bd (a % 6) 4 := bd_modl (by decide) (by decide)
instance lit_7 : Bd (7 : Int) 4 := ⟨.lit⟩
instance mod_7 (a : Int) : Bd (a % 7) 4 := bd_modl (by decide) (by decide)
instance lit_9 : Bd (9 : Int) 5 := ⟨.lit⟩
instance mod_9 (a : Int) : Bd (a % 9) 5 := bd_modl (by decide) (by decide)
instance lit_10 : Bd (10 : Int) 5 := ⟨.lit⟩
instance mod_10 (a : Int) : Bd (a % 10) 5 := bd_modl (by decide) (by decide)
instance lit_11 : Bd (11 : Int) 5 := ⟨.lit⟩
instance mod_11 (a : Int) : Bd (a % 11) 5 := bd_modl (by decide) (by decide)
instance lit_13 : Bd (13 : Int) 5 := ⟨.lit⟩
instance mod_13 (a : Int) : Bd (a % 13) 5 := bd_modl (by decide) (by decide)
instance lit_16 : Bd (16 : Int) 6 := ⟨.lit⟩
instance mod_16 (a : Int) : Bd (a % 16) 6 := bd_modl (by decide) (by decide)
instance lit_18 : Bd (18 : Int) 6 := ⟨.lit⟩
instance mod_18 (a : Int) : Bd (a % 18) 6 := bd_modl (by decide) (by decide)
instance lit_20 : Bd (20 : Int) 6 := ⟨.lit⟩
instance mod_20 (a : Int) : Bd (a % 20) 6 := bd_modl (by decide) (by decide)
instance lit_30 : Bd (30 : Int) 6 := ⟨.lit⟩
instance mod_30 (a : Int) : Bd (a % 30) 6 := bd_modl (by decide) (by decide)
instance lit_31 : Bd (31 : Int) 6 := ⟨.lit⟩
instance mod_31 (a : Int) : Bd (a % 31) 6 := bd_modl (by decide) (by decide)
instance lit_32 : Bd (32 : Int) 7 := ⟨.lit⟩
instance mod_32 (a : Int) : Bd (a % 32) 7 := bd_modl (by decide) (by decide)
instance lit_101 : Bd (101 : Int) 8 := ⟨.lit⟩
instance mod_101 (a : Int) : Bd (a % 101) 8 := bd_modl (by decide) (by decide)
instance lit_16807 : Bd (16807 : Int) 16 := ⟨.lit⟩
instance mod_16807 (a : Int) : Bd (a % 16807) 16 := bd_modl (by decide) (by decide)
instance lit_20160 : Bd (20160 : Int) 16 := ⟨.lit⟩
instance mod_20160 (a : Int) : Bd (a % 20160) 16 := bd_modl (by decide) (by decide)
instance lit_40692 : Bd (40692 : Int) 17 := ⟨.lit⟩
instance mod_40692 (a : Int) : Bd (a % 40692) 17 := bd_modl (by decide) (by decide)
instance lit_48271 : Bd (48271 : Int) 17 := ⟨.lit⟩
instance mod_48271 (a : Int) : Bd (a % 48271) 17 := bd_modl (by decide) (by decide)
instance lit_69621 : Bd (69621 : Int) 18 := ⟨.lit⟩
instance mod_69621 (a : Int) : Bd (a % 69621) 18 := bd_modl (by decide) (by decide)
instance lit_2147483399 : Bd (2147483399 : Int) 32 := ⟨.lit⟩
instance mod_2147483399 (a : Int) : Bd (a % 2147483399) 32 := bd_modl (by decide) (by decide)
instance lit_2147483647 : Bd (2147483647 : Int) 32 := ⟨.lit⟩
instance mod_2147483647 (a : Int) : Bd (a % 2147483647) 32 := bd_modl (by decide) (by decide)
@[simp] theorem sok_0 : PyData.strOk "heads" = true := by decide +kernel
@[simp] theorem sok_1 : PyData.strOk "runs" = true := by decide +kernel
@[simp] theorem sok_2 : PyData.strOk "track" = true := by decide +kernel
@[simp] theorem sok_3 : PyData.strOk "tracks" = true := by decide +kernel
@[simp] theorem sne_0_1 : (("heads" : Str) = "runs") = False := eq_false (by decide)
@[simp] theorem sne_0_3 : (("heads" : Str) = "tracks") = False := eq_false (by decide)
@[simp] theorem sne_1_0 : (("runs" : Str) = "heads") = False := eq_false (by decide)
@[simp] theorem sne_1_2 : (("runs" : Str) = "track") = False := eq_false (by decide)
@[simp] theorem sne_1_3 : (("runs" : Str) = "tracks") = False := eq_false (by decide)
@[simp] theorem sne_2_1 : (("track" : Str) = "runs") = False := eq_false (by decide)
@[simp] theorem sne_2_3 : (("track" : Str) = "tracks") = False := eq_false (by decide)
@[simp] theorem sne_3_0 : (("tracks" : Str) = "heads") = False := eq_false (by decide)
@[simp] theorem sne_3_1 : (("tracks" : Str) = "runs") = False := eq_false (by decide)
@[simp] theorem sne_3_2 : (("tracks" : Str) = "track") = False := eq_false (by decide)
abbrev csK : List (List L2.Key) := [[], [.inr "arriving", .inr "departing"], [.inr "k", .inr "passes"], [.inr "number", .inr "k", .inr "place"], [.inr "train", .inr "tracks"], [.inr "arriving", .inr "departing", .inr "k", .inr "passes"], [.inr "train", .inr "tracks", .inr "k"], [.inr "arriving", .inr "departing", .inr "k", .inr "passes", .inr "lists"], [.inr "arriving", .inr "departing", .inr "k", .inr "passes", .inr "wagons"], [.inr "arriving", .inr "departing", .inr "k", .inr "passes", .inr "verdict"], [.inr "script", .inr "k"], [.inr "cell", .inr "count", .inr "limit"], [.inr "cell", .inr "count"], [.inr "things", .inr "cell"], [.inr "arriving", .inr "cell", .inr "picks"], [.inr "count", .inr "k", .inr "passes"], [.inr "told", .inr "due"], [.inr "lists", .inr "k", .inr "passes", .inr "count", .inr "picks"], [.inr "heads", .inr "arriving", .inr "picks"], [.inr "count"], [.inr "paper"], [.inr "script"], [.inr "arriving", .inr "departing", .inr "found", .inr "k"], [.inr "arriving", .inr "departing", .inr "heads", .inr "found", .inr "number", .inr "wagon"], [.inr "k", .inr "passes", .inr "found", .inr "_"], [.inr "number", .inr "k", .inr "place", .inr "_"], [.inr "train", .inr "tracks", .inr "found", .inr "track", .inr "wagon", .inr "own"], [.inr "arriving", .inr "departing", .inr "k", .inr "passes", .inr "heads", .inr "numbers", .inr "train", .inr "found", .inr "place", .inr "wagon", .inr "tracks"], [.inr "train", .inr "tracks", .inr "k", .inr "track"], [.inr "arriving", .inr "departing", .inr "k", .inr "passes", .inr "lists", .inr "train", .inr "tracks"], [.inr "arriving", .inr "departing", .inr "k", .inr "passes", .inr "wagons", .inr "heads", .inr "wagon"], [.inr "arriving", .inr "departing", .inr "k", .inr "passes", .inr "verdict", .inr "word", .inr "paper"], [.inr "cell", .inr "count", .inr "limit", .inr "found", .inr "k", .inr "mixed"], [.inr "cell", .inr "count", .inr "draws", .inr "rest", .inr "found", .inr "k", .inr "wagon"], [.inr "things", .inr "cell", .inr "draws", .inr "rest", .inr "found", .inr "k"], [.inr "arriving", .inr "departing", .inr "wagon", .inr "places", .inr "k"], [.inr "train", .inr "tracks", .inr "k", .inr "pairs", .inr "track", .inr "place"], [.inr "arriving", .inr "cell", .inr "picks", .inr "count", .inr "k", .inr "draws", .inr "many", .inr "found", .inr "track"], [.inr "count", .inr "k", .inr "passes", .inr "power_v", .inr "turn"], [.inr "arriving", .inr "departing", .inr "k", .inr "passes", .inr "heads", .inr "numbers", .inr "number", .inr "wagon", .inr "train", .inr "found", .inr "turn"], [.inr "told", .inr "due", .inr "k"], [.inr "arriving", .inr "departing", .inr "k", .inr "passes", .inr "verdict", .inr "word", .inr "paper", .inr "heads", .inr "j", .inr "train", .inr "tracks", .inr "track"], [.inr "lists", .inr "k", .inr "passes", .inr "count", .inr "picks", .inr "j", .inr "row", .inr "found", .inr "turn", .inr "others", .inr "at", .inr "track", .inr "other", .inr "rows"], [.inr "heads", .inr "arriving", .inr "picks", .inr "j", .inr "found", .inr "at", .inr "rows"], [.inr "count", .inr "found", .inr "turn", .inr "later", .inr "row"], [.inr "paper", .inr "word", .inr "rows", .inr "row"], [.inr "script", .inr "shape", .inr "count", .inr "arriving", .inr "departing", .inr "passed", .inr "heads", .inr "picks", .inr "k", .inr "passes", .inr "verdict", .inr "lists", .inr "papers", .inr "words", .inr "paper", .inr "given", .inr "due", .inr "answer", .inr "row", .inr "accepted"]]
noncomputable section
abbrev s_run_heads : Stmt := topS 1
abbrev N_run_heads : List Str := ["arriving", "departing", "found", "k"]
def b_run_heads_1 : OEnv → SR := (sIf (tB (tst (v2 vgt (vindexF (vVar 0) (v2 vix (vVar 1) (v2 vsub (vVar 3) (vC (.int 1))))) (vindexF (vVar 0) (v2 vix (vVar 1) (vVar 3))))))
    (seq (sApp 2 (oX (exF (v2 vix (vVar 1) (vVar 3)))))
    (pre (kill [3]) sNx))
    (pre (kill [3]) sNx))
def g_run_heads : OEnv → SR := (seq (sSet 2 (oFrF aNil))
    (seq (sFor (x2 vrange2 (exF (vC (.int 1))) (exF (vapp vlen (aCons (vVar 1) aNil)))) (gN 3) (kill [3]) (b_run_heads_1))
    (pre (kill [0, 1]) (pre (freeze [2]) (sRet (oX (exF (vVar 2))))))))
def m_run_heads : List PyData → R PyData := frz (runB 4 g_run_heads)
theorem r_run_heads (a0 a1 : PyData) : m_run_heads [a0, a1] = fin (g_run_heads [some (.fz a0), some (.fz a1), none, none]) := frz_fin _ _ _
abbrev s_run_numbers : Stmt := topS 2
abbrev N_run_numbers : List Str := ["arriving", "departing", "heads", "found", "number", "wagon"]
def b_run_numbers_1 : OEnv → SR := (seq (sIf (tB (tst (v2 vInX (vVar 5) (vVar 2))))
    (seq (sAug (fun i j => i + j) 4 (exF (vC (.int 1))))
    (pre (kill [1]) sNx))
    (pre (kill [1]) sNx))
    (sSetX csK (pVar 3) (exF (vVar 5)) (oX (exF (vVar 4)))))
def g_run_numbers : OEnv → SR := (seq (sSet 2 (oX (exF (vapp m_run_heads (aCons (vVar 0) (aCons (vVar 1) aNil))))))
    (seq (sSet 3 (oDctL 10 false))
    (seq (sSet 4 (oX (exF (vC (.int 0)))))
    (pre (kill [0]) (seq (sForK (ixF (isq (vVar 1))) (kill [1]) (gN 5) (kill [5]) (b_run_numbers_1))
    (pre (kill [2, 4, 5]) (pre (freeze [3]) (sRet (oX (exF (vVar 3)))))))))))
def m_run_numbers : List PyData → R PyData := frz (runB 6 g_run_numbers)
theorem r_run_numbers (a0 a1 : PyData) : m_run_numbers [a0, a1] = fin (g_run_numbers [some (.fz a0), some (.fz a1), none, none, none, none]) := frz_fin _ _ _
abbrev s_power : Stmt := topS 3
abbrev N_power : List Str := ["k", "passes", "found", "_"]
def b_power_1 : OEnv → SR := (sAugG vmul 2 (exF (vVar 0)))
def g_power : OEnv → SR := (seq (sSet 2 (oX (exF (vC (.int 1)))))
    (seq (sForK (x1 vrange1 (exF (vVar 1))) (kill [1]) (gN 3) (kill [3]) (b_power_1))
    (pre (kill [0, 3]) (sRet (oX (exF (vVar 2)))))))
def m_power : List PyData → R PyData := frz (runB 4 g_power)
theorem r_power (a0 a1 : PyData) : m_power [a0, a1] = fin (g_power [some (.fz a0), some (.fz a1), none, none]) := frz_fin _ _ _
abbrev s_digit : Stmt := topS 4
abbrev N_digit : List Str := ["number", "k", "place", "_"]
def b_digit_1 : OEnv → SR := (sAugG vfdiv 0 (exF (vVar 1)))
def g_digit : OEnv → SR := (seq (sForK (x1 vrange1 (exF (vVar 2))) (kill [2]) (gN 3) (kill [3]) (b_digit_1))
    (pre (kill [3]) (sRet (oX (exF (v2 vmod (vapp vint1 (aCons (vVar 0) aNil)) (vVar 1)))))))
def m_digit : List PyData → R PyData := frz (runB 4 g_digit)
theorem r_digit (a0 a1 a2 : PyData) : m_digit [a0, a1, a2] = fin (g_digit [some (.fz a0), some (.fz a1), some (.fz a2), none]) := frz_fin _ _ _
abbrev s_after_pass : Stmt := topS 5
abbrev N_after_pass : List Str := ["train", "tracks", "found", "track", "wagon", "own"]
def e_after_pass_1 : PEnv → R PyData := (vVar 4)
def t_after_pass_1 : PEnv → R Bool := (tst (v2 veq (vVar 5) (vVar 3)))
def b_after_pass_2 : OEnv → SR := (sExt 2 (oFrF (vcomp [4, 5] (i2 vzip (vVar 0) (vVar 1)) (gT (gC (gN 4) (gC (gN 5) gE))) (t_after_pass_1) (e_after_pass_1))))
def g_after_pass : OEnv → SR := (seq (sSet 2 (oFrF aNil))
    (seq (sFor (ixF (isq (vlistOf (fsrtS (stL (vVar 1)))))) (gN 3) (kill [3]) (b_after_pass_2))
    (pre (kill [0, 1, 3]) (pre (freeze [2]) (sRet (oX (exF (vVar 2))))))))
def m_after_pass : List PyData → R PyData := frz (runB 6 g_after_pass)
theorem r_after_pass (a0 a1 : PyData) : m_after_pass [a0, a1] = fin (g_after_pass [some (.fz a0), some (.fz a1), none, none, none, none]) := frz_fin _ _ _
abbrev s_in_passes : Stmt := topS 6
abbrev N_in_passes : List Str := ["arriving", "departing", "k", "passes", "heads", "numbers", "train", "found", "place", "tracks", "wagon"]
def e_in_passes_1 : PEnv → R PyData := (vapp m_digit (aCons (v2 vix (vVar 5) (vVar 10)) (aCons (vVar 2) (aCons (vVar 8) aNil))))
def b_in_passes_2 : OEnv → SR := (seq (sSet 9 (oX (exF (vlistOf (vcomp [10] (isq (vVar 6)) (gN 10) tyes (e_in_passes_1))))))
    (seq (sApp 7 (oX (exF (vVar 9))))
    (sSet 6 (oX (exF (vapp m_after_pass (aCons (vVar 6) (aCons (vVar 9) aNil))))))))
def g_in_passes : OEnv → SR := (seq (sSet 4 (oX (exF (vapp m_run_heads (aCons (vVar 0) (aCons (vVar 1) aNil))))))
    (seq (sIf (tB (tst (v2 vge (vapp vlen (aCons (vVar 4) aNil)) (vapp m_power (aCons (vVar 2) (aCons (vVar 3) aNil))))))
    (sRet (oX (exF (vtup (aCons (vC (.str "runs")) (aCons (vVar 4) aNil))))))
    (pre (kill [4]) sNx))
    (seq (sSet 5 (oX (exF (vapp m_run_numbers (aCons (vVar 0) (aCons (vVar 1) aNil))))))
    (seq (sSet 6 (oX (exF (vlistOf (isq (vVar 0))))))
    (seq (sSet 7 (oFrF aNil))
    (pre (kill [0, 1]) (seq (sForK (x1 vrange1 (exF (vVar 3))) (kill [3]) (gN 8) (kill [8, 9]) (b_in_passes_2))
    (pre (kill [2, 5, 6, 8, 9]) (pre (freeze [7]) (sRet (oX (exF (vtup (aCons (vC (.str "tracks")) (aCons (vVar 7) aNil)))))))))))))))
def m_in_passes : List PyData → R PyData := frz (runB 11 g_in_passes)
theorem r_in_passes (a0 a1 a2 a3 : PyData) : m_in_passes [a0, a1, a2, a3] = fin (g_in_passes [some (.fz a0), some (.fz a1), some (.fz a2), some (.fz a3), none, none, none, none, none, none, none]) := frz_fin _ _ _
abbrev s_is_pass : Stmt := topS 7
abbrev N_is_pass : List Str := ["train", "tracks", "k", "track"]
def e_is_pass_1 : PEnv → R PyData := (vchain vle vlt (vC (.int 0)) (vVar 3) (vVar 2))
def g_is_pass : OEnv → SR := (sRet (oX (exF (vand (v2 veq (vapp vlen (aCons (vVar 1) aNil)) (vapp vlen (aCons (vVar 0) aNil))) (vapp vall (aCons (vlistOf (vcomp [3] (isq (vVar 1)) (gN 3) tyes (e_is_pass_1))) aNil))))))
def m_is_pass : List PyData → R PyData := frz (runB 4 g_is_pass)
theorem r_is_pass (a0 a1 a2 : PyData) : m_is_pass [a0, a1, a2] = fin (g_is_pass [some (.fz a0), some (.fz a1), some (.fz a2), none]) := frz_fin _ _ _
abbrev s_judge_tracks : Stmt := topS 8
abbrev N_judge_tracks : List Str := ["arriving", "departing", "k", "passes", "lists", "train", "tracks"]
def b_judge_tracks_1 : OEnv → SR := (seq (sIf (tB (tnot (ttr (vapp m_is_pass (aCons (vVar 5) (aCons (vVar 6) (aCons (vVar 2) aNil)))))))
    (sRet (oX (exF (vC (.bool false)))))
    (pre (kill [4]) sNx))
    (sSet 5 (oX (exF (vapp m_after_pass (aCons (vVar 5) (aCons (vVar 6) aNil)))))))
def g_judge_tracks : OEnv → SR := (seq (sIf (tB (tst (v2 vne (vapp vlen (aCons (vVar 4) aNil)) (vVar 3))))
    (sRet (oX (exF (vC (.bool false)))))
    (pre (kill [3]) sNx))
    (seq (sSet 5 (oX (exF (vlistOf (isq (vVar 0))))))
    (pre (kill [0]) (seq (sForK (ixF (isq (vVar 4))) (kill [4]) (gN 6) (kill [6]) (b_judge_tracks_1))
    (pre (kill [2, 6]) (sRet (oX (exF (v2 veq (vVar 5) (vVar 1))))))))))
def m_judge_tracks : List PyData → R PyData := frz (runB 7 g_judge_tracks)
theorem r_judge_tracks (a0 a1 a2 a3 a4 : PyData) : m_judge_tracks [a0, a1, a2, a3, a4] = fin (g_judge_tracks [some (.fz a0), some (.fz a1), some (.fz a2), some (.fz a3), some (.fz a4), none, none]) := frz_fin _ _ _
abbrev s_judge_runs : Stmt := topS 9
abbrev N_judge_runs : List Str := ["arriving", "departing", "k", "passes", "wagons", "heads", "wagon"]
def e_judge_runs_1 : PEnv → R PyData := (v2 vInX (vVar 6) (vVar 5))
def g_judge_runs : OEnv → SR := (seq (sSet 5 (oX (exF (vapp m_run_heads (aCons (vVar 0) (aCons (vVar 1) aNil))))))
    (seq (sIf (tB (tor (tst (v2 vne (vlenS (stL (vVar 4))) (vapp vlen (aCons (vVar 4) aNil)))) (tnot (ttr (vapp vall (aCons (vlistOf (vcomp [6] (isq (vVar 4)) (gN 6) tyes (e_judge_runs_1))) aNil))))))
    (sRet (oX (exF (vC (.bool false)))))
    (pre (kill [0, 1, 5]) sNx))
    (sRet (oX (exF (v2 vge (vapp vlen (aCons (vVar 4) aNil)) (vapp m_power (aCons (vVar 2) (aCons (vVar 3) aNil)))))))))
def m_judge_runs : List PyData → R PyData := frz (runB 7 g_judge_runs)
theorem r_judge_runs (a0 a1 a2 a3 a4 : PyData) : m_judge_runs [a0, a1, a2, a3, a4] = fin (g_judge_runs [some (.fz a0), some (.fz a1), some (.fz a2), some (.fz a3), some (.fz a4), none, none]) := frz_fin _ _ _
abbrev s_judge_passes : Stmt := topS 10
abbrev N_judge_passes : List Str := ["arriving", "departing", "k", "passes", "verdict", "word", "paper"]
def g_judge_passes : OEnv → SR := (seq (sTup (gT (gC (gN 5) (gC (gN 6) gE))) (exF (vVar 4)))
    (seq (sIf (tB (tst (v2 veq (vVar 5) (vC (.str "tracks")))))
    (sRet (oX (exF (vapp m_judge_tracks (aCons (vVar 0) (aCons (vVar 1) (aCons (vVar 2) (aCons (vVar 3) (aCons (vVar 6) aNil)))))))))
    (pre (kill [4]) sNx))
    (seq (sIf (tB (tst (v2 veq (vVar 5) (vC (.str "runs")))))
    (sRet (oX (exF (vapp m_judge_runs (aCons (vVar 0) (aCons (vVar 1) (aCons (vVar 2) (aCons (vVar 3) (aCons (vVar 6) aNil)))))))))
    (pre (kill [0, 1, 2, 3, 5, 6]) sNx))
    (sRet (oX (exF (vC (.bool false))))))))
def m_judge_passes : List PyData → R PyData := frz (runB 7 g_judge_passes)
theorem r_judge_passes (a0 a1 a2 a3 a4 : PyData) : m_judge_passes [a0, a1, a2, a3, a4] = fin (g_judge_passes [some (.fz a0), some (.fz a1), some (.fz a2), some (.fz a3), some (.fz a4), none, none]) := frz_fin _ _ _
abbrev s_law_cell : Stmt := topS 12
abbrev N_law_cell : List Str := ["script", "k"]
def g_law_cell : OEnv → SR := (seq (sIf (tB (tst (v2 vlt (vVar 1) (vapp vlen (aCons (vVar 0) aNil)))))
    (sRet (oX (exF (vapp vint1 (aCons (v2 vix (vVar 0) (vVar 1)) aNil)))))
    (pre (kill [0]) sNx))
    (sRet (oX (exF (v2 vadd (v2 vmul (vC (.int 31)) (vVar 1)) (vC (.int 5)))))))
def m_law_cell : List PyData → R PyData := frz (runB 2 g_law_cell)
theorem r_law_cell (a0 a1 : PyData) : m_law_cell [a0, a1] = fin (g_law_cell [some (.fz a0), some (.fz a1)]) := frz_fin _ _ _
abbrev s_law_numbers : Stmt := topS 13
abbrev N_law_numbers : List Str := ["cell", "count", "limit", "found", "k", "mixed"]
def b_law_numbers_1 : OEnv → SR := (seq (sApp 3 (oX (exF (v2 vmod (vapp vint1 (aCons (vVar 0) aNil)) (vVar 2)))))
    (sSet 0 (oX (exF (v2 vfdiv (vapp vint1 (aCons (vVar 0) aNil)) (vVar 2))))))
def b_law_numbers_2 : OEnv → SR := (seq (sSet 5 (oX (exF (v2 vmod (vapp vint1 (aCons (v2 vadd (v2 vadd (v2 vmul (vVar 0) (vC (.int 48271))) (v2 vmul (vVar 4) (vC (.int 69621)))) (vC (.int 7))) aNil)) (vC (.int 2147483647))))))
    (seq (sSet 5 (oX (exF (v2 vmod (vapp vint1 (aCons (v2 vadd (v2 vadd (v2 vadd (v2 vmul (vVar 5) (vVar 5)) (v2 vmul (vVar 5) (vC (.int 40692)))) (v2 vmul (vVar 4) (vC (.int 16807)))) (vC (.int 11))) aNil)) (vC (.int 2147483399))))))
    (sApp 3 (oX (exF (v2 vmod (vapp vint1 (aCons (v2 vfdiv (vVar 5) (vC (.int 32))) aNil)) (vVar 2)))))))
def g_law_numbers : OEnv → SR := (seq (sSet 3 (oFrF aNil))
    (seq (sIf (tB (tst (v2 vge (vVar 0) (v2 vpow (vC (.int 10)) (vC (.int 18))))))
    (seq (sSet 0 (oX (exF (v2 vsub (vVar 0) (v2 vpow (vC (.int 10)) (vC (.int 18)))))))
    (seq (sForK (x1 vrange1 (exF (vVar 1))) (kill [1]) (gN 4) (kill [4]) (b_law_numbers_1))
    (pre (kill [0, 2, 4]) (pre (freeze [3]) (sRet (oX (exF (vVar 3))))))))
    sNx)
    (seq (sForK (x1 vrange1 (exF (vVar 1))) (kill [1]) (gN 4) (kill [4, 5]) (b_law_numbers_2))
    (pre (kill [0, 2, 4, 5]) (pre (freeze [3]) (sRet (oX (exF (vVar 3)))))))))
def m_law_numbers : List PyData → R PyData := frz (runB 6 g_law_numbers)
theorem r_law_numbers (a0 a1 a2 : PyData) : m_law_numbers [a0, a1, a2] = fin (g_law_numbers [some (.fz a0), some (.fz a1), some (.fz a2), none, none, none]) := frz_fin _ _ _
abbrev s_law_train : Stmt := topS 14
abbrev N_law_train : List Str := ["cell", "count", "draws", "rest", "found", "k", "wagon"]
def b_law_train_1 : OEnv → SR := (seq (sSet 6 (oPopAt 3 (exB (v2 vmod (v2 vix (vVar 2) (vVar 5)) (vapp vlen (aCons (vVar 3) aNil))))))
    (seq (sIf (tB (tst (v2 veq (v2 vmod (v2 vix (vVar 2) (v2 vadd (vVar 1) (vVar 5))) (vC (.int 16))) (vC (.int 0)))))
    (seq (sSet 6 (oX (exF (v2 vmul (vVar 6) (v2 vpow (vC (.int 10)) (vC (.int 20)))))))
    (pre (kill [5]) sNx))
    (sIf (tB (tst (v2 vlt (v2 vmod (v2 vix (vVar 2) (v2 vadd (vVar 1) (vVar 5))) (vC (.int 16))) (vC (.int 4)))))
    (seq (sSet 6 (oX (exF (v2 vsub (vC (.int 0)) (vVar 6)))))
    (pre (kill [5]) sNx))
    (pre (kill [5]) sNx)))
    (sApp 4 (oX (exF (vVar 6))))))
def g_law_train : OEnv → SR := (seq (sSet 2 (oX (exF (vapp m_law_numbers (aCons (vVar 0) (aCons (v2 vmul (vC (.int 2)) (vVar 1)) (aCons (vC (.int 20160)) aNil)))))))
    (seq (sSet 3 (oFrF (i2 vrange2 (vC (.int 1)) (v2 vadd (vVar 1) (vC (.int 1))))))
    (seq (sSet 4 (oFrF aNil))
    (pre (kill [0]) (seq (sFor (x1 vrange1 (exF (vVar 1))) (gN 5) (kill [5, 6]) (b_law_train_1))
    (pre (kill [1, 2, 3, 6]) (pre (freeze [4]) (sRet (oX (exF (vVar 4)))))))))))
def m_law_train : List PyData → R PyData := frz (runB 7 g_law_train)
theorem r_law_train (a0 a1 : PyData) : m_law_train [a0, a1] = fin (g_law_train [some (.fz a0), some (.fz a1), none, none, none, none, none]) := frz_fin _ _ _
abbrev s_law_shuffled : Stmt := topS 15
abbrev N_law_shuffled : List Str := ["things", "cell", "draws", "rest", "found", "k"]
def b_law_shuffled_1 : OEnv → SR := (sApp 4 (oPopAt 3 (exB (v2 vmod (v2 vix (vVar 2) (vVar 5)) (vapp vlen (aCons (vVar 3) aNil))))))
def g_law_shuffled : OEnv → SR := (seq (sSet 2 (oX (exF (vapp m_law_numbers (aCons (vVar 1) (aCons (vapp vlen (aCons (vVar 0) aNil)) (aCons (vC (.int 20160)) aNil)))))))
    (seq (sSet 3 (oFrF (isq (vVar 0))))
    (seq (sSet 4 (oFrF aNil))
    (pre (kill [1]) (seq (sForK (x1 vrange1 (exF (vapp vlen (aCons (vVar 0) aNil)))) (kill [0]) (gN 5) (kill [5]) (b_law_shuffled_1))
    (pre (kill [2, 3, 5]) (pre (freeze [4]) (sRet (oX (exF (vVar 4)))))))))))
def m_law_shuffled : List PyData → R PyData := frz (runB 6 g_law_shuffled)
theorem r_law_shuffled (a0 a1 : PyData) : m_law_shuffled [a0, a1] = fin (g_law_shuffled [some (.fz a0), some (.fz a1), none, none, none, none]) := frz_fin _ _ _
abbrev s_law_heads : Stmt := topS 16
abbrev N_law_heads : List Str := ["arriving", "departing", "places", "wagon", "k"]
def e_law_heads_1 : PEnv → R PyData := (vindexF (vVar 0) (vVar 3))
def e_law_heads_2 : PEnv → R PyData := (v2 vix (vVar 1) (vVar 4))
def t_law_heads_2 : PEnv → R Bool := (tst (v2 vlt (v2 vix (vVar 2) (vVar 4)) (v2 vix (vVar 2) (v2 vsub (vVar 4) (vC (.int 1))))))
def g_law_heads : OEnv → SR := (seq (sSet 2 (oX (exF (vlistOf (vcomp [3] (isq (vVar 1)) (gN 3) tyes (e_law_heads_1))))))
    (sRet (oX (exF (vlistOf (vcomp [4] (i2 vrange2 (vC (.int 1)) (vapp vlen (aCons (vVar 1) aNil))) (gN 4) (t_law_heads_2) (e_law_heads_2)))))))
def m_law_heads : List PyData → R PyData := frz (runB 5 g_law_heads)
theorem r_law_heads (a0 a1 : PyData) : m_law_heads [a0, a1] = fin (g_law_heads [some (.fz a0), some (.fz a1), none, none, none]) := frz_fin _ _ _
abbrev s_law_after : Stmt := topS 17
abbrev N_law_after : List Str := ["train", "tracks", "pairs", "track", "place", "k"]
def e_law_after_1 : PEnv → R PyData := (vtup (aCons (v2 vix (vVar 1) (vVar 5)) (aCons (vVar 5) aNil)))
def e_law_after_2 : PEnv → R PyData := (v2 vix (vVar 0) (vVar 4))
def g_law_after : OEnv → SR := (seq (sSet 2 (oX (exF (vlistOf (fsortD (vlistOf (vcomp [5] (i1 vrange1 (vapp vlen (aCons (vVar 0) aNil))) (gN 5) tyes (e_law_after_1))))))))
    (sRet (oFrF (vcomp [3, 4] (isq (vVar 2)) (gT (gC (gN 3) (gC (gN 4) gE))) tyes (e_law_after_2)))))
def mo_law_after : List PyData → R O := runB 6 g_law_after
def m_law_after : List PyData → R PyData := frz (runB 6 g_law_after)
theorem r_law_after (a0 a1 : PyData) : m_law_after [a0, a1] = fin (g_law_after [some (.fz a0), some (.fz a1), none, none, none, none]) := frz_fin _ _ _
theorem ro_law_after (a0 a1 : PyData) : mo_law_after [a0, a1] = finO (g_law_after [some (.fz a0), some (.fz a1), none, none, none, none]) := runB_fin _ _ _
abbrev s_law_departing : Stmt := topS 18
abbrev N_law_departing : List Str := ["arriving", "cell", "picks", "count", "draws", "many", "found", "track", "k"]
def e_law_departing_1 : PEnv → R PyData := (v2 vix (vVar 0) (v2 vsub (v2 vsub (vVar 3) (vC (.int 1))) (vVar 8)))
def e_law_departing_2 : PEnv → R PyData := (v2 vix (vVar 0) (vVar 8))
def t_law_departing_2 : PEnv → R Bool := (tst (v2 veq (v2 vmod (v2 vix (vVar 4) (vVar 8)) (vVar 5)) (vVar 7)))
def b_law_departing_3 : OEnv → SR := (sSet 6 (oX (exF (v2 vadd (vVar 6) (vlistOf (vcomp [8] (i1 vrange1 (vVar 3)) (gN 8) (t_law_departing_2) (e_law_departing_2)))))))
def g_law_departing : OEnv → SR := (seq (sSet 3 (oX (exF (vapp vlen (aCons (vVar 0) aNil)))))
    (seq (sIf (tB (tst (v2 veq (v2 vmod (v2 vidx (vVar 2) (vC (.int 0))) (vC (.int 3))) (vC (.int 0)))))
    (sRet (oX (exF (vapp m_law_shuffled (aCons (vVar 0) (aCons (vVar 1) aNil))))))
    sNx)
    (seq (sIf (tB (tst (v2 veq (v2 vmod (v2 vidx (vVar 2) (vC (.int 0))) (vC (.int 9))) (vC (.int 1)))))
    (sRet (oX (exF (vlistOf (vcomp [8] (i1 vrange1 (vVar 3)) (gN 8) tyes (e_law_departing_1))))))
    sNx)
    (seq (sSet 4 (oX (exF (vapp m_law_numbers (aCons (vVar 1) (aCons (vVar 3) (aCons (vC (.int 20160)) aNil)))))))
    (seq (sSet 5 (oX (exF (v2 vadd (vC (.int 1)) (v2 vmod (v2 vidx (vVar 2) (vC (.int 1))) (vC (.int 9)))))))
    (seq (sSet 6 (oX (exF (vlistOf aNil))))
    (pre (kill [1, 2]) (seq (sFor (x1 vrange1 (exF (vVar 5))) (gN 7) (kill [7]) (b_law_departing_3))
    (pre (kill [0, 3, 4, 5, 7]) (sRet (oX (exF (vVar 6)))))))))))))
def m_law_departing : List PyData → R PyData := frz (runB 9 g_law_departing)
theorem r_law_departing (a0 a1 a2 : PyData) : m_law_departing [a0, a1, a2] = fin (g_law_departing [some (.fz a0), some (.fz a1), some (.fz a2), none, none, none, none, none, none]) := frz_fin _ _ _
abbrev s_law_enough : Stmt := topS 19
abbrev N_law_enough : List Str := ["count", "k", "passes", "power_v", "turn"]
def b_law_enough_1 : OEnv → SR := (sSet 3 (oX (exF (v2 vmul (vVar 3) (vVar 1)))))
def g_law_enough : OEnv → SR := (seq (sSet 3 (oX (exF (vC (.int 1)))))
    (seq (sForK (x1 vrange1 (exF (vVar 2))) (kill [2]) (gN 4) (kill [4]) (b_law_enough_1))
    (pre (kill [1, 4]) (sRet (oX (exF (v2 vgt (vVar 3) (vVar 0))))))))
def m_law_enough : List PyData → R PyData := frz (runB 5 g_law_enough)
theorem r_law_enough (a0 a1 a2 : PyData) : m_law_enough [a0, a1, a2] = fin (g_law_enough [some (.fz a0), some (.fz a1), some (.fz a2), none, none]) := frz_fin _ _ _
abbrev s_law_lists : Stmt := topS 20
abbrev N_law_lists : List Str := ["arriving", "departing", "k", "passes", "heads", "numbers", "number", "wagon", "train", "found", "turn"]
def b_law_lists_1 : OEnv → SR := (seq (sIf (tB (tst (v2 vInX (vVar 7) (vVar 4))))
    (sSet 6 (oX (exF (v2 vadd (vVar 6) (vC (.int 1))))))
    sNx)
    (sSetX csK (pVar 5) (exF (vVar 7)) (oX (exF (vVar 6)))))
def e_law_lists_2 : PEnv → R PyData := (v2 vmod (v2 vix (vVar 5) (vVar 7)) (vVar 2))
def b_law_lists_3 : OEnv → SR := (sSetX csK (pVar 5) (exF (vVar 7)) (oX (exB (v2 vfdiv (v2 vix (vVar 5) (vVar 7)) (vVar 2)))))
def b_law_lists_4 : OEnv → SR := (seq (sApp 9 (oFrB (vcomp [7] (isq (vVar 8)) (gN 7) tyes (e_law_lists_2))))
    (seq (sSet 8 (oCallB mo_law_after (aCons (vVar 8) (aCons (v2 vix (vVar 9) (vVar 10)) aNil))))
    (pre (freeze [8]) (pre (kill [3, 10]) (sFor (ixF (isq (vVar 1))) (gN 7) (kill [7]) (b_law_lists_3))))))
def g_law_lists : OEnv → SR := (seq (sSet 4 (oX (exF (vapp m_law_heads (aCons (vVar 0) (aCons (vVar 1) aNil))))))
    (seq (sSet 5 (oDctL 128 false))
    (seq (sSet 6 (oX (exF (vC (.int 0)))))
    (seq (sFor (ixF (isq (vVar 1))) (gN 7) (kill [7]) (b_law_lists_1))
    (pre (kill [4, 6, 7]) (seq (sSet 8 (oX (exF (vlistOf (isq (vVar 0))))))
    (seq (sSet 9 (oFrF aNil))
    (pre (kill [0]) (seq (sForK (x1 vrange1 (exF (vVar 3))) (kill [3]) (gN 10) (kill [7, 10]) (b_law_lists_4))
    (pre (kill [1, 2, 5, 7, 8]) (pre (freeze [9]) (sRet (oX (exF (vVar 9)))))))))))))))
def m_law_lists : List PyData → R PyData := frz (runB 11 g_law_lists)
theorem r_law_lists (a0 a1 a2 a3 : PyData) : m_law_lists [a0, a1, a2, a3] = fin (g_law_lists [some (.fz a0), some (.fz a1), some (.fz a2), some (.fz a3), none, none, none, none, none, none, none]) := frz_fin _ _ _
abbrev s_law_accepts : Stmt := topS 22
abbrev N_law_accepts : List Str := ["arriving", "departing", "k", "passes", "verdict", "word", "paper", "heads", "j", "train", "tracks", "track"]
def b_law_accepts_1 : OEnv → SR := (sIf (tB (tor (tst (v2 vNotInX (v2 vix (vVar 6) (vVar 8)) (vVar 7))) (tst (v2 vInX (v2 vix (vVar 6) (vVar 8)) (vslice (vVar 6) (vpart (vC (.int 0))) (vpart (vVar 8)))))))
    (sRet (oX (exF (vC (.bool false)))))
    (pre (kill [8]) sNx))
def e_law_accepts_2 : PEnv → R PyData := (vVar 11)
def t_law_accepts_2 : PEnv → R Bool := (tor (tst (v2 vlt (vVar 11) (vC (.int 0)))) (tst (v2 vge (vVar 11) (vVar 2))))
def b_law_accepts_3 : OEnv → SR := (seq (sIf (tB (tor (tst (v2 vne (vapp vlen (aCons (vVar 10) aNil)) (vapp vlen (aCons (vVar 9) aNil)))) (tst (v2 vgt (vapp vlen (aCons (vlistOf (vcomp [11] (isq (vVar 10)) (gN 11) (t_law_accepts_2) (e_law_accepts_2))) aNil)) (vC (.int 0))))))
    (sRet (oX (exF (vC (.bool false)))))
    (pre (kill [6]) sNx))
    (sSet 9 (oX (exF (vapp m_law_after (aCons (vVar 9) (aCons (vVar 10) aNil)))))))
def g_law_accepts : OEnv → SR := (seq (sTup (gT (gC (gN 5) (gC (gN 6) gE))) (exF (vVar 4)))
    (seq (sSet 7 (oX (exF (vapp m_law_heads (aCons (vVar 0) (aCons (vVar 1) aNil))))))
    (seq (sIf (tB (tst (v2 veq (vVar 5) (vC (.str "runs")))))
    (pre (kill [0, 1, 4, 5]) (seq (sFor (x1 vrange1 (exF (vapp vlen (aCons (vVar 6) aNil)))) (gN 8) (kill [8]) (b_law_accepts_1))
    (pre (kill [7]) (sRet (oX (exF (vnot (vapp m_law_enough (aCons (vapp vlen (aCons (vVar 6) aNil)) (aCons (vVar 2) (aCons (vVar 3) aNil)))))))))))
    (pre (kill [4, 7]) sNx))
    (seq (sIf (tB (tor (tst (v2 vne (vVar 5) (vC (.str "tracks")))) (tst (v2 vne (vapp vlen (aCons (vVar 6) aNil)) (vVar 3)))))
    (sRet (oX (exF (vC (.bool false)))))
    (pre (kill [3, 5]) sNx))
    (seq (sSet 9 (oX (exF (vlistOf (isq (vVar 0))))))
    (pre (kill [0]) (seq (sForK (ixF (isq (vVar 6))) (kill [6]) (gN 10) (kill [10]) (b_law_accepts_3))
    (pre (kill [2, 10]) (sRet (oX (exF (v2 veq (vVar 9) (vVar 1)))))))))))))
def m_law_accepts : List PyData → R PyData := frz (runB 12 g_law_accepts)
theorem r_law_accepts (a0 a1 a2 a3 a4 : PyData) : m_law_accepts [a0, a1, a2, a3, a4] = fin (g_law_accepts [some (.fz a0), some (.fz a1), some (.fz a2), some (.fz a3), some (.fz a4), none, none, none, none, none, none, none]) := frz_fin _ _ _
abbrev s_law_tracks_papers : Stmt := topS 23
abbrev N_law_tracks_papers : List Str := ["lists", "k", "passes", "count", "picks", "found", "turn", "row", "others", "at", "track", "other", "rows", "j"]
def e_law_tracks_papers_1 : PEnv → R PyData := (vlistOf (isq (vVar 7)))
def e_law_tracks_papers_2 : PEnv → R PyData := (vC (.int 0))
def b_law_tracks_papers_3 : OEnv → SR := (sApp 8 (oX (exF (v2 vadd (v2 vadd (vslice (vVar 7) (vpart (vC (.int 0))) (vpart (vVar 9))) (vlistOf (aCons (vVar 10) aNil))) (vslice (vVar 7) (vpart (v2 vadd (vVar 9) (vC (.int 1)))) vnopart)))))
def b_law_tracks_papers_4 : OEnv → SR := (sApp 5 (oX (exF (v2 vadd (v2 vadd (vslice (vVar 0) (vpart (vC (.int 0))) (vpart (vVar 6))) (vlistOf (aCons (vVar 11) aNil))) (vslice (vVar 0) (vpart (v2 vadd (vVar 6) (vC (.int 1)))) vnopart)))))
def e_law_tracks_papers_5 : PEnv → R PyData := (vtup (aCons (vC (.str "tracks")) (aCons (vVar 12) aNil)))
def g_law_tracks_papers : OEnv → SR := (seq (sSet 5 (oFrF (aCons (vVar 0) (aCons (v2 vadd (vVar 0) (vlistOf (aCons (vlistOf (vcomp [13] (i1 vrange1 (vVar 3)) (gN 13) tyes (e_law_tracks_papers_2))) aNil))) (aCons (vslice (vVar 0) (vpart (vC (.int 1))) vnopart) (aCons (vlistOf aNil) (aCons (vlistOf (vcomp [7] (isq (vlistOf (frev (vVar 0)))) (gN 7) tyes (e_law_tracks_papers_1))) aNil)))))))
    (seq (sIf (tB (tst (v2 vgt (vVar 2) (vC (.int 0)))))
    (seq (sSet 6 (oX (exF (v2 vmod (v2 vidx (vVar 4) (vC (.int 0))) (vapp vlen (aCons (vVar 0) aNil))))))
    (seq (sSet 7 (oX (exF (v2 vix (vVar 0) (vVar 6)))))
    (seq (sSet 8 (oFrF (aCons (vslice (vVar 7) (vpart (vC (.int 1))) vnopart) (aCons (v2 vadd (vVar 7) (vlistOf (aCons (vC (.int 0)) aNil))) aNil))))
    (seq (sIf (tB (tst (v2 vgt (vVar 3) (vC (.int 0)))))
    (seq (sSet 9 (oX (exF (v2 vmod (v2 vidx (vVar 4) (vC (.int 1))) (vVar 3)))))
    (pre (kill [2, 3]) (seq (sForK (ixF (isq (vlistOf (aCons (v2 vmod (v2 vidx (vVar 4) (vC (.int 2))) (vVar 1)) (aCons (v2 vsub (vVar 1) (vC (.int 1))) (aCons (vVar 1) (aCons (v1 vneg (vC (.int 1))) aNil))))))) (kill [1, 4]) (gN 10) (kill [10]) (b_law_tracks_papers_3))
    (pre (freeze [8]) (pre (kill [7, 9, 10]) sNx)))))
    (pre (freeze [8]) (pre (kill [1, 2, 3, 4, 7]) sNx)))
    (seq (sForK (ixF (isq (vVar 8))) (kill [8]) (gN 11) (kill [11]) (b_law_tracks_papers_4))
    (pre (freeze [5]) (pre (kill [0, 6, 11]) sNx)))))))
    (pre (freeze [5]) (pre (kill [0, 1, 2, 3, 4]) sNx)))
    (sRet (oX (exF (vlistOf (vcomp [12] (isq (vVar 5)) (gN 12) tyes (e_law_tracks_papers_5))))))))
def m_law_tracks_papers : List PyData → R PyData := frz (runB 14 g_law_tracks_papers)
theorem r_law_tracks_papers (a0 a1 a2 a3 a4 : PyData) : m_law_tracks_papers [a0, a1, a2, a3, a4] = fin (g_law_tracks_papers [some (.fz a0), some (.fz a1), some (.fz a2), some (.fz a3), some (.fz a4), none, none, none, none, none, none, none, none, none]) := frz_fin _ _ _
abbrev s_law_runs_papers : Stmt := topS 24
abbrev N_law_runs_papers : List Str := ["heads", "arriving", "picks", "found", "at", "rows", "j"]
def e_law_runs_papers_1 : PEnv → R PyData := (v2 vix (vVar 0) (v2 vsub (v2 vsub (vapp vlen (aCons (vVar 0) aNil)) (vC (.int 1))) (vVar 6)))
def e_law_runs_papers_2 : PEnv → R PyData := (vtup (aCons (vC (.str "runs")) (aCons (vVar 5) aNil)))
def g_law_runs_papers : OEnv → SR := (seq (sSet 3 (oFrF (aCons (vVar 0) (aCons (vlistOf aNil) (aCons (v2 vadd (vVar 0) (vslice (vVar 0) (vpart (vC (.int 0))) (vpart (vC (.int 1))))) (aCons (vslice (vVar 0) (vpart (vC (.int 1))) vnopart) (aCons (vlistOf (vcomp [6] (i1 vrange1 (vapp vlen (aCons (vVar 0) aNil))) (gN 6) tyes (e_law_runs_papers_1))) aNil)))))))
    (seq (sApp 3 (oX (exF (v2 vadd (vVar 0) (vlistOf (aCons (v2 vpow (vC (.int 10)) (vC (.int 30))) aNil))))))
    (seq (sApp 3 (oX (exF (vVar 1))))
    (seq (sIf (tB (tst (v2 vgt (vapp vlen (aCons (vVar 1) aNil)) (vC (.int 0)))))
    (seq (sSet 4 (oX (exF (v2 vmod (v2 vidx (vVar 2) (vC (.int 3))) (v2 vadd (vapp vlen (aCons (vVar 0) aNil)) (vC (.int 1)))))))
    (seq (sApp 3 (oX (exF (v2 vadd (v2 vadd (vslice (vVar 0) (vpart (vC (.int 0))) (vpart (vVar 4))) (vlistOf (aCons (v2 vix (vVar 1) (v2 vmod (v2 vidx (vVar 2) (vC (.int 4))) (vapp vlen (aCons (vVar 1) aNil)))) aNil))) (vslice (vVar 0) (vpart (v2 vadd (vVar 4) (vC (.int 1)))) vnopart)))))
    (pre (freeze [3]) (pre (kill [0, 1, 2, 4]) sNx))))
    (pre (freeze [3]) (pre (kill [0, 1, 2]) sNx)))
    (sRet (oX (exF (vlistOf (vcomp [5] (isq (vVar 3)) (gN 5) tyes (e_law_runs_papers_2))))))))))
def m_law_runs_papers : List PyData → R PyData := frz (runB 7 g_law_runs_papers)
theorem r_law_runs_papers (a0 a1 a2 : PyData) : m_law_runs_papers [a0, a1, a2] = fin (g_law_runs_papers [some (.fz a0), some (.fz a1), some (.fz a2), none, none, none, none]) := frz_fin _ _ _
abbrev s_law_single_passes : Stmt := topS 25
abbrev N_law_single_passes : List Str := ["count", "found", "turn", "later", "row"]
def b_law_single_passes_1 : OEnv → SR := (seq (sApp 3 (oX (exF (v2 vadd (vVar 4) (vlistOf (aCons (vC (.int 0)) aNil))))))
    (sApp 3 (oX (exF (v2 vadd (vVar 4) (vlistOf (aCons (vC (.int 1)) aNil)))))))
def b_law_single_passes_2 : OEnv → SR := (seq (sSet 3 (oFrF aNil))
    (pre (kill [0, 2]) (seq (sForK (ixF (isq (vVar 1))) (kill [1]) (gN 4) (kill [4]) (b_law_single_passes_1))
    (pre (kill [4]) (pre (freeze [3]) (sSet 1 (oX (exF (vVar 3)))))))))
def g_law_single_passes : OEnv → SR := (seq (sSet 1 (oX (exF (vlistOf (aCons (vlistOf aNil) aNil)))))
    (seq (sForK (x1 vrange1 (exF (vVar 0))) (kill [0]) (gN 2) (kill [2, 3, 4]) (b_law_single_passes_2))
    (pre (kill [3]) (sRet (oX (exF (vVar 1)))))))
def m_law_single_passes : List PyData → R PyData := frz (runB 5 g_law_single_passes)
theorem r_law_single_passes (a0 : PyData) : m_law_single_passes [a0] = fin (g_law_single_passes [some (.fz a0), none, none, none, none]) := frz_fin _ _ _
abbrev s_law_copied : Stmt := topS 26
abbrev N_law_copied : List Str := ["paper", "word", "rows", "row"]
def e_law_copied_1 : PEnv → R PyData := (vlistOf (isq (vVar 3)))
def g_law_copied : OEnv → SR := (seq (sTup (gT (gC (gN 1) (gC (gN 2) gE))) (exF (vVar 0)))
    (seq (sIf (tB (tst (v2 veq (vVar 1) (vC (.str "tracks")))))
    (sRet (oX (exF (vtup (aCons (vVar 1) (aCons (vlistOf (vcomp [3] (isq (vVar 2)) (gN 3) tyes (e_law_copied_1))) aNil))))))
    (pre (kill [0]) sNx))
    (sRet (oX (exF (vtup (aCons (vVar 1) (aCons (vlistOf (isq (vVar 2))) aNil))))))))
def m_law_copied : List PyData → R PyData := frz (runB 4 g_law_copied)
theorem r_law_copied (a0 : PyData) : m_law_copied [a0] = fin (g_law_copied [some (.fz a0), none, none, none]) := frz_fin _ _ _
abbrev s_law : Stmt := topS 27
abbrev N_law : List Str := ["script", "shape", "count", "arriving", "departing", "passed", "heads", "picks", "k", "passes", "verdict", "lists", "papers", "words", "paper", "given", "due", "answer", "accepted", "row"]
def b_law_1 : OEnv → SR := (seq (sSet 15 (oX (exF (vapp m_law_copied (aCons (vVar 14) aNil)))))
    (seq (sIf (tB (tst (v2 vNotInT (v2 vidx (vVar 14) (vC (.int 0))) (vtup (aCons (vC (.str "tracks")) (aCons (vC (.str "runs")) aNil))))))
    (seq (sSet 15 (oX (exF (vVar 14))))
    (pre (kill [11, 12]) sNx))
    (pre (kill [11, 12]) sNx))
    (seq (sSet 16 (oX (exF (vapp m_law_accepts (aCons (vVar 3) (aCons (vVar 4) (aCons (vVar 8) (aCons (vVar 9) (aCons (vVar 14) aNil)))))))))
    (seq (sSet 17 (oX (exF (vapp m_judge_passes (aCons (v2 vidx (vVar 5) (vC (.int 0))) (aCons (v2 vidx (vVar 5) (vC (.int 1))) (aCons (vVar 8) (aCons (vVar 9) (aCons (vVar 15) aNil)))))))))
    (seq (sIf (tB (tor (tnot (ttr (v1 (visi "bool") (vVar 17)))) (tst (v2 vne (vVar 17) (vVar 16)))))
    (pre (freeze [13]) (sRet (oX (exF (vC (.bool false))))))
    (pre (kill [15, 17]) sNx))
    (sIf (tB (tand (ttr (vVar 16)) (tst (v2 vNotInX (v2 vidx (vVar 14) (vC (.int 0))) (vVar 13)))))
    (seq (sApp 13 (oX (exF (v2 vidx (vVar 14) (vC (.int 0))))))
    (pre (kill [14, 16]) sNx))
    (pre (kill [14, 16]) sNx)))))))
def b_law_2 : OEnv → SR := (seq (sSet 10 (oX (exF (vapp m_in_passes (aCons (v2 vidx (vVar 5) (vC (.int 0))) (aCons (v2 vidx (vVar 5) (vC (.int 1))) (aCons (vVar 8) (aCons (vVar 9) aNil))))))))
    (seq (sIf (tB (tst (v2 vne (v2 vidx (vVar 10) (vC (.int 0))) (v2 vix (vlistOf (aCons (vC (.str "runs")) (aCons (vC (.str "tracks")) aNil))) (vapp vint1 (aCons (vapp m_law_enough (aCons (vapp vlen (aCons (vVar 6) aNil)) (aCons (vVar 8) (aCons (vVar 9) aNil)))) aNil))))))
    (sRet (oX (exF (vC (.bool false)))))
    sNx)
    (seq (sSet 11 (oX (exF (vapp m_law_lists (aCons (vVar 3) (aCons (vVar 4) (aCons (vVar 8) (aCons (vVar 9) aNil))))))))
    (seq (sSet 12 (oX (exF (v2 vadd (vapp m_law_tracks_papers (aCons (vVar 11) (aCons (vVar 8) (aCons (vVar 9) (aCons (vVar 2) (aCons (vVar 7) aNil)))))) (vapp m_law_runs_papers (aCons (vVar 6) (aCons (vVar 3) (aCons (vVar 7) aNil))))))))
    (seq (sSet 13 (oFrF aNil))
    (seq (sForK (ixF (isq (v2 vadd (vVar 12) (vlistOf (aCons (vVar 10) (aCons (vtup (aCons (vC (.str "track")) (aCons (vVar 11) aNil))) (aCons (vtup (aCons (vC (.str "heads")) (aCons (vVar 6) aNil))) aNil))))))) (kill [11, 12]) (gN 14) (kill [14, 15, 16, 17]) (b_law_1))
    (pre (kill [9]) (pre (freeze [13]) (sIf (tB (tst (v2 vne (vVar 13) (vlistOf (aCons (v2 vidx (vVar 10) (vC (.int 0))) aNil)))))
    (sRet (oX (exF (vC (.bool false)))))
    (pre (kill [10, 13]) sNx))))))))))
def e_law_3 : PEnv → R PyData := (vVar 19)
def t_law_3 : PEnv → R Bool := (ttr (vapp m_judge_passes (aCons (v2 vidx (vVar 5) (vC (.int 0))) (aCons (v2 vidx (vVar 5) (vC (.int 1))) (aCons (vC (.int 2)) (aCons (vC (.int 1)) (aCons (vtup (aCons (vC (.str "tracks")) (aCons (vlistOf (aCons (vVar 19) aNil)) aNil))) aNil)))))))
def g_law : OEnv → SR := (seq (sSet 1 (oX (exF (vapp m_law_numbers (aCons (vapp m_law_cell (aCons (vVar 0) (aCons (vC (.int 0)) aNil))) (aCons (vC (.int 3)) (aCons (vC (.int 20160)) aNil)))))))
    (seq (sSet 2 (oX (exF (v2 vmod (v2 vfdiv (v2 vidx (vVar 1) (vC (.int 0))) (vC (.int 4))) (vC (.int 13))))))
    (seq (sIf (tB (tst (v2 veq (v2 vmod (v2 vidx (vVar 1) (vC (.int 0))) (vC (.int 4))) (vC (.int 3)))))
    (sSet 2 (oX (exF (v2 vmod (v2 vfdiv (v2 vidx (vVar 1) (vC (.int 0))) (vC (.int 4))) (vC (.int 101))))))
    sNx)
    (seq (sSet 3 (oX (exF (vapp m_law_train (aCons (vapp m_law_cell (aCons (vVar 0) (aCons (vC (.int 1)) aNil))) (aCons (vVar 2) aNil))))))
    (seq (sSet 4 (oX (exF (vapp m_law_departing (aCons (vVar 3) (aCons (vapp m_law_cell (aCons (vVar 0) (aCons (vC (.int 2)) aNil))) (aCons (vslice (vVar 1) (vpart (vC (.int 1))) (vpart (vC (.int 3)))) aNil)))))))
    (seq (sSet 5 (oX (exF (vtup (aCons (vlistOf (isq (vVar 3))) (aCons (vlistOf (isq (vVar 4))) aNil))))))
    (seq (sSet 6 (oX (exF (vapp m_law_heads (aCons (vVar 3) (aCons (vVar 4) aNil))))))
    (seq (sSet 7 (oX (exF (vapp m_law_numbers (aCons (vapp m_law_cell (aCons (vVar 0) (aCons (vC (.int 3)) aNil))) (aCons (vC (.int 7)) (aCons (vC (.int 20160)) aNil)))))))
    (seq (sSet 8 (oX (exF (v2 vadd (vC (.int 2)) (v2 vmod (v2 vidx (vVar 7) (vC (.int 5))) (vC (.int 4)))))))
    (pre (kill [0, 1]) (seq (sFor (ixF (isq (vlistOf (aCons (vC (.int 0)) (aCons (vC (.int 1)) (aCons (vC (.int 2)) (aCons (v2 vadd (vC (.int 1)) (v2 vmod (v2 vidx (vVar 7) (vC (.int 6))) (vC (.int 7)))) aNil))))))) (gN 9) (kill [9, 10, 11, 12, 13, 14, 15, 16, 17]) (b_law_2))
    (pre (kill [7, 8]) (seq (sIf (tB (tst (v2 vlt (vVar 2) (vC (.int 6)))))
    (seq (sSet 18 (oX (exF (vlistOf (vcomp [19] (isq (vapp m_law_single_passes (aCons (vVar 2) aNil))) (gN 19) (t_law_3) (e_law_3))))))
    (sIf (tB (tst (v2 vne (v2 vgt (vapp vlen (aCons (vVar 18) aNil)) (vC (.int 0))) (v2 vlt (vapp vlen (aCons (vVar 6) aNil)) (vC (.int 2))))))
    (sRet (oX (exF (vC (.bool false)))))
    (pre (kill [2, 6, 18]) sNx)))
    (pre (kill [2, 6]) sNx))
    (sRet (oX (exF (v2 veq (vVar 5) (vtup (aCons (vVar 3) (aCons (vVar 4) aNil))))))))))))))))))))
def m_law : List PyData → R PyData := frz (runB 20 g_law)
theorem r_law (a0 : PyData) : m_law [a0] = fin (g_law [some (.fz a0), none, none, none, none, none, none, none, none, none, none, none, none, none, none, none, none, none, none, none]) := frz_fin _ _ _
end
structure Txt (K : PySem.W.Frag) (mg : Str → Option Value) where
  f_run_heads : Addr
  d_run_heads : FuncData
  F_run_heads : Fun K "run_heads" "run_heads" s_run_heads f_run_heads d_run_heads
  g_run_heads : mg "run_heads" = some (.ref f_run_heads)
  B_run_heads : Binds K d_run_heads ["arriving", "departing"] []
  f_run_numbers : Addr
  d_run_numbers : FuncData
  F_run_numbers : Fun K "run_numbers" "run_numbers" s_run_numbers f_run_numbers d_run_numbers
  g_run_numbers : mg "run_numbers" = some (.ref f_run_numbers)
  B_run_numbers : Binds K d_run_numbers ["arriving", "departing"] []
  f_power : Addr
  d_power : FuncData
  F_power : Fun K "power" "power" s_power f_power d_power
  g_power : mg "power" = some (.ref f_power)
  B_power : Binds K d_power ["k", "passes"] []
  f_digit : Addr
  d_digit : FuncData
  F_digit : Fun K "digit" "digit" s_digit f_digit d_digit
  g_digit : mg "digit" = some (.ref f_digit)
  B_digit : Binds K d_digit ["number", "k", "place"] []
  f_after_pass : Addr
  d_after_pass : FuncData
  F_after_pass : Fun K "after_pass" "after_pass" s_after_pass f_after_pass d_after_pass
  g_after_pass : mg "after_pass" = some (.ref f_after_pass)
  B_after_pass : Binds K d_after_pass ["train", "tracks"] []
  f_in_passes : Addr
  d_in_passes : FuncData
  F_in_passes : Fun K "in_passes" "in_passes" s_in_passes f_in_passes d_in_passes
  g_in_passes : mg "in_passes" = some (.ref f_in_passes)
  B_in_passes : Binds K d_in_passes ["arriving", "departing", "k", "passes"] []
  f_is_pass : Addr
  d_is_pass : FuncData
  F_is_pass : Fun K "is_pass" "is_pass" s_is_pass f_is_pass d_is_pass
  g_is_pass : mg "is_pass" = some (.ref f_is_pass)
  B_is_pass : Binds K d_is_pass ["train", "tracks", "k"] []
  f_judge_tracks : Addr
  d_judge_tracks : FuncData
  F_judge_tracks : Fun K "judge_tracks" "judge_tracks" s_judge_tracks f_judge_tracks d_judge_tracks
  g_judge_tracks : mg "judge_tracks" = some (.ref f_judge_tracks)
  B_judge_tracks : Binds K d_judge_tracks ["arriving", "departing", "k", "passes", "lists"] []
  f_judge_runs : Addr
  d_judge_runs : FuncData
  F_judge_runs : Fun K "judge_runs" "judge_runs" s_judge_runs f_judge_runs d_judge_runs
  g_judge_runs : mg "judge_runs" = some (.ref f_judge_runs)
  B_judge_runs : Binds K d_judge_runs ["arriving", "departing", "k", "passes", "wagons"] []
  f_judge_passes : Addr
  d_judge_passes : FuncData
  F_judge_passes : Fun K "judge_passes" "judge_passes" s_judge_passes f_judge_passes d_judge_passes
  g_judge_passes : mg "judge_passes" = some (.ref f_judge_passes)
  B_judge_passes : Binds K d_judge_passes ["arriving", "departing", "k", "passes", "verdict"] []
  f__law_cell : Addr
  d__law_cell : FuncData
  F__law_cell : Fun K "_law_cell" "_law_cell" s_law_cell f__law_cell d__law_cell
  g__law_cell : mg "_law_cell" = some (.ref f__law_cell)
  B__law_cell : Binds K d__law_cell ["script", "k"] []
  f__law_numbers : Addr
  d__law_numbers : FuncData
  F__law_numbers : Fun K "_law_numbers" "_law_numbers" s_law_numbers f__law_numbers d__law_numbers
  g__law_numbers : mg "_law_numbers" = some (.ref f__law_numbers)
  B__law_numbers : Binds K d__law_numbers ["cell", "count", "limit"] []
  f__law_train : Addr
  d__law_train : FuncData
  F__law_train : Fun K "_law_train" "_law_train" s_law_train f__law_train d__law_train
  g__law_train : mg "_law_train" = some (.ref f__law_train)
  B__law_train : Binds K d__law_train ["cell", "count"] []
  f__law_shuffled : Addr
  d__law_shuffled : FuncData
  F__law_shuffled : Fun K "_law_shuffled" "_law_shuffled" s_law_shuffled f__law_shuffled d__law_shuffled
  g__law_shuffled : mg "_law_shuffled" = some (.ref f__law_shuffled)
  B__law_shuffled : Binds K d__law_shuffled ["things", "cell"] []
  f__law_heads : Addr
  d__law_heads : FuncData
  F__law_heads : Fun K "_law_heads" "_law_heads" s_law_heads f__law_heads d__law_heads
  g__law_heads : mg "_law_heads" = some (.ref f__law_heads)
  B__law_heads : Binds K d__law_heads ["arriving", "departing"] []
  f__law_after : Addr
  d__law_after : FuncData
  F__law_after : Fun K "_law_after" "_law_after" s_law_after f__law_after d__law_after
  g__law_after : mg "_law_after" = some (.ref f__law_after)
  B__law_after : Binds K d__law_after ["train", "tracks"] []
  f__law_departing : Addr
  d__law_departing : FuncData
  F__law_departing : Fun K "_law_departing" "_law_departing" s_law_departing f__law_departing d__law_departing
  g__law_departing : mg "_law_departing" = some (.ref f__law_departing)
  B__law_departing : Binds K d__law_departing ["arriving", "cell", "picks"] []
  f__law_enough : Addr
  d__law_enough : FuncData
  F__law_enough : Fun K "_law_enough" "_law_enough" s_law_enough f__law_enough d__law_enough
  g__law_enough : mg "_law_enough" = some (.ref f__law_enough)
  B__law_enough : Binds K d__law_enough ["count", "k", "passes"] []
  f__law_lists : Addr
  d__law_lists : FuncData
  F__law_lists : Fun K "_law_lists" "_law_lists" s_law_lists f__law_lists d__law_lists
  g__law_lists : mg "_law_lists" = some (.ref f__law_lists)
  B__law_lists : Binds K d__law_lists ["arriving", "departing", "k", "passes"] []
  f__law_accepts : Addr
  d__law_accepts : FuncData
  F__law_accepts : Fun K "_law_accepts" "_law_accepts" s_law_accepts f__law_accepts d__law_accepts
  g__law_accepts : mg "_law_accepts" = some (.ref f__law_accepts)
  B__law_accepts : Binds K d__law_accepts ["arriving", "departing", "k", "passes", "verdict"] []
  f__law_tracks_papers : Addr
  d__law_tracks_papers : FuncData
  F__law_tracks_papers : Fun K "_law_tracks_papers" "_law_tracks_papers" s_law_tracks_papers f__law_tracks_papers d__law_tracks_papers
  g__law_tracks_papers : mg "_law_tracks_papers" = some (.ref f__law_tracks_papers)
  B__law_tracks_papers : Binds K d__law_tracks_papers ["lists", "k", "passes", "count", "picks"] []
  f__law_runs_papers : Addr
  d__law_runs_papers : FuncData
  F__law_runs_papers : Fun K "_law_runs_papers" "_law_runs_papers" s_law_runs_papers f__law_runs_papers d__law_runs_papers
  g__law_runs_papers : mg "_law_runs_papers" = some (.ref f__law_runs_papers)
  B__law_runs_papers : Binds K d__law_runs_papers ["heads", "arriving", "picks"] []
  f__law_single_passes : Addr
  d__law_single_passes : FuncData
  F__law_single_passes : Fun K "_law_single_passes" "_law_single_passes" s_law_single_passes f__law_single_passes d__law_single_passes
  g__law_single_passes : mg "_law_single_passes" = some (.ref f__law_single_passes)
  B__law_single_passes : Binds K d__law_single_passes ["count"] []
  f__law_copied : Addr
  d__law_copied : FuncData
  F__law_copied : Fun K "_law_copied" "_law_copied" s_law_copied f__law_copied d__law_copied
  g__law_copied : mg "_law_copied" = some (.ref f__law_copied)
  B__law_copied : Binds K d__law_copied ["paper"] []
  f_law : Addr
  d_law : FuncData
  F_law : Fun K "law" "law" s_law f_law d_law
  g_law : mg "law" = some (.ref f_law)
  B_law : Binds K d_law ["script"] []
  kno : KNo K csK
  b_all : mg "all" = none
  b_bool : mg "bool" = none
  b_int : mg "int" = none
  b_isinstance : mg "isinstance" = none
  b_len : mg "len" = none
  b_list : mg "list" = none
  b_range : mg "range" = none
  b_set : mg "set" = none
  b_sorted : mg "sorted" = none
  b_zip : mg "zip" = none
section
variable {P : Program} {w : World} {K : PySem.W.Frag} {mg : Str → Option Value} {base : Heap}
theorem sc_run_heads : FnScope N_run_heads ["arriving", "departing"] (defScope s_run_heads) := ⟨rfl, rfl, rfl, by decide +kernel, rfl, by decide +kernel, by decide +kernel⟩
theorem ok_run_heads (T : Txt K mg) : FnOk P w K mg base (L2.CX P w) 1 T.f_run_heads T.d_run_heads ["arriving", "departing"] (spV K mg 2 m_run_heads) := by
  refine fn_frz (g := runB 4 g_run_heads) ?_
  refine fn_vl T.F_run_heads sc_run_heads rfl fun cdv A outer s H E hr => ?_
  have hu := hu65 hr
  have nd := sc_run_heads.nd
  have tk := takes_of (X := cxOf (L2.CX P w) P w K mg base N_run_heads "run_heads" (defScope s_run_heads) T.f_run_heads cdv A outer s H E) rfl rfl rfl rfl
  have hp := passes_of (X := cxOf (L2.CX P w) P w K mg base N_run_heads "run_heads" (defScope s_run_heads) T.f_run_heads cdv A outer s H E) rfl
  exact (qs_cons (vs_set 2 nd (vo_frF (vlst_f van_nil)))
      (qs_cons (vs_for hp rfl (vix_range2 T.b_range (vxF vint) (vxF (vlen_ T.b_len (VAn.va (van_cons (vv 1) van_nil))))) (vg 3 nd) (envT_kill _ [3])
      (vss_one (vs_if (qx_T (qgt (vindex_ hu (vv 0) (vix_ hu (vv 1) (vsub_ (vv 3) vint))) (vindex_ hu (vv 0) (vix_ hu (vv 1) (vv 3)))))
      (qs_cons (vs_app 2 (fun p => pe_bm PySem.F.plainAttrs_list PySem.F.slot_list_append PySem.F.type_list_append mt_append (pv 2) (pa_cons p pa_nil)) (vo_x (vxF (vix_ hu (vv 1) (vv 3)))))
      (qs_t (envT_kill _ [3]) qs_nil))
      (qs_t (envT_kill _ [3]) qs_nil))))
      (qs_t (envT_kill _ [0, 1]) (qs_t (envT_freeze _ [2]) (vss_one (vs_ret (vo_x (vxF (vv 2)))))))))
theorem sc_run_numbers : FnScope N_run_numbers ["arriving", "departing"] (defScope s_run_numbers) := ⟨rfl, rfl, rfl, by decide +kernel, rfl, by decide +kernel, by decide +kernel⟩
theorem ok_run_numbers (T : Txt K mg) : FnOk P w K mg base (L2.CX P w) 2 T.f_run_numbers T.d_run_numbers ["arriving", "departing"] (spV K mg 2 m_run_numbers) := by
  refine fn_frz (g := runB 6 g_run_numbers) ?_
  refine fn_vl T.F_run_numbers sc_run_numbers rfl fun cdv A outer s H E hr => ?_
  have hu := hu65 hr
  have nd := sc_run_numbers.nd
  have tk := takes_of (X := cxOf (L2.CX P w) P w K mg base N_run_numbers "run_numbers" (defScope s_run_numbers) T.f_run_numbers cdv A outer s H E) rfl rfl rfl rfl
  have hp := passes_of (X := cxOf (L2.CX P w) P w K mg base N_run_numbers "run_numbers" (defScope s_run_numbers) T.f_run_numbers cdv A outer s H E) rfl
  exact (qs_cons (vs_set 2 nd (vo_x (vxF (vcall (ok_run_heads T) (hr.mono (by decide)) T.g_run_heads T.F_run_heads.kp T.B_run_heads tk (van_cons (vv 0) (van_cons (vv 1) van_nil))))))
      (qs_cons (vs_set 3 nd (vo_dct false))
      (qs_cons (vs_set 4 nd (vo_x (vxF vint)))
      (qs_t (envT_kill _ [0]) (qs_cons (vs_forK hp rfl (qix_F (vi_seq (vv 1))) (vg 5 nd) (rs_kill _ [1]) (envT_kill _ [5])
      (qs_cons (vs_if (qx_T (qinX hu (vv 5) (vv 2)))
      (qs_cons (vs_aug ip_add 4 nd (vxF vint))
      (qs_t (envT_kill _ [1]) qs_nil))
      (qs_t (envT_kill _ [1]) qs_nil))
      (vss_one (vs_setX T.kno hu (fun p po q => ps_asg p (pg_sub po q set_list)) (vpl_var 3 (pv 3)) (vxF (vv 5)) (vo_x (vxF (vv 4)))))))
      (qs_t (envT_kill _ [2, 4, 5]) (qs_t (envT_freeze _ [3]) (vss_one (vs_ret (vo_x (vxF (vv 3))))))))))))
theorem sc_power : FnScope N_power ["k", "passes"] (defScope s_power) := ⟨rfl, rfl, rfl, by decide +kernel, rfl, by decide +kernel, by decide +kernel⟩
theorem ok_power (T : Txt K mg) : FnOk P w K mg base (L2.CX P w) 1 T.f_power T.d_power ["k", "passes"] (spV K mg 2 m_power) := by
  refine fn_frz (g := runB 4 g_power) ?_
  refine fn_vl T.F_power sc_power rfl fun cdv A outer s H E hr => ?_
  have hu := hu65 hr
  have nd := sc_power.nd
  have tk := takes_of (X := cxOf (L2.CX P w) P w K mg base N_power "power" (defScope s_power) T.f_power cdv A outer s H E) rfl rfl rfl rfl
  have hp := passes_of (X := cxOf (L2.CX P w) P w K mg base N_power "power" (defScope s_power) T.f_power cdv A outer s H E) rfl
  exact (qs_cons (vs_set 2 nd (vo_x (vxF vint)))
      (qs_cons (vs_forK hp rfl (vix_range1 T.b_range (vxF (vv 1))) (vg 3 nd) (rs_kill _ [1]) (envT_kill _ [3])
      (vss_one (vs_augG ip_mulK au_mul 2 nd (vxF (vv 0)))))
      (qs_t (envT_kill _ [0, 3]) (vss_one (vs_ret (vo_x (vxF (vv 2))))))))
theorem sc_digit : FnScope N_digit ["number", "k", "place"] (defScope s_digit) := ⟨rfl, rfl, rfl, by decide +kernel, rfl, by decide +kernel, by decide +kernel⟩
theorem ok_digit (T : Txt K mg) : FnOk P w K mg base (L2.CX P w) 1 T.f_digit T.d_digit ["number", "k", "place"] (spV K mg 3 m_digit) := by
  refine fn_frz (g := runB 4 g_digit) ?_
  refine fn_vl T.F_digit sc_digit rfl fun cdv A outer s H E hr => ?_
  have hu := hu65 hr
  have nd := sc_digit.nd
  have tk := takes_of (X := cxOf (L2.CX P w) P w K mg base N_digit "digit" (defScope s_digit) T.f_digit cdv A outer s H E) rfl rfl rfl rfl
  have hp := passes_of (X := cxOf (L2.CX P w) P w K mg base N_digit "digit" (defScope s_digit) T.f_digit cdv A outer s H E) rfl
  exact (qs_cons (vs_forK hp rfl (vix_range1 T.b_range (vxF (vv 2))) (vg 3 nd) (rs_kill _ [2]) (envT_kill _ [3])
      (vss_one (vs_augG ip_fdivK au_fdiv 0 nd (vxF (vv 1)))))
      (qs_t (envT_kill _ [3]) (vss_one (vs_ret (vo_x (vxF (vmod_ (vint_ T.b_int (VAn.va (van_cons (vv 0) van_nil))) (vv 1))))))))
theorem sc_after_pass : FnScope N_after_pass ["train", "tracks"] (defScope s_after_pass) := ⟨rfl, rfl, rfl, by decide +kernel, rfl, by decide +kernel, by decide +kernel⟩
theorem ok_after_pass (T : Txt K mg) : FnOk P w K mg base (L2.CX P w) 1 T.f_after_pass T.d_after_pass ["train", "tracks"] (spV K mg 2 m_after_pass) := by
  refine fn_frz (g := runB 6 g_after_pass) ?_
  refine fn_vl T.F_after_pass sc_after_pass rfl fun cdv A outer s H E hr => ?_
  have hu := hu65 hr
  have nd := sc_after_pass.nd
  have tk := takes_of (X := cxOf (L2.CX P w) P w K mg base N_after_pass "after_pass" (defScope s_after_pass) T.f_after_pass cdv A outer s H E) rfl rfl rfl rfl
  have hp := passes_of (X := cxOf (L2.CX P w) P w K mg base N_after_pass "after_pass" (defScope s_after_pass) T.f_after_pass cdv A outer s H E) rfl
  exact (qs_cons (vs_set 2 nd (vo_frF (vlst_f van_nil)))
      (qs_cons (vs_for hp rfl (qix_F (vi_seq (VFr.ve (vst_sorted rfl T.b_sorted (vst_list rfl T.b_set (vv 1)))))) (vg 3 nd) (envT_kill _ [3])
      (vss_one (vs_ext 2 (fun p => pe_bm PySem.F.plainAttrs_list PySem.F.slot_list_extend PySem.F.type_list_extend mt_extend (pv 2) (pa_cons p pa_nil)) (vo_frF (qcomp rfl nd (vi_zip T.b_zip (vv 0) (vv 1)) (blkOk_by (own := [("wagon", 4), ("own", 5)]) (N := N_after_pass) (sc := defScope s_after_pass) (by decide +kernel)) rfl (fun _ _ _ _ _ => (vg_tup rfl (vgs_cons (vg 4 nd) (vgs_cons (vg 5 nd) vgs_nil)))) (by decide) (fun _ _ _ _ _ => (vts_one (qeq hu (vv 5) (vv 3)))) (fun _ _ _ _ _ => (vv 4)))))))
      (qs_t (envT_kill _ [0, 1, 3]) (qs_t (envT_freeze _ [2]) (vss_one (vs_ret (vo_x (vxF (vv 2)))))))))
theorem sc_in_passes : FnScope N_in_passes ["arriving", "departing", "k", "passes"] (defScope s_in_passes) := ⟨rfl, rfl, rfl, by decide +kernel, rfl, by decide +kernel, by decide +kernel⟩
theorem ok_in_passes (T : Txt K mg) : FnOk P w K mg base (L2.CX P w) 3 T.f_in_passes T.d_in_passes ["arriving", "departing", "k", "passes"] (spV K mg 4 m_in_passes) := by
  refine fn_frz (g := runB 11 g_in_passes) ?_
  refine fn_vl T.F_in_passes sc_in_passes rfl fun cdv A outer s H E hr => ?_
  have hu := hu65 hr
  have nd := sc_in_passes.nd
  have tk := takes_of (X := cxOf (L2.CX P w) P w K mg base N_in_passes "in_passes" (defScope s_in_passes) T.f_in_passes cdv A outer s H E) rfl rfl rfl rfl
  have hp := passes_of (X := cxOf (L2.CX P w) P w K mg base N_in_passes "in_passes" (defScope s_in_passes) T.f_in_passes cdv A outer s H E) rfl
  exact (qs_cons (vs_set 4 nd (vo_x (vxF (vcall (ok_run_heads T) (hr.mono (by decide)) T.g_run_heads T.F_run_heads.kp T.B_run_heads tk (van_cons (vv 0) (van_cons (vv 1) van_nil))))))
      (qs_cons (vs_if (qx_T (qge (vlen_ T.b_len (VAn.va (van_cons (vv 4) van_nil))) (vcall (ok_power T) (hr.mono (by decide)) T.g_power T.F_power.kp T.B_power tk (van_cons (vv 2) (van_cons (vv 3) van_nil)))))
      (vss_one (vs_ret (vo_x (vxF (vtup_ (van_cons vstr (van_cons (vv 4) van_nil)))))))
      (qs_t (envT_kill _ [4]) qs_nil))
      (qs_cons (vs_set 5 nd (vo_x (vxF (vcall (ok_run_numbers T) (hr.mono (by decide)) T.g_run_numbers T.F_run_numbers.kp T.B_run_numbers tk (van_cons (vv 0) (van_cons (vv 1) van_nil))))))
      (qs_cons (vs_set 6 nd (vo_x (vxF (VFr.ve (vlist_f T.b_list (vv 0))))))
      (qs_cons (vs_set 7 nd (vo_frF (vlst_f van_nil)))
      (qs_t (envT_kill _ [0, 1]) (qs_cons (vs_forK hp rfl (vix_range1 T.b_range (vxF (vv 3))) (vg 8 nd) (rs_kill _ [3]) (envT_kill _ [8, 9])
      (qs_cons (qsetLc 9 mode_Z rfl nd rfl rfl (sw_true rfl rfl rfl (by decide +kernel)) (vi_seq (vv 6)) (blkOk_by (own := [("wagon", 10)]) (N := N_in_passes) (sc := defScope s_in_passes) (by decide +kernel)) rfl (fun _ _ _ _ _ => (vg 10 nd)) (by decide) (fun _ _ _ _ _ => vts_nil) (fun _ _ _ _ _ => (vcall (ok_digit T) (hr.mono (by decide)) T.g_digit T.F_digit.kp T.B_digit VL.takes0 (van_cons (vix_ hu (vv 5) (vv 10)) (van_cons (vv 2) (van_cons (vv 8) van_nil))))))
      (qs_cons (vs_app 7 (fun p => pe_bm PySem.F.plainAttrs_list PySem.F.slot_list_append PySem.F.type_list_append mt_append (pv 7) (pa_cons p pa_nil)) (vo_x (vxF (vv 9))))
      (vss_one (vs_set 6 nd (vo_x (vxF (vcall (ok_after_pass T) (hr.mono (by decide)) T.g_after_pass T.F_after_pass.kp T.B_after_pass tk (van_cons (vv 6) (van_cons (vv 9) van_nil))))))))))
      (qs_t (envT_kill _ [2, 5, 6, 8, 9]) (qs_t (envT_freeze _ [7]) (vss_one (vs_ret (vo_x (vxF (vtup_ (van_cons vstr (van_cons (vv 7) van_nil))))))))))))))))
theorem sc_is_pass : FnScope N_is_pass ["train", "tracks", "k"] (defScope s_is_pass) := ⟨rfl, rfl, rfl, by decide +kernel, rfl, by decide +kernel, by decide +kernel⟩
theorem ok_is_pass (T : Txt K mg) : FnOk P w K mg base (L2.CX P w) 1 T.f_is_pass T.d_is_pass ["train", "tracks", "k"] (spV K mg 3 m_is_pass) := by
  refine fn_frz (g := runB 4 g_is_pass) ?_
  refine fn_vl T.F_is_pass sc_is_pass rfl fun cdv A outer s H E hr => ?_
  have hu := hu65 hr
  have nd := sc_is_pass.nd
  have tk := takes_of (X := cxOf (L2.CX P w) P w K mg base N_is_pass "is_pass" (defScope s_is_pass) T.f_is_pass cdv A outer s H E) rfl rfl rfl rfl
  have hp := passes_of (X := cxOf (L2.CX P w) P w K mg base N_is_pass "is_pass" (defScope s_is_pass) T.f_is_pass cdv A outer s H E) rfl
  exact (vss_one (vs_ret (vo_x (vxF (vand_ (veq_ hu (vlen_ T.b_len (VAn.va (van_cons (vv 1) van_nil))) (vlen_ T.b_len (VAn.va (van_cons (vv 0) van_nil)))) (vone (vall_ rfl T.b_all (VAn.va (van_cons (VFr.ve (qcomp rfl nd (vi_seq (vv 1)) (blkOk_by (own := [("track", 3)]) (N := N_is_pass) (sc := defScope s_is_pass) (by decide +kernel)) rfl (fun _ _ _ _ _ => (vg 3 nd)) (by decide) (fun _ _ _ _ _ => vts_nil) (fun _ _ _ _ _ => (vchain_ ic_le ic_lt vint (vv 3) (vv 2))))) van_nil)))))))))
theorem sc_judge_tracks : FnScope N_judge_tracks ["arriving", "departing", "k", "passes", "lists"] (defScope s_judge_tracks) := ⟨rfl, rfl, rfl, by decide +kernel, rfl, by decide +kernel, by decide +kernel⟩
theorem ok_judge_tracks (T : Txt K mg) : FnOk P w K mg base (L2.CX P w) 2 T.f_judge_tracks T.d_judge_tracks ["arriving", "departing", "k", "passes", "lists"] (spV K mg 5 m_judge_tracks) := by
  refine fn_frz (g := runB 7 g_judge_tracks) ?_
  refine fn_vl T.F_judge_tracks sc_judge_tracks rfl fun cdv A outer s H E hr => ?_
  have hu := hu65 hr
  have nd := sc_judge_tracks.nd
  have tk := takes_of (X := cxOf (L2.CX P w) P w K mg base N_judge_tracks "judge_tracks" (defScope s_judge_tracks) T.f_judge_tracks cdv A outer s H E) rfl rfl rfl rfl
  have hp := passes_of (X := cxOf (L2.CX P w) P w K mg base N_judge_tracks "judge_tracks" (defScope s_judge_tracks) T.f_judge_tracks cdv A outer s H E) rfl
  exact (qs_cons (vs_if (qx_T (qne hu (vlen_ T.b_len (VAn.va (van_cons (vv 4) van_nil))) (vv 3)))
      (vss_one (vs_ret (vo_x (vxF vbool))))
      (qs_t (envT_kill _ [3]) qs_nil))
      (qs_cons (vs_set 5 nd (vo_x (vxF (VFr.ve (vlist_f T.b_list (vv 0))))))
      (qs_t (envT_kill _ [0]) (qs_cons (vs_forK hp rfl (qix_F (vi_seq (vv 4))) (vg 6 nd) (rs_kill _ [4]) (envT_kill _ [6])
      (qs_cons (vs_if (qx_T (vt_not (qtruth (vcall (ok_is_pass T) (hr.mono (by decide)) T.g_is_pass T.F_is_pass.kp T.B_is_pass tk (van_cons (vv 5) (van_cons (vv 6) (van_cons (vv 2) van_nil)))))))
      (vss_one (vs_ret (vo_x (vxF vbool))))
      (qs_t (envT_kill _ [4]) qs_nil))
      (vss_one (vs_set 5 nd (vo_x (vxF (vcall (ok_after_pass T) (hr.mono (by decide)) T.g_after_pass T.F_after_pass.kp T.B_after_pass tk (van_cons (vv 5) (van_cons (vv 6) van_nil)))))))))
      (qs_t (envT_kill _ [2, 6]) (vss_one (vs_ret (vo_x (vxF (veq_ hu (vv 5) (vv 1)))))))))))
theorem sc_judge_runs : FnScope N_judge_runs ["arriving", "departing", "k", "passes", "wagons"] (defScope s_judge_runs) := ⟨rfl, rfl, rfl, by decide +kernel, rfl, by decide +kernel, by decide +kernel⟩
theorem ok_judge_runs (T : Txt K mg) : FnOk P w K mg base (L2.CX P w) 2 T.f_judge_runs T.d_judge_runs ["arriving", "departing", "k", "passes", "wagons"] (spV K mg 5 m_judge_runs) := by
  refine fn_frz (g := runB 7 g_judge_runs) ?_
  refine fn_vl T.F_judge_runs sc_judge_runs rfl fun cdv A outer s H E hr => ?_
  have hu := hu65 hr
  have nd := sc_judge_runs.nd
  have tk := takes_of (X := cxOf (L2.CX P w) P w K mg base N_judge_runs "judge_runs" (defScope s_judge_runs) T.f_judge_runs cdv A outer s H E) rfl rfl rfl rfl
  have hp := passes_of (X := cxOf (L2.CX P w) P w K mg base N_judge_runs "judge_runs" (defScope s_judge_runs) T.f_judge_runs cdv A outer s H E) rfl
  exact (qs_cons (vs_set 5 nd (vo_x (vxF (vcall (ok_run_heads T) (hr.mono (by decide)) T.g_run_heads T.F_run_heads.kp T.B_run_heads tk (van_cons (vv 0) (van_cons (vv 1) van_nil))))))
      (qs_cons (vs_if (qx_T (VW.vt (vw_or (qne hu (vst_len T.b_len (vst_list rfl T.b_set (vv 4))) (vlen_ T.b_len (VAn.va (van_cons (vv 4) van_nil)))) (vw_or1 (vt_not (qtruth (vall_ rfl T.b_all (VAn.va (van_cons (VFr.ve (qcomp rfl nd (vi_seq (vv 4)) (blkOk_by (own := [("wagon", 6)]) (N := N_judge_runs) (sc := defScope s_judge_runs) (by decide +kernel)) rfl (fun _ _ _ _ _ => (vg 6 nd)) (by decide) (fun _ _ _ _ _ => vts_nil) (fun _ _ _ _ _ => (winX hu (vv 6) (vv 5))))) van_nil)))))))))
      (vss_one (vs_ret (vo_x (vxF vbool))))
      (qs_t (envT_kill _ [0, 1, 5]) qs_nil))
      (vss_one (vs_ret (vo_x (vxF (vge_ (vlen_ T.b_len (VAn.va (van_cons (vv 4) van_nil))) (vcall (ok_power T) (hr.mono (by decide)) T.g_power T.F_power.kp T.B_power tk (van_cons (vv 2) (van_cons (vv 3) van_nil))))))))))
theorem sc_judge_passes : FnScope N_judge_passes ["arriving", "departing", "k", "passes", "verdict"] (defScope s_judge_passes) := ⟨rfl, rfl, rfl, by decide +kernel, rfl, by decide +kernel, by decide +kernel⟩
theorem ok_judge_passes (T : Txt K mg) : FnOk P w K mg base (L2.CX P w) 3 T.f_judge_passes T.d_judge_passes ["arriving", "departing", "k", "passes", "verdict"] (spV K mg 5 m_judge_passes) := by
  refine fn_frz (g := runB 7 g_judge_passes) ?_
  refine fn_vl T.F_judge_passes sc_judge_passes rfl fun cdv A outer s H E hr => ?_
  have hu := hu65 hr
  have nd := sc_judge_passes.nd
  have tk := takes_of (X := cxOf (L2.CX P w) P w K mg base N_judge_passes "judge_passes" (defScope s_judge_passes) T.f_judge_passes cdv A outer s H E) rfl rfl rfl rfl
  have hp := passes_of (X := cxOf (L2.CX P w) P w K mg base N_judge_passes "judge_passes" (defScope s_judge_passes) T.f_judge_passes cdv A outer s H E) rfl
  exact (qs_cons (vs_tup (vg_tup rfl (vgs_cons (vg 5 nd) (vgs_cons (vg 6 nd) vgs_nil))) (vxF (vv 4)))
      (qs_cons (vs_if (qx_T (qeq hu (vv 5) vstr))
      (vss_one (vs_ret (vo_x (vxF (vcall (ok_judge_tracks T) (hr.mono (by decide)) T.g_judge_tracks T.F_judge_tracks.kp T.B_judge_tracks tk (van_cons (vv 0) (van_cons (vv 1) (van_cons (vv 2) (van_cons (vv 3) (van_cons (vv 6) van_nil))))))))))
      (qs_t (envT_kill _ [4]) qs_nil))
      (qs_cons (vs_if (qx_T (qeq hu (vv 5) vstr))
      (vss_one (vs_ret (vo_x (vxF (vcall (ok_judge_runs T) (hr.mono (by decide)) T.g_judge_runs T.F_judge_runs.kp T.B_judge_runs tk (van_cons (vv 0) (van_cons (vv 1) (van_cons (vv 2) (van_cons (vv 3) (van_cons (vv 6) van_nil))))))))))
      (qs_t (envT_kill _ [0, 1, 2, 3, 5, 6]) qs_nil))
      (vss_one (vs_ret (vo_x (vxF vbool)))))))
theorem sc_law_cell : FnScope N_law_cell ["script", "k"] (defScope s_law_cell) := ⟨rfl, rfl, rfl, by decide +kernel, rfl, by decide +kernel, by decide +kernel⟩
theorem ok_law_cell (T : Txt K mg) : FnOk P w K mg base (L2.CX P w) 1 T.f__law_cell T.d__law_cell ["script", "k"] (spV K mg 2 m_law_cell) := by
  refine fn_frz (g := runB 2 g_law_cell) ?_
  refine fn_vl T.F__law_cell sc_law_cell rfl fun cdv A outer s H E hr => ?_
  have hu := hu65 hr
  have nd := sc_law_cell.nd
  have tk := takes_of (X := cxOf (L2.CX P w) P w K mg base N_law_cell "_law_cell" (defScope s_law_cell) T.f__law_cell cdv A outer s H E) rfl rfl rfl rfl
  have hp := passes_of (X := cxOf (L2.CX P w) P w K mg base N_law_cell "_law_cell" (defScope s_law_cell) T.f__law_cell cdv A outer s H E) rfl
  exact (qs_cons (vs_if (qx_T (qlt (vv 1) (vlen_ T.b_len (VAn.va (van_cons (vv 0) van_nil)))))
      (vss_one (vs_ret (vo_x (vxF (vint_ T.b_int (VAn.va (van_cons (vix_ hu (vv 0) (vv 1)) van_nil)))))))
      (qs_t (envT_kill _ [0]) qs_nil))
      (vss_one (vs_ret (vo_x (vxF (vadd_ (vmul_ vint (vv 1)) vint))))))
theorem sc_law_numbers : FnScope N_law_numbers ["cell", "count", "limit"] (defScope s_law_numbers) := ⟨rfl, rfl, rfl, by decide +kernel, rfl, by decide +kernel, by decide +kernel⟩
theorem ok_law_numbers (T : Txt K mg) : FnOk P w K mg base (L2.CX P w) 1 T.f__law_numbers T.d__law_numbers ["cell", "count", "limit"] (spV K mg 3 m_law_numbers) := by
  refine fn_frz (g := runB 6 g_law_numbers) ?_
  refine fn_vl T.F__law_numbers sc_law_numbers rfl fun cdv A outer s H E hr => ?_
  have hu := hu65 hr
  have nd := sc_law_numbers.nd
  have tk := takes_of (X := cxOf (L2.CX P w) P w K mg base N_law_numbers "_law_numbers" (defScope s_law_numbers) T.f__law_numbers cdv A outer s H E) rfl rfl rfl rfl
  have hp := passes_of (X := cxOf (L2.CX P w) P w K mg base N_law_numbers "_law_numbers" (defScope s_law_numbers) T.f__law_numbers cdv A outer s H E) rfl
  exact (qs_cons (vs_set 3 nd (vo_frF (vlst_f van_nil)))
      (qs_cons (vs_if (qx_T (qge (vv 0) (vpow_ vint vint)))
      (qs_cons (vs_set 0 nd (vo_x (vxF (vsub_ (vv 0) (vpow_ vint vint)))))
      (qs_cons (vs_forK hp rfl (vix_range1 T.b_range (vxF (vv 1))) (vg 4 nd) (rs_kill _ [1]) (envT_kill _ [4])
      (qs_cons (vs_app 3 (fun p => pe_bm PySem.F.plainAttrs_list PySem.F.slot_list_append PySem.F.type_list_append mt_append (pv 3) (pa_cons p pa_nil)) (vo_x (vxF (vmod_ (vint_ T.b_int (VAn.va (van_cons (vv 0) van_nil))) (vv 2)))))
      (vss_one (vs_set 0 nd (vo_x (vxF (vfdiv_ (vint_ T.b_int (VAn.va (van_cons (vv 0) van_nil))) (vv 2))))))))
      (qs_t (envT_kill _ [0, 2, 4]) (qs_t (envT_freeze _ [3]) (vss_one (vs_ret (vo_x (vxF (vv 3)))))))))
      qs_nil)
      (qs_cons (vs_forK hp rfl (vix_range1 T.b_range (vxF (vv 1))) (vg 4 nd) (rs_kill _ [1]) (envT_kill _ [4, 5])
      (qs_cons (vs_set 5 nd (vo_x (vxF (vmod_ (vint_ T.b_int (VAn.va (van_cons (vadd_ (vadd_ (vmul_ (vv 0) vint) (vmul_ (vv 4) vint)) vint) van_nil))) vint))))
      (qs_cons (vs_set 5 nd (vo_x (vxF (vmod_ (vint_ T.b_int (VAn.va (van_cons (vadd_ (vadd_ (vadd_ (vmul_ (vv 5) (vv 5)) (vmul_ (vv 5) vint)) (vmul_ (vv 4) vint)) vint) van_nil))) vint))))
      (vss_one (vs_app 3 (fun p => pe_bm PySem.F.plainAttrs_list PySem.F.slot_list_append PySem.F.type_list_append mt_append (pv 3) (pa_cons p pa_nil)) (vo_x (vxF (vmod_ (vint_ T.b_int (VAn.va (van_cons (vfdiv_ (vv 5) vint) van_nil))) (vv 2)))))))))
      (qs_t (envT_kill _ [0, 2, 4, 5]) (qs_t (envT_freeze _ [3]) (vss_one (vs_ret (vo_x (vxF (vv 3))))))))))
theorem sc_law_train : FnScope N_law_train ["cell", "count"] (defScope s_law_train) := ⟨rfl, rfl, rfl, by decide +kernel, rfl, by decide +kernel, by decide +kernel⟩
theorem ok_law_train (T : Txt K mg) : FnOk P w K mg base (L2.CX P w) 2 T.f__law_train T.d__law_train ["cell", "count"] (spV K mg 2 m_law_train) := by
  refine fn_frz (g := runB 7 g_law_train) ?_
  refine fn_vl T.F__law_train sc_law_train rfl fun cdv A outer s H E hr => ?_
  have hu := hu65 hr
  have nd := sc_law_train.nd
  have tk := takes_of (X := cxOf (L2.CX P w) P w K mg base N_law_train "_law_train" (defScope s_law_train) T.f__law_train cdv A outer s H E) rfl rfl rfl rfl
  have hp := passes_of (X := cxOf (L2.CX P w) P w K mg base N_law_train "_law_train" (defScope s_law_train) T.f__law_train cdv A outer s H E) rfl
  exact (qs_cons (vs_set 2 nd (vo_x (vxF (vcall (ok_law_numbers T) (hr.mono (by decide)) T.g__law_numbers T.F__law_numbers.kp T.B__law_numbers tk (van_cons (vv 0) (van_cons (vmul_ vint (vv 1)) (van_cons vint van_nil)))))))
      (qs_cons (vs_set 3 nd (vo_frF (qlist_rg2 rfl T.b_list T.b_range vint (vadd_ (vv 1) vint))))
      (qs_cons (vs_set 4 nd (vo_frF (vlst_f van_nil)))
      (qs_t (envT_kill _ [0]) (qs_cons (vs_for hp rfl (vix_range1 T.b_range (vxF (vv 1))) (vg 5 nd) (envT_kill _ [5, 6])
      (qs_cons (vs_set 6 nd (vo_popAt 3 (fun p => pe_bm PySem.F.plainAttrs_list PySem.F.slot_list_pop PySem.F.type_list_pop mt_popAt (pv 3) (pa_cons p pa_nil)) (vxB (vmod_ (vix_ hu (vv 2) (vv 5)) (vlen_ T.b_len (VAn.va (van_cons (vv 3) van_nil)))))))
      (qs_cons (vs_if (qx_T (qeq hu (vmod_ (vix_ hu (vv 2) (vadd_ (vv 1) (vv 5))) vint) vint))
      (qs_cons (vs_set 6 nd (vo_x (vxF (vmul_ (vv 6) (vpow_ vint vint)))))
      (qs_t (envT_kill _ [5]) qs_nil))
      (vss_one (vs_if (qx_T (qlt (vmod_ (vix_ hu (vv 2) (vadd_ (vv 1) (vv 5))) vint) vint))
      (qs_cons (vs_set 6 nd (vo_x (vxF (vsub_ vint (vv 6)))))
      (qs_t (envT_kill _ [5]) qs_nil))
      (qs_t (envT_kill _ [5]) qs_nil))))
      (vss_one (vs_app 4 (fun p => pe_bm PySem.F.plainAttrs_list PySem.F.slot_list_append PySem.F.type_list_append mt_append (pv 4) (pa_cons p pa_nil)) (vo_x (vxF (vv 6))))))))
      (qs_t (envT_kill _ [1, 2, 3, 6]) (qs_t (envT_freeze _ [4]) (vss_one (vs_ret (vo_x (vxF (vv 4))))))))))))
theorem sc_law_shuffled : FnScope N_law_shuffled ["things", "cell"] (defScope s_law_shuffled) := ⟨rfl, rfl, rfl, by decide +kernel, rfl, by decide +kernel, by decide +kernel⟩
theorem ok_law_shuffled (T : Txt K mg) : FnOk P w K mg base (L2.CX P w) 2 T.f__law_shuffled T.d__law_shuffled ["things", "cell"] (spV K mg 2 m_law_shuffled) := by
  refine fn_frz (g := runB 6 g_law_shuffled) ?_
  refine fn_vl T.F__law_shuffled sc_law_shuffled rfl fun cdv A outer s H E hr => ?_
  have hu := hu65 hr
  have nd := sc_law_shuffled.nd
  have tk := takes_of (X := cxOf (L2.CX P w) P w K mg base N_law_shuffled "_law_shuffled" (defScope s_law_shuffled) T.f__law_shuffled cdv A outer s H E) rfl rfl rfl rfl
  have hp := passes_of (X := cxOf (L2.CX P w) P w K mg base N_law_shuffled "_law_shuffled" (defScope s_law_shuffled) T.f__law_shuffled cdv A outer s H E) rfl
  exact (qs_cons (vs_set 2 nd (vo_x (vxF (vcall (ok_law_numbers T) (hr.mono (by decide)) T.g__law_numbers T.F__law_numbers.kp T.B__law_numbers tk (van_cons (vv 1) (van_cons (vlen_ T.b_len (VAn.va (van_cons (vv 0) van_nil))) (van_cons vint van_nil)))))))
      (qs_cons (vs_set 3 nd (vo_frF (vlist_f T.b_list (vv 0))))
      (qs_cons (vs_set 4 nd (vo_frF (vlst_f van_nil)))
      (qs_t (envT_kill _ [1]) (qs_cons (vs_forK hp rfl (vix_range1 T.b_range (vxF (vlen_ T.b_len (VAn.va (van_cons (vv 0) van_nil))))) (vg 5 nd) (rs_kill _ [0]) (envT_kill _ [5])
      (vss_one (vs_app 4 (fun p => pe_bm PySem.F.plainAttrs_list PySem.F.slot_list_append PySem.F.type_list_append mt_append (pv 4) (pa_cons p pa_nil)) (vo_popAt 3 (fun p => pe_bm PySem.F.plainAttrs_list PySem.F.slot_list_pop PySem.F.type_list_pop mt_popAt (pv 3) (pa_cons p pa_nil)) (vxB (vmod_ (vix_ hu (vv 2) (vv 5)) (vlen_ T.b_len (VAn.va (van_cons (vv 3) van_nil)))))))))
      (qs_t (envT_kill _ [2, 3, 5]) (qs_t (envT_freeze _ [4]) (vss_one (vs_ret (vo_x (vxF (vv 4))))))))))))
theorem sc_law_heads : FnScope N_law_heads ["arriving", "departing"] (defScope s_law_heads) := ⟨rfl, rfl, rfl, by decide +kernel, rfl, by decide +kernel, by decide +kernel⟩
theorem ok_law_heads (T : Txt K mg) : FnOk P w K mg base (L2.CX P w) 1 T.f__law_heads T.d__law_heads ["arriving", "departing"] (spV K mg 2 m_law_heads) := by
  refine fn_frz (g := runB 5 g_law_heads) ?_
  refine fn_vl T.F__law_heads sc_law_heads rfl fun cdv A outer s H E hr => ?_
  have hu := hu65 hr
  have nd := sc_law_heads.nd
  have tk := takes_of (X := cxOf (L2.CX P w) P w K mg base N_law_heads "_law_heads" (defScope s_law_heads) T.f__law_heads cdv A outer s H E) rfl rfl rfl rfl
  have hp := passes_of (X := cxOf (L2.CX P w) P w K mg base N_law_heads "_law_heads" (defScope s_law_heads) T.f__law_heads cdv A outer s H E) rfl
  exact (qs_cons (vs_set 2 nd (vo_x (vxF (VFr.ve (qcomp rfl nd (vi_seq (vv 1)) (blkOk_by (own := [("wagon", 3)]) (N := N_law_heads) (sc := defScope s_law_heads) (by decide +kernel)) rfl (fun _ _ _ _ _ => (vg 3 nd)) (by decide) (fun _ _ _ _ _ => vts_nil) (fun _ _ _ _ _ => (vindex_ hu (vv 0) (vv 3))))))))
      (vss_one (vs_ret (vo_x (vxF (VFr.ve (qcomp rfl nd (vi_range2 T.b_range vint (vlen_ T.b_len (VAn.va (van_cons (vv 1) van_nil)))) (blkOk_by (own := [("k", 4)]) (N := N_law_heads) (sc := defScope s_law_heads) (by decide +kernel)) rfl (fun _ _ _ _ _ => (vg 4 nd)) (by decide) (fun _ _ _ _ _ => (vts_one (qlt (vix_ hu (vv 2) (vv 4)) (vix_ hu (vv 2) (vsub_ (vv 4) vint))))) (fun _ _ _ _ _ => (vix_ hu (vv 1) (vv 4))))))))))
theorem sc_law_after : FnScope N_law_after ["train", "tracks"] (defScope s_law_after) := ⟨rfl, rfl, rfl, by decide +kernel, rfl, by decide +kernel, by decide +kernel⟩
theorem okO_law_after (T : Txt K mg) : FnOk P w K mg base (L2.CX P w) 1 T.f__law_after T.d__law_after ["train", "tracks"] (spO K mg 2 mo_law_after) := by
  refine fn_vl T.F__law_after sc_law_after rfl fun cdv A outer s H E hr => ?_
  have hu := hu65 hr
  have nd := sc_law_after.nd
  have tk := takes_of (X := cxOf (L2.CX P w) P w K mg base N_law_after "_law_after" (defScope s_law_after) T.f__law_after cdv A outer s H E) rfl rfl rfl rfl
  have hp := passes_of (X := cxOf (L2.CX P w) P w K mg base N_law_after "_law_after" (defScope s_law_after) T.f__law_after cdv A outer s H E) rfl
  exact (qs_cons (vs_set 2 nd (vo_x (vxF (VFr.ve (vsortD_f hu T.b_sorted (VFr.ve (qcomp rfl nd (vi_range1 T.b_range (vlen_ T.b_len (VAn.va (van_cons (vv 0) van_nil)))) (blkOk_by (own := [("k", 5)]) (N := N_law_after) (sc := defScope s_law_after) (by decide +kernel)) rfl (fun _ _ _ _ _ => (vg 5 nd)) (by decide) (fun _ _ _ _ _ => vts_nil) (fun _ _ _ _ _ => (vtup_ (van_cons (vix_ hu (vv 1) (vv 5)) (van_cons (vv 5) van_nil)))))))))))
      (vss_one (vs_ret (vo_frF (qcomp rfl nd (vi_seq (vv 2)) (blkOk_by (own := [("track", 3), ("place", 4)]) (N := N_law_after) (sc := defScope s_law_after) (by decide +kernel)) rfl (fun _ _ _ _ _ => (vg_tup rfl (vgs_cons (vg 3 nd) (vgs_cons (vg 4 nd) vgs_nil)))) (by decide) (fun _ _ _ _ _ => vts_nil) (fun _ _ _ _ _ => (vix_ hu (vv 0) (vv 4))))))))
theorem ok_law_after (T : Txt K mg) : FnOk P w K mg base (L2.CX P w) 1 T.f__law_after T.d__law_after ["train", "tracks"] (spV K mg 2 m_law_after) := fn_frz (okO_law_after T)
theorem sc_law_departing : FnScope N_law_departing ["arriving", "cell", "picks"] (defScope s_law_departing) := ⟨rfl, rfl, rfl, by decide +kernel, rfl, by decide +kernel, by decide +kernel⟩
theorem ok_law_departing (T : Txt K mg) : FnOk P w K mg base (L2.CX P w) 3 T.f__law_departing T.d__law_departing ["arriving", "cell", "picks"] (spV K mg 3 m_law_departing) := by
  refine fn_frz (g := runB 9 g_law_departing) ?_
  refine fn_vl T.F__law_departing sc_law_departing rfl fun cdv A outer s H E hr => ?_
  have hu := hu65 hr
  have nd := sc_law_departing.nd
  have tk := takes_of (X := cxOf (L2.CX P w) P w K mg base N_law_departing "_law_departing" (defScope s_law_departing) T.f__law_departing cdv A outer s H E) rfl rfl rfl rfl
  have hp := passes_of (X := cxOf (L2.CX P w) P w K mg base N_law_departing "_law_departing" (defScope s_law_departing) T.f__law_departing cdv A outer s H E) rfl
  exact (qs_cons (vs_set 3 nd (vo_x (vxF (vlen_ T.b_len (VAn.va (van_cons (vv 0) van_nil))))))
      (qs_cons (vs_if (qx_T (qeq hu (vmod_ (vidx_ (vv 2) vint) vint) vint))
      (vss_one (vs_ret (vo_x (vxF (vcall (ok_law_shuffled T) (hr.mono (by decide)) T.g__law_shuffled T.F__law_shuffled.kp T.B__law_shuffled tk (van_cons (vv 0) (van_cons (vv 1) van_nil)))))))
      qs_nil)
      (qs_cons (vs_if (qx_T (qeq hu (vmod_ (vidx_ (vv 2) vint) vint) vint))
      (vss_one (vs_ret (vo_x (vxF (VFr.ve (qcomp rfl nd (vi_range1 T.b_range (vv 3)) (blkOk_by (own := [("k", 8)]) (N := N_law_departing) (sc := defScope s_law_departing) (by decide +kernel)) rfl (fun _ _ _ _ _ => (vg 8 nd)) (by decide) (fun _ _ _ _ _ => vts_nil) (fun _ _ _ _ _ => (vix_ hu (vv 0) (vsub_ (vsub_ (vv 3) vint) (vv 8))))))))))
      qs_nil)
      (qs_cons (vs_set 4 nd (vo_x (vxF (vcall (ok_law_numbers T) (hr.mono (by decide)) T.g__law_numbers T.F__law_numbers.kp T.B__law_numbers tk (van_cons (vv 1) (van_cons (vv 3) (van_cons vint van_nil)))))))
      (qs_cons (vs_set 5 nd (vo_x (vxF (vadd_ vint (vmod_ (vidx_ (vv 2) vint) vint)))))
      (qs_cons (vs_set 6 nd (vo_x (vxF (VFr.ve (vlst_f van_nil)))))
      (qs_t (envT_kill _ [1, 2]) (qs_cons (vs_for hp rfl (vix_range1 T.b_range (vxF (vv 5))) (vg 7 nd) (envT_kill _ [7])
      (vss_one (vs_set 6 nd (vo_x (vxF (vadd_ (vv 6) (VFr.ve (qcomp rfl nd (vi_range1 T.b_range (vv 3)) (blkOk_by (own := [("k", 8)]) (N := N_law_departing) (sc := defScope s_law_departing) (by decide +kernel)) rfl (fun _ _ _ _ _ => (vg 8 nd)) (by decide) (fun _ _ _ _ _ => (vts_one (qeq hu (vmod_ (vix_ hu (vv 4) (vv 8)) (vv 5)) (vv 7)))) (fun _ _ _ _ _ => (vix_ hu (vv 0) (vv 8)))))))))))
      (qs_t (envT_kill _ [0, 3, 4, 5, 7]) (vss_one (vs_ret (vo_x (vxF (vv 6))))))))))))))
theorem sc_law_enough : FnScope N_law_enough ["count", "k", "passes"] (defScope s_law_enough) := ⟨rfl, rfl, rfl, by decide +kernel, rfl, by decide +kernel, by decide +kernel⟩
theorem ok_law_enough (T : Txt K mg) : FnOk P w K mg base (L2.CX P w) 1 T.f__law_enough T.d__law_enough ["count", "k", "passes"] (spV K mg 3 m_law_enough) := by
  refine fn_frz (g := runB 5 g_law_enough) ?_
  refine fn_vl T.F__law_enough sc_law_enough rfl fun cdv A outer s H E hr => ?_
  have hu := hu65 hr
  have nd := sc_law_enough.nd
  have tk := takes_of (X := cxOf (L2.CX P w) P w K mg base N_law_enough "_law_enough" (defScope s_law_enough) T.f__law_enough cdv A outer s H E) rfl rfl rfl rfl
  have hp := passes_of (X := cxOf (L2.CX P w) P w K mg base N_law_enough "_law_enough" (defScope s_law_enough) T.f__law_enough cdv A outer s H E) rfl
  exact (qs_cons (vs_set 3 nd (vo_x (vxF vint)))
      (qs_cons (vs_forK hp rfl (vix_range1 T.b_range (vxF (vv 2))) (vg 4 nd) (rs_kill _ [2]) (envT_kill _ [4])
      (vss_one (vs_set 3 nd (vo_x (vxF (vmul_ (vv 3) (vv 1)))))))
      (qs_t (envT_kill _ [1, 4]) (vss_one (vs_ret (vo_x (vxF (vgt_ (vv 3) (vv 0)))))))))
theorem sc_law_lists : FnScope N_law_lists ["arriving", "departing", "k", "passes"] (defScope s_law_lists) := ⟨rfl, rfl, rfl, by decide +kernel, rfl, by decide +kernel, by decide +kernel⟩
theorem ok_law_lists (T : Txt K mg) : FnOk P w K mg base (L2.CX P w) 2 T.f__law_lists T.d__law_lists ["arriving", "departing", "k", "passes"] (spV K mg 4 m_law_lists) := by
  refine fn_frz (g := runB 11 g_law_lists) ?_
  refine fn_vl T.F__law_lists sc_law_lists rfl fun cdv A outer s H E hr => ?_
  have hu := hu65 hr
  have nd := sc_law_lists.nd
  have tk := takes_of (X := cxOf (L2.CX P w) P w K mg base N_law_lists "_law_lists" (defScope s_law_lists) T.f__law_lists cdv A outer s H E) rfl rfl rfl rfl
  have hp := passes_of (X := cxOf (L2.CX P w) P w K mg base N_law_lists "_law_lists" (defScope s_law_lists) T.f__law_lists cdv A outer s H E) rfl
  exact (qs_cons (vs_set 4 nd (vo_x (vxF (vcall (ok_law_heads T) (hr.mono (by decide)) T.g__law_heads T.F__law_heads.kp T.B__law_heads tk (van_cons (vv 0) (van_cons (vv 1) van_nil))))))
      (qs_cons (vs_set 5 nd (vo_dct false))
      (qs_cons (vs_set 6 nd (vo_x (vxF vint)))
      (qs_cons (vs_for hp rfl (qix_F (vi_seq (vv 1))) (vg 7 nd) (envT_kill _ [7])
      (qs_cons (vs_if (qx_T (qinX hu (vv 7) (vv 4)))
      (vss_one (vs_set 6 nd (vo_x (vxF (vadd_ (vv 6) vint)))))
      qs_nil)
      (vss_one (vs_setX T.kno hu (fun p po q => ps_asg p (pg_sub po q set_list)) (vpl_var 5 (pv 5)) (vxF (vv 7)) (vo_x (vxF (vv 6)))))))
      (qs_t (envT_kill _ [4, 6, 7]) (qs_cons (vs_set 8 nd (vo_x (vxF (VFr.ve (vlist_f T.b_list (vv 0))))))
      (qs_cons (vs_set 9 nd (vo_frF (vlst_f van_nil)))
      (qs_t (envT_kill _ [0]) (qs_cons (vs_forK hp rfl (vix_range1 T.b_range (vxF (vv 3))) (vg 10 nd) (rs_kill _ [3]) (envT_kill _ [7, 10])
      (qs_cons (vs_app 9 (fun p => pe_bm PySem.F.plainAttrs_list PySem.F.slot_list_append PySem.F.type_list_append mt_append (pv 9) (pa_cons p pa_nil)) (vo_frB (qcomp rfl nd (vi_seq (vv 8)) (blkOk_by (own := [("wagon", 7)]) (N := N_law_lists) (sc := defScope s_law_lists) (by decide +kernel)) rfl (fun _ _ _ _ _ => (vg 7 nd)) (by decide) (fun _ _ _ _ _ => vts_nil) (fun _ _ _ _ _ => (vmod_ (vix_ hu (vv 5) (vv 7)) (vv 2))))))
      (qs_cons (vs_set 8 nd (vo_callB (okO_law_after T) (hr.mono (by decide)) T.g__law_after T.F__law_after.kp T.B__law_after tk (van_cons (vv 8) (van_cons (vix_ hu (vv 9) (vv 10)) van_nil))))
      (qs_t (envT_freeze _ [8]) (qs_t (envT_kill _ [3, 10]) (vss_one (vs_for hp rfl (qix_F (vi_seq (vv 1))) (vg 7 nd) (envT_kill _ [7])
      (vss_one (vs_setX T.kno hu (fun p po q => ps_asg p (pg_sub po q set_list)) (vpl_var 5 (pv 5)) (vxF (vv 7)) (vo_x (vxB (vfdiv_ (vix_ hu (vv 5) (vv 7)) (vv 2)))))))))))))
      (qs_t (envT_kill _ [1, 2, 5, 7, 8]) (qs_t (envT_freeze _ [9]) (vss_one (vs_ret (vo_x (vxF (vv 9))))))))))))))))
theorem sc_law_accepts : FnScope N_law_accepts ["arriving", "departing", "k", "passes", "verdict"] (defScope s_law_accepts) := ⟨rfl, rfl, rfl, by decide +kernel, rfl, by decide +kernel, by decide +kernel⟩
theorem ok_law_accepts (T : Txt K mg) : FnOk P w K mg base (L2.CX P w) 2 T.f__law_accepts T.d__law_accepts ["arriving", "departing", "k", "passes", "verdict"] (spV K mg 5 m_law_accepts) := by
  refine fn_frz (g := runB 12 g_law_accepts) ?_
  refine fn_vl T.F__law_accepts sc_law_accepts rfl fun cdv A outer s H E hr => ?_
  have hu := hu65 hr
  have nd := sc_law_accepts.nd
  have tk := takes_of (X := cxOf (L2.CX P w) P w K mg base N_law_accepts "_law_accepts" (defScope s_law_accepts) T.f__law_accepts cdv A outer s H E) rfl rfl rfl rfl
  have hp := passes_of (X := cxOf (L2.CX P w) P w K mg base N_law_accepts "_law_accepts" (defScope s_law_accepts) T.f__law_accepts cdv A outer s H E) rfl
  exact (qs_cons (vs_tup (vg_tup rfl (vgs_cons (vg 5 nd) (vgs_cons (vg 6 nd) vgs_nil))) (vxF (vv 4)))
      (qs_cons (vs_set 7 nd (vo_x (vxF (vcall (ok_law_heads T) (hr.mono (by decide)) T.g__law_heads T.F__law_heads.kp T.B__law_heads tk (van_cons (vv 0) (van_cons (vv 1) van_nil))))))
      (qs_cons (vs_if (qx_T (qeq hu (vv 5) vstr))
      (qs_t (envT_kill _ [0, 1, 4, 5]) (qs_cons (vs_for hp rfl (vix_range1 T.b_range (vxF (vlen_ T.b_len (VAn.va (van_cons (vv 6) van_nil))))) (vg 8 nd) (envT_kill _ [8])
      (vss_one (vs_if (qx_T (VW.vt (vw_or (qnotinX hu (vix_ hu (vv 6) (vv 8)) (vv 7)) (vw_or1 (qinX hu (vix_ hu (vv 6) (vv 8)) (vslice_ (vv 6) (qo_some vint) (qo_some (vv 8))))))))
      (vss_one (vs_ret (vo_x (vxF vbool))))
      (qs_t (envT_kill _ [8]) qs_nil))))
      (qs_t (envT_kill _ [7]) (vss_one (vs_ret (vo_x (vxF (vnot_ (vcall (ok_law_enough T) (hr.mono (by decide)) T.g__law_enough T.F__law_enough.kp T.B__law_enough tk (van_cons (vlen_ T.b_len (VAn.va (van_cons (vv 6) van_nil))) (van_cons (vv 2) (van_cons (vv 3) van_nil))))))))))))
      (qs_t (envT_kill _ [4, 7]) qs_nil))
      (qs_cons (vs_if (qx_T (VW.vt (vw_or (qne hu (vv 5) vstr) (vw_or1 (qne hu (vlen_ T.b_len (VAn.va (van_cons (vv 6) van_nil))) (vv 3))))))
      (vss_one (vs_ret (vo_x (vxF vbool))))
      (qs_t (envT_kill _ [3, 5]) qs_nil))
      (qs_cons (vs_set 9 nd (vo_x (vxF (VFr.ve (vlist_f T.b_list (vv 0))))))
      (qs_t (envT_kill _ [0]) (qs_cons (vs_forK hp rfl (qix_F (vi_seq (vv 6))) (vg 10 nd) (rs_kill _ [6]) (envT_kill _ [10])
      (qs_cons (vs_if (qx_T (VW.vt (vw_or (qne hu (vlen_ T.b_len (VAn.va (van_cons (vv 10) van_nil))) (vlen_ T.b_len (VAn.va (van_cons (vv 9) van_nil)))) (vw_or1 (qgt (vlen_ T.b_len (VAn.va (van_cons (VFr.ve (qcomp rfl nd (vi_seq (vv 10)) (blkOk_by (own := [("track", 11)]) (N := N_law_accepts) (sc := defScope s_law_accepts) (by decide +kernel)) rfl (fun _ _ _ _ _ => (vg 11 nd)) (by decide) (fun _ _ _ _ _ => (vts_one (VW.vt (vw_or (qlt (vv 11) vint) (vw_or1 (qge (vv 11) (vv 2))))))) (fun _ _ _ _ _ => (vv 11)))) van_nil))) vint)))))
      (vss_one (vs_ret (vo_x (vxF vbool))))
      (qs_t (envT_kill _ [6]) qs_nil))
      (vss_one (vs_set 9 nd (vo_x (vxF (vcall (ok_law_after T) (hr.mono (by decide)) T.g__law_after T.F__law_after.kp T.B__law_after tk (van_cons (vv 9) (van_cons (vv 10) van_nil)))))))))
      (qs_t (envT_kill _ [2, 10]) (vss_one (vs_ret (vo_x (vxF (veq_ hu (vv 9) (vv 1))))))))))))))
theorem sc_law_tracks_papers : FnScope N_law_tracks_papers ["lists", "k", "passes", "count", "picks"] (defScope s_law_tracks_papers) := ⟨rfl, rfl, rfl, by decide +kernel, rfl, by decide +kernel, by decide +kernel⟩
theorem ok_law_tracks_papers (T : Txt K mg) : FnOk P w K mg base (L2.CX P w) 1 T.f__law_tracks_papers T.d__law_tracks_papers ["lists", "k", "passes", "count", "picks"] (spV K mg 5 m_law_tracks_papers) := by
  refine fn_frz (g := runB 14 g_law_tracks_papers) ?_
  refine fn_vl T.F__law_tracks_papers sc_law_tracks_papers rfl fun cdv A outer s H E hr => ?_
  have hu := hu65 hr
  have nd := sc_law_tracks_papers.nd
  have tk := takes_of (X := cxOf (L2.CX P w) P w K mg base N_law_tracks_papers "_law_tracks_papers" (defScope s_law_tracks_papers) T.f__law_tracks_papers cdv A outer s H E) rfl rfl rfl rfl
  have hp := passes_of (X := cxOf (L2.CX P w) P w K mg base N_law_tracks_papers "_law_tracks_papers" (defScope s_law_tracks_papers) T.f__law_tracks_papers cdv A outer s H E) rfl
  exact (qs_cons (vs_set 5 nd (vo_frF (vlst_f (van_cons (vv 0) (van_cons (vadd_ (vv 0) (VFr.ve (vlst_f (van_cons (VFr.ve (qcomp rfl nd (vi_range1 T.b_range (vv 3)) (blkOk_by (own := [("j", 13)]) (N := N_law_tracks_papers) (sc := defScope s_law_tracks_papers) (by decide +kernel)) rfl (fun _ _ _ _ _ => (vg 13 nd)) (by decide) (fun _ _ _ _ _ => vts_nil) (fun _ _ _ _ _ => vint))) van_nil)))) (van_cons (vslice_ (vv 0) (qo_some vint) qo_none) (van_cons (VFr.ve (vlst_f van_nil)) (van_cons (VFr.ve (qcomp rfl nd (vi_seq (VFr.ve (vrev_f (vv 0)))) (blkOk_by (own := [("row", 7)]) (N := N_law_tracks_papers) (sc := defScope s_law_tracks_papers) (by decide +kernel)) rfl (fun _ _ _ _ _ => (vg 7 nd)) (by decide) (fun _ _ _ _ _ => vts_nil) (fun _ _ _ _ _ => (VFr.ve (vlist_f T.b_list (vv 7)))))) van_nil))))))))
      (qs_cons (vs_if (qx_T (qgt (vv 2) vint))
      (qs_cons (vs_set 6 nd (vo_x (vxF (vmod_ (vidx_ (vv 4) vint) (vlen_ T.b_len (VAn.va (van_cons (vv 0) van_nil)))))))
      (qs_cons (vs_set 7 nd (vo_x (vxF (vix_ hu (vv 0) (vv 6)))))
      (qs_cons (vs_set 8 nd (vo_frF (vlst_f (van_cons (vslice_ (vv 7) (qo_some vint) qo_none) (van_cons (vadd_ (vv 7) (VFr.ve (vlst_f (van_cons vint van_nil)))) van_nil)))))
      (qs_cons (vs_if (qx_T (qgt (vv 3) vint))
      (qs_cons (vs_set 9 nd (vo_x (vxF (vmod_ (vidx_ (vv 4) vint) (vv 3)))))
      (qs_t (envT_kill _ [2, 3]) (qs_cons (vs_forK hp rfl (qix_F (vi_seq (VFr.ve (vlst_f (van_cons (vmod_ (vidx_ (vv 4) vint) (vv 1)) (van_cons (vsub_ (vv 1) vint) (van_cons (vv 1) (van_cons (vneg_ vint) van_nil)))))))) (vg 10 nd) (rs_kill _ [1, 4]) (envT_kill _ [10])
      (vss_one (vs_app 8 (fun p => pe_bm PySem.F.plainAttrs_list PySem.F.slot_list_append PySem.F.type_list_append mt_append (pv 8) (pa_cons p pa_nil)) (vo_x (vxF (vadd_ (vadd_ (vslice_ (vv 7) (qo_some vint) (qo_some (vv 9))) (VFr.ve (vlst_f (van_cons (vv 10) van_nil)))) (vslice_ (vv 7) (qo_some (vadd_ (vv 9) vint)) qo_none)))))))
      (qs_t (envT_freeze _ [8]) (qs_t (envT_kill _ [7, 9, 10]) qs_nil)))))
      (qs_t (envT_freeze _ [8]) (qs_t (envT_kill _ [1, 2, 3, 4, 7]) qs_nil)))
      (qs_cons (vs_forK hp rfl (qix_F (vi_seq (vv 8))) (vg 11 nd) (rs_kill _ [8]) (envT_kill _ [11])
      (vss_one (vs_app 5 (fun p => pe_bm PySem.F.plainAttrs_list PySem.F.slot_list_append PySem.F.type_list_append mt_append (pv 5) (pa_cons p pa_nil)) (vo_x (vxF (vadd_ (vadd_ (vslice_ (vv 0) (qo_some vint) (qo_some (vv 6))) (VFr.ve (vlst_f (van_cons (vv 11) van_nil)))) (vslice_ (vv 0) (qo_some (vadd_ (vv 6) vint)) qo_none)))))))
      (qs_t (envT_freeze _ [5]) (qs_t (envT_kill _ [0, 6, 11]) qs_nil)))))))
      (qs_t (envT_freeze _ [5]) (qs_t (envT_kill _ [0, 1, 2, 3, 4]) qs_nil)))
      (vss_one (vs_ret (vo_x (vxF (VFr.ve (qcomp rfl nd (vi_seq (vv 5)) (blkOk_by (own := [("rows", 12)]) (N := N_law_tracks_papers) (sc := defScope s_law_tracks_papers) (by decide +kernel)) rfl (fun _ _ _ _ _ => (vg 12 nd)) (by decide) (fun _ _ _ _ _ => vts_nil) (fun _ _ _ _ _ => (vtup_ (van_cons vstr (van_cons (vv 12) van_nil))))))))))))
theorem sc_law_runs_papers : FnScope N_law_runs_papers ["heads", "arriving", "picks"] (defScope s_law_runs_papers) := ⟨rfl, rfl, rfl, by decide +kernel, rfl, by decide +kernel, by decide +kernel⟩
theorem ok_law_runs_papers (T : Txt K mg) : FnOk P w K mg base (L2.CX P w) 1 T.f__law_runs_papers T.d__law_runs_papers ["heads", "arriving", "picks"] (spV K mg 3 m_law_runs_papers) := by
  refine fn_frz (g := runB 7 g_law_runs_papers) ?_
  refine fn_vl T.F__law_runs_papers sc_law_runs_papers rfl fun cdv A outer s H E hr => ?_
  have hu := hu65 hr
  have nd := sc_law_runs_papers.nd
  have tk := takes_of (X := cxOf (L2.CX P w) P w K mg base N_law_runs_papers "_law_runs_papers" (defScope s_law_runs_papers) T.f__law_runs_papers cdv A outer s H E) rfl rfl rfl rfl
  have hp := passes_of (X := cxOf (L2.CX P w) P w K mg base N_law_runs_papers "_law_runs_papers" (defScope s_law_runs_papers) T.f__law_runs_papers cdv A outer s H E) rfl
  exact (qs_cons (vs_set 3 nd (vo_frF (vlst_f (van_cons (vv 0) (van_cons (VFr.ve (vlst_f van_nil)) (van_cons (vadd_ (vv 0) (vslice_ (vv 0) (qo_some vint) (qo_some vint))) (van_cons (vslice_ (vv 0) (qo_some vint) qo_none) (van_cons (VFr.ve (qcomp rfl nd (vi_range1 T.b_range (vlen_ T.b_len (VAn.va (van_cons (vv 0) van_nil)))) (blkOk_by (own := [("j", 6)]) (N := N_law_runs_papers) (sc := defScope s_law_runs_papers) (by decide +kernel)) rfl (fun _ _ _ _ _ => (vg 6 nd)) (by decide) (fun _ _ _ _ _ => vts_nil) (fun _ _ _ _ _ => (vix_ hu (vv 0) (vsub_ (vsub_ (vlen_ T.b_len (VAn.va (van_cons (vv 0) van_nil))) vint) (vv 6)))))) van_nil))))))))
      (qs_cons (vs_app 3 (fun p => pe_bm PySem.F.plainAttrs_list PySem.F.slot_list_append PySem.F.type_list_append mt_append (pv 3) (pa_cons p pa_nil)) (vo_x (vxF (vadd_ (vv 0) (VFr.ve (vlst_f (van_cons (vpow_ vint vint) van_nil)))))))
      (qs_cons (vs_app 3 (fun p => pe_bm PySem.F.plainAttrs_list PySem.F.slot_list_append PySem.F.type_list_append mt_append (pv 3) (pa_cons p pa_nil)) (vo_x (vxF (vv 1))))
      (qs_cons (vs_if (qx_T (qgt (vlen_ T.b_len (VAn.va (van_cons (vv 1) van_nil))) vint))
      (qs_cons (vs_set 4 nd (vo_x (vxF (vmod_ (vidx_ (vv 2) vint) (vadd_ (vlen_ T.b_len (VAn.va (van_cons (vv 0) van_nil))) vint)))))
      (qs_cons (vs_app 3 (fun p => pe_bm PySem.F.plainAttrs_list PySem.F.slot_list_append PySem.F.type_list_append mt_append (pv 3) (pa_cons p pa_nil)) (vo_x (vxF (vadd_ (vadd_ (vslice_ (vv 0) (qo_some vint) (qo_some (vv 4))) (VFr.ve (vlst_f (van_cons (vix_ hu (vv 1) (vmod_ (vidx_ (vv 2) vint) (vlen_ T.b_len (VAn.va (van_cons (vv 1) van_nil))))) van_nil)))) (vslice_ (vv 0) (qo_some (vadd_ (vv 4) vint)) qo_none)))))
      (qs_t (envT_freeze _ [3]) (qs_t (envT_kill _ [0, 1, 2, 4]) qs_nil))))
      (qs_t (envT_freeze _ [3]) (qs_t (envT_kill _ [0, 1, 2]) qs_nil)))
      (vss_one (vs_ret (vo_x (vxF (VFr.ve (qcomp rfl nd (vi_seq (vv 3)) (blkOk_by (own := [("rows", 5)]) (N := N_law_runs_papers) (sc := defScope s_law_runs_papers) (by decide +kernel)) rfl (fun _ _ _ _ _ => (vg 5 nd)) (by decide) (fun _ _ _ _ _ => vts_nil) (fun _ _ _ _ _ => (vtup_ (van_cons vstr (van_cons (vv 5) van_nil))))))))))))))
theorem sc_law_single_passes : FnScope N_law_single_passes ["count"] (defScope s_law_single_passes) := ⟨rfl, rfl, rfl, by decide +kernel, rfl, by decide +kernel, by decide +kernel⟩
theorem ok_law_single_passes (T : Txt K mg) : FnOk P w K mg base (L2.CX P w) 1 T.f__law_single_passes T.d__law_single_passes ["count"] (spV K mg 1 m_law_single_passes) := by
  refine fn_frz (g := runB 5 g_law_single_passes) ?_
  refine fn_vl T.F__law_single_passes sc_law_single_passes rfl fun cdv A outer s H E hr => ?_
  have hu := hu65 hr
  have nd := sc_law_single_passes.nd
  have tk := takes_of (X := cxOf (L2.CX P w) P w K mg base N_law_single_passes "_law_single_passes" (defScope s_law_single_passes) T.f__law_single_passes cdv A outer s H E) rfl rfl rfl rfl
  have hp := passes_of (X := cxOf (L2.CX P w) P w K mg base N_law_single_passes "_law_single_passes" (defScope s_law_single_passes) T.f__law_single_passes cdv A outer s H E) rfl
  exact (qs_cons (vs_set 1 nd (vo_x (vxF (VFr.ve (vlst_f (van_cons (VFr.ve (vlst_f van_nil)) van_nil))))))
      (qs_cons (vs_forK hp rfl (vix_range1 T.b_range (vxF (vv 0))) (vg 2 nd) (rs_kill _ [0]) (envT_kill _ [2, 3, 4])
      (qs_cons (vs_set 3 nd (vo_frF (vlst_f van_nil)))
      (qs_t (envT_kill _ [0, 2]) (qs_cons (vs_forK hp rfl (qix_F (vi_seq (vv 1))) (vg 4 nd) (rs_kill _ [1]) (envT_kill _ [4])
      (qs_cons (vs_app 3 (fun p => pe_bm PySem.F.plainAttrs_list PySem.F.slot_list_append PySem.F.type_list_append mt_append (pv 3) (pa_cons p pa_nil)) (vo_x (vxF (vadd_ (vv 4) (VFr.ve (vlst_f (van_cons vint van_nil)))))))
      (vss_one (vs_app 3 (fun p => pe_bm PySem.F.plainAttrs_list PySem.F.slot_list_append PySem.F.type_list_append mt_append (pv 3) (pa_cons p pa_nil)) (vo_x (vxF (vadd_ (vv 4) (VFr.ve (vlst_f (van_cons vint van_nil))))))))))
      (qs_t (envT_kill _ [4]) (qs_t (envT_freeze _ [3]) (vss_one (vs_set 1 nd (vo_x (vxF (vv 3)))))))))))
      (qs_t (envT_kill _ [3]) (vss_one (vs_ret (vo_x (vxF (vv 1))))))))
theorem sc_law_copied : FnScope N_law_copied ["paper"] (defScope s_law_copied) := ⟨rfl, rfl, rfl, by decide +kernel, rfl, by decide +kernel, by decide +kernel⟩
theorem ok_law_copied (T : Txt K mg) : FnOk P w K mg base (L2.CX P w) 1 T.f__law_copied T.d__law_copied ["paper"] (spV K mg 1 m_law_copied) := by
  refine fn_frz (g := runB 4 g_law_copied) ?_
  refine fn_vl T.F__law_copied sc_law_copied rfl fun cdv A outer s H E hr => ?_
  have hu := hu65 hr
  have nd := sc_law_copied.nd
  have tk := takes_of (X := cxOf (L2.CX P w) P w K mg base N_law_copied "_law_copied" (defScope s_law_copied) T.f__law_copied cdv A outer s H E) rfl rfl rfl rfl
  have hp := passes_of (X := cxOf (L2.CX P w) P w K mg base N_law_copied "_law_copied" (defScope s_law_copied) T.f__law_copied cdv A outer s H E) rfl
  exact (qs_cons (vs_tup (vg_tup rfl (vgs_cons (vg 1 nd) (vgs_cons (vg 2 nd) vgs_nil))) (vxF (vv 0)))
      (qs_cons (vs_if (qx_T (qeq hu (vv 1) vstr))
      (vss_one (vs_ret (vo_x (vxF (vtup_ (van_cons (vv 1) (van_cons (VFr.ve (qcomp rfl nd (vi_seq (vv 2)) (blkOk_by (own := [("row", 3)]) (N := N_law_copied) (sc := defScope s_law_copied) (by decide +kernel)) rfl (fun _ _ _ _ _ => (vg 3 nd)) (by decide) (fun _ _ _ _ _ => vts_nil) (fun _ _ _ _ _ => (VFr.ve (vlist_f T.b_list (vv 3)))))) van_nil)))))))
      (qs_t (envT_kill _ [0]) qs_nil))
      (vss_one (vs_ret (vo_x (vxF (vtup_ (van_cons (vv 1) (van_cons (VFr.ve (vlist_f T.b_list (vv 2))) van_nil)))))))))
theorem sc_law : FnScope N_law ["script"] (defScope s_law) := ⟨rfl, rfl, rfl, by decide +kernel, rfl, by decide +kernel, by decide +kernel⟩
theorem ok_law (T : Txt K mg) : FnOk P w K mg base (L2.CX P w) 4 T.f_law T.d_law ["script"] (spV K mg 1 m_law) := by
  refine fn_frz (g := runB 20 g_law) ?_
  refine fn_vl T.F_law sc_law rfl fun cdv A outer s H E hr => ?_
  have hu := hu65 hr
  have nd := sc_law.nd
  have tk := takes_of (X := cxOf (L2.CX P w) P w K mg base N_law "law" (defScope s_law) T.f_law cdv A outer s H E) rfl rfl rfl rfl
  have hp := passes_of (X := cxOf (L2.CX P w) P w K mg base N_law "law" (defScope s_law) T.f_law cdv A outer s H E) rfl
  exact (qs_cons (vs_set 1 nd (vo_x (vxF (vcall (ok_law_numbers T) (hr.mono (by decide)) T.g__law_numbers T.F__law_numbers.kp T.B__law_numbers tk (van_cons (vcall (ok_law_cell T) (hr.mono (by decide)) T.g__law_cell T.F__law_cell.kp T.B__law_cell tk (van_cons (vv 0) (van_cons vint van_nil))) (van_cons vint (van_cons vint van_nil)))))))
      (qs_cons (vs_set 2 nd (vo_x (vxF (vmod_ (vfdiv_ (vidx_ (vv 1) vint) vint) vint))))
      (qs_cons (vs_if (qx_T (qeq hu (vmod_ (vidx_ (vv 1) vint) vint) vint))
      (vss_one (vs_set 2 nd (vo_x (vxF (vmod_ (vfdiv_ (vidx_ (vv 1) vint) vint) vint)))))
      qs_nil)
      (qs_cons (vs_set 3 nd (vo_x (vxF (vcall (ok_law_train T) (hr.mono (by decide)) T.g__law_train T.F__law_train.kp T.B__law_train tk (van_cons (vcall (ok_law_cell T) (hr.mono (by decide)) T.g__law_cell T.F__law_cell.kp T.B__law_cell tk (van_cons (vv 0) (van_cons vint van_nil))) (van_cons (vv 2) van_nil))))))
      (qs_cons (vs_set 4 nd (vo_x (vxF (vcall (ok_law_departing T) (hr.mono (by decide)) T.g__law_departing T.F__law_departing.kp T.B__law_departing tk (van_cons (vv 3) (van_cons (vcall (ok_law_cell T) (hr.mono (by decide)) T.g__law_cell T.F__law_cell.kp T.B__law_cell tk (van_cons (vv 0) (van_cons vint van_nil))) (van_cons (vslice_ (vv 1) (qo_some vint) (qo_some vint)) van_nil)))))))
      (qs_cons (vs_set 5 nd (vo_x (vxF (vtup_ (van_cons (VFr.ve (vlist_f T.b_list (vv 3))) (van_cons (VFr.ve (vlist_f T.b_list (vv 4))) van_nil))))))
      (qs_cons (vs_set 6 nd (vo_x (vxF (vcall (ok_law_heads T) (hr.mono (by decide)) T.g__law_heads T.F__law_heads.kp T.B__law_heads tk (van_cons (vv 3) (van_cons (vv 4) van_nil))))))
      (qs_cons (vs_set 7 nd (vo_x (vxF (vcall (ok_law_numbers T) (hr.mono (by decide)) T.g__law_numbers T.F__law_numbers.kp T.B__law_numbers tk (van_cons (vcall (ok_law_cell T) (hr.mono (by decide)) T.g__law_cell T.F__law_cell.kp T.B__law_cell tk (van_cons (vv 0) (van_cons vint van_nil))) (van_cons vint (van_cons vint van_nil)))))))
      (qs_cons (vs_set 8 nd (vo_x (vxF (vadd_ vint (vmod_ (vidx_ (vv 7) vint) vint)))))
      (qs_t (envT_kill _ [0, 1]) (qs_cons (vs_for hp rfl (qix_F (vi_seq (VFr.ve (vlst_f (van_cons vint (van_cons vint (van_cons vint (van_cons (vadd_ vint (vmod_ (vidx_ (vv 7) vint) vint)) van_nil)))))))) (vg 9 nd) (envT_kill _ [9, 10, 11, 12, 13, 14, 15, 16, 17])
      (qs_cons (vs_set 10 nd (vo_x (vxF (vcall (ok_in_passes T) (hr.mono (by decide)) T.g_in_passes T.F_in_passes.kp T.B_in_passes tk (van_cons (vidx_ (vv 5) vint) (van_cons (vidx_ (vv 5) vint) (van_cons (vv 8) (van_cons (vv 9) van_nil))))))))
      (qs_cons (vs_if (qx_T (qne hu (vidx_ (vv 10) vint) (vix_ hu (VFr.ve (vlst_f (van_cons vstr (van_cons vstr van_nil)))) (vint_ T.b_int (VAn.va (van_cons (vcall (ok_law_enough T) (hr.mono (by decide)) T.g__law_enough T.F__law_enough.kp T.B__law_enough tk (van_cons (vlen_ T.b_len (VAn.va (van_cons (vv 6) van_nil))) (van_cons (vv 8) (van_cons (vv 9) van_nil)))) van_nil))))))
      (vss_one (vs_ret (vo_x (vxF vbool))))
      qs_nil)
      (qs_cons (vs_set 11 nd (vo_x (vxF (vcall (ok_law_lists T) (hr.mono (by decide)) T.g__law_lists T.F__law_lists.kp T.B__law_lists tk (van_cons (vv 3) (van_cons (vv 4) (van_cons (vv 8) (van_cons (vv 9) van_nil))))))))
      (qs_cons (vs_set 12 nd (vo_x (vxF (vadd_ (vcall (ok_law_tracks_papers T) (hr.mono (by decide)) T.g__law_tracks_papers T.F__law_tracks_papers.kp T.B__law_tracks_papers tk (van_cons (vv 11) (van_cons (vv 8) (van_cons (vv 9) (van_cons (vv 2) (van_cons (vv 7) van_nil)))))) (vcall (ok_law_runs_papers T) (hr.mono (by decide)) T.g__law_runs_papers T.F__law_runs_papers.kp T.B__law_runs_papers tk (van_cons (vv 6) (van_cons (vv 3) (van_cons (vv 7) van_nil))))))))
      (qs_cons (vs_set 13 nd (vo_frF (vlst_f van_nil)))
      (qs_cons (vs_forK hp rfl (qix_F (vi_seq (vadd_ (vv 12) (VFr.ve (vlst_f (van_cons (vv 10) (van_cons (vtup_ (van_cons vstr (van_cons (vv 11) van_nil))) (van_cons (vtup_ (van_cons vstr (van_cons (vv 6) van_nil))) van_nil)))))))) (vg 14 nd) (rs_kill _ [11, 12]) (envT_kill _ [14, 15, 16, 17])
      (qs_cons (vs_set 15 nd (vo_x (vxF (vcall (ok_law_copied T) (hr.mono (by decide)) T.g__law_copied T.F__law_copied.kp T.B__law_copied tk (van_cons (vv 14) van_nil)))))
      (qs_cons (vs_if (qx_T (qnotinT hu (vidx_ (vv 14) vint) (vtup_ (van_cons vstr (van_cons vstr van_nil)))))
      (qs_cons (vs_set 15 nd (vo_x (vxF (vv 14))))
      (qs_t (envT_kill _ [11, 12]) qs_nil))
      (qs_t (envT_kill _ [11, 12]) qs_nil))
      (qs_cons (vs_set 16 nd (vo_x (vxF (vcall (ok_law_accepts T) (hr.mono (by decide)) T.g__law_accepts T.F__law_accepts.kp T.B__law_accepts tk (van_cons (vv 3) (van_cons (vv 4) (van_cons (vv 8) (van_cons (vv 9) (van_cons (vv 14) van_nil)))))))))
      (qs_cons (vs_set 17 nd (vo_x (vxF (vcall (ok_judge_passes T) (hr.mono (by decide)) T.g_judge_passes T.F_judge_passes.kp T.B_judge_passes tk (van_cons (vidx_ (vv 5) vint) (van_cons (vidx_ (vv 5) vint) (van_cons (vv 8) (van_cons (vv 9) (van_cons (vv 15) van_nil)))))))))
      (qs_cons (vs_if (qx_T (VW.vt (vw_or (vt_not (qtruth (visi_ ty_bool T.b_isinstance T.b_bool (by decide +kernel) (vv 17)))) (vw_or1 (qne hu (vv 17) (vv 16))))))
      (qs_t (envT_freeze _ [13]) (vss_one (vs_ret (vo_x (vxF vbool)))))
      (qs_t (envT_kill _ [15, 17]) qs_nil))
      (vss_one (vs_if (qx_T (VW.vt (vw_and (qtruth (vv 16)) (vw_and1 (qnotinX hu (vidx_ (vv 14) vint) (vv 13))))))
      (qs_cons (vs_app 13 (fun p => pe_bm PySem.F.plainAttrs_list PySem.F.slot_list_append PySem.F.type_list_append mt_append (pv 13) (pa_cons p pa_nil)) (vo_x (vxF (vidx_ (vv 14) vint))))
      (qs_t (envT_kill _ [14, 16]) qs_nil))
      (qs_t (envT_kill _ [14, 16]) qs_nil)))))))))
      (qs_t (envT_kill _ [9]) (qs_t (envT_freeze _ [13]) (vss_one (vs_if (qx_T (qne hu (vv 13) (VFr.ve (vlst_f (van_cons (vidx_ (vv 10) vint) van_nil)))))
      (vss_one (vs_ret (vo_x (vxF vbool))))
      (qs_t (envT_kill _ [10, 13]) qs_nil))))))))))))
      (qs_t (envT_kill _ [7, 8]) (qs_cons (vs_if (qx_T (qlt (vv 2) vint))
      (qs_cons (qsetLc 18 mode_Z rfl nd rfl rfl (sw_true rfl rfl rfl (by decide +kernel)) (vi_seq (vcall (ok_law_single_passes T) (hr.mono (by decide)) T.g__law_single_passes T.F__law_single_passes.kp T.B__law_single_passes tk (van_cons (vv 2) van_nil))) (blkOk_by (own := [("row", 19)]) (N := N_law) (sc := defScope s_law) (by decide +kernel)) rfl (fun _ _ _ _ _ => (vg 19 nd)) (by decide) (fun _ _ _ _ _ => (vts_one (qtruth (vcall (ok_judge_passes T) (hr.mono (by decide)) T.g_judge_passes T.F_judge_passes.kp T.B_judge_passes VL.takes0 (van_cons (vidx_ (vv 5) vint) (van_cons (vidx_ (vv 5) vint) (van_cons vint (van_cons vint (van_cons (vtup_ (van_cons vstr (van_cons (VFr.ve (vlst_f (van_cons (vv 19) van_nil))) van_nil))) van_nil))))))))) (fun _ _ _ _ _ => (vv 19)))
      (vss_one (vs_if (qx_T (qne hu (vgt_ (vlen_ T.b_len (VAn.va (van_cons (vv 18) van_nil))) vint) (vlt_ (vlen_ T.b_len (VAn.va (van_cons (vv 6) van_nil))) vint)))
      (vss_one (vs_ret (vo_x (vxF vbool))))
      (qs_t (envT_kill _ [2, 6, 18]) qs_nil))))
      (qs_t (envT_kill _ [2, 6]) qs_nil))
      (vss_one (vs_ret (vo_x (vxF (veq_ hu (vv 5) (vtup_ (van_cons (vv 3) (van_cons (vv 4) van_nil)))))))))))))))))))))
end
end LW
namespace LW
open PySem PySem.Spec PyProof.Rows VL
noncomputable section
def t_run_heads_1 (arriving : (List Int)) (departing : (List Int)) (k : Int) (found : (List Int)) : TR (List Int) (List Int) (List Int) := (tite (b2 tgtI (b2 tindex (R.ok arriving) (b2 tidx (R.ok departing) (b2 tsubI (R.ok k) (R.ok (1 : Int))))) (b2 tindex (R.ok arriving) (b2 tidx (R.ok departing) (R.ok k)))) ((b2 tidx (R.ok departing) (R.ok k)).tr fun a_ => (tapp found a_).tr fun found => (TR.nx found)) (TR.nx found))
abbrev E_run_heads_1 (arriving : (List Int)) (departing : (List Int)) : (List Int) → OEnv := fun s_ => match s_ with | found => [some (oF arriving), some (oF departing), some ((oL oF) found), none]
def t_run_heads (arriving : (List Int)) (departing : (List Int)) : R (List Int) := TR.fn (l := Empty) (σ := Unit) ((R.ok ([] : List Int)).tr fun found => ((b2 trange2 (R.ok (1 : Int)) (b1 tlen (R.ok departing))).tr fun xs_ => (forT (fun k found => t_run_heads_1 arriving departing k found) xs_ found).bind fun found => ((R.ok found).tr fun r_ => TR.rt r_))) (fun _ => .stuck)
def t_run_numbers_1 (heads : (List Int)) (wagon : Int) (found : (Dc Int Int)) (number : Int) : TR (Dc Int Int) ((Dc Int Int) × Int) ((Dc Int Int) × Int) := (TR.bind (σ := Int) (tite (b2 tin (R.ok wagon) (R.ok heads)) ((b1 (fun b_ => R.ok (number + b_)) (R.ok (1 : Int))).tr fun number => (TR.nx number)) (TR.nx number)) fun number => ((R.ok number).tr fun a_ => (R.ok wagon).tr fun j_ => (tdput found j_ a_).tr fun found => (TR.nx (found, number))))
abbrev E_run_numbers_1 (heads : (List Int)) : ((Dc Int Int) × Int) → OEnv := fun s_ => match s_ with | ⟨found, number⟩ => [none, none, some (oF heads), some ((oM oF) found), some (oF number), none]
def t_run_numbers (arriving : (List Int)) (departing : (List Int)) : R (Dc Int Int) := TR.fn (l := Empty) (σ := Unit) ((b2 t_run_heads (R.ok arriving) (R.ok departing)).tr fun heads => ((R.ok (⟨[]⟩ : (Dc Int Int))).tr fun found => ((R.ok (0 : Int)).tr fun number => ((R.ok departing).tr fun xs_ => (forT (fun wagon ⟨found, number⟩ => t_run_numbers_1 heads wagon found number) xs_ (found, number)).bind fun ⟨found, number⟩ => ((R.ok found).tr fun r_ => TR.rt r_))))) (fun _ => .stuck)
def t_power_1 (k : Int) (u_ : Int) (found : Int) : TR Int Int Int := ((b1 (tmulI found) (R.ok k)).tr fun found => (TR.nx found))
abbrev E_power_1 (k : Int) : Int → OEnv := fun s_ => match s_ with | found => [some (oF k), none, some (oF found), none]
def t_power (k : Int) (passes : Int) : R Int := TR.fn (l := Empty) (σ := Unit) ((R.ok (1 : Int)).tr fun found => ((b1 trange1 (R.ok passes)).tr fun xs_ => (forT (fun u_ found => t_power_1 k u_ found) xs_ found).bind fun found => ((R.ok found).tr fun r_ => TR.rt r_))) (fun _ => .stuck)
def t_digit_1 (k : Int) (u_ : Int) (number : Int) : TR Int Int Int := ((b1 (tfdivI number) (R.ok k)).tr fun number => (TR.nx number))
abbrev E_digit_1 (k : Int) : Int → OEnv := fun s_ => match s_ with | number => [some (oF number), some (oF k), none, none]
def t_digit (number : Int) (k : Int) (place : Int) : R Int := TR.fn (l := Empty) (σ := Unit) ((b1 trange1 (R.ok place)).tr fun xs_ => (forT (fun u_ number => t_digit_1 k u_ number) xs_ number).bind fun number => ((b2 tmodI (b1 tint (R.ok number)) (R.ok k)).tr fun r_ => TR.rt r_)) (fun _ => .stuck)
def t_after_pass_2 (train : (List Int)) (tracks : (List Int)) (track : Int) (found : (List Int)) : TR (List Int) (List Int) (List Int) := (((b2 tzip (R.ok train) (R.ok tracks)).bind fun xs_ => (tcomp (fun ⟨wagon, own⟩ => (b2 teq (R.ok own) (R.ok track))) (fun ⟨wagon, own⟩ => (R.ok wagon)) xs_).calm).tr fun a_ => (text found a_).tr fun found => (TR.nx found))
abbrev E_after_pass_2 (train : (List Int)) (tracks : (List Int)) : (List Int) → OEnv := fun s_ => match s_ with | found => [some (oF train), some (oF tracks), some ((oL oF) found), none, none, none]
def t_after_pass (train : (List Int)) (tracks : (List Int)) : R (List Int) := TR.fn (l := Empty) (σ := Unit) ((R.ok ([] : List Int)).tr fun found => ((b1 tsrtS (b1 tstL (R.ok tracks))).tr fun xs_ => (forT (fun track found => t_after_pass_2 train tracks track found) xs_ found).bind fun found => ((R.ok found).tr fun r_ => TR.rt r_))) (fun _ => .stuck)
def t_in_passes_2 (k : Int) (numbers : (Dc Int Int)) (place : Int) (train : (List Int)) (found : (List (List Int))) : TR (Str × (List PyData)) ((List Int) × (List (List Int))) ((List Int) × (List (List Int))) := (((R.ok train).bind fun xs_ => (tmap (fun wagon => (b3 t_digit (b2 tdget (R.ok numbers) (R.ok wagon)) (R.ok k) (R.ok place))) xs_).calm).tr fun tracks => ((R.ok tracks).tr fun a_ => (tapp found a_).tr fun found => ((b2 t_after_pass (R.ok train) (R.ok tracks)).tr fun train => (TR.nx (train, found)))))
abbrev E_in_passes_2 (k : Int) (numbers : (Dc Int Int)) : ((List Int) × (List (List Int))) → OEnv := fun s_ => match s_ with | ⟨train, found⟩ => [none, none, some (oF k), none, none, some (oF numbers), some (oF train), some ((oL oF) found), none, none, none]
def t_in_passes (arriving : (List Int)) (departing : (List Int)) (k : Int) (passes : Int) : R (Str × (List PyData)) := TR.fn (l := Empty) (σ := Unit) ((b2 t_run_heads (R.ok arriving) (R.ok departing)).tr fun heads => (tite (b2 tgeI (b1 tlen (R.ok heads)) (b2 t_power (R.ok k) (R.ok passes))) ((b1 (cP2 R.ok (tmap cUp)) (b2 mk2 (R.ok ("runs" : Str)) (R.ok heads))).tr fun r_ => TR.rt r_) ((b2 t_run_numbers (R.ok arriving) (R.ok departing)).tr fun numbers => ((R.ok arriving).tr fun train => ((R.ok ([] : List (List Int))).tr fun found => ((b1 trange1 (R.ok passes)).tr fun xs_ => (forT (fun place ⟨train, found⟩ => t_in_passes_2 k numbers place train found) xs_ (train, found)).bind fun ⟨train, found⟩ => ((b1 (cP2 R.ok (tmap cUp)) (b2 mk2 (R.ok ("tracks" : Str)) (R.ok found))).tr fun r_ => TR.rt r_))))))) (fun _ => .stuck)
def t_is_pass (train : (List Int)) (tracks : (List Int)) (k : Int) : R Bool := TR.fn (l := Empty) (σ := Unit) ((tandB (b2 teq (b1 tlen (R.ok tracks)) (b1 tlen (R.ok train))) (b1 tallB ((R.ok tracks).bind fun xs_ => (tmap (fun track => (tchain tleI tltI (R.ok (0 : Int)) (R.ok track) (R.ok k))) xs_).calm))).tr fun r_ => TR.rt r_) (fun _ => .stuck)
def t_judge_tracks_1 (k : Int) (tracks : (List Int)) (train : (List Int)) : TR Bool (List Int) (List Int) := (tite (b1 tnotB (b1 tid (b3 t_is_pass (R.ok train) (R.ok tracks) (R.ok k)))) ((R.ok false).tr fun r_ => TR.rt r_) ((b2 t_after_pass (R.ok train) (R.ok tracks)).tr fun train => (TR.nx train)))
abbrev E_judge_tracks_1 (departing : (List Int)) (k : Int) : (List Int) → OEnv := fun s_ => match s_ with | train => [none, some (oF departing), some (oF k), none, none, some (oF train), none]
def t_judge_tracks (arriving : (List Int)) (departing : (List Int)) (k : Int) (passes : Int) (lists : (List (List Int))) : R Bool := TR.fn (l := Empty) (σ := Unit) (tite (b2 tne (b1 tlen (R.ok lists)) (R.ok passes)) ((R.ok false).tr fun r_ => TR.rt r_) ((R.ok arriving).tr fun train => ((R.ok lists).tr fun xs_ => (forT (fun tracks train => t_judge_tracks_1 k tracks train) xs_ train).bind fun train => ((b2 teq (R.ok train) (R.ok departing)).tr fun r_ => TR.rt r_)))) (fun _ => .stuck)
def t_judge_runs (arriving : (List Int)) (departing : (List Int)) (k : Int) (passes : Int) (wagons : (List Int)) : R Bool := TR.fn (l := Empty) (σ := Unit) ((b2 t_run_heads (R.ok arriving) (R.ok departing)).tr fun heads => (tite (torB (b2 tne (b1 tlenSt (b1 tstL (R.ok wagons))) (b1 tlen (R.ok wagons))) (b1 tnotB (b1 tid (b1 tallB ((R.ok wagons).bind fun xs_ => (tmap (fun wagon => (b2 tin (R.ok wagon) (R.ok heads))) xs_).calm))))) ((R.ok false).tr fun r_ => TR.rt r_) ((b2 tgeI (b1 tlen (R.ok wagons)) (b2 t_power (R.ok k) (R.ok passes))).tr fun r_ => TR.rt r_))) (fun _ => .stuck)
def t_judge_passes (arriving : (List Int)) (departing : (List Int)) (k : Int) (passes : Int) (verdict : PyData) : R Bool := TR.fn (l := Empty) (σ := Unit) ((R.ok verdict).tr fun a_ => (cD2 a_).calm.tr fun ⟨word, paper⟩ => (tite (b2 (dB veq) (R.ok word) (b1 cUp (R.ok ("tracks" : Str)))) ((b5 t_judge_tracks (R.ok arriving) (R.ok departing) (R.ok k) (R.ok passes) (b1 (cDec : PyData → R (List (List Int))) (R.ok paper))).tr fun r_ => TR.rt r_) (tite (b2 (dB veq) (R.ok word) (b1 cUp (R.ok ("runs" : Str)))) ((b5 t_judge_runs (R.ok arriving) (R.ok departing) (R.ok k) (R.ok passes) (b1 (cDec : PyData → R (List Int)) (R.ok paper))).tr fun r_ => TR.rt r_) ((R.ok false).tr fun r_ => TR.rt r_)))) (fun _ => .stuck)
def t_law_cell (script : (List Int)) (k : Int) : R Int := TR.fn (l := Empty) (σ := Unit) (tite (b2 tltI (R.ok k) (b1 tlen (R.ok script))) ((b1 tint (b2 tidx (R.ok script) (R.ok k))).tr fun r_ => TR.rt r_) ((b2 taddI (b2 tmulI (R.ok (31 : Int)) (R.ok k)) (R.ok (5 : Int))).tr fun r_ => TR.rt r_)) (fun _ => .stuck)
def t_law_numbers_1 (limit : Int) (k : Int) (cell : Int) (found : (List Int)) : TR (List Int) (Int × (List Int)) (Int × (List Int)) := ((b2 tmodI (b1 tint (R.ok cell)) (R.ok limit)).tr fun a_ => (tapp found a_).tr fun found => ((b2 tfdivI (b1 tint (R.ok cell)) (R.ok limit)).tr fun cell => (TR.nx (cell, found))))
abbrev E_law_numbers_1 (limit : Int) : (Int × (List Int)) → OEnv := fun s_ => match s_ with | ⟨cell, found⟩ => [some (oF cell), none, some (oF limit), some ((oL oF) found), none, none]
def t_law_numbers_2 (cell : Int) (limit : Int) (k : Int) (found : (List Int)) : TR (List Int) (List Int) (List Int) := ((b2 tmodI (b1 tint (b2 taddI (b2 taddI (b2 tmulI (R.ok cell) (R.ok (48271 : Int))) (b2 tmulI (R.ok k) (R.ok (69621 : Int)))) (R.ok (7 : Int)))) (R.ok (2147483647 : Int))).tr fun mixed => ((b2 tmodI (b1 tint (b2 taddI (b2 taddI (b2 taddI (b2 tmulI (R.ok mixed) (R.ok mixed)) (b2 tmulI (R.ok mixed) (R.ok (40692 : Int)))) (b2 tmulI (R.ok k) (R.ok (16807 : Int)))) (R.ok (11 : Int)))) (R.ok (2147483399 : Int))).tr fun mixed => ((b2 tmodI (b1 tint (b2 tfdivI (R.ok mixed) (R.ok (32 : Int)))) (R.ok limit)).tr fun a_ => (tapp found a_).tr fun found => (TR.nx found))))
abbrev E_law_numbers_2 (cell : Int) (limit : Int) : (List Int) → OEnv := fun s_ => match s_ with | found => [some (oF cell), none, some (oF limit), some ((oL oF) found), none, none]
def t_law_numbers (cell : Int) (count : Int) (limit : Int) : R (List Int) := TR.fn (l := Empty) (σ := Unit) ((R.ok ([] : List Int)).tr fun found => (tite (b2 tgeI (R.ok cell) (b2 tpowI (R.ok (10 : Int)) (R.ok (18 : Int)))) ((b2 tsubI (R.ok cell) (b2 tpowI (R.ok (10 : Int)) (R.ok (18 : Int)))).tr fun cell => ((b1 trange1 (R.ok count)).tr fun xs_ => (forT (fun k ⟨cell, found⟩ => t_law_numbers_1 limit k cell found) xs_ (cell, found)).bind fun ⟨cell, found⟩ => ((R.ok found).tr fun r_ => TR.rt r_))) ((b1 trange1 (R.ok count)).tr fun xs_ => (forT (fun k found => t_law_numbers_2 cell limit k found) xs_ found).bind fun found => ((R.ok found).tr fun r_ => TR.rt r_)))) (fun _ => .stuck)
def t_law_train_1 (count : Int) (draws : (List Int)) (k : Int) (rest : (List Int)) (found : (List Int)) : TR (List Int) ((List Int) × (List Int)) ((List Int) × (List Int)) := (((b2 tmodI (b2 tidx (R.ok draws) (R.ok k)) (b1 tlen (R.ok rest))).bind fun j_ => tpopAt rest j_).tr fun ⟨wagon, rest⟩ => (TR.bind (σ := Int) (tite (b2 teq (b2 tmodI (b2 tidx (R.ok draws) (b2 taddI (R.ok count) (R.ok k))) (R.ok (16 : Int))) (R.ok (0 : Int))) ((b2 tmulI (R.ok wagon) (b2 tpowI (R.ok (10 : Int)) (R.ok (20 : Int)))).tr fun wagon => (TR.nx wagon)) (tite (b2 tltI (b2 tmodI (b2 tidx (R.ok draws) (b2 taddI (R.ok count) (R.ok k))) (R.ok (16 : Int))) (R.ok (4 : Int))) ((b2 tsubI (R.ok (0 : Int)) (R.ok wagon)).tr fun wagon => (TR.nx wagon)) (TR.nx wagon))) fun wagon => ((R.ok wagon).tr fun a_ => (tapp found a_).tr fun found => (TR.nx (rest, found)))))
abbrev E_law_train_1 (count : Int) (draws : (List Int)) : ((List Int) × (List Int)) → OEnv := fun s_ => match s_ with | ⟨rest, found⟩ => [none, some (oF count), some (oF draws), some ((oL oF) rest), some ((oL oF) found), none, none]
def t_law_train (cell : Int) (count : Int) : R (List Int) := TR.fn (l := Empty) (σ := Unit) ((b3 t_law_numbers (R.ok cell) (b2 tmulI (R.ok (2 : Int)) (R.ok count)) (R.ok (20160 : Int))).tr fun draws => ((b2 trange2 (R.ok (1 : Int)) (b2 taddI (R.ok count) (R.ok (1 : Int)))).tr fun rest => ((R.ok ([] : List Int)).tr fun found => ((b1 trange1 (R.ok count)).tr fun xs_ => (forT (fun k ⟨rest, found⟩ => t_law_train_1 count draws k rest found) xs_ (rest, found)).bind fun ⟨rest, found⟩ => ((R.ok found).tr fun r_ => TR.rt r_))))) (fun _ => .stuck)
def t_law_shuffled_1 (draws : (List Int)) (k : Int) (rest : (List Int)) (found : (List Int)) : TR (List Int) ((List Int) × (List Int)) ((List Int) × (List Int)) := (((b2 tmodI (b2 tidx (R.ok draws) (R.ok k)) (b1 tlen (R.ok rest))).bind fun j_ => tpopAt rest j_).tr fun c_ => (tapp found (c_).1).tr fun found => (TR.nx ((c_).2, found)))
abbrev E_law_shuffled_1 (draws : (List Int)) : ((List Int) × (List Int)) → OEnv := fun s_ => match s_ with | ⟨rest, found⟩ => [none, none, some (oF draws), some ((oL oF) rest), some ((oL oF) found), none]
def t_law_shuffled (things : (List Int)) (cell : Int) : R (List Int) := TR.fn (l := Empty) (σ := Unit) ((b3 t_law_numbers (R.ok cell) (b1 tlen (R.ok things)) (R.ok (20160 : Int))).tr fun draws => ((R.ok things).tr fun rest => ((R.ok ([] : List Int)).tr fun found => ((b1 trange1 (b1 tlen (R.ok things))).tr fun xs_ => (forT (fun k ⟨rest, found⟩ => t_law_shuffled_1 draws k rest found) xs_ (rest, found)).bind fun ⟨rest, found⟩ => ((R.ok found).tr fun r_ => TR.rt r_))))) (fun _ => .stuck)
def t_law_heads (arriving : (List Int)) (departing : (List Int)) : R (List Int) := TR.fn (l := Empty) (σ := Unit) (((R.ok departing).bind fun xs_ => (tmap (fun wagon => (b2 tindex (R.ok arriving) (R.ok wagon))) xs_).calm).tr fun places => (((b2 trange2 (R.ok (1 : Int)) (b1 tlen (R.ok departing))).bind fun xs_ => (tcomp (fun k => (b2 tltI (b2 tidx (R.ok places) (R.ok k)) (b2 tidx (R.ok places) (b2 tsubI (R.ok k) (R.ok (1 : Int)))))) (fun k => (b2 tidx (R.ok departing) (R.ok k))) xs_).calm).tr fun r_ => TR.rt r_)) (fun _ => .stuck)
def t_law_after (train : (List Int)) (tracks : (List Int)) : R (List Int) := TR.fn (l := Empty) (σ := Unit) ((b1 tsortD ((b1 trange1 (b1 tlen (R.ok train))).bind fun xs_ => (tmap (fun k => (b2 mk2 (b2 tidx (R.ok tracks) (R.ok k)) (R.ok k))) xs_).calm)).tr fun pairs => (((R.ok pairs).bind fun xs_ => (tmap (fun ⟨track, place⟩ => (b2 tidx (R.ok train) (R.ok place))) xs_).calm).tr fun r_ => TR.rt r_)) (fun _ => .stuck)
def t_law_departing_3 (arriving : (List Int)) (count : Int) (draws : (List Int)) (many : Int) (track : Int) (found : (List Int)) : TR (List Int) (List Int) (List Int) := ((b2 taddL (R.ok found) ((b1 trange1 (R.ok count)).bind fun xs_ => (tcomp (fun k => (b2 teq (b2 tmodI (b2 tidx (R.ok draws) (R.ok k)) (R.ok many)) (R.ok track))) (fun k => (b2 tidx (R.ok arriving) (R.ok k))) xs_).calm)).tr fun found => (TR.nx found))
abbrev E_law_departing_3 (arriving : (List Int)) (count : Int) (draws : (List Int)) (many : Int) : (List Int) → OEnv := fun s_ => match s_ with | found => [some (oF arriving), none, none, some (oF count), some (oF draws), some (oF many), some (oF found), none, none]
def t_law_departing (arriving : (List Int)) (cell : Int) (picks : (List Int)) : R (List Int) := TR.fn (l := Empty) (σ := Unit) ((b1 tlen (R.ok arriving)).tr fun count => (tite (b2 teq (b2 tmodI (b2 tidx (R.ok picks) (R.ok (0 : Int))) (R.ok (3 : Int))) (R.ok (0 : Int))) ((b2 t_law_shuffled (R.ok arriving) (R.ok cell)).tr fun r_ => TR.rt r_) (tite (b2 teq (b2 tmodI (b2 tidx (R.ok picks) (R.ok (0 : Int))) (R.ok (9 : Int))) (R.ok (1 : Int))) (((b1 trange1 (R.ok count)).bind fun xs_ => (tmap (fun k => (b2 tidx (R.ok arriving) (b2 tsubI (b2 tsubI (R.ok count) (R.ok (1 : Int))) (R.ok k)))) xs_).calm).tr fun r_ => TR.rt r_) ((b3 t_law_numbers (R.ok cell) (R.ok count) (R.ok (20160 : Int))).tr fun draws => ((b2 taddI (R.ok (1 : Int)) (b2 tmodI (b2 tidx (R.ok picks) (R.ok (1 : Int))) (R.ok (9 : Int)))).tr fun many => ((R.ok ([] : List Int)).tr fun found => ((b1 trange1 (R.ok many)).tr fun xs_ => (forT (fun track found => t_law_departing_3 arriving count draws many track found) xs_ found).bind fun found => ((R.ok found).tr fun r_ => TR.rt r_)))))))) (fun _ => .stuck)
def t_law_enough_1 (k : Int) (turn : Int) (power_v : Int) : TR Bool Int Int := ((b2 tmulI (R.ok power_v) (R.ok k)).tr fun power_v => (TR.nx power_v))
abbrev E_law_enough_1 (count : Int) (k : Int) : Int → OEnv := fun s_ => match s_ with | power_v => [some (oF count), some (oF k), none, some (oF power_v), none]
def t_law_enough (count : Int) (k : Int) (passes : Int) : R Bool := TR.fn (l := Empty) (σ := Unit) ((R.ok (1 : Int)).tr fun power_v => ((b1 trange1 (R.ok passes)).tr fun xs_ => (forT (fun turn power_v => t_law_enough_1 k turn power_v) xs_ power_v).bind fun power_v => ((b2 tgtI (R.ok power_v) (R.ok count)).tr fun r_ => TR.rt r_))) (fun _ => .stuck)
def t_law_lists_1 (heads : (List Int)) (wagon : Int) (numbers : (Dc Int Int)) (number : Int) : TR (List (List Int)) ((Dc Int Int) × Int) ((Dc Int Int) × Int) := (TR.bind (σ := Int) (tite (b2 tin (R.ok wagon) (R.ok heads)) ((b2 taddI (R.ok number) (R.ok (1 : Int))).tr fun number => (TR.nx number)) (TR.nx number)) fun number => ((R.ok number).tr fun a_ => (R.ok wagon).tr fun j_ => (tdput numbers j_ a_).tr fun numbers => (TR.nx (numbers, number))))
abbrev E_law_lists_1 (arriving : (List Int)) (departing : (List Int)) (k : Int) (passes : Int) (heads : (List Int)) : ((Dc Int Int) × Int) → OEnv := fun s_ => match s_ with | ⟨numbers, number⟩ => [some (oF arriving), some (oF departing), some (oF k), some (oF passes), some (oF heads), some ((oM oF) numbers), some (oF number), none, none, none, none]
def t_law_lists_3 (k : Int) (wagon : Int) (numbers : (Dc Int Int)) : TR (List (List Int)) (Dc Int Int) (Dc Int Int) := ((b2 tfdivI (b2 tdget (R.ok numbers) (R.ok wagon)) (R.ok k)).tr fun a_ => (R.ok wagon).tr fun j_ => (tdput numbers j_ a_).tr fun numbers => (TR.nx numbers))
abbrev E_law_lists_3 (departing : (List Int)) (k : Int) (train : (List Int)) (found : (List (List Int))) : (Dc Int Int) → OEnv := fun s_ => match s_ with | numbers => [none, some (oF departing), some (oF k), none, none, some ((oM oF) numbers), none, none, some (oF train), some ((oL (oL oF)) found), none]
def t_law_lists_4 (departing : (List Int)) (k : Int) (turn : Int) (numbers : (Dc Int Int)) (train : (List Int)) (found : (List (List Int))) : TR (List (List Int)) ((Dc Int Int) × (List Int) × (List (List Int))) ((Dc Int Int) × (List Int) × (List (List Int))) := (((R.ok train).bind fun xs_ => (tmap (fun wagon => (b2 tmodI (b2 tdget (R.ok numbers) (R.ok wagon)) (R.ok k))) xs_).calm).tr fun a_ => (tapp found a_).tr fun found => (((R.ok train).bind fun a0_ => (b2 tidx (R.ok found) (R.ok turn)).bind fun a1_ => t_law_after a0_ a1_).tr fun train => ((R.ok departing).tr fun xs_ => (forT (fun wagon numbers => t_law_lists_3 k wagon numbers) xs_ numbers).bind fun numbers => (TR.nx (numbers, train, found)))))
abbrev E_law_lists_4 (departing : (List Int)) (k : Int) : ((Dc Int Int) × (List Int) × (List (List Int))) → OEnv := fun s_ => match s_ with | ⟨numbers, train, found⟩ => [none, some (oF departing), some (oF k), none, none, some ((oM oF) numbers), none, none, some (oF train), some ((oL (oL oF)) found), none]
def t_law_lists (arriving : (List Int)) (departing : (List Int)) (k : Int) (passes : Int) : R (List (List Int)) := TR.fn (l := Empty) (σ := Unit) ((b2 t_law_heads (R.ok arriving) (R.ok departing)).tr fun heads => ((R.ok (⟨[]⟩ : (Dc Int Int))).tr fun numbers => ((R.ok (0 : Int)).tr fun number => ((R.ok departing).tr fun xs_ => (forT (fun wagon ⟨numbers, number⟩ => t_law_lists_1 heads wagon numbers number) xs_ (numbers, number)).bind fun ⟨numbers, number⟩ => ((R.ok arriving).tr fun train => ((R.ok ([] : List (List Int))).tr fun found => ((b1 trange1 (R.ok passes)).tr fun xs_ => (forT (fun turn ⟨numbers, train, found⟩ => t_law_lists_4 departing k turn numbers train found) xs_ (numbers, train, found)).bind fun ⟨numbers, train, found⟩ => ((R.ok found).tr fun r_ => TR.rt r_)))))))) (fun _ => .stuck)
def t_law_accepts_1 (paper : PyData) (heads : (List Int)) (j : Int) : TR Bool Unit Unit := (tite (torB (b2 (dB vNotInX) (b2 vix (R.ok paper) (b1 cUp (R.ok j))) (b1 cUp (R.ok heads))) (b2 (dB vInX) (b2 vix (R.ok paper) (b1 cUp (R.ok j))) (b3 (fun d lo hi => vcut lo hi d) (R.ok paper) (b1 tpart (R.ok (0 : Int))) (b1 tpart (R.ok j))))) ((R.ok false).tr fun r_ => TR.rt r_) (TR.nx ()))
abbrev E_law_accepts_1 (k : Int) (passes : Int) (paper : PyData) (heads : (List Int)) : Unit → OEnv := fun s_ => match s_ with | _ => [none, none, some (oF k), some (oF passes), none, none, some (oF paper), some (oF heads), none, none, none, none]
def t_law_accepts_3 (k : Int) (tracks : PyData) (train : (List Int)) : TR Bool (List Int) (List Int) := (tite (torB (b2 tne (b1 cInt (b1 (fun d => vlen [d]) (R.ok tracks))) (b1 tlen (R.ok train))) (b2 tgtI (b1 tlen ((b1 seqD (R.ok tracks)).bind fun xs_ => (tcomp (fun track => (torB (b2 tltI (b1 cInt (R.ok track)) (R.ok (0 : Int))) (b2 tgeI (b1 cInt (R.ok track)) (R.ok k)))) (fun track => (R.ok track)) xs_).calm)) (R.ok (0 : Int)))) ((R.ok false).tr fun r_ => TR.rt r_) ((b2 t_law_after (R.ok train) (b1 (cDec : PyData → R (List Int)) (R.ok tracks))).tr fun train => (TR.nx train)))
abbrev E_law_accepts_3 (departing : (List Int)) (k : Int) : (List Int) → OEnv := fun s_ => match s_ with | train => [none, some (oF departing), some (oF k), none, none, none, none, none, none, some (oF train), none, none]
def t_law_accepts (arriving : (List Int)) (departing : (List Int)) (k : Int) (passes : Int) (verdict : PyData) : R Bool := TR.fn (l := Empty) (σ := Unit) ((R.ok verdict).tr fun a_ => (cD2 a_).calm.tr fun ⟨word, paper⟩ => ((b2 t_law_heads (R.ok arriving) (R.ok departing)).tr fun heads => (tite (b2 (dB veq) (R.ok word) (b1 cUp (R.ok ("runs" : Str)))) ((b1 trange1 (b1 cInt (b1 (fun d => vlen [d]) (R.ok paper)))).tr fun xs_ => (forT (fun j _ => t_law_accepts_1 paper heads j) xs_ ()).bind fun _ => ((b1 tnotB (b3 t_law_enough (b1 cInt (b1 (fun d => vlen [d]) (R.ok paper))) (R.ok k) (R.ok passes))).tr fun r_ => TR.rt r_)) (tite (torB (b2 (dB vne) (R.ok word) (b1 cUp (R.ok ("tracks" : Str)))) (b2 tne (b1 cInt (b1 (fun d => vlen [d]) (R.ok paper))) (R.ok passes))) ((R.ok false).tr fun r_ => TR.rt r_) ((R.ok arriving).tr fun train => ((b1 seqD (R.ok paper)).tr fun xs_ => (forT (fun tracks train => t_law_accepts_3 k tracks train) xs_ train).bind fun train => ((b2 teq (R.ok train) (R.ok departing)).tr fun r_ => TR.rt r_))))))) (fun _ => .stuck)
def t_law_tracks_papers_3 (row : (List Int)) (at_ : Int) (track : Int) (others : (List (List Int))) : TR (List PyData) (List (List Int)) (List (List Int)) := ((b2 taddL (b2 taddL (b3 tcut (R.ok row) (b1 tpart (R.ok (0 : Int))) (b1 tpart (R.ok at_))) (tcons (R.ok track) (R.ok ([] : List Int)))) (b3 tcut (R.ok row) (b1 tpart (b2 taddI (R.ok at_) (R.ok (1 : Int)))) (R.ok none))).tr fun a_ => (tapp others a_).tr fun others => (TR.nx others))
abbrev E_law_tracks_papers_3 (lists : (List (List Int))) (found : (List (List (List Int)))) (turn : Int) (row : (List Int)) (at_ : Int) : (List (List Int)) → OEnv := fun s_ => match s_ with | others => [some (oF lists), none, none, none, none, some ((oL oF) found), some (oF turn), some (oF row), some ((oL oF) others), some (oF at_), none, none, none, none]
def t_law_tracks_papers_4 (lists : (List (List Int))) (turn : Int) (other : (List Int)) (found : (List (List (List Int)))) : TR (List PyData) (List (List (List Int))) (List (List (List Int))) := ((b2 taddL (b2 taddL (b3 tcut (R.ok lists) (b1 tpart (R.ok (0 : Int))) (b1 tpart (R.ok turn))) (tcons (R.ok other) (R.ok ([] : List (List Int))))) (b3 tcut (R.ok lists) (b1 tpart (b2 taddI (R.ok turn) (R.ok (1 : Int)))) (R.ok none))).tr fun a_ => (tapp found a_).tr fun found => (TR.nx found))
abbrev E_law_tracks_papers_4 (lists : (List (List Int))) (turn : Int) : (List (List (List Int))) → OEnv := fun s_ => match s_ with | found => [some (oF lists), none, none, none, none, some ((oL oF) found), some (oF turn), none, none, none, none, none, none, none]
def t_law_tracks_papers (lists : (List (List Int))) (k : Int) (passes : Int) (count : Int) (picks : (List Int)) : R (List PyData) := TR.fn (l := Empty) (σ := Unit) ((tcons (R.ok lists) (tcons (b2 taddL (R.ok lists) (tcons ((b1 trange1 (R.ok count)).bind fun xs_ => (tmap (fun j => (R.ok (0 : Int))) xs_).calm) (R.ok ([] : List (List Int))))) (tcons (b3 tcut (R.ok lists) (b1 tpart (R.ok (1 : Int))) (R.ok none)) (tcons (R.ok ([] : List (List Int))) (tcons ((b1 trev (R.ok lists)).bind fun xs_ => (tmap (fun row => (R.ok row)) xs_).calm) (R.ok ([] : List (List (List Int))))))))).tr fun found => (TR.bind (σ := (List (List (List Int)))) (tite (b2 tgtI (R.ok passes) (R.ok (0 : Int))) ((b2 tmodI (b2 tidx (R.ok picks) (R.ok (0 : Int))) (b1 tlen (R.ok lists))).tr fun turn => ((b2 tidx (R.ok lists) (R.ok turn)).tr fun row => ((tcons (b3 tcut (R.ok row) (b1 tpart (R.ok (1 : Int))) (R.ok none)) (tcons (b2 taddL (R.ok row) (tcons (R.ok (0 : Int)) (R.ok ([] : List Int)))) (R.ok ([] : List (List Int))))).tr fun others => (TR.bind (σ := (List (List Int))) (tite (b2 tgtI (R.ok count) (R.ok (0 : Int))) ((b2 tmodI (b2 tidx (R.ok picks) (R.ok (1 : Int))) (R.ok count)).tr fun at_ => ((tcons (b2 tmodI (b2 tidx (R.ok picks) (R.ok (2 : Int))) (R.ok k)) (tcons (b2 tsubI (R.ok k) (R.ok (1 : Int))) (tcons (R.ok k) (tcons (b1 tnegI (R.ok (1 : Int))) (R.ok ([] : List Int)))))).tr fun xs_ => (forT (fun track others => t_law_tracks_papers_3 row at_ track others) xs_ others).bind fun others => (TR.nx others))) (TR.nx others)) fun others => ((R.ok others).tr fun xs_ => (forT (fun other found => t_law_tracks_papers_4 lists turn other found) xs_ found).bind fun found => (TR.nx found)))))) (TR.nx found)) fun found => ((b1 (tmap cUp) ((R.ok found).bind fun xs_ => (tmap (fun rows => (b2 mk2 (R.ok ("tracks" : Str)) (R.ok rows))) xs_).calm)).tr fun r_ => TR.rt r_))) (fun _ => .stuck)
def t_law_runs_papers (heads : (List Int)) (arriving : (List Int)) (picks : (List Int)) : R (List PyData) := TR.fn (l := Empty) (σ := Unit) ((tcons (R.ok heads) (tcons (R.ok ([] : List Int)) (tcons (b2 taddL (R.ok heads) (b3 tcut (R.ok heads) (b1 tpart (R.ok (0 : Int))) (b1 tpart (R.ok (1 : Int))))) (tcons (b3 tcut (R.ok heads) (b1 tpart (R.ok (1 : Int))) (R.ok none)) (tcons ((b1 trange1 (b1 tlen (R.ok heads))).bind fun xs_ => (tmap (fun j => (b2 tidx (R.ok heads) (b2 tsubI (b2 tsubI (b1 tlen (R.ok heads)) (R.ok (1 : Int))) (R.ok j)))) xs_).calm) (R.ok ([] : List (List Int)))))))).tr fun found => ((b2 taddL (R.ok heads) (tcons (b2 tpowI (R.ok (10 : Int)) (R.ok (30 : Int))) (R.ok ([] : List Int)))).tr fun a_ => (tapp found a_).tr fun found => ((R.ok arriving).tr fun a_ => (tapp found a_).tr fun found => (TR.bind (σ := (List (List Int))) (tite (b2 tgtI (b1 tlen (R.ok arriving)) (R.ok (0 : Int))) ((b2 tmodI (b2 tidx (R.ok picks) (R.ok (3 : Int))) (b2 taddI (b1 tlen (R.ok heads)) (R.ok (1 : Int)))).tr fun at_ => ((b2 taddL (b2 taddL (b3 tcut (R.ok heads) (b1 tpart (R.ok (0 : Int))) (b1 tpart (R.ok at_))) (tcons (b2 tidx (R.ok arriving) (b2 tmodI (b2 tidx (R.ok picks) (R.ok (4 : Int))) (b1 tlen (R.ok arriving)))) (R.ok ([] : List Int)))) (b3 tcut (R.ok heads) (b1 tpart (b2 taddI (R.ok at_) (R.ok (1 : Int)))) (R.ok none))).tr fun a_ => (tapp found a_).tr fun found => (TR.nx found))) (TR.nx found)) fun found => ((b1 (tmap cUp) ((R.ok found).bind fun xs_ => (tmap (fun rows => (b2 mk2 (R.ok ("runs" : Str)) (R.ok rows))) xs_).calm)).tr fun r_ => TR.rt r_))))) (fun _ => .stuck)
def t_law_single_passes_1 (row : (List Int)) (later : (List (List Int))) : TR (List (List Int)) (List (List Int)) (List (List Int)) := ((b2 taddL (R.ok row) (tcons (R.ok (0 : Int)) (R.ok ([] : List Int)))).tr fun a_ => (tapp later a_).tr fun later => ((b2 taddL (R.ok row) (tcons (R.ok (1 : Int)) (R.ok ([] : List Int)))).tr fun a_ => (tapp later a_).tr fun later => (TR.nx later)))
abbrev E_law_single_passes_1 : (List (List Int)) → OEnv := fun s_ => match s_ with | later => [none, none, none, some ((oL oF) later), none]
def t_law_single_passes_2 (turn : Int) (found : (List (List Int))) : TR (List (List Int)) (List (List Int)) (List (List Int)) := ((R.ok ([] : List (List Int))).tr fun later => ((R.ok found).tr fun xs_ => (forT (fun row later => t_law_single_passes_1 row later) xs_ later).bind fun later => ((R.ok later).tr fun found => (TR.nx found))))
abbrev E_law_single_passes_2 : (List (List Int)) → OEnv := fun s_ => match s_ with | found => [none, some (oF found), none, none, none]
def t_law_single_passes (count : Int) : R (List (List Int)) := TR.fn (l := Empty) (σ := Unit) ((tcons (R.ok ([] : List Int)) (R.ok ([] : List (List Int)))).tr fun found => ((b1 trange1 (R.ok count)).tr fun xs_ => (forT (fun turn found => t_law_single_passes_2 turn found) xs_ found).bind fun found => ((R.ok found).tr fun r_ => TR.rt r_))) (fun _ => .stuck)
def t_law_copied (paper : PyData) : R PyData := TR.fn (l := Empty) (σ := Unit) ((R.ok paper).tr fun a_ => (cD2 a_).calm.tr fun ⟨word, rows⟩ => (tite (b2 (dB veq) (R.ok word) (b1 cUp (R.ok ("tracks" : Str)))) ((b2 mk2 (R.ok word) ((b1 seqD (R.ok rows)).bind fun xs_ => (tmap (fun row => (b1 seqD (R.ok row))) xs_).calm)).tr fun r_ => TR.rt (Enc.e r_)) ((b2 mk2 (R.ok word) (b1 seqD (R.ok rows))).tr fun r_ => TR.rt (Enc.e r_)))) (fun _ => .stuck)
def t_law_1 (arriving : (List Int)) (departing : (List Int)) (passed : ((List Int) × (List Int))) (k : Int) (passes : Int) (paper : PyData) (words : (List Str)) : TR Bool (List Str) (List Str) := ((b1 t_law_copied (R.ok paper)).tr fun given => (TR.bind (σ := PyData) (tite (b2 (dB vNotInT) (b2 vidx (R.ok paper) (b1 cUp (R.ok (0 : Int)))) (b1 cUp (b1 mkV (tcons (R.ok ("tracks" : Str)) (tcons (R.ok ("runs" : Str)) (R.ok ([] : List Str))))))) ((R.ok paper).tr fun given => (TR.nx given)) (TR.nx given)) fun given => ((b5 t_law_accepts (R.ok arriving) (R.ok departing) (R.ok k) (R.ok passes) (R.ok paper)).tr fun due => ((b5 t_judge_passes (b1 (pj Prod.fst) (R.ok passed)) (b1 (pj Prod.snd) (R.ok passed)) (R.ok k) (R.ok passes) (R.ok given)).tr fun answer => (tite (torB (b1 tnotB (b1 tid (b1 (tK true) (R.ok answer)))) (b2 tne (R.ok answer) (R.ok due))) ((R.ok false).tr fun r_ => TR.rt r_) (tite (tandB (b1 tid (R.ok due)) (b2 (dB vNotInX) (b2 vidx (R.ok paper) (b1 cUp (R.ok (0 : Int)))) (b1 cUp (R.ok words)))) ((b1 cStr (b2 vidx (R.ok paper) (b1 cUp (R.ok (0 : Int))))).tr fun a_ => (tapp words a_).tr fun words => (TR.nx words)) (TR.nx words)))))))
abbrev E_law_1 (count : Int) (arriving : (List Int)) (departing : (List Int)) (passed : ((List Int) × (List Int))) (heads : (List Int)) (picks : (List Int)) (k : Int) (passes : Int) (verdict : (Str × (List PyData))) : (List Str) → OEnv := fun s_ => match s_ with | words => [none, none, some (oF count), some (oF arriving), some (oF departing), some (oF passed), some (oF heads), some (oF picks), some (oF k), some (oF passes), some (oF verdict), none, none, some ((oL oF) words), none, none, none, none, none, none]
def t_law_2 (count : Int) (arriving : (List Int)) (departing : (List Int)) (passed : ((List Int) × (List Int))) (heads : (List Int)) (picks : (List Int)) (k : Int) (passes : Int) : TR Bool Unit Unit := ((b4 t_in_passes (b1 (pj Prod.fst) (R.ok passed)) (b1 (pj Prod.snd) (R.ok passed)) (R.ok k) (R.ok passes)).tr fun verdict => (tite (b2 tne (b1 (pj Prod.fst) (R.ok verdict)) (b2 tidx (tcons (R.ok ("runs" : Str)) (tcons (R.ok ("tracks" : Str)) (R.ok ([] : List Str)))) (b1 tintB (b3 t_law_enough (b1 tlen (R.ok heads)) (R.ok k) (R.ok passes))))) ((R.ok false).tr fun r_ => TR.rt r_) ((b4 t_law_lists (R.ok arriving) (R.ok departing) (R.ok k) (R.ok passes)).tr fun lists => ((b2 taddL (b5 t_law_tracks_papers (R.ok lists) (R.ok k) (R.ok passes) (R.ok count) (R.ok picks)) (b3 t_law_runs_papers (R.ok heads) (R.ok arriving) (R.ok picks))).tr fun papers => ((R.ok ([] : List Str)).tr fun words => ((b2 taddL (R.ok papers) (b1 (tmap cUp) (tcons (R.ok verdict) (tcons (b2 mk2 (R.ok ("track" : Str)) (b1 (tmap cUp) (R.ok lists))) (tcons (b2 mk2 (R.ok ("heads" : Str)) (b1 (tmap cUp) (R.ok heads))) (R.ok ([] : List (Str × (List PyData))))))))).tr fun xs_ => (forT (fun paper words => t_law_1 arriving departing passed k passes paper words) xs_ words).bind fun words => (tite (b2 tne (R.ok words) (tcons (b1 (pj Prod.fst) (R.ok verdict)) (R.ok ([] : List Str)))) ((R.ok false).tr fun r_ => TR.rt r_) (TR.nx ()))))))))
abbrev E_law_2 (count : Int) (arriving : (List Int)) (departing : (List Int)) (passed : ((List Int) × (List Int))) (heads : (List Int)) (picks : (List Int)) (k : Int) : Unit → OEnv := fun s_ => match s_ with | _ => [none, none, some (oF count), some (oF arriving), some (oF departing), some (oF passed), some (oF heads), some (oF picks), some (oF k), none, none, none, none, none, none, none, none, none, none, none]
def t_law (script : (List Int)) : R Bool := TR.fn (l := Empty) (σ := Unit) ((b3 t_law_numbers (b2 t_law_cell (R.ok script) (R.ok (0 : Int))) (R.ok (3 : Int)) (R.ok (20160 : Int))).tr fun shape => ((b2 tmodI (b2 tfdivI (b2 tidx (R.ok shape) (R.ok (0 : Int))) (R.ok (4 : Int))) (R.ok (13 : Int))).tr fun count => (TR.bind (σ := Int) (tite (b2 teq (b2 tmodI (b2 tidx (R.ok shape) (R.ok (0 : Int))) (R.ok (4 : Int))) (R.ok (3 : Int))) ((b2 tmodI (b2 tfdivI (b2 tidx (R.ok shape) (R.ok (0 : Int))) (R.ok (4 : Int))) (R.ok (101 : Int))).tr fun count => (TR.nx count)) (TR.nx count)) fun count => ((b2 t_law_train (b2 t_law_cell (R.ok script) (R.ok (1 : Int))) (R.ok count)).tr fun arriving => ((b3 t_law_departing (R.ok arriving) (b2 t_law_cell (R.ok script) (R.ok (2 : Int))) (b3 tcut (R.ok shape) (b1 tpart (R.ok (1 : Int))) (b1 tpart (R.ok (3 : Int))))).tr fun departing => ((b2 mk2 (R.ok arriving) (R.ok departing)).tr fun passed => ((b2 t_law_heads (R.ok arriving) (R.ok departing)).tr fun heads => ((b3 t_law_numbers (b2 t_law_cell (R.ok script) (R.ok (3 : Int))) (R.ok (7 : Int)) (R.ok (20160 : Int))).tr fun picks => ((b2 taddI (R.ok (2 : Int)) (b2 tmodI (b2 tidx (R.ok picks) (R.ok (5 : Int))) (R.ok (4 : Int)))).tr fun k => ((tcons (R.ok (0 : Int)) (tcons (R.ok (1 : Int)) (tcons (R.ok (2 : Int)) (tcons (b2 taddI (R.ok (1 : Int)) (b2 tmodI (b2 tidx (R.ok picks) (R.ok (6 : Int))) (R.ok (7 : Int)))) (R.ok ([] : List Int)))))).tr fun xs_ => (forT (fun passes _ => t_law_2 count arriving departing passed heads picks k passes) xs_ ()).bind fun _ => (TR.bind (σ := Unit) (tite (b2 tltI (R.ok count) (R.ok (6 : Int))) (((b1 t_law_single_passes (R.ok count)).bind fun xs_ => (tcomp (fun row => (b1 tid (b5 t_judge_passes (b1 (pj Prod.fst) (R.ok passed)) (b1 (pj Prod.snd) (R.ok passed)) (R.ok (2 : Int)) (R.ok (1 : Int)) (b1 cUp (b2 mk2 (R.ok ("tracks" : Str)) (tcons (R.ok row) (R.ok ([] : List (List Int))))))))) (fun row => (R.ok row)) xs_).calm).tr fun accepted => (tite (b2 tne (b2 tgtI (b1 tlen (R.ok accepted)) (R.ok (0 : Int))) (b2 tltI (b1 tlen (R.ok heads)) (R.ok (2 : Int)))) ((R.ok false).tr fun r_ => TR.rt r_) (TR.nx ()))) (TR.nx ())) fun _ => ((b2 teq (R.ok passed) (b2 mk2 (R.ok arriving) (R.ok departing))).tr fun r_ => TR.rt r_)))))))))))) (fun _ => .stuck)
end
theorem ty_run_heads_1 (arriving : (List Int)) (departing : (List Int)) (k : Int) (found : (List Int)) {Z : OEnv → Prop} : SQ (fun s ρ => kill [3] ρ = E_run_heads_1 arriving departing s) (fun s ρ => ρ = E_run_heads_1 arriving departing s) (fun o _ (b : (List Int)) => O.data o = Enc.e b) (fun _ => True) (b_run_heads_1 [some (oF arriving), some (oF departing), some ((oL oF) found), some (oF k)]) (t_run_heads_1 arriving departing k found) := by
  unfold b_run_heads_1 t_run_heads_1
  exact (q_end (q_if (t_tst (t_2 o_gtI (t_index o_index (t_varO 0 oF arriving dF) (t_2 o_vixL (t_varO 1 oF departing dF) (t_2 o_subI (t_varO 3 oF k dF) (t_c (1 : Int))))) (t_index o_index (t_varO 0 oF arriving dF) (t_2 o_vixL (t_varO 1 oF departing dF) (t_varO 3 oF k dF))))) trivial (q_assoc (q_app (ox := oF) 2 found (p_x (t_exF (t_2 o_vixL (t_var 1 departing) (t_var 3 k)))) trivial fun found => (q_at (ρ' := [some (oF arriving), some (oF departing), some ((oL oF) found), some (oF k)]) rfl (q_pre (q_at (ρ' := [some (oF arriving), some (oF departing), some ((oL oF) found), none]) rfl (q_nxs (q_nx found rfl))))))) (q_pre (q_at (ρ' := [some (oF arriving), some (oF departing), some ((oL oF) found), none]) rfl (q_nxs (q_nx found rfl))))))
theorem ty_run_heads (arriving : (List Int)) (departing : (List Int)) : TEq (m_run_heads [Enc.e arriving, Enc.e departing]) (t_run_heads arriving departing) := by
  rw [r_run_heads]
  unfold g_run_heads t_run_heads
  exact fn_T (E := fun _ _ => True) (L := fun _ _ => True) (q_set (p_frF (t_nil (α := Int))) trivial fun found => (q_at (ρ' := [some (oF arriving), some (oF departing), some ((oL oF) found), none]) rfl (q_for (E_run_heads_1 arriving departing) (fun k => [(3, Enc.e k)]) found (t_x2 o_range2 (t_exF (t_c (1 : Int))) (t_exF (t_call1 o_len (t_var 1 departing)))) trivial rfl (fun k => rfl) (fun found => rfl) (fun k found => ty_run_heads_1 arriving departing k found (Z := fun _ => True)) fun found => (q_at (ρ' := [some (oF arriving), some (oF departing), some ((oL oF) found), none]) rfl (q_pre0 (q_at (ρ' := [none, none, some ((oL oF) found), none]) rfl (q_pre0 (q_at (freeze1 (ox := (oL oF)) 2 found (dL dF)) (q_at (ρ' := [none, none, some (oF found), none]) rfl (q_end (q_ret (f := fun r_ => (r_ : (List Int))) (p_x (t_exF (t_var 2 found))) trivial (fun _ => dF _)))))))))))) (fun _ => trivial)
theorem ty_run_numbers_1 (heads : (List Int)) (wagon : Int) (found : (Dc Int Int)) (number : Int) {Z : OEnv → Prop} : SQ (fun s ρ => kill [5] ρ = E_run_numbers_1 heads s) (fun s ρ => ρ = E_run_numbers_1 heads s) (fun o _ (b : (Dc Int Int)) => O.data o = Enc.e b) (fun _ => True) (b_run_numbers_1 [none, none, some (oF heads), some ((oM oF) found), some (oF number), some (oF wagon)]) (t_run_numbers_1 heads wagon found number) := by
  unfold b_run_numbers_1 t_run_numbers_1
  exact (q_join (τ := Int) (Es := fun s_ => match s_ with | number => [none, none, some (oF heads), some ((oM oF) found), some (oF number), some (oF wagon)]) (q_end (q_if (t_tst (t_2 o_inX (t_varO 5 oF wagon dF) (t_varO 2 oF heads dF))) trivial (q_asn (q_aug 4 number (t_exF (t_c (1 : Int))) trivial fun number => (q_at (ρ' := [none, none, some (oF heads), some ((oM oF) found), some (oF number), some (oF wagon)]) rfl (q_pre0 (q_at (ρ' := [none, none, some (oF heads), some ((oM oF) found), some (oF number), some (oF wagon)]) rfl (q_nx number rfl)))))) (q_asn (q_pre0 (q_at (ρ' := [none, none, some (oF heads), some ((oM oF) found), some (oF number), some (oF wagon)]) rfl (q_nx number rfl)))))) fun number => (q_end (q_dputV 3 found (p_x (t_exF (t_var 4 number))) (t_exF (t_var 5 wagon)) trivial (fun found => (q_at (ρ' := [none, none, some (oF heads), some ((oM oF) found), some (oF number), some (oF wagon)]) rfl (q_nx (found, number) rfl))) (by intro x_ h_; exact Bool.noConfusion h_))))
theorem ty_run_numbers (arriving : (List Int)) (departing : (List Int)) : TEq (m_run_numbers [Enc.e arriving, Enc.e departing]) (t_run_numbers arriving departing) := by
  rw [r_run_numbers]
  unfold g_run_numbers t_run_numbers
  exact fn_T (E := fun _ _ => True) (L := fun _ _ => True) (q_set (p_x (t_exF (t_call2 ty_run_heads (t_var 0 arriving) (t_var 1 departing)))) trivial fun heads => (q_at (ρ' := [some (oF arriving), some (oF departing), some (oF heads), none, none, none]) rfl (q_set (p_dnew (oe := oF) 10 rfl) trivial fun found => (q_at (ρ' := [some (oF arriving), some (oF departing), some (oF heads), some ((oM oF) found), none, none]) rfl (q_set (p_x (t_exF (t_c (0 : Int)))) trivial fun number => (q_at (ρ' := [some (oF arriving), some (oF departing), some (oF heads), some ((oM oF) found), some (oF number), none]) rfl (q_pre0 (q_at (ρ' := [none, some (oF departing), some (oF heads), some ((oM oF) found), some (oF number), none]) rfl (q_forK (E_run_numbers_1 heads) (fun wagon => [(5, Enc.e wagon)]) (found, number) (t_isq (t_var 1 departing)) trivial rfl (fun wagon => rfl) (fun ⟨found, number⟩ => rfl) (fun wagon ⟨found, number⟩ => ty_run_numbers_1 heads wagon found number (Z := fun _ => True)) fun ⟨found, number⟩ => (q_at (ρ' := [none, none, some (oF heads), some ((oM oF) found), some (oF number), none]) rfl (q_pre0 (q_at (ρ' := [none, none, none, some ((oM oF) found), none, none]) rfl (q_pre0 (q_at (freeze1 (ox := (oM oF)) 3 found (dM dF)) (q_at (ρ' := [none, none, none, some (oF found), none, none]) rfl (q_end (q_ret (f := fun r_ => (r_ : (Dc Int Int))) (p_x (t_exF (t_var 3 found))) trivial (fun _ => dF _)))))))))))))))))) (fun _ => trivial)
theorem ty_power_1 (k : Int) (u_ : Int) (found : Int) {Z : OEnv → Prop} : SQ (fun s ρ => kill [3] ρ = E_power_1 k s) (fun s ρ => ρ = E_power_1 k s) (fun o _ (b : Int) => O.data o = Enc.e b) (fun _ => True) (b_power_1 [some (oF k), none, some (oF found), some (oF u_)]) (t_power_1 k u_ found) := by
  unfold b_power_1 t_power_1
  exact (q_end (q_augG gmul gmul_ne 2 found (t_exF (t_var 0 k)) trivial fun found => (q_at (ρ' := [some (oF k), none, some (oF found), some (oF u_)]) rfl (q_nx found rfl))))
theorem ty_power (k : Int) (passes : Int) : TEq (m_power [Enc.e k, Enc.e passes]) (t_power k passes) := by
  rw [r_power]
  unfold g_power t_power
  exact fn_T (E := fun _ _ => True) (L := fun _ _ => True) (q_set (p_x (t_exF (t_c (1 : Int)))) trivial fun found => (q_at (ρ' := [some (oF k), some (oF passes), some (oF found), none]) rfl (q_forK (E_power_1 k) (fun u_ => [(3, Enc.e u_)]) found (t_x1 o_range1 (t_exF (t_var 1 passes))) trivial rfl (fun u_ => rfl) (fun found => rfl) (fun u_ found => ty_power_1 k u_ found (Z := fun _ => True)) fun found => (q_at (ρ' := [some (oF k), none, some (oF found), none]) rfl (q_pre0 (q_at (ρ' := [none, none, some (oF found), none]) rfl (q_end (q_ret (f := fun r_ => (r_ : Int)) (p_x (t_exF (t_var 2 found))) trivial (fun _ => dF _))))))))) (fun _ => trivial)
theorem ty_digit_1 (k : Int) (u_ : Int) (number : Int) {Z : OEnv → Prop} : SQ (fun s ρ => kill [3] ρ = E_digit_1 k s) (fun s ρ => ρ = E_digit_1 k s) (fun o _ (b : Int) => O.data o = Enc.e b) (fun _ => True) (b_digit_1 [some (oF number), some (oF k), none, some (oF u_)]) (t_digit_1 k u_ number) := by
  unfold b_digit_1 t_digit_1
  exact (q_end (q_augG gfdiv gfdiv_ne 0 number (t_exF (t_var 1 k)) trivial fun number => (q_at (ρ' := [some (oF number), some (oF k), none, some (oF u_)]) rfl (q_nx number rfl))))
theorem ty_digit (number : Int) (k : Int) (place : Int) : TEq (m_digit [Enc.e number, Enc.e k, Enc.e place]) (t_digit number k place) := by
  rw [r_digit]
  unfold g_digit t_digit
  exact fn_T (E := fun _ _ => True) (L := fun _ _ => True) (q_forK (E_digit_1 k) (fun u_ => [(3, Enc.e u_)]) number (t_x1 o_range1 (t_exF (t_var 2 place))) trivial rfl (fun u_ => rfl) (fun number => rfl) (fun u_ number => ty_digit_1 k u_ number (Z := fun _ => True)) fun number => (q_at (ρ' := [some (oF number), some (oF k), none, none]) rfl (q_pre0 (q_at (ρ' := [some (oF number), some (oF k), none, none]) rfl (q_end (q_ret (f := fun r_ => (r_ : Int)) (p_x (t_exF (t_2 o_modI (t_call1 o_int (t_var 0 number)) (t_var 1 k)))) trivial (fun _ => dF _))))))) (fun _ => trivial)
theorem ty_after_pass_2 (train : (List Int)) (tracks : (List Int)) (track : Int) (found : (List Int)) {Z : OEnv → Prop} : SQ (fun s ρ => kill [3] ρ = E_after_pass_2 train tracks s) (fun s ρ => ρ = E_after_pass_2 train tracks s) (fun o _ (b : (List Int)) => O.data o = Enc.e b) (fun _ => True) (b_after_pass_2 [some (oF train), some (oF tracks), some ((oL oF) found), some (oF track), none, none]) (t_after_pass_2 train tracks track found) := by
  unfold b_after_pass_2 t_after_pass_2
  exact (q_end (q_ext (ox := oF) 2 found (p_frF (t_fil (fun ⟨wagon, own⟩ => [(4, Enc.e wagon), (5, Enc.e own)]) (t_i2 o_zip (t_var 0 train) (t_var 1 tracks)) (fun ⟨wagon, own⟩ => rfl) (fun ⟨wagon, own⟩ => (t_tst (t_2 o_eq (t_var 5 own) (t_var 3 track)))) (fun ⟨wagon, own⟩ => (t_var 4 wagon)))) trivial fun found => (q_at (ρ' := [some (oF train), some (oF tracks), some ((oL oF) found), some (oF track), none, none]) rfl (q_nx found rfl))))
theorem ty_after_pass (train : (List Int)) (tracks : (List Int)) : TEq (m_after_pass [Enc.e train, Enc.e tracks]) (t_after_pass train tracks) := by
  rw [r_after_pass]
  unfold g_after_pass t_after_pass
  exact fn_T (E := fun _ _ => True) (L := fun _ _ => True) (q_set (p_frF (t_nil (α := Int))) trivial fun found => (q_at (ρ' := [some (oF train), some (oF tracks), some ((oL oF) found), none, none, none]) rfl (q_for (E_after_pass_2 train tracks) (fun track => [(3, Enc.e track)]) found (t_isq (t_list (l_srtS (p_stL (t_var 1 tracks))))) trivial rfl (fun track => rfl) (fun found => rfl) (fun track found => ty_after_pass_2 train tracks track found (Z := fun _ => True)) fun found => (q_at (ρ' := [some (oF train), some (oF tracks), some ((oL oF) found), none, none, none]) rfl (q_pre0 (q_at (ρ' := [none, none, some ((oL oF) found), none, none, none]) rfl (q_pre0 (q_at (freeze1 (ox := (oL oF)) 2 found (dL dF)) (q_at (ρ' := [none, none, some (oF found), none, none, none]) rfl (q_end (q_ret (f := fun r_ => (r_ : (List Int))) (p_x (t_exF (t_var 2 found))) trivial (fun _ => dF _)))))))))))) (fun _ => trivial)
theorem ty_in_passes_2 (k : Int) (numbers : (Dc Int Int)) (place : Int) (train : (List Int)) (found : (List (List Int))) {Z : OEnv → Prop} : SQ (fun s ρ => kill [8, 9] ρ = E_in_passes_2 k numbers s) (fun s ρ => ρ = E_in_passes_2 k numbers s) (fun o _ (b : (Str × (List PyData))) => O.data o = Enc.e b) (fun _ => True) (b_in_passes_2 [none, none, some (oF k), none, none, some (oF numbers), some (oF train), some ((oL oF) found), some (oF place), none, none]) (t_in_passes_2 k numbers place train found) := by
  unfold b_in_passes_2 t_in_passes_2
  exact (q_set (p_x (t_exF (t_list (t_map (fun wagon => [(10, Enc.e wagon)]) (t_isq (t_var 6 train)) (fun wagon => rfl) (fun wagon => (t_call3 ty_digit (t_2 o_dget (t_var 5 numbers) (t_var 10 wagon)) (t_var 2 k) (t_var 8 place))))))) trivial fun tracks => (q_at (ρ' := [none, none, some (oF k), none, none, some (oF numbers), some (oF train), some ((oL oF) found), some (oF place), some (oF tracks), none]) rfl (q_app (ox := oF) 7 found (p_x (t_exF (t_var 9 tracks))) trivial fun found => (q_at (ρ' := [none, none, some (oF k), none, none, some (oF numbers), some (oF train), some ((oL oF) found), some (oF place), some (oF tracks), none]) rfl (q_end (q_set (p_x (t_exF (t_call2 ty_after_pass (t_var 6 train) (t_var 9 tracks)))) trivial fun train => (q_at (ρ' := [none, none, some (oF k), none, none, some (oF numbers), some (oF train), some ((oL oF) found), some (oF place), some (oF tracks), none]) rfl (q_nx (train, found) rfl))))))))
theorem ty_in_passes (arriving : (List Int)) (departing : (List Int)) (k : Int) (passes : Int) : TEq (m_in_passes [Enc.e arriving, Enc.e departing, Enc.e k, Enc.e passes]) (t_in_passes arriving departing k passes) := by
  rw [r_in_passes]
  unfold g_in_passes t_in_passes
  exact fn_T (E := fun _ _ => True) (L := fun _ _ => True) (q_set (p_x (t_exF (t_call2 ty_run_heads (t_var 0 arriving) (t_var 1 departing)))) trivial fun heads => (q_at (ρ' := [some (oF arriving), some (oF departing), some (oF k), some (oF passes), some (oF heads), none, none, none, none, none, none]) rfl (q_if (t_tst (t_2 o_geI (t_call1 o_len (t_varO 4 oF heads dF)) (t_call2 ty_power (t_varO 2 oF k dF) (t_varO 3 oF passes dF)))) trivial (q_retC (Co.p2 (fun _ => rfl) (Co.list Co.up)) (fun _ => dF _) (p_x (t_exF (t_tup2 (t_c ("runs" : Str)) (t_var 4 heads)))) trivial) (q_pre (q_at (ρ' := [some (oF arriving), some (oF departing), some (oF k), some (oF passes), none, none, none, none, none, none, none]) rfl (q_nxs (q_set (p_x (t_exF (t_call2 ty_run_numbers (t_var 0 arriving) (t_var 1 departing)))) trivial fun numbers => (q_at (ρ' := [some (oF arriving), some (oF departing), some (oF k), some (oF passes), none, some (oF numbers), none, none, none, none, none]) rfl (q_set (p_x (t_exF (t_list (t_isq (t_var 0 arriving))))) trivial fun train => (q_at (ρ' := [some (oF arriving), some (oF departing), some (oF k), some (oF passes), none, some (oF numbers), some (oF train), none, none, none, none]) rfl (q_set (p_frF (t_nil (α := (List Int)))) trivial fun found => (q_at (ρ' := [some (oF arriving), some (oF departing), some (oF k), some (oF passes), none, some (oF numbers), some (oF train), some ((oL oF) found), none, none, none]) rfl (q_pre0 (q_at (ρ' := [none, none, some (oF k), some (oF passes), none, some (oF numbers), some (oF train), some ((oL oF) found), none, none, none]) rfl (q_forK (E_in_passes_2 k numbers) (fun place => [(8, Enc.e place)]) (train, found) (t_x1 o_range1 (t_exF (t_var 3 passes))) trivial rfl (fun place => rfl) (fun ⟨train, found⟩ => rfl) (fun place ⟨train, found⟩ => ty_in_passes_2 k numbers place train found (Z := fun _ => True)) fun ⟨train, found⟩ => (q_at (ρ' := [none, none, some (oF k), none, none, some (oF numbers), some (oF train), some ((oL oF) found), none, none, none]) rfl (q_pre0 (q_at (ρ' := [none, none, none, none, none, none, none, some ((oL oF) found), none, none, none]) rfl (q_pre0 (q_at (freeze1 (ox := (oL oF)) 7 found (dL dF)) (q_at (ρ' := [none, none, none, none, none, none, none, some (oF found), none, none, none]) rfl (q_end (q_retC (Co.p2 (fun _ => rfl) (Co.list Co.up)) (fun _ => dF _) (p_x (t_exF (t_tup2 (t_c ("tracks" : Str)) (t_var 7 found)))) trivial))))))))))))))))))))))) (fun _ => trivial)
theorem ty_is_pass (train : (List Int)) (tracks : (List Int)) (k : Int) : TEq (m_is_pass [Enc.e train, Enc.e tracks, Enc.e k]) (t_is_pass train tracks k) := by
  rw [r_is_pass]
  unfold g_is_pass t_is_pass
  exact fn_T (E := fun _ _ => True) (L := fun _ _ => True) (q_end (q_ret (f := fun r_ => (r_ : Bool)) (p_x (t_exF (t_vand (t_2 o_eq (t_call1 o_len (t_var 1 tracks)) (t_call1 o_len (t_var 0 train))) (t_call1 o_all (t_list (t_map (fun track => [(3, Enc.e track)]) (t_isq (t_var 1 tracks)) (fun track => rfl) (fun track => (t_vchain o_leI o_ltI (t_c (0 : Int)) (t_var 3 track) (t_var 2 k))))))))) trivial (fun _ => dF _))) (fun _ => trivial)
theorem ty_judge_tracks_1 (departing : (List Int)) (k : Int) (tracks : (List Int)) (train : (List Int)) {Z : OEnv → Prop} : SQ (fun s ρ => kill [6] ρ = E_judge_tracks_1 departing k s) (fun s ρ => ρ = E_judge_tracks_1 departing k s) (fun o _ (b : Bool) => O.data o = Enc.e b) (fun _ => True) (b_judge_tracks_1 [none, some (oF departing), some (oF k), none, none, some (oF train), some (oF tracks)]) (t_judge_tracks_1 k tracks train) := by
  unfold b_judge_tracks_1 t_judge_tracks_1
  exact (q_if (t_tnot (t_ttr o_truB (t_call3 ty_is_pass (t_varO 5 oF train dF) (t_varO 6 oF tracks dF) (t_varO 2 oF k dF)))) trivial (q_ret (f := fun r_ => (r_ : Bool)) (p_x (t_exF (t_c false))) trivial (fun _ => dF _)) (q_pre (q_at (ρ' := [none, some (oF departing), some (oF k), none, none, some (oF train), some (oF tracks)]) rfl (q_nxs (q_end (q_set (p_x (t_exF (t_call2 ty_after_pass (t_var 5 train) (t_var 6 tracks)))) trivial fun train => (q_at (ρ' := [none, some (oF departing), some (oF k), none, none, some (oF train), some (oF tracks)]) rfl (q_nx train rfl))))))))
theorem ty_judge_tracks (arriving : (List Int)) (departing : (List Int)) (k : Int) (passes : Int) (lists : (List (List Int))) : TEq (m_judge_tracks [Enc.e arriving, Enc.e departing, Enc.e k, Enc.e passes, Enc.e lists]) (t_judge_tracks arriving departing k passes lists) := by
  rw [r_judge_tracks]
  unfold g_judge_tracks t_judge_tracks
  exact fn_T (E := fun _ _ => True) (L := fun _ _ => True) (q_if (t_tst (t_2 o_ne (t_call1 o_len (t_varO 4 oF lists dF)) (t_varO 3 oF passes dF))) trivial (q_ret (f := fun r_ => (r_ : Bool)) (p_x (t_exF (t_c false))) trivial (fun _ => dF _)) (q_pre (q_at (ρ' := [some (oF arriving), some (oF departing), some (oF k), none, some (oF lists), none, none]) rfl (q_nxs (q_set (p_x (t_exF (t_list (t_isq (t_var 0 arriving))))) trivial fun train => (q_at (ρ' := [some (oF arriving), some (oF departing), some (oF k), none, some (oF lists), some (oF train), none]) rfl (q_pre0 (q_at (ρ' := [none, some (oF departing), some (oF k), none, some (oF lists), some (oF train), none]) rfl (q_forK (E_judge_tracks_1 departing k) (fun tracks => [(6, Enc.e tracks)]) train (t_isq (t_var 4 lists)) trivial rfl (fun tracks => rfl) (fun train => rfl) (fun tracks train => ty_judge_tracks_1 departing k tracks train (Z := fun _ => True)) fun train => (q_at (ρ' := [none, some (oF departing), some (oF k), none, none, some (oF train), none]) rfl (q_pre0 (q_at (ρ' := [none, some (oF departing), none, none, none, some (oF train), none]) rfl (q_end (q_ret (f := fun r_ => (r_ : Bool)) (p_x (t_exF (t_2 o_eq (t_var 5 train) (t_var 1 departing)))) trivial (fun _ => dF _))))))))))))))) (fun _ => trivial)
theorem ty_judge_runs (arriving : (List Int)) (departing : (List Int)) (k : Int) (passes : Int) (wagons : (List Int)) : TEq (m_judge_runs [Enc.e arriving, Enc.e departing, Enc.e k, Enc.e passes, Enc.e wagons]) (t_judge_runs arriving departing k passes wagons) := by
  rw [r_judge_runs]
  unfold g_judge_runs t_judge_runs
  exact fn_T (E := fun _ _ => True) (L := fun _ _ => True) (q_set (p_x (t_exF (t_call2 ty_run_heads (t_var 0 arriving) (t_var 1 departing)))) trivial fun heads => (q_at (ρ' := [some (oF arriving), some (oF departing), some (oF k), some (oF passes), some (oF wagons), some (oF heads), none]) rfl (q_if (t_tor (t_tst (t_2 o_ne (t_lenSt (p_stL (t_varO 4 oF wagons dF))) (t_call1 o_len (t_varO 4 oF wagons dF)))) (t_tnot (t_ttr o_truB (t_call1 o_all (t_list (t_map (fun wagon => [(6, Enc.e wagon)]) (t_isq (t_varO 4 oF wagons dF)) (fun wagon => rfl) (fun wagon => (t_2 o_inX (t_var 6 wagon) (t_varO 5 oF heads dF))))))))) trivial (q_ret (f := fun r_ => (r_ : Bool)) (p_x (t_exF (t_c false))) trivial (fun _ => dF _)) (q_pre (q_at (ρ' := [none, none, some (oF k), some (oF passes), some (oF wagons), none, none]) rfl (q_nxs (q_end (q_ret (f := fun r_ => (r_ : Bool)) (p_x (t_exF (t_2 o_geI (t_call1 o_len (t_var 4 wagons)) (t_call2 ty_power (t_var 2 k) (t_var 3 passes))))) trivial (fun _ => dF _))))))))) (fun _ => trivial)
theorem ty_judge_passes (arriving : (List Int)) (departing : (List Int)) (k : Int) (passes : Int) (verdict : PyData) : TEq (m_judge_passes [Enc.e arriving, Enc.e departing, Enc.e k, Enc.e passes, Enc.e verdict]) (t_judge_passes arriving departing k passes verdict) := by
  rw [r_judge_passes]
  unfold g_judge_passes t_judge_passes
  exact fn_T (E := fun _ _ => True) (L := fun _ _ => True) (q_tup cD2 (fun ⟨word, paper⟩ => [(5, Enc.e word), (6, Enc.e paper)]) (t_exF (t_var 4 verdict)) trivial cD2_k fun ⟨word, paper⟩ => (q_at (ρ' := [some (oF arriving), some (oF departing), some (oF k), some (oF passes), some (oF verdict), some (oF word), some (oF paper)]) rfl (q_if (t_tst (t_2 o_DB2 (t_varO 5 oF word dF) (t_co Co.up (t_c ("tracks" : Str))))) trivial (q_ret (f := fun r_ => (r_ : Bool)) (p_x (t_exF (t_call5 ty_judge_tracks (t_var 0 arriving) (t_var 1 departing) (t_var 2 k) (t_var 3 passes) (t_co Co.dec (t_var 6 paper))))) trivial (fun _ => dF _)) (q_pre (q_at (ρ' := [some (oF arriving), some (oF departing), some (oF k), some (oF passes), none, some (oF word), some (oF paper)]) rfl (q_nxs (q_if (t_tst (t_2 o_DB2 (t_varO 5 oF word dF) (t_co Co.up (t_c ("runs" : Str))))) trivial (q_ret (f := fun r_ => (r_ : Bool)) (p_x (t_exF (t_call5 ty_judge_runs (t_var 0 arriving) (t_var 1 departing) (t_var 2 k) (t_var 3 passes) (t_co Co.dec (t_var 6 paper))))) trivial (fun _ => dF _)) (q_pre (q_at (ρ' := [none, none, none, none, none, none, none]) rfl (q_nxs (q_end (q_ret (f := fun r_ => (r_ : Bool)) (p_x (t_exF (t_c false))) trivial (fun _ => dF _))))))))))))) (fun _ => trivial)
theorem ty_law_cell (script : (List Int)) (k : Int) : TEq (m_law_cell [Enc.e script, Enc.e k]) (t_law_cell script k) := by
  rw [r_law_cell]
  unfold g_law_cell t_law_cell
  exact fn_T (E := fun _ _ => True) (L := fun _ _ => True) (q_if (t_tst (t_2 o_ltI (t_varO 1 oF k dF) (t_call1 o_len (t_varO 0 oF script dF)))) trivial (q_ret (f := fun r_ => (r_ : Int)) (p_x (t_exF (t_call1 o_int (t_2 o_vixL (t_var 0 script) (t_var 1 k))))) trivial (fun _ => dF _)) (q_pre (q_at (ρ' := [none, some (oF k)]) rfl (q_nxs (q_end (q_ret (f := fun r_ => (r_ : Int)) (p_x (t_exF (t_2 o_addI (t_2 o_mulI (t_c (31 : Int)) (t_var 1 k)) (t_c (5 : Int))))) trivial (fun _ => dF _))))))) (fun _ => trivial)
theorem ty_law_numbers_1 (limit : Int) (k : Int) (cell : Int) (found : (List Int)) {Z : OEnv → Prop} : SQ (fun s ρ => kill [4] ρ = E_law_numbers_1 limit s) (fun s ρ => ρ = E_law_numbers_1 limit s) (fun o _ (b : (List Int)) => O.data o = Enc.e b) (fun _ => True) (b_law_numbers_1 [some (oF cell), none, some (oF limit), some ((oL oF) found), some (oF k), none]) (t_law_numbers_1 limit k cell found) := by
  unfold b_law_numbers_1 t_law_numbers_1
  exact (q_app (ox := oF) 3 found (p_x (t_exF (t_2 o_modI (t_call1 o_int (t_var 0 cell)) (t_var 2 limit)))) trivial fun found => (q_at (ρ' := [some (oF cell), none, some (oF limit), some ((oL oF) found), some (oF k), none]) rfl (q_end (q_set (p_x (t_exF (t_2 o_fdivI (t_call1 o_int (t_var 0 cell)) (t_var 2 limit)))) trivial fun cell => (q_at (ρ' := [some (oF cell), none, some (oF limit), some ((oL oF) found), some (oF k), none]) rfl (q_nx (cell, found) rfl))))))
theorem ty_law_numbers_2 (cell : Int) (limit : Int) (k : Int) (found : (List Int)) {Z : OEnv → Prop} : SQ (fun s ρ => kill [4, 5] ρ = E_law_numbers_2 cell limit s) (fun s ρ => ρ = E_law_numbers_2 cell limit s) (fun o _ (b : (List Int)) => O.data o = Enc.e b) (fun _ => True) (b_law_numbers_2 [some (oF cell), none, some (oF limit), some ((oL oF) found), some (oF k), none]) (t_law_numbers_2 cell limit k found) := by
  unfold b_law_numbers_2 t_law_numbers_2
  exact (q_set (p_x (t_exF (t_2 o_modI (t_call1 o_int (t_2 o_addI (t_2 o_addI (t_2 o_mulI (t_var 0 cell) (t_c (48271 : Int))) (t_2 o_mulI (t_var 4 k) (t_c (69621 : Int)))) (t_c (7 : Int)))) (t_c (2147483647 : Int))))) trivial fun mixed => (q_at (ρ' := [some (oF cell), none, some (oF limit), some ((oL oF) found), some (oF k), some (oF mixed)]) rfl (q_set (p_x (t_exF (t_2 o_modI (t_call1 o_int (t_2 o_addI (t_2 o_addI (t_2 o_addI (t_2 o_mulI (t_var 5 mixed) (t_var 5 mixed)) (t_2 o_mulI (t_var 5 mixed) (t_c (40692 : Int)))) (t_2 o_mulI (t_var 4 k) (t_c (16807 : Int)))) (t_c (11 : Int)))) (t_c (2147483399 : Int))))) trivial fun mixed => (q_at (ρ' := [some (oF cell), none, some (oF limit), some ((oL oF) found), some (oF k), some (oF mixed)]) rfl (q_end (q_app (ox := oF) 3 found (p_x (t_exF (t_2 o_modI (t_call1 o_int (t_2 o_fdivI (t_var 5 mixed) (t_c (32 : Int)))) (t_var 2 limit)))) trivial fun found => (q_at (ρ' := [some (oF cell), none, some (oF limit), some ((oL oF) found), some (oF k), some (oF mixed)]) rfl (q_nx found rfl))))))))
theorem ty_law_numbers (cell : Int) (count : Int) (limit : Int) : TEq (m_law_numbers [Enc.e cell, Enc.e count, Enc.e limit]) (t_law_numbers cell count limit) := by
  rw [r_law_numbers]
  unfold g_law_numbers t_law_numbers
  exact fn_T (E := fun _ _ => True) (L := fun _ _ => True) (q_set (p_frF (t_nil (α := Int))) trivial fun found => (q_at (ρ' := [some (oF cell), some (oF count), some (oF limit), some ((oL oF) found), none, none]) rfl (q_if (t_tst (t_2 o_geI (t_varO 0 oF cell dF) (t_2 o_powI (t_c (10 : Int)) (t_c (18 : Int))))) trivial (q_assoc (q_set (p_x (t_exF (t_2 o_subI (t_var 0 cell) (t_2 o_powI (t_c (10 : Int)) (t_c (18 : Int)))))) trivial fun cell => (q_at (ρ' := [some (oF cell), some (oF count), some (oF limit), some ((oL oF) found), none, none]) rfl (q_assoc (q_forK (E_law_numbers_1 limit) (fun k => [(4, Enc.e k)]) (cell, found) (t_x1 o_range1 (t_exF (t_var 1 count))) trivial rfl (fun k => rfl) (fun ⟨cell, found⟩ => rfl) (fun k ⟨cell, found⟩ => ty_law_numbers_1 limit k cell found (Z := fun _ => True)) fun ⟨cell, found⟩ => (q_at (ρ' := [some (oF cell), none, some (oF limit), some ((oL oF) found), none, none]) rfl (q_pre (q_at (ρ' := [none, none, none, some ((oL oF) found), none, none]) rfl (q_pre (q_at (freeze1 (ox := (oL oF)) 3 found (dL dF)) (q_at (ρ' := [none, none, none, some (oF found), none, none]) rfl (q_ret (f := fun r_ => (r_ : (List Int))) (p_x (t_exF (t_var 3 found))) trivial (fun _ => dF _))))))))))))) (q_nxs (q_forK (E_law_numbers_2 cell limit) (fun k => [(4, Enc.e k)]) found (t_x1 o_range1 (t_exF (t_var 1 count))) trivial rfl (fun k => rfl) (fun found => rfl) (fun k found => ty_law_numbers_2 cell limit k found (Z := fun _ => True)) fun found => (q_at (ρ' := [some (oF cell), none, some (oF limit), some ((oL oF) found), none, none]) rfl (q_pre0 (q_at (ρ' := [none, none, none, some ((oL oF) found), none, none]) rfl (q_pre0 (q_at (freeze1 (ox := (oL oF)) 3 found (dL dF)) (q_at (ρ' := [none, none, none, some (oF found), none, none]) rfl (q_end (q_ret (f := fun r_ => (r_ : (List Int))) (p_x (t_exF (t_var 3 found))) trivial (fun _ => dF _)))))))))))))) (fun _ => trivial)
theorem ty_law_train_1 (count : Int) (draws : (List Int)) (k : Int) (rest : (List Int)) (found : (List Int)) {Z : OEnv → Prop} : SQ (fun s ρ => kill [5, 6] ρ = E_law_train_1 count draws s) (fun s ρ => ρ = E_law_train_1 count draws s) (fun o _ (b : (List Int)) => O.data o = Enc.e b) (fun _ => True) (b_law_train_1 [none, some (oF count), some (oF draws), some ((oL oF) rest), some ((oL oF) found), some (oF k), none]) (t_law_train_1 count draws k rest found) := by
  unfold b_law_train_1 t_law_train_1
  exact (q_set (p_popAt (ox := oF) 3 rest (t_exB (t_2 o_modI (t_2 o_vixL (t_varO 2 oF draws dF) (t_varO 5 oF k dF)) (t_call1 o_len (t_varO 3 (oL oF) rest (dL dF)))))) trivial fun ⟨wagon, rest⟩ => (q_at (ρ' := [none, some (oF count), some (oF draws), some ((oL oF) rest), some ((oL oF) found), some (oF k), some (oF wagon)]) rfl (q_join (τ := Int) (Es := fun s_ => match s_ with | wagon => [none, some (oF count), some (oF draws), some ((oL oF) rest), some ((oL oF) found), none, some (oF wagon)]) (q_end (q_if (t_tst (t_2 o_eq (t_2 o_modI (t_2 o_vixL (t_varO 2 oF draws dF) (t_2 o_addI (t_varO 1 oF count dF) (t_varO 5 oF k dF))) (t_c (16 : Int))) (t_c (0 : Int)))) trivial (q_asn (q_set (p_x (t_exF (t_2 o_mulI (t_var 6 wagon) (t_2 o_powI (t_c (10 : Int)) (t_c (20 : Int)))))) trivial fun wagon => (q_at (ρ' := [none, some (oF count), some (oF draws), some ((oL oF) rest), some ((oL oF) found), some (oF k), some (oF wagon)]) rfl (q_pre0 (q_at (ρ' := [none, some (oF count), some (oF draws), some ((oL oF) rest), some ((oL oF) found), none, some (oF wagon)]) rfl (q_nx wagon rfl)))))) (q_asn (q_end (q_if (t_tst (t_2 o_ltI (t_2 o_modI (t_2 o_vixL (t_varO 2 oF draws dF) (t_2 o_addI (t_varO 1 oF count dF) (t_varO 5 oF k dF))) (t_c (16 : Int))) (t_c (4 : Int)))) trivial (q_assoc (q_set (p_x (t_exF (t_2 o_subI (t_c (0 : Int)) (t_var 6 wagon)))) trivial fun wagon => (q_at (ρ' := [none, some (oF count), some (oF draws), some ((oL oF) rest), some ((oL oF) found), some (oF k), some (oF wagon)]) rfl (q_pre (q_at (ρ' := [none, some (oF count), some (oF draws), some ((oL oF) rest), some ((oL oF) found), none, some (oF wagon)]) rfl (q_nxs (q_nx wagon rfl))))))) (q_pre (q_at (ρ' := [none, some (oF count), some (oF draws), some ((oL oF) rest), some ((oL oF) found), none, some (oF wagon)]) rfl (q_nxs (q_nx wagon rfl))))))))) fun wagon => (q_end (q_app (ox := oF) 4 found (p_x (t_exF (t_var 6 wagon))) trivial fun found => (q_at (ρ' := [none, some (oF count), some (oF draws), some ((oL oF) rest), some ((oL oF) found), none, some (oF wagon)]) rfl (q_nx (rest, found) rfl)))))))
theorem ty_law_train (cell : Int) (count : Int) : TEq (m_law_train [Enc.e cell, Enc.e count]) (t_law_train cell count) := by
  rw [r_law_train]
  unfold g_law_train t_law_train
  exact fn_T (E := fun _ _ => True) (L := fun _ _ => True) (q_set (p_x (t_exF (t_call3 ty_law_numbers (t_var 0 cell) (t_2 o_mulI (t_c (2 : Int)) (t_var 1 count)) (t_c (20160 : Int))))) trivial fun draws => (q_at (ρ' := [some (oF cell), some (oF count), some (oF draws), none, none, none, none]) rfl (q_set (p_frF (t_i2 o_range2 (t_c (1 : Int)) (t_2 o_addI (t_var 1 count) (t_c (1 : Int))))) trivial fun rest => (q_at (ρ' := [some (oF cell), some (oF count), some (oF draws), some ((oL oF) rest), none, none, none]) rfl (q_set (p_frF (t_nil (α := Int))) trivial fun found => (q_at (ρ' := [some (oF cell), some (oF count), some (oF draws), some ((oL oF) rest), some ((oL oF) found), none, none]) rfl (q_pre0 (q_at (ρ' := [none, some (oF count), some (oF draws), some ((oL oF) rest), some ((oL oF) found), none, none]) rfl (q_for (E_law_train_1 count draws) (fun k => [(5, Enc.e k)]) (rest, found) (t_x1 o_range1 (t_exF (t_var 1 count))) trivial rfl (fun k => rfl) (fun ⟨rest, found⟩ => rfl) (fun k ⟨rest, found⟩ => ty_law_train_1 count draws k rest found (Z := fun _ => True)) fun ⟨rest, found⟩ => (q_at (ρ' := [none, some (oF count), some (oF draws), some ((oL oF) rest), some ((oL oF) found), none, none]) rfl (q_pre0 (q_at (ρ' := [none, none, none, none, some ((oL oF) found), none, none]) rfl (q_pre0 (q_at (freeze1 (ox := (oL oF)) 4 found (dL dF)) (q_at (ρ' := [none, none, none, none, some (oF found), none, none]) rfl (q_end (q_ret (f := fun r_ => (r_ : (List Int))) (p_x (t_exF (t_var 4 found))) trivial (fun _ => dF _)))))))))))))))))) (fun _ => trivial)
theorem ty_law_shuffled_1 (draws : (List Int)) (k : Int) (rest : (List Int)) (found : (List Int)) {Z : OEnv → Prop} : SQ (fun s ρ => kill [5] ρ = E_law_shuffled_1 draws s) (fun s ρ => ρ = E_law_shuffled_1 draws s) (fun o _ (b : (List Int)) => O.data o = Enc.e b) (fun _ => True) (b_law_shuffled_1 [none, none, some (oF draws), some ((oL oF) rest), some ((oL oF) found), some (oF k)]) (t_law_shuffled_1 draws k rest found) := by
  unfold b_law_shuffled_1 t_law_shuffled_1
  exact (q_end (q_appG (ox := oF) (g := Prod.fst) 4 found (p_popAt (ox := oF) 3 rest (t_exB (t_2 o_modI (t_2 o_vixL (t_varO 2 oF draws dF) (t_varO 5 oF k dF)) (t_call1 o_len (t_varO 3 (oL oF) rest (dL dF)))))) trivial fun c_ found => (q_at (ρ' := [none, none, some (oF draws), some ((oL oF) (c_).2), some ((oL oF) found), some (oF k)]) rfl (q_nx ((c_).2, found) rfl))))
theorem ty_law_shuffled (things : (List Int)) (cell : Int) : TEq (m_law_shuffled [Enc.e things, Enc.e cell]) (t_law_shuffled things cell) := by
  rw [r_law_shuffled]
  unfold g_law_shuffled t_law_shuffled
  exact fn_T (E := fun _ _ => True) (L := fun _ _ => True) (q_set (p_x (t_exF (t_call3 ty_law_numbers (t_var 1 cell) (t_call1 o_len (t_var 0 things)) (t_c (20160 : Int))))) trivial fun draws => (q_at (ρ' := [some (oF things), some (oF cell), some (oF draws), none, none, none]) rfl (q_set (p_frF (t_isq (t_var 0 things))) trivial fun rest => (q_at (ρ' := [some (oF things), some (oF cell), some (oF draws), some ((oL oF) rest), none, none]) rfl (q_set (p_frF (t_nil (α := Int))) trivial fun found => (q_at (ρ' := [some (oF things), some (oF cell), some (oF draws), some ((oL oF) rest), some ((oL oF) found), none]) rfl (q_pre0 (q_at (ρ' := [some (oF things), none, some (oF draws), some ((oL oF) rest), some ((oL oF) found), none]) rfl (q_forK (E_law_shuffled_1 draws) (fun k => [(5, Enc.e k)]) (rest, found) (t_x1 o_range1 (t_exF (t_call1 o_len (t_var 0 things)))) trivial rfl (fun k => rfl) (fun ⟨rest, found⟩ => rfl) (fun k ⟨rest, found⟩ => ty_law_shuffled_1 draws k rest found (Z := fun _ => True)) fun ⟨rest, found⟩ => (q_at (ρ' := [none, none, some (oF draws), some ((oL oF) rest), some ((oL oF) found), none]) rfl (q_pre0 (q_at (ρ' := [none, none, none, none, some ((oL oF) found), none]) rfl (q_pre0 (q_at (freeze1 (ox := (oL oF)) 4 found (dL dF)) (q_at (ρ' := [none, none, none, none, some (oF found), none]) rfl (q_end (q_ret (f := fun r_ => (r_ : (List Int))) (p_x (t_exF (t_var 4 found))) trivial (fun _ => dF _)))))))))))))))))) (fun _ => trivial)
theorem ty_law_heads (arriving : (List Int)) (departing : (List Int)) : TEq (m_law_heads [Enc.e arriving, Enc.e departing]) (t_law_heads arriving departing) := by
  rw [r_law_heads]
  unfold g_law_heads t_law_heads
  exact fn_T (E := fun _ _ => True) (L := fun _ _ => True) (q_set (p_x (t_exF (t_list (t_map (fun wagon => [(3, Enc.e wagon)]) (t_isq (t_var 1 departing)) (fun wagon => rfl) (fun wagon => (t_index o_index (t_var 0 arriving) (t_var 3 wagon))))))) trivial fun places => (q_at (ρ' := [some (oF arriving), some (oF departing), some (oF places), none, none]) rfl (q_end (q_ret (f := fun r_ => (r_ : (List Int))) (p_x (t_exF (t_list (t_fil (fun k => [(4, Enc.e k)]) (t_i2 o_range2 (t_c (1 : Int)) (t_call1 o_len (t_var 1 departing))) (fun k => rfl) (fun k => (t_tst (t_2 o_ltI (t_2 o_vixL (t_var 2 places) (t_var 4 k)) (t_2 o_vixL (t_var 2 places) (t_2 o_subI (t_var 4 k) (t_c (1 : Int))))))) (fun k => (t_2 o_vixL (t_var 1 departing) (t_var 4 k))))))) trivial (fun _ => dF _))))) (fun _ => trivial)
theorem tyO_law_after (train : (List Int)) (tracks : (List Int)) : TQ (oL oF) (mo_law_after [Enc.e train, Enc.e tracks]) (t_law_after train tracks) := by
  rw [ro_law_after]
  unfold g_law_after t_law_after
  exact fn_TO (ox := (oL oF)) (E := fun _ _ => True) (L := fun _ _ => True) (q_set (p_x (t_exF (t_list (t_sortD (t_list (t_map (fun k => [(5, Enc.e k)]) (t_i1 o_range1 (t_call1 o_len (t_var 0 train))) (fun k => rfl) (fun k => (t_tup2 (t_2 o_vixL (t_var 1 tracks) (t_var 5 k)) (t_var 5 k))))))))) trivial fun pairs => (q_at (ρ' := [some (oF train), some (oF tracks), some (oF pairs), none, none, none]) rfl (q_end (q_ret (f := fun r_ => (r_ : (List Int))) (p_frF (t_map (fun ⟨track, place⟩ => [(3, Enc.e track), (4, Enc.e place)]) (t_isq (t_var 2 pairs)) (fun ⟨track, place⟩ => rfl) (fun ⟨track, place⟩ => (t_2 o_vixL (t_var 0 train) (t_var 4 place))))) trivial (fun _ => rfl)))))
theorem ty_law_after (train : (List Int)) (tracks : (List Int)) : TEq (m_law_after [Enc.e train, Enc.e tracks]) (t_law_after train tracks) := frz_T (g := mo_law_after) (dL dF) (tyO_law_after train tracks)
theorem ty_law_departing_3 (arriving : (List Int)) (count : Int) (draws : (List Int)) (many : Int) (track : Int) (found : (List Int)) {Z : OEnv → Prop} : SQ (fun s ρ => kill [7] ρ = E_law_departing_3 arriving count draws many s) (fun s ρ => ρ = E_law_departing_3 arriving count draws many s) (fun o _ (b : (List Int)) => O.data o = Enc.e b) (fun _ => True) (b_law_departing_3 [some (oF arriving), none, none, some (oF count), some (oF draws), some (oF many), some (oF found), some (oF track), none]) (t_law_departing_3 arriving count draws many track found) := by
  unfold b_law_departing_3 t_law_departing_3
  exact (q_end (q_set (p_x (t_exF (t_2 o_addL (t_var 6 found) (t_list (t_fil (fun k => [(8, Enc.e k)]) (t_i1 o_range1 (t_var 3 count)) (fun k => rfl) (fun k => (t_tst (t_2 o_eq (t_2 o_modI (t_2 o_vixL (t_var 4 draws) (t_var 8 k)) (t_var 5 many)) (t_var 7 track)))) (fun k => (t_2 o_vixL (t_var 0 arriving) (t_var 8 k)))))))) trivial fun found => (q_at (ρ' := [some (oF arriving), none, none, some (oF count), some (oF draws), some (oF many), some (oF found), some (oF track), none]) rfl (q_nx found rfl))))
theorem ty_law_departing (arriving : (List Int)) (cell : Int) (picks : (List Int)) : TEq (m_law_departing [Enc.e arriving, Enc.e cell, Enc.e picks]) (t_law_departing arriving cell picks) := by
  rw [r_law_departing]
  unfold g_law_departing t_law_departing
  exact fn_T (E := fun _ _ => True) (L := fun _ _ => True) (q_set (p_x (t_exF (t_call1 o_len (t_var 0 arriving)))) trivial fun count => (q_at (ρ' := [some (oF arriving), some (oF cell), some (oF picks), some (oF count), none, none, none, none, none]) rfl (q_if (t_tst (t_2 o_eq (t_2 o_modI (t_2 o_idx (t_varO 2 oF picks dF) (t_c (0 : Int))) (t_c (3 : Int))) (t_c (0 : Int)))) trivial (q_ret (f := fun r_ => (r_ : (List Int))) (p_x (t_exF (t_call2 ty_law_shuffled (t_var 0 arriving) (t_var 1 cell)))) trivial (fun _ => dF _)) (q_nxs (q_if (t_tst (t_2 o_eq (t_2 o_modI (t_2 o_idx (t_varO 2 oF picks dF) (t_c (0 : Int))) (t_c (9 : Int))) (t_c (1 : Int)))) trivial (q_ret (f := fun r_ => (r_ : (List Int))) (p_x (t_exF (t_list (t_map (fun k => [(8, Enc.e k)]) (t_i1 o_range1 (t_var 3 count)) (fun k => rfl) (fun k => (t_2 o_vixL (t_var 0 arriving) (t_2 o_subI (t_2 o_subI (t_var 3 count) (t_c (1 : Int))) (t_var 8 k)))))))) trivial (fun _ => dF _)) (q_nxs (q_set (p_x (t_exF (t_call3 ty_law_numbers (t_var 1 cell) (t_var 3 count) (t_c (20160 : Int))))) trivial fun draws => (q_at (ρ' := [some (oF arriving), some (oF cell), some (oF picks), some (oF count), some (oF draws), none, none, none, none]) rfl (q_set (p_x (t_exF (t_2 o_addI (t_c (1 : Int)) (t_2 o_modI (t_2 o_idx (t_var 2 picks) (t_c (1 : Int))) (t_c (9 : Int)))))) trivial fun many => (q_at (ρ' := [some (oF arriving), some (oF cell), some (oF picks), some (oF count), some (oF draws), some (oF many), none, none, none]) rfl (q_set (p_x (t_exF (t_list (t_nil (α := Int))))) trivial fun found => (q_at (ρ' := [some (oF arriving), some (oF cell), some (oF picks), some (oF count), some (oF draws), some (oF many), some (oF found), none, none]) rfl (q_pre0 (q_at (ρ' := [some (oF arriving), none, none, some (oF count), some (oF draws), some (oF many), some (oF found), none, none]) rfl (q_for (E_law_departing_3 arriving count draws many) (fun track => [(7, Enc.e track)]) found (t_x1 o_range1 (t_exF (t_var 5 many))) trivial rfl (fun track => rfl) (fun found => rfl) (fun track found => ty_law_departing_3 arriving count draws many track found (Z := fun _ => True)) fun found => (q_at (ρ' := [some (oF arriving), none, none, some (oF count), some (oF draws), some (oF many), some (oF found), none, none]) rfl (q_pre0 (q_at (ρ' := [none, none, none, none, none, none, some (oF found), none, none]) rfl (q_end (q_ret (f := fun r_ => (r_ : (List Int))) (p_x (t_exF (t_var 6 found))) trivial (fun _ => dF _))))))))))))))))))))) (fun _ => trivial)
theorem ty_law_enough_1 (count : Int) (k : Int) (turn : Int) (power_v : Int) {Z : OEnv → Prop} : SQ (fun s ρ => kill [4] ρ = E_law_enough_1 count k s) (fun s ρ => ρ = E_law_enough_1 count k s) (fun o _ (b : Bool) => O.data o = Enc.e b) (fun _ => True) (b_law_enough_1 [some (oF count), some (oF k), none, some (oF power_v), some (oF turn)]) (t_law_enough_1 k turn power_v) := by
  unfold b_law_enough_1 t_law_enough_1
  exact (q_end (q_set (p_x (t_exF (t_2 o_mulI (t_var 3 power_v) (t_var 1 k)))) trivial fun power_v => (q_at (ρ' := [some (oF count), some (oF k), none, some (oF power_v), some (oF turn)]) rfl (q_nx power_v rfl))))
theorem ty_law_enough (count : Int) (k : Int) (passes : Int) : TEq (m_law_enough [Enc.e count, Enc.e k, Enc.e passes]) (t_law_enough count k passes) := by
  rw [r_law_enough]
  unfold g_law_enough t_law_enough
  exact fn_T (E := fun _ _ => True) (L := fun _ _ => True) (q_set (p_x (t_exF (t_c (1 : Int)))) trivial fun power_v => (q_at (ρ' := [some (oF count), some (oF k), some (oF passes), some (oF power_v), none]) rfl (q_forK (E_law_enough_1 count k) (fun turn => [(4, Enc.e turn)]) power_v (t_x1 o_range1 (t_exF (t_var 2 passes))) trivial rfl (fun turn => rfl) (fun power_v => rfl) (fun turn power_v => ty_law_enough_1 count k turn power_v (Z := fun _ => True)) fun power_v => (q_at (ρ' := [some (oF count), some (oF k), none, some (oF power_v), none]) rfl (q_pre0 (q_at (ρ' := [some (oF count), none, none, some (oF power_v), none]) rfl (q_end (q_ret (f := fun r_ => (r_ : Bool)) (p_x (t_exF (t_2 o_gtI (t_var 3 power_v) (t_var 0 count)))) trivial (fun _ => dF _))))))))) (fun _ => trivial)
theorem ty_law_lists_1 (arriving : (List Int)) (departing : (List Int)) (k : Int) (passes : Int) (heads : (List Int)) (wagon : Int) (numbers : (Dc Int Int)) (number : Int) {Z : OEnv → Prop} : SQ (fun s ρ => kill [7] ρ = E_law_lists_1 arriving departing k passes heads s) (fun s ρ => ρ = E_law_lists_1 arriving departing k passes heads s) (fun o _ (b : (List (List Int))) => O.data o = Enc.e b) (fun _ => True) (b_law_lists_1 [some (oF arriving), some (oF departing), some (oF k), some (oF passes), some (oF heads), some ((oM oF) numbers), some (oF number), some (oF wagon), none, none, none]) (t_law_lists_1 heads wagon numbers number) := by
  unfold b_law_lists_1 t_law_lists_1
  exact (q_join (τ := Int) (Es := fun s_ => match s_ with | number => [some (oF arriving), some (oF departing), some (oF k), some (oF passes), some (oF heads), some ((oM oF) numbers), some (oF number), some (oF wagon), none, none, none]) (q_end (q_if (t_tst (t_2 o_inX (t_varO 7 oF wagon dF) (t_varO 4 oF heads dF))) trivial (q_asn (q_end (q_set (p_x (t_exF (t_2 o_addI (t_var 6 number) (t_c (1 : Int))))) trivial fun number => (q_at (ρ' := [some (oF arriving), some (oF departing), some (oF k), some (oF passes), some (oF heads), some ((oM oF) numbers), some (oF number), some (oF wagon), none, none, none]) rfl (q_nx number rfl))))) (q_asn (q_nx number rfl)))) fun number => (q_end (q_dputV 5 numbers (p_x (t_exF (t_var 6 number))) (t_exF (t_var 7 wagon)) trivial (fun numbers => (q_at (ρ' := [some (oF arriving), some (oF departing), some (oF k), some (oF passes), some (oF heads), some ((oM oF) numbers), some (oF number), some (oF wagon), none, none, none]) rfl (q_nx (numbers, number) rfl))) (by intro x_ h_; exact Bool.noConfusion h_))))
theorem ty_law_lists_3 (departing : (List Int)) (k : Int) (train : (List Int)) (found : (List (List Int))) (wagon : Int) (numbers : (Dc Int Int)) {Z : OEnv → Prop} : SQ (fun s ρ => kill [7] ρ = E_law_lists_3 departing k train found s) (fun s ρ => ρ = E_law_lists_3 departing k train found s) (fun o _ (b : (List (List Int))) => O.data o = Enc.e b) (fun _ => True) (b_law_lists_3 [none, some (oF departing), some (oF k), none, none, some ((oM oF) numbers), none, some (oF wagon), some (oF train), some ((oL (oL oF)) found), none]) (t_law_lists_3 k wagon numbers) := by
  unfold b_law_lists_3 t_law_lists_3
  exact (q_end (q_dputV 5 numbers (p_x (t_exB (t_2 o_fdivI (t_2 o_dget (t_varO 5 (oM oF) numbers (dM dF)) (t_varO 7 oF wagon dF)) (t_varO 2 oF k dF)))) (t_exF (t_var 7 wagon)) trivial (fun numbers => (q_at (ρ' := [none, some (oF departing), some (oF k), none, none, some ((oM oF) numbers), none, some (oF wagon), some (oF train), some ((oL (oL oF)) found), none]) rfl (q_nx numbers rfl))) (by intro x_ h_; exact Bool.noConfusion h_)))
theorem ty_law_lists_4 (departing : (List Int)) (k : Int) (turn : Int) (numbers : (Dc Int Int)) (train : (List Int)) (found : (List (List Int))) {Z : OEnv → Prop} : SQ (fun s ρ => kill [7, 10] ρ = E_law_lists_4 departing k s) (fun s ρ => ρ = E_law_lists_4 departing k s) (fun o _ (b : (List (List Int))) => O.data o = Enc.e b) (fun _ => True) (b_law_lists_4 [none, some (oF departing), some (oF k), none, none, some ((oM oF) numbers), none, none, some (oF train), some ((oL (oL oF)) found), some (oF turn)]) (t_law_lists_4 departing k turn numbers train found) := by
  unfold b_law_lists_4 t_law_lists_4
  exact (q_app (ox := (oL oF)) 9 found (p_frB (t_map (fun wagon => [(7, Enc.e wagon)]) (t_isq (t_varO 8 oF train dF)) (fun wagon => rfl) (fun wagon => (t_2 o_modI (t_2 o_dget (t_varO 5 (oM oF) numbers (dM dF)) (t_var 7 wagon)) (t_varO 2 oF k dF))))) trivial fun found => (q_at (ρ' := [none, some (oF departing), some (oF k), none, none, some ((oM oF) numbers), none, none, some (oF train), some ((oL (oL oF)) found), some (oF turn)]) rfl (q_set (p_callB (ox := (oL oF)) (a_1 (t_varO 8 oF train dF) fun a0_ => (a_1 (t_2 o_vixL (t_varO 9 (oL (oL oF)) found (dL (dL dF))) (t_varO 10 oF turn dF)) fun a1_ => (a_0 (tyO_law_after a0_ a1_))))) trivial fun train => (q_at (ρ' := [none, some (oF departing), some (oF k), none, none, some ((oM oF) numbers), none, none, some ((oL oF) train), some ((oL (oL oF)) found), some (oF turn)]) rfl (q_pre0 (q_at (freeze1 (ox := (oL oF)) 8 train (dL dF)) (q_at (ρ' := [none, some (oF departing), some (oF k), none, none, some ((oM oF) numbers), none, none, some (oF train), some ((oL (oL oF)) found), some (oF turn)]) rfl (q_pre0 (q_at (ρ' := [none, some (oF departing), some (oF k), none, none, some ((oM oF) numbers), none, none, some (oF train), some ((oL (oL oF)) found), none]) rfl (q_end (q_for (E_law_lists_3 departing k train found) (fun wagon => [(7, Enc.e wagon)]) numbers (t_isq (t_var 1 departing)) trivial rfl (fun wagon => rfl) (fun numbers => rfl) (fun wagon numbers => ty_law_lists_3 departing k train found wagon numbers (Z := fun _ => True)) fun numbers => (q_at (ρ' := [none, some (oF departing), some (oF k), none, none, some ((oM oF) numbers), none, none, some (oF train), some ((oL (oL oF)) found), none]) rfl (q_nx (numbers, train, found) rfl)))))))))))))
theorem ty_law_lists (arriving : (List Int)) (departing : (List Int)) (k : Int) (passes : Int) : TEq (m_law_lists [Enc.e arriving, Enc.e departing, Enc.e k, Enc.e passes]) (t_law_lists arriving departing k passes) := by
  rw [r_law_lists]
  unfold g_law_lists t_law_lists
  exact fn_T (E := fun _ _ => True) (L := fun _ _ => True) (q_set (p_x (t_exF (t_call2 ty_law_heads (t_var 0 arriving) (t_var 1 departing)))) trivial fun heads => (q_at (ρ' := [some (oF arriving), some (oF departing), some (oF k), some (oF passes), some (oF heads), none, none, none, none, none, none]) rfl (q_set (p_dnew (oe := oF) 128 rfl) trivial fun numbers => (q_at (ρ' := [some (oF arriving), some (oF departing), some (oF k), some (oF passes), some (oF heads), some ((oM oF) numbers), none, none, none, none, none]) rfl (q_set (p_x (t_exF (t_c (0 : Int)))) trivial fun number => (q_at (ρ' := [some (oF arriving), some (oF departing), some (oF k), some (oF passes), some (oF heads), some ((oM oF) numbers), some (oF number), none, none, none, none]) rfl (q_for (E_law_lists_1 arriving departing k passes heads) (fun wagon => [(7, Enc.e wagon)]) (numbers, number) (t_isq (t_var 1 departing)) trivial rfl (fun wagon => rfl) (fun ⟨numbers, number⟩ => rfl) (fun wagon ⟨numbers, number⟩ => ty_law_lists_1 arriving departing k passes heads wagon numbers number (Z := fun _ => True)) fun ⟨numbers, number⟩ => (q_at (ρ' := [some (oF arriving), some (oF departing), some (oF k), some (oF passes), some (oF heads), some ((oM oF) numbers), some (oF number), none, none, none, none]) rfl (q_pre0 (q_at (ρ' := [some (oF arriving), some (oF departing), some (oF k), some (oF passes), none, some ((oM oF) numbers), none, none, none, none, none]) rfl (q_set (p_x (t_exF (t_list (t_isq (t_var 0 arriving))))) trivial fun train => (q_at (ρ' := [some (oF arriving), some (oF departing), some (oF k), some (oF passes), none, some ((oM oF) numbers), none, none, some (oF train), none, none]) rfl (q_set (p_nilO (ox := (oL oF))) trivial fun found => (q_at (ρ' := [some (oF arriving), some (oF departing), some (oF k), some (oF passes), none, some ((oM oF) numbers), none, none, some (oF train), some ((oL (oL oF)) found), none]) rfl (q_pre0 (q_at (ρ' := [none, some (oF departing), some (oF k), some (oF passes), none, some ((oM oF) numbers), none, none, some (oF train), some ((oL (oL oF)) found), none]) rfl (q_forK (E_law_lists_4 departing k) (fun turn => [(10, Enc.e turn)]) (numbers, train, found) (t_x1 o_range1 (t_exF (t_var 3 passes))) trivial rfl (fun turn => rfl) (fun ⟨numbers, train, found⟩ => rfl) (fun turn ⟨numbers, train, found⟩ => ty_law_lists_4 departing k turn numbers train found (Z := fun _ => True)) fun ⟨numbers, train, found⟩ => (q_at (ρ' := [none, some (oF departing), some (oF k), none, none, some ((oM oF) numbers), none, none, some (oF train), some ((oL (oL oF)) found), none]) rfl (q_pre0 (q_at (ρ' := [none, none, none, none, none, none, none, none, none, some ((oL (oL oF)) found), none]) rfl (q_pre0 (q_at (freeze1 (ox := (oL (oL oF))) 9 found (dL (dL dF))) (q_at (ρ' := [none, none, none, none, none, none, none, none, none, some (oF found), none]) rfl (q_end (q_ret (f := fun r_ => (r_ : (List (List Int)))) (p_x (t_exF (t_var 9 found))) trivial (fun _ => dF _)))))))))))))))))))))))))) (fun _ => trivial)
theorem ty_law_accepts_1 (k : Int) (passes : Int) (paper : PyData) (heads : (List Int)) (j : Int) {Z : OEnv → Prop} : SQ (fun s ρ => kill [8] ρ = E_law_accepts_1 k passes paper heads s) (fun s ρ => ρ = E_law_accepts_1 k passes paper heads s) (fun o _ (b : Bool) => O.data o = Enc.e b) (fun _ => True) (b_law_accepts_1 [none, none, some (oF k), some (oF passes), none, none, some (oF paper), some (oF heads), some (oF j), none, none, none]) (t_law_accepts_1 paper heads j) := by
  unfold b_law_accepts_1 t_law_accepts_1
  exact (q_end (q_if (t_tor (t_tst (t_2 o_DB2 (t_2 o_D2 (t_varO 6 oF paper dF) (t_co Co.up (t_varO 8 oF j dF))) (t_co Co.up (t_varO 7 oF heads dF)))) (t_tst (t_2 o_DB2 (t_2 o_D2 (t_varO 6 oF paper dF) (t_co Co.up (t_varO 8 oF j dF))) (t_sliceD (t_varO 6 oF paper dF) (t_part (t_c (0 : Int))) (t_part (t_varO 8 oF j dF)))))) trivial (q_ret (f := fun r_ => (r_ : Bool)) (p_x (t_exF (t_c false))) trivial (fun _ => dF _)) (q_pre (q_at (ρ' := [none, none, some (oF k), some (oF passes), none, none, some (oF paper), some (oF heads), none, none, none, none]) rfl (q_nxs (q_nx () rfl))))))
theorem ty_law_accepts_3 (departing : (List Int)) (k : Int) (tracks : PyData) (train : (List Int)) {Z : OEnv → Prop} : SQ (fun s ρ => kill [10] ρ = E_law_accepts_3 departing k s) (fun s ρ => ρ = E_law_accepts_3 departing k s) (fun o _ (b : Bool) => O.data o = Enc.e b) (fun _ => True) (b_law_accepts_3 [none, some (oF departing), some (oF k), none, none, none, none, none, none, some (oF train), some (oF tracks), none]) (t_law_accepts_3 k tracks train) := by
  unfold b_law_accepts_3 t_law_accepts_3
  exact (q_if (t_tor (t_tst (t_2 o_ne (t_co Co.int (t_call1 o_D1L (t_varO 10 oF tracks dF))) (t_call1 o_len (t_varO 9 oF train dF)))) (t_tst (t_2 o_gtI (t_call1 o_len (t_list (t_fil (fun track => [(11, Enc.e track)]) (t_isqD (t_varO 10 oF tracks dF)) (fun track => rfl) (fun track => (t_tor (t_tst (t_2 o_ltI (t_co Co.int (t_var 11 track)) (t_c (0 : Int)))) (t_tst (t_2 o_geI (t_co Co.int (t_var 11 track)) (t_varO 2 oF k dF))))) (fun track => (t_var 11 track))))) (t_c (0 : Int))))) trivial (q_ret (f := fun r_ => (r_ : Bool)) (p_x (t_exF (t_c false))) trivial (fun _ => dF _)) (q_pre (q_at (ρ' := [none, some (oF departing), some (oF k), none, none, none, none, none, none, some (oF train), some (oF tracks), none]) rfl (q_nxs (q_end (q_set (p_x (t_exF (t_call2 ty_law_after (t_var 9 train) (t_co Co.dec (t_var 10 tracks))))) trivial fun train => (q_at (ρ' := [none, some (oF departing), some (oF k), none, none, none, none, none, none, some (oF train), some (oF tracks), none]) rfl (q_nx train rfl))))))))
theorem ty_law_accepts (arriving : (List Int)) (departing : (List Int)) (k : Int) (passes : Int) (verdict : PyData) : TEq (m_law_accepts [Enc.e arriving, Enc.e departing, Enc.e k, Enc.e passes, Enc.e verdict]) (t_law_accepts arriving departing k passes verdict) := by
  rw [r_law_accepts]
  unfold g_law_accepts t_law_accepts
  exact fn_T (E := fun _ _ => True) (L := fun _ _ => True) (q_tup cD2 (fun ⟨word, paper⟩ => [(5, Enc.e word), (6, Enc.e paper)]) (t_exF (t_var 4 verdict)) trivial cD2_k fun ⟨word, paper⟩ => (q_at (ρ' := [some (oF arriving), some (oF departing), some (oF k), some (oF passes), some (oF verdict), some (oF word), some (oF paper), none, none, none, none, none]) rfl (q_set (p_x (t_exF (t_call2 ty_law_heads (t_var 0 arriving) (t_var 1 departing)))) trivial fun heads => (q_at (ρ' := [some (oF arriving), some (oF departing), some (oF k), some (oF passes), some (oF verdict), some (oF word), some (oF paper), some (oF heads), none, none, none, none]) rfl (q_if (t_tst (t_2 o_DB2 (t_varO 5 oF word dF) (t_co Co.up (t_c ("runs" : Str))))) trivial (q_pre (q_at (ρ' := [none, none, some (oF k), some (oF passes), none, none, some (oF paper), some (oF heads), none, none, none, none]) rfl (q_assoc (q_for (E_law_accepts_1 k passes paper heads) (fun j => [(8, Enc.e j)]) () (t_x1 o_range1 (t_exF (t_co Co.int (t_call1 o_D1L (t_var 6 paper))))) trivial rfl (fun j => rfl) (fun _ => rfl) (fun j _ => ty_law_accepts_1 k passes paper heads j (Z := fun _ => True)) fun _ => (q_at (ρ' := [none, none, some (oF k), some (oF passes), none, none, some (oF paper), some (oF heads), none, none, none, none]) rfl (q_pre (q_at (ρ' := [none, none, some (oF k), some (oF passes), none, none, some (oF paper), none, none, none, none, none]) rfl (q_ret (f := fun r_ => (r_ : Bool)) (p_x (t_exF (t_vnot (t_call3 ty_law_enough (t_co Co.int (t_call1 o_D1L (t_var 6 paper))) (t_var 2 k) (t_var 3 passes))))) trivial (fun _ => dF _))))))))) (q_pre (q_at (ρ' := [some (oF arriving), some (oF departing), some (oF k), some (oF passes), none, some (oF word), some (oF paper), none, none, none, none, none]) rfl (q_nxs (q_if (t_tor (t_tst (t_2 o_DB2 (t_varO 5 oF word dF) (t_co Co.up (t_c ("tracks" : Str))))) (t_tst (t_2 o_ne (t_co Co.int (t_call1 o_D1L (t_varO 6 oF paper dF))) (t_varO 3 oF passes dF)))) trivial (q_ret (f := fun r_ => (r_ : Bool)) (p_x (t_exF (t_c false))) trivial (fun _ => dF _)) (q_pre (q_at (ρ' := [some (oF arriving), some (oF departing), some (oF k), none, none, none, some (oF paper), none, none, none, none, none]) rfl (q_nxs (q_set (p_x (t_exF (t_list (t_isq (t_var 0 arriving))))) trivial fun train => (q_at (ρ' := [some (oF arriving), some (oF departing), some (oF k), none, none, none, some (oF paper), none, none, some (oF train), none, none]) rfl (q_pre0 (q_at (ρ' := [none, some (oF departing), some (oF k), none, none, none, some (oF paper), none, none, some (oF train), none, none]) rfl (q_forK (E_law_accepts_3 departing k) (fun tracks => [(10, Enc.e tracks)]) train (t_isqD (t_var 6 paper)) trivial rfl (fun tracks => rfl) (fun train => rfl) (fun tracks train => ty_law_accepts_3 departing k tracks train (Z := fun _ => True)) fun train => (q_at (ρ' := [none, some (oF departing), some (oF k), none, none, none, none, none, none, some (oF train), none, none]) rfl (q_pre0 (q_at (ρ' := [none, some (oF departing), none, none, none, none, none, none, none, some (oF train), none, none]) rfl (q_end (q_ret (f := fun r_ => (r_ : Bool)) (p_x (t_exF (t_2 o_eq (t_var 9 train) (t_var 1 departing)))) trivial (fun _ => dF _))))))))))))))))))))))) (fun _ => trivial)
theorem ty_law_tracks_papers_3 (lists : (List (List Int))) (found : (List (List (List Int)))) (turn : Int) (row : (List Int)) (at_ : Int) (track : Int) (others : (List (List Int))) {Z : OEnv → Prop} : SQ (fun s ρ => kill [10] ρ = E_law_tracks_papers_3 lists found turn row at_ s) (fun s ρ => ρ = E_law_tracks_papers_3 lists found turn row at_ s) (fun o _ (b : (List PyData)) => O.data o = Enc.e b) (fun _ => True) (b_law_tracks_papers_3 [some (oF lists), none, none, none, none, some ((oL oF) found), some (oF turn), some (oF row), some ((oL oF) others), some (oF at_), some (oF track), none, none, none]) (t_law_tracks_papers_3 row at_ track others) := by
  unfold b_law_tracks_papers_3 t_law_tracks_papers_3
  exact (q_end (q_app (ox := oF) 8 others (p_x (t_exF (t_2 o_addL (t_2 o_addL (t_slice (t_var 7 row) (t_part (t_c (0 : Int))) (t_part (t_var 9 at_))) (t_list (t_cons (t_var 10 track) (t_nil (α := Int))))) (t_slice (t_var 7 row) (t_part (t_2 o_addI (t_var 9 at_) (t_c (1 : Int)))) t_nopart)))) trivial fun others => (q_at (ρ' := [some (oF lists), none, none, none, none, some ((oL oF) found), some (oF turn), some (oF row), some ((oL oF) others), some (oF at_), some (oF track), none, none, none]) rfl (q_nx others rfl))))
theorem ty_law_tracks_papers_4 (lists : (List (List Int))) (turn : Int) (other : (List Int)) (found : (List (List (List Int)))) {Z : OEnv → Prop} : SQ (fun s ρ => kill [11] ρ = E_law_tracks_papers_4 lists turn s) (fun s ρ => ρ = E_law_tracks_papers_4 lists turn s) (fun o _ (b : (List PyData)) => O.data o = Enc.e b) (fun _ => True) (b_law_tracks_papers_4 [some (oF lists), none, none, none, none, some ((oL oF) found), some (oF turn), none, none, none, none, some (oF other), none, none]) (t_law_tracks_papers_4 lists turn other found) := by
  unfold b_law_tracks_papers_4 t_law_tracks_papers_4
  exact (q_end (q_app (ox := oF) 5 found (p_x (t_exF (t_2 o_addL (t_2 o_addL (t_slice (t_var 0 lists) (t_part (t_c (0 : Int))) (t_part (t_var 6 turn))) (t_list (t_cons (t_var 11 other) (t_nil (α := (List Int)))))) (t_slice (t_var 0 lists) (t_part (t_2 o_addI (t_var 6 turn) (t_c (1 : Int)))) t_nopart)))) trivial fun found => (q_at (ρ' := [some (oF lists), none, none, none, none, some ((oL oF) found), some (oF turn), none, none, none, none, some (oF other), none, none]) rfl (q_nx found rfl))))
theorem ty_law_tracks_papers (lists : (List (List Int))) (k : Int) (passes : Int) (count : Int) (picks : (List Int)) : TEq (m_law_tracks_papers [Enc.e lists, Enc.e k, Enc.e passes, Enc.e count, Enc.e picks]) (t_law_tracks_papers lists k passes count picks) := by
  rw [r_law_tracks_papers]
  unfold g_law_tracks_papers t_law_tracks_papers
  exact fn_T (E := fun _ _ => True) (L := fun _ _ => True) (q_set (p_frF (t_cons (t_var 0 lists) (t_cons (t_2 o_addL (t_var 0 lists) (t_list (t_cons (t_list (t_map (fun j => [(13, Enc.e j)]) (t_i1 o_range1 (t_var 3 count)) (fun j => rfl) (fun j => (t_c (0 : Int))))) (t_nil (α := (List Int)))))) (t_cons (t_slice (t_var 0 lists) (t_part (t_c (1 : Int))) t_nopart) (t_cons (t_list (t_nil (α := (List Int)))) (t_cons (t_list (t_map (fun row => [(7, Enc.e row)]) (t_isq (t_list (t_frev (t_var 0 lists)))) (fun row => rfl) (fun row => (t_list (t_isq (t_var 7 row)))))) (t_nil (α := (List (List Int)))))))))) trivial fun found => (q_at (ρ' := [some (oF lists), some (oF k), some (oF passes), some (oF count), some (oF picks), some ((oL oF) found), none, none, none, none, none, none, none, none]) rfl (q_join (τ := (List (List (List Int)))) (Es := fun s_ => match s_ with | found => [none, none, none, none, none, some (oF found), none, none, none, none, none, none, none, none]) (q_end (q_if (t_tst (t_2 o_gtI (t_varO 2 oF passes dF) (t_c (0 : Int)))) trivial (q_asn (q_set (p_x (t_exF (t_2 o_modI (t_2 o_idx (t_var 4 picks) (t_c (0 : Int))) (t_call1 o_len (t_var 0 lists))))) trivial fun turn => (q_at (ρ' := [some (oF lists), some (oF k), some (oF passes), some (oF count), some (oF picks), some ((oL oF) found), some (oF turn), none, none, none, none, none, none, none]) rfl (q_set (p_x (t_exF (t_2 o_vixL (t_var 0 lists) (t_var 6 turn)))) trivial fun row => (q_at (ρ' := [some (oF lists), some (oF k), some (oF passes), some (oF count), some (oF picks), some ((oL oF) found), some (oF turn), some (oF row), none, none, none, none, none, none]) rfl (q_set (p_frF (t_cons (t_slice (t_var 7 row) (t_part (t_c (1 : Int))) t_nopart) (t_cons (t_2 o_addL (t_var 7 row) (t_list (t_cons (t_c (0 : Int)) (t_nil (α := Int))))) (t_nil (α := (List Int)))))) trivial fun others => (q_at (ρ' := [some (oF lists), some (oF k), some (oF passes), some (oF count), some (oF picks), some ((oL oF) found), some (oF turn), some (oF row), some ((oL oF) others), none, none, none, none, none]) rfl (q_join (τ := (List (List Int))) (Es := fun s_ => match s_ with | others => [some (oF lists), none, none, none, none, some ((oL oF) found), some (oF turn), none, some (oF others), none, none, none, none, none]) (q_end (q_if (t_tst (t_2 o_gtI (t_varO 3 oF count dF) (t_c (0 : Int)))) trivial (q_asn (q_set (p_x (t_exF (t_2 o_modI (t_2 o_idx (t_var 4 picks) (t_c (1 : Int))) (t_var 3 count)))) trivial fun at_ => (q_at (ρ' := [some (oF lists), some (oF k), some (oF passes), some (oF count), some (oF picks), some ((oL oF) found), some (oF turn), some (oF row), some ((oL oF) others), some (oF at_), none, none, none, none]) rfl (q_pre0 (q_at (ρ' := [some (oF lists), some (oF k), none, none, some (oF picks), some ((oL oF) found), some (oF turn), some (oF row), some ((oL oF) others), some (oF at_), none, none, none, none]) rfl (q_forK (E_law_tracks_papers_3 lists found turn row at_) (fun track => [(10, Enc.e track)]) others (t_isq (t_list (t_cons (t_2 o_modI (t_2 o_idx (t_var 4 picks) (t_c (2 : Int))) (t_var 1 k)) (t_cons (t_2 o_subI (t_var 1 k) (t_c (1 : Int))) (t_cons (t_var 1 k) (t_cons (t_1 o_negI (t_c (1 : Int))) (t_nil (α := Int)))))))) trivial rfl (fun track => rfl) (fun others => rfl) (fun track others => ty_law_tracks_papers_3 lists found turn row at_ track others (Z := fun _ => True)) fun others => (q_at (ρ' := [some (oF lists), none, none, none, none, some ((oL oF) found), some (oF turn), some (oF row), some ((oL oF) others), some (oF at_), none, none, none, none]) rfl (q_pre0 (q_at (freeze1 (ox := (oL oF)) 8 others (dL dF)) (q_at (ρ' := [some (oF lists), none, none, none, none, some ((oL oF) found), some (oF turn), some (oF row), some (oF others), some (oF at_), none, none, none, none]) rfl (q_pre0 (q_at (ρ' := [some (oF lists), none, none, none, none, some ((oL oF) found), some (oF turn), none, some (oF others), none, none, none, none, none]) rfl (q_nx others rfl))))))))))))) (q_asn (q_pre0 (q_at (freeze1 (ox := (oL oF)) 8 others (dL dF)) (q_at (ρ' := [some (oF lists), some (oF k), some (oF passes), some (oF count), some (oF picks), some ((oL oF) found), some (oF turn), some (oF row), some (oF others), none, none, none, none, none]) rfl (q_pre0 (q_at (ρ' := [some (oF lists), none, none, none, none, some ((oL oF) found), some (oF turn), none, some (oF others), none, none, none, none, none]) rfl (q_nx others rfl))))))))) fun others => (q_forK (E_law_tracks_papers_4 lists turn) (fun other => [(11, Enc.e other)]) found (t_isq (t_var 8 others)) trivial rfl (fun other => rfl) (fun found => rfl) (fun other found => ty_law_tracks_papers_4 lists turn other found (Z := fun _ => True)) fun found => (q_at (ρ' := [some (oF lists), none, none, none, none, some ((oL oF) found), some (oF turn), none, none, none, none, none, none, none]) rfl (q_pre0 (q_at (freeze1 (ox := (oL oF)) 5 found (dL dF)) (q_at (ρ' := [some (oF lists), none, none, none, none, some (oF found), some (oF turn), none, none, none, none, none, none, none]) rfl (q_pre0 (q_at (ρ' := [none, none, none, none, none, some (oF found), none, none, none, none, none, none, none, none]) rfl (q_nx found rfl)))))))))))))))) (q_asn (q_pre0 (q_at (freeze1 (ox := (oL oF)) 5 found (dL dF)) (q_at (ρ' := [some (oF lists), some (oF k), some (oF passes), some (oF count), some (oF picks), some (oF found), none, none, none, none, none, none, none, none]) rfl (q_pre0 (q_at (ρ' := [none, none, none, none, none, some (oF found), none, none, none, none, none, none, none, none]) rfl (q_nx found rfl))))))))) fun found => (q_end (q_retC (Co.list Co.up) (fun _ => dF _) (p_x (t_exF (t_list (t_map (fun rows => [(12, Enc.e rows)]) (t_isq (t_var 5 found)) (fun rows => rfl) (fun rows => (t_tup2 (t_c ("tracks" : Str)) (t_var 12 rows))))))) trivial))))) (fun _ => trivial)
theorem ty_law_runs_papers (heads : (List Int)) (arriving : (List Int)) (picks : (List Int)) : TEq (m_law_runs_papers [Enc.e heads, Enc.e arriving, Enc.e picks]) (t_law_runs_papers heads arriving picks) := by
  rw [r_law_runs_papers]
  unfold g_law_runs_papers t_law_runs_papers
  exact fn_T (E := fun _ _ => True) (L := fun _ _ => True) (q_set (p_frF (t_cons (t_var 0 heads) (t_cons (t_list (t_nil (α := Int))) (t_cons (t_2 o_addL (t_var 0 heads) (t_slice (t_var 0 heads) (t_part (t_c (0 : Int))) (t_part (t_c (1 : Int))))) (t_cons (t_slice (t_var 0 heads) (t_part (t_c (1 : Int))) t_nopart) (t_cons (t_list (t_map (fun j => [(6, Enc.e j)]) (t_i1 o_range1 (t_call1 o_len (t_var 0 heads))) (fun j => rfl) (fun j => (t_2 o_vixL (t_var 0 heads) (t_2 o_subI (t_2 o_subI (t_call1 o_len (t_var 0 heads)) (t_c (1 : Int))) (t_var 6 j)))))) (t_nil (α := (List Int))))))))) trivial fun found => (q_at (ρ' := [some (oF heads), some (oF arriving), some (oF picks), some ((oL oF) found), none, none, none]) rfl (q_app (ox := oF) 3 found (p_x (t_exF (t_2 o_addL (t_var 0 heads) (t_list (t_cons (t_2 o_powI (t_c (10 : Int)) (t_c (30 : Int))) (t_nil (α := Int))))))) trivial fun found => (q_at (ρ' := [some (oF heads), some (oF arriving), some (oF picks), some ((oL oF) found), none, none, none]) rfl (q_app (ox := oF) 3 found (p_x (t_exF (t_var 1 arriving))) trivial fun found => (q_at (ρ' := [some (oF heads), some (oF arriving), some (oF picks), some ((oL oF) found), none, none, none]) rfl (q_join (τ := (List (List Int))) (Es := fun s_ => match s_ with | found => [none, none, none, some (oF found), none, none, none]) (q_end (q_if (t_tst (t_2 o_gtI (t_call1 o_len (t_varO 1 oF arriving dF)) (t_c (0 : Int)))) trivial (q_asn (q_set (p_x (t_exF (t_2 o_modI (t_2 o_idx (t_var 2 picks) (t_c (3 : Int))) (t_2 o_addI (t_call1 o_len (t_var 0 heads)) (t_c (1 : Int)))))) trivial fun at_ => (q_at (ρ' := [some (oF heads), some (oF arriving), some (oF picks), some ((oL oF) found), some (oF at_), none, none]) rfl (q_app (ox := oF) 3 found (p_x (t_exF (t_2 o_addL (t_2 o_addL (t_slice (t_var 0 heads) (t_part (t_c (0 : Int))) (t_part (t_var 4 at_))) (t_list (t_cons (t_2 o_vixL (t_var 1 arriving) (t_2 o_modI (t_2 o_idx (t_var 2 picks) (t_c (4 : Int))) (t_call1 o_len (t_var 1 arriving)))) (t_nil (α := Int))))) (t_slice (t_var 0 heads) (t_part (t_2 o_addI (t_var 4 at_) (t_c (1 : Int)))) t_nopart)))) trivial fun found => (q_at (ρ' := [some (oF heads), some (oF arriving), some (oF picks), some ((oL oF) found), some (oF at_), none, none]) rfl (q_pre0 (q_at (freeze1 (ox := (oL oF)) 3 found (dL dF)) (q_at (ρ' := [some (oF heads), some (oF arriving), some (oF picks), some (oF found), some (oF at_), none, none]) rfl (q_pre0 (q_at (ρ' := [none, none, none, some (oF found), none, none, none]) rfl (q_nx found rfl))))))))))) (q_asn (q_pre0 (q_at (freeze1 (ox := (oL oF)) 3 found (dL dF)) (q_at (ρ' := [some (oF heads), some (oF arriving), some (oF picks), some (oF found), none, none, none]) rfl (q_pre0 (q_at (ρ' := [none, none, none, some (oF found), none, none, none]) rfl (q_nx found rfl))))))))) fun found => (q_end (q_retC (Co.list Co.up) (fun _ => dF _) (p_x (t_exF (t_list (t_map (fun rows => [(5, Enc.e rows)]) (t_isq (t_var 3 found)) (fun rows => rfl) (fun rows => (t_tup2 (t_c ("runs" : Str)) (t_var 5 rows))))))) trivial))))))))) (fun _ => trivial)
theorem ty_law_single_passes_1 (row : (List Int)) (later : (List (List Int))) {Z : OEnv → Prop} : SQ (fun s ρ => kill [4] ρ = E_law_single_passes_1 s) (fun s ρ => ρ = E_law_single_passes_1 s) (fun o _ (b : (List (List Int))) => O.data o = Enc.e b) (fun _ => True) (b_law_single_passes_1 [none, none, none, some ((oL oF) later), some (oF row)]) (t_law_single_passes_1 row later) := by
  unfold b_law_single_passes_1 t_law_single_passes_1
  exact (q_app (ox := oF) 3 later (p_x (t_exF (t_2 o_addL (t_var 4 row) (t_list (t_cons (t_c (0 : Int)) (t_nil (α := Int))))))) trivial fun later => (q_at (ρ' := [none, none, none, some ((oL oF) later), some (oF row)]) rfl (q_end (q_app (ox := oF) 3 later (p_x (t_exF (t_2 o_addL (t_var 4 row) (t_list (t_cons (t_c (1 : Int)) (t_nil (α := Int))))))) trivial fun later => (q_at (ρ' := [none, none, none, some ((oL oF) later), some (oF row)]) rfl (q_nx later rfl))))))
theorem ty_law_single_passes_2 (turn : Int) (found : (List (List Int))) {Z : OEnv → Prop} : SQ (fun s ρ => kill [2, 3, 4] ρ = E_law_single_passes_2 s) (fun s ρ => ρ = E_law_single_passes_2 s) (fun o _ (b : (List (List Int))) => O.data o = Enc.e b) (fun _ => True) (b_law_single_passes_2 [none, some (oF found), some (oF turn), none, none]) (t_law_single_passes_2 turn found) := by
  unfold b_law_single_passes_2 t_law_single_passes_2
  exact (q_set (p_frF (t_nil (α := (List Int)))) trivial fun later => (q_at (ρ' := [none, some (oF found), some (oF turn), some ((oL oF) later), none]) rfl (q_pre0 (q_at (ρ' := [none, some (oF found), none, some ((oL oF) later), none]) rfl (q_forK (E_law_single_passes_1) (fun row => [(4, Enc.e row)]) later (t_isq (t_var 1 found)) trivial rfl (fun row => rfl) (fun later => rfl) (fun row later => ty_law_single_passes_1 row later (Z := fun _ => True)) fun later => (q_at (ρ' := [none, none, none, some ((oL oF) later), none]) rfl (q_pre0 (q_at (ρ' := [none, none, none, some ((oL oF) later), none]) rfl (q_pre0 (q_at (freeze1 (ox := (oL oF)) 3 later (dL dF)) (q_at (ρ' := [none, none, none, some (oF later), none]) rfl (q_end (q_set (p_x (t_exF (t_var 3 later))) trivial fun found => (q_at (ρ' := [none, some (oF found), none, some (oF later), none]) rfl (q_nx found rfl)))))))))))))))
theorem ty_law_single_passes (count : Int) : TEq (m_law_single_passes [Enc.e count]) (t_law_single_passes count) := by
  rw [r_law_single_passes]
  unfold g_law_single_passes t_law_single_passes
  exact fn_T (E := fun _ _ => True) (L := fun _ _ => True) (q_set (p_x (t_exF (t_list (t_cons (t_list (t_nil (α := Int))) (t_nil (α := (List Int))))))) trivial fun found => (q_at (ρ' := [some (oF count), some (oF found), none, none, none]) rfl (q_forK (E_law_single_passes_2) (fun turn => [(2, Enc.e turn)]) found (t_x1 o_range1 (t_exF (t_var 0 count))) trivial rfl (fun turn => rfl) (fun found => rfl) (fun turn found => ty_law_single_passes_2 turn found (Z := fun _ => True)) fun found => (q_at (ρ' := [none, some (oF found), none, none, none]) rfl (q_pre0 (q_at (ρ' := [none, some (oF found), none, none, none]) rfl (q_end (q_ret (f := fun r_ => (r_ : (List (List Int)))) (p_x (t_exF (t_var 1 found))) trivial (fun _ => dF _))))))))) (fun _ => trivial)
theorem ty_law_copied (paper : PyData) : TEq (m_law_copied [Enc.e paper]) (t_law_copied paper) := by
  rw [r_law_copied]
  unfold g_law_copied t_law_copied
  exact fn_T (E := fun _ _ => True) (L := fun _ _ => True) (q_tup cD2 (fun ⟨word, rows⟩ => [(1, Enc.e word), (2, Enc.e rows)]) (t_exF (t_var 0 paper)) trivial cD2_k fun ⟨word, rows⟩ => (q_at (ρ' := [some (oF paper), some (oF word), some (oF rows), none]) rfl (q_if (t_tst (t_2 o_DB2 (t_varO 1 oF word dF) (t_co Co.up (t_c ("tracks" : Str))))) trivial (q_ret (f := fun r_ => ((Enc.e r_) : PyData)) (p_x (t_exF (t_tup2 (t_var 1 word) (t_list (t_map (fun row => [(3, Enc.e row)]) (t_isqD (t_var 2 rows)) (fun row => rfl) (fun row => (t_list (t_isqD (t_var 3 row))))))))) trivial (fun _ => dF _)) (q_pre (q_at (ρ' := [none, some (oF word), some (oF rows), none]) rfl (q_nxs (q_end (q_ret (f := fun r_ => ((Enc.e r_) : PyData)) (p_x (t_exF (t_tup2 (t_var 1 word) (t_list (t_isqD (t_var 2 rows)))))) trivial (fun _ => dF _))))))))) (fun _ => trivial)
theorem ty_law_1 (count : Int) (arriving : (List Int)) (departing : (List Int)) (passed : ((List Int) × (List Int))) (heads : (List Int)) (picks : (List Int)) (k : Int) (passes : Int) (verdict : (Str × (List PyData))) (paper : PyData) (words : (List Str)) {Z : OEnv → Prop} : SQ (fun s ρ => kill [14, 15, 16, 17] ρ = E_law_1 count arriving departing passed heads picks k passes verdict s) (fun s ρ => ρ = E_law_1 count arriving departing passed heads picks k passes verdict s) (fun o _ (b : Bool) => O.data o = Enc.e b) (fun _ => True) (b_law_1 [none, none, some (oF count), some (oF arriving), some (oF departing), some (oF passed), some (oF heads), some (oF picks), some (oF k), some (oF passes), some (oF verdict), none, none, some ((oL oF) words), some (oF paper), none, none, none, none, none]) (t_law_1 arriving departing passed k passes paper words) := by
  unfold b_law_1 t_law_1
  exact (q_set (p_x (t_exF (t_call1 ty_law_copied (t_var 14 paper)))) trivial fun given => (q_at (ρ' := [none, none, some (oF count), some (oF arriving), some (oF departing), some (oF passed), some (oF heads), some (oF picks), some (oF k), some (oF passes), some (oF verdict), none, none, some ((oL oF) words), some (oF paper), some (oF given), none, none, none, none]) rfl (q_join (τ := PyData) (Es := fun s_ => match s_ with | given => [none, none, some (oF count), some (oF arriving), some (oF departing), some (oF passed), some (oF heads), some (oF picks), some (oF k), some (oF passes), some (oF verdict), none, none, some ((oL oF) words), some (oF paper), some (oF given), none, none, none, none]) (q_end (q_if (t_tst (t_2 o_DB2 (t_2 o_D2 (t_varO 14 oF paper dF) (t_co Co.up (t_c (0 : Int)))) (t_co Co.up (t_tupV (t_cons (t_c ("tracks" : Str)) (t_cons (t_c ("runs" : Str)) (t_nil (α := Str)))))))) trivial (q_asn (q_set (p_x (t_exF (t_var 14 paper))) trivial fun given => (q_at (ρ' := [none, none, some (oF count), some (oF arriving), some (oF departing), some (oF passed), some (oF heads), some (oF picks), some (oF k), some (oF passes), some (oF verdict), none, none, some ((oL oF) words), some (oF paper), some (oF given), none, none, none, none]) rfl (q_pre0 (q_at (ρ' := [none, none, some (oF count), some (oF arriving), some (oF departing), some (oF passed), some (oF heads), some (oF picks), some (oF k), some (oF passes), some (oF verdict), none, none, some ((oL oF) words), some (oF paper), some (oF given), none, none, none, none]) rfl (q_nx given rfl)))))) (q_asn (q_pre0 (q_at (ρ' := [none, none, some (oF count), some (oF arriving), some (oF departing), some (oF passed), some (oF heads), some (oF picks), some (oF k), some (oF passes), some (oF verdict), none, none, some ((oL oF) words), some (oF paper), some (oF given), none, none, none, none]) rfl (q_nx given rfl)))))) fun given => (q_set (p_x (t_exF (t_call5 ty_law_accepts (t_var 3 arriving) (t_var 4 departing) (t_var 8 k) (t_var 9 passes) (t_var 14 paper)))) trivial fun due => (q_at (ρ' := [none, none, some (oF count), some (oF arriving), some (oF departing), some (oF passed), some (oF heads), some (oF picks), some (oF k), some (oF passes), some (oF verdict), none, none, some ((oL oF) words), some (oF paper), some (oF given), some (oF due), none, none, none]) rfl (q_set (p_x (t_exF (t_call5 ty_judge_passes (o_pj (p := Prod.fst) (ha := (t_var 5 passed))) (o_pj (p := Prod.snd) (ha := (t_var 5 passed))) (t_var 8 k) (t_var 9 passes) (t_var 15 given)))) trivial fun answer => (q_at (ρ' := [none, none, some (oF count), some (oF arriving), some (oF departing), some (oF passed), some (oF heads), some (oF picks), some (oF k), some (oF passes), some (oF verdict), none, none, some ((oL oF) words), some (oF paper), some (oF given), some (oF due), some (oF answer), none, none]) rfl (q_if (t_tor (t_tnot (t_ttr o_truB (t_1 o_K (t_varO 17 oF answer dF)))) (t_tst (t_2 o_ne (t_varO 17 oF answer dF) (t_varO 16 oF due dF)))) trivial (q_pre (q_at (freeze1 (ox := (oL oF)) 13 words (dL dF)) (q_at (ρ' := [none, none, some (oF count), some (oF arriving), some (oF departing), some (oF passed), some (oF heads), some (oF picks), some (oF k), some (oF passes), some (oF verdict), none, none, some (oF words), some (oF paper), some (oF given), some (oF due), some (oF answer), none, none]) rfl (q_ret (f := fun r_ => (r_ : Bool)) (p_x (t_exF (t_c false))) trivial (fun _ => dF _))))) (q_pre (q_at (ρ' := [none, none, some (oF count), some (oF arriving), some (oF departing), some (oF passed), some (oF heads), some (oF picks), some (oF k), some (oF passes), some (oF verdict), none, none, some ((oL oF) words), some (oF paper), none, some (oF due), none, none, none]) rfl (q_nxs (q_end (q_if (t_tand (t_ttr o_truB (t_varO 16 oF due dF)) (t_tst (t_2 o_DB2 (t_2 o_D2 (t_varO 14 oF paper dF) (t_co Co.up (t_c (0 : Int)))) (t_co Co.up (t_varO 13 (oL oF) words (dL dF)))))) trivial (q_assoc (q_app (ox := oF) 13 words (p_x (t_exF (t_co Co.str (t_2 o_D2 (t_var 14 paper) (t_co Co.up (t_c (0 : Int))))))) trivial fun words => (q_at (ρ' := [none, none, some (oF count), some (oF arriving), some (oF departing), some (oF passed), some (oF heads), some (oF picks), some (oF k), some (oF passes), some (oF verdict), none, none, some ((oL oF) words), some (oF paper), none, some (oF due), none, none, none]) rfl (q_pre (q_at (ρ' := [none, none, some (oF count), some (oF arriving), some (oF departing), some (oF passed), some (oF heads), some (oF picks), some (oF k), some (oF passes), some (oF verdict), none, none, some ((oL oF) words), none, none, none, none, none, none]) rfl (q_nxs (q_nx words rfl))))))) (q_pre (q_at (ρ' := [none, none, some (oF count), some (oF arriving), some (oF departing), some (oF passed), some (oF heads), some (oF picks), some (oF k), some (oF passes), some (oF verdict), none, none, some ((oL oF) words), none, none, none, none, none, none]) rfl (q_nxs (q_nx words rfl)))))))))))))))))
theorem ty_law_2 (count : Int) (arriving : (List Int)) (departing : (List Int)) (passed : ((List Int) × (List Int))) (heads : (List Int)) (picks : (List Int)) (k : Int) (passes : Int) {Z : OEnv → Prop} : SQ (fun s ρ => kill [9, 10, 11, 12, 13, 14, 15, 16, 17] ρ = E_law_2 count arriving departing passed heads picks k s) (fun s ρ => ρ = E_law_2 count arriving departing passed heads picks k s) (fun o _ (b : Bool) => O.data o = Enc.e b) (fun _ => True) (b_law_2 [none, none, some (oF count), some (oF arriving), some (oF departing), some (oF passed), some (oF heads), some (oF picks), some (oF k), some (oF passes), none, none, none, none, none, none, none, none, none, none]) (t_law_2 count arriving departing passed heads picks k passes) := by
  unfold b_law_2 t_law_2
  exact (q_set (p_x (t_exF (t_call4 ty_in_passes (o_pj (p := Prod.fst) (ha := (t_var 5 passed))) (o_pj (p := Prod.snd) (ha := (t_var 5 passed))) (t_var 8 k) (t_var 9 passes)))) trivial fun verdict => (q_at (ρ' := [none, none, some (oF count), some (oF arriving), some (oF departing), some (oF passed), some (oF heads), some (oF picks), some (oF k), some (oF passes), some (oF verdict), none, none, none, none, none, none, none, none, none]) rfl (q_if (t_tst (t_2 o_ne (o_pj (p := Prod.fst) (ha := (t_varO 10 oF verdict dF))) (t_2 o_vixL (t_list (t_cons (t_c ("runs" : Str)) (t_cons (t_c ("tracks" : Str)) (t_nil (α := Str))))) (t_call1 o_intB (t_call3 ty_law_enough (t_call1 o_len (t_varO 6 oF heads dF)) (t_varO 8 oF k dF) (t_varO 9 oF passes dF)))))) trivial (q_ret (f := fun r_ => (r_ : Bool)) (p_x (t_exF (t_c false))) trivial (fun _ => dF _)) (q_nxs (q_set (p_x (t_exF (t_call4 ty_law_lists (t_var 3 arriving) (t_var 4 departing) (t_var 8 k) (t_var 9 passes)))) trivial fun lists => (q_at (ρ' := [none, none, some (oF count), some (oF arriving), some (oF departing), some (oF passed), some (oF heads), some (oF picks), some (oF k), some (oF passes), some (oF verdict), some (oF lists), none, none, none, none, none, none, none, none]) rfl (q_set (p_x (t_exF (t_2 o_addL (t_call5 ty_law_tracks_papers (t_var 11 lists) (t_var 8 k) (t_var 9 passes) (t_var 2 count) (t_var 7 picks)) (t_call3 ty_law_runs_papers (t_var 6 heads) (t_var 3 arriving) (t_var 7 picks))))) trivial fun papers => (q_at (ρ' := [none, none, some (oF count), some (oF arriving), some (oF departing), some (oF passed), some (oF heads), some (oF picks), some (oF k), some (oF passes), some (oF verdict), some (oF lists), some (oF papers), none, none, none, none, none, none, none]) rfl (q_set (p_frF (t_nil (α := Str))) trivial fun words => (q_at (ρ' := [none, none, some (oF count), some (oF arriving), some (oF departing), some (oF passed), some (oF heads), some (oF picks), some (oF k), some (oF passes), some (oF verdict), some (oF lists), some (oF papers), some ((oL oF) words), none, none, none, none, none, none]) rfl (q_forK (E_law_1 count arriving departing passed heads picks k passes verdict) (fun paper => [(14, Enc.e paper)]) words (t_isq (t_2 o_addL (t_var 12 papers) (t_co (Co.list Co.up) (t_list (t_cons (t_var 10 verdict) (t_cons (t_tup2 (t_c ("track" : Str)) (t_co (Co.list Co.up) (t_var 11 lists))) (t_cons (t_tup2 (t_c ("heads" : Str)) (t_co (Co.list Co.up) (t_var 6 heads))) (t_nil (α := (Str × (List PyData))))))))))) trivial rfl (fun paper => rfl) (fun words => rfl) (fun paper words => ty_law_1 count arriving departing passed heads picks k passes verdict paper words (Z := fun _ => True)) fun words => (q_at (ρ' := [none, none, some (oF count), some (oF arriving), some (oF departing), some (oF passed), some (oF heads), some (oF picks), some (oF k), some (oF passes), some (oF verdict), none, none, some ((oL oF) words), none, none, none, none, none, none]) rfl (q_pre0 (q_at (ρ' := [none, none, some (oF count), some (oF arriving), some (oF departing), some (oF passed), some (oF heads), some (oF picks), some (oF k), none, some (oF verdict), none, none, some ((oL oF) words), none, none, none, none, none, none]) rfl (q_pre0 (q_at (freeze1 (ox := (oL oF)) 13 words (dL dF)) (q_at (ρ' := [none, none, some (oF count), some (oF arriving), some (oF departing), some (oF passed), some (oF heads), some (oF picks), some (oF k), none, some (oF verdict), none, none, some (oF words), none, none, none, none, none, none]) rfl (q_end (q_if (t_tst (t_2 o_ne (t_varO 13 oF words dF) (t_list (t_cons (o_pj (p := Prod.fst) (ha := (t_varO 10 oF verdict dF))) (t_nil (α := Str)))))) trivial (q_ret (f := fun r_ => (r_ : Bool)) (p_x (t_exF (t_c false))) trivial (fun _ => dF _)) (q_pre (q_at (ρ' := [none, none, some (oF count), some (oF arriving), some (oF departing), some (oF passed), some (oF heads), some (oF picks), some (oF k), none, none, none, none, none, none, none, none, none, none, none]) rfl (q_nxs (q_nx () rfl)))))))))))))))))))))))
theorem ty_law (script : (List Int)) : TEq (m_law [Enc.e script]) (t_law script) := by
  rw [r_law]
  unfold g_law t_law
  exact fn_T (E := fun _ _ => True) (L := fun _ _ => True) (q_set (p_x (t_exF (t_call3 ty_law_numbers (t_call2 ty_law_cell (t_var 0 script) (t_c (0 : Int))) (t_c (3 : Int)) (t_c (20160 : Int))))) trivial fun shape => (q_at (ρ' := [some (oF script), some (oF shape), none, none, none, none, none, none, none, none, none, none, none, none, none, none, none, none, none, none]) rfl (q_set (p_x (t_exF (t_2 o_modI (t_2 o_fdivI (t_2 o_idx (t_var 1 shape) (t_c (0 : Int))) (t_c (4 : Int))) (t_c (13 : Int))))) trivial fun count => (q_at (ρ' := [some (oF script), some (oF shape), some (oF count), none, none, none, none, none, none, none, none, none, none, none, none, none, none, none, none, none]) rfl (q_join (τ := Int) (Es := fun s_ => match s_ with | count => [some (oF script), some (oF shape), some (oF count), none, none, none, none, none, none, none, none, none, none, none, none, none, none, none, none, none]) (q_end (q_if (t_tst (t_2 o_eq (t_2 o_modI (t_2 o_idx (t_varO 1 oF shape dF) (t_c (0 : Int))) (t_c (4 : Int))) (t_c (3 : Int)))) trivial (q_asn (q_end (q_set (p_x (t_exF (t_2 o_modI (t_2 o_fdivI (t_2 o_idx (t_var 1 shape) (t_c (0 : Int))) (t_c (4 : Int))) (t_c (101 : Int))))) trivial fun count => (q_at (ρ' := [some (oF script), some (oF shape), some (oF count), none, none, none, none, none, none, none, none, none, none, none, none, none, none, none, none, none]) rfl (q_nx count rfl))))) (q_asn (q_nx count rfl)))) fun count => (q_set (p_x (t_exF (t_call2 ty_law_train (t_call2 ty_law_cell (t_var 0 script) (t_c (1 : Int))) (t_var 2 count)))) trivial fun arriving => (q_at (ρ' := [some (oF script), some (oF shape), some (oF count), some (oF arriving), none, none, none, none, none, none, none, none, none, none, none, none, none, none, none, none]) rfl (q_set (p_x (t_exF (t_call3 ty_law_departing (t_var 3 arriving) (t_call2 ty_law_cell (t_var 0 script) (t_c (2 : Int))) (t_slice (t_var 1 shape) (t_part (t_c (1 : Int))) (t_part (t_c (3 : Int))))))) trivial fun departing => (q_at (ρ' := [some (oF script), some (oF shape), some (oF count), some (oF arriving), some (oF departing), none, none, none, none, none, none, none, none, none, none, none, none, none, none, none]) rfl (q_set (p_x (t_exF (t_tup2 (t_list (t_isq (t_var 3 arriving))) (t_list (t_isq (t_var 4 departing)))))) trivial fun passed => (q_at (ρ' := [some (oF script), some (oF shape), some (oF count), some (oF arriving), some (oF departing), some (oF passed), none, none, none, none, none, none, none, none, none, none, none, none, none, none]) rfl (q_set (p_x (t_exF (t_call2 ty_law_heads (t_var 3 arriving) (t_var 4 departing)))) trivial fun heads => (q_at (ρ' := [some (oF script), some (oF shape), some (oF count), some (oF arriving), some (oF departing), some (oF passed), some (oF heads), none, none, none, none, none, none, none, none, none, none, none, none, none]) rfl (q_set (p_x (t_exF (t_call3 ty_law_numbers (t_call2 ty_law_cell (t_var 0 script) (t_c (3 : Int))) (t_c (7 : Int)) (t_c (20160 : Int))))) trivial fun picks => (q_at (ρ' := [some (oF script), some (oF shape), some (oF count), some (oF arriving), some (oF departing), some (oF passed), some (oF heads), some (oF picks), none, none, none, none, none, none, none, none, none, none, none, none]) rfl (q_set (p_x (t_exF (t_2 o_addI (t_c (2 : Int)) (t_2 o_modI (t_2 o_idx (t_var 7 picks) (t_c (5 : Int))) (t_c (4 : Int)))))) trivial fun k => (q_at (ρ' := [some (oF script), some (oF shape), some (oF count), some (oF arriving), some (oF departing), some (oF passed), some (oF heads), some (oF picks), some (oF k), none, none, none, none, none, none, none, none, none, none, none]) rfl (q_pre0 (q_at (ρ' := [none, none, some (oF count), some (oF arriving), some (oF departing), some (oF passed), some (oF heads), some (oF picks), some (oF k), none, none, none, none, none, none, none, none, none, none, none]) rfl (q_for (E_law_2 count arriving departing passed heads picks k) (fun passes => [(9, Enc.e passes)]) () (t_isq (t_list (t_cons (t_c (0 : Int)) (t_cons (t_c (1 : Int)) (t_cons (t_c (2 : Int)) (t_cons (t_2 o_addI (t_c (1 : Int)) (t_2 o_modI (t_2 o_idx (t_var 7 picks) (t_c (6 : Int))) (t_c (7 : Int)))) (t_nil (α := Int)))))))) trivial rfl (fun passes => rfl) (fun _ => rfl) (fun passes _ => ty_law_2 count arriving departing passed heads picks k passes (Z := fun _ => True)) fun _ => (q_at (ρ' := [none, none, some (oF count), some (oF arriving), some (oF departing), some (oF passed), some (oF heads), some (oF picks), some (oF k), none, none, none, none, none, none, none, none, none, none, none]) rfl (q_pre0 (q_at (ρ' := [none, none, some (oF count), some (oF arriving), some (oF departing), some (oF passed), some (oF heads), none, none, none, none, none, none, none, none, none, none, none, none, none]) rfl (q_join (τ := Unit) (Es := fun s_ => match s_ with | _ => [none, none, none, some (oF arriving), some (oF departing), some (oF passed), none, none, none, none, none, none, none, none, none, none, none, none, none, none]) (q_end (q_if (t_tst (t_2 o_ltI (t_varO 2 oF count dF) (t_c (6 : Int)))) trivial (q_asn (q_set (p_x (t_exF (t_list (t_fil (fun row => [(19, Enc.e row)]) (t_isq (t_call1 ty_law_single_passes (t_var 2 count))) (fun row => rfl) (fun row => (t_ttr o_truB (t_call5 ty_judge_passes (o_pj (p := Prod.fst) (ha := (t_var 5 passed))) (o_pj (p := Prod.snd) (ha := (t_var 5 passed))) (t_c (2 : Int)) (t_c (1 : Int)) (t_co Co.up (t_tup2 (t_c ("tracks" : Str)) (t_list (t_cons (t_var 19 row) (t_nil (α := (List Int)))))))))) (fun row => (t_var 19 row)))))) trivial fun accepted => (q_at (ρ' := [none, none, some (oF count), some (oF arriving), some (oF departing), some (oF passed), some (oF heads), none, none, none, none, none, none, none, none, none, none, none, some (oF accepted), none]) rfl (q_end (q_if (t_tst (t_2 o_ne (t_2 o_gtI (t_call1 o_len (t_varO 18 oF accepted dF)) (t_c (0 : Int))) (t_2 o_ltI (t_call1 o_len (t_varO 6 oF heads dF)) (t_c (2 : Int))))) trivial (q_ret (f := fun r_ => (r_ : Bool)) (p_x (t_exF (t_c false))) trivial (fun _ => dF _)) (q_pre (q_at (ρ' := [none, none, none, some (oF arriving), some (oF departing), some (oF passed), none, none, none, none, none, none, none, none, none, none, none, none, none, none]) rfl (q_nxs (q_nx () rfl))))))))) (q_asn (q_pre0 (q_at (ρ' := [none, none, none, some (oF arriving), some (oF departing), some (oF passed), none, none, none, none, none, none, none, none, none, none, none, none, none, none]) rfl (q_nx () rfl)))))) fun _ => (q_end (q_ret (f := fun r_ => (r_ : Bool)) (p_x (t_exF (t_2 o_eq (t_var 5 passed) (t_tup2 (t_var 3 arriving) (t_var 4 departing))))) trivial (fun _ => dF _))))))))))))))))))))))))))) (fun _ => trivial)
theorem law_T (h : ∀ ns : List Int, ns.length ≤ 63 → t_law ns = .ok true) : ∀ ns : List Int, ns.length ≤ 63 → m_law [.list (ns.map PyData.int)] = .ok (.bool true) := fun ns hl => (ty_law ns).ok (h ns hl)
theorem numbersT (c : Int) (n : Nat) (m lim : Int) (hm : m = (n : Int)) (hn : n ≤ 100000) (h0 : 0 < lim) (h1 : lim < 2 ^ 250) : ∃ ds, Dr n lim ds ∧ t_law_numbers c m lim = .ok ds := by
  subst hm
  have p1 : tpowI 10 18 = .ok (1000000000000000000 : Int) := tpowI_ok (by decide)
  have tr := trange1_nat (show n ≤ 16777216 by omega)
  by_cases hb : (1000000000000000000 : Int) ≤ c
  · obtain ⟨⟨c', ds⟩, e1, e2⟩ := forT_ix (l := Empty) (f := fun k (s : Int × List Int) => t_law_numbers_1 lim k s.1 s.2) (fun i s => Dr i lim s.2) (rangeI 0 n) 0 (c - 1000000000000000000, []) ⟨rfl, fun _ h => nomatch h⟩ (fun i a s hi hs => by
      obtain ⟨c', ds⟩ := s
      have hi' := (rangeI_get hi).1
      have hl : ds.length < 16777216 := by have := hs.1; simp at this; omega
      refine ⟨(c' / lim, ds ++ [c' % lim]), .inl ?_, hs.snoc (Int.emod_nonneg _ (by omega)) (Int.emod_lt_of_pos _ h0)⟩
      simp [t_law_numbers_1, h0, tapp_ok hl, tfdivI_pos h0 h1])
    refine ⟨ds, by simpa using e2, ?_⟩
    simp [t_law_numbers, p1, hb, tr]
    erw [e1]
    rfl
  · obtain ⟨ds, e1, e2⟩ := forT_ix (l := Empty) (f := fun k s => t_law_numbers_2 c lim k s) (fun i s => Dr i lim s) (rangeI 0 n) 0 [] ⟨rfl, fun _ h => nomatch h⟩ (fun i a ds hi hs => by
      have hi' := (rangeI_get hi).1
      have hl : ds.length < 16777216 := by have := hs.1; omega
      have m0 : tmulI c 48271 = .ok (c * 48271) := tmulI_r .lit
      have m1 : tmulI a 69621 = .ok (a * 69621) := tmulI_r .lit
      have m2 : tmulI a 16807 = .ok (a * 16807) := tmulI_r .lit
      have m3 : ∀ x, tmulI (x % 2147483647) 40692 = .ok (x % 2147483647 * 40692) := fun x => tmulI_r .lit
      have m4 : ∀ x, tmulI (x % 2147483647) (x % 2147483647) = .ok (x % 2147483647 * (x % 2147483647)) := fun x => tmulI_r (sm_of (by
        have a1 := Int.emod_nonneg x (b := 2147483647) (by omega)
        have a2 := Int.emod_lt_of_pos x (b := 2147483647) (by omega)
        omega))
      have m5 : ∀ x, tfdivI x 32 = .ok (x / 32) := fun x => tfdivI_pos (by omega) (by decide)
      have st : ∃ x, t_law_numbers_2 c lim a ds = .nx (ds ++ [x % lim]) := ⟨_, by simp [t_law_numbers_2, h0, tapp_ok hl, m0, m1, m2, m3, m4, m5]; rfl⟩
      obtain ⟨x, st⟩ := st
      exact ⟨_, .inl st, hs.snoc (Int.emod_nonneg _ (by omega)) (Int.emod_lt_of_pos _ h0)⟩)
    refine ⟨ds, by simpa using e2, ?_⟩
    simp [t_law_numbers, p1, hb, tr, e1]

section
variable {κ β : Type}
theorem put_cons (j : κ) (w : β) (r : List (κ × β)) (k : κ) (v : β) : (Dc.put ⟨(j, w) :: r⟩ k v).l = @ite _ (j = k) (Classical.propDecidable _) ((k, v) :: r) ((j, w) :: (Dc.put ⟨r⟩ k v).l) := by
  unfold Dc.put
  simp only [List.findIdx?_cons]
  by_cases h : j = k
  · simp only [h, decide_true, if_true]
    rfl
  · simp only [h, decide_false, if_false, Bool.false_eq_true]
    cases r.findIdx? (fun p => @decide (p.1 = k) (Classical.propDecidable _)) with
    | none => simp
    | some n => simp
theorem go_put (k : κ) (v : β) (x : κ) : ∀ l : List (κ × β), Dc.get.go (Dc.put ⟨l⟩ k v).l x = @ite _ (k = x) (Classical.propDecidable _) (some v) (Dc.get.go l x)
  | [] => by
    show Dc.get.go [(k, v)] x = _
    unfold Dc.get.go
    rfl
  | (j, w) :: r => by
    have ih := go_put k v x r
    rw [put_cons]
    by_cases h : j = k
    · rw [if_pos h]
      subst h
      unfold Dc.get.go
      by_cases q : j = x
      · rw [if_pos q, if_pos q]
      · rw [if_neg q, if_neg q, if_neg q]
    · rw [if_neg h]
      unfold Dc.get.go
      by_cases q : j = x
      · rw [if_pos q, if_pos q]
        rw [if_neg (fun z => h (q.trans z.symm))]
      · rw [if_neg q, if_neg q, ih]
theorem get_put (d : Dc κ β) (k : κ) (v : β) (x : κ) : (d.put k v).get x = @ite _ (k = x) (Classical.propDecidable _) (some v) (d.get x) := by
  obtain ⟨l⟩ := d
  exact go_put k v x l
theorem put_len (d : Dc κ β) (k : κ) (v : β) : (d.put k v).l.length ≤ d.l.length + 1 := by
  unfold Dc.put
  split <;> simp
end

def po (A : List Int) (w : Int) : Nat := A.idxOf w
theorem idx_mem : ∀ {A : List Int} {w : Int}, w ∈ A → A.idxOf? w = some (A.idxOf w)
  | [], _, h => by simp at h
  | x :: A, w, h => by
    rw [List.idxOf?_cons, List.idxOf_cons]
    by_cases q : x = w
    · subst q; simp
    · have hb : (x == w) = false := by simpa using q
      rw [hb]
      have hm : w ∈ A := by
        rcases List.mem_cons.mp h with z | z
        · exact absurd z.symm q
        · exact z
      simp [idx_mem hm]
theorem ok_intsA {A : List Int} (h : A.length ≤ 1000) : EqE.ok A := ⟨by omega, fun _ _ => trivial⟩
theorem tindexT {A : List Int} (hA : A.length ≤ 1000) {w : Int} (h : w ∈ A) : tindex A w = .ok ((po A w : Nat) : Int) := by
  unfold tindex
  rw [if_pos ⟨trivial, ok_intsA hA⟩]
  have e : (A.findIdx? fun x => @decide (x = w) (EqE.dec x w)) = A.idxOf? w := rfl
  rw [e, idx_mem h]; rfl
theorem tinT {A : List Int} (hA : A.length ≤ 1000) (w : Int) : tin w A = .ok (decide (w ∈ A)) := by
  unfold tin
  rw [if_pos ⟨trivial, ok_intsA hA⟩]
  congr 1
  rw [Bool.eq_iff_iff, List.any_eq_true, decide_eq_true_iff]
  constructor
  · rintro ⟨x, hx, h⟩
    have h : x = w := by simpa using h
    rw [← h]; exact hx
  · intro h
    exact ⟨w, h, by simp⟩
theorem po_lt {A : List Int} {w : Int} (h : w ∈ A) : po A w < A.length := List.idxOf_lt_length_of_mem h
theorem po_get {A : List Int} {w : Int} (h : w ∈ A) : A[po A w]'(po_lt h) = w := List.getElem_idxOf (po_lt h)
theorem po_at {A : List Int} (hn : A.Nodup) {i : Nat} (hi : i < A.length) : po A A[i] = i := by
  have hm : A[i] ∈ A := List.getElem_mem hi
  have := po_get hm
  exact (List.getElem_inj hn).mp this
theorem po_inj {A : List Int} {v w : Int} (hv : v ∈ A) (hw : w ∈ A) (h : po A v = po A w) : v = w := by
  have a := po_get hv
  have b := po_get hw
  simp only [h] at a
  exact a.symm.trans b
theorem er_perm {α : Type} {xs : List α} {j : Nat} (h : j < xs.length) : (xs[j] :: xs.eraseIdx j).Perm xs := by
  rw [List.eraseIdx_eq_take_drop_succ]
  refine List.perm_middle.symm.trans ?_
  rw [List.getElem_cons_drop, List.take_append_drop]
theorem popT {α : Type} {xs : List α} {j : Nat} (h : j < xs.length) (h2 : xs.length ≤ 16777216) : tpopAt xs (j : Int) = .ok (xs[j], xs.eraseIdx j) := by
  unfold tpopAt
  rw [if_pos (by omega)]
  simp [h]
def wv (p : Int × Nat) : Int := if p.2 = 0 then p.1 * 100000000000000000000 else if p.2 = 1 then 0 - p.1 else p.1
theorem wv_inj {p q : Int × Nat} (hp : 1 ≤ p.1 ∧ p.1 ≤ 100) (hq : 1 ≤ q.1 ∧ q.1 ≤ 100) (h : wv p = wv q) : p.1 = q.1 := by
  unfold wv at h
  split at h <;> split at h <;> (try split at h) <;> (try split at h) <;> omega
structure Tn (A : List Int) : Prop where
  nd : A.Nodup
  len : A.length ≤ 100
theorem range_nodup : ∀ (n : Nat) (lo : Int), (rangeI lo n).Nodup := fun n lo => by
  unfold rangeI
  refine List.Pairwise.map _ (fun a b h z => h (by omega)) (List.nodup_range (n := n))
theorem trainT (c : Int) {n : Nat} (hn : n ≤ 100) : ∃ A, t_law_train c (n : Int) = .ok A ∧ Tn A ∧ A.length = n := by
  obtain ⟨ds, hd, e⟩ := numbersT c (2 * n) (2 * (n : Int)) 20160 (by omega) (by omega) (by omega) (by decide)
  have m2 : tmulI 2 (n : Int) = .ok (2 * (n : Int)) := tmulI_l .lit
  have p20 : tpowI 10 20 = .ok (100000000000000000000 : Int) := tpowI_ok (by decide)
  have r1 : trange2 1 ((n : Int) + 1) = .ok (rangeI 1 n) := by
    exact trange2_of (by omega) (by omega) (by omega) (by omega) (by omega) (by omega)
  obtain ⟨⟨rest, A⟩, e1, ps, e2, e3, e4⟩ := forT_ix (l := Empty) (β := List Int) (f := fun k (s : List Int × List Int) => t_law_train_1 (n : Int) ds k s.1 s.2) (fun i s => ∃ ps : List (Int × Nat), s.2 = ps.map wv ∧ (s.1 ++ ps.map Prod.fst).Perm (rangeI 1 n) ∧ ps.length = i) (rangeI 0 n) 0 (rangeI 1 n, []) ⟨[], rfl, by simp, rfl⟩ (fun i a s ha hs => by
    obtain ⟨hi, rfl⟩ := rangeI_get ha
    obtain ⟨rest, A⟩ := s
    obtain ⟨ps, h1, h2, h3⟩ := hs
    simp only at h1 h2
    subst h1
    rw [Nat.zero_add] at h3 ⊢
    rw [Int.zero_add]
    have hlen : rest.length + i = n := by
      have := h2.length_eq; rw [List.length_append, List.length_map, rangeI_len] at this; omega
    obtain ⟨a0, j0, z0, _⟩ := hd.ix (i : Int) (by omega) (by omega)
    obtain ⟨a1, j1, z1, _⟩ := hd.ix ((n : Int) + (i : Int)) (by omega) (by omega)
    have b1 := Int.emod_nonneg a0 (b := (rest.length : Int)) (by omega)
    have b2 := Int.emod_lt_of_pos a0 (b := (rest.length : Int)) (by omega)
    obtain ⟨j, hj⟩ : ∃ j : Nat, a0 % (rest.length : Int) = j := ⟨(a0 % (rest.length : Int)).toNat, by omega⟩
    have hjl : j < rest.length := by omega
    have m16 : tmodI a1 16 = .ok (a1 % 16) := tmodI_pos (by omega)
    have hx : rest[j] ∈ rangeI 1 n := h2.mem_iff.mp (List.mem_append_left _ (List.getElem_mem hjl))
    obtain ⟨z, hz, hxz⟩ := rangeI_mem.mp hx
    have mw : tmulI rest[j] 100000000000000000000 = .ok (rest[j] * 100000000000000000000) := tmulI_l (sm_of (by
      have : (2 : Int) ^ 64 = 18446744073709551616 := rfl; omega))
    have pm : ∀ k : Nat, (rest.eraseIdx j ++ (ps ++ [(rest[j], k)]).map Prod.fst).Perm (rangeI 1 n) := fun k => by
      refine List.Perm.trans ?_ h2
      have p1 : (rest[j] :: rest.eraseIdx j).Perm rest := er_perm hjl
      have p2 : (rest.eraseIdx j ++ (ps ++ [(rest[j], k)]).map Prod.fst).Perm ((rest[j] :: rest.eraseIdx j) ++ ps.map Prod.fst) := by
        rw [List.map_append, ← List.append_assoc]
        refine (List.perm_append_comm).trans ?_
        simp
      exact p2.trans (p1.append_right _)
    have ta : ∀ w, tapp (ps.map wv) w = .ok (ps.map wv ++ [w]) := fun w => tapp_ok (by simp; omega)
    have st : ∃ k : Nat, t_law_train_1 (n : Int) ds (i : Int) rest (ps.map wv) = .nx (rest.eraseIdx j, (ps ++ [(rest[j], k)]).map wv) := by
      unfold t_law_train_1
      simp only [b1_ap, b2_ap, R.bind_ok, j0, tlen_ap, tmodI_pos (show (0 : Int) < (rest.length : Int) by omega), hj, popT hjl (by omega), R.tr_ok, taddI_ap, j1, m16, teq_int, tltI_ap, tite_ap]
      by_cases q0 : a1 % 16 = 0
      · refine ⟨0, ?_⟩
        simp only [q0, decide_true, if_true, p20, R.bind_ok, mw, R.tr_ok, TR.bind_nx, ta]
        simp [wv]
      · by_cases q1 : a1 % 16 < 4
        · refine ⟨1, ?_⟩
          simp only [q0, q1, decide_true, decide_false, if_true, Bool.false_eq_true, if_false, tsubI_ap, R.tr_ok, TR.bind_nx, ta]
          simp [wv]
        · refine ⟨2, ?_⟩
          simp only [q0, q1, decide_false, Bool.false_eq_true, if_false, TR.bind_nx, R.tr_ok, ta]
          simp [wv]
    obtain ⟨k, st⟩ := st
    exact ⟨(rest.eraseIdx j, (ps ++ [(rest[j], k)]).map wv), .inl st, ps ++ [(rest[j], k)], rfl, pm k, by simp; omega⟩)
  rw [rangeI_len, Nat.zero_add] at e4
  simp only at e2 e3
  subst e2
  have mem : ∀ p ∈ ps, 1 ≤ p.1 ∧ p.1 ≤ 100 := fun p hp => by
    have : p.1 ∈ rangeI 1 n := e3.mem_iff.mp (List.mem_append_right _ (List.mem_map.mpr ⟨p, hp, rfl⟩))
    obtain ⟨k, hk, h⟩ := rangeI_mem.mp this
    omega
  have nd1 : (ps.map Prod.fst).Nodup := (List.nodup_append.mp (e3.nodup_iff.mpr (range_nodup n 1))).2.1
  refine ⟨ps.map wv, ?_, ⟨?_, by simp; omega⟩, by simp; exact e4⟩
  · simp only [t_law_train, b1_ap, b2_ap, b3_ap, R.bind_ok, m2, e, R.tr_ok, taddI_ap, r1, trange1_nat (show n ≤ 16777216 by omega)]
    erw [e1]
    rfl
  · unfold List.Nodup at nd1 ⊢
    rw [List.pairwise_map] at nd1 ⊢
    exact nd1.imp_of_mem fun {p q} hp hq h z => h (wv_inj (mem p hp) (mem q hq) z)
theorem shuffledT {A : List Int} (hl : A.length ≤ 800) (c : Int) : ∃ os, t_law_shuffled A c = .ok os ∧ os.Perm A := by
  obtain ⟨ds, hd, e⟩ := numbersT c A.length (A.length : Int) 20160 rfl (by omega) (by omega) (by decide)
  obtain ⟨⟨rest, os⟩, e1, e2, e3⟩ := forT_ix (l := Empty) (β := List Int) (f := fun k (s : List Int × List Int) => t_law_shuffled_1 ds k s.1 s.2) (fun i s => (s.1 ++ s.2).Perm A ∧ s.2.length = i) (rangeI 0 A.length) 0 (A, []) ⟨by simp, rfl⟩ (fun i a s ha hs => by
    obtain ⟨hi, rfl⟩ := rangeI_get ha
    obtain ⟨rest, os⟩ := s
    obtain ⟨h1, h2⟩ := hs
    simp only at h1 h2
    rw [Nat.zero_add] at h2 ⊢
    rw [Int.zero_add]
    have hlen : rest.length + i = A.length := by have := h1.length_eq; rw [List.length_append] at this; omega
    obtain ⟨a0, j0, z0, _⟩ := hd.ix (i : Int) (by omega) (by omega)
    have b1 := Int.emod_nonneg a0 (b := (rest.length : Int)) (by omega)
    have b2 := Int.emod_lt_of_pos a0 (b := (rest.length : Int)) (by omega)
    obtain ⟨j, hj⟩ : ∃ j : Nat, a0 % (rest.length : Int) = j := ⟨(a0 % (rest.length : Int)).toNat, by omega⟩
    have hjl : j < rest.length := by omega
    refine ⟨(rest.eraseIdx j, os ++ [rest[j]]), .inl ?_, ?_, by simp; omega⟩
    · simp only [t_law_shuffled_1, b1_ap, b2_ap, R.bind_ok, j0, tlen_ap, tmodI_pos (show (0 : Int) < (rest.length : Int) by omega), hj, popT hjl (by omega), R.tr_ok, tapp_ok (show os.length < 16777216 by omega)]
    · refine List.Perm.trans ?_ h1
      have p1 : (rest[j] :: rest.eraseIdx j).Perm rest := er_perm hjl
      have p2 : (rest.eraseIdx j ++ (os ++ [rest[j]])).Perm ((rest[j] :: rest.eraseIdx j) ++ os) := by
        rw [← List.append_assoc]
        refine (List.perm_append_comm).trans ?_
        simp
      exact p2.trans (p1.append_right os))
  rw [rangeI_len, Nat.zero_add] at e3
  simp only at e2 e3
  have hlen := e2.length_eq
  rw [List.length_append] at hlen
  have hr : rest = [] := List.length_eq_zero_iff.mp (by omega)
  rw [hr, List.nil_append] at e2
  refine ⟨os, ?_, e2⟩
  simp only [t_law_shuffled, b1_ap, b3_ap, R.bind_ok, tlen_ap, e, R.tr_ok, trange1_nat (show A.length ≤ 16777216 by omega)]
  erw [e1]
  rfl

def sq (ts : List Int) : List Int := srtI (uqI ts)
theorem sq_mem {ts : List Int} {t : Int} : t ∈ sq ts ↔ t ∈ ts := by
  unfold sq
  rw [(srtI_perm _).mem_iff, uqI_mem]
theorem sq_lt (ts : List Int) : (sq ts).Pairwise (· < ·) := by
  have h1 := srtI_ord (uqI ts)
  have h2 : (srtI (uqI ts)).Nodup := (srtI_perm _).nodup_iff.mpr (uqI_nodup ts)
  unfold sq
  exact (h1.and h2).imp fun ⟨a, b⟩ => by omega
theorem sq_len (ts : List Int) : (sq ts).length ≤ ts.length := by
  unfold sq
  rw [(srtI_perm _).length_eq]
  exact uqI_len ts
def on (tr ts : List Int) (t : Int) : List Int := ((List.zipWith (fun a b => (a, b)) tr ts).filter fun p => decide (p.2 = t)).map Prod.fst
def ap (tr ts : List Int) : List Int := (sq ts).flatMap (on tr ts)
theorem on_len (tr ts : List Int) (t : Int) : (on tr ts t).length ≤ tr.length := by
  unfold on
  rw [List.length_map]
  refine Nat.le_trans (List.length_filter_le _ _) ?_
  rw [List.length_zipWith]
  omega
theorem after_passT {tr ts : List Int} (hl : tr.length ≤ 100) (ht : ts.length = tr.length) : t_after_pass tr ts = .ok (ap tr ts) := by
  have key : ∀ (xs : List Int) (s : List Int), s.length + 100 * xs.length ≤ 1000000 → (forT (fun track found => t_after_pass_2 tr ts track found) xs s : TR (List Int) Empty (List Int)) = .nx (s ++ xs.flatMap (on tr ts)) := by
    intro xs
    induction xs with
    | nil => intro s _; simp [forT]
    | cons x xs ih =>
      intro s hs
      have tc := tcomp_ok (c := fun (p : Int × Int) => teq p.2 x) (f := fun (p : Int × Int) => R.ok p.1) (fun p => decide (p.2 = x)) Prod.fst (xs := List.zipWith (fun a b => (a, b)) tr ts) (fun p _ => ⟨teq_int _ _, fun _ => rfl⟩)
      have ol := on_len tr ts x
      have st1 : t_after_pass_2 tr ts x s = .nx (s ++ on tr ts x) := by
        simp only [t_after_pass_2, b2_ap, R.bind_ok, tzip_ap]
        erw [tc]
        simp only [calm_okk, R.tr_ok]
        have : text s (on tr ts x) = .ok (s ++ on tr ts x) := text_ok (by simp at hs; omega)
        unfold on at this
        rw [this]
        rfl
      rw [forT_nx st1, ih _ (by simp at hs ⊢; omega)]
      simp
  have sl := sq_len ts
  have f := key (sq ts) [] (by simp; omega)
  rw [List.nil_append] at f
  simp only [t_after_pass, R.tr_ok, b1_ap, R.bind_ok]
  have e1 : tstL ts = .ok ts := if_pos (by omega)
  rw [e1]
  simp only [R.bind_ok]
  show TR.fn ((tsrtS ts).tr _) _ = _
  have e2 : tsrtS ts = .ok (sq ts) := rfl
  rw [e2, R.tr_ok, f]
  rfl
def pL (ts : List Int) (n : Nat) : List (Int × Int) := (rangeI 0 n).map fun k => (ts.getD k.toNat 0, k)
def pM (ts : List Int) (n : Nat) : List (Int × Int) := (sq ts).flatMap fun t => ((rangeI 0 n).filter fun k => decide (ts.getD k.toNat 0 = t)).map fun k => (t, k)
theorem rangeI_lt (m : Nat) : (rangeI 0 m).Pairwise (· < ·) := by
  unfold rangeI
  rw [List.pairwise_map]
  exact List.pairwise_lt_range.imp fun h => by omega
theorem pM_lt (ts : List Int) (n : Nat) : (pM ts n).Pairwise fun p q => p.1 < q.1 ∨ (p.1 = q.1 ∧ p.2 < q.2) := by
  unfold pM
  rw [List.pairwise_flatMap]
  refine ⟨fun t _ => ?_, (sq_lt ts).imp fun h x hx y hy => ?_⟩
  · rw [List.pairwise_map]
    exact (List.Pairwise.filter _ (rangeI_lt n)).imp fun h => .inr ⟨rfl, h⟩
  · obtain ⟨_, _, rfl⟩ := List.mem_map.mp hx
    obtain ⟨_, _, rfl⟩ := List.mem_map.mp hy
    exact .inl h
theorem pM_perm {ts : List Int} {n : Nat} (hn : ts.length = n) : (pM ts n).Perm (pL ts n) := by
  have n1 : (pM ts n).Nodup := (pM_lt ts n).imp fun {a b} h e => by subst e; omega
  have n2 : (pL ts n).Nodup := by
    unfold pL
    refine List.Pairwise.map _ (fun a b h z => ?_) (rangeI_lt n)
    have := congrArg Prod.snd z
    simp only at this
    omega
  refine (List.perm_ext_iff_of_nodup n1 n2).mpr fun p => ?_
  unfold pM pL
  rw [List.mem_flatMap, List.mem_map]
  constructor
  · rintro ⟨t, _, h⟩
    obtain ⟨k, hk, rfl⟩ := List.mem_map.mp h
    rw [List.mem_filter] at hk
    have : ts.getD k.toNat 0 = t := by simpa using hk.2
    exact ⟨k, hk.1, by rw [this]⟩
  · rintro ⟨k, hk, rfl⟩
    obtain ⟨j, hj, e⟩ := rangeI_mem.mp hk
    refine ⟨ts.getD k.toNat 0, sq_mem.mpr ?_, List.mem_map.mpr ⟨k, List.mem_filter.mpr ⟨hk, by simp⟩, rfl⟩⟩
    rw [e, Int.zero_add, Int.toNat_natCast, List.getD_eq_getElem?_getD, List.getElem?_eq_getElem (by omega)]
    exact List.getElem_mem _
theorem pM_sort {ts : List Int} {n : Nat} (hn : ts.length = n) : (pL ts n).mergeSort tLe = pM ts n := by
  have s1 := List.pairwise_mergeSort (le := (tLe : Int × Int → Int × Int → Bool)) (fun a b c h1 h2 => by
    rw [tLe_ii] at h1 h2 ⊢
    simp only [decide_eq_true_eq] at h1 h2 ⊢
    omega) (fun a b => by
    rw [tLe_ii, tLe_ii]
    simp only [Bool.or_eq_true, decide_eq_true_eq]
    omega) (pL ts n)
  refine List.Perm.eq_of_pairwise (le := fun a b => tLe a b = true) (fun a b _ _ h1 h2 => ?_) s1 ((pM_lt ts n).imp fun {a b} h => ?_) ((List.mergeSort_perm _ _).trans (pM_perm hn).symm)
  · rw [tLe_ii] at h1 h2
    simp only [decide_eq_true_eq] at h1 h2
    refine Prod.ext ?_ ?_ <;> omega
  · rw [tLe_ii]
    simp only [decide_eq_true_eq]
    omega
theorem on_places : ∀ (tr ts : List Int) (t : Int), ts.length = tr.length → on tr ts t = ((List.range tr.length).filter fun k => decide (ts.getD k 0 = t)).map fun k => tr.getD k 0
  | [], _, t, _ => by simp [on]
  | x :: tr, [], t, h => by simp at h
  | x :: tr, y :: ts, t, h => by
    have ih := on_places tr ts t (by simpa using h)
    have e0 : on (x :: tr) (y :: ts) t = (if y = t then [x] else []) ++ on tr ts t := by
      unfold on
      rw [List.zipWith_cons_cons, List.filter_cons]
      by_cases c : y = t
      · rw [if_pos (by simpa using c), if_pos c]; rfl
      · rw [if_neg (by simpa using c), if_neg c]; rfl
    rw [e0, ih, List.length_cons, List.range_succ_eq_map, List.filter_cons, List.filter_map]
    have e1 : ((fun k => decide ((y :: ts).getD k 0 = t)) ∘ Nat.succ) = fun k => decide (ts.getD k 0 = t) := by
      funext k
      simp only [Function.comp]
      rw [show (y :: ts).getD k.succ 0 = ts.getD k 0 from by rw [List.getD_eq_getElem?_getD, List.getD_eq_getElem?_getD, List.getElem?_cons_succ]]
    rw [e1]
    have e2 : (((List.range tr.length).filter fun k => decide (ts.getD k 0 = t)).map Nat.succ).map (fun k => (x :: tr).getD k 0) = ((List.range tr.length).filter fun k => decide (ts.getD k 0 = t)).map fun k => tr.getD k 0 := by
      rw [List.map_map]
      refine List.map_congr_left fun k _ => ?_
      simp only [Function.comp]
      rw [List.getD_eq_getElem?_getD, List.getD_eq_getElem?_getD, List.getElem?_cons_succ]
    by_cases c : y = t
    · rw [if_pos (show decide ((y :: ts).getD 0 0 = t) = true by simpa using c), if_pos c, List.map_cons, e2]; rfl
    · rw [if_neg (show ¬ decide ((y :: ts).getD 0 0 = t) = true by simpa using c), if_neg c, e2]; rfl
theorem ap_places {tr ts : List Int} (h : ts.length = tr.length) : (pM ts tr.length).map (fun p => tr.getD p.2.toNat 0) = ap tr ts := by
  unfold pM ap
  rw [List.map_flatMap]
  congr 1
  funext t
  rw [List.map_map, on_places tr ts t h]
  unfold rangeI
  rw [List.filter_map, List.map_map]
  have e1 : ((fun k : Int => decide (ts.getD k.toNat 0 = t)) ∘ fun i : Nat => (0 : Int) + (i : Int)) = fun k => decide (ts.getD k 0 = t) := by
    funext k
    simp
  rw [e1]
  refine List.map_congr_left fun k _ => ?_
  simp
theorem law_afterT {tr ts : List Int} (hl : tr.length ≤ 100) (ht : ts.length = tr.length) : t_law_after tr ts = .ok (ap tr ts) := by
  have tn : trange1 (tr.length : Int) = .ok (rangeI 0 tr.length) := trange1_nat (by omega)
  have t1 := tmap_ok (f := fun k_ : Int => b2 mk2 (b2 tidx (R.ok ts) (R.ok k_)) (R.ok k_)) (fun k => (ts.getD k.toNat 0, k)) (xs := rangeI 0 tr.length) (fun k hk => by
    obtain ⟨j, hj, rfl⟩ := rangeI_mem.mp hk
    rw [Int.zero_add]
    have : tidx ts (j : Int) = .ok (ts.getD j 0) := tidx_nat (by rw [List.getD_eq_getElem?_getD, List.getElem?_eq_getElem (by omega)]; rfl)
    simp only [b2_ap, R.bind_ok, this, mk2_ap, Int.toNat_natCast])
  have so : tsortD (pL ts tr.length) = .ok (pM ts tr.length) := by
    rw [tsortD_ok (xs := pL ts tr.length) (fun x _ => (show EqE.ok x from ⟨trivial, trivial⟩)), pM_sort ht]
  have t2 := tmap_ok (f := fun p : Int × Int => b2 tidx (R.ok tr) (R.ok p.2)) (fun p => tr.getD p.2.toNat 0) (xs := pM ts tr.length) (fun p hp => by
    have := (pM_perm ht).mem_iff.mp hp
    unfold pL at this
    obtain ⟨k, hk, rfl⟩ := List.mem_map.mp this
    obtain ⟨j, hj, rfl⟩ := rangeI_mem.mp hk
    simp only [Int.zero_add, b2_ap, R.bind_ok, Int.toNat_natCast]
    exact tidx_nat (by rw [List.getD_eq_getElem?_getD, List.getElem?_eq_getElem hj]; rfl))
  rw [ap_places ht] at t2
  simp only [t_law_after, b1_ap, R.bind_ok, tlen_ap, tn]
  erw [t1]
  simp only [calm_okk, R.bind_ok]
  have so' : tsortD ((rangeI 0 tr.length).map fun k => (ts.getD k.toNat 0, k)) = .ok (pM ts tr.length) := so
  rw [so', R.tr_ok]
  try simp only [R.bind_ok]
  erw [t2]
  rfl
theorem on_sub {tr ts : List Int} {t w : Int} (h : w ∈ on tr ts t) : w ∈ tr := by
  unfold on at h
  obtain ⟨p, hp, rfl⟩ := List.mem_map.mp h
  have := (List.mem_filter.mp hp).1
  rw [show (fun a b => (a, b)) = (Prod.mk : Int → Int → Int × Int) from rfl] at this
  exact (List.of_mem_zip this).1
theorem ap_sub {tr ts : List Int} {w : Int} (h : w ∈ ap tr ts) : w ∈ tr := by
  unfold ap at h
  obtain ⟨t, _, h2⟩ := List.mem_flatMap.mp h
  exact on_sub h2
theorem ap_len {tr ts : List Int} (h : ts.length = tr.length) : (ap tr ts).length = tr.length := by
  rw [← ap_places h, List.length_map, (pM_perm h).length_eq]
  unfold pL
  rw [List.length_map, rangeI_len]

section
variable {l γ : Type}
theorem forT_flt {f : Int → List Int → TR γ (List Int) (List Int)} (p : Int → Bool) (g : Int → Int) : ∀ (xs s : List Int), s.length + xs.length ≤ 1000000 → (∀ a ∈ xs, ∀ s : List Int, s.length < 16777216 → f a s = .nx (if p a = true then s ++ [g a] else s)) → (forT f xs s : TR γ l (List Int)) = .nx (s ++ (xs.filter p).map g)
  | [], s, _, _ => by simp [forT]
  | a :: as, s, hl, h => by
    rw [List.length_cons] at hl
    rw [forT_nx (h a List.mem_cons_self s (by omega))]
    cases q : p a with
    | true =>
      rw [if_pos rfl, forT_flt p g as _ (by rw [List.length_append, List.length_singleton]; omega) fun b hb => h b (List.mem_cons_of_mem _ hb), List.filter_cons_of_pos q, List.map_cons, List.append_assoc]
      rfl
    | false =>
      rw [if_neg (by decide), forT_flt p g as _ (by omega) fun b hb => h b (List.mem_cons_of_mem _ hb), List.filter_cons_of_neg (by rw [q]; decide)]
end
def hdp (A P : List Int) (k : Int) : Bool := decide (po A (P.getD k.toNat 0) < po A (P.getD (k - 1).toNat 0))
def hd (A P : List Int) : List Int := ((rangeI 1 (P.length - 1)).filter (hdp A P)).map fun k => P.getD k.toNat 0
theorem hd_len (A P : List Int) : (hd A P).length ≤ P.length - 1 := by
  unfold hd
  rw [List.length_map]
  exact Nat.le_trans (List.length_filter_le _ _) (by rw [rangeI_len]; exact Nat.le_refl _)
section
variable {A P : List Int}
theorem getT {k : Int} (h0 : 0 ≤ k) (h1 : k < (P.length : Int)) : tidx P k = .ok (P.getD k.toNat 0) ∧ P.getD k.toNat 0 ∈ P := by
  have : k.toNat < P.length := by omega
  have e : P.getD k.toNat 0 = P[k.toNat] := by rw [List.getD_eq_getElem?_getD, List.getElem?_eq_getElem this]; rfl
  exact ⟨tidx_of (k := k.toNat) (by omega) (by rw [List.getElem?_eq_getElem this, e]), by rw [e]; exact List.getElem_mem this⟩
theorem rng1 (hl : P.length ≤ 100) : trange2 1 (P.length : Int) = .ok (rangeI 1 (P.length - 1)) := trange2_of (by omega) (by omega) (by omega) (by omega) (by omega) (by omega)
theorem run_headsT (hA : A.length ≤ 100) (hp : P.Perm A) : t_run_heads A P = .ok (hd A P) := by
  have hl : P.length ≤ 100 := by rw [hp.length_eq]; exact hA
  have f := forT_flt (l := Empty) (γ := List Int) (f := fun k_ found => t_run_heads_1 A P k_ found) (hdp A P) (fun k => P.getD k.toNat 0) (rangeI 1 (P.length - 1)) [] (by rw [rangeI_len]; simp; omega) (fun k hk s hs => by
    obtain ⟨j, hj, rfl⟩ := rangeI_mem.mp hk
    obtain ⟨e1, m1⟩ := getT (P := P) (k := 1 + (j : Int) - 1) (by omega) (by omega)
    obtain ⟨e2, m2⟩ := getT (P := P) (k := 1 + (j : Int)) (by omega) (by omega)
    have i1 := tindexT (A := A) (by omega) (hp.mem_iff.mp m1)
    have i2 := tindexT (A := A) (by omega) (hp.mem_iff.mp m2)
    simp only [t_run_heads_1, b2_ap, tsubI_ap, R.bind_ok, e1, e2, i1, i2, tgtI_ap, tite_ap, R.tr_ok, tapp_ok hs]
    unfold hdp
    simp only [Int.ofNat_lt]
    split <;> rfl)
  rw [List.nil_append] at f
  simp only [t_run_heads, R.tr_ok, b1_ap, b2_ap, R.bind_ok, tlen_ap, rng1 hl]
  erw [f]
  rfl
theorem law_headsT (hA : A.length ≤ 100) (hp : P.Perm A) : t_law_heads A P = .ok (hd A P) := by
  have hl : P.length ≤ 100 := by rw [hp.length_eq]; exact hA
  have t1 := tmap_ok (f := fun w : Int => b2 tindex (R.ok A) (R.ok w)) (fun w => ((po A w : Nat) : Int)) (xs := P) (fun w hw => by
    simp only [b2_ap, R.bind_ok]
    exact tindexT (by omega) (hp.mem_iff.mp hw))
  have gp : ∀ k : Int, 0 ≤ k → k < (P.length : Int) → tidx (P.map fun w => ((po A w : Nat) : Int)) k = .ok ((po A (P.getD k.toNat 0) : Nat) : Int) := fun k h0 h1 => by
    have : k.toNat < P.length := by omega
    refine tidx_of (k := k.toNat) (by omega) ?_
    rw [List.getElem?_map, List.getElem?_eq_getElem this, List.getD_eq_getElem?_getD, List.getElem?_eq_getElem this]
    rfl
  have tc := tcomp_ok (c := fun k_ : Int => b2 tltI (b2 tidx (R.ok (P.map fun w => ((po A w : Nat) : Int))) (R.ok k_)) (b2 tidx (R.ok (P.map fun w => ((po A w : Nat) : Int))) (b2 tsubI (R.ok k_) (R.ok (1 : Int))))) (f := fun k_ : Int => b2 tidx (R.ok P) (R.ok k_)) (hdp A P) (fun k => P.getD k.toNat 0) (xs := rangeI 1 (P.length - 1)) (fun k hk => by
    obtain ⟨j, hj, rfl⟩ := rangeI_mem.mp hk
    refine ⟨?_, fun _ => ?_⟩
    · simp only [b2_ap, R.bind_ok, tsubI_ap, gp (1 + (j : Int)) (by omega) (by omega), gp (1 + (j : Int) - 1) (by omega) (by omega), tltI_ap]
      unfold hdp
      simp only [Int.ofNat_lt]
    · simp only [b2_ap, R.bind_ok]
      exact (getT (by omega) (by omega)).1)
  simp only [t_law_heads, R.bind_ok]
  erw [t1]
  simp only [calm_okk, R.tr_ok, b1_ap, b2_ap, R.bind_ok, tlen_ap, rng1 hl]
  erw [tc]
  rfl
noncomputable def nf (H : List Int) (s : Dc Int Int × Int) (w : Int) : Dc Int Int × Int := (s.1.put w (if w ∈ H then s.2 + 1 else s.2), if w ∈ H then s.2 + 1 else s.2)
theorem nf_len (H : List Int) : ∀ (ws : List Int) (s : Dc Int Int × Int), (ws.foldl (nf H) s).1.l.length ≤ s.1.l.length + ws.length
  | [], s => by simp
  | w :: ws, s => by
    have h1 := nf_len H ws (nf H s w)
    have h2 := put_len s.1 w (if w ∈ H then s.2 + 1 else s.2)
    have h3 : (nf H s w).1 = s.1.put w (if w ∈ H then s.2 + 1 else s.2) := rfl
    rw [h3] at h1
    rw [List.foldl_cons, List.length_cons]
    omega
theorem nf_get (H : List Int) : ∀ (ws : List Int) (s : Dc Int Int × Int) (w : Int), (w ∈ ws ∨ ∃ v, s.1.get w = some v) → ∃ v, (ws.foldl (nf H) s).1.get w = some v
  | [], s, w, h => h.elim (fun h => nomatch h) id
  | x :: ws, s, w, h => by
    rw [List.foldl_cons]
    refine nf_get H ws (nf H s x) w ?_
    have h3 : (nf H s x).1 = s.1.put x (if x ∈ H then s.2 + 1 else s.2) := rfl
    rw [h3, get_put]
    by_cases c : x = w
    · exact .inr ⟨_, if_pos c⟩
    · rw [if_neg c]
      rcases h with h | h
      · rcases List.mem_cons.mp h with e | m
        · exact absurd e.symm c
        · exact .inl m
      · exact .inr h
theorem run_numbersT (hA : A.length ≤ 100) (hp : P.Perm A) : t_run_numbers A P = .ok (P.foldl (nf (hd A P)) (⟨[]⟩, 0)).1 := by
  have hl : P.length ≤ 100 := by rw [hp.length_eq]; exact hA
  have hh := hd_len A P
  have key : ∀ (ws : List Int) (s : Dc Int Int × Int), s.1.l.length + ws.length ≤ 1000 → (forT (fun w (s : Dc Int Int × Int) => t_run_numbers_1 (hd A P) w s.1 s.2) ws s : TR (Dc Int Int) Empty _) = .nx (ws.foldl (nf (hd A P)) s) := by
    intro ws
    induction ws with
    | nil => intro s _; rfl
    | cons w ws ih =>
      intro s hs
      rw [List.length_cons] at hs
      have st1 : t_run_numbers_1 (hd A P) w s.1 s.2 = .nx (nf (hd A P) s w) := by
        have dp : ∀ v, tdput s.1 w v = .ok (s.1.put w v) := fun v => if_pos (by omega)
        simp only [t_run_numbers_1, b1_ap, b2_ap, R.bind_ok, tinT (A := hd A P) (by omega) w, tite_ap, R.tr_ok]
        unfold nf
        by_cases c : w ∈ hd A P
        · simp only [c, decide_true, if_true, TR.bind_nx, dp, R.tr_ok]
        · simp only [c, decide_false, Bool.false_eq_true, if_false, TR.bind_nx, dp, R.tr_ok]
      have h2 := put_len s.1 w (if w ∈ hd A P then s.2 + 1 else s.2)
      have h3 : (nf (hd A P) s w).1 = s.1.put w (if w ∈ hd A P then s.2 + 1 else s.2) := rfl
      rw [forT_nx (f := fun w (s : Dc Int Int × Int) => t_run_numbers_1 (hd A P) w s.1 s.2) st1, ih _ (by rw [h3]; omega)]
      rfl
  have f := key P (⟨[]⟩, 0) (by simp; omega)
  simp only [t_run_numbers, b2_ap, R.bind_ok, run_headsT hA hp, R.tr_ok]
  erw [f]
  rfl
theorem pow_sm {K : Nat} (hK : K < 2 ^ 70) : ∀ p : Nat, Sm (70 * p + 1) ((K : Int) ^ p)
  | 0 => by show (1 : Int).natAbs < 2 ^ 1; decide
  | p + 1 => by
    have h := pow_sm hK p
    have h2 : Sm 70 (K : Int) := by show (K : Int).natAbs < 2 ^ 70; simpa using hK
    rw [Int.pow_succ]
    exact (h.mul h2).mono (by omega)
theorem powerT {K : Nat} (hK : K < 2 ^ 70) {p : Nat} (hp : p ≤ 100) : t_power (K : Int) (p : Int) = .ok ((K : Int) ^ p) ∧ ∀ c : Int, t_law_enough c (K : Int) (p : Int) = .ok (decide (c < (K : Int) ^ p)) := by
  have h2 : Sm 70 (K : Int) := by show (K : Int).natAbs < 2 ^ 70; simpa using hK
  have tn : trange1 (p : Int) = .ok (rangeI 0 p) := trange1_nat (by omega)
  constructor
  · obtain ⟨z, f, e⟩ := forT_ix (l := Empty) (β := Int) (f := fun u_ found => t_power_1 (K : Int) u_ found) (fun i z => z = (K : Int) ^ i) (rangeI 0 p) 0 1 rfl (fun i a z ha hz => by
      have hi := (rangeI_get ha).1
      rw [Nat.zero_add] at hz ⊢
      subst hz
      refine ⟨_, .inl ?_, rfl⟩
      simp only [t_power_1, b1_ap, R.bind_ok, tmulI_sm (pow_sm hK i) h2 (by omega), R.tr_ok, Int.pow_succ])
    rw [rangeI_len, Nat.zero_add] at e
    subst e
    simp only [t_power, R.tr_ok, b1_ap, R.bind_ok, tn]
    erw [f]
    rfl
  · intro c
    obtain ⟨z, f, e⟩ := forT_ix (l := Empty) (β := Bool) (f := fun turn power_v => t_law_enough_1 (K : Int) turn power_v) (fun i z => z = (K : Int) ^ i) (rangeI 0 p) 0 1 rfl (fun i a z ha hz => by
      have hi := (rangeI_get ha).1
      rw [Nat.zero_add] at hz ⊢
      subst hz
      refine ⟨_, .inl ?_, rfl⟩
      simp only [t_law_enough_1, b2_ap, R.bind_ok, tmulI_sm (pow_sm hK i) h2 (by omega), R.tr_ok, Int.pow_succ])
    rw [rangeI_len, Nat.zero_add] at e
    subst e
    simp only [t_law_enough, R.tr_ok, b1_ap, R.bind_ok, tn]
    erw [f]
    rfl
def dv (K : Nat) : Nat → Int → Int
  | 0, v => v
  | t + 1, v => dv K t v / (K : Int)
theorem digitT {K : Nat} (h0 : 0 < K) (hK : K < 2 ^ 70) (v : Int) {t : Nat} (ht : t ≤ 100) : t_digit v (K : Int) (t : Int) = .ok (dv K t v % (K : Int)) := by
  have tn : trange1 (t : Int) = .ok (rangeI 0 t) := trange1_nat (by omega)
  have kb : (K : Int) < 2 ^ 250 := by
    have : (K : Int) < 2 ^ 70 := by exact_mod_cast hK
    exact Int.lt_trans this (by decide)
  obtain ⟨z, f, e⟩ := forT_ix (l := Empty) (β := Int) (f := fun u_ number => t_digit_1 (K : Int) u_ number) (fun i z => z = dv K i v) (rangeI 0 t) 0 v rfl (fun i a z ha hz => by
    rw [Nat.zero_add] at hz ⊢
    subst hz
    refine ⟨_, .inl ?_, rfl⟩
    simp only [t_digit_1, b1_ap, R.bind_ok, tfdivI_pos (show (0 : Int) < (K : Int) by omega) kb, R.tr_ok, dv])
  rw [rangeI_len, Nat.zero_add] at e
  subst e
  simp only [t_digit, b1_ap, R.bind_ok, tn, R.tr_ok]
  erw [f]
  simp only [TR.bind_nx, b2_ap, tint_ap, R.bind_ok, tmodI_pos (show (0 : Int) < (K : Int) by omega), R.tr_ok, TR.fn_rt]
end

noncomputable def nn (D : Dc Int Int) (w : Int) : Int := (D.get w).getD 0
noncomputable def trk (K : Nat) (D : Dc Int Int) (t : Nat) (tr : List Int) : List Int := tr.map fun w => dv K t (nn D w) % (K : Int)
noncomputable def pst (K : Nat) (D : Dc Int Int) (A : List Int) : Nat → List Int × List (List Int)
  | 0 => (A, [])
  | t + 1 => (ap (pst K D A t).1 (trk K D t (pst K D A t).1), (pst K D A t).2 ++ [trk K D t (pst K D A t).1])
section
variable {A P : List Int} {D : Dc Int Int} {K : Nat}
theorem pst_in : ∀ t, (pst K D A t).1.length = A.length ∧ (∀ w ∈ (pst K D A t).1, w ∈ A) ∧ (pst K D A t).2.length = t ∧ ∀ r ∈ (pst K D A t).2, r.length = A.length
  | 0 => ⟨rfl, fun _ h => h, rfl, fun _ h => nomatch h⟩
  | t + 1 => by
    obtain ⟨h1, h2, h3, h4⟩ := pst_in t
    have e : (trk K D t (pst K D A t).1).length = (pst K D A t).1.length := by unfold trk; rw [List.length_map]
    refine ⟨(ap_len e).trans h1, fun w hw => h2 w (ap_sub hw), ?_, fun r hr => ?_⟩
    · show ((pst K D A t).2 ++ [trk K D t (pst K D A t).1]).length = t + 1
      rw [List.length_append, h3]; rfl
    · rcases List.mem_append.mp hr with m | m
      · exact h4 r m
      · rw [List.mem_singleton] at m
        rw [m, e, h1]
theorem in2T (h0 : 0 < K) (hK : K < 2 ^ 70) (hA : A.length ≤ 100) (hD : ∀ w ∈ A, ∃ v, D.get w = some v) {t : Nat} (ht : t ≤ 30) : t_in_passes_2 (K : Int) D (t : Int) (pst K D A t).1 (pst K D A t).2 = .nx (pst K D A (t + 1)) := by
  obtain ⟨h1, h2, h3, h4⟩ := pst_in (K := K) (D := D) (A := A) t
  have e : (trk K D t (pst K D A t).1).length = (pst K D A t).1.length := by unfold trk; rw [List.length_map]
  have tm := tmap_ok (f := fun w : Int => b3 t_digit (b2 tdget (R.ok D) (R.ok w)) (R.ok (K : Int)) (R.ok (t : Int))) (fun w => dv K t (nn D w) % (K : Int)) (xs := (pst K D A t).1) (fun w hw => by
    obtain ⟨v, ev⟩ := hD w (h2 w hw)
    have g : tdget D w = .ok (nn D w) := by unfold tdget nn; rw [ev]; rfl
    simp only [b2_ap, b3_ap, R.bind_ok, g, digitT h0 hK _ (show t ≤ 100 by omega)])
  have am := after_passT (tr := (pst K D A t).1) (ts := trk K D t (pst K D A t).1) (by omega) e
  simp only [t_in_passes_2, R.bind_ok]
  erw [tm]
  simp only [calm_okk, R.tr_ok, tapp_ok (show (pst K D A t).2.length < 16777216 by omega), b2_ap, R.bind_ok]
  have am' : t_after_pass (pst K D A t).1 ((pst K D A t).1.map fun w => dv K t (nn D w) % (K : Int)) = .ok (ap (pst K D A t).1 (trk K D t (pst K D A t).1)) := am
  rw [am', R.tr_ok]
  rfl
noncomputable def DD (A P : List Int) : Dc Int Int := (P.foldl (nf (hd A P)) (⟨[]⟩, 0)).1
theorem DD_get (hp : P.Perm A) : ∀ w ∈ A, ∃ v, (DD A P).get w = some v := fun w hw => nf_get _ P _ w (.inl (hp.mem_iff.mpr hw))
theorem cup2 {α : Type} [Enc α] (w : Str) (xs : List α) : cP2 R.ok (tmap cUp) (w, xs) = .ok (w, xs.map Enc.e) := by
  show (R.ok w).bind _ = _
  rw [R.bind_ok]
  show (tmap cUp xs).bind _ = _
  rw [show tmap cUp xs = .ok (xs.map Enc.e) from tmap_ok Enc.e fun _ _ => rfl]
  rfl
theorem in_passesT (h0 : 0 < K) (hK : K < 2 ^ 70) (hA : A.length ≤ 100) (hp : P.Perm A) {p : Nat} (hp2 : p ≤ 30) : t_in_passes A P (K : Int) (p : Int) = .ok (if ((hd A P).length : Int) < (K : Int) ^ p then (("tracks" : Str), (pst K (DD A P) A p).2.map Enc.e) else ("runs", (hd A P).map Enc.e)) := by
  have rn := run_numbersT hA hp
  have rn : t_run_numbers A P = .ok (DD A P) := rn
  have pw := (powerT hK (p := p) (by omega)).1
  have tn : trange1 (p : Int) = .ok (rangeI 0 p) := trange1_nat (by omega)
  obtain ⟨z, f, e⟩ := forT_ix (l := Empty) (β := Str × List PyData) (f := fun place (s : List Int × List (List Int)) => t_in_passes_2 (K : Int) (DD A P) place s.1 s.2) (fun i z => z = pst K (DD A P) A i) (rangeI 0 p) 0 (A, []) rfl (fun i a z ha hz => by
    obtain ⟨hi, rfl⟩ := rangeI_get ha
    rw [Nat.zero_add] at hz ⊢
    rw [Int.zero_add]
    subst hz
    exact ⟨_, .inl (in2T h0 hK hA (DD_get hp) (by omega)), rfl⟩)
  rw [rangeI_len, Nat.zero_add] at e
  subst e
  simp only [t_in_passes, R.bind_ok, run_headsT hA hp, R.tr_ok, b1_ap, b2_ap, tlen_ap, pw, tgeI_ap, tite_ap]
  by_cases c : ((hd A P).length : Int) < (K : Int) ^ p
  · rw [if_pos c, if_neg (by simpa using c)]
    simp only [rn, R.tr_ok, tn]
    erw [f]
    first | rfl | (simp only [TR.bind_nx, mk2_ap, R.bind_ok, cup2, R.tr_ok]; rfl)
  · rw [if_neg c, if_pos (by simpa using c)]
    simp only [mk2_ap, R.tr_ok]
    first | rfl | (simp only [R.bind_ok, cup2, R.tr_ok]; rfl)
theorem divT (h0 : 0 < K) (hK : K < 2 ^ 70) : ∀ (ws : List Int) (M : Dc Int Int) (g : Int → Int), ws.Nodup → M.l.length + ws.length ≤ 10000 → (∀ w ∈ ws, M.get w = some (g w)) → ∃ M', (forT (fun w M => t_law_lists_3 (K : Int) w M) ws M : TR (List (List Int)) ((Dc Int Int) × (List Int) × (List (List Int))) _) = .nx M' ∧ M'.l.length ≤ M.l.length + ws.length ∧ (∀ w ∈ ws, M'.get w = some (g w / (K : Int))) ∧ ∀ w, w ∉ ws → M'.get w = M.get w
  | [], M, g, _, _, _ => ⟨M, rfl, Nat.le_refl _, fun _ h => (nomatch h), fun _ _ => rfl⟩
  | x :: ws, M, g, nd, hl, hg => by
    have kb : (K : Int) < 2 ^ 250 := by
      have : (K : Int) < 2 ^ 70 := by exact_mod_cast hK
      exact Int.lt_trans this (by decide)
    rw [List.length_cons] at hl
    obtain ⟨n1, n2⟩ := List.nodup_cons.mp nd
    have gx : tdget M x = .ok (g x) := by unfold tdget; rw [hg x List.mem_cons_self]
    have dp : tdput M x (g x / (K : Int)) = .ok (M.put x (g x / (K : Int))) := if_pos (by omega)
    have st1 : t_law_lists_3 (K : Int) x M = .nx (M.put x (g x / (K : Int))) := by
      simp only [t_law_lists_3, b2_ap, R.bind_ok, gx, tfdivI_pos (show (0 : Int) < (K : Int) by omega) kb, R.tr_ok, dp]
    have pl := put_len M x (g x / (K : Int))
    obtain ⟨M', f, l1, g1, g2⟩ := divT h0 hK ws (M.put x (g x / (K : Int))) g n2 (by omega) (fun w hw => by
      rw [get_put, if_neg (fun e : x = w => n1 (by rw [e]; exact hw))]
      exact hg w (List.mem_cons_of_mem _ hw))
    refine ⟨M', by rw [forT_nx st1]; exact f, by rw [List.length_cons]; omega, fun w hw => ?_, fun w hw => ?_⟩
    · rcases List.mem_cons.mp hw with e | m
      · subst e
        rw [g2 w n1, get_put, if_pos rfl]
      · exact g1 w m
    · rw [List.mem_cons, not_or] at hw
      rw [g2 w hw.2, get_put, if_neg (fun e : x = w => hw.1 e.symm)]
theorem law4T (h0 : 0 < K) (hK : K < 2 ^ 70) (hA : A.length ≤ 100) (nd : P.Nodup) (hp : P.Perm A) {t : Nat} (ht : t ≤ 30) {M : Dc Int Int} (hM : M.l.length ≤ 100 + 100 * t) (hg : ∀ w ∈ P, M.get w = some (dv K t (nn D w))) : ∃ M' : Dc Int Int, t_law_lists_4 P (K : Int) (t : Int) M (pst K D A t).1 (pst K D A t).2 = .nx (M', pst K D A (t + 1)) ∧ M'.l.length ≤ 100 + 100 * (t + 1) ∧ ∀ w ∈ P, M'.get w = some (dv K (t + 1) (nn D w)) := by
  obtain ⟨h1, h2, h3, h4⟩ := pst_in (K := K) (D := D) (A := A) t
  have hl : P.length ≤ 100 := by rw [hp.length_eq]; exact hA
  have e : (trk K D t (pst K D A t).1).length = (pst K D A t).1.length := by unfold trk; rw [List.length_map]
  have tm := tmap_ok (f := fun w : Int => b2 tmodI (b2 tdget (R.ok M) (R.ok w)) (R.ok (K : Int))) (fun w => dv K t (nn D w) % (K : Int)) (xs := (pst K D A t).1) (fun w hw => by
    have g : tdget M w = .ok (dv K t (nn D w)) := by unfold tdget; rw [hg w (hp.mem_iff.mpr (h2 w hw))]
    simp only [b2_ap, R.bind_ok, g, tmodI_pos (show (0 : Int) < (K : Int) by omega)])
  have am := law_afterT (tr := (pst K D A t).1) (ts := trk K D t (pst K D A t).1) (by omega) e
  have ix : tidx ((pst K D A t).2 ++ [trk K D t (pst K D A t).1]) (t : Int) = .ok (trk K D t (pst K D A t).1) := tidx_nat (by rw [List.getElem?_append_right (by omega), h3]; simp)
  obtain ⟨M', f, l1, g1, g2⟩ := divT h0 hK P M (fun w => dv K t (nn D w)) nd (by omega) hg
  refine ⟨M', ?_, by omega, g1⟩
  simp only [t_law_lists_4, R.bind_ok]
  erw [tm]
  simp only [calm_okk, R.tr_ok, tapp_ok (show (pst K D A t).2.length < 16777216 by omega), b2_ap, R.bind_ok]
  have ix' : tidx ((pst K D A t).2 ++ [(pst K D A t).1.map fun w => dv K t (nn D w) % (K : Int)]) (t : Int) = .ok (trk K D t (pst K D A t).1) := ix
  rw [ix', R.bind_ok, am, R.tr_ok]
  erw [f]
  rfl
theorem nums_foldT (hA : A.length ≤ 100) (hp : P.Perm A) : (forT (fun w (s : Dc Int Int × Int) => t_law_lists_1 (hd A P) w s.1 s.2) P (⟨[]⟩, 0) : TR (List (List Int)) Empty _) = .nx (P.foldl (nf (hd A P)) (⟨[]⟩, 0)) := by
  have hl : P.length ≤ 100 := by rw [hp.length_eq]; exact hA
  have hh := hd_len A P
  have key : ∀ (ws : List Int) (s : Dc Int Int × Int), s.1.l.length + ws.length ≤ 1000 → (forT (fun w (s : Dc Int Int × Int) => t_law_lists_1 (hd A P) w s.1 s.2) ws s : TR (List (List Int)) Empty _) = .nx (ws.foldl (nf (hd A P)) s) := by
    intro ws
    induction ws with
    | nil => intro s _; rfl
    | cons w ws ih =>
      intro s hs
      rw [List.length_cons] at hs
      have st1 : t_law_lists_1 (hd A P) w s.1 s.2 = .nx (nf (hd A P) s w) := by
        have dp : ∀ v, tdput s.1 w v = .ok (s.1.put w v) := fun v => if_pos (by omega)
        simp only [t_law_lists_1, b2_ap, R.bind_ok, tinT (A := hd A P) (by omega) w, tite_ap, R.tr_ok, taddI_ap]
        unfold nf
        by_cases c : w ∈ hd A P
        · simp only [c, decide_true, if_true, TR.bind_nx, dp, R.tr_ok]
        · simp only [c, decide_false, Bool.false_eq_true, if_false, TR.bind_nx, dp, R.tr_ok]
      have h2 := put_len s.1 w (if w ∈ hd A P then s.2 + 1 else s.2)
      have h3 : (nf (hd A P) s w).1 = s.1.put w (if w ∈ hd A P then s.2 + 1 else s.2) := rfl
      rw [forT_nx (f := fun w (s : Dc Int Int × Int) => t_law_lists_1 (hd A P) w s.1 s.2) st1, ih _ (by rw [h3]; omega)]
      rfl
  exact key P (⟨[]⟩, 0) (by simp; omega)
theorem law_listsT (h0 : 0 < K) (hK : K < 2 ^ 70) (hA : A.length ≤ 100) (nd : A.Nodup) (hp : P.Perm A) {p : Nat} (hp2 : p ≤ 30) : t_law_lists A P (K : Int) (p : Int) = .ok (pst K (DD A P) A p).2 := by
  have hl : P.length ≤ 100 := by rw [hp.length_eq]; exact hA
  have tn : trange1 (p : Int) = .ok (rangeI 0 p) := trange1_nat (by omega)
  have nl := nf_len (hd A P) P (⟨[]⟩, 0)
  have f1 := nums_foldT hA hp
  have gt : ∀ w ∈ P, (P.foldl (nf (hd A P)) (⟨[]⟩, 0)).1.get w = some (dv K 0 (nn (DD A P) w)) := fun w hw => by
    obtain ⟨v, e⟩ := DD_get hp w (hp.mem_iff.mp hw)
    have e' : (P.foldl (nf (hd A P)) (⟨[]⟩, 0)).1.get w = some v := e
    rw [e']
    show some v = some (nn (DD A P) w)
    unfold nn
    rw [e]; rfl
  obtain ⟨⟨M, s⟩, f, e1, e2, e3⟩ := forT_ix (l := Empty) (β := List (List Int)) (f := fun turn (s : Dc Int Int × List Int × List (List Int)) => t_law_lists_4 P (K : Int) turn s.1 s.2.1 s.2.2) (fun i z => z.2 = pst K (DD A P) A i ∧ z.1.l.length ≤ 100 + 100 * i ∧ ∀ w ∈ P, z.1.get w = some (dv K i (nn (DD A P) w))) (rangeI 0 p) 0 ((P.foldl (nf (hd A P)) (⟨[]⟩, 0)).1, A, []) ⟨rfl, by simp at nl ⊢; omega, gt⟩ (fun i a z ha hz => by
    obtain ⟨hi, rfl⟩ := rangeI_get ha
    rw [Nat.zero_add] at hz ⊢
    rw [Int.zero_add]
    obtain ⟨M, s⟩ := z
    obtain ⟨z1, z2, z3⟩ := hz
    simp only at z1 z2 z3
    subst z1
    obtain ⟨M', g1, g2, g3⟩ := law4T h0 hK hA (hp.nodup_iff.mpr nd) hp (show i ≤ 30 by omega) z2 z3
    exact ⟨(M', pst K (DD A P) A (i + 1)), .inl g1, rfl, g2, g3⟩)
  rw [rangeI_len, Nat.zero_add] at e1
  simp only at e1
  subst e1
  simp only [t_law_lists, b2_ap, R.bind_ok, law_headsT hA hp, R.tr_ok]
  erw [f1]
  simp only [TR.bind_nx, R.tr_ok, b1_ap, R.bind_ok, tn]
  erw [f]
  rfl
theorem powI {K c i : Nat} : ((c : Int) < (K : Int) ^ i) ↔ ¬ K ^ i ≤ c := by
  have : ((K : Int) ^ i) = ((K ^ i : Nat) : Int) := by simp
  rw [this]
  omega
end

theorem on_map (f : Int → Int) (t : Int) : ∀ tr : List Int, on tr (tr.map f) t = tr.filter fun w => decide (f w = t)
  | [] => rfl
  | x :: tr => by
    have ih := on_map f t tr
    unfold on at ih ⊢
    rw [List.map_cons, List.zipWith_cons_cons, List.filter_cons, List.filter_cons]
    by_cases c : f x = t
    · rw [if_pos (by simpa using c), if_pos (by simpa using c), List.map_cons, ih]
    · rw [if_neg (by simpa using c), if_neg (by simpa using c), ih]
theorem ap_pw {R : Int → Int → Prop} (f : Int → Int) {tr : List Int} (h : tr.Pairwise R) : (ap tr (tr.map f)).Pairwise fun u v => f u < f v ∨ (f u = f v ∧ R u v) := by
  unfold ap
  rw [List.pairwise_flatMap]
  refine ⟨fun t _ => ?_, (sq_lt (tr.map f)).imp fun {a b} hab x hx y hy => ?_⟩
  · rw [on_map]
    refine List.Pairwise.imp_of_mem ?_ (List.Pairwise.filter _ h)
    intro u v hu hv r
    have h1 : f u = t := by simpa using (List.mem_filter.mp hu).2
    have h2 : f v = t := by simpa using (List.mem_filter.mp hv).2
    exact .inr ⟨h1.trans h2.symm, r⟩
  · rw [on_map] at hx hy
    have h1 : f x = a := by simpa using (List.mem_filter.mp hx).2
    have h2 : f y = b := by simpa using (List.mem_filter.mp hy).2
    exact .inl (by omega)
theorem ap_perm (f : Int → Int) {tr : List Int} (nd : tr.Nodup) : (ap tr (tr.map f)).Perm tr := by
  have n1 : (ap tr (tr.map f)).Nodup := (ap_pw (R := (· ≠ ·)) f nd).imp fun {a b} h e => by
    subst e
    rcases h with h | h
    · omega
    · exact h.2 rfl
  refine (List.perm_ext_iff_of_nodup n1 nd).mpr fun w => ⟨fun h => ap_sub h, fun h => ?_⟩
  unfold ap
  rw [List.mem_flatMap]
  refine ⟨f w, sq_mem.mpr (List.mem_map_of_mem h), ?_⟩
  rw [on_map]
  exact List.mem_filter.mpr ⟨h, by simp⟩
theorem row_map {tr r : List Int} (nd : tr.Nodup) (h : r.length = tr.length) : r = tr.map fun w => r.getD (po tr w) 0 := by
  refine List.ext_getElem (by simp [h]) fun i h1 h2 => ?_
  rw [List.getElem_map, po_at nd (by omega), List.getD_eq_getElem?_getD, List.getElem?_eq_getElem h1]
  rfl
def okRow (K : Nat) (tr r : List Int) : Prop := r.length = tr.length ∧ ∀ x ∈ r, 0 ≤ x ∧ x < (K : Int)
instance (K : Nat) (tr r : List Int) : Decidable (okRow K tr r) := by unfold okRow; infer_instance
def rp (K : Nat) : List Int → List (List Int) → Option (List Int)
  | tr, [] => some tr
  | tr, r :: rs => if okRow K tr r then rp K (ap tr r) rs else none
def Sx (A : List Int) (c : Int → Int) (u v : Int) : Prop := c u < c v ∨ (c u = c v ∧ po A u < po A v)
theorem rp_code {K : Nat} (hK : 0 < K) {A : List Int} : ∀ (rs : List (List Int)) (tr P : List Int) (c : Int → Int) (i : Nat), tr.Nodup → (∀ w ∈ tr, 0 ≤ c w ∧ c w < (K : Int) ^ i) → tr.Pairwise (Sx A c) → rp K tr rs = some P → ∃ c' : Int → Int, (∀ w ∈ P, 0 ≤ c' w ∧ c' w < (K : Int) ^ (i + rs.length)) ∧ P.Pairwise (Sx A c') ∧ P.Perm tr
  | [], tr, P, c, i, nd, hc, hp, h => by
    injection h with h
    subst h
    exact ⟨c, hc, hp, .refl _⟩
  | r :: rs, tr, P, c, i, nd, hc, hp, h => by
    unfold rp at h
    split at h
    · rename_i ok
      have em := row_map nd ok.1
      generalize hf : (fun w => r.getD (po tr w) 0) = f at em
      rw [em] at h
      have pm := ap_perm f nd
      have pos : (0 : Int) < (K : Int) ^ i := Int.pow_pos (by omega)
      have fb : ∀ w ∈ tr, 0 ≤ f w ∧ f w < (K : Int) := fun w hw => ok.2 (f w) (by rw [em]; exact List.mem_map_of_mem hw)
      obtain ⟨c', h1, h2, h3⟩ := rp_code hK rs (ap tr (tr.map f)) P (fun w => f w * (K : Int) ^ i + c w) (i + 1) (pm.nodup_iff.mpr nd) (fun w hw => by
        have m := pm.mem_iff.mp hw
        obtain ⟨a1, a2⟩ := hc w m
        obtain ⟨b1, b2⟩ := fb w m
        have e1 : 0 ≤ f w * (K : Int) ^ i := Int.mul_nonneg b1 (by omega)
        have e2 : (f w + 1) * (K : Int) ^ i ≤ (K : Int) * (K : Int) ^ i := Int.mul_le_mul_of_nonneg_right (by omega) (by omega)
        rw [Int.add_mul, Int.one_mul] at e2
        rw [Int.pow_succ, Int.mul_comm ((K : Int) ^ i)]
        exact ⟨by omega, by omega⟩) (by
        refine List.Pairwise.imp_of_mem ?_ (ap_pw f hp)
        intro u v hu hv s
        obtain ⟨a1, a2⟩ := hc u (pm.mem_iff.mp hu)
        obtain ⟨b1, b2⟩ := hc v (pm.mem_iff.mp hv)
        rcases s with s | ⟨s1, s2⟩
        · refine .inl ?_
          have e2 : (f u + 1) * (K : Int) ^ i ≤ f v * (K : Int) ^ i := Int.mul_le_mul_of_nonneg_right (by omega) (by omega)
          rw [Int.add_mul, Int.one_mul] at e2
          simp only
          omega
        · rcases s2 with s2 | ⟨s2, s3⟩
          · refine .inl ?_
            simp only [s1]
            omega
          · refine .inr ⟨?_, s3⟩
            simp only [s1, s2]) h
      refine ⟨c', fun w hw => ?_, h2, h3.trans pm⟩
      have := h1 w hw
      rw [List.length_cons, show i + (rs.length + 1) = i + 1 + rs.length by omega]
      exact this
    · cases h
def hn (A : List Int) : Int → List Int → Nat
  | _, [] => 0
  | x, y :: r => (if po A y < po A x then 1 else 0) + hn A y r
theorem hn_lt {A : List Int} {c : Int → Int} {M : Int} : ∀ (x : Int) (r : List Int), (x :: r).Pairwise (Sx A c) → (∀ w ∈ x :: r, c w < M) → c x + (hn A x r : Int) < M
  | x, [], _, h => by have := h x (by simp); simp [hn]; exact this
  | x, y :: r, hp, h => by
    obtain ⟨p1, p2⟩ := List.pairwise_cons.mp hp
    have ih := hn_lt y r p2 fun w hw => h w (List.mem_cons_of_mem _ hw)
    have s := p1 y List.mem_cons_self
    unfold hn
    rcases s with s | ⟨s1, s2⟩
    · split <;> omega
    · rw [if_neg (by omega)]
      omega
theorem hd_hn (A : List Int) : ∀ (x : Int) (r : List Int), (hd A (x :: r)).length = hn A x r := by
  intro x r
  have key : ∀ (r pre : List Int) (x : Int), ((rangeI ((pre.length : Int) + 1) r.length).filter (hdp A (pre ++ x :: r))).length = hn A x r := by
    intro r
    induction r with
    | nil => intro pre x; simp [hn, rangeI]
    | cons y r ih =>
      intro pre x
      rw [List.length_cons, rangeI_succ, List.filter_cons]
      have e1 : hdp A (pre ++ x :: y :: r) ((pre.length : Int) + 1) = decide (po A y < po A x) := by
        unfold hdp
        have g1 : (pre ++ x :: y :: r).getD ((pre.length : Int) + 1).toNat 0 = y := by
          rw [show ((pre.length : Int) + 1).toNat = pre.length + 1 by omega, List.getD_eq_getElem?_getD, List.getElem?_append_right (by omega)]
          simp
        have g2 : (pre ++ x :: y :: r).getD ((pre.length : Int) + 1 - 1).toNat 0 = x := by
          rw [show ((pre.length : Int) + 1 - 1).toNat = pre.length by omega, List.getD_eq_getElem?_getD, List.getElem?_append_right (by omega)]
          simp
        rw [g1, g2]
      have ih2 := ih (pre ++ [x]) y
      have l2 : (pre ++ [x]).length = pre.length + 1 := by simp
      rw [l2, show pre ++ [x] ++ y :: r = pre ++ x :: y :: r by simp] at ih2
      have e2 : ((pre.length + 1 : Nat) : Int) + 1 = (pre.length : Int) + 1 + 1 := by omega
      rw [e2] at ih2
      rw [e1]
      unfold hn
      by_cases c : po A y < po A x
      · rw [if_pos (decide_eq_true c), if_pos c, List.length_cons, ih2]; omega
      · rw [if_neg (by simpa using c), if_neg c, ih2]; omega
  unfold hd
  rw [List.length_map]
  have := key r [] x
  simpa using this
theorem hd_lt {A P : List Int} {c : Int → Int} {M : Int} (hM : 0 < M) (hp : P.Pairwise (Sx A c)) (hc : ∀ w ∈ P, 0 ≤ c w ∧ c w < M) : ((hd A P).length : Int) < M := by
  cases P with
  | nil => show ((([] : List Int).length : Nat) : Int) < M; simpa using hM
  | cons x r =>
    rw [hd_hn]
    have := hn_lt x r hp fun w hw => (hc w hw).2
    have := (hc x List.mem_cons_self).1
    omega
theorem rp_few {K : Nat} (hK : 0 < K) {A P : List Int} (nd : A.Nodup) {rs : List (List Int)} (h : rp K A rs = some P) : ((hd A P).length : Int) < (K : Int) ^ rs.length := by
  have ap0 : A.Pairwise (Sx A fun _ => 0) := by
    rw [List.pairwise_iff_getElem]
    intro i j hi hj hij
    refine .inr ⟨rfl, ?_⟩
    rw [po_at nd hi, po_at nd hj]
    exact hij
  obtain ⟨c, h1, h2, h3⟩ := rp_code (A := A) hK rs A P (fun _ => 0) 0 nd (fun w _ => ⟨Int.le_refl _, by rw [Int.pow_zero]; decide⟩) ap0 h
  rw [Nat.zero_add] at h1
  exact hd_lt (Int.pow_pos (by omega)) h2 h1
theorem hd_nodup {A P : List Int} (nd : P.Nodup) : (hd A P).Nodup := by
  unfold hd
  refine List.pairwise_map.mpr (List.Pairwise.imp_of_mem (R := fun a b : Int => a < b) ?_ (List.Pairwise.filter _ ?_))
  · intro a b ha hb h e
    obtain ⟨i, hi, rfl⟩ := rangeI_mem.mp (List.mem_filter.mp ha).1
    obtain ⟨j, hj, rfl⟩ := rangeI_mem.mp (List.mem_filter.mp hb).1
    have h1 : (1 + (i : Int)).toNat < P.length := by omega
    have h2 : (1 + (j : Int)).toNat < P.length := by omega
    rw [List.getD_eq_getElem?_getD, List.getElem?_eq_getElem h1, List.getD_eq_getElem?_getD, List.getElem?_eq_getElem h2] at e
    have := (List.getElem_inj nd).mp e
    omega
  · unfold rangeI
    rw [List.pairwise_map]
    exact List.pairwise_lt_range.imp fun h => by omega
theorem hd_mem {A P : List Int} (nd : P.Nodup) {pre : List Int} {x y : Int} {r : List Int} (e : P = pre ++ x :: y :: r) : y ∈ hd A P ↔ po A y < po A x := by
  have g1 : P.getD (1 + (pre.length : Int)).toNat 0 = y := by
    rw [e, show (1 + (pre.length : Int)).toNat = pre.length + 1 by omega, List.getD_eq_getElem?_getD, List.getElem?_append_right (by omega)]
    simp
  have g2 : P.getD (1 + (pre.length : Int) - 1).toNat 0 = x := by
    rw [e, show (1 + (pre.length : Int) - 1).toNat = pre.length by omega, List.getD_eq_getElem?_getD, List.getElem?_append_right (by omega)]
    simp
  have lP : P.length = pre.length + r.length + 2 := by rw [e]; simp; omega
  unfold hd
  rw [List.mem_map]
  constructor
  · rintro ⟨k, hk, ek⟩
    rw [List.mem_filter] at hk
    obtain ⟨j, hj, rfl⟩ := rangeI_mem.mp hk.1
    have h1 : (1 + (j : Int)).toNat < P.length := by omega
    have h2 : (1 + (pre.length : Int)).toNat < P.length := by omega
    rw [← g1, List.getD_eq_getElem?_getD, List.getElem?_eq_getElem h1, List.getD_eq_getElem?_getD, List.getElem?_eq_getElem h2] at ek
    have := (List.getElem_inj nd).mp ek
    have ej : j = pre.length := by omega
    subst ej
    have := hk.2
    unfold hdp at this
    rw [g1, g2] at this
    simpa using this
  · intro h
    refine ⟨1 + (pre.length : Int), List.mem_filter.mpr ⟨rangeI_mem.mpr ⟨pre.length, by omega, rfl⟩, ?_⟩, g1⟩
    unfold hdp
    rw [g1, g2]
    simpa using h
def Ch (A H : List Int) : List Int → Prop
  | u :: v :: r => (v ∈ H ∨ po A u < po A v) ∧ Ch A H (v :: r)
  | _ => True
theorem hd_ch {A P : List Int} (nd : P.Nodup) (hs : ∀ w ∈ P, w ∈ A) : Ch A (hd A P) P := by
  have key : ∀ (r pre : List Int), P = pre ++ r → Ch A (hd A P) r := by
    intro r
    induction r with
    | nil => exact fun _ _ => trivial
    | cons x r ih =>
      intro pre e
      cases r with
      | nil => exact trivial
      | cons y r =>
        refine ⟨?_, ih (pre ++ [x]) (by rw [e]; simp)⟩
        by_cases c : po A y < po A x
        · exact .inl ((hd_mem nd e).mpr c)
        · refine .inr (Nat.lt_of_le_of_ne (Nat.le_of_not_lt c) fun q => ?_)
          have := po_inj (hs x (by rw [e]; simp)) (hs y (by rw [e]; simp)) q
          rw [e] at nd
          have n2 := (List.nodup_append.mp nd).2.1
          rw [List.nodup_cons] at n2
          exact n2.1 (by rw [this]; simp)
  exact key P [] rfl
section
variable {A H : List Int}
theorem nf_out : ∀ (ws : List Int) (s : Dc Int Int × Int) (w : Int), w ∉ ws → (ws.foldl (nf H) s).1.get w = s.1.get w
  | [], _, _, _ => rfl
  | x :: ws, s, w, h => by
    rw [List.mem_cons, not_or] at h
    rw [List.foldl_cons, nf_out ws (nf H s x) w h.2]
    show (s.1.put x _).get w = _
    rw [get_put, if_neg (fun e : x = w => h.1 e.symm)]
theorem nf_first (x : Int) (ws : List Int) (s : Dc Int Int × Int) (h : x ∉ ws) : nn ((x :: ws).foldl (nf H) s).1 x = (nf H s x).2 := by
  unfold nn
  rw [List.foldl_cons, nf_out ws _ x h]
  show ((s.1.put x _).get x).getD 0 = _
  rw [get_put, if_pos rfl]
  rfl
theorem nf_ge : ∀ (ws : List Int) (s : Dc Int Int × Int), ws.Nodup → ∀ w ∈ ws, s.2 ≤ nn (ws.foldl (nf H) s).1 w ∧ nn (ws.foldl (nf H) s).1 w ≤ s.2 + ((ws.filter fun w => decide (w ∈ H)).length : Int)
  | x :: ws, s, nd, w, hw => by
    obtain ⟨n1, n2⟩ := List.nodup_cons.mp nd
    have e2 : (nf H s x).2 = if x ∈ H then s.2 + 1 else s.2 := rfl
    have fl : ((x :: ws).filter fun w => decide (w ∈ H)).length = (if x ∈ H then 1 else 0) + (ws.filter fun w => decide (w ∈ H)).length := by
      rw [List.filter_cons]
      by_cases c : x ∈ H
      · rw [if_pos (decide_eq_true c), if_pos c, List.length_cons]; omega
      · rw [if_neg (by simpa using c), if_neg c]; omega
    rw [fl]
    rcases List.mem_cons.mp hw with e | m
    · subst e
      rw [nf_first w ws s n1, e2]
      split <;> simp <;> omega
    · have ih := nf_ge ws (nf H s x) n2 w m
      rw [List.foldl_cons]
      rw [e2] at ih
      by_cases c : x ∈ H
      · rw [if_pos c] at ih ⊢
        simp
        omega
      · rw [if_neg c] at ih ⊢
        simp
        omega
theorem nf_same : ∀ (ws : List Int) (x : Int) (s : Dc Int Int × Int), ws.Nodup → Ch A H (x :: ws) → ∀ v ∈ ws, nn (ws.foldl (nf H) s).1 v = s.2 → po A x < po A v
  | y :: ws, x, s, nd, hc, v, hv, he => by
    obtain ⟨n1, n2⟩ := List.nodup_cons.mp nd
    obtain ⟨c1, c2⟩ := hc
    have e2 : (nf H s y).2 = if y ∈ H then s.2 + 1 else s.2 := rfl
    by_cases q : y ∈ H
    · rw [if_pos q] at e2
      exfalso
      rcases List.mem_cons.mp hv with e | m
      · subst e
        rw [nf_first v ws s n1, e2] at he
        omega
      · have := (nf_ge (H := H) ws (nf H s y) n2 v m).1
        rw [List.foldl_cons] at he
        omega
    · have p1 : po A x < po A y := c1.resolve_left q
      rcases List.mem_cons.mp hv with e | m
      · subst e; exact p1
      · rw [List.foldl_cons] at he
        rw [if_neg q] at e2
        have := nf_same ws y (nf H s y) n2 c2 v m (by rw [he, e2])
        omega
theorem nf_pw : ∀ (ws : List Int) (s : Dc Int Int × Int), ws.Nodup → Ch A H ws → ws.Pairwise (Sx A (nn (ws.foldl (nf H) s).1))
  | [], _, _, _ => .nil
  | x :: ws, s, nd, hc => by
    obtain ⟨n1, n2⟩ := List.nodup_cons.mp nd
    have c2 : Ch A H ws := by
      cases ws with
      | nil => exact trivial
      | cons y r => exact hc.2
    have ef := nf_first (H := H) x ws s n1
    refine List.pairwise_cons.mpr ⟨fun v hv => ?_, nf_pw ws (nf H s x) n2 c2⟩
    have g := (nf_ge (H := H) ws (nf H s x) n2 v hv).1
    unfold Sx
    rw [ef]
    rw [List.foldl_cons]
    by_cases q : (nf H s x).2 < nn (ws.foldl (nf H) (nf H s x)).1 v
    · exact .inl q
    · have he : nn (ws.foldl (nf H) (nf H s x)).1 v = (nf H s x).2 := by omega
      exact .inr ⟨he.symm, nf_same ws x (nf H s x) n2 hc v hv he⟩
end
theorem nodup_sub : ∀ {l m : List Int}, l.Nodup → (∀ x ∈ l, x ∈ m) → l.length ≤ m.length
  | [], _, _, _ => Nat.zero_le _
  | x :: l, m, nd, h => by
    obtain ⟨n1, n2⟩ := List.nodup_cons.mp nd
    have hx := h x List.mem_cons_self
    have := nodup_sub (l := l) (m := m.erase x) n2 fun y hy => (List.mem_erase_of_ne (fun e : y = x => n1 (by rw [← e]; exact hy))).mpr (h y (List.mem_cons_of_mem _ hy))
    rw [List.length_erase_of_mem hx] at this
    have := List.length_pos_of_mem hx
    rw [List.length_cons]
    omega
section
variable {A P : List Int}
theorem nn_pw (nd : A.Nodup) (hp : P.Perm A) : P.Pairwise (Sx A (nn (DD A P))) := nf_pw (A := A) P _ (hp.nodup_iff.mpr nd) (hd_ch (hp.nodup_iff.mpr nd) fun w hw => hp.mem_iff.mp hw)
theorem nn_bd (nd : A.Nodup) (hp : P.Perm A) : ∀ w ∈ P, 0 ≤ nn (DD A P) w ∧ nn (DD A P) w ≤ ((hd A P).length : Int) := fun w hw => by
  have h := nf_ge (H := hd A P) P (⟨[]⟩, 0) (hp.nodup_iff.mpr nd) w hw
  have l := nodup_sub (l := P.filter fun w => decide (w ∈ hd A P)) (m := hd A P) (List.Pairwise.filter _ (hp.nodup_iff.mpr nd)) fun x hx => by simpa using (List.mem_filter.mp hx).2
  have e : nn (P.foldl (nf (hd A P)) (⟨[]⟩, 0)).1 w = nn (DD A P) w := rfl
  rw [e] at h
  simp only at h
  omega
theorem dv_mono {K : Nat} (hK : 0 < K) : ∀ (t : Nat) {x y : Int}, x ≤ y → dv K t x ≤ dv K t y
  | 0, _, _, h => h
  | t + 1, _, _, h => Int.ediv_le_ediv (by omega) (dv_mono hK t h)
theorem dv_bd {K : Nat} (hK : 0 < K) {v : Int} : ∀ (t s : Nat), 0 ≤ v → v < (K : Int) ^ (t + s) → 0 ≤ dv K t v ∧ dv K t v < (K : Int) ^ s
  | 0, s, h0, h1 => by rw [Nat.zero_add] at h1; exact ⟨h0, h1⟩
  | t + 1, s, h0, h1 => by
    obtain ⟨a, b⟩ := dv_bd hK t (s + 1) h0 (by rw [show t + (s + 1) = t + 1 + s by omega]; exact h1)
    refine ⟨Int.ediv_nonneg a (by omega), Int.ediv_lt_of_lt_mul (by omega) ?_⟩
    rwa [Int.pow_succ] at b
def Rt (K : Nat) (A : List Int) (g : Int → Int) : Nat → Int → Int → Prop
  | 0, u, v => po A u < po A v
  | t + 1, u, v => dv K t (g u) % (K : Int) < dv K t (g v) % (K : Int) ∨ (dv K t (g u) % (K : Int) = dv K t (g v) % (K : Int) ∧ Rt K A g t u v)
theorem rt_end {K : Nat} (hK : 0 < K) {g : Int → Int} : ∀ (t : Nat) {u v : Int}, Rt K A g t u v → dv K t (g u) = dv K t (g v) → Sx A g u v
  | 0, u, v, h, e => .inr ⟨e, h⟩
  | t + 1, u, v, h, e => by
    have e : dv K t (g u) / (K : Int) = dv K t (g v) / (K : Int) := e
    have d1 := Int.mul_ediv_add_emod (dv K t (g u)) (K : Int)
    have d2 := Int.mul_ediv_add_emod (dv K t (g v)) (K : Int)
    rw [e] at d1
    rcases h with h | ⟨h1, h2⟩
    · refine .inl (Int.lt_of_not_ge fun q => ?_)
      have := dv_mono hK t q
      omega
    · exact rt_end hK t h2 (by omega)
theorem pst_ok {K : Nat} (hK : 0 < K) (nd : A.Nodup) (D : Dc Int Int) : ∀ t, (pst K D A t).1.Perm A ∧ (pst K D A t).1.Pairwise (Rt K A (nn D) t) ∧ rp K A (pst K D A t).2 = some (pst K D A t).1
  | 0 => by
    refine ⟨.refl _, ?_, rfl⟩
    show A.Pairwise _
    rw [List.pairwise_iff_getElem]
    intro i j hi hj hij
    show po A A[i] < po A A[j]
    rw [po_at nd hi, po_at nd hj]
    exact hij
  | t + 1 => by
    obtain ⟨h1, h2, h3⟩ := pst_ok hK nd D t
    have n1 := h1.nodup_iff.mpr nd
    refine ⟨(ap_perm _ n1).trans h1, ap_pw _ h2, ?_⟩
    have key : ∀ (rs : List (List Int)) (tr tr' r : List Int), rp K tr rs = some tr' → okRow K tr' r → rp K tr (rs ++ [r]) = some (ap tr' r) := by
      intro rs
      induction rs with
      | nil =>
        intro tr tr' r h ok
        injection h with h
        subst h
        show (if okRow K tr r then _ else _) = _
        rw [if_pos ok]
        rfl
      | cons x rs ih =>
        intro tr tr' r h ok
        rw [List.cons_append]
        unfold rp at h ⊢
        split at h
        · rename_i q
          rw [if_pos q]
          exact ih _ _ _ h ok
        · cases h
    refine key _ _ _ _ h3 ⟨by unfold trk; rw [List.length_map], fun x hx => ?_⟩
    unfold trk at hx
    obtain ⟨w, _, rfl⟩ := List.mem_map.mp hx
    exact ⟨Int.emod_nonneg _ (by omega), Int.emod_lt_of_pos _ (by omega)⟩
theorem pst_sorts {K : Nat} (hK : 0 < K) (nd : A.Nodup) (hp : P.Perm A) {p : Nat} (h : ((hd A P).length : Int) < (K : Int) ^ p) : rp K A (pst K (DD A P) A p).2 = some P := by
  obtain ⟨h1, h2, h3⟩ := pst_ok hK nd (DD A P) p
  rw [h3]
  congr 1
  have bd := nn_bd nd hp
  have z : ∀ w ∈ A, dv K p (nn (DD A P) w) = 0 := fun w hw => by
    have b := bd w (hp.mem_iff.mpr hw)
    have := dv_bd hK p 0 b.1 (by rw [Nat.add_zero]; omega)
    rw [Int.pow_zero] at this
    omega
  refine List.Perm.eq_of_pairwise (le := Sx A (nn (DD A P))) (fun a b _ _ s1 s2 => ?_) (List.Pairwise.imp_of_mem (fun {a b} ha hb s => rt_end hK p s (by rw [z a (h1.mem_iff.mp ha), z b (h1.mem_iff.mp hb)])) h2) (nn_pw nd hp) (h1.trans hp.symm)
  exfalso
  unfold Sx at s1 s2
  omega
end

theorem sk_runs : PyData.strOk ("runs" : Str) = true := by decide +kernel
theorem sk_tracks : PyData.strOk ("tracks" : Str) = true := by decide +kernel
theorem sk_track : PyData.strOk ("track" : Str) = true := by decide +kernel
theorem sk_heads : PyData.strOk ("heads" : Str) = true := by decide +kernel
theorem e_id (xs : List PyData) : (Enc.e xs : PyData) = .list xs := by
  show PyData.list (xs.map id) = _
  rw [List.map_id]
theorem wtt : decide (("tracks" : Str) = "tracks") = true := by decide +kernel
theorem wtr : ¬ decide (("tracks" : Str) = "runs") = true := by decide +kernel
theorem wrr : decide (("runs" : Str) = "runs") = true := by decide +kernel
theorem wrt : ¬ decide (("runs" : Str) = "tracks") = true := by decide +kernel
theorem wkt : ¬ decide (("track" : Str) = "tracks") = true := by decide +kernel
theorem wkr : ¬ decide (("track" : Str) = "runs") = true := by decide +kernel
theorem wht : ¬ decide (("heads" : Str) = "tracks") = true := by decide +kernel
theorem whr : ¬ decide (("heads" : Str) = "runs") = true := by decide +kernel
theorem sveq {a b : Str} (ha : PyData.strOk a = true) (hb : PyData.strOk b = true) : dB veq (Enc.e a) (Enc.e b) = .ok (decide (a = b)) := by
  show (veq (.str a) (.str b)).bind cBool = _
  rw [veq_str ha hb]; rfl
theorem svne {a b : Str} (ha : PyData.strOk a = true) (hb : PyData.strOk b = true) : dB vne (Enc.e a) (Enc.e b) = .ok (!decide (a = b)) := by
  show (vne (.str a) (.str b)).bind cBool = _
  rw [vne_str ha hb]; rfl
section
variable {A P : List Int} {K : Nat}
theorem judge_tracksT (hA : A.length ≤ 100) (p : Nat) (rs : List (List Int)) : t_judge_tracks A P (K : Int) (p : Int) rs = (if rs.length = p then match rp K A rs with | some t => teq t P | none => .ok false else .ok false) := by
  have key : ∀ (rs : List (List Int)) (tr : List Int), tr.length ≤ 100 → (forT (fun tracks train => t_judge_tracks_1 (K : Int) tracks train) rs tr : TR Bool Empty (List Int)) = match rp K tr rs with | some t => .nx t | none => .rt false := by
    intro rs
    induction rs with
    | nil => exact fun _ _ => rfl
    | cons r rs ih =>
      intro tr ht
      have tm := tmap_ok (f := fun track : Int => tchain tleI tltI (R.ok (0 : Int)) (R.ok track) (R.ok (K : Int))) (fun x => decide (0 ≤ x ∧ x < (K : Int))) (xs := r) (fun x _ => by
        simp only [tchain_ap, R.bind_ok, tleI_ap, tltI_ap]
        by_cases c : 0 ≤ x
        · simp [c]
        · simp [c])
      have ip : t_is_pass tr r (K : Int) = .ok (decide (okRow K tr r)) := by
        simp only [t_is_pass, b1_ap, b2_ap, R.bind_ok, tlen_ap, teq_int, tandB_ap]
        by_cases c : r.length = tr.length
        · have cz : (r.length : Int) = (tr.length : Int) := by omega
          rw [if_pos (decide_eq_true cz), tm]
          simp only [calm_okk, R.bind_ok, tallB_ap, R.tr_ok, TR.fn_rt]
          congr 1
          by_cases ok : okRow K tr r
          · rw [decide_eq_true ok, List.all_map, List.all_eq_true]
            intro x hx
            exact decide_eq_true (ok.2 x hx)
          · rw [decide_eq_false ok, Bool.eq_false_iff]
            intro q
            rw [List.all_map, List.all_eq_true] at q
            exact ok ⟨c, fun x hx => of_decide_eq_true (q x hx)⟩
        · have cz : ¬ (r.length : Int) = (tr.length : Int) := by omega
          rw [if_neg (by rw [decide_eq_false cz]; decide), R.tr_ok, TR.fn_rt, decide_eq_false (fun ok => c ok.1)]
      unfold rp
      by_cases ok : okRow K tr r
      · have st1 : t_judge_tracks_1 (K : Int) r tr = .nx (ap tr r) := by
          simp only [t_judge_tracks_1, b1_ap, b2_ap, b3_ap, R.bind_ok, ip, decide_eq_true ok, tid_ap, tnotB_ap, Bool.not_true, tite_ap, R.tr_ok, Bool.false_eq_true, if_false, after_passT ht ok.1]
        rw [forT_nx st1, ih _ (by rw [ap_len ok.1]; exact ht), if_pos ok]
      · have st1 : t_judge_tracks_1 (K : Int) r tr = .rt false := by
          simp only [t_judge_tracks_1, b1_ap, b2_ap, b3_ap, R.bind_ok, ip, decide_eq_false ok, tid_ap, tnotB_ap, Bool.not_false, tite_ap, R.tr_ok, if_true]
        rw [forT_rt st1, if_neg ok]
  have f := key rs A hA
  simp only [t_judge_tracks, b1_ap, b2_ap, R.bind_ok, tlen_ap, tne_int, tite_ap, R.tr_ok]
  by_cases c : rs.length = p
  · have c' : (rs.length : Int) = (p : Int) := by omega
    rw [decide_eq_true c', Bool.not_true, if_neg (by decide), if_pos c]
    erw [f]
    cases rp K A rs with
    | none => rfl
    | some t =>
      simp only [TR.bind_nx]
      cases teq t P <;> rfl
  · have c' : ¬ (rs.length : Int) = (p : Int) := by omega
    rw [decide_eq_false c', Bool.not_false, if_pos rfl, if_neg c, TR.fn_rt]
def accT (K : Nat) (A P : List Int) (p : Nat) (rs : List (List Int)) : Bool := decide (rs.length = p ∧ rp K A rs = some P)
theorem rp_len {K : Nat} : ∀ {rs : List (List Int)} {tr t : List Int}, rp K tr rs = some t → t.length = tr.length
  | [], _, _, h => by injection h with h; rw [h]
  | r :: rs, tr, t, h => by
    unfold rp at h
    split at h
    · rename_i ok
      rw [rp_len h, ap_len ok.1]
    · cases h
theorem judge_tracksT2 (hA : A.length ≤ 100) (hP : P.length ≤ 100) (p : Nat) (rs : List (List Int)) : t_judge_tracks A P (K : Int) (p : Int) rs = .ok (accT K A P p rs) := by
  rw [judge_tracksT hA]
  unfold accT
  by_cases c : rs.length = p
  · rw [if_pos c]
    cases h : rp K A rs with
    | none => simp [c]
    | some t =>
      simp only
      rw [teq_ok (ok_intsA (by rw [rp_len h]; omega)) (ok_intsA (by omega))]
      congr 1
      rw [Bool.eq_iff_iff]
      simp [c]
  · rw [if_neg c]
    simp [c]
theorem uq_nodup : ∀ {ns : List Int}, (uqI ns).length = ns.length ↔ ns.Nodup
  | [] => by simp [uqI]
  | a :: as => by
    have ih := uq_nodup (ns := as)
    have l := uqI_len as
    unfold uqI
    rw [List.nodup_cons]
    split
    · rename_i h
      rw [uqI_mem] at h
      simp only [List.length_cons]
      constructor
      · intro e; omega
      · intro e; exact absurd h e.1
    · rename_i h
      rw [uqI_mem] at h
      simp only [List.length_cons]
      rw [← ih]
      constructor
      · intro e; exact ⟨h, by omega⟩
      · intro e; omega
def accR (K : Nat) (A P : List Int) (p : Nat) (ws : List Int) : Bool := decide (ws.Nodup ∧ (∀ w ∈ ws, w ∈ hd A P) ∧ K ^ p ≤ ws.length)
theorem judge_runsT (hK : K < 2 ^ 70) (hA : A.length ≤ 100) (hp : P.Perm A) {p : Nat} (hp2 : p ≤ 30) {ws : List Int} (hw : ws.length ≤ 1000) : t_judge_runs A P (K : Int) (p : Int) ws = .ok (accR K A P p ws) := by
  have hl : P.length ≤ 100 := by rw [hp.length_eq]; exact hA
  have hh := hd_len A P
  have e1 : tstL ws = .ok ws := if_pos (by omega)
  have tm := tmap_ok (f := fun wagon : Int => b2 tin (R.ok wagon) (R.ok (hd A P))) (fun w => decide (w ∈ hd A P)) (xs := ws) (fun w _ => by simp only [b2_ap, R.bind_ok]; exact tinT (by omega) w)
  have pw := (powerT hK (p := p) (by omega)).1
  have pi := powI (K := K) (c := ws.length) (i := p)
  have un := uq_nodup (ns := ws)
  simp only [t_judge_runs, b1_ap, b2_ap, R.bind_ok, run_headsT hA hp, R.tr_ok, e1, tlenSt, tlen_ap, tne_int, torB_ap]
  simp only [b2_ap, R.bind_ok] at tm
  unfold accR
  by_cases c : ws.Nodup
  · have c' : ((uqI ws).length : Int) = (ws.length : Int) := by have := un.mpr c; omega
    rw [decide_eq_true c', Bool.not_true, if_neg (by decide)]
    erw [tm]
    simp only [calm_okk, R.bind_ok, tallB_ap, tid_ap, tnotB_ap, tite_ap, R.tr_ok, pw, tgeI_ap]
    by_cases d : ∀ w ∈ ws, w ∈ hd A P
    · have : (ws.map fun w => decide (w ∈ hd A P)).all id = true := by rw [List.all_map, List.all_eq_true]; simpa using d
      rw [this, Bool.not_true, if_neg (by decide), TR.fn_rt]
      congr 1
      rw [Bool.eq_iff_iff, decide_eq_true_iff, decide_eq_true_iff]
      constructor
      · intro q
        exact ⟨c, d, Classical.not_not.mp fun z => by have := pi.mpr z; omega⟩
      · intro q
        exact Int.not_lt.mp fun z => pi.mp z q.2.2
    · have : (ws.map fun w => decide (w ∈ hd A P)).all id = false := by
        rw [Bool.eq_false_iff]
        intro q
        rw [List.all_map, List.all_eq_true] at q
        exact d fun w hw => by simpa using q w hw
      rw [this, Bool.not_false, if_pos rfl, TR.fn_rt]
      congr 1
      rw [eq_comm, decide_eq_false_iff_not]
      exact fun q => d q.2.1
  · have c' : ¬ ((uqI ws).length : Int) = (ws.length : Int) := fun z => c (un.mp (by omega))
    rw [decide_eq_false c', Bool.not_false, if_pos rfl, tite_ap, R.tr_ok, if_pos rfl, TR.fn_rt]
    congr 1
    rw [eq_comm, decide_eq_false_iff_not]
    exact fun q => c q.1
end
inductive Pp | tr (rs : List (List Int)) | ru (ws : List Int) | tk (rs : List (List Int)) | he (ws : List Int)
def Pp.w : Pp → Str | .tr _ => "tracks" | .ru _ => "runs" | .tk _ => "track" | .he _ => "heads"
def Pp.x : Pp → PyData | .tr rs => Enc.e rs | .ru ws => Enc.e ws | .tk rs => Enc.e rs | .he ws => Enc.e ws
def Pp.d (q : Pp) : PyData := .tuple [.str q.w, q.x]
def Pp.ok : Pp → Prop | .tr rs => rs.length ≤ 100 | .ru ws => ws.length ≤ 1000 | .tk rs => rs.length ≤ 100 | .he ws => ws.length ≤ 1000
def Pp.acc (K : Nat) (A P : List Int) (p : Nat) : Pp → Bool
  | .tr rs => accT K A P p rs
  | .ru ws => accR K A P p ws
  | _ => false
section
variable {A P : List Int} {K : Nat} {p : Nat}
theorem Pp.skw (q : Pp) : PyData.strOk q.w = true := by
  cases q
  · exact sk_tracks
  · exact sk_runs
  · exact sk_track
  · exact sk_heads
theorem Pp.c2 (q : Pp) : cD2 q.d = .ok (Enc.e q.w, q.x) := rfl
theorem b5_ok {α β γ δ ε ζ : Type} (f : α → β → γ → δ → ε → R ζ) (a : α) (b : β) (c : γ) (d : δ) (e : ε) : b5 f (R.ok a) (R.ok b) (R.ok c) (R.ok d) (R.ok e) = f a b c d e := rfl
theorem judgeT (hK : K < 2 ^ 70) (hA : A.length ≤ 100) (hp : P.Perm A) (hp2 : p ≤ 30) (q : Pp) (hq : q.ok) : t_judge_passes A P (K : Int) (p : Int) q.d = .ok (q.acc K A P p) := by
  have hl : P.length ≤ 100 := by rw [hp.length_eq]; exact hA
  have s1 := sveq q.skw sk_tracks
  have s2 := sveq q.skw sk_runs
  simp only [t_judge_passes, R.tr_ok, q.c2, calm_okk, b1_ap, b2_ap, R.bind_ok, cUp_ap, s1, s2, tite_ap]
  cases q with
  | tr rs =>
    have e : (cDec (Enc.e rs) : R (List (List Int))) = .ok rs := cDec_e rs
    rw [if_pos (show decide ((Pp.tr rs).w = ("tracks" : Str)) = true from wtt)]
    show TR.fn ((b5 t_judge_tracks (R.ok A) (R.ok P) (R.ok (K : Int)) (R.ok (p : Int)) (cDec (Enc.e rs))).tr _) _ = _
    rw [e, b5_ok, judge_tracksT2 hA hl]
    rfl
  | ru ws =>
    have e : (cDec (Enc.e ws) : R (List Int)) = .ok ws := cDec_e ws
    rw [if_neg (show ¬ decide ((Pp.ru ws).w = ("tracks" : Str)) = true from wrt), if_pos (show decide ((Pp.ru ws).w = ("runs" : Str)) = true from wrr)]
    show TR.fn ((b5 t_judge_runs (R.ok A) (R.ok P) (R.ok (K : Int)) (R.ok (p : Int)) (cDec (Enc.e ws))).tr _) _ = _
    rw [e, b5_ok, judge_runsT hK hA hp hp2 hq]
    rfl
  | tk rs =>
    rw [if_neg (show ¬ decide ((Pp.tk rs).w = ("tracks" : Str)) = true from wkt), if_neg (show ¬ decide ((Pp.tk rs).w = ("runs" : Str)) = true from wkr)]
    rfl
  | he ws =>
    rw [if_neg (show ¬ decide ((Pp.he ws).w = ("tracks" : Str)) = true from wht), if_neg (show ¬ decide ((Pp.he ws).w = ("runs" : Str)) = true from whr)]
    rfl
theorem copiedT (q : Pp) : t_law_copied q.d = .ok q.d := by
  have s1 := sveq q.skw sk_tracks
  have sq : ∀ xs : List PyData, seqD (.list xs) = .ok xs := fun _ => rfl
  have fin : ∀ xs : List PyData, (Enc.e ((Enc.e q.w : PyData), xs) : PyData) = .tuple [.str q.w, .list xs] := fun xs => by
    show PyData.tuple [.str q.w, Enc.e xs] = _
    rw [e_id]
  simp only [t_law_copied, R.tr_ok, q.c2, calm_okk, b1_ap, b2_ap, R.bind_ok, cUp_ap, s1, tite_ap]
  have other : ∀ xs : List PyData, q.x = .list xs → (TR.fn (l := Empty) (σ := Unit) (((seqD q.x).bind fun b => mk2 (Enc.e q.w : PyData) b).tr fun r_ => TR.rt (Enc.e r_)) (fun _ => .stuck) : R PyData) = .ok q.d := fun xs hx => by
    rw [hx, sq, R.bind_ok, mk2_ap, R.tr_ok, TR.fn_rt, fin]
    unfold Pp.d
    rw [hx]
  cases hq : q with
  | tr rs =>
    subst hq
    rw [if_pos (show decide ((Pp.tr rs).w = ("tracks" : Str)) = true from wtt)]
    have e1 : seqD (Pp.tr rs).x = .ok (rs.map Enc.e) := rfl
    have tm : tmap (fun row : PyData => seqD row) (rs.map Enc.e) = .ok (rs.map fun r : List Int => r.map PyData.int) := by
      have := tmap_ok (f := fun row : PyData => seqD row) (fun d => match d with | .list xs => xs | _ => []) (xs := rs.map Enc.e) (fun d hd => by
        obtain ⟨r, _, rfl⟩ := List.mem_map.mp hd
        rfl)
      rw [this, List.map_map]
      rfl
    rw [e1, R.bind_ok]
    erw [tm]
    simp only [calm_okk, R.bind_ok, mk2_ap, R.tr_ok, TR.fn_rt]
    congr 1
    show PyData.tuple [.str "tracks", .list ((rs.map fun r : List Int => r.map PyData.int).map Enc.e)] = .tuple [.str "tracks", .list (rs.map Enc.e)]
    rw [List.map_map]
    congr 3
    refine congrArg PyData.list (List.map_congr_left fun r _ => ?_)
    show PyData.list ((r.map PyData.int).map id) = .list (r.map PyData.int)
    rw [List.map_id]
  | ru ws =>
    subst hq
    rw [if_neg (show ¬ decide ((Pp.ru ws).w = ("tracks" : Str)) = true from wrt)]
    exact other _ rfl
  | tk rs =>
    subst hq
    rw [if_neg (show ¬ decide ((Pp.tk rs).w = ("tracks" : Str)) = true from wkt)]
    exact other _ rfl
  | he ws =>
    subst hq
    rw [if_neg (show ¬ decide ((Pp.he ws).w = ("tracks" : Str)) = true from wht)]
    exact other _ rfl
theorem vlen_e {α : Type} [Enc α] (xs : List α) : b1 cInt (b1 (fun d => vlen [d]) (R.ok (Enc.e xs : PyData))) = .ok (xs.length : Int) := by
  show R.ok (((xs.map Enc.e).length : Nat) : Int) = _
  rw [List.length_map]
theorem acceptsT (hK0 : 0 < K) (hK : K < 2 ^ 70) (hA : A.length ≤ 100) (hp : P.Perm A) (hp2 : p ≤ 30) (q : Pp) (hq : q.ok) : t_law_accepts A P (K : Int) (p : Int) q.d = .ok (q.acc K A P p) := by
  have hl : P.length ≤ 100 := by rw [hp.length_eq]; exact hA
  have hh := hd_len A P
  have s1 := svne q.skw sk_tracks
  have s2 := sveq q.skw sk_runs
  have cu : ∀ w : Str, b1 cUp (R.ok w) = .ok (Enc.e w) := fun _ => rfl
  simp only [t_law_accepts, R.tr_ok, q.c2, calm_okk, b2_ap, R.bind_ok, law_headsT hA hp, cu, s2, tite_ap]
  cases q with
  | ru ws =>
    have hw : ws.length ≤ 1000 := hq
    rw [if_pos (show decide ((Pp.ru ws).w = ("runs" : Str)) = true from wrr)]
    have vl : b1 cInt (b1 (fun d => vlen [d]) (R.ok (Pp.ru ws).x)) = .ok (ws.length : Int) := vlen_e ws
    have tn : trange1 (ws.length : Int) = .ok (rangeI 0 ws.length) := trange1_nat (by omega)
    have nin : ∀ x : Int, dB vNotInX (Enc.e x) (Enc.e (hd A P)) = .ok (!decide (x ∈ hd A P)) := fun x => by
      have t := o_ninX (α := Int) (by decide) x (hd A P)
      rw [tnin_ok (show EqE.ok x from trivial) (ok_intsA (by omega))] at t
      rw [dB_ap, (show vNotInX (Enc.e x) (Enc.e (hd A P)) = .ok (Enc.e (!decide (x ∈ hd A P))) from t)]
      rfl
    have inx : ∀ (x : Int) (l : List Int), l.length ≤ 1000 → dB vInX (Enc.e x) (Enc.e l) = .ok (decide (x ∈ l)) := fun x l h => by
      have t := o_inX (α := Int) (by decide) x l
      rw [tin_ok (show EqE.ok x from trivial) (ok_intsA h)] at t
      rw [dB_ap, (show vInX (Enc.e x) (Enc.e l) = .ok (Enc.e (decide (x ∈ l))) from t)]
      rfl
    have f := forT_chk (l := Empty) (β := Bool) (f := fun j (_ : Unit) => t_law_accepts_1 (Pp.ru ws).x (hd A P) j) (fun j => !decide (ws.getD j.toNat 0 ∈ hd A P) || decide (ws.getD j.toNat 0 ∈ ws.take j.toNat)) false (s := ()) (xs := rangeI 0 ws.length) (fun j hj => by
      obtain ⟨i, hi, rfl⟩ := rangeI_mem.mp hj
      rw [Int.zero_add, Int.toNat_natCast]
      have g : vix (Pp.ru ws).x (Enc.e (i : Int)) = .ok (Enc.e (ws.getD i 0)) := by
        show vidx (.list (ws.map Enc.e)) (.int (i : Int)) = _
        rw [vidx_list (d := Enc.e (ws.getD i 0)) (by rw [List.getElem?_map, List.getElem?_eq_getElem hi, List.getD_eq_getElem?_getD, List.getElem?_eq_getElem hi]; rfl)]
      have cu : vcut (some 0) (some (i : Int)) (Pp.ru ws).x = .ok (Enc.e (ws.take i)) := by
        show R.ok (PyData.list (cutG (ws.map Enc.e) (some 0) (some (i : Int)))) = _
        rw [cut_map]
        have := cutG_mid ws 0 i
        rw [List.drop_zero, Nat.sub_zero] at this
        have z : ((0 : Nat) : Int) = 0 := rfl
        rw [z] at this
        rw [this]
        rfl
      have st : t_law_accepts_1 (Pp.ru ws).x (hd A P) (i : Int) = if (!decide (ws.getD i 0 ∈ hd A P) || decide (ws.getD i 0 ∈ ws.take i)) = true then .rt false else .nx () := by
        simp only [t_law_accepts_1, b1_ap, b2_ap, b3_ap, R.bind_ok, cUp_ap, g, nin, tpart_ap, cu, inx _ (ws.take i) (by rw [List.length_take]; omega), torB_ap]
        cases decide (ws.getD i 0 ∈ hd A P) <;> cases decide (ws.getD i 0 ∈ ws.take i) <;> rfl
      rw [st]
      exact ⟨fun h => if_pos h, fun h => .inl (if_neg (by rw [h]; decide))⟩)
    rw [vl]
    simp only [b1_ap, R.bind_ok, tn, R.tr_ok]
    erw [f]
    have pw := (powerT hK (p := p) (by omega)).2 (ws.length : Int)
    have pi := powI (K := K) (c := ws.length) (i := p)
    have key : ((rangeI 0 ws.length).any fun j => !decide (ws.getD j.toNat 0 ∈ hd A P) || decide (ws.getD j.toNat 0 ∈ ws.take j.toNat)) = false ↔ ws.Nodup ∧ ∀ w ∈ ws, w ∈ hd A P := by
      rw [List.any_eq_false]
      have at_ : ∀ i (hi : i < ws.length), ws.getD i 0 = ws[i] := fun i hi => by rw [List.getD_eq_getElem?_getD, List.getElem?_eq_getElem hi]; rfl
      constructor
      · intro h
        have h' : ∀ i (hi : i < ws.length), ws[i] ∈ hd A P ∧ ws[i] ∉ ws.take i := fun i hi => by
          have := h (i : Int) (rangeI_mem.mpr ⟨i, hi, by simp⟩)
          rw [Int.toNat_natCast, at_ i hi] at this
          simpa using this
        refine ⟨?_, fun w hw => ?_⟩
        · rw [List.Nodup, List.pairwise_iff_getElem]
          intro i j hi hj hij e
          refine (h' j hj).2 ?_
          rw [← e]
          exact List.mem_take_iff_getElem.mpr ⟨i, by omega, rfl⟩
        · obtain ⟨i, hi, rfl⟩ := List.getElem_of_mem hw
          exact (h' i hi).1
      · rintro ⟨nd, hs⟩ j hj
        obtain ⟨i, hi, rfl⟩ := rangeI_mem.mp hj
        rw [Int.zero_add, Int.toNat_natCast, at_ i hi]
        have n1 : ws[i] ∉ ws.take i := fun m => by
          obtain ⟨k, hk, e⟩ := List.mem_take_iff_getElem.mp m
          have := (List.getElem_inj nd).mp e
          omega
        simp [hs ws[i] (List.getElem_mem hi), n1]
    show _ = R.ok (accR K A P p ws)
    cases hc : ((rangeI 0 ws.length).any fun j => !decide (ws.getD j.toNat 0 ∈ hd A P) || decide (ws.getD j.toNat 0 ∈ ws.take j.toNat)) with
    | true =>
      rw [if_pos rfl]
      show R.ok false = _
      congr 1
      unfold accR
      rw [eq_comm, decide_eq_false_iff_not]
      intro z
      have := key.mpr ⟨z.1, z.2.1⟩
      rw [hc] at this
      cases this
    | false =>
      rw [if_neg (by decide)]
      obtain ⟨k1, k2⟩ := key.mp hc
      simp only [TR.bind_nx, b3_ap, R.bind_ok, pw, tnotB_ap, R.tr_ok, TR.fn_rt]
      congr 1
      unfold accR
      rw [Bool.eq_iff_iff, decide_eq_true_iff]
      simp only [Bool.not_eq_true', decide_eq_false_iff_not]
      constructor
      · intro z
        exact ⟨k1, k2, Classical.not_not.mp fun y => z (pi.mpr y)⟩
      · intro z y
        exact pi.mp y z.2.2
  | tr rs =>
    rw [if_neg (show ¬ decide ((Pp.tr rs).w = ("runs" : Str)) = true from wtr)]
    have vl : b1 cInt (b1 (fun d => vlen [d]) (R.ok (Pp.tr rs).x)) = .ok (rs.length : Int) := vlen_e rs
    have s1' : dB vne (Enc.e (Pp.tr rs).w) (Enc.e ("tracks" : Str)) = .ok false := by rw [s1, (show decide ((Pp.tr rs).w = ("tracks" : Str)) = true from wtt)]; rfl
    rw [vl]
    simp only [s1', torB_ap, Bool.false_eq_true, if_false, R.bind_ok, tne_int, R.tr_ok]
    show _ = R.ok (accT K A P p rs)
    by_cases c : rs.length = p
    · have c' : (rs.length : Int) = (p : Int) := by omega
      rw [decide_eq_true c', Bool.not_true, if_neg (by decide)]
      have key : ∀ (rs : List (List Int)) (tr : List Int), tr.length ≤ 100 → (forT (fun tracks train => t_law_accepts_3 (K : Int) tracks train) (rs.map Enc.e) tr : TR Bool Empty (List Int)) = match rp K tr rs with | some t => .nx t | none => .rt false := by
        intro rs
        induction rs with
        | nil => exact fun _ _ => rfl
        | cons r rs ih =>
          intro tr ht
          have vr : b1 cInt (b1 (fun d => vlen [d]) (R.ok (Enc.e r : PyData))) = .ok (r.length : Int) := vlen_e r
          have e1 : (cDec (Enc.e r) : R (List Int)) = .ok r := cDec_e r
          have e2 : seqD (Enc.e r) = .ok (r.map PyData.int) := rfl
          have tc := tcomp_ok (c := fun track : PyData => torB (b2 tltI (b1 cInt (R.ok track)) (R.ok (0 : Int))) (b2 tgeI (b1 cInt (R.ok track)) (R.ok (K : Int)))) (f := fun track : PyData => R.ok track) (fun d => match d with | .int x => decide (x < 0) || decide ((K : Int) ≤ x) | _ => false) (fun d => d) (xs := r.map PyData.int) (fun d hd => by
            obtain ⟨x, _, rfl⟩ := List.mem_map.mp hd
            refine ⟨?_, fun _ => rfl⟩
            simp only [b1_ap, b2_ap, R.bind_ok, cInt_ap, tltI_ap, tgeI_ap, torB_ap]
            cases decide (x < 0) <;> rfl)
          rw [List.map_id'] at tc
          have em : ((r.map PyData.int).filter fun d => match d with | .int x => decide (x < 0) || decide ((K : Int) ≤ x) | _ => false) = [] ↔ ∀ x ∈ r, 0 ≤ x ∧ x < (K : Int) := by
            rw [List.filter_eq_nil_iff]
            constructor
            · intro h x hx
              have := h (.int x) (List.mem_map_of_mem hx)
              simp at this
              omega
            · intro h d hd
              obtain ⟨x, hx, rfl⟩ := List.mem_map.mp hd
              have := h x hx
              simp
              omega
          rw [List.map_cons]
          unfold rp
          have body : ∀ bad : Bool, torB (R.ok (!decide ((r.length : Int) = (tr.length : Int)))) (b2 tgtI (b1 tlen ((b1 seqD (R.ok (Enc.e r : PyData))).bind fun xs_ => (tcomp (fun track : PyData => torB (b2 tltI (b1 cInt (R.ok track)) (R.ok (0 : Int))) (b2 tgeI (b1 cInt (R.ok track)) (R.ok (K : Int)))) (fun track : PyData => R.ok track) xs_).calm)) (R.ok (0 : Int))) = .ok bad → t_law_accepts_3 (K : Int) (Enc.e r) tr = if bad = true then .rt false else (t_law_after tr r).tr fun train => .nx train := fun bad h => by
            have h' : torB (b2 tne (b1 cInt (b1 (fun d => vlen [d]) (R.ok (Enc.e r : PyData)))) (b1 tlen (R.ok tr))) (b2 tgtI (b1 tlen ((b1 seqD (R.ok (Enc.e r : PyData))).bind fun xs_ => (tcomp (fun track : PyData => torB (b2 tltI (b1 cInt (R.ok track)) (R.ok (0 : Int))) (b2 tgeI (b1 cInt (R.ok track)) (R.ok (K : Int)))) (fun track : PyData => R.ok track) xs_).calm)) (R.ok (0 : Int))) = .ok bad := by
              rw [vr]
              simp only [b1_ap, b2_ap, R.bind_ok, tlen_ap, tne_int] at h ⊢
              exact h
            show tite _ _ _ = _
            rw [h', tite_ap, R.tr_ok]
            cases bad with
            | true => rfl
            | false =>
              simp only [Bool.false_eq_true, if_false, b1_ap, b2_ap, R.bind_ok, e1]
          by_cases ok : okRow K tr r
          · have hb := body false (by
              rw [decide_eq_true (by have := ok.1; omega), Bool.not_true]
              simp only [torB_ap, Bool.false_eq_true, if_false, b1_ap, e2, R.bind_ok]
              simp only [b1_ap] at tc
              erw [tc]
              rw [em.mpr ok.2]
              rfl)
            rw [if_neg (by decide), law_afterT ht ok.1, R.tr_ok] at hb
            rw [forT_nx hb, ih _ (by rw [ap_len ok.1]; exact ht), if_pos ok]
          · have hb := body true (by
              by_cases cl : r.length = tr.length
              · have ne : ¬ ((r.map PyData.int).filter fun d => match d with | .int x => decide (x < 0) || decide ((K : Int) ≤ x) | _ => false) = [] := fun z => ok ⟨cl, em.mp z⟩
                rw [decide_eq_true (by omega), Bool.not_true]
                simp only [torB_ap, Bool.false_eq_true, if_false, b1_ap, e2, R.bind_ok]
                simp only [b1_ap] at tc
                erw [tc]
                simp only [calm_okk, R.bind_ok, tlen_ap, b2_ap, tgtI_ap]
                congr 1
                rw [decide_eq_true_iff]
                have := List.length_pos_iff.mpr ne
                omega
              · rw [decide_eq_false (by omega)]
                rfl)
            rw [if_pos rfl] at hb
            rw [forT_rt hb, if_neg ok]
      have f := key rs A hA
      have e3 : b1 seqD (R.ok (Pp.tr rs).x) = .ok (rs.map Enc.e) := rfl
      rw [e3, R.tr_ok]
      erw [f]
      unfold accT
      cases h : rp K A rs with
      | none => simp [TR.fn]
      | some t =>
        simp only [TR.bind_nx]
        rw [teq_ok (ok_intsA (by rw [rp_len h]; omega)) (ok_intsA (by omega)), R.tr_ok, TR.fn_rt]
        congr 1
        rw [Bool.eq_iff_iff]
        simp [c]
    · have c' : ¬ (rs.length : Int) = (p : Int) := by omega
      rw [decide_eq_false c', Bool.not_false, if_pos rfl, TR.fn_rt]
      unfold accT
      simp [c]
  | tk rs =>
    rw [if_neg (show ¬ decide ((Pp.tk rs).w = ("runs" : Str)) = true from wkr)]
    have s1' : dB vne (Enc.e (Pp.tk rs).w) (Enc.e ("tracks" : Str)) = .ok true := by rw [s1, (show decide ((Pp.tk rs).w = ("tracks" : Str)) = false from Bool.eq_false_iff.mpr wkt)]; rfl
    simp only [s1', torB_ap, if_true, R.tr_ok]
    rfl
  | he ws =>
    rw [if_neg (show ¬ decide ((Pp.he ws).w = ("runs" : Str)) = true from whr)]
    have s1' : dB vne (Enc.e (Pp.he ws).w) (Enc.e ("tracks" : Str)) = .ok true := by rw [s1, (show decide ((Pp.he ws).w = ("tracks" : Str)) = false from Bool.eq_false_iff.mpr wht)]; rfl
    simp only [s1', torB_ap, if_true, R.tr_ok]
    rfl
end

section
variable {A P : List Int} {K : Nat} {p : Nat}
def ws1 (b : Bool) (w : Str) (l : List Str) : List Str := if b = true ∧ w ∉ l then l ++ [w] else l
theorem nit_in : dB vNotInT (Enc.e ("tracks" : Str)) (Enc.e (⟨["tracks", "runs"]⟩ : Tup Str)) = .ok false ∧ dB vNotInT (Enc.e ("runs" : Str)) (Enc.e (⟨["tracks", "runs"]⟩ : Tup Str)) = .ok false ∧ dB vNotInT (Enc.e ("track" : Str)) (Enc.e (⟨["tracks", "runs"]⟩ : Tup Str)) = .ok true ∧ dB vNotInT (Enc.e ("heads" : Str)) (Enc.e (⟨["tracks", "runs"]⟩ : Tup Str)) = .ok true := by
  have key : ∀ a : Str, PyData.strOk a = true → dB vNotInT (Enc.e a) (Enc.e (⟨["tracks", "runs"]⟩ : Tup Str)) = .ok (!decide (a ∈ (["tracks", "runs"] : List Str))) := fun a ha => by
    have t := o_ninV (α := Str) (by decide) a ⟨["tracks", "runs"]⟩
    rw [tninV_ap, tnin_ok ha ⟨by decide, fun x hx => by
      simp only [List.mem_cons, List.not_mem_nil, or_false] at hx
      rcases hx with rfl | rfl
      · exact sk_tracks
      · exact sk_runs⟩] at t
    rw [dB_ap, (show vNotInT (Enc.e a) (Enc.e (⟨["tracks", "runs"]⟩ : Tup Str)) = .ok (Enc.e (!decide (a ∈ (["tracks", "runs"] : List Str)))) from t)]
    rfl
  refine ⟨?_, ?_, ?_, ?_⟩
  · rw [key _ sk_tracks]; exact congrArg R.ok (by decide +kernel)
  · rw [key _ sk_runs]; exact congrArg R.ok (by decide +kernel)
  · rw [key _ sk_track]; exact congrArg R.ok (by decide +kernel)
  · rw [key _ sk_heads]; exact congrArg R.ok (by decide +kernel)
theorem Pp.nit (q : Pp) : ∃ b, dB vNotInT (Enc.e q.w) (Enc.e (⟨["tracks", "runs"]⟩ : Tup Str)) = .ok b := by
  cases q
  · exact ⟨_, nit_in.1⟩
  · exact ⟨_, nit_in.2.1⟩
  · exact ⟨_, nit_in.2.2.1⟩
  · exact ⟨_, nit_in.2.2.2⟩
theorem law1T (hK0 : 0 < K) (hK : K < 2 ^ 70) (hA : A.length ≤ 100) (hp : P.Perm A) (hp2 : p ≤ 30) (q : Pp) (hq : q.ok) {l : List Str} (hl : l.length ≤ 100) (hs : ∀ x ∈ l, PyData.strOk x = true) : t_law_1 A P (A, P) (K : Int) (p : Int) q.d l = .nx (ws1 (q.acc K A P p) q.w l) := by
  have cT := copiedT q
  have aT := acceptsT hK0 hK hA hp hp2 q hq
  have jT := judgeT hK hA hp hp2 q hq
  obtain ⟨b, nT⟩ := q.nit
  have v0 : vidx q.d (Enc.e (0 : Int)) = .ok (Enc.e q.w) := rfl
  have nl : dB vNotInX (Enc.e q.w) (Enc.e l) = .ok (!decide (q.w ∈ l)) := by
    have t := o_ninX (α := Str) (by decide) q.w l
    rw [tnin_ok q.skw ⟨by omega, hs⟩] at t
    rw [dB_ap, (show vNotInX (Enc.e q.w) (Enc.e l) = .ok (Enc.e (!decide (q.w ∈ l))) from t)]
    rfl
  have cs : cStr (Enc.e q.w) = .ok q.w := rfl
  have tn : ∀ x : Bool, tne x x = .ok false := fun x => tne_rfl trivial
  simp only [t_law_1, b1_ap, b2_ap, R.bind_ok, cT, R.tr_ok, v0, cUp_ap, tcons_ap, mkV_ap, nT, tite_ap]
  have e1 : (if b = true then (TR.nx q.d : TR Bool (List Str) PyData) else TR.nx q.d) = .nx q.d := by cases b <;> rfl
  rw [e1]
  simp only [TR.bind_nx, b5_ok, aT, R.tr_ok, pj_ap, R.bind_ok]
  rw [jT, R.tr_ok]
  simp only [tK_ap, R.bind_ok, tid_ap, tnotB_ap, Bool.not_true, torB_ap, Bool.false_eq_true, if_false, tn, R.tr_ok, tandB_ap, nl, cs]
  unfold ws1
  cases ha : q.acc K A P p with
  | false => simp
  | true =>
    by_cases m : q.w ∈ l
    · simp [m]
    · rw [if_pos rfl, if_pos ⟨rfl, m⟩, decide_eq_false m, Bool.not_false, R.tr_ok, if_pos rfl, tapp_ok (by omega)]
      rfl
theorem ws1_fold {w0 : Str} : ∀ (qs : List Pp) (l : List Str), (l = [] ∨ l = [w0]) → (∀ q ∈ qs, q.acc K A P p = true → q.w = w0) → ((l = [w0] ∨ ∃ q ∈ qs, q.acc K A P p = true) → qs.foldl (fun l q => ws1 (q.acc K A P p) q.w l) l = [w0])
  | [], l, _, _ => fun h => h.elim id fun ⟨_, m, _⟩ => nomatch m
  | q :: qs, l, hl, hq => fun h => by
    rw [List.foldl_cons]
    have st : ws1 (q.acc K A P p) q.w l = if q.acc K A P p = true then [w0] else l := by
      unfold ws1
      by_cases c : q.acc K A P p = true
      · rw [if_pos c, hq q List.mem_cons_self c]
        rcases hl with e | e
        · rw [e, if_pos ⟨c, by simp⟩]; rfl
        · rw [e, if_neg (fun z => z.2 (by simp))]
      · rw [if_neg c, if_neg (fun z => c z.1)]
    rw [st]
    refine ws1_fold qs _ ?_ (fun r hr => hq r (List.mem_cons_of_mem _ hr)) ?_
    · split
      · exact .inr rfl
      · exact hl
    · split
      · exact .inl rfl
      · rename_i c
        rcases h with e | ⟨r, m, e⟩
        · exact .inl e
        · rcases List.mem_cons.mp m with z | z
          · subst z; exact absurd e c
          · exact .inr ⟨r, z, e⟩
theorem law1F (hK0 : 0 < K) (hK : K < 2 ^ 70) (hA : A.length ≤ 100) (hp : P.Perm A) (hp2 : p ≤ 30) : ∀ (qs : List Pp) (l : List Str), (∀ q ∈ qs, q.ok) → l.length + qs.length ≤ 100 → (∀ x ∈ l, PyData.strOk x = true) → (forT (fun paper words => t_law_1 A P (A, P) (K : Int) (p : Int) paper words) (qs.map Pp.d) l : TR Bool Unit (List Str)) = .nx (qs.foldl (fun l q => ws1 (q.acc K A P p) q.w l) l)
  | [], _, _, _, _ => rfl
  | q :: qs, l, hq, hl, hs => by
    rw [List.length_cons] at hl
    rw [List.map_cons, forT_nx (law1T hK0 hK hA hp hp2 q (hq q List.mem_cons_self) (by omega) hs), List.foldl_cons]
    refine law1F hK0 hK hA hp hp2 qs _ (fun r hr => hq r (List.mem_cons_of_mem _ hr)) ?_ ?_
    · unfold ws1
      split
      · rw [List.length_append, List.length_singleton]; omega
      · omega
    · unfold ws1
      split
      · intro x hx
        rcases List.mem_append.mp hx with m | m
        · exact hs x m
        · rw [List.mem_singleton.mp m]; exact q.skw
      · exact hs
theorem mapd {α : Type} [Enc α] (w : Str) (f : α → Pp) (hf : ∀ a, (f a).d = Enc.e ((w, a) : Str × α)) (xs : List α) : (tmap cUp (xs.map fun a => (w, a)) : R (List PyData)) = .ok (xs.map fun a => (f a).d) := by
  rw [show (tmap cUp (xs.map fun a => (w, a)) : R (List PyData)) = .ok ((xs.map fun a => (w, a)).map Enc.e) from tmap_ok Enc.e fun _ _ => rfl, List.map_map]
  congr 1
  exact List.map_congr_left fun a _ => (hf a).symm
theorem tr_d (rs : List (List Int)) : (Pp.tr rs).d = Enc.e ((("tracks" : Str), rs) : Str × List (List Int)) := rfl
theorem ru_d (ws : List Int) : (Pp.ru ws).d = Enc.e ((("runs" : Str), ws) : Str × List Int) := rfl
theorem tracks_papersT {ls : List (List Int)} {c : Nat} {picks : List Int} (hK0 : 0 < K) (hl : ls.length = p) (hp2 : p ≤ 30) (hr : ∀ r ∈ ls, r.length = c) (hc : c ≤ 100) (hd : Dr 7 20160 picks) : ∃ qs : List (List (List Int)), t_law_tracks_papers ls (K : Int) (p : Int) (c : Int) picks = .ok (qs.map fun rs => (Pp.tr rs).d) ∧ qs.length ≤ 50 ∧ ∀ rs ∈ qs, rs.length ≤ 100 := by
  have tn : trange1 (c : Int) = .ok (rangeI 0 c) := trange1_nat (by omega)
  have t0 : tmap (fun _ : Int => R.ok (0 : Int)) (rangeI 0 c) = .ok ((rangeI 0 c).map fun _ => 0) := tmap_ok _ fun _ _ => rfl
  have t1 : tmap (fun row : List Int => R.ok row) ls.reverse = .ok ls.reverse := by
    have := tmap_ok (f := fun row : List Int => R.ok row) (fun r => r) (xs := ls.reverse) fun _ _ => rfl
    rwa [List.map_id'] at this
  have a1 : taddL ls [(rangeI 0 c).map fun _ => (0 : Int)] = .ok (ls ++ [(rangeI 0 c).map fun _ => 0]) := taddL_ok (by simp; omega)
  have c1 : cutG ls (some (1 : Int)) none = ls.drop 1 := cutG_from ls 1
  have md : ∀ xs : List (List (List Int)), ((R.ok xs).bind fun xs_ => (tmap (fun rows : List (List Int) => b2 mk2 (R.ok ("tracks" : Str)) (R.ok rows)) xs_).calm) = .ok (xs.map fun a => (("tracks" : Str), a)) := fun xs => by
    rw [R.bind_ok, show tmap (fun rows : List (List Int) => b2 mk2 (R.ok ("tracks" : Str)) (R.ok rows)) xs = _ from tmap_ok (fun a => (("tracks" : Str), a)) fun _ _ => rfl]
    rfl
  let F0 : List (List (List Int)) := [ls, ls ++ [(rangeI 0 c).map fun _ => 0], ls.drop 1, [], ls.reverse]
  have f0 : ∀ rs ∈ F0, rs.length ≤ 100 := fun rs h => by
    simp only [F0, List.mem_cons, List.not_mem_nil, or_false] at h
    rcases h with rfl | rfl | rfl | rfl | rfl <;> first | omega | (simp; done) | (simp; omega)
  have i0 : ∃ d0, tidx picks (0 : Int) = .ok d0 ∧ 0 ≤ d0 := by obtain ⟨d, e, h, _⟩ := hd.ix 0; exact ⟨d, e, h⟩
  have i1 : ∃ d0, tidx picks (1 : Int) = .ok d0 ∧ 0 ≤ d0 := by obtain ⟨d, e, h, _⟩ := hd.ix 1; exact ⟨d, e, h⟩
  have i2 : ∃ d0, tidx picks (2 : Int) = .ok d0 ∧ 0 ≤ d0 := by obtain ⟨d, e, h, _⟩ := hd.ix 2; exact ⟨d, e, h⟩
  obtain ⟨d0, i0, _⟩ := i0
  obtain ⟨d1, i1, _⟩ := i1
  obtain ⟨d2, i2, _⟩ := i2
  have main : ∃ F : List (List (List Int)), (tite (b2 tgtI (R.ok (p : Int)) (R.ok (0 : Int))) ((b2 tmodI (b2 tidx (R.ok picks) (R.ok (0 : Int))) (b1 tlen (R.ok ls))).tr fun turn => ((b2 tidx (R.ok ls) (R.ok turn)).tr fun row => ((tcons (b3 tcut (R.ok row) (b1 tpart (R.ok (1 : Int))) (R.ok none)) (tcons (b2 taddL (R.ok row) (tcons (R.ok (0 : Int)) (R.ok ([] : List Int)))) (R.ok ([] : List (List Int))))).tr fun others => (TR.bind (σ := (List (List Int))) (tite (b2 tgtI (R.ok (c : Int)) (R.ok (0 : Int))) ((b2 tmodI (b2 tidx (R.ok picks) (R.ok (1 : Int))) (R.ok (c : Int))).tr fun at_ => ((tcons (b2 tmodI (b2 tidx (R.ok picks) (R.ok (2 : Int))) (R.ok (K : Int))) (tcons (b2 tsubI (R.ok (K : Int)) (R.ok (1 : Int))) (tcons (R.ok (K : Int)) (tcons (b1 tnegI (R.ok (1 : Int))) (R.ok ([] : List Int)))))).tr fun xs_ => (forT (fun track others => t_law_tracks_papers_3 row at_ track others) xs_ others).bind fun others => (TR.nx others))) (TR.nx others)) fun others => ((R.ok others).tr fun xs_ => (forT (fun other found => t_law_tracks_papers_4 ls turn other found) xs_ F0).bind fun found => (TR.nx found)))))) (TR.nx F0) : TR (List PyData) Empty (List (List (List Int)))) = .nx F ∧ F.length ≤ 50 ∧ ∀ rs ∈ F, rs.length ≤ 100 := by
    by_cases hp0 : 0 < p
    · obtain ⟨turn, ht⟩ : ∃ turn : Nat, d0 % (p : Int) = (turn : Int) := ⟨(d0 % (p : Int)).toNat, by have := Int.emod_nonneg d0 (show (p : Int) ≠ 0 by omega); omega⟩
      have tlt : turn < p := by have := Int.emod_lt_of_pos d0 (show (0 : Int) < (p : Int) by omega); omega
      obtain ⟨row, er, mr⟩ : ∃ row, tidx ls (turn : Int) = .ok row ∧ row ∈ ls := ⟨_, tidx_lt (by omega), List.getElem_mem (by omega)⟩
      have rl := hr row mr
      have cr : cutG row (some (1 : Int)) none = row.drop 1 := cutG_from row 1
      have ar : taddL row [(0 : Int)] = .ok (row ++ [0]) := taddL_ok (by simp; omega)
      obtain ⟨O, eO, lO⟩ : ∃ O : List (List Int), (tite (b2 tgtI (R.ok (c : Int)) (R.ok (0 : Int))) ((b2 tmodI (b2 tidx (R.ok picks) (R.ok (1 : Int))) (R.ok (c : Int))).tr fun at_ => ((tcons (b2 tmodI (b2 tidx (R.ok picks) (R.ok (2 : Int))) (R.ok (K : Int))) (tcons (b2 tsubI (R.ok (K : Int)) (R.ok (1 : Int))) (tcons (R.ok (K : Int)) (tcons (b1 tnegI (R.ok (1 : Int))) (R.ok ([] : List Int)))))).tr fun xs_ => (forT (fun track others => t_law_tracks_papers_3 row at_ track others) xs_ [row.drop 1, row ++ [0]]).bind fun others => (TR.nx others))) (TR.nx [row.drop 1, row ++ [0]]) : TR (List PyData) Empty (List (List Int))) = .nx O ∧ O.length ≤ 10 := by
        by_cases hc0 : 0 < c
        · obtain ⟨at_, ha⟩ : ∃ a : Nat, d1 % (c : Int) = (a : Int) := ⟨(d1 % (c : Int)).toNat, by have := Int.emod_nonneg d1 (show (c : Int) ≠ 0 by omega); omega⟩
          have alt : at_ < c := by have := Int.emod_lt_of_pos d1 (show (0 : Int) < (c : Int) by omega); omega
          have st : ∀ (x : Int) (s : List (List Int)), s.length ≤ 100 → t_law_tracks_papers_3 row (at_ : Int) x s = .nx (s ++ [row.take at_ ++ [x] ++ row.drop (at_ + 1)]) := fun x s hs => by
            have e1 : cutG row (some (0 : Int)) (some (at_ : Int)) = row.take at_ := by
              have := cutG_mid row 0 at_
              simpa using this
            have e2 : cutG row (some ((at_ : Int) + 1)) none = row.drop (at_ + 1) := cutG_from row (at_ + 1)
            simp only [t_law_tracks_papers_3, b1_ap, b2_ap, b3_ap, tpart_ap, R.bind_ok, tcut_ap, taddI_ap, e1, e2, tcons_ap]
            rw [taddL_ok (by simp; omega), R.bind_ok, taddL_ok (by simp; omega), R.tr_ok, tapp_ok (by omega), R.tr_ok]
          refine ⟨[row.drop 1, row ++ [0]] ++ [row.take at_ ++ [d2 % (K : Int)] ++ row.drop (at_ + 1)] ++ [row.take at_ ++ [(K : Int) - 1] ++ row.drop (at_ + 1)] ++ [row.take at_ ++ [(K : Int)] ++ row.drop (at_ + 1)] ++ [row.take at_ ++ [-1] ++ row.drop (at_ + 1)], ?_, ?_⟩
          · have cz : (0 : Int) < (c : Int) := by omega
            simp only [b1_ap, b2_ap, R.bind_ok, tgtI_ap, decide_eq_true cz, tite_ap, R.tr_ok, if_true, i1, tmodI_pos cz, ha, i2, tmodI_pos (show (0 : Int) < (K : Int) by omega), tsubI_ap, tnegI_ap, tcons_ap]
            rw [forT_nx (st _ _ (by simp)), forT_nx (st _ _ (by simp)), forT_nx (st _ _ (by simp)), forT_nx (st _ _ (by simp))]
            rfl
          · simp
        · have cz : ¬ (0 : Int) < (c : Int) := by omega
          exact ⟨[row.drop 1, row ++ [0]], by simp only [b2_ap, R.bind_ok, tgtI_ap, decide_eq_false cz, tite_ap, R.tr_ok, Bool.false_eq_true, if_false], by simp⟩
      have st4 : ∀ (o : List Int) (s : List (List (List Int))), s.length ≤ 100 → t_law_tracks_papers_4 ls (turn : Int) o s = .nx (s ++ [ls.take turn ++ [o] ++ ls.drop (turn + 1)]) := fun o s hs => by
        have e1 : cutG ls (some (0 : Int)) (some (turn : Int)) = ls.take turn := by
          have := cutG_mid ls 0 turn
          simpa using this
        have e2 : cutG ls (some ((turn : Int) + 1)) none = ls.drop (turn + 1) := cutG_from ls (turn + 1)
        simp only [t_law_tracks_papers_4, b1_ap, b2_ap, b3_ap, tpart_ap, R.bind_ok, tcut_ap, taddI_ap, e1, e2, tcons_ap]
        rw [taddL_ok (by simp; omega), R.bind_ok, taddL_ok (by simp; omega), R.tr_ok, tapp_ok (by omega), R.tr_ok]
      have fO : ∀ (O : List (List Int)) (s : List (List (List Int))), s.length + O.length ≤ 50 → (∀ rs ∈ s, rs.length ≤ 100) → ∃ F, (forT (fun other found => t_law_tracks_papers_4 ls (turn : Int) other found) O s : TR (List PyData) Empty (List (List (List Int)))) = .nx F ∧ F.length ≤ 50 ∧ ∀ rs ∈ F, rs.length ≤ 100 := by
        intro O
        induction O with
        | nil => exact fun s h1 h2 => ⟨s, rfl, by simpa using h1, h2⟩
        | cons o O ih =>
          intro s h1 h2
          rw [List.length_cons] at h1
          rw [forT_nx (st4 o s (by omega))]
          refine ih _ (by rw [List.length_append, List.length_singleton]; omega) fun rs hrs => ?_
          rcases List.mem_append.mp hrs with m | m
          · exact h2 rs m
          · rw [List.mem_singleton] at m
            subst m
            simp
            omega
      obtain ⟨F, eF, l1, l2⟩ := fO O F0 (by simp [F0]; omega) f0
      refine ⟨F, ?_, l1, l2⟩
      have pz : (0 : Int) < (p : Int) := by omega
      have pz2 : (0 : Int) < (ls.length : Int) := by omega
      have ht' : d0 % (ls.length : Int) = (turn : Int) := by rw [hl]; exact ht
      rw [show b2 tgtI (R.ok (p : Int)) (R.ok (0 : Int)) = .ok true from congrArg R.ok (decide_eq_true pz), tite_ap, R.tr_ok, if_pos rfl]
      rw [show b2 tmodI (b2 tidx (R.ok picks) (R.ok (0 : Int))) (b1 tlen (R.ok ls)) = .ok (turn : Int) from by simp only [b1_ap, b2_ap, R.bind_ok, i0, tlen_ap, tmodI_pos pz2, ht'], R.tr_ok]
      rw [show b2 tidx (R.ok ls) (R.ok (turn : Int)) = .ok row from er, R.tr_ok]
      rw [show tcons (b3 tcut (R.ok row) (b1 tpart (R.ok (1 : Int))) (R.ok none)) (tcons (b2 taddL (R.ok row) (tcons (R.ok (0 : Int)) (R.ok ([] : List Int)))) (R.ok ([] : List (List Int)))) = .ok [row.drop 1, row ++ [0]] from by simp only [b1_ap, b2_ap, b3_ap, R.bind_ok, tpart_ap, tcut_ap, cr, tcons_ap, ar], R.tr_ok]
      rw [eO]
      simp only [TR.bind_nx, R.tr_ok]
      rw [eF]
      rfl
    · have pz : ¬ (0 : Int) < (p : Int) := by omega
      refine ⟨F0, ?_, by simp [F0], f0⟩
      rw [show b2 tgtI (R.ok (p : Int)) (R.ok (0 : Int)) = .ok false from congrArg R.ok (decide_eq_false pz), tite_ap, R.tr_ok, if_neg (by decide)]
  obtain ⟨F, eF, l1, l2⟩ := main
  refine ⟨F, ?_, l1, l2⟩
  have md2 := mapd ("tracks" : Str) Pp.tr tr_d F
  unfold t_law_tracks_papers
  rw [show tcons (R.ok ls) (tcons (b2 taddL (R.ok ls) (tcons ((b1 trange1 (R.ok (c : Int))).bind fun xs_ => (tmap (fun j : Int => (R.ok (0 : Int))) xs_).calm) (R.ok ([] : List (List Int))))) (tcons (b3 tcut (R.ok ls) (b1 tpart (R.ok (1 : Int))) (R.ok none)) (tcons (R.ok ([] : List (List Int))) (tcons ((b1 trev (R.ok ls)).bind fun xs_ => (tmap (fun row : List Int => (R.ok row)) xs_).calm) (R.ok ([] : List (List (List Int)))))))) = .ok F0 from by
    simp only [b1_ap, b2_ap, b3_ap, R.bind_ok, tn, t0, calm_okk, tcons_ap, a1, tpart_ap, tcut_ap, c1, trev_ap, t1]
    rfl]
  rw [R.tr_ok, eF]
  simp only [TR.bind_nx]
  rw [md, b1_ap, R.bind_ok, md2]
  rfl
theorem runs_papersT {H A : List Int} {picks : List Int} (hH : H.length ≤ 100) (hA : A.length ≤ 100) (hd : Dr 7 20160 picks) : ∃ qs : List (List Int), t_law_runs_papers H A picks = .ok (qs.map fun ws => (Pp.ru ws).d) ∧ qs.length ≤ 20 ∧ ∀ ws ∈ qs, ws.length ≤ 1000 := by
  have tn : trange1 (H.length : Int) = .ok (rangeI 0 H.length) := trange1_nat (by omega)
  have c1 : cutG H (some (1 : Int)) none = H.drop 1 := cutG_from H 1
  have c0 : cutG H (some (0 : Int)) (some (1 : Int)) = H.take 1 := cutG_mid H 0 1
  have p30 : tpowI 10 30 = .ok (1000000000000000000000000000000 : Int) := tpowI_ok (by decide)
  have a0 : taddL H (H.take 1) = .ok (H ++ H.take 1) := taddL_ok (by simp; omega)
  have a1 : ∀ x : Int, taddL H [x] = .ok (H ++ [x]) := fun x => taddL_ok (by simp; omega)
  obtain ⟨rv, er, lr⟩ : ∃ rv : List Int, tmap (fun j : Int => b2 tidx (R.ok H) (b2 tsubI (b2 tsubI (b1 tlen (R.ok H)) (R.ok (1 : Int))) (R.ok j))) (rangeI 0 H.length) = .ok rv ∧ rv.length = H.length := by
    have := tmap_ex (f := fun j : Int => b2 tidx (R.ok H) (b2 tsubI (b2 tsubI (b1 tlen (R.ok H)) (R.ok (1 : Int))) (R.ok j))) (fun _ => True) (xs := rangeI 0 H.length) (fun j hj => by
      obtain ⟨i, hi, rfl⟩ := rangeI_mem.mp hj
      rw [Int.zero_add]
      refine ⟨H[H.length - 1 - i], ?_, trivial⟩
      simp only [b1_ap, b2_ap, R.bind_ok, tlen_ap, tsubI_ap]
      exact tidx_of (k := H.length - 1 - i) (by omega) (List.getElem?_eq_getElem (by omega)))
    obtain ⟨ys, e, l, _⟩ := this
    exact ⟨ys, e, by rw [l, rangeI_len]⟩
  obtain ⟨d3, i3, _, _⟩ := hd.ix 3
  obtain ⟨d4, i4, _, _⟩ := hd.ix 4
  let F0 : List (List Int) := [H, [], H ++ H.take 1, H.drop 1, rv, H ++ [1000000000000000000000000000000], A]
  have f0 : ∀ ws ∈ F0, ws.length ≤ 1000 := fun ws h => by
    simp only [F0, List.mem_cons, List.not_mem_nil, or_false] at h
    rcases h with rfl | rfl | rfl | rfl | rfl | rfl | rfl <;> first | omega | (simp; done) | (simp; omega)
  obtain ⟨F, eF, l1, l2⟩ : ∃ F : List (List Int), (tite (b2 tgtI (b1 tlen (R.ok A)) (R.ok (0 : Int))) ((b2 tmodI (b2 tidx (R.ok picks) (R.ok (3 : Int))) (b2 taddI (b1 tlen (R.ok H)) (R.ok (1 : Int)))).tr fun at_ => ((b2 taddL (b2 taddL (b3 tcut (R.ok H) (b1 tpart (R.ok (0 : Int))) (b1 tpart (R.ok at_))) (tcons (b2 tidx (R.ok A) (b2 tmodI (b2 tidx (R.ok picks) (R.ok (4 : Int))) (b1 tlen (R.ok A)))) (R.ok ([] : List Int)))) (b3 tcut (R.ok H) (b1 tpart (b2 taddI (R.ok at_) (R.ok (1 : Int)))) (R.ok none))).tr fun a_ => (tapp F0 a_).tr fun found => (TR.nx found))) (TR.nx F0) : TR (List PyData) Empty (List (List Int))) = .nx F ∧ F.length ≤ 20 ∧ ∀ ws ∈ F, ws.length ≤ 1000 := by
    by_cases c : 0 < A.length
    · have cz : (0 : Int) < (A.length : Int) := by omega
      have hz : (0 : Int) < (H.length : Int) + 1 := by omega
      obtain ⟨at_, ha⟩ : ∃ a : Nat, d3 % ((H.length : Int) + 1) = (a : Int) := ⟨(d3 % ((H.length : Int) + 1)).toNat, by have := Int.emod_nonneg d3 (show (H.length : Int) + 1 ≠ 0 by omega); omega⟩
      obtain ⟨k, hk⟩ : ∃ a : Nat, d4 % (A.length : Int) = (a : Int) := ⟨(d4 % (A.length : Int)).toNat, by have := Int.emod_nonneg d4 (show (A.length : Int) ≠ 0 by omega); omega⟩
      have klt : k < A.length := by have := Int.emod_lt_of_pos d4 cz; omega
      have e1 : cutG H (some (0 : Int)) (some (at_ : Int)) = H.take at_ := by
        have := cutG_mid H 0 at_
        simpa using this
      have e2 : cutG H (some ((at_ : Int) + 1)) none = H.drop (at_ + 1) := cutG_from H (at_ + 1)
      refine ⟨F0 ++ [H.take at_ ++ [A[k]] ++ H.drop (at_ + 1)], ?_, by simp [F0], fun ws h => ?_⟩
      · simp only [b1_ap, b2_ap, b3_ap, R.bind_ok, tlen_ap, tgtI_ap, decide_eq_true cz, tite_ap, R.tr_ok, if_true, i3, taddI_ap, tmodI_pos hz, ha, tpart_ap, tcut_ap, e1, e2, i4, tmodI_pos cz, hk, tidx_lt klt, tcons_ap]
        rw [taddL_ok (by simp; omega), R.bind_ok, taddL_ok (by simp; omega), R.tr_ok, tapp_ok (by simp [F0]), R.tr_ok]
      · rcases List.mem_append.mp h with m | m
        · exact f0 ws m
        · rw [List.mem_singleton] at m
          subst m
          simp
          omega
    · have cz : ¬ (0 : Int) < (A.length : Int) := by omega
      exact ⟨F0, by simp only [b1_ap, b2_ap, R.bind_ok, tlen_ap, tgtI_ap, decide_eq_false cz, tite_ap, R.tr_ok, Bool.false_eq_true, if_false], by simp [F0], f0⟩
  refine ⟨F, ?_, l1, l2⟩
  have md2 := mapd ("runs" : Str) Pp.ru ru_d F
  have md : ((R.ok F).bind fun xs_ => (tmap (fun rows : List Int => b2 mk2 (R.ok ("runs" : Str)) (R.ok rows)) xs_).calm) = .ok (F.map fun a => (("runs" : Str), a)) := by
    rw [R.bind_ok, show tmap (fun rows : List Int => b2 mk2 (R.ok ("runs" : Str)) (R.ok rows)) F = _ from tmap_ok (fun a => (("runs" : Str), a)) fun _ _ => rfl]
    rfl
  unfold t_law_runs_papers
  rw [show tcons (R.ok H) (tcons (R.ok ([] : List Int)) (tcons (b2 taddL (R.ok H) (b3 tcut (R.ok H) (b1 tpart (R.ok (0 : Int))) (b1 tpart (R.ok (1 : Int))))) (tcons (b3 tcut (R.ok H) (b1 tpart (R.ok (1 : Int))) (R.ok none)) (tcons ((b1 trange1 (b1 tlen (R.ok H))).bind fun xs_ => (tmap (fun j : Int => (b2 tidx (R.ok H) (b2 tsubI (b2 tsubI (b1 tlen (R.ok H)) (R.ok (1 : Int))) (R.ok j)))) xs_).calm) (R.ok ([] : List (List Int))))))) = .ok [H, [], H ++ H.take 1, H.drop 1, rv] from by
    have e1 : (b1 trange1 (b1 tlen (R.ok H))) = .ok (rangeI 0 H.length) := by simp only [b1_ap, R.bind_ok, tlen_ap, tn]
    rw [e1, R.bind_ok, er]
    simp only [b1_ap, b2_ap, b3_ap, R.bind_ok, calm_okk, tcons_ap, tpart_ap, tcut_ap, c0, c1, a0]]
  rw [R.tr_ok, show b2 taddL (R.ok H) (tcons (b2 tpowI (R.ok (10 : Int)) (R.ok (30 : Int))) (R.ok ([] : List Int))) = .ok (H ++ [1000000000000000000000000000000]) from by simp only [b2_ap, R.bind_ok, p30, tcons_ap, a1]]
  rw [R.tr_ok, tapp_ok (by simp), R.tr_ok, R.tr_ok, tapp_ok (by simp), R.tr_ok]
  have eF' : (tite (b2 tgtI (b1 tlen (R.ok A)) (R.ok (0 : Int))) ((b2 tmodI (b2 tidx (R.ok picks) (R.ok (3 : Int))) (b2 taddI (b1 tlen (R.ok H)) (R.ok (1 : Int)))).tr fun at_ => ((b2 taddL (b2 taddL (b3 tcut (R.ok H) (b1 tpart (R.ok (0 : Int))) (b1 tpart (R.ok at_))) (tcons (b2 tidx (R.ok A) (b2 tmodI (b2 tidx (R.ok picks) (R.ok (4 : Int))) (b1 tlen (R.ok A)))) (R.ok ([] : List Int)))) (b3 tcut (R.ok H) (b1 tpart (b2 taddI (R.ok at_) (R.ok (1 : Int)))) (R.ok none))).tr fun a_ => (tapp ([H, [], H ++ H.take 1, H.drop 1, rv] ++ [H ++ [1000000000000000000000000000000]] ++ [A]) a_).tr fun found => (TR.nx found))) (TR.nx ([H, [], H ++ H.take 1, H.drop 1, rv] ++ [H ++ [1000000000000000000000000000000]] ++ [A])) : TR (List PyData) Empty (List (List Int))) = .nx F := eF
  rw [eF']
  simp only [TR.bind_nx]
  rw [md, b1_ap, R.bind_ok, md2]
  rfl
end

theorem cellX (ns : List Int) (k : Nat) : ∃ v, t_law_cell ns (k : Int) = .ok v := by
  have m : tmulI 31 (k : Int) = .ok (31 * (k : Int)) := tmulI_l .lit
  by_cases h1 : k < ns.length
  · exact ⟨ns[k], by simp [t_law_cell, h1, tidx_lt h1]⟩
  · refine ⟨31 * (k : Int) + 5, ?_⟩
    have c : ¬ (k : Int) < (ns.length : Int) := by omega
    simp only [t_law_cell, b1_ap, b2_ap, R.bind_ok, tlen_ap, tltI_ap, tite_ap, decide_eq_false c, R.tr_ok, Bool.false_eq_true, if_false, m, taddI_ap, TR.fn_rt]
theorem flat_perm {n many : Nat} {d : Nat → Nat} (hd : ∀ k, k < n → d k < many) : ((List.range many).flatMap fun t => (List.range n).filter fun k => decide (d k = t)).Perm (List.range n) := by
  refine (List.perm_ext_iff_of_nodup ?_ List.nodup_range).mpr fun k => ?_
  · unfold List.Nodup
    rw [List.pairwise_flatMap]
    refine ⟨fun t _ => List.Pairwise.filter _ List.nodup_range, (List.nodup_range (n := many)).imp fun {a b} h x hx y hy e => ?_⟩
    have h1 := (List.mem_filter.mp hx).2
    have h2 := (List.mem_filter.mp hy).2
    subst e
    simp only [decide_eq_true_eq] at h1 h2
    omega
  · rw [List.mem_flatMap]
    constructor
    · rintro ⟨t, _, h⟩
      exact (List.mem_filter.mp h).1
    · intro h
      exact ⟨d k, List.mem_range.mpr (hd k (List.mem_range.mp h)), List.mem_filter.mpr ⟨h, by simp⟩⟩
theorem map_getD (A : List Int) : (List.range A.length).map (fun k => A.getD k 0) = A := by
  refine List.ext_getElem (by simp) fun i h1 h2 => ?_
  rw [List.getElem_map, List.getElem_range, List.getD_eq_getElem?_getD, List.getElem?_eq_getElem h2]
  rfl
theorem departingT {A : List Int} (hA : A.length ≤ 100) (c : Int) {b d : Int} (hb : 0 ≤ b) (hd : 0 ≤ d) : ∃ P, t_law_departing A c [b, d] = .ok P ∧ P.Perm A := by
  obtain ⟨os, e1, p1⟩ := shuffledT (A := A) (by omega) c
  have i0 : tidx [b, d] (0 : Int) = .ok b := tidx_0 _ _
  have i1 : tidx [b, d] (1 : Int) = .ok d := tidx_1 _ _ _
  have tn : trange1 (A.length : Int) = .ok (rangeI 0 A.length) := trange1_nat (by omega)
  simp only [t_law_departing, b1_ap, b2_ap, b3_ap, R.bind_ok, tlen_ap, R.tr_ok, i0, i1, tmodI_pos (show (0 : Int) < 3 by omega), tmodI_pos (show (0 : Int) < 9 by omega), teq_int, tite_ap]
  by_cases c1 : b % 3 = 0
  · rw [if_pos (decide_eq_true c1), e1]
    exact ⟨os, rfl, p1⟩
  rw [if_neg (by simpa using c1)]
  by_cases c2 : b % 9 = 1
  · rw [if_pos (decide_eq_true c2), tn]
    have tm := tmap_ok (f := fun k_ : Int => (tsubI (A.length : Int) 1).bind fun x => (tsubI x k_).bind fun y => tidx A y) (fun k => A.getD (A.length - 1 - k.toNat) 0) (xs := rangeI 0 A.length) (fun k hk => by
      obtain ⟨j, hj, rfl⟩ := rangeI_mem.mp hk
      rw [Int.zero_add]
      simp only [tsubI_ap, R.bind_ok, Int.toNat_natCast]
      refine tidx_of (k := A.length - 1 - j) (by omega) ?_
      rw [List.getD_eq_getElem?_getD, List.getElem?_eq_getElem (by omega)]
      rfl)
    refine ⟨A.reverse, ?_, List.reverse_perm A⟩
    have e : (rangeI 0 A.length).map (fun k => A.getD (A.length - 1 - k.toNat) 0) = A.reverse := by
      unfold rangeI
      rw [List.map_map]
      refine List.ext_getElem (by simp) fun i h1 h2 => ?_
      rw [List.getElem_map, List.getElem_range, List.getElem_reverse]
      simp only [Function.comp, Int.zero_add, Int.toNat_natCast]
      rw [List.getD_eq_getElem?_getD, List.getElem?_eq_getElem (by simp at h2; omega)]
      rfl
    rw [e] at tm
    simp only [R.bind_ok]
    simp only [tsubI_ap, R.bind_ok] at tm
    simp only [tsubI_ap, R.bind_ok]
    rw [tm]
    rfl
  rw [if_neg (by simpa using c2)]
  obtain ⟨ds, hds, e2⟩ := numbersT c A.length (A.length : Int) 20160 rfl (by omega) (by omega) (by decide)
  have m0 := Int.emod_nonneg d (b := 9) (by omega)
  have m1 := Int.emod_lt_of_pos d (b := 9) (by omega)
  obtain ⟨many, hm⟩ : ∃ many : Nat, 1 + d % 9 = (many : Int) := ⟨(1 + d % 9).toNat, by omega⟩
  have tm : trange1 (many : Int) = .ok (rangeI 0 many) := trange1_nat (by omega)
  simp only [e2, R.tr_ok, taddI_ap, hm, tm]
  let dd : Nat → Nat := fun k => (ds.getD k 0 % (many : Int)).toNat
  let Q : Nat → List Int := fun t => ((List.range A.length).filter fun k => decide (dd k = t)).map fun k => A.getD k 0
  have hdd : ∀ k, k < A.length → dd k < many := fun k _ => by
    have := Int.emod_lt_of_pos (ds.getD k 0) (show (0 : Int) < (many : Int) by omega)
    have := Int.emod_nonneg (ds.getD k 0) (show (many : Int) ≠ 0 by omega)
    show (ds.getD k 0 % (many : Int)).toNat < many
    omega
  have ql : ∀ t, (Q t).length ≤ 100 := fun t => by
    show (((List.range A.length).filter _).map _).length ≤ 100
    rw [List.length_map]
    exact Nat.le_trans (List.length_filter_le _ _) (by rw [List.length_range]; exact hA)
  obtain ⟨z, f, e⟩ := forT_ix (l := Empty) (β := List Int) (f := fun track found => t_law_departing_3 A (A.length : Int) ds (many : Int) track found) (fun i z => z = (List.range i).flatMap Q ∧ z.length ≤ 100 * i) (rangeI 0 many) 0 [] ⟨rfl, Nat.le_refl _⟩ (fun i a z ha hz => by
    obtain ⟨hi, rfl⟩ := rangeI_get ha
    rw [Nat.zero_add] at hz ⊢
    rw [Int.zero_add]
    obtain ⟨z1, z2⟩ := hz
    have qi := ql i
    refine ⟨z ++ Q i, .inl ?_, by rw [List.range_succ, List.flatMap_append, ← z1]; simp, by rw [List.length_append]; omega⟩
    have tc := tcomp_ok (c := fun k_ : Int => b2 teq (b2 tmodI (b2 tidx (R.ok ds) (R.ok k_)) (R.ok (many : Int))) (R.ok (i : Int))) (f := fun k_ : Int => b2 tidx (R.ok A) (R.ok k_)) (fun k => decide (dd k.toNat = i)) (fun k => A.getD k.toNat 0) (xs := rangeI 0 A.length) (fun k hk => by
      obtain ⟨j, hj, rfl⟩ := rangeI_mem.mp hk
      rw [Int.zero_add]
      refine ⟨?_, fun _ => ?_⟩
      · have gd : tidx ds (j : Int) = .ok (ds.getD j 0) := tidx_nat (by rw [List.getD_eq_getElem?_getD, List.getElem?_eq_getElem (by rw [hds.1]; exact hj)]; rfl)
        simp only [b2_ap, R.bind_ok, gd, tmodI_pos (show (0 : Int) < (many : Int) by omega), teq_int, Int.toNat_natCast]
        congr 1
        rw [Bool.eq_iff_iff, decide_eq_true_iff, decide_eq_true_iff]
        have := Int.emod_nonneg (ds.getD j 0) (show (many : Int) ≠ 0 by omega)
        show _ ↔ (ds.getD j 0 % (many : Int)).toNat = i
        omega
      · simp only [b2_ap, R.bind_ok, Int.toNat_natCast]
        exact tidx_nat (by rw [List.getD_eq_getElem?_getD, List.getElem?_eq_getElem hj]; rfl))
    have eq : ((rangeI 0 A.length).filter fun k => decide (dd k.toNat = i)).map (fun k => A.getD k.toNat 0) = Q i := by
      unfold rangeI
      rw [List.filter_map, List.map_map]
      have e1 : ((fun k : Int => decide (dd k.toNat = i)) ∘ fun j : Nat => (0 : Int) + (j : Int)) = fun k => decide (dd k = i) := by
        funext k
        simp
      rw [e1]
      refine List.map_congr_left fun k _ => ?_
      simp
    rw [eq] at tc
    simp only [t_law_departing_3, b1_ap, R.bind_ok, tn]
    erw [tc]
    simp only [calm_okk, b2_ap, R.bind_ok]
    rw [taddL_ok (by omega)]
    rfl)
  rw [rangeI_len, Nat.zero_add] at e
  refine ⟨(List.range many).flatMap Q, ?_, ?_⟩
  · erw [f]
    rw [e.1]
    rfl
  · have fp := (flat_perm hdd).map (fun k => A.getD k 0)
    rw [List.map_flatMap, map_getD] at fp
    exact fp

section
variable {A P : List Int} {K : Nat} {p : Nat}
theorem cupL {α : Type} [Enc α] (xs : List α) : (tmap cUp xs : R (List PyData)) = .ok (xs.map Enc.e) := tmap_ok Enc.e fun _ _ => rfl
theorem d_id {α : Type} [Enc α] (w : Str) (xs : List α) : (Enc.e ((w, xs.map Enc.e) : Str × List PyData) : PyData) = .tuple [.str w, Enc.e xs] := by
  show PyData.tuple [.str w, Enc.e (xs.map Enc.e : List PyData)] = _
  rw [e_id]; rfl
theorem acc_word (h0 : 0 < K) (nd : A.Nodup) (q : Pp) (h : q.acc K A P p = true) : q.w = if ((hd A P).length : Int) < (K : Int) ^ p then "tracks" else "runs" := by
  have pi := powI (K := K) (c := (hd A P).length) (i := p)
  cases q with
  | tr rs =>
    obtain ⟨h1, h2⟩ : rs.length = p ∧ rp K A rs = some P := of_decide_eq_true h
    have := rp_few h0 nd h2
    rw [h1] at this
    rw [if_pos this]; rfl
  | ru ws =>
    obtain ⟨h1, h2, h3⟩ : ws.Nodup ∧ (∀ w ∈ ws, w ∈ hd A P) ∧ K ^ p ≤ ws.length := of_decide_eq_true h
    have := nodup_sub h1 h2
    rw [if_neg (fun z => pi.mp z (by omega))]; rfl
  | tk rs => exact nomatch h
  | he ws => exact nomatch h
theorem law2T (h0 : 0 < K) (hK : K < 2 ^ 70) (hA : A.length ≤ 100) (nd : A.Nodup) (hp : P.Perm A) (hp2 : p ≤ 30) {picks : List Int} (hd' : Dr 7 20160 picks) : t_law_2 (A.length : Int) A P (A, P) (hd A P) picks (K : Int) (p : Int) = .nx () := by
  have hl : P.length ≤ 100 := by rw [hp.length_eq]; exact hA
  have hh := hd_len A P
  have ip := in_passesT (K := K) h0 hK hA hp hp2
  have ll := law_listsT (K := K) h0 hK hA nd hp hp2
  obtain ⟨_, _, s3, s4⟩ := pst_in (A := A) (K := K) (D := DD A P) p
  have pi := powI (K := K) (c := (hd A P).length) (i := p)
  obtain ⟨q1, e1, l1, m1⟩ := tracks_papersT (K := K) (p := p) h0 s3 hp2 s4 hA hd'
  obtain ⟨q2, e2, l2, m2⟩ := runs_papersT (H := hd A P) (A := A) (by omega) hA hd'
  have en := (powerT hK (p := p) (by omega)).2 ((hd A P).length : Int)
  have t1 : tidx [("runs" : Str), "tracks"] (1 : Int) = .ok "tracks" := tidx_1 _ _ _
  have t0 : tidx [("runs" : Str), "tracks"] (0 : Int) = .ok "runs" := tidx_0 _ _
  have nn1 : tne ("tracks" : Str) "tracks" = .ok false := tne_rfl sk_tracks
  have nn2 : tne ("runs" : Str) "runs" = .ok false := tne_rfl sk_runs
  have nl1 : tne [("tracks" : Str)] ["tracks"] = .ok false := tne_rfl ⟨by decide, fun x hx => by rw [List.mem_singleton.mp hx]; exact sk_tracks⟩
  have nl2 : tne [("runs" : Str)] ["runs"] = .ok false := tne_rfl ⟨by decide, fun x hx => by rw [List.mem_singleton.mp hx]; exact sk_runs⟩
  have main : ∀ (w : Str) (V : Pp) (x : List PyData), V.w = w → V.ok → V.acc K A P p = true → (Enc.e ((w, x) : Str × List PyData) : PyData) = V.d → (∀ q : Pp, q.acc K A P p = true → q.w = w) → ∃ xs, taddL ((q1.map fun rs => (Pp.tr rs).d) ++ q2.map fun ws => (Pp.ru ws).d) [Enc.e ((w, x) : Str × List PyData), Enc.e ((("track" : Str), (pst K (DD A P) A p).2.map Enc.e) : Str × List PyData), Enc.e ((("heads" : Str), (hd A P).map Enc.e) : Str × List PyData)] = .ok xs ∧ (forT (fun paper words => t_law_1 A P (A, P) (K : Int) (p : Int) paper words) xs [] : TR Bool Unit (List Str)) = .nx [w] := by
    intro w V x hw ok acc ed al
    let Q : List Pp := q1.map Pp.tr ++ q2.map Pp.ru ++ [V, .tk (pst K (DD A P) A p).2, .he (hd A P)]
    have eQ : ((q1.map fun rs => (Pp.tr rs).d) ++ q2.map fun ws => (Pp.ru ws).d) ++ [Enc.e ((w, x) : Str × List PyData), Enc.e ((("track" : Str), (pst K (DD A P) A p).2.map Enc.e) : Str × List PyData), Enc.e ((("heads" : Str), (hd A P).map Enc.e) : Str × List PyData)] = Q.map Pp.d := by
      show _ = (q1.map Pp.tr ++ q2.map Pp.ru ++ [V, .tk (pst K (DD A P) A p).2, .he (hd A P)]).map Pp.d
      rw [List.map_append, List.map_append, List.map_map, List.map_map, ed, d_id, d_id]
      rfl
    have okQ : ∀ q ∈ Q, q.ok := fun q hq => by
      rcases List.mem_append.mp hq with h | h
      · rcases List.mem_append.mp h with h | h
        · obtain ⟨rs, h', rfl⟩ := List.mem_map.mp h
          exact m1 rs h'
        · obtain ⟨ws, h', rfl⟩ := List.mem_map.mp h
          exact m2 ws h'
      · simp only [List.mem_cons, List.not_mem_nil, or_false] at h
        rcases h with rfl | rfl | rfl
        · exact ok
        · show (pst K (DD A P) A p).2.length ≤ 100
          omega
        · show (hd A P).length ≤ 1000
          omega
    have lQ : Q.length ≤ 80 := by
      show (q1.map Pp.tr ++ q2.map Pp.ru ++ [V, .tk (pst K (DD A P) A p).2, .he (hd A P)]).length ≤ 80
      simp
      omega
    refine ⟨Q.map Pp.d, ?_, ?_⟩
    · rw [taddL_ok (by simp; omega), eQ]
    · rw [law1F h0 hK hA hp hp2 Q [] okQ (by simp; omega) (fun _ h => nomatch h)]
      congr 1
      exact ws1_fold (w0 := w) Q [] (.inl rfl) (fun q _ h => al q h) (.inr ⟨V, List.mem_append_right _ List.mem_cons_self, acc⟩)
  have ad : taddL (q1.map fun rs => (Pp.tr rs).d) (q2.map fun ws => (Pp.ru ws).d) = .ok ((q1.map fun rs => (Pp.tr rs).d) ++ q2.map fun ws => (Pp.ru ws).d) := taddL_ok (by simp; omega)
  by_cases c : ((hd A P).length : Int) < (K : Int) ^ p
  · rw [if_pos c] at ip
    rw [decide_eq_true c] at en
    obtain ⟨xs, ex, fx⟩ := main "tracks" (.tr (pst K (DD A P) A p).2) ((pst K (DD A P) A p).2.map Enc.e) rfl (show (pst K (DD A P) A p).2.length ≤ 100 by omega) (decide_eq_true ⟨s3, pst_sorts h0 nd hp c⟩) (d_id _ _) (fun q h => by rw [acc_word h0 nd q h, if_pos c])
    simp only [t_law_2, b1_ap, b2_ap, b3_ap, b4_ap, b5_ok, pj_ap, R.bind_ok, ip, R.tr_ok, tlen_ap, en, tintB_ap, tcons_ap, if_true, t1, nn1, tite_ap, Bool.false_eq_true, if_false, ll, e1, e2, ad, cupL, mk2_ap, List.map_cons, List.map_nil, ex]
    erw [fx]
    simp only [TR.bind_nx, nl1, tite_ap, R.tr_ok, Bool.false_eq_true, if_false]
  · rw [if_neg c] at ip
    rw [decide_eq_false c] at en
    have ck : K ^ p ≤ (hd A P).length := Classical.not_not.mp fun z => c (pi.mpr z)
    obtain ⟨xs, ex, fx⟩ := main "runs" (.ru (hd A P)) ((hd A P).map Enc.e) rfl (show (hd A P).length ≤ 1000 by omega) (decide_eq_true ⟨hd_nodup (hp.nodup_iff.mpr nd), fun _ h => h, ck⟩) (d_id _ _) (fun q h => by rw [acc_word h0 nd q h, if_neg c])
    simp only [t_law_2, b1_ap, b2_ap, b3_ap, b4_ap, b5_ok, pj_ap, R.bind_ok, ip, R.tr_ok, tlen_ap, en, tintB_ap, tcons_ap, Bool.false_eq_true, if_false, t0, nn2, tite_ap, ll, e1, e2, ad, cupL, mk2_ap, List.map_cons, List.map_nil, ex]
    erw [fx]
    simp only [TR.bind_nx, nl2, tite_ap, R.tr_ok, Bool.false_eq_true, if_false]
def sgl : Nat → List (List Int)
  | 0 => [[]]
  | n + 1 => (sgl n).flatMap fun r => [r ++ [0], r ++ [1]]
theorem sgl_len : ∀ n, (sgl n).length = 2 ^ n
  | 0 => rfl
  | n + 1 => by
    unfold sgl
    rw [List.length_flatMap]
    have : ∀ xs : List (List Int), (xs.map fun r : List Int => ([r ++ [0], r ++ [1]] : List (List Int)).length).sum = 2 * xs.length := fun xs => by
      induction xs with
      | nil => rfl
      | cons x xs ih => rw [List.map_cons, List.sum_cons, ih, List.length_cons]; simp; omega
    rw [this, sgl_len n]; omega
theorem sgl_row : ∀ {n : Nat} {r : List Int}, r ∈ sgl n → r.length = n
  | 0, r, h => by rw [List.mem_singleton.mp h]; rfl
  | n + 1, r, h => by
    obtain ⟨q, hq, h⟩ := List.mem_flatMap.mp h
    have := sgl_row hq
    simp only [List.mem_cons, List.not_mem_nil, or_false] at h
    rcases h with rfl | rfl <;> simp [this]
theorem sgl_mem : ∀ {n : Nat} {r : List Int}, r.length = n → (∀ x ∈ r, 0 ≤ x ∧ x < 2) → r ∈ sgl n
  | 0, r, h, _ => by rw [List.length_eq_zero_iff.mp h]; exact List.mem_singleton.mpr rfl
  | n + 1, r, h, hx => by
    have hne : r ≠ [] := fun z => by rw [z] at h; cases h
    have sp := List.dropLast_concat_getLast hne
    have ih := sgl_mem (n := n) (r := r.dropLast) (by rw [List.length_dropLast]; omega) (fun x m => hx x (List.dropLast_subset r m))
    refine List.mem_flatMap.mpr ⟨_, ih, ?_⟩
    have := hx _ (List.getLast_mem hne)
    have : r.getLast hne = 0 ∨ r.getLast hne = 1 := by omega
    rcases this with e | e
    · rw [e] at sp; rw [← sp]; simp
    · rw [e] at sp; rw [← sp]; simp
theorem singleT {n : Nat} (hn : n ≤ 6) : t_law_single_passes (n : Int) = .ok (sgl n) := by
  have tn : trange1 (n : Int) = .ok (rangeI 0 n) := trange1_nat (by omega)
  have inner : ∀ (rows later : List (List Int)), later.length + 2 * rows.length ≤ 1000 → (∀ r ∈ rows, r.length ≤ 100) → (forT (fun row later => t_law_single_passes_1 row later) rows later : TR (List (List Int)) (List (List Int)) (List (List Int))) = .nx (later ++ rows.flatMap fun r => [r ++ [0], r ++ [1]]) := by
    intro rows
    induction rows with
    | nil => exact fun later _ _ => by rw [List.flatMap_nil, List.append_nil]; rfl
    | cons r rows ih =>
      intro later h hr
      rw [List.length_cons] at h
      have hr1 := hr r List.mem_cons_self
      have st : t_law_single_passes_1 r later = .nx (later ++ [r ++ [0]] ++ [r ++ [1]]) := by
        simp only [t_law_single_passes_1, b2_ap, R.bind_ok, tcons_ap]
        rw [taddL_ok (by simp; omega), R.tr_ok, tapp_ok (by omega), R.tr_ok, taddL_ok (by simp; omega), R.tr_ok, tapp_ok (by simp; omega), R.tr_ok]
      rw [forT_nx st, ih _ (by simp; omega) (fun q m => hr q (List.mem_cons_of_mem _ m)), List.flatMap_cons]
      simp
  obtain ⟨z, f, e⟩ := forT_ix (l := Empty) (β := List (List Int)) (f := fun turn found => t_law_single_passes_2 turn found) (fun i z => z = sgl i) (rangeI 0 n) 0 [[]] rfl (fun i a z ha hz => by
    obtain ⟨hi, rfl⟩ := rangeI_get ha
    rw [Nat.zero_add] at hz ⊢
    refine ⟨sgl (i + 1), .inl ?_, rfl⟩
    subst hz
    have lb : (sgl i).length ≤ 64 := by
      rw [sgl_len]
      exact Nat.pow_le_pow_right (n := 2) (by decide) (show i ≤ 6 by omega)
    have := inner (sgl i) [] (by simp; omega) (fun r m => by rw [sgl_row m]; omega)
    simp only [t_law_single_passes_2, R.tr_ok]
    rw [this]
    rfl)
  rw [rangeI_len, Nat.zero_add] at e
  simp only [t_law_single_passes, tcons_ap, R.tr_ok, b1_ap, R.bind_ok, tn]
  erw [f]
  rw [e]
  rfl
theorem singles_iff (nd : A.Nodup) (hp : P.Perm A) : 0 < ((sgl A.length).filter fun r => accT 2 A P 1 [r]).length ↔ (hd A P).length < 2 := by
  constructor
  · intro h
    obtain ⟨r, hr⟩ := List.exists_mem_of_length_pos h
    obtain ⟨_, h2⟩ : [r].length = 1 ∧ rp 2 A [r] = some P := of_decide_eq_true (List.mem_filter.mp hr).2
    have := rp_few (K := 2) (by decide) nd h2
    simp only [List.length_singleton] at this
    omega
  · intro h
    obtain ⟨_, _, s3, s4⟩ := pst_in (A := A) (K := 2) (D := DD A P) 1
    have ps := pst_sorts (K := 2) (p := 1) (by decide) nd hp (by omega)
    match hq : (pst 2 (DD A P) A 1).2, s3 with
    | [r], _ =>
      rw [hq] at ps
      have ok : okRow 2 A r := by
        unfold rp at ps
        split at ps
        · assumption
        · cases ps
      refine List.length_pos_of_mem (a := r) (List.mem_filter.mpr ⟨sgl_mem ok.1 (fun x hx => ok.2 x hx), decide_eq_true ⟨rfl, ps⟩⟩)
theorem dr3' {ds : List Int} {lim : Int} (h : Dr 3 lim ds) : ∃ a b c : Int, ds = [a, b, c] ∧ (0 ≤ a ∧ a < lim) ∧ (0 ≤ b ∧ b < lim) ∧ (0 ≤ c ∧ c < lim) := by
  obtain ⟨hl, hm⟩ := h
  match ds, hl, hm with
  | [a, b, c], _, hm => exact ⟨a, b, c, rfl, hm a (by simp), hm b (by simp), hm c (by simp)⟩
theorem mathT : ∀ ns : List Int, ns.length ≤ 63 → t_law ns = .ok true := fun ns _ => by
  obtain ⟨c0, ec0⟩ := cellX ns 0
  obtain ⟨c1, ec1⟩ := cellX ns 1
  obtain ⟨c2, ec2⟩ := cellX ns 2
  obtain ⟨c3, ec3⟩ := cellX ns 3
  have ec0 : t_law_cell ns (0 : Int) = .ok c0 := ec0
  have ec1 : t_law_cell ns (1 : Int) = .ok c1 := ec1
  have ec2 : t_law_cell ns (2 : Int) = .ok c2 := ec2
  have ec3 : t_law_cell ns (3 : Int) = .ok c3 := ec3
  obtain ⟨sh, hs, es⟩ := numbersT c0 3 3 20160 (by omega) (by omega) (by omega) (by decide)
  obtain ⟨a, b, c, rfl, ha, hb, hc⟩ := dr3' hs
  obtain ⟨picks, hk, ek⟩ := numbersT c3 7 7 20160 (by omega) (by omega) (by omega) (by decide)
  have i0 : tidx [a, b, c] (0 : Int) = .ok a := tidx_0 _ _
  have dv4 : tfdivI a 4 = .ok (a / 4) := tfdivI_pos (by omega) (by decide)
  obtain ⟨n, hn, en⟩ : ∃ n : Nat, n ≤ 100 ∧ (tite (R.ok (decide (a % 4 = 3))) ((tmodI (a / 4) 101).tr fun count => TR.nx count) (TR.nx (a / 4 % 13)) : TR Bool Empty Int) = .nx (n : Int) := by
    have q1 := Int.emod_nonneg (a / 4) (b := 13) (by omega)
    have q2 := Int.emod_lt_of_pos (a / 4) (b := 13) (by omega)
    have q3 := Int.emod_nonneg (a / 4) (b := 101) (by omega)
    have q4 := Int.emod_lt_of_pos (a / 4) (b := 101) (by omega)
    by_cases q : a % 4 = 3
    · refine ⟨(a / 4 % 101).toNat, by omega, ?_⟩
      rw [decide_eq_true q, tite_ap, R.tr_ok, if_pos rfl, tmodI_pos (by omega), R.tr_ok]
      congr 1
      omega
    · refine ⟨(a / 4 % 13).toNat, by omega, ?_⟩
      rw [decide_eq_false q, tite_ap, R.tr_ok, if_neg (by decide)]
      congr 1
      omega
  obtain ⟨A, eA, tA, lA⟩ := trainT c1 hn
  obtain ⟨P, eP, pP⟩ := departingT (A := A) tA.len c2 hb.1 hc.1
  have hA := tA.len
  have hh := hd_len A P
  have hl := pP.length_eq
  have cut : cutG [a, b, c] (some (1 : Int)) (some (3 : Int)) = [b, c] := cutG_mid [a, b, c] 1 3
  obtain ⟨d5, i5, r5, _⟩ := hk.ix 5
  obtain ⟨d6, i6, r6, _⟩ := hk.ix 6
  have i5 : tidx picks (5 : Int) = .ok d5 := i5
  have i6 : tidx picks (6 : Int) = .ok d6 := i6
  have k0 := Int.emod_nonneg d5 (b := 4) (by omega)
  have k1 := Int.emod_lt_of_pos d5 (b := 4) (by omega)
  have k2 := Int.emod_nonneg d6 (b := 7) (by omega)
  have k3 := Int.emod_lt_of_pos d6 (b := 7) (by omega)
  obtain ⟨K, hK, hK2⟩ : ∃ K : Nat, 2 + d5 % 4 = (K : Int) ∧ 2 ≤ K ∧ K ≤ 5 := ⟨(2 + d5 % 4).toNat, by omega, by omega, by omega⟩
  have K70 : K < 2 ^ 70 := Nat.lt_of_le_of_lt hK2.2 (by decide)
  subst lA
  have f2 := forT_pass (l := Empty) (β := Bool) (f := fun passes (_ : Unit) => t_law_2 (A.length : Int) A P (A, P) (hd A P) picks (K : Int) passes) (s := ()) (xs := [0, 1, 2, 1 + d6 % 7]) (fun x hx => by
    have : ∃ p : Nat, x = (p : Int) ∧ p ≤ 30 := by
      simp only [List.mem_cons, List.not_mem_nil, or_false] at hx
      rcases hx with rfl | rfl | rfl | rfl
      · exact ⟨0, rfl, by omega⟩
      · exact ⟨1, rfl, by omega⟩
      · exact ⟨2, rfl, by omega⟩
      · exact ⟨(1 + d6 % 7).toNat, by omega, by omega⟩
    obtain ⟨p, rfl, hp2⟩ := this
    exact .inl (law2T (by omega) K70 hA tA.nd pP hp2 hk))
  have okA : EqE.ok (A, P) := ⟨ok_intsA (show A.length ≤ 1000 by omega), ok_intsA (show P.length ≤ 1000 by omega)⟩
  have tq := teq_rfl okA
  have last : (tite (R.ok (decide ((A.length : Int) < 6))) (((b1 t_law_single_passes (R.ok (A.length : Int))).bind fun xs_ => (tcomp (fun row : List Int => (b1 tid (b5 t_judge_passes (b1 (pj Prod.fst) (R.ok (A, P))) (b1 (pj Prod.snd) (R.ok (A, P))) (R.ok (2 : Int)) (R.ok (1 : Int)) (b1 cUp (b2 mk2 (R.ok ("tracks" : Str)) (tcons (R.ok row) (R.ok ([] : List (List Int))))))))) (fun row => (R.ok row)) xs_).calm).tr fun accepted => (tite (b2 tne (b2 tgtI (b1 tlen (R.ok accepted)) (R.ok (0 : Int))) (b2 tltI (b1 tlen (R.ok (hd A P))) (R.ok (2 : Int)))) ((R.ok false).tr fun r_ => TR.rt r_) (TR.nx ()))) (TR.nx ()) : TR Bool Empty Unit) = .nx () := by
    by_cases q : (A.length : Int) < 6
    · rw [decide_eq_true q, tite_ap, R.tr_ok, if_pos rfl, show b1 t_law_single_passes (R.ok (A.length : Int)) = .ok (sgl A.length) from singleT (by omega), R.bind_ok]
      have tc := tcomp_ok (c := fun row : List Int => (b1 tid (b5 t_judge_passes (b1 (pj Prod.fst) (R.ok (A, P))) (b1 (pj Prod.snd) (R.ok (A, P))) (R.ok (2 : Int)) (R.ok (1 : Int)) (b1 cUp (b2 mk2 (R.ok ("tracks" : Str)) (tcons (R.ok row) (R.ok ([] : List (List Int)))))))) ) (f := fun row : List Int => R.ok row) (fun r => accT 2 A P 1 [r]) (fun r => r) (xs := sgl A.length) (fun r _ => by
        refine ⟨?_, fun _ => rfl⟩
        have jt : t_judge_passes A P (2 : Int) (1 : Int) (Pp.tr [r]).d = .ok (accT 2 A P 1 [r]) := judgeT (K := 2) (p := 1) (by decide) hA pP (by decide) (.tr [r]) (show 1 ≤ 100 by decide)
        simp only [b1_ap, b2_ap, pj_ap, R.bind_ok, tcons_ap, mk2_ap, cUp_ap, b5_ok]
        erw [jt]
        rfl)
      rw [tc, List.map_id']
      have si := singles_iff tA.nd pP
      rw [calm_okk, R.tr_ok]
      simp only [b1_ap, b2_ap, R.bind_ok, tlen_ap, tgtI_ap, tltI_ap]
      have eb : decide ((0 : Int) < (((sgl A.length).filter fun r => accT 2 A P 1 [r]).length : Int)) = decide (((hd A P).length : Int) < 2) := by
        rw [Bool.eq_iff_iff, decide_eq_true_iff, decide_eq_true_iff]
        constructor
        · intro z; have := si.mp (by omega); omega
        · intro z; have := si.mpr (by omega); omega
      rw [eb, tne_rfl trivial, tite_ap, R.tr_ok, if_neg (by decide)]
    · rw [decide_eq_false q, tite_ap, R.tr_ok, if_neg (by decide)]
  simp only [t_law]
  simp only [b1_ap, b2_ap, b3_ap, R.bind_ok, ec0, es, R.tr_ok, i0, dv4, tmodI_pos (show (0 : Int) < 13 by omega), tmodI_pos (show (0 : Int) < 4 by omega), teq_int]
  erw [en]
  simp only [TR.bind_nx, ec1, R.bind_ok, eA, R.tr_ok, ec2, tpart_ap, tcut_ap, cut, eP, mk2_ap, law_headsT hA pP, ec3, ek, i5, i6, tmodI_pos (show (0 : Int) < 4 by omega), tmodI_pos (show (0 : Int) < 7 by omega), taddI_ap, hK, tcons_ap]
  erw [f2]
  simp only [TR.bind_nx, tltI_ap]
  erw [last]
  simp only [TR.bind_nx, tq, R.tr_ok, TR.fn_rt]
end

theorem math : ∀ ns : List Int, ns.length ≤ 63 → m_law [.list (ns.map PyData.int)] = .ok (.bool true) := law_T mathT
end LW
namespace LW
open PySem PySem.Spec PyProof.Rows L2 VL
theorem txt_mk {K : PySem.W.Frag} {h : Heap} {mg : Str → Option Value} (X : K.In h) (G : h.Ns mainGlobals mg)
    {f1 : Addr} {od1 an1 : Option Addr} {sl1 : Array (Option Value)} {oc1 kV1 dc1 pm1 cd1 ct1 : Value}
    (a1 : PySem.W.nsIn K mainGlobals "run_heads" = some (some (.ref f1)))
    (l1 : K.lookup f1 = some ⟨oc1, od1, .func (PySem.W.fnOf "run_heads" "run_heads" (defArgs s_run_heads) (defBody s_run_heads) (defScope s_run_heads) .none kV1 dc1 pm1 an1 cd1 ct1), sl1⟩) (c1 : PySem.W.codeIn K cd1 "run_heads" = true) (k1 : PySem.W.keepIn K (.ref f1) = true)
    {f2 : Addr} {od2 an2 : Option Addr} {sl2 : Array (Option Value)} {oc2 kV2 dc2 pm2 cd2 ct2 : Value}
    (a2 : PySem.W.nsIn K mainGlobals "run_numbers" = some (some (.ref f2)))
    (l2 : K.lookup f2 = some ⟨oc2, od2, .func (PySem.W.fnOf "run_numbers" "run_numbers" (defArgs s_run_numbers) (defBody s_run_numbers) (defScope s_run_numbers) .none kV2 dc2 pm2 an2 cd2 ct2), sl2⟩) (c2 : PySem.W.codeIn K cd2 "run_numbers" = true) (k2 : PySem.W.keepIn K (.ref f2) = true)
    {f3 : Addr} {od3 an3 : Option Addr} {sl3 : Array (Option Value)} {oc3 kV3 dc3 pm3 cd3 ct3 : Value}
    (a3 : PySem.W.nsIn K mainGlobals "power" = some (some (.ref f3)))
    (l3 : K.lookup f3 = some ⟨oc3, od3, .func (PySem.W.fnOf "power" "power" (defArgs s_power) (defBody s_power) (defScope s_power) .none kV3 dc3 pm3 an3 cd3 ct3), sl3⟩) (c3 : PySem.W.codeIn K cd3 "power" = true) (k3 : PySem.W.keepIn K (.ref f3) = true)
    {f4 : Addr} {od4 an4 : Option Addr} {sl4 : Array (Option Value)} {oc4 kV4 dc4 pm4 cd4 ct4 : Value}
    (a4 : PySem.W.nsIn K mainGlobals "digit" = some (some (.ref f4)))
    (l4 : K.lookup f4 = some ⟨oc4, od4, .func (PySem.W.fnOf "digit" "digit" (defArgs s_digit) (defBody s_digit) (defScope s_digit) .none kV4 dc4 pm4 an4 cd4 ct4), sl4⟩) (c4 : PySem.W.codeIn K cd4 "digit" = true) (k4 : PySem.W.keepIn K (.ref f4) = true)
    {f5 : Addr} {od5 an5 : Option Addr} {sl5 : Array (Option Value)} {oc5 kV5 dc5 pm5 cd5 ct5 : Value}
    (a5 : PySem.W.nsIn K mainGlobals "after_pass" = some (some (.ref f5)))
    (l5 : K.lookup f5 = some ⟨oc5, od5, .func (PySem.W.fnOf "after_pass" "after_pass" (defArgs s_after_pass) (defBody s_after_pass) (defScope s_after_pass) .none kV5 dc5 pm5 an5 cd5 ct5), sl5⟩) (c5 : PySem.W.codeIn K cd5 "after_pass" = true) (k5 : PySem.W.keepIn K (.ref f5) = true)
    {f6 : Addr} {od6 an6 : Option Addr} {sl6 : Array (Option Value)} {oc6 kV6 dc6 pm6 cd6 ct6 : Value}
    (a6 : PySem.W.nsIn K mainGlobals "in_passes" = some (some (.ref f6)))
    (l6 : K.lookup f6 = some ⟨oc6, od6, .func (PySem.W.fnOf "in_passes" "in_passes" (defArgs s_in_passes) (defBody s_in_passes) (defScope s_in_passes) .none kV6 dc6 pm6 an6 cd6 ct6), sl6⟩) (c6 : PySem.W.codeIn K cd6 "in_passes" = true) (k6 : PySem.W.keepIn K (.ref f6) = true)
    {f7 : Addr} {od7 an7 : Option Addr} {sl7 : Array (Option Value)} {oc7 kV7 dc7 pm7 cd7 ct7 : Value}
    (a7 : PySem.W.nsIn K mainGlobals "is_pass" = some (some (.ref f7)))
    (l7 : K.lookup f7 = some ⟨oc7, od7, .func (PySem.W.fnOf "is_pass" "is_pass" (defArgs s_is_pass) (defBody s_is_pass) (defScope s_is_pass) .none kV7 dc7 pm7 an7 cd7 ct7), sl7⟩) (c7 : PySem.W.codeIn K cd7 "is_pass" = true) (k7 : PySem.W.keepIn K (.ref f7) = true)
    {f8 : Addr} {od8 an8 : Option Addr} {sl8 : Array (Option Value)} {oc8 kV8 dc8 pm8 cd8 ct8 : Value}
    (a8 : PySem.W.nsIn K mainGlobals "judge_tracks" = some (some (.ref f8)))
    (l8 : K.lookup f8 = some ⟨oc8, od8, .func (PySem.W.fnOf "judge_tracks" "judge_tracks" (defArgs s_judge_tracks) (defBody s_judge_tracks) (defScope s_judge_tracks) .none kV8 dc8 pm8 an8 cd8 ct8), sl8⟩) (c8 : PySem.W.codeIn K cd8 "judge_tracks" = true) (k8 : PySem.W.keepIn K (.ref f8) = true)
    {f9 : Addr} {od9 an9 : Option Addr} {sl9 : Array (Option Value)} {oc9 kV9 dc9 pm9 cd9 ct9 : Value}
    (a9 : PySem.W.nsIn K mainGlobals "judge_runs" = some (some (.ref f9)))
    (l9 : K.lookup f9 = some ⟨oc9, od9, .func (PySem.W.fnOf "judge_runs" "judge_runs" (defArgs s_judge_runs) (defBody s_judge_runs) (defScope s_judge_runs) .none kV9 dc9 pm9 an9 cd9 ct9), sl9⟩) (c9 : PySem.W.codeIn K cd9 "judge_runs" = true) (k9 : PySem.W.keepIn K (.ref f9) = true)
    {f10 : Addr} {od10 an10 : Option Addr} {sl10 : Array (Option Value)} {oc10 kV10 dc10 pm10 cd10 ct10 : Value}
    (a10 : PySem.W.nsIn K mainGlobals "judge_passes" = some (some (.ref f10)))
    (l10 : K.lookup f10 = some ⟨oc10, od10, .func (PySem.W.fnOf "judge_passes" "judge_passes" (defArgs s_judge_passes) (defBody s_judge_passes) (defScope s_judge_passes) .none kV10 dc10 pm10 an10 cd10 ct10), sl10⟩) (c10 : PySem.W.codeIn K cd10 "judge_passes" = true) (k10 : PySem.W.keepIn K (.ref f10) = true)
    {f11 : Addr} {od11 an11 : Option Addr} {sl11 : Array (Option Value)} {oc11 kV11 dc11 pm11 cd11 ct11 : Value}
    (a11 : PySem.W.nsIn K mainGlobals "_law_cell" = some (some (.ref f11)))
    (l11 : K.lookup f11 = some ⟨oc11, od11, .func (PySem.W.fnOf "_law_cell" "_law_cell" (defArgs s_law_cell) (defBody s_law_cell) (defScope s_law_cell) .none kV11 dc11 pm11 an11 cd11 ct11), sl11⟩) (c11 : PySem.W.codeIn K cd11 "_law_cell" = true) (k11 : PySem.W.keepIn K (.ref f11) = true)
    {f12 : Addr} {od12 an12 : Option Addr} {sl12 : Array (Option Value)} {oc12 kV12 dc12 pm12 cd12 ct12 : Value}
    (a12 : PySem.W.nsIn K mainGlobals "_law_numbers" = some (some (.ref f12)))
    (l12 : K.lookup f12 = some ⟨oc12, od12, .func (PySem.W.fnOf "_law_numbers" "_law_numbers" (defArgs s_law_numbers) (defBody s_law_numbers) (defScope s_law_numbers) .none kV12 dc12 pm12 an12 cd12 ct12), sl12⟩) (c12 : PySem.W.codeIn K cd12 "_law_numbers" = true) (k12 : PySem.W.keepIn K (.ref f12) = true)
    {f13 : Addr} {od13 an13 : Option Addr} {sl13 : Array (Option Value)} {oc13 kV13 dc13 pm13 cd13 ct13 : Value}
    (a13 : PySem.W.nsIn K mainGlobals "_law_train" = some (some (.ref f13)))
    (l13 : K.lookup f13 = some ⟨oc13, od13, .func (PySem.W.fnOf "_law_train" "_law_train" (defArgs s_law_train) (defBody s_law_train) (defScope s_law_train) .none kV13 dc13 pm13 an13 cd13 ct13), sl13⟩) (c13 : PySem.W.codeIn K cd13 "_law_train" = true) (k13 : PySem.W.keepIn K (.ref f13) = true)
    {f14 : Addr} {od14 an14 : Option Addr} {sl14 : Array (Option Value)} {oc14 kV14 dc14 pm14 cd14 ct14 : Value}
    (a14 : PySem.W.nsIn K mainGlobals "_law_shuffled" = some (some (.ref f14)))
    (l14 : K.lookup f14 = some ⟨oc14, od14, .func (PySem.W.fnOf "_law_shuffled" "_law_shuffled" (defArgs s_law_shuffled) (defBody s_law_shuffled) (defScope s_law_shuffled) .none kV14 dc14 pm14 an14 cd14 ct14), sl14⟩) (c14 : PySem.W.codeIn K cd14 "_law_shuffled" = true) (k14 : PySem.W.keepIn K (.ref f14) = true)
    {f15 : Addr} {od15 an15 : Option Addr} {sl15 : Array (Option Value)} {oc15 kV15 dc15 pm15 cd15 ct15 : Value}
    (a15 : PySem.W.nsIn K mainGlobals "_law_heads" = some (some (.ref f15)))
    (l15 : K.lookup f15 = some ⟨oc15, od15, .func (PySem.W.fnOf "_law_heads" "_law_heads" (defArgs s_law_heads) (defBody s_law_heads) (defScope s_law_heads) .none kV15 dc15 pm15 an15 cd15 ct15), sl15⟩) (c15 : PySem.W.codeIn K cd15 "_law_heads" = true) (k15 : PySem.W.keepIn K (.ref f15) = true)
    {f16 : Addr} {od16 an16 : Option Addr} {sl16 : Array (Option Value)} {oc16 kV16 dc16 pm16 cd16 ct16 : Value}
    (a16 : PySem.W.nsIn K mainGlobals "_law_after" = some (some (.ref f16)))
    (l16 : K.lookup f16 = some ⟨oc16, od16, .func (PySem.W.fnOf "_law_after" "_law_after" (defArgs s_law_after) (defBody s_law_after) (defScope s_law_after) .none kV16 dc16 pm16 an16 cd16 ct16), sl16⟩) (c16 : PySem.W.codeIn K cd16 "_law_after" = true) (k16 : PySem.W.keepIn K (.ref f16) = true)
    {f17 : Addr} {od17 an17 : Option Addr} {sl17 : Array (Option Value)} {oc17 kV17 dc17 pm17 cd17 ct17 : Value}
    (a17 : PySem.W.nsIn K mainGlobals "_law_departing" = some (some (.ref f17)))
    (l17 : K.lookup f17 = some ⟨oc17, od17, .func (PySem.W.fnOf "_law_departing" "_law_departing" (defArgs s_law_departing) (defBody s_law_departing) (defScope s_law_departing) .none kV17 dc17 pm17 an17 cd17 ct17), sl17⟩) (c17 : PySem.W.codeIn K cd17 "_law_departing" = true) (k17 : PySem.W.keepIn K (.ref f17) = true)
    {f18 : Addr} {od18 an18 : Option Addr} {sl18 : Array (Option Value)} {oc18 kV18 dc18 pm18 cd18 ct18 : Value}
    (a18 : PySem.W.nsIn K mainGlobals "_law_enough" = some (some (.ref f18)))
    (l18 : K.lookup f18 = some ⟨oc18, od18, .func (PySem.W.fnOf "_law_enough" "_law_enough" (defArgs s_law_enough) (defBody s_law_enough) (defScope s_law_enough) .none kV18 dc18 pm18 an18 cd18 ct18), sl18⟩) (c18 : PySem.W.codeIn K cd18 "_law_enough" = true) (k18 : PySem.W.keepIn K (.ref f18) = true)
    {f19 : Addr} {od19 an19 : Option Addr} {sl19 : Array (Option Value)} {oc19 kV19 dc19 pm19 cd19 ct19 : Value}
    (a19 : PySem.W.nsIn K mainGlobals "_law_lists" = some (some (.ref f19)))
    (l19 : K.lookup f19 = some ⟨oc19, od19, .func (PySem.W.fnOf "_law_lists" "_law_lists" (defArgs s_law_lists) (defBody s_law_lists) (defScope s_law_lists) .none kV19 dc19 pm19 an19 cd19 ct19), sl19⟩) (c19 : PySem.W.codeIn K cd19 "_law_lists" = true) (k19 : PySem.W.keepIn K (.ref f19) = true)
    {f20 : Addr} {od20 an20 : Option Addr} {sl20 : Array (Option Value)} {oc20 kV20 dc20 pm20 cd20 ct20 : Value}
    (a20 : PySem.W.nsIn K mainGlobals "_law_accepts" = some (some (.ref f20)))
    (l20 : K.lookup f20 = some ⟨oc20, od20, .func (PySem.W.fnOf "_law_accepts" "_law_accepts" (defArgs s_law_accepts) (defBody s_law_accepts) (defScope s_law_accepts) .none kV20 dc20 pm20 an20 cd20 ct20), sl20⟩) (c20 : PySem.W.codeIn K cd20 "_law_accepts" = true) (k20 : PySem.W.keepIn K (.ref f20) = true)
    {f21 : Addr} {od21 an21 : Option Addr} {sl21 : Array (Option Value)} {oc21 kV21 dc21 pm21 cd21 ct21 : Value}
    (a21 : PySem.W.nsIn K mainGlobals "_law_tracks_papers" = some (some (.ref f21)))
    (l21 : K.lookup f21 = some ⟨oc21, od21, .func (PySem.W.fnOf "_law_tracks_papers" "_law_tracks_papers" (defArgs s_law_tracks_papers) (defBody s_law_tracks_papers) (defScope s_law_tracks_papers) .none kV21 dc21 pm21 an21 cd21 ct21), sl21⟩) (c21 : PySem.W.codeIn K cd21 "_law_tracks_papers" = true) (k21 : PySem.W.keepIn K (.ref f21) = true)
    {f22 : Addr} {od22 an22 : Option Addr} {sl22 : Array (Option Value)} {oc22 kV22 dc22 pm22 cd22 ct22 : Value}
    (a22 : PySem.W.nsIn K mainGlobals "_law_runs_papers" = some (some (.ref f22)))
    (l22 : K.lookup f22 = some ⟨oc22, od22, .func (PySem.W.fnOf "_law_runs_papers" "_law_runs_papers" (defArgs s_law_runs_papers) (defBody s_law_runs_papers) (defScope s_law_runs_papers) .none kV22 dc22 pm22 an22 cd22 ct22), sl22⟩) (c22 : PySem.W.codeIn K cd22 "_law_runs_papers" = true) (k22 : PySem.W.keepIn K (.ref f22) = true)
    {f23 : Addr} {od23 an23 : Option Addr} {sl23 : Array (Option Value)} {oc23 kV23 dc23 pm23 cd23 ct23 : Value}
    (a23 : PySem.W.nsIn K mainGlobals "_law_single_passes" = some (some (.ref f23)))
    (l23 : K.lookup f23 = some ⟨oc23, od23, .func (PySem.W.fnOf "_law_single_passes" "_law_single_passes" (defArgs s_law_single_passes) (defBody s_law_single_passes) (defScope s_law_single_passes) .none kV23 dc23 pm23 an23 cd23 ct23), sl23⟩) (c23 : PySem.W.codeIn K cd23 "_law_single_passes" = true) (k23 : PySem.W.keepIn K (.ref f23) = true)
    {f24 : Addr} {od24 an24 : Option Addr} {sl24 : Array (Option Value)} {oc24 kV24 dc24 pm24 cd24 ct24 : Value}
    (a24 : PySem.W.nsIn K mainGlobals "_law_copied" = some (some (.ref f24)))
    (l24 : K.lookup f24 = some ⟨oc24, od24, .func (PySem.W.fnOf "_law_copied" "_law_copied" (defArgs s_law_copied) (defBody s_law_copied) (defScope s_law_copied) .none kV24 dc24 pm24 an24 cd24 ct24), sl24⟩) (c24 : PySem.W.codeIn K cd24 "_law_copied" = true) (k24 : PySem.W.keepIn K (.ref f24) = true)
    {f25 : Addr} {od25 an25 : Option Addr} {sl25 : Array (Option Value)} {oc25 kV25 dc25 pm25 cd25 ct25 : Value}
    (a25 : PySem.W.nsIn K mainGlobals "law" = some (some (.ref f25)))
    (l25 : K.lookup f25 = some ⟨oc25, od25, .func (PySem.W.fnOf "law" "law" (defArgs s_law) (defBody s_law) (defScope s_law) .none kV25 dc25 pm25 an25 cd25 ct25), sl25⟩) (c25 : PySem.W.codeIn K cd25 "law" = true) (k25 : PySem.W.keepIn K (.ref f25) = true)
    (z_all : PySem.W.nsIn K mainGlobals "all" = some none)
    (z_bool : PySem.W.nsIn K mainGlobals "bool" = some none)
    (z_int : PySem.W.nsIn K mainGlobals "int" = some none)
    (z_isinstance : PySem.W.nsIn K mainGlobals "isinstance" = some none)
    (z_len : PySem.W.nsIn K mainGlobals "len" = some none)
    (z_list : PySem.W.nsIn K mainGlobals "list" = some none)
    (z_range : PySem.W.nsIn K mainGlobals "range" = some none)
    (z_set : PySem.W.nsIn K mainGlobals "set" = some none)
    (z_sorted : PySem.W.nsIn K mainGlobals "sorted" = some none)
    (z_zip : PySem.W.nsIn K mainGlobals "zip" = some none)
    (hkn : kTups K csK = true) : ∃ T : Txt K mg, T.f_law = f25 ∧ ∀ (s : Shared) (v : Value), BindsTo s T.d_law ⟨[v], []⟩ [("script", v)] :=
  ⟨{ f_run_heads := f1, d_run_heads := _, F_run_heads := fun_mk (st := s_run_heads) l1 c1 k1, g_run_heads := PySem.W.mg_of X G a1, B_run_heads := ((fun_mk (st := s_run_heads) l1 c1 k1).binds fun _ _ _ _ _ _ us hl => match us, hl with | [_, _], _ => rfl),
        f_run_numbers := f2, d_run_numbers := _, F_run_numbers := fun_mk (st := s_run_numbers) l2 c2 k2, g_run_numbers := PySem.W.mg_of X G a2, B_run_numbers := ((fun_mk (st := s_run_numbers) l2 c2 k2).binds fun _ _ _ _ _ _ us hl => match us, hl with | [_, _], _ => rfl),
        f_power := f3, d_power := _, F_power := fun_mk (st := s_power) l3 c3 k3, g_power := PySem.W.mg_of X G a3, B_power := ((fun_mk (st := s_power) l3 c3 k3).binds fun _ _ _ _ _ _ us hl => match us, hl with | [_, _], _ => rfl),
        f_digit := f4, d_digit := _, F_digit := fun_mk (st := s_digit) l4 c4 k4, g_digit := PySem.W.mg_of X G a4, B_digit := ((fun_mk (st := s_digit) l4 c4 k4).binds fun _ _ _ _ _ _ us hl => match us, hl with | [_, _, _], _ => rfl),
        f_after_pass := f5, d_after_pass := _, F_after_pass := fun_mk (st := s_after_pass) l5 c5 k5, g_after_pass := PySem.W.mg_of X G a5, B_after_pass := ((fun_mk (st := s_after_pass) l5 c5 k5).binds fun _ _ _ _ _ _ us hl => match us, hl with | [_, _], _ => rfl),
        f_in_passes := f6, d_in_passes := _, F_in_passes := fun_mk (st := s_in_passes) l6 c6 k6, g_in_passes := PySem.W.mg_of X G a6, B_in_passes := ((fun_mk (st := s_in_passes) l6 c6 k6).binds fun _ _ _ _ _ _ us hl => match us, hl with | [_, _, _, _], _ => rfl),
        f_is_pass := f7, d_is_pass := _, F_is_pass := fun_mk (st := s_is_pass) l7 c7 k7, g_is_pass := PySem.W.mg_of X G a7, B_is_pass := ((fun_mk (st := s_is_pass) l7 c7 k7).binds fun _ _ _ _ _ _ us hl => match us, hl with | [_, _, _], _ => rfl),
        f_judge_tracks := f8, d_judge_tracks := _, F_judge_tracks := fun_mk (st := s_judge_tracks) l8 c8 k8, g_judge_tracks := PySem.W.mg_of X G a8, B_judge_tracks := ((fun_mk (st := s_judge_tracks) l8 c8 k8).binds fun _ _ _ _ _ _ us hl => match us, hl with | [_, _, _, _, _], _ => rfl),
        f_judge_runs := f9, d_judge_runs := _, F_judge_runs := fun_mk (st := s_judge_runs) l9 c9 k9, g_judge_runs := PySem.W.mg_of X G a9, B_judge_runs := ((fun_mk (st := s_judge_runs) l9 c9 k9).binds fun _ _ _ _ _ _ us hl => match us, hl with | [_, _, _, _, _], _ => rfl),
        f_judge_passes := f10, d_judge_passes := _, F_judge_passes := fun_mk (st := s_judge_passes) l10 c10 k10, g_judge_passes := PySem.W.mg_of X G a10, B_judge_passes := ((fun_mk (st := s_judge_passes) l10 c10 k10).binds fun _ _ _ _ _ _ us hl => match us, hl with | [_, _, _, _, _], _ => rfl),
        f__law_cell := f11, d__law_cell := _, F__law_cell := fun_mk (st := s_law_cell) l11 c11 k11, g__law_cell := PySem.W.mg_of X G a11, B__law_cell := ((fun_mk (st := s_law_cell) l11 c11 k11).binds fun _ _ _ _ _ _ us hl => match us, hl with | [_, _], _ => rfl),
        f__law_numbers := f12, d__law_numbers := _, F__law_numbers := fun_mk (st := s_law_numbers) l12 c12 k12, g__law_numbers := PySem.W.mg_of X G a12, B__law_numbers := ((fun_mk (st := s_law_numbers) l12 c12 k12).binds fun _ _ _ _ _ _ us hl => match us, hl with | [_, _, _], _ => rfl),
        f__law_train := f13, d__law_train := _, F__law_train := fun_mk (st := s_law_train) l13 c13 k13, g__law_train := PySem.W.mg_of X G a13, B__law_train := ((fun_mk (st := s_law_train) l13 c13 k13).binds fun _ _ _ _ _ _ us hl => match us, hl with | [_, _], _ => rfl),
        f__law_shuffled := f14, d__law_shuffled := _, F__law_shuffled := fun_mk (st := s_law_shuffled) l14 c14 k14, g__law_shuffled := PySem.W.mg_of X G a14, B__law_shuffled := ((fun_mk (st := s_law_shuffled) l14 c14 k14).binds fun _ _ _ _ _ _ us hl => match us, hl with | [_, _], _ => rfl),
        f__law_heads := f15, d__law_heads := _, F__law_heads := fun_mk (st := s_law_heads) l15 c15 k15, g__law_heads := PySem.W.mg_of X G a15, B__law_heads := ((fun_mk (st := s_law_heads) l15 c15 k15).binds fun _ _ _ _ _ _ us hl => match us, hl with | [_, _], _ => rfl),
        f__law_after := f16, d__law_after := _, F__law_after := fun_mk (st := s_law_after) l16 c16 k16, g__law_after := PySem.W.mg_of X G a16, B__law_after := ((fun_mk (st := s_law_after) l16 c16 k16).binds fun _ _ _ _ _ _ us hl => match us, hl with | [_, _], _ => rfl),
        f__law_departing := f17, d__law_departing := _, F__law_departing := fun_mk (st := s_law_departing) l17 c17 k17, g__law_departing := PySem.W.mg_of X G a17, B__law_departing := ((fun_mk (st := s_law_departing) l17 c17 k17).binds fun _ _ _ _ _ _ us hl => match us, hl with | [_, _, _], _ => rfl),
        f__law_enough := f18, d__law_enough := _, F__law_enough := fun_mk (st := s_law_enough) l18 c18 k18, g__law_enough := PySem.W.mg_of X G a18, B__law_enough := ((fun_mk (st := s_law_enough) l18 c18 k18).binds fun _ _ _ _ _ _ us hl => match us, hl with | [_, _, _], _ => rfl),
        f__law_lists := f19, d__law_lists := _, F__law_lists := fun_mk (st := s_law_lists) l19 c19 k19, g__law_lists := PySem.W.mg_of X G a19, B__law_lists := ((fun_mk (st := s_law_lists) l19 c19 k19).binds fun _ _ _ _ _ _ us hl => match us, hl with | [_, _, _, _], _ => rfl),
        f__law_accepts := f20, d__law_accepts := _, F__law_accepts := fun_mk (st := s_law_accepts) l20 c20 k20, g__law_accepts := PySem.W.mg_of X G a20, B__law_accepts := ((fun_mk (st := s_law_accepts) l20 c20 k20).binds fun _ _ _ _ _ _ us hl => match us, hl with | [_, _, _, _, _], _ => rfl),
        f__law_tracks_papers := f21, d__law_tracks_papers := _, F__law_tracks_papers := fun_mk (st := s_law_tracks_papers) l21 c21 k21, g__law_tracks_papers := PySem.W.mg_of X G a21, B__law_tracks_papers := ((fun_mk (st := s_law_tracks_papers) l21 c21 k21).binds fun _ _ _ _ _ _ us hl => match us, hl with | [_, _, _, _, _], _ => rfl),
        f__law_runs_papers := f22, d__law_runs_papers := _, F__law_runs_papers := fun_mk (st := s_law_runs_papers) l22 c22 k22, g__law_runs_papers := PySem.W.mg_of X G a22, B__law_runs_papers := ((fun_mk (st := s_law_runs_papers) l22 c22 k22).binds fun _ _ _ _ _ _ us hl => match us, hl with | [_, _, _], _ => rfl),
        f__law_single_passes := f23, d__law_single_passes := _, F__law_single_passes := fun_mk (st := s_law_single_passes) l23 c23 k23, g__law_single_passes := PySem.W.mg_of X G a23, B__law_single_passes := ((fun_mk (st := s_law_single_passes) l23 c23 k23).binds fun _ _ _ _ _ _ us hl => match us, hl with | [_], _ => rfl),
        f__law_copied := f24, d__law_copied := _, F__law_copied := fun_mk (st := s_law_copied) l24 c24 k24, g__law_copied := PySem.W.mg_of X G a24, B__law_copied := ((fun_mk (st := s_law_copied) l24 c24 k24).binds fun _ _ _ _ _ _ us hl => match us, hl with | [_], _ => rfl),
        f_law := f25, d_law := _, F_law := fun_mk (st := s_law) l25 c25 k25, g_law := PySem.W.mg_of X G a25, B_law := ((fun_mk (st := s_law) l25 c25 k25).binds fun _ _ _ _ _ _ us hl => match us, hl with | [_], _ => rfl),
        b_all := PySem.W.mg_none_of X G z_all,
        b_bool := PySem.W.mg_none_of X G z_bool,
        b_int := PySem.W.mg_none_of X G z_int,
        b_isinstance := PySem.W.mg_none_of X G z_isinstance,
        b_len := PySem.W.mg_none_of X G z_len,
        b_list := PySem.W.mg_none_of X G z_list,
        b_range := PySem.W.mg_none_of X G z_range,
        b_set := PySem.W.mg_none_of X G z_set,
        b_sorted := PySem.W.mg_none_of X G z_sorted,
        b_zip := PySem.W.mg_none_of X G z_zip,
        kno := kno_of hkn }, rfl, fun s v => .of_eq rfl⟩
theorem law_ok {P : Program} {w : World} {K : PySem.W.Frag} {mg : Str → Option Value} {base : Heap} (T : Txt K mg) (math : ∀ ns : List Int, ns.length ≤ 63 → m_law [.list (ns.map PyData.int)] = .ok (.bool true)) : FnOk P w K mg base (L2.CX P w) 4 T.f_law T.d_law ["script"] spL := fn_law (ok_law T) math
end LW
open PySem PySem.W PyProof.Rows
set_option maxHeartbeats 0 in
theorem PySem.Challenge.cw_trackswhole_k68_whole_passes_that_are_en_holds : PySem.Challenge.rw_trackswhole_k68_whole_passes_that_are_en.Holds := by
  w_on; o_law; k_head; (case hw => w_witness2)
  k_fill
  refine L2.walk_of (l := PySem.Challenge.rw_trackswhole_k68_whole_passes_that_are_en) (n := 63) (k := 4) (x := "script") (CX := fun w => L2.CX PySem.Challenge.rw_trackswhole_k68_whole_passes_that_are_en.prog w) (sp := fun _ => VL.spL) rfl (by decide) rfl ⟨rfl, by decide, by decide⟩ (fun w h Y => PySem.W.kIn_of Y) ?F ?S (fun _ _ _ _ _ h => VL.cx_false h)
  case S =>
    intro w H a ns hl hO hS
    exact VL.spL_of hl hS (by kernel_rfl)
  case F =>
    intro w mg fa h KX G hmg
    obtain ⟨T, e, hb⟩ := LW.txt_mk KX G (a1 := by k_is) (l1 := by k_is) (c1 := by k_is) (k1 := by k_is) (a2 := by k_is) (l2 := by k_is) (c2 := by k_is) (k2 := by k_is) (a3 := by k_is) (l3 := by k_is) (c3 := by k_is) (k3 := by k_is) (a4 := by k_is) (l4 := by k_is) (c4 := by k_is) (k4 := by k_is) (a5 := by k_is) (l5 := by k_is) (c5 := by k_is) (k5 := by k_is) (a6 := by k_is) (l6 := by k_is) (c6 := by k_is) (k6 := by k_is) (a7 := by k_is) (l7 := by k_is) (c7 := by k_is) (k7 := by k_is) (a8 := by k_is) (l8 := by k_is) (c8 := by k_is) (k8 := by k_is) (a9 := by k_is) (l9 := by k_is) (c9 := by k_is) (k9 := by k_is) (a10 := by k_is) (l10 := by k_is) (c10 := by k_is) (k10 := by k_is) (a11 := by k_is) (l11 := by k_is) (c11 := by k_is) (k11 := by k_is) (a12 := by k_is) (l12 := by k_is) (c12 := by k_is) (k12 := by k_is) (a13 := by k_is) (l13 := by k_is) (c13 := by k_is) (k13 := by k_is) (a14 := by k_is) (l14 := by k_is) (c14 := by k_is) (k14 := by k_is) (a15 := by k_is) (l15 := by k_is) (c15 := by k_is) (k15 := by k_is) (a16 := by k_is) (l16 := by k_is) (c16 := by k_is) (k16 := by k_is) (a17 := by k_is) (l17 := by k_is) (c17 := by k_is) (k17 := by k_is) (a18 := by k_is) (l18 := by k_is) (c18 := by k_is) (k18 := by k_is) (a19 := by k_is) (l19 := by k_is) (c19 := by k_is) (k19 := by k_is) (a20 := by k_is) (l20 := by k_is) (c20 := by k_is) (k20 := by k_is) (a21 := by k_is) (l21 := by k_is) (c21 := by k_is) (k21 := by k_is) (a22 := by k_is) (l22 := by k_is) (c22 := by k_is) (k22 := by k_is) (a23 := by k_is) (l23 := by k_is) (c23 := by k_is) (k23 := by k_is) (a24 := by k_is) (l24 := by k_is) (c24 := by k_is) (k24 := by k_is) (a25 := by k_is) (l25 := by k_is) (c25 := by k_is) (k25 := by k_is) (z_all := by k_is) (z_bool := by k_is) (z_int := by k_is) (z_isinstance := by k_is) (z_len := by k_is) (z_list := by k_is) (z_range := by k_is) (z_set := by k_is) (z_sorted := by k_is) (z_zip := by k_is) (hkn := by kernel_rfl)
    have e2 := hmg.symm.trans T.g_law
    cases e2
    exact ⟨T.d_law, hb, fun base _ _ => LW.law_ok T LW.math⟩
