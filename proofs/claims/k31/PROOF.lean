import PyProof.Rows.All
import HandS.ForMost
import HandS.Deep
import HandS.Exc
import HandS.ExcOwn
import HandS.TryOnly
import HandS.CallSlots
import HandS.WordsExc
import HandS.TupAny
import HandS.Wide
import HandS.IsInst
import HandS.Flow
import HandS.Conv
import HandS.Ends
import HandS.ExcIs
import HandS.Flt
import HandS.SetFor
import HandS.SortInts
import HandS.Style
import HandS.Rev
import HandS.GenList
import HandS.New0
import KE.SortData
import PyProof.Rows.SortWalk
import KE.DataMinMax
import HandS.SortKw
import HandS.DictComp
import HandS.Strs
import PyProof.Rows.SortShellAny
import PyProof.SetRoads
import HandS.WideMore
import Open.Row
import PySem.Challenge.RW_trackswhole_k31_judge_of_unequal_halves
set_option Elab.async false
set_option linter.all false
set_option maxRecDepth 100000
set_option maxHeartbeats 1000000
namespace VL
open PySem PySem.Spec PyProof.Rows L2

inductive R (α : Type) where
  | stuck
  | err (c : Str)
  | ok (a : α)
def R.bind {α β : Type} (x : R α) (f : α → R β) : R β := match x with
  | .stuck => .stuck
  | .err c => .err c
  | .ok a => f a
instance : Monad R where
  pure := R.ok
  bind := R.bind
@[simp] theorem R.bind_ok {α β : Type} (a : α) (f : α → R β) : R.bind (.ok a) f = f a := rfl
@[simp] theorem R.bind_err {α β : Type} (c : Str) (f : α → R β) : R.bind (.err c) f = .err c := rfl
@[simp] theorem R.bind_stuck {α β : Type} (f : α → R β) : R.bind .stuck f = .stuck := rfl
abbrev D := PyData
abbrev KS := Sum (List L2.Key) (List (List L2.Key))
def keyD : L2.Key → PyData
  | .inl i => .int i
  | .inr x => .str x
def KS.data : KS → List PyData
  | .inl ks => ks.map keyD
  | .inr ks => ks.map fun k => .tuple (k.map keyD)
def KS.len : KS → Nat
  | .inl ks => ks.length
  | .inr ks => ks.length
def hoD : KS → List V → HO
  | .inl ks, vs => .dK (ks.zip vs)
  | .inr ks, vs => .dT (ks.zip vs)
def clsOf (K : PySem.W.Frag) (c : Str) : Option Addr := match PySem.W.nsIn K mainGlobals c with
  | some (some (.ref C)) => some C
  | _ => none
def insD (c : Str) (ns : List Str) (ds : List PyData) : PyData := .dict ((.none, .str c) :: (ns.map PyData.str).zip ds)
def KS.kind : KS → Bool
  | .inl _ => false
  | .inr _ => true
def dctD (ks : KS) (ds : List PyData) : PyData := .dict ((.none, .bool ks.kind) :: ks.data.zip ds)
def setD (ns : List Int) : PyData := .dict [(.none, .list (ns.map PyData.int))]
def NoT (o : HO) : Prop := (∀ ys, o ≠ .tup ys) ∧ ∀ u ys, o ≠ .frz u (.tup ys)
theorem NoT.lst (vs : List V) : NoT (.lst vs) := ⟨fun ys h => (nomatch h), fun u ys h => (nomatch h)⟩
theorem NoT.hoD (ks : KS) (vs : List V) : NoT (hoD ks vs) := by cases ks <;> exact ⟨fun ys h => (nomatch h), fun u ys h => (nomatch h)⟩
theorem NoT.ins (C dx : Addr) (fs : List (Str × V)) : NoT (.ins C dx fs) := ⟨fun ys h => (nomatch h), fun u ys h => (nomatch h)⟩
theorem NoT.own (a : Addr) : NoT (.own a) := ⟨fun ys h => (nomatch h), fun u ys h => (nomatch h)⟩

def TupAt (K : PySem.W.Frag) (F : Hp) (a : Addr) (xs : List V) : Prop :=
  F a = some (.tup xs) ∨
    ∃ (o : Obj) (its : Array Value) (n : Nat), K.lookup a = some o ∧ o.cls = .type "tuple" ∧ o.data = .seq its n ∧ its.size ≤ sizeLine ∧ Vals xs its.toList
theorem TupAt.sq {K : PySem.W.Frag} {F : Hp} {a : Addr} {xs : List V} (h : TupAt K F a xs) : SqT K F a xs := h.elim (fun z => .inl (.inl z)) .inr
theorem TupAt.mono {K : PySem.W.Frag} {H H' : Hp} {a : Addr} {xs : List V} (e : Same H H') (h : TupAt K H a xs) : TupAt K H' a xs := h.elim (fun z => .inl (e _ _ z)) .inr
mutual
/- the value v is the data d, its lists and tuples in the heap F -/
inductive Is (K : PySem.W.Frag) (F : Hp) : V → D → Prop
  | non : Is K F .non .none
  | bl (b : Bool) : Is K F (.bl b) (.bool b)
  | int (i : Int) : Is K F (.int i) (.int i)
  | str (x : Str) : Is K F (.str x) (.str x)
  | lst {a : Addr} {xs : List V} {ds : List D} : Rd F a (.lst xs) → IsAll K F xs ds → Is K F (.ref a) (.list ds)
  | tup {a : Addr} {xs : List V} {ds : List D} : TupAt K F a xs → IsAll K F xs ds → Is K F (.ref a) (.tuple ds)
  /- a caught exception at a, of the class that stands under the name c -/
  | exc (a : Addr) (c : Str) : Is K F (.ref a) (.dict [(.none, .int (a : Int)), (.none, .str c)])
  | dct {a : Addr} {ks : KS} {vs : List V} {ds : List D} : Rd F a (hoD ks vs) → ks.len = vs.length → IsAll K F vs ds → Is K F (.ref a) (dctD ks ds)
  | sst {a : Addr} {ns : List Int} {n : Nat} : F a = some (.set (fun j => decide (j ∈ ns)) n) → Is K F (.ref a) (setD ns)
  | ins {a C dx : Addr} {c : Str} {ns : List Str} {vs : List V} {ds : List D} : clsOf K c = some C → F a = some (.ins C dx (ns.zip vs)) → ns.length = vs.length → IsAll K F vs ds → Is K F (.ref a) (insD c ns ds)
inductive IsAll (K : PySem.W.Frag) (F : Hp) : List V → List D → Prop
  | nil : IsAll K F [] []
  | cons {v : V} {vs : List V} {d : D} {ds : List D} : Is K F v d → IsAll K F vs ds → IsAll K F (v :: vs) (d :: ds)
end
mutual
theorem Is.dp {K : PySem.W.Frag} {F : Hp} : ∀ {d : D} {v : V}, d.canLay0 = true → Is K F v d → Dp K F v d
  | .none, _, _, h => by cases h; exact .non
  | .bool b, _, _, h => by cases h; exact .bl b
  | .int i, _, _, h => by cases h; exact .int i
  | .str x, _, _, h => by cases h; exact .str x
  | .list ds, _, l, h => by cases h with | lst hs ha => exact .lst (.inl hs) (IsAll.dp (by simpa only [PyData.canLay0] using l) ha)
  | .tuple ds, _, l, h => by cases h with | tup hs ha => exact .tup hs.sq (IsAll.dp (by simpa only [PyData.canLay0] using l) ha)
  | .dict _, _, l, h => by simp [PyData.canLay0] at l
theorem IsAll.dp {K : PySem.W.Frag} {F : Hp} : ∀ {ds : List D} {vs : List V}, PyData.canLayAll0 ds = true → IsAll K F vs ds → DpAll K F vs ds
  | [], _, _, h => by cases h; exact .nil
  | d :: ds, _, l, h => by
    cases h with
    | cons h1 h2 =>
      simp only [PyData.canLayAll0, Bool.and_eq_true] at l
      exact .cons (Is.dp l.1 h1) (IsAll.dp l.2 h2)
end
theorem Rd.mono {H H' : Hp} {a : Addr} {o : HO} (e : Same H H') (h : Rd H a o) : Rd H' a o := by
  rcases h with h | ⟨u, h⟩
  · exact .inl (e _ _ h)
  · exact .inr ⟨u, e _ _ h⟩
theorem Same.tupl {K : PySem.W.Frag} {H H' : Hp} {a : Addr} {xs : List V} (e : Same H H') (h : TupAt K H a xs) : SqT K H' a xs := (h.mono e).sq
theorem Is.mono {K : PySem.W.Frag} {F F' : Hp} (e : Same F F') {d : D} {v : V} (h : Is K F v d) : Is K F' v d :=
  Is.rec (motive_1 := fun v d _ => Is K F' v d) (motive_2 := fun vs ds _ => IsAll K F' vs ds) .non (fun b => .bl b) (fun i => .int i) (fun x => .str x) (fun hs _ ih => .lst (Rd.mono e hs) ih) (fun hs _ ih => .tup (TupAt.mono e hs) ih)
    (fun a c => .exc a c) (fun hr hl _ ih => .dct (Rd.mono e hr) hl ih) (fun h => .sst (e _ _ h)) (fun hc hr hl _ ih => .ins hc (e _ _ hr) hl ih) .nil (fun _ _ i1 i2 => .cons i1 i2) h
theorem IsAll.mono {K : PySem.W.Frag} {F F' : Hp} (e : Same F F') : ∀ {ds : List D} {vs : List V}, IsAll K F vs ds → IsAll K F' vs ds
  | [], _, h => by cases h; exact .nil
  | d :: ds, _, h => by cases h with | cons h1 h2 => exact .cons (Is.mono e h1) (IsAll.mono e h2)
theorem IsAll.len {K : PySem.W.Frag} {F : Hp} : ∀ {ds : List D} {vs : List V}, IsAll K F vs ds → vs.length = ds.length
  | [], _, h => by cases h; rfl
  | d :: ds, _, h => by
    cases h with
    | cons h1 h2 => rw [List.length_cons, List.length_cons, IsAll.len h2]
theorem IsAll.get {K : PySem.W.Frag} {F : Hp} : ∀ {ds : List D} {vs : List V} {i : Nat} {v : V}, IsAll K F vs ds → vs[i]? = some v → ∃ d, ds[i]? = some d ∧ Is K F v d
  | [], _, i, v, h, e => by cases h; simp at e
  | d :: ds, _, 0, v, h, e => by
    cases h with
    | cons h1 h2 => simp at e; subst e; exact ⟨d, rfl, h1⟩
  | d :: ds, _, i + 1, v, h, e => by
    cases h with
    | cons h1 h2 =>
      obtain ⟨x, h3, h4⟩ := IsAll.get (i := i) h2 (by simpa using e)
      exact ⟨x, by simpa using h3, h4⟩
theorem IsAll.get' {K : PySem.W.Frag} {F : Hp} : ∀ {ds : List D} {vs : List V} {i : Nat} {d : D}, IsAll K F vs ds → ds[i]? = some d → ∃ v, vs[i]? = some v ∧ Is K F v d
  | [], _, i, v, h, e => by simp at e
  | d :: ds, _, 0, v, h, e => by
    cases h with
    | cons h1 h2 => simp at e; subst e; exact ⟨_, rfl, h1⟩
  | d :: ds, _, i + 1, v, h, e => by
    cases h with
    | cons h1 h2 =>
      obtain ⟨x, h3, h4⟩ := IsAll.get' (i := i) h2 (by simpa using e)
      exact ⟨x, by simpa using h3, h4⟩
theorem IsAll.append {K : PySem.W.Frag} {F : Hp} : ∀ {ds es : List D} {vs us : List V}, IsAll K F vs ds → IsAll K F us es → IsAll K F (vs ++ us) (ds ++ es)
  | [], _, _, _, h, g => by cases h; exact g
  | d :: ds, es, _, us, h, g => by
    cases h with
    | cons h1 h2 => exact .cons h1 (IsAll.append h2 g)
theorem IsAll.take {K : PySem.W.Frag} {F : Hp} : ∀ (n : Nat) {ds : List D} {vs : List V}, IsAll K F vs ds → IsAll K F (vs.take n) (ds.take n)
  | 0, _, _, h => by simp; exact .nil
  | n + 1, [], _, h => by cases h; simp; exact .nil
  | n + 1, d :: ds, _, h => by
    cases h with
    | cons h1 h2 => exact .cons h1 (IsAll.take n h2)
theorem IsAll.drop {K : PySem.W.Frag} {F : Hp} : ∀ (n : Nat) {ds : List D} {vs : List V}, IsAll K F vs ds → IsAll K F (vs.drop n) (ds.drop n)
  | 0, _, _, h => by simpa using h
  | n + 1, [], _, h => by cases h; simp; exact .nil
  | n + 1, d :: ds, _, h => by
    cases h with
    | cons h1 h2 => simpa using IsAll.drop n h2
theorem IsAll.set {K : PySem.W.Frag} {F : Hp} {x : D} {u : V} (hx : Is K F u x) : ∀ (n : Nat) {ds : List D} {vs : List V}, IsAll K F vs ds → IsAll K F (vs.set n u) (ds.set n x)
  | _, [], _, h => by cases h; simp; exact .nil
  | 0, d :: ds, _, h => by
    cases h with
    | cons h1 h2 => exact .cons hx h2
  | n + 1, d :: ds, _, h => by
    cases h with
    | cons h1 h2 => exact .cons h1 (IsAll.set hx n h2)
theorem IsAll.reverse {K : PySem.W.Frag} {F : Hp} : ∀ {ds : List D} {vs : List V}, IsAll K F vs ds → IsAll K F vs.reverse ds.reverse
  | [], _, h => by cases h; exact .nil
  | d :: ds, _, h => by
    cases h with
    | cons h1 h2 =>
      rw [List.reverse_cons, List.reverse_cons]
      exact IsAll.append (IsAll.reverse h2) (.cons h1 .nil)
/- data without lists -/
mutual
def lf : D → Bool
  | .list _ => false
  | .dict _ => false
  | .tuple xs => lfs xs
  | _ => true
def lfs : List D → Bool
  | [] => true
  | x :: xs => lf x && lfs xs
end
@[simp] theorem lf_int (i : Int) : lf (.int i) = true := by simp [lf]
@[simp] theorem lf_bool (i : Bool) : lf (.bool i) = true := by simp [lf]
@[simp] theorem lf_str (i : Str) : lf (.str i) = true := by simp [lf]
@[simp] theorem lf_none : lf .none = true := by simp [lf]
@[simp] theorem lf_tuple (xs : List D) : lf (.tuple xs) = lfs xs := by simp [lf]
@[simp] theorem lf_list (xs : List D) : lf (.list xs) = false := by simp [lf]
@[simp] theorem lfs_nil : lfs [] = true := by simp [lfs]
@[simp] theorem lfs_cons (x : D) (xs : List D) : lfs (x :: xs) = (lf x && lfs xs) := by simp [lfs]
mutual
theorem Is.lfree {K : PySem.W.Frag} {F F' : Hp} (e : ∀ b, (∃ ys, Rd F b (.tup ys)) → F' b = F b) : ∀ {d : D} {v : V}, lf d = true → Is K F v d → Is K F' v d
  | .none, _, _, h => by cases h; exact .non
  | .bool b, _, _, h => by cases h; exact .bl b
  | .int i, _, _, h => by cases h; exact .int i
  | .str x, _, _, h => by cases h; exact .str x
  | .list ds, _, l, h => by simp at l
  | .tuple ds, _, l, h => by
    cases h with
    | tup hs ha =>
      refine .tup ?_ (IsAll.lfree e (by simpa using l) ha)
      rcases hs with hs | hs
      · exact .inl ((e _ ⟨_, .inl hs⟩).trans hs)
      · exact .inr hs
  | .dict _, _, l, h => by simp [lf] at l
theorem IsAll.lfree {K : PySem.W.Frag} {F F' : Hp} (e : ∀ b, (∃ ys, Rd F b (.tup ys)) → F' b = F b) : ∀ {ds : List D} {vs : List V}, lfs ds = true → IsAll K F vs ds → IsAll K F' vs ds
  | [], _, _, h => by cases h; exact .nil
  | d :: ds, _, l, h => by
    cases h with
    | cons h1 h2 =>
      simp at l
      exact .cons (Is.lfree e l.1 h1) (IsAll.lfree e l.2 h2)
end

def NT (H : Hp) (a : Addr) : Prop := H a = none ∨ ∃ ys, H a = some (.tup ys)
theorem NT.back {H H1 : Hp} {a : Addr} (s : Same H H1) (h : NT H1 a) : NT H a := by
  cases q : H a with
  | none => exact .inl q
  | some o =>
    rcases h with h | ⟨ys, h⟩
    · rw [s _ _ q] at h; cases h
    · rw [s _ _ q] at h; cases h; exact .inr ⟨ys, q⟩
theorem NT.no {H : Hp} {a : Addr} {o : HO} (h : NT H a) (e : H a = some o) (n : ∀ ys, o ≠ .tup ys) : False := by
  rcases h with h | ⟨ys, h⟩
  · rw [e] at h; cases h
  · rw [e] at h; cases h; exact n _ rfl
structure Ext (B H B' H' : Hp) : Prop where
  hh : Same H H'
  bb : Same B B'
  bh : Same B' H'
  nw : ∀ a, B a = none → B' a ≠ none → NT H a
theorem Ext.refl {B H : Hp} (h : Same B H) : Ext B H B H := ⟨Same.refl H, Same.refl B, h, fun a x y => absurd x y⟩
theorem Ext.trans {B H B1 H1 B2 H2 : Hp} (a : Ext B H B1 H1) (b : Ext B1 H1 B2 H2) : Ext B H B2 H2 :=
  ⟨a.hh.trans b.hh, a.bb.trans b.bb, b.bh, fun x h1 h2 => by
    cases e : B1 x with
    | none => exact (b.nw x e h2).back a.hh
    | some o => exact a.nw x h1 (by rw [e]; exact fun z => nomatch z)⟩
theorem same_upd {H : Hp} {p : Addr} {o : HO} (h : H p = none) : Same H (upd H p o) := fun b u e => by
  rw [upd_ne (ne_of_none e h)]
  exact e
theorem Ext.new {B H : Hp} {p : Addr} {o : HO} (h : Same B H) (n : H p = none) : Ext B H (upd B p o) (upd H p o) := by
  refine ⟨same_upd n, same_upd (Same.free h n), fun b x e => ?_, fun a h1 h2 => ?_⟩
  · by_cases hb : b = p
    · subst hb; rw [upd_same] at e ⊢; exact e
    · rw [upd_ne hb] at e ⊢; exact h _ _ e
  · by_cases hb : a = p
    · subst hb; exact .inl n
    · rw [upd_ne hb] at h2; exact absurd h1 h2
theorem Ext.own {B H : Hp} {p : Addr} {o : HO} (h : Same B H) (n : H p = none) : Ext B H B (upd H p o) :=
  ⟨same_upd n, Same.refl B, h.trans (same_upd n), fun a x y => absurd x y⟩

def Small (K : PySem.W.Frag) (H : Hp) : Prop := ∀ a xs, SqL K H a xs ∨ SqT K H a xs → xs.length ≤ sizeLine
theorem Inv.small {X : Cx} {pins : List (Addr × Obj)} {σ : L2.St} {H : Hp} {s : Shared} (I : Inv X pins σ H s) : Small X.K H := fun a xs h => by
  rcases h with h | h
  · obtain ⟨_, _, _, z⟩ := I.list h; exact z
  · obtain ⟨_, _, _, z⟩ := I.tuple h; exact z
theorem pe_small {X : Cx} {e : Expr} {t : TE} (h : PE X e t) : PE X e (fun σ H Q => t σ H fun v H' => Small X.K H' → Q v H') := ⟨fun pins s σ H Q I hw =>
  thn (h.run pins s σ H _ I hw) fun u s' ⟨v, H', I', r, q⟩ => ⟨v, H', I', r, q (Inv.small I')⟩⟩
theorem Small.list {K : PySem.W.Frag} {B H : Hp} {v : V} {ds : List D} (s : Small K H) (e : Same B H) (h : Is K B v (.list ds)) : ds.length ≤ sizeLine := by
  cases h with
  | lst hs ha => rw [← IsAll.len ha]; exact s _ _ (.inl (.inl (Rd.mono e hs)))
theorem Small.tuple {K : PySem.W.Frag} {B H : Hp} {v : V} {ds : List D} (s : Small K H) (e : Same B H) (h : Is K B v (.tuple ds)) : ds.length ≤ sizeLine := by
  cases h with
  | tup hs ha => rw [← IsAll.len ha]; exact s _ _ (.inr (Same.tupl e hs))

abbrev PEnv := List (Option D)
structure RF (K : PySem.W.Frag) (B : Hp) (σ : L2.St) (ρ : PEnv) : Prop where
  len : σ.length = ρ.length
  at_ : ∀ (i : Nat) (d : D), ρ[i]? = some (some d) → ∃ v, σ[i]? = some (some v) ∧ Is K B v d
theorem RF.mono {K : PySem.W.Frag} {B B' : Hp} {σ : L2.St} {ρ : PEnv} (h : RF K B σ ρ) (e : Same B B') : RF K B' σ ρ := ⟨h.len, fun i d x => by
  obtain ⟨v, h1, h2⟩ := h.at_ i d x
  exact ⟨v, h1, Is.mono e h2⟩⟩
def ErrAt (X : Cx) (W : WX) (c : Str) (σ : L2.St) (H : Hp) : Prop := ∃ C, X.mg c = some (.ref C) ∧ W (.ref C) none σ H
def Pst {α : Type} (X : Cx) (W : WX) (σ : L2.St) (H : Hp) (k : α → Prop) : R α → Prop
  | .stuck => False
  | .err c => ∀ H', Same H H' → ErrAt X W c σ H'
  | .ok a => k a
theorem Pst.imp {α : Type} {X : Cx} {W : WX} {σ : L2.St} {H : Hp} {k k' : α → Prop} (h : ∀ a, k a → k' a) : ∀ {r : R α}, Pst X W σ H k r → Pst X W σ H k' r
  | .stuck, x => x
  | .err _, x => x
  | .ok a, x => h a x
def KV1 (X : Cx) (B H : Hp) (Q : VK) (d : D) : Prop := ∀ v H' B', Ext B H B' H' → Small X.K H' → Is X.K B' v d → Q v H'
structure VE (X : Cx) (W : WX) (e : Expr) (f : PEnv → R D) : Prop where
  ex : ∃ t, PE X e t ∧ ∀ σ H B ρ Q, Same B H → RF X.K B σ ρ → Pst X W σ H (KV1 X B H Q) (f ρ) → t σ H Q
def KB1 (B H : Hp) (Q : Bool → Hp → Prop) (b : Bool) : Prop := ∀ H' B', Ext B H B' H' → Q b H'
structure VT (X : Cx) (W : WX) (e : Expr) (f : PEnv → R Bool) : Prop where
  ex : ∃ t, PT X e t ∧ ∀ σ H B ρ Q, Same B H → RF X.K B σ ρ → Pst X W σ H (KB1 B H Q) (f ρ) → t σ H Q
def KA1 (X : Cx) (B H : Hp) (Q : List V → Hp → Prop) (ds : List D) : Prop := ∀ vs H' B', Ext B H B' H' → IsAll X.K B' vs ds → Q vs H'
structure VA (X : Cx) (W : WX) (es : List Expr) (f : PEnv → R (List D)) : Prop where
  ex : ∃ t, PA X es t ∧ ∀ σ H B ρ Q, Same B H → RF X.K B σ ρ → Pst X W σ H (KA1 X B H Q) (f ρ) → t σ H Q

section
variable {X : Cx} {W : WX} {a b c : Expr} {es : List Expr} {pos : Pos} {fa fb fc : PEnv → R D}
theorem VE.mk' {e : Expr} {f : PEnv → R D} {t : TE} (h : PE X e t)
    (q : ∀ σ H B ρ Q, Same B H → RF X.K B σ ρ → Pst X W σ H (fun d => ∀ v H' B', Ext B H B' H' → Is X.K B' v d → Q v H') (f ρ) → t σ H Q) : VE X W e f :=
  ⟨_, pe_small h, fun σ H B ρ Q s r p => q σ H B ρ _ s r (Pst.imp (fun d k v H' B' e dp sm => k v H' B' e sm dp) p)⟩

def vVar (i : Nat) : PEnv → R D := fun ρ => match ρ[i]? with
  | some (some d) => .ok d
  | _ => .stuck
def vC (d : D) : PEnv → R D := fun _ => .ok d
theorem vv (i : Nat) {x : Str} (hN : X.N[i]? = some x := by rfl) (hv : Vis X.env.scope x := by first | exact Or.inl rfl | exact Or.inr (Or.inl rfl) | exact Or.inr (Or.inr rfl)) (hd : (x == ("__debug__" : Str)) = false := by decide)
    (hcd : (x == ("__classdict__" : Str)) = false := by decide) : VE X W (.Name x pos) (vVar i) := by
  refine VE.mk' (pe_var hN hv hd hcd) fun σ H B ρ Q s r p => ?_
  unfold vVar at p
  split at p
  · rename_i d e
    obtain ⟨v, e1, dp⟩ := r.at_ i d e
    exact ⟨v, e1, p v H B (.refl s) dp⟩
  · exact p.elim
theorem vint {i j} : VE X W (.Constant (.int i) j pos) (vC (.int i)) := VE.mk' pe_int fun σ H B ρ Q s r p => p _ H B (.refl s) (.int i)
theorem vbool {i j} : VE X W (.Constant (.bool i) j pos) (vC (.bool i)) := VE.mk' pe_bl fun σ H B ρ Q s r p => p _ H B (.refl s) (.bl i)
theorem vstr {i j} : VE X W (.Constant (.str i) j pos) (vC (.str i)) := VE.mk' pe_str fun σ H B ρ Q s r p => p _ H B (.refl s) (.str i)
theorem vglob {x : Str} {v : V} {u : Value} {d : D} (hg : Gl X x) (hm : X.mg x = some u) (r : RelV v u) (hd : ∀ H, Is X.K H v d) (hdb : (x == ("__debug__" : Str)) = false := by decide) : VE X W (.Name x pos) (vC d) :=
  VE.mk' (pe_glob hg hm r hdb) fun σ H B ρ Q s _ p => p v H B (.refl s) (hd B)

def v2 (g : D → D → R D) (fa fb : PEnv → R D) : PEnv → R D := fun ρ => (fa ρ).bind fun d => (fb ρ).bind fun e => g d e
def v1 (g : D → R D) (fa : PEnv → R D) : PEnv → R D := fun ρ => (fa ρ).bind g
theorem two {ta tb : TE} (ha : ∀ σ H B ρ Q, Same B H → RF X.K B σ ρ → Pst X W σ H (KV1 X B H Q) (fa ρ) → ta σ H Q) (hb : ∀ σ H B ρ Q, Same B H → RF X.K B σ ρ → Pst X W σ H (KV1 X B H Q) (fb ρ) → tb σ H Q)
    {α : Type} {σ : L2.St} {H B : Hp} {ρ : PEnv} {g : D → D → R α} {K : α → Prop} {Q : V → V → Hp → Prop} (s : Same B H) (r : RF X.K B σ ρ)
    (p : Pst X W σ H K ((fa ρ).bind fun d => (fb ρ).bind fun e => g d e))
    (q : ∀ d e x y H' B', Ext B H B' H' → Small X.K H' → Is X.K B' x d → Is X.K B' y e → Pst X W σ H' K (g d e) → Q x y H') : ta σ H fun x H1 => tb σ H1 fun y H2 => Q x y H2 := by
  refine ha σ H B ρ _ s r ?_
  generalize hfa : fa ρ = ra at p ⊢
  cases ra with
  | stuck => exact p
  | err c => exact p
  | ok d =>
    intro x H1 B1 e1 sm1 d1
    refine hb σ H1 B1 ρ _ e1.bh (r.mono e1.bb) ?_
    simp only [R.bind_ok] at p
    generalize hfb : fb ρ = rb at p ⊢
    cases rb with
    | stuck => exact p
    | err c => exact fun H' z => p H' (e1.hh.trans z)
    | ok e =>
      intro y H2 B2 e2 sm2 d2
      refine q d e x y H2 B2 (e1.trans e2) sm2 (Is.mono e2.bb d1) d2 ?_
      simp only [R.bind_ok] at p
      generalize g d e = rg at p ⊢
      cases rg with
      | stuck => exact p
      | err c => exact fun H' z => p H' ((e1.trans e2).hh.trans z)
      | ok z => exact p
theorem one {ta : TE} (ha : ∀ σ H B ρ Q, Same B H → RF X.K B σ ρ → Pst X W σ H (KV1 X B H Q) (fa ρ) → ta σ H Q)
    {α : Type} {σ : L2.St} {H B : Hp} {ρ : PEnv} {g : D → R α} {K : α → Prop} {Q : V → Hp → Prop} (s : Same B H) (r : RF X.K B σ ρ)
    (p : Pst X W σ H K ((fa ρ).bind g))
    (q : ∀ d x H' B', Ext B H B' H' → Small X.K H' → Is X.K B' x d → Pst X W σ H' K (g d) → Q x H') : ta σ H Q := by
  refine ha σ H B ρ _ s r ?_
  generalize hfa : fa ρ = ra at p ⊢
  cases ra with
  | stuck => exact p
  | err c => exact p
  | ok d =>
    intro x H1 B1 e1 sm1 d1
    refine q d x H1 B1 e1 sm1 d1 ?_
    simp only [R.bind_ok] at p
    generalize g d = rg at p ⊢
    cases rg with
    | stuck => exact p
    | err c => exact fun H' z => p H' (e1.hh.trans z)
    | ok z => exact p
def Rule2 (X : Cx) (W : WX) (r : R2) (g : D → D → R D) : Prop := ∀ d e x y σ H B Q, Same B H → Small X.K H → Is X.K B x d → Is X.K B y e → Pst X W σ H (fun d' => ∀ v H' B', Ext B H B' H' → Is X.K B' v d' → Q v H') (g d e) → r x y H Q
def Rule1 (X : Cx) (W : WX) (r : V → Hp → VK → Prop) (g : D → R D) : Prop := ∀ d x σ H B Q, Same B H → Small X.K H → Is X.K B x d → Pst X W σ H (fun d' => ∀ v H' B', Ext B H B' H' → Is X.K B' v d' → Q v H') (g d) → r x H Q
theorem kv_ext {B H B1 H1 : Hp} {Q : VK} {d : D} (e : Ext B H B1 H1) (p : ∀ v H' B', Ext B H B' H' → Is X.K B' v d → Q v H') : ∀ v H' B', Ext B1 H1 B' H' → Is X.K B' v d → Q v H' := fun v H' B' e' dp => p v H' B' (e.trans e') dp
theorem ve2 {e : Expr} {r : R2} {g : D → D → R D} (mk : ∀ {ta tb : TE}, PE X a ta → PE X b tb → PE X e (tOp r ta tb)) (hr : Rule2 X W r g) (ha : VE X W a fa) (hb : VE X W b fb) : VE X W e (v2 g fa fb) := by
  obtain ⟨ta, pa, qa⟩ := ha.ex
  obtain ⟨tb, pb, qb⟩ := hb.ex
  refine VE.mk' (mk pa pb) fun σ H B ρ Q s rf p => ?_
  exact two qa qb s rf p fun d e x y H' B' ex sm dx dy pg => hr d e x y σ H' B' Q ex.bh sm dx dy (Pst.imp (fun a k => kv_ext ex k) pg)
theorem ve1 {e : Expr} {r : V → Hp → VK → Prop} {g : D → R D} (mk : ∀ {ta : TE}, PE X a ta → PE X e (tUn r ta)) (hr : Rule1 X W r g) (ha : VE X W a fa) : VE X W e (v1 g fa) := by
  obtain ⟨ta, pa, qa⟩ := ha.ex
  refine VE.mk' (mk pa) fun σ H B ρ Q s rf p => ?_
  exact one qa s rf p fun d x H' B' ex sm dx pg => hr d x σ H' B' Q ex.bh sm dx (Pst.imp (fun a k => kv_ext ex k) pg)
end
end VL

namespace VL
open PySem PySem.Spec PyProof.Rows L2

noncomputable instance (a b : Int) : Decidable (IntMulOk a b) := Classical.propDecidable _

def vadd : D → D → R D
  | .int i, .int j => .ok (.int (i + j))
  | .str x, .str y => if x.length + y.length ≤ sizeLine then .ok (.str (x ++ y)) else .stuck
  | .list xs, .list ys => if xs.length + ys.length ≤ sizeLine then .ok (.list (xs ++ ys)) else .stuck
  | .tuple xs, .tuple ys => if xs.length + ys.length ≤ sizeLine then .ok (.tuple (xs ++ ys)) else .stuck
  | _, _ => .stuck
def vsub : D → D → R D
  | .int i, .int j => .ok (.int (i - j))
  | _, _ => .stuck
noncomputable def vmul : D → D → R D
  | .int i, .int j => if IntMulOk i j then .ok (.int (i * j)) else .stuck
  | _, _ => .stuck
noncomputable def vfdiv : D → D → R D
  | .int i, .int j => @ite _ (0 < j ∧ j < 2 ^ 250) (Classical.propDecidable _) (.ok (.int (i / j))) .stuck
  | _, _ => .stuck
def vmod : D → D → R D
  | .int i, .int j => if 0 < j then .ok (.int (i % j)) else .stuck
  | _, _ => .stuck
noncomputable def vpow : D → D → R D
  | .int i, .int j => @ite _ (0 ≤ j ∧ j ≤ 1000 ∧ i.natAbs < 2 ^ 64) (Classical.propDecidable _) (.ok (.int (i ^ j.toNat))) .stuck
  | _, _ => .stuck
def vneg : D → R D
  | .int i => .ok (.int (-i))
  | _ => .stuck
def vlt : D → D → R D
  | .int i, .int j => .ok (.bool (decide (i < j)))
  | _, _ => .stuck
def vle : D → D → R D
  | .int i, .int j => .ok (.bool (decide (i ≤ j)))
  | _, _ => .stuck
def vgt : D → D → R D
  | .int i, .int j => .ok (.bool (decide (j < i)))
  | _, _ => .stuck
def vge : D → D → R D
  | .int i, .int j => .ok (.bool (decide (j ≤ i)))
  | _, _ => .stuck
def vEq (d e : D) : R Bool := if SeqAt.shaped d = true ∧ SeqAt.shaped e = true then .ok (PyData.eqv d e) else .stuck
def veq (d e : D) : R D := (vEq d e).bind fun b => .ok (.bool b)
def vne (d e : D) : R D := (vEq d e).bind fun b => .ok (.bool (!b))
def visnone : D → R D := fun d => .ok (.bool (match d with | .none => true | _ => false))
def vidx : D → D → R D
  | .list xs, .int i => match atI xs i with | some d => .ok d | none => .stuck
  | .tuple xs, .int i => match atI xs i with | some d => .ok d | none => .stuck
  | .str z, .int i => match atI z.cps.toList i with | some c => if z.length ≤ sizeLine then .ok (.str ⟨#[c]⟩) else .stuck | none => .stuck
  | _, _ => .stuck
def vin (d : D) : D → R Bool
  | .list ds => if SeqAt.shaped d = true ∧ SeqAt.shaped (.list ds) = true then .ok (ds.any fun z => PyData.eqv z d) else .stuck
  | _ => .stuck

section
variable {X : Cx} {W : WX} {a b c : Expr} {es : List Expr} {pos : Pos} {fa fb fc : PEnv → R D} {k : Nat}

theorem atI_all {K : PySem.W.Frag} {F : Hp} {vs : List V} {ds : List D} {i : Int} {d : D} (h : IsAll K F vs ds) (e : atI ds i = some d) : ∃ v, atI vs i = some v ∧ Is K F v d := by
  unfold atI at e ⊢
  rw [IsAll.len h]
  cases q : ixN ds.length i with
  | none => rw [q] at e; simp at e
  | some j =>
    rw [q] at e
    simp only [Option.bind_some] at e ⊢
    exact IsAll.get' h e

theorem r_int {K : Int → Int → Prop} {g : Int → Int → V} {G : D → D → R D} {T : Int → Int → D} (hG : ∀ d e, G d e ≠ .stuck → ∃ i j, d = .int i ∧ e = .int j ∧ K i j ∧ G d e = .ok (T i j)) (hg : ∀ i j F, Is X.K F (g i j) (T i j)) : Rule2 X W (rI K g) G := by
  intro d e x y σ H B Q s sm dx dy p
  have h0 : G d e ≠ .stuck := fun z => by rw [z] at p; exact p
  obtain ⟨i, j, rfl, rfl, hk, eG⟩ := hG d e h0
  rw [eG] at p
  cases dx
  cases dy
  exact ⟨i, j, rfl, rfl, hk, p _ H B (.refl s) (hg i j B)⟩
theorem r_int0 {g : Int → Int → V} {G : D → D → R D} {T : Int → Int → D} (hG : ∀ d e, G d e ≠ .stuck → ∃ i j, d = .int i ∧ e = .int j ∧ G d e = .ok (T i j)) (hg : ∀ i j F, Is X.K F (g i j) (T i j)) : Rule2 X W (rI0 g) G := by
  intro d e x y σ H B Q s sm dx dy p
  have h0 : G d e ≠ .stuck := fun z => by rw [z] at p; exact p
  obtain ⟨i, j, rfl, rfl, eG⟩ := hG d e h0
  rw [eG] at p
  cases dx
  cases dy
  exact ⟨i, j, rfl, rfl, p _ H B (.refl s) (hg i j B)⟩

theorem vsub_ (ha : VE X W a fa) (hb : VE X W b fb) : VE X W (.BinOp a .Sub b pos) (v2 vsub fa fb) :=
  ve2 (fun p q => pe_op op_sub p q) (r_int0 (T := fun i j => .int (i - j)) (fun d e h => by cases d <;> first | exact absurd rfl h | (cases e <;> first | exact absurd rfl h | exact ⟨_, _, rfl, rfl, rfl⟩)) fun _ _ _ => .int _) ha hb
theorem vmul_ (ha : VE X W a fa) (hb : VE X W b fb) : VE X W (.BinOp a .Mult b pos) (v2 vmul fa fb) :=
  ve2 (fun p q => pe_op (r := rI IntMulOk fun i j => .int (i * j)) (opI fun _ _ _ _ _ _ _ hc q => mul_int q hc) p q) (r_int (T := fun i j => .int (i * j)) (fun d e h => by
    cases d <;> first | exact absurd rfl h | (cases e <;> first | exact absurd rfl h | skip)
    simp only [vmul] at h ⊢
    split at h
    · rename_i hm; exact ⟨_, _, rfl, rfl, hm, if_pos hm⟩
    · exact absurd rfl h) fun _ _ _ => .int _) ha hb
theorem log2_250 {j : Int} (h0 : 0 < j) (h : j < 2 ^ 250) : CDivW 0 j := wide_div h0 (b := 250) (by omega) (by omega) (by omega)
theorem vfdiv_ (ha : VE X W a fa) (hb : VE X W b fb) : VE X W (.BinOp a .FloorDiv b pos) (v2 vfdiv fa fb) :=
  ve2 (fun p q => pe_op op_fdivW p q) (r_int (K := CDivW) (T := fun i j => .int (i / j)) (fun d e h => by
    cases d <;> first | exact absurd rfl h | (cases e <;> first | exact absurd rfl h | skip)
    simp only [vfdiv] at h ⊢
    split at h
    · rename_i hm; exact ⟨_, _, rfl, rfl, log2_250 hm.1 hm.2, if_pos hm⟩
    · exact absurd rfl h) fun _ _ _ => .int _) ha hb
theorem vmod_ (ha : VE X W a fa) (hb : VE X W b fb) : VE X W (.BinOp a .Mod b pos) (v2 vmod fa fb) :=
  ve2 (fun p q => pe_op op_mod p q) (r_int (T := fun i j => .int (i % j)) (fun d e h => by
    cases d <;> first | exact absurd rfl h | (cases e <;> first | exact absurd rfl h | skip)
    simp only [vmod] at h ⊢
    split at h
    · rename_i hm; exact ⟨_, _, rfl, rfl, hm, if_pos hm⟩
    · exact absurd rfl h) fun _ _ _ => .int _) ha hb
theorem vpow_ (ha : VE X W a fa) (hb : VE X W b fb) : VE X W (.BinOp a .Pow b pos) (v2 vpow fa fb) :=
  ve2 (fun p q => pe_op op_pow p q) (r_int (T := fun i j => .int (i ^ j.toNat)) (fun d e h => by
    cases d <;> first | exact absurd rfl h | (cases e <;> first | exact absurd rfl h | skip)
    simp only [vpow] at h ⊢
    split at h
    · rename_i hm; exact ⟨_, _, rfl, rfl, ⟨hm.1, by omega, hm.2.2⟩, if_pos hm⟩
    · exact absurd rfl h) fun _ _ _ => .int _) ha hb
theorem vneg_ (ha : VE X W a fa) : VE X W (.UnaryOp .USub a pos) (v1 vneg fa) :=
  ve1 (fun p => pe_un un_neg p) (fun d x σ H B Q s sm dx p => by
    cases dx <;> first | exact p.elim | exact ⟨_, rfl, p _ H B (.refl s) (.int _)⟩) ha
theorem vgt_ (ha : VE X W a fa) (hb : VE X W b fb) : VE X W (.Compare a [.Gt] [b] pos) (v2 vgt fa fb) :=
  ve2 (fun p q => pe_cmpR op_gt p q (nomark _)) (r_int0 (T := fun i j => .bool (decide (j < i))) (fun d e h => by cases d <;> first | exact absurd rfl h | (cases e <;> first | exact absurd rfl h | exact ⟨_, _, rfl, rfl, rfl⟩)) fun _ _ _ => .bl _) ha hb
theorem rule_eq : Rule2 X W (rEqD X.K) veq := fun d e x y σ H B Q s sm dx dy p => by
  unfold veq vEq at p
  split at p
  · rename_i h
    exact ⟨d, e, (Is.mono s dx).dp (SeqAt.canLay_of_shaped h.1), (Is.mono s dy).dp (SeqAt.canLay_of_shaped h.2), h.1, h.2, p _ H B (.refl s) (.bl _)⟩
  · exact p.elim
theorem rule_ne : Rule2 X W (rNeD X.K) vne := fun d e x y σ H B Q s sm dx dy p => by
  unfold vne vEq at p
  split at p
  · rename_i h
    exact ⟨d, e, (Is.mono s dx).dp (SeqAt.canLay_of_shaped h.1), (Is.mono s dy).dp (SeqAt.canLay_of_shaped h.2), h.1, h.2, p _ H B (.refl s) (.bl _)⟩
  · exact p.elim
theorem lt65 {n : Nat} (h : n + 65 < cLine) : n + 64 < cLine := by omega
theorem veq_ (hu : X.A.units + 65 < cLine) (ha : VE X W a fa) (hb : VE X W b fb) : VE X W (.Compare a [.Eq] [b] pos) (v2 veq fa fb) := ve2 (fun p q => pe_cmpR (op_eqD (lt65 hu)) p q (nomark _)) rule_eq ha hb
theorem vne_ (hu : X.A.units + 65 < cLine) (ha : VE X W a fa) (hb : VE X W b fb) : VE X W (.Compare a [.NotEq] [b] pos) (v2 vne fa fb) := ve2 (fun p q => pe_cmpR (op_neD (lt65 hu)) p q (nomark _)) rule_ne ha hb
theorem hu65 {A : Around} (hr : Room k A) : A.units + 65 < cLine := by have := hr.un; omega
def rCatL : R2 := fun x y H Q => ∃ l b xs zs, x = .ref l ∧ y = .ref b ∧ Rd H l (.lst xs) ∧ Rd H b (.lst zs) ∧ xs.length + zs.length ≤ sizeLine ∧ ∀ p, H p = none → Q (.ref p) (upd H p (.lst (xs ++ zs)))
theorem op_catL : OpR X (binaryOp .Add) rCatL := by
  intro pins t σ G x y vv uu Q J rX rY hh
  obtain ⟨a, b, xs, zs, rfl, rfl, hH, hB, hz, q⟩ := hh
  cases rX
  cases rY
  obtain ⟨z, us, n, r, e1⟩ : xs.length ≤ sizeLine ∧ ∃ (us : List Value) (n : Nat), Vals xs us ∧ t.heap.get? a = some { cls := .type "list", data := .seq us.toArray n } := hH.ok J.hok
  obtain ⟨z2, us2, n2, r2, e2⟩ : zs.length ≤ sizeLine ∧ ∃ (us : List Value) (n : Nat), Vals zs us ∧ t.heap.get? b = some { cls := .type "list", data := .seq us.toArray n } := hB.ok J.hok
  have hl := r.length
  have hl2 := r2.length
  refine PySem.P.add_list e1 e2 ?_ (by rw [List.size_toArray, List.size_toArray]; omega)
  have eu : us.toArray ++ us2.toArray = (us ++ us2).toArray := by simp
  rw [eu]
  exact ⟨.ref _, _, J.lnew (t' := t.toks) (r.append r2) (by rw [List.length_append]; omega), rfl, q _ J.fresh⟩
theorem vadd_ (ha : VE X W a fa) (hb : VE X W b fb) : VE X W (.BinOp a .Add b pos) (v2 vadd fa fb) := by
  refine ve2 (fun p q => pe_op (L2.OpR.or op_add (L2.OpR.or op_add_str (L2.OpR.or op_catL op_catA))) p q) (fun d e x y σ H B Q s sm dx dy p => ?_) ha hb
  cases dx with
  | int i =>
    cases dy <;> first | exact p.elim | exact .inl ⟨_, _, rfl, rfl, p _ H B (.refl s) (.int _)⟩
  | str z =>
    cases dy <;> first | exact p.elim | skip
    simp only [vadd] at p
    split at p
    · rename_i hz
      exact .inr (.inl ⟨_, _, rfl, rfl, hz, p _ H B (.refl s) (.str _)⟩)
    · exact p.elim
  | lst h1 h2 =>
    cases dy <;> first | exact p.elim | skip
    rename_i h3 h4
    simp only [vadd] at p
    split at p
    · rename_i hz
      refine .inr (.inr (.inl ⟨_, _, _, _, rfl, rfl, Rd.mono s h1, Rd.mono s h3, by rw [IsAll.len h2, IsAll.len h4]; exact hz, fun q hq => ?_⟩))
      exact p _ _ _ (Ext.new s hq) (.lst (.inl upd_same) (IsAll.append (IsAll.mono (Ext.new s hq).bb h2) (IsAll.mono (Ext.new s hq).bb h4)))
    · exact p.elim
  | tup h1 h2 =>
    cases dy <;> first | exact p.elim | skip
    rename_i ds1 a2 xs2 ds2 h3 h4
    simp only [vadd] at p
    split at p
    · rename_i hz
      have l1 := IsAll.len h2
      have l2 := IsAll.len h4
      refine .inr (.inr (.inr ⟨_, _, _, _, rfl, rfl, Same.tupl s h1, Same.tupl s h3, by rw [l1, l2]; exact hz, fun e1 => ?_, fun _ e2 => ?_, fun _ _ q hq => ?_⟩))
      · subst e1
        have : ds1 = [] := List.eq_nil_of_length_eq_zero (by rw [← l1]; rfl)
        subst this
        exact p _ H B (.refl s) (.tup h3 h4)
      · subst e2
        have : ds2 = [] := List.eq_nil_of_length_eq_zero (by rw [← l2]; rfl)
        subst this
        rw [List.append_nil] at p
        exact p _ H B (.refl s) (.tup h1 h2)
      · exact p _ _ _ (Ext.new s hq) (.tup (.inl upd_same) (IsAll.append (IsAll.mono (Ext.new s hq).bb h2) (IsAll.mono (Ext.new s hq).bb h4)))
    · exact p.elim
  | non => cases dy <;> exact p.elim
  | bl _ => cases dy <;> exact p.elim
  | exc _ _ => cases dy <;> exact p.elim
  | dct _ _ _ => cases dy <;> exact p.elim
  | sst _ => cases dy <;> exact p.elim
  | ins _ _ _ _ => cases dy <;> exact p.elim

theorem rule_idx : Rule2 X W (rIx X.K) vidx := fun d e x y σ H B Q s sm dx dy p => by
  cases dx with
  | lst h1 h2 =>
    cases dy <;> first | exact p.elim | skip
    simp only [vidx] at p
    split at p
    · rename_i d' he
      obtain ⟨v, e1, dp⟩ := atI_all h2 he
      exact .inl ⟨_, _, _, v, rfl, rfl, .inl (Rd.mono s h1), e1, p v H B (.refl s) dp⟩
    · exact p.elim
  | tup h1 h2 =>
    cases dy <;> first | exact p.elim | skip
    simp only [vidx] at p
    split at p
    · rename_i d' he
      obtain ⟨v, e1, dp⟩ := atI_all h2 he
      exact .inr (.inl ⟨_, _, _, v, rfl, rfl, Same.tupl s h1, e1, p v H B (.refl s) dp⟩)
    · exact p.elim
  | str z =>
    cases dy <;> first | exact p.elim | skip
    simp only [vidx] at p
    split at p
    · rename_i c' he
      split at p
      · rename_i hz
        exact .inr (.inr ⟨_, _, _, rfl, rfl, hz, he, p _ H B (.refl s) (.str _)⟩)
      · exact p.elim
    · exact p.elim
  | int _ => cases dy <;> exact p.elim
  | non => cases dy <;> exact p.elim
  | bl _ => cases dy <;> exact p.elim
  | exc _ _ => cases dy <;> exact p.elim
  | dct _ _ _ => cases dy <;> exact p.elim
  | sst _ => cases dy <;> exact p.elim
  | ins _ _ _ _ => cases dy <;> exact p.elim
theorem vidx_ (ha : VE X W a fa) (hb : VE X W b fb) (hs : PlainIx b := by exact fun _ _ => rfl) : VE X W (.Subscript a b pos) (v2 vidx fa fb) := ve2 (fun p q => pe_ix ix_seq p q hs) rule_idx ha hb

def aNil : PEnv → R (List D) := fun _ => .ok []
def aCons (f : PEnv → R D) (g : PEnv → R (List D)) : PEnv → R (List D) := fun ρ => (f ρ).bind fun d => (g ρ).bind fun ds => .ok (d :: ds)
theorem va_nil : VA X W [] aNil := ⟨tNil, pa_nil, fun σ H B ρ Q s r p => p [] H B (.refl s) .nil⟩
theorem va_cons {e : Expr} {f : PEnv → R D} {g : PEnv → R (List D)} (h : VE X W e f) (t : VA X W es g) (hs : starEach (e :: es) X.env = (false, eval e X.env) :: starEach es X.env := by rfl) : VA X W (e :: es) (aCons f g) := by
  obtain ⟨ta, pa, qa⟩ := h.ex
  obtain ⟨tb, pb, qb⟩ := t.ex
  refine ⟨_, pa_cons pa pb hs, fun σ H B ρ Q s r p => ?_⟩
  refine qa σ H B ρ _ s r ?_
  unfold aCons at p
  generalize f ρ = rf at p ⊢
  cases rf with
  | stuck => exact p
  | err c => exact p
  | ok d =>
    intro x H1 B1 e1 sm1 d1
    refine qb σ H1 B1 ρ _ e1.bh (r.mono e1.bb) ?_
    simp only [R.bind_ok] at p
    generalize g ρ = rg at p ⊢
    cases rg with
    | stuck => exact p
    | err c => exact fun H' z => p H' (e1.hh.trans z)
    | ok ds =>
      intro xs H2 B2 e2 d2
      exact p _ _ _ (e1.trans e2) (.cons (Is.mono e2.bb d1) d2)
theorem args {g : PEnv → R (List D)} {t : TA} (ht : ∀ σ H B ρ Q, Same B H → RF X.K B σ ρ → Pst X W σ H (KA1 X B H Q) (g ρ) → t σ H Q)
    {α : Type} {σ : L2.St} {H B : Hp} {ρ : PEnv} {G : List D → R α} {K : α → Prop} {Q : List V → Hp → Prop} (s : Same B H) (r : RF X.K B σ ρ)
    (p : Pst X W σ H K ((g ρ).bind G))
    (q : ∀ ds xs H' B', Ext B H B' H' → IsAll X.K B' xs ds → Pst X W σ H' K (G ds) → Q xs H') : t σ H Q := by
  refine ht σ H B ρ _ s r ?_
  generalize g ρ = rg at p ⊢
  cases rg with
  | stuck => exact p
  | err c => exact p
  | ok ds =>
    intro xs H1 B1 e1 d1
    refine q ds xs H1 B1 e1 d1 ?_
    simp only [R.bind_ok] at p
    generalize G ds = rr at p ⊢
    cases rr with
    | stuck => exact p
    | err c => exact fun H' z => p H' (e1.hh.trans z)
    | ok z => exact p
def vtup (g : PEnv → R (List D)) : PEnv → R D := fun ρ => (g ρ).bind fun ds => .ok (.tuple ds)
structure VAn (X : Cx) (W : WX) (n : Nat) (es : List Expr) (f : PEnv → R (List D)) : Prop where
  va : VA X W es f
  len : ∀ ρ ds, f ρ = .ok ds → ds.length = n
theorem van_nil : VAn X W 0 [] aNil := ⟨va_nil, fun ρ ds h => by cases h; rfl⟩
theorem van_cons {n : Nat} {e : Expr} {f : PEnv → R D} {g : PEnv → R (List D)} (h : VE X W e f) (t : VAn X W n es g) (hs : starEach (e :: es) X.env = (false, eval e X.env) :: starEach es X.env := by rfl) : VAn X W (n + 1) (e :: es) (aCons f g) :=
  ⟨va_cons h t.va hs, fun ρ ds q => by
    unfold aCons at q
    generalize f ρ = rf at q
    cases rf with
    | stuck => cases q
    | err c => cases q
    | ok d =>
      simp only [R.bind_ok] at q
      generalize hg : g ρ = rg at q
      cases rg with
      | stuck => cases q
      | err c => cases q
      | ok es' =>
        cases q
        rw [List.length_cons, t.len ρ es' hg]⟩
theorem vtup_ {n : Nat} {x1} {g : PEnv → R (List D)} (h : VAn X W n es g) (hz : n ≤ 1000 := by decide) : VE X W (.Tuple es x1 pos) (vtup g) := by
  obtain ⟨t, pt, qt⟩ := h.va.ex
  refine VE.mk' (pe_tup pt) fun σ H B ρ Q s r p => ?_
  cases hg : g ρ with
  | stuck => unfold vtup at p; rw [hg] at p; exact p.elim
  | err c => unfold vtup at p; rw [hg] at p; exact qt σ H B ρ _ s r (by rw [hg]; exact p)
  | ok ds =>
    unfold vtup at p
    rw [hg] at p
    refine qt σ H B ρ _ s r ?_
    rw [hg]
    intro xs H1 B1 e1 d1
    refine ⟨by rw [IsAll.len d1, h.len ρ ds hg]; exact Nat.le_trans hz (by decide), fun q hq => ?_⟩
    have E := Ext.new (o := HO.tup xs) e1.bh hq
    exact p _ _ _ (e1.trans E) (.tup (.inl upd_same) (IsAll.mono E.bb d1))
end
end VL

namespace VL
open PySem PySem.Spec PyProof.Rows L2

def tbool : D → R Bool
  | .bool b => .ok b
  | _ => .stuck
def vtruth : D → R Bool
  | .none => .ok false
  | .bool b => .ok b
  | .int i => .ok (i != 0)
  | .str y => if y.length ≤ sizeLine then .ok ((y.length : Int) != 0) else .stuck
  | .list xs => .ok (!xs.isEmpty)
  | .tuple xs => .ok (!xs.isEmpty)
  | .dict _ => .stuck
section
variable {X : Cx} {W : WX} {a b c : Expr} {es : List Expr} {pos : Pos} {fa fb fc : PEnv → R D} {ft fu : PEnv → R Bool} {k : Nat}

theorem vt2 {e : Expr} {r : R2} {g : D → D → R D} (mk : ∀ {ta tb : TE}, PE X a ta → PE X b tb → PT X e (tTest (tOp r ta tb))) (hr : Rule2 X W r g) (hg : ∀ d e z, g d e = .ok z → ∃ k, z = .bool k) (ha : VE X W a fa) (hb : VE X W b fb) :
    VT X W e (fun ρ => (v2 g fa fb ρ).bind tbool) := by
  obtain ⟨ta, pa, qa⟩ := ha.ex
  obtain ⟨tb, pb, qb⟩ := hb.ex
  refine ⟨_, mk pa pb, fun σ H B ρ Q s rf p => ?_⟩
  have p' : Pst X W σ H (KB1 B H Q) ((fa ρ).bind fun d => (fb ρ).bind fun e => (g d e).bind tbool) := by
    unfold v2 at p
    generalize fa ρ = ra at p ⊢
    cases ra with
    | stuck => exact p
    | err c => exact p
    | ok d =>
      simp only [R.bind_ok] at p ⊢
      generalize fb ρ = rb at p ⊢
      cases rb <;> exact p
  refine two qa qb s rf p' fun d e x y H' B' ex sm dx dy pg => ?_
  refine hr d e x y σ H' B' _ ex.bh sm dx dy ?_
  generalize hge : g d e = rg at pg ⊢
  cases rg with
  | stuck => exact pg
  | err c => exact pg
  | ok z =>
    obtain ⟨k, rfl⟩ := hg d e z hge
    intro v H2 B2 e2 dv
    cases dv
    exact ⟨k, rfl, pg H2 B2 (ex.trans e2)⟩
theorem vlt_t (ha : VE X W a fa) (hb : VE X W b fb) : VT X W (.Compare a [.Lt] [b] pos) (fun ρ => (v2 vlt fa fb ρ).bind tbool) :=
  vt2 (fun p q => pt_cmpR op_lt p q (nomark _)) (r_int0 (T := fun i j => .bool (decide (i < j))) (fun d e h => by cases d <;> first | exact absurd rfl h | (cases e <;> first | exact absurd rfl h | exact ⟨_, _, rfl, rfl, rfl⟩)) fun _ _ _ => .bl _) (fun d e z h => by cases d <;> first | (cases h; done) | (cases e <;> first | (cases h; done) | (cases h; exact ⟨_, rfl⟩))) ha hb
theorem vgt_t (ha : VE X W a fa) (hb : VE X W b fb) : VT X W (.Compare a [.Gt] [b] pos) (fun ρ => (v2 vgt fa fb ρ).bind tbool) :=
  vt2 (fun p q => pt_cmpR op_gt p q (nomark _)) (r_int0 (T := fun i j => .bool (decide (j < i))) (fun d e h => by cases d <;> first | exact absurd rfl h | (cases e <;> first | exact absurd rfl h | exact ⟨_, _, rfl, rfl, rfl⟩)) fun _ _ _ => .bl _) (fun d e z h => by cases d <;> first | (cases h; done) | (cases e <;> first | (cases h; done) | (cases h; exact ⟨_, rfl⟩))) ha hb
theorem vge_t (ha : VE X W a fa) (hb : VE X W b fb) : VT X W (.Compare a [.GtE] [b] pos) (fun ρ => (v2 vge fa fb ρ).bind tbool) :=
  vt2 (fun p q => pt_cmpR op_ge p q (nomark _)) (r_int0 (T := fun i j => .bool (decide (j ≤ i))) (fun d e h => by cases d <;> first | exact absurd rfl h | (cases e <;> first | exact absurd rfl h | exact ⟨_, _, rfl, rfl, rfl⟩)) fun _ _ _ => .bl _) (fun d e z h => by cases d <;> first | (cases h; done) | (cases e <;> first | (cases h; done) | (cases h; exact ⟨_, rfl⟩))) ha hb
theorem veq_t (hu : X.A.units + 65 < cLine) (ha : VE X W a fa) (hb : VE X W b fb) : VT X W (.Compare a [.Eq] [b] pos) (fun ρ => (v2 veq fa fb ρ).bind tbool) :=
  vt2 (fun p q => pt_cmpR (op_eqD (lt65 hu)) p q (nomark _)) rule_eq (fun d e z h => by
    unfold veq at h
    generalize vEq d e = r at h
    cases r <;> first | (cases h; done) | (cases h; exact ⟨_, rfl⟩)) ha hb
theorem vne_t (hu : X.A.units + 65 < cLine) (ha : VE X W a fa) (hb : VE X W b fb) : VT X W (.Compare a [.NotEq] [b] pos) (fun ρ => (v2 vne fa fb ρ).bind tbool) :=
  vt2 (fun p q => pt_cmpR (op_neD (lt65 hu)) p q (nomark _)) rule_ne (fun d e z h => by
    unfold vne at h
    generalize vEq d e = r at h
    cases r <;> first | (cases h; done) | (cases h; exact ⟨_, rfl⟩)) ha hb
def vIn (d e : D) : R D := (vin d e).bind fun b => .ok (.bool b)
def vNotIn (d e : D) : R D := (vin d e).bind fun b => .ok (.bool (!b))
theorem rule_in : Rule2 X W (rInD X.K) vIn := fun d e x y σ H B Q s sm dx dy p => by
  unfold vIn at p
  cases e <;> first | exact p.elim | skip
  simp only [vin] at p
  split at p
  · rename_i h
    exact ⟨_, _, (Is.mono s dx).dp (SeqAt.canLay_of_shaped h.1), (Is.mono s dy).dp (SeqAt.canLay_of_shaped h.2), h.1, h.2, p _ H B (.refl s) (.bl _)⟩
  · exact p.elim
theorem rule_notin : Rule2 X W (rNotInD X.K) vNotIn := fun d e x y σ H B Q s sm dx dy p => by
  unfold vNotIn at p
  cases e <;> first | exact p.elim | skip
  simp only [vin] at p
  split at p
  · rename_i h
    exact ⟨_, _, (Is.mono s dx).dp (SeqAt.canLay_of_shaped h.1), (Is.mono s dy).dp (SeqAt.canLay_of_shaped h.2), h.1, h.2, p _ H B (.refl s) (.bl _)⟩
  · exact p.elim
theorem vt_truth (h : VE X W a fa) (he : ∀ whole, isTrue a X.env whole = (do let v ← whole; standAt a.pos; holding [v] (truthy v)) := by intro _; rfl) : VT X W a (fun ρ => (fa ρ).bind vtruth) := by
  obtain ⟨ta, pa, qa⟩ := h.ex
  refine ⟨_, pt_truth pa he, fun σ H B ρ Q s rf p => ?_⟩
  refine one qa s rf p fun d x H' B' ex sm dx pg => ?_
  cases dx with
  | non => exact ⟨_, rfl, pg H' B' ex⟩
  | exc _ _ => exact pg.elim
  | dct _ _ _ => exact pg.elim
  | sst _ => exact pg.elim
  | ins _ _ _ _ => exact pg.elim
  | bl b => exact ⟨_, rfl, pg H' B' ex⟩
  | int i => exact ⟨_, rfl, pg H' B' ex⟩
  | str y =>
    simp only [vtruth] at pg
    split at pg
    · rename_i hz
      exact ⟨_, ⟨hz, rfl⟩, pg H' B' ex⟩
    · exact pg.elim
  | lst h1 h2 => 
    refine ⟨_, .inl ⟨_, .inl (Rd.mono ex.bh h1), rfl⟩, ?_⟩
    have e : ∀ {vs : List V} {ds : List D}, IsAll X.K B' vs ds → (!vs.isEmpty) = (!ds.isEmpty) := fun h => by cases h <;> rfl
    rw [e h2]
    exact pg H' B' ex
  | tup h1 h2 =>
    refine ⟨_, .inr (.inl ⟨_, Same.tupl ex.bh h1, rfl⟩), ?_⟩
    have e : ∀ {vs : List V} {ds : List D}, IsAll X.K B' vs ds → (!vs.isEmpty) = (!ds.isEmpty) := fun h => by cases h <;> rfl
    rw [e h2]
    exact pg H' B' ex
structure VW (X : Cx) (W : WX) (e : Expr) (f : PEnv → R Bool) : Prop where
  ex : ∃ t, PW X e t ∧ ∀ σ H B ρ Q, Same B H → RF X.K B σ ρ → Pst X W σ H (KB1 B H Q) (f ρ) → t σ H Q
theorem VW.vt {e : Expr} (h : VW X W e ft) : VT X W e ft := by
  obtain ⟨t, p, q⟩ := h.ex
  exact ⟨t, p.pt, q⟩
def tand (f g : PEnv → R Bool) : PEnv → R Bool := fun ρ => (f ρ).bind fun b => if b then g ρ else .ok false
def tor (f g : PEnv → R Bool) : PEnv → R Bool := fun ρ => (f ρ).bind fun b => if b then .ok true else g ρ
def tnot (f : PEnv → R Bool) : PEnv → R Bool := fun ρ => (f ρ).bind fun b => .ok (!b)
theorem oneT {ta : TT} (ha : ∀ σ H B ρ Q, Same B H → RF X.K B σ ρ → Pst X W σ H (KB1 B H Q) (ft ρ) → ta σ H Q)
    {α : Type} {σ : L2.St} {H B : Hp} {ρ : PEnv} {g : Bool → R α} {K : α → Prop} {Q : Bool → Hp → Prop} (s : Same B H) (r : RF X.K B σ ρ)
    (p : Pst X W σ H K ((ft ρ).bind g))
    (q : ∀ b H' B', Ext B H B' H' → Pst X W σ H' K (g b) → Q b H') : ta σ H Q := by
  refine ha σ H B ρ _ s r ?_
  generalize ft ρ = ra at p ⊢
  cases ra with
  | stuck => exact p
  | err c => exact p
  | ok d =>
    intro H1 B1 e1
    refine q d H1 B1 e1 ?_
    simp only [R.bind_ok] at p
    generalize g d = rg at p ⊢
    cases rg with
    | stuck => exact p
    | err c => exact fun H' z => p H' (e1.hh.trans z)
    | ok z => exact p
theorem kb_ext {B H B1 H1 : Hp} {Q : Bool → Hp → Prop} {d : Bool} (e : Ext B H B1 H1) (p : KB1 B H Q d) : KB1 B1 H1 Q d := fun H' B' e' => p H' B' (e.trans e')
theorem kv1_ext {B H B1 H1 : Hp} {Q : VK} {d : D} (e : Ext B H B1 H1) (p : KV1 X B H Q d) : KV1 X B1 H1 Q d := fun v H' B' e' sm dp => p v H' B' (e.trans e') sm dp
theorem vw_and1 (h : VT X W a ft) : VW X W (.BoolOp .And [a] pos) ft := by
  obtain ⟨t, p, q⟩ := h.ex
  exact ⟨t, pw_and1 p, q⟩
theorem vw_or1 (h : VT X W a ft) : VW X W (.BoolOp .Or [a] pos) ft := by
  obtain ⟨t, p, q⟩ := h.ex
  exact ⟨t, pw_or1 p, q⟩
theorem vw_and (h : VT X W a ft) (g : VW X W (.BoolOp .And (b :: es) pos) fu) : VW X W (.BoolOp .And (a :: b :: es) pos) (tand ft fu) := by
  obtain ⟨t, p, q⟩ := h.ex
  obtain ⟨t2, p2, q2⟩ := g.ex
  refine ⟨_, pw_and p p2, fun σ H B ρ Q s rf pr => ?_⟩
  refine oneT q s rf pr fun d H' B' ex pg => ?_
  cases d with
  | true => exact iteT (q2 σ H' B' ρ Q ex.bh (rf.mono ex.bb) (Pst.imp (fun a k => kb_ext ex k) pg))
  | false => exact iteF (pg H' B' ex)
theorem vw_or (h : VT X W a ft) (g : VW X W (.BoolOp .Or (b :: es) pos) fu) : VW X W (.BoolOp .Or (a :: b :: es) pos) (tor ft fu) := by
  obtain ⟨t, p, q⟩ := h.ex
  obtain ⟨t2, p2, q2⟩ := g.ex
  refine ⟨_, pw_or p p2, fun σ H B ρ Q s rf pr => ?_⟩
  refine oneT q s rf pr fun d H' B' ex pg => ?_
  cases d with
  | false => exact iteF (q2 σ H' B' ρ Q ex.bh (rf.mono ex.bb) (Pst.imp (fun a k => kb_ext ex k) pg))
  | true => exact iteT (pg H' B' ex)
theorem vt_not (h : VT X W a ft) : VT X W (.UnaryOp .Not a pos) (tnot ft) := by
  obtain ⟨t, p, q⟩ := h.ex
  refine ⟨_, pt_not p, fun σ H B ρ Q s rf pr => ?_⟩
  exact oneT q s rf pr fun d H' B' ex pg => pg H' B' ex
def vif (t : PEnv → R Bool) (f g : PEnv → R D) : PEnv → R D := fun ρ => (t ρ).bind fun b => if b then f ρ else g ρ
def vand (f g : PEnv → R D) : PEnv → R D := fun ρ => (f ρ).bind fun d => (tbool d).bind fun b => if b then g ρ else .ok (.bool false)
def vor (f g : PEnv → R D) : PEnv → R D := fun ρ => (f ρ).bind fun d => (tbool d).bind fun b => if b then .ok (.bool true) else g ρ
def vnot (f : PEnv → R D) : PEnv → R D := fun ρ => (f ρ).bind fun d => (tbool d).bind fun b => .ok (.bool (!b))
theorem vone {op} (h : VE X W a fa) : VE X W (.BoolOp op [a] pos) fa := by
  obtain ⟨t, p, q⟩ := h.ex
  exact ⟨t, pe_one p, q⟩
theorem vand_ (h : VE X W a fa) (g : VE X W (.BoolOp .And (b :: es) pos) fb) : VE X W (.BoolOp .And (a :: b :: es) pos) (vand fa fb) := by
  obtain ⟨t, p, q⟩ := h.ex
  obtain ⟨t2, p2, q2⟩ := g.ex
  refine ⟨_, pe_and p p2, fun σ H B ρ Q s rf pr => ?_⟩
  refine one q s rf pr fun d x H' B' ex sm dx pg => ?_
  cases dx <;> first | exact pg.elim | skip
  rename_i b
  refine ⟨b, rfl, ?_⟩
  cases b with
  | true => exact iteT (q2 σ H' B' ρ Q ex.bh (rf.mono ex.bb) (Pst.imp (fun a k => kv1_ext ex k) pg))
  | false => exact iteF (pg _ H' B' ex sm (.bl _))
theorem vor_ (h : VE X W a fa) (g : VE X W (.BoolOp .Or (b :: es) pos) fb) : VE X W (.BoolOp .Or (a :: b :: es) pos) (vor fa fb) := by
  obtain ⟨t, p, q⟩ := h.ex
  obtain ⟨t2, p2, q2⟩ := g.ex
  refine ⟨_, pe_or p p2, fun σ H B ρ Q s rf pr => ?_⟩
  refine one q s rf pr fun d x H' B' ex sm dx pg => ?_
  cases dx <;> first | exact pg.elim | skip
  rename_i b
  refine ⟨b, rfl, ?_⟩
  cases b with
  | false => exact iteF (q2 σ H' B' ρ Q ex.bh (rf.mono ex.bb) (Pst.imp (fun a k => kv1_ext ex k) pg))
  | true => exact iteT (pg _ H' B' ex sm (.bl _))
theorem vnot_ (h : VE X W a fa) : VE X W (.UnaryOp .Not a pos) (vnot fa) := by
  obtain ⟨t, p, q⟩ := h.ex
  refine VE.mk' (pe_not p) fun σ H B ρ Q s rf pr => ?_
  refine one q s rf pr fun d x H' B' ex sm dx pg => ?_
  cases dx <;> first | exact pg.elim | exact ⟨_, rfl, pg _ H' B' ex (.bl _)⟩
def vchain (g g' : D → D → R D) (fa fb fc : PEnv → R D) : PEnv → R D := fun ρ => (fa ρ).bind fun d => (fb ρ).bind fun e => (g d e).bind fun z => (tbool z).bind fun k => if k then (fc ρ).bind fun f => g' e f else .ok (.bool false)
structure IntCmp (X : Cx) (op : CmpOp) (p : Int → Int → Bool) (g : D → D → R D) : Prop where
  op : OpR X (compareOp op) (rI0 fun i j => .bl (p i j))
  g : ∀ d e, g d e ≠ .stuck → ∃ i j, d = .int i ∧ e = .int j ∧ g d e = .ok (.bool (p i j))
theorem ic_lt : IntCmp X .Lt (fun i j => decide (i < j)) vlt := ⟨op_lt, fun d e h => by cases d <;> first | exact absurd rfl h | (cases e <;> first | exact absurd rfl h | exact ⟨_, _, rfl, rfl, rfl⟩)⟩
theorem ic_le : IntCmp X .LtE (fun i j => decide (i ≤ j)) vle := ⟨op_le, fun d e h => by cases d <;> first | exact absurd rfl h | (cases e <;> first | exact absurd rfl h | exact ⟨_, _, rfl, rfl, rfl⟩)⟩
theorem chain_ok {op op' : CmpOp} {p p' : Int → Int → Bool} {g g' : D → D → R D} {ta tb tc : TE} (i1 : IntCmp X op p g) (i2 : IntCmp X op' p' g') (ha : ∀ σ H B ρ Q, Same B H → RF X.K B σ ρ → Pst X W σ H (KV1 X B H Q) (fa ρ) → ta σ H Q) (hb : ∀ σ H B ρ Q, Same B H → RF X.K B σ ρ → Pst X W σ H (KV1 X B H Q) (fb ρ) → tb σ H Q)
    (hc : ∀ σ H B ρ Q, Same B H → RF X.K B σ ρ → Pst X W σ H (KV1 X B H Q) (fc ρ) → tc σ H Q) {σ : L2.St} {H B : Hp} {ρ : PEnv} {Q : VK} (s : Same B H) (rf : RF X.K B σ ρ)
    (pr : Pst X W σ H (fun d => ∀ v H' B', Ext B H B' H' → Is X.K B' v d → Q v H') (vchain g g' fa fb fc ρ)) : tChain (rI0 fun i j => .bl (p i j)) (rI0 fun i j => .bl (p' i j)) ta tb tc σ H Q := by
  unfold vchain at pr
  refine two ha hb s rf pr fun d e x y H' B' ex sm dx dy pg => ?_
  have h0 : g d e ≠ .stuck := fun z => by rw [z] at pg; exact pg
  obtain ⟨i, j, rfl, rfl, eg⟩ := i1.g d e h0
  rw [eg] at pg
  cases dx
  cases dy
  refine ⟨i, j, rfl, rfl, p i j, rfl, ?_⟩
  simp only [R.bind_ok, tbool] at pg
  cases hp : p i j with
  | false =>
    rw [hp] at pg
    exact iteF (pg _ H' B' ex (.bl _))
  | true =>
    rw [hp] at pg
    refine iteT ?_
    simp only [if_true] at pg
    refine one hc ex.bh (rf.mono ex.bb) pg fun f z H2 B2 ex2 sm2 dz pg2 => ?_
    have h1 : g' (.int j) f ≠ .stuck := fun z => by rw [z] at pg2; exact pg2
    obtain ⟨j', m, ej, rfl, eg2⟩ := i2.g _ f h1
    cases ej
    rw [eg2] at pg2
    cases dz
    exact ⟨_, m, rfl, rfl, pg2 _ H2 B2 (ex.trans ex2) (.bl _)⟩
theorem vchain_ {op op' : CmpOp} {p p' : Int → Int → Bool} {g g' : D → D → R D} (i1 : IntCmp X op p g) (i2 : IntCmp X op' p' g') (ha : VE X W a fa) (hb : VE X W b fb) (hc : VE X W c fc) (hm : lastMarks [op, op'] [b, c] = false := by with_unfolding_all rfl) :
    VE X W (.Compare a [op, op'] [b, c] pos) (vchain g g' fa fb fc) := by
  obtain ⟨ta, pa, qa⟩ := ha.ex
  obtain ⟨tb, pb, qb⟩ := hb.ex
  obtain ⟨tc, pc, qc⟩ := hc.ex
  exact VE.mk' (pe_chain i1.op i2.op pa pb pc hm) fun σ H B ρ Q s rf pr => chain_ok i1 i2 qa qb qc s rf pr
theorem vchain_t {op op' : CmpOp} {p p' : Int → Int → Bool} {g g' : D → D → R D} (i1 : IntCmp X op p g) (i2 : IntCmp X op' p' g') (ha : VE X W a fa) (hb : VE X W b fb) (hc : VE X W c fc) (hm : lastMarks [op, op'] [b, c] = false := by with_unfolding_all rfl) :
    VT X W (.Compare a [op, op'] [b, c] pos) (fun ρ => (vchain g g' fa fb fc ρ).bind tbool) := by
  obtain ⟨ta, pa, qa⟩ := ha.ex
  obtain ⟨tb, pb, qb⟩ := hb.ex
  obtain ⟨tc, pc, qc⟩ := hc.ex
  refine ⟨_, pt_chain i1.op i2.op pa pb pc hm, fun σ H B ρ Q s rf pr => ?_⟩
  refine chain_ok i1 i2 qa qb qc s rf ?_
  generalize vchain g g' fa fb fc ρ = r at pr ⊢
  cases r with
  | stuck => exact pr
  | err c => exact pr
  | ok z =>
    intro v H' B' ex dz
    simp only [R.bind_ok] at pr
    cases dz <;> first | exact pr.elim | exact ⟨_, rfl, pr H' B' ex⟩

def RuleC (X : Cx) (W : WX) (r : List V → Hp → VK → Prop) (g : List D → R D) : Prop := ∀ ds vs σ H B Q, Same B H → IsAll X.K B vs ds → Pst X W σ H (fun d' => ∀ v H' B', Ext B H B' H' → Is X.K B' v d' → Q v H') (g ds) → r vs H Q
def vapp (g : List D → R D) (f : PEnv → R (List D)) : PEnv → R D := fun ρ => (f ρ).bind g
theorem vcB {x : Str} {id : String} {r : List V → Hp → VK → Prop} {g : List D → R D} {f : PEnv → R (List D)} {p : Pos} {e : Expr} (hc : CallR X (.builtin id) r) (hr : RuleC X W r g) (hm : X.mg x = none) (hv : bootBuiltins x = some (.builtin id)) (ha : VA X W (e :: es) f)
    (hg : Gl X x := by rfl) (hn : x ≠ "__name__" := by decide) (hdb : (x == ("__debug__" : Str)) = false := by decide)
    (he : starEach (e :: es) X.env = (false, eval e X.env) :: starEach es X.env := by rfl) (hpl : (backTo pos (starEach es X.env)).any (·.1) = false := by rfl) : VE X W (.Call (.Name x p) (e :: es) [] pos) (vapp g f) := by
  obtain ⟨t, pt, qt⟩ := ha.ex
  refine VE.mk' (pe_callB hc hg hm hv pt hn hdb he hpl) fun σ H B ρ Q s rf pr => ?_
  exact args qt s rf pr fun ds xs H' B' ex dx pg => hr ds xs σ H' B' Q ex.bh dx (Pst.imp (fun a k => kv_ext ex k) pg)
theorem vcT {x : Str} {T : String} {r : List V → Hp → VK → Prop} {g : List D → R D} {f : PEnv → R (List D)} {p : Pos} {e : Expr} (hc : CallR X (.type T) r) (hr : RuleC X W r g) (hm : X.mg x = none) (hv : bootBuiltins x = some (.type T)) (ha : VA X W (e :: es) f)
    (hg : Gl X x := by rfl) (hn : x ≠ "__name__" := by decide) (hdb : (x == ("__debug__" : Str)) = false := by decide)
    (he : starEach (e :: es) X.env = (false, eval e X.env) :: starEach es X.env := by rfl) (hpl : (backTo pos (starEach es X.env)).any (·.1) = false := by rfl) : VE X W (.Call (.Name x p) (e :: es) [] pos) (vapp g f) := by
  obtain ⟨t, pt, qt⟩ := ha.ex
  refine VE.mk' (pe_callTy hc hg hm hv pt hn hdb he hpl) fun σ H B ρ Q s rf pr => ?_
  exact args qt s rf pr fun ds xs H' B' ex dx pg => hr ds xs σ H' B' Q ex.bh dx (Pst.imp (fun a k => kv_ext ex k) pg)
def spV (K : PySem.W.Frag) (mg : Str → Option Value) (n : Nat) (g : List D → R D) : Sp := fun vs H Q E => vs.length = n ∧ ∃ ds B, Same B H ∧ IsAll K B vs ds ∧
  match g ds with
  | .stuck => False
  | .err c => ∀ H', Same H H' → ∃ C, mg c = some (.ref C) ∧ E (.ref C) none H'
  | .ok d => ∀ v H' B', Ext B H B' H' → Is K B' v d → Q v H'
theorem vcall {x : Str} {f : Addr} {fd : FuncData} {ps : List Str} {n : Nat} {g : List D → R D} {fa : PEnv → R (List D)} {p : Pos} {e : Expr} (F : FnOk X.prog X.w X.K X.mg X.base (L2.CX X.prog X.w) k f fd ps (spV X.K X.mg n g)) (hr : Room k X.A) (hm : X.mg x = some (.ref f)) (hk : PySem.W.keepIn X.K (.ref f) = true) (hb : Binds X.K fd ps [])
    (tk : Takes X W) (ha : VAn X W n (e :: es) fa) (hg : Gl X x := by rfl) (hdb : (x == ("__debug__" : Str)) = false := by decide) (he : starEach (e :: es) X.env = (false, eval e X.env) :: starEach es X.env := by rfl) (hpl : (backTo pos (starEach es X.env)).any (·.1) = false := by rfl) :
    VE X W (.Call (.Name x p) (e :: es) [] pos) (vapp g fa) := by
  obtain ⟨t, pt, qt⟩ := ha.va.ex
  refine VE.mk' (pe_callS F hr hg hm hk hb (fun σ => passAt tk σ) pt hdb he hpl) fun σ H B ρ Q s rf pr => ?_
  have hl := ha.len ρ
  unfold vapp at pr
  generalize hfa : fa ρ = rr at pr hl
  cases rr with
  | stuck => exact pr.elim
  | err c => exact qt σ H B ρ _ s rf (by rw [hfa]; exact pr)
  | ok ds =>
    refine qt σ H B ρ _ s rf ?_
    rw [hfa]
    intro xs H1 B1 e1 dx
    refine ⟨by rw [IsAll.len dx]; exact hl ds rfl, ds, B1, e1.bh, dx, ?_⟩
    simp only [R.bind_ok] at pr
    generalize g ds = rg at pr ⊢
    cases rg with
    | stuck => exact pr
    | err c => exact fun H' z => pr H' (e1.hh.trans z)
    | ok d => exact fun v H' B' e' dv => pr v H' B' (e1.trans e') dv
end
end VL

namespace VL
open PySem PySem.Spec PyProof.Rows L2

def vlen : List D → R D
  | [.list xs] => .ok (.int xs.length)
  | [.tuple xs] => .ok (.int xs.length)
  | [.str z] => if z.length ≤ sizeLine then .ok (.int z.length) else .stuck
  | _ => .stuck
def vint1 : List D → R D
  | [.int i] => .ok (.int i)
  | [.bool k] => .ok (.int (if k then 1 else 0))
  | _ => .stuck
def vabs : List D → R D
  | [.int i] => .ok (.int (if i < 0 then -i else i))
  | _ => .stuck
def vtuple1 : List D → R D
  | [.list xs] => .ok (.tuple xs)
  | [.tuple xs] => .ok (.tuple xs)
  | _ => .stuck
def vlist1 : List D → R D
  | [.list xs] => .ok (.list xs)
  | [.tuple xs] => .ok (.list xs)
  | _ => .stuck
def intsOf : List D → Option (List Int)
  | [] => some []
  | .int i :: r => (intsOf r).map (i :: ·)
  | _ :: _ => none
def boolsOf : List D → Option (List Bool)
  | [] => some []
  | .bool i :: r => (boolsOf r).map (i :: ·)
  | _ :: _ => none
def vsum : List D → R D
  | [.list xs] => match intsOf xs with | some ns => .ok (.int ns.sum) | none => .stuck
  | _ => .stuck
def vmax1 (ns : List Int) : R D := match ns.max? with | some m => .ok (.int m) | none => .stuck
def vmin1 (ns : List Int) : R D := match ns.min? with | some m => .ok (.int m) | none => .stuck
def vmax : List D → R D
  | [.list xs] => match intsOf xs with | some ns => vmax1 ns | none => .stuck
  | [.int i, .int j] => .ok (.int (if j > i then j else i))
  | _ => .stuck
def vmin : List D → R D
  | [.list xs] => match intsOf xs with | some ns => vmin1 ns | none => .stuck
  | [.int i, .int j] => .ok (.int (if j < i then j else i))
  | _ => .stuck
def vall : List D → R D
  | [.list xs] => match boolsOf xs with | some bs => .ok (.bool (bs.all id)) | none => .stuck
  | _ => .stuck
theorem intsOf_some : ∀ {ds : List D} {ns : List Int}, intsOf ds = some ns → ds = ns.map PyData.int
  | [], ns, h => by cases h; rfl
  | .int i :: r, ns, h => by
    simp only [intsOf] at h
    cases q : intsOf r with
    | none => rw [q] at h; cases h
    | some ms =>
      rw [q] at h
      cases h
      rw [List.map_cons, intsOf_some q]
  | .none :: _, _, h => by cases h
  | .bool _ :: _, _, h => by cases h
  | .str _ :: _, _, h => by cases h
  | .list _ :: _, _, h => by cases h
  | .tuple _ :: _, _, h => by cases h
  | .dict _ :: _, _, h => by cases h
theorem boolsOf_some : ∀ {ds : List D} {ns : List Bool}, boolsOf ds = some ns → ds = ns.map PyData.bool
  | [], ns, h => by cases h; rfl
  | .bool i :: r, ns, h => by
    simp only [boolsOf] at h
    cases q : boolsOf r with
    | none => rw [q] at h; cases h
    | some ms =>
      rw [q] at h
      cases h
      rw [List.map_cons, boolsOf_some q]
  | .none :: _, _, h => by cases h
  | .int _ :: _, _, h => by cases h
  | .str _ :: _, _, h => by cases h
  | .list _ :: _, _, h => by cases h
  | .tuple _ :: _, _, h => by cases h
  | .dict _ :: _, _, h => by cases h
theorem intsOf_map (ns : List Int) : intsOf (ns.map PyData.int) = some ns := by
  induction ns with
  | nil => rfl
  | cons n r ih => rw [List.map_cons]; simp only [intsOf, ih]; rfl
theorem boolsOf_map (ns : List Bool) : boolsOf (ns.map PyData.bool) = some ns := by
  induction ns with
  | nil => rfl
  | cons n r ih => rw [List.map_cons]; simp only [boolsOf, ih]; rfl
theorem is_ints {K : PySem.W.Frag} {F : Hp} : ∀ {ns : List Int} {vs : List V}, IsAll K F vs (ns.map PyData.int) → vs = ns.map V.int
  | [], _, h => by cases h; rfl
  | n :: r, _, h => by
    rw [List.map_cons] at h
    cases h with
    | cons h1 h2 => cases h1; rw [is_ints h2, List.map_cons]
theorem is_bools {K : PySem.W.Frag} {F : Hp} : ∀ {ns : List Bool} {vs : List V}, IsAll K F vs (ns.map PyData.bool) → vs = ns.map V.bl
  | [], _, h => by cases h; rfl
  | n :: r, _, h => by
    rw [List.map_cons] at h
    cases h with
    | cons h1 h2 => cases h1; rw [is_bools h2, List.map_cons]
theorem CallR.or {X : Cx} {f : Value} {r r' : List V → Hp → VK → Prop} (h : CallR X f r) (h' : CallR X f r') : CallR X f (fun xs H Q => r xs H Q ∨ r' xs H Q) := L2.CallR.or h h'

section
variable {X : Cx} {W : WX} {a b c : Expr} {es : List Expr} {pos : Pos} {fa fb fc : PEnv → R D} {ft fu : PEnv → R Bool} {k : Nat}

theorem rc_len : RuleC X W (fun xs H Q => (∃ p ys, xs = [.ref p] ∧ (SqL X.K H p ys ∨ SqT X.K H p ys) ∧ Q (.int ys.length) H) ∨ ∃ z, xs = [.str z] ∧ z.length ≤ sizeLine ∧ Q (.int z.length) H) vlen := fun ds vs σ H B Q s dx p => by
  cases dx with
  | nil => exact p.elim
  | cons h1 h2 =>
    cases h2 with
    | cons _ _ => cases h1 <;> exact p.elim
    | nil =>
      cases h1 <;> first | exact p.elim | skip
      · simp only [vlen] at p
        split at p
        · rename_i hz
          exact .inr ⟨_, rfl, hz, p _ H B (.refl s) (.int _)⟩
        · exact p.elim
      · rename_i h3 h4
        refine .inl ⟨_, _, rfl, .inl (.inl (Rd.mono s h3)), ?_⟩
        rw [IsAll.len h4]
        exact p _ H B (.refl s) (.int _)
      · rename_i h3 h4
        refine .inl ⟨_, _, rfl, .inr (Same.tupl s h3), ?_⟩
        rw [IsAll.len h4]
        exact p _ H B (.refl s) (.int _)
theorem vlen_ {f : PEnv → R (List D)} {p : Pos} {e : Expr} (hm : X.mg "len" = none) (ha : VA X W [e] f) (hg : Gl X "len" := by rfl) (he : starEach [e] X.env = (false, eval e X.env) :: starEach [] X.env := by rfl) (hpl : (backTo pos (starEach [] X.env)).any (·.1) = false := by rfl) :
    VE X W (.Call (.Name "len" p) [e] [] pos) (vapp vlen f) := vcB (L2.CallR.or call_len_seq call_len_str) rc_len hm boot_len ha hg (by decide) (by decide) he hpl
theorem rc_int : RuleC X W (fun xs H Q => (∃ i, xs = [.int i] ∧ Q (.int i) H) ∨ ∃ k, xs = [.bl k] ∧ Q (.int (if k then 1 else 0)) H) vint1 := fun ds vs σ H B Q s dx p => by
  cases dx with
  | nil => exact p.elim
  | cons h1 h2 =>
    cases h2 with
    | cons _ _ => cases h1 <;> exact p.elim
    | nil =>
      cases h1 <;> first | exact p.elim | skip
      · exact .inr ⟨_, rfl, p _ H B (.refl s) (.int _)⟩
      · exact .inl ⟨_, rfl, p _ H B (.refl s) (.int _)⟩
theorem vint_ {f : PEnv → R (List D)} {p : Pos} {e : Expr} (hm : X.mg "int" = none) (ha : VA X W [e] f) (hg : Gl X "int" := by rfl) (he : starEach [e] X.env = (false, eval e X.env) :: starEach [] X.env := by rfl) (hpl : (backTo pos (starEach [] X.env)).any (·.1) = false := by rfl) :
    VE X W (.Call (.Name "int" p) [e] [] pos) (vapp vint1 f) := vcT call_int1 rc_int hm boot_int ha hg (by decide) (by decide) he hpl
theorem rc_abs : RuleC X W (fun xs H Q => ∃ i, xs = [.int i] ∧ Q (.int (if i < 0 then -i else i)) H) vabs := fun ds vs σ H B Q s dx p => by
  cases dx with
  | nil => exact p.elim
  | cons h1 h2 =>
    cases h2 with
    | cons _ _ => cases h1 <;> exact p.elim
    | nil =>
      cases h1 <;> first | exact p.elim | exact ⟨_, rfl, p _ H B (.refl s) (.int _)⟩
theorem vabs_ {f : PEnv → R (List D)} {p : Pos} {e : Expr} (hm : X.mg "abs" = none) (ha : VA X W [e] f) (hg : Gl X "abs" := by rfl) (he : starEach [e] X.env = (false, eval e X.env) :: starEach [] X.env := by rfl) (hpl : (backTo pos (starEach [] X.env)).any (·.1) = false := by rfl) :
    VE X W (.Call (.Name "abs" p) [e] [] pos) (vapp vabs f) := vcB call_abs rc_abs hm (by decide +kernel) ha hg (by decide) (by decide) he hpl
def rTup1 (K : PySem.W.Frag) : List V → Hp → VK → Prop := fun xs H Q => ∃ p ys, xs = [.ref p] ∧ ((SqL K H p ys ∧ ∀ l, H l = none → Q (.ref l) (upd H l (.tup ys))) ∨ (SqT K H p ys ∧ Q (.ref p) H))
theorem rc_tuple : RuleC X W (rTup1 X.K) vtuple1 := fun ds vs σ H B Q s dx p => by
  cases dx with
  | nil => exact p.elim
  | cons h1 h2 =>
    cases h2 with
    | cons _ _ => cases h1 <;> exact p.elim
    | nil =>
      cases h1 <;> first | exact p.elim | skip
      · rename_i h3 h4
        exact ⟨_, _, rfl, .inl ⟨.inl (Rd.mono s h3), fun l hl => p _ _ _ (Ext.new s hl) (.tup (.inl upd_same) (IsAll.mono (Ext.new s hl).bb h4))⟩⟩
      · rename_i h3 h4
        exact ⟨_, _, rfl, .inr ⟨Same.tupl s h3, p _ H B (.refl s) (.tup h3 h4)⟩⟩
theorem vtuple_ {f : PEnv → R (List D)} {p : Pos} {e : Expr} (hm : X.mg "tuple" = none) (ha : VA X W [e] f) (hg : Gl X "tuple" := by rfl) (he : starEach [e] X.env = (false, eval e X.env) :: starEach [] X.env := by rfl) (hpl : (backTo pos (starEach [] X.env)).any (·.1) = false := by rfl) :
    VE X W (.Call (.Name "tuple" p) [e] [] pos) (vapp vtuple1 f) := vcT call_tuple_of rc_tuple hm (by decide +kernel) ha hg (by decide) (by decide) he hpl
theorem one_list {r : List V → Hp → VK → Prop} {g : List D → R D} {h : List Int → R D} (hg : ∀ ds, g ds ≠ .stuck → ∃ xs ns, ds = [.list xs] ∧ intsOf xs = some ns ∧ g ds = h ns)
    (hr : ∀ a ns σ H B Q, Same B H → SqL X.K H a (ns.map V.int) → Pst X W σ H (fun d' => ∀ v H' B', Ext B H B' H' → Is X.K B' v d' → Q v H') (h ns) → r [.ref a] H Q) : RuleC X W r g := fun ds vs σ H B Q s dx p => by
  have h0 : g ds ≠ .stuck := fun z => by rw [z] at p; exact p
  obtain ⟨xs, ns, rfl, hi, eg⟩ := hg ds h0
  rw [eg] at p
  cases dx with
  | cons h1 h2 =>
    cases h2
    cases h1 with
    | lst h3 h4 =>
      rw [intsOf_some hi] at h4
      have e := is_ints h4
      subst e
      exact hr _ ns σ H B Q s (.inl (Rd.mono s h3)) p
theorem list_case {g : List D → R D} {h : List Int → R D} {g' : List D → R D} (e1 : ∀ xs, g [.list xs] = match intsOf xs with | some ns => h ns | none => .stuck) (ds : List D) (h0 : g ds ≠ .stuck) (hd : ∃ xs, ds = [.list xs]) : ∃ xs ns, ds = [.list xs] ∧ intsOf xs = some ns ∧ g ds = h ns := by
  obtain ⟨xs, rfl⟩ := hd
  rw [e1] at h0 ⊢
  cases q : intsOf xs with
  | none => rw [q] at h0; exact absurd rfl h0
  | some ns => exact ⟨xs, ns, rfl, q, rfl⟩
theorem rc_sum : RuleC X W (rSum X.K) vsum := one_list (h := fun ns => .ok (.int ns.sum)) (fun ds h0 => list_case (g' := vsum) (fun xs => rfl) ds h0 (by
    cases ds with
    | nil => exact absurd rfl h0
    | cons d r => cases r with
      | nil => cases d <;> first | exact absurd rfl h0 | exact ⟨_, rfl⟩
      | cons _ _ => cases d <;> exact absurd rfl h0))
  fun a ns σ H B Q s h p => ⟨a, ns, rfl, h, p _ H B (.refl s) (.int _)⟩
theorem vsum_ {f : PEnv → R (List D)} {p : Pos} {e : Expr} (hc : X.calm = true) (hm : X.mg "sum" = none) (ha : VA X W [e] f) (hg : Gl X "sum" := by rfl) (he : starEach [e] X.env = (false, eval e X.env) :: starEach [] X.env := by rfl) (hpl : (backTo pos (starEach [] X.env)).any (·.1) = false := by rfl) :
    VE X W (.Call (.Name "sum" p) [e] [] pos) (vapp vsum f) := vcB (cr_sum hc) rc_sum hm (by decide +kernel) ha hg (by decide) (by decide) he hpl
theorem rc_all : RuleC X W (rAll X.K) vall := fun ds vs σ H B Q s dx p => by
  cases dx with
  | nil => exact p.elim
  | cons h1 h2 =>
    cases h2 with
    | cons _ _ => cases h1 <;> exact p.elim
    | nil =>
      cases h1 <;> first | exact p.elim | skip
      rename_i h3 h4
      simp only [vall] at p
      split at p
      · rename_i ns hi
        rw [boolsOf_some hi] at h4
        have e := is_bools h4
        subst e
        exact ⟨_, ns, rfl, .inl (Rd.mono s h3), p _ H B (.refl s) (.bl _)⟩
      · exact p.elim
theorem vall_ {f : PEnv → R (List D)} {p : Pos} {e : Expr} (hc : X.calm = true) (hm : X.mg "all" = none) (ha : VA X W [e] f) (hg : Gl X "all" := by rfl) (he : starEach [e] X.env = (false, eval e X.env) :: starEach [] X.env := by rfl) (hpl : (backTo pos (starEach [] X.env)).any (·.1) = false := by rfl) :
    VE X W (.Call (.Name "all" p) [e] [] pos) (vapp vall f) := vcB (cr_all hc) rc_all hm (by decide +kernel) ha hg (by decide) (by decide) he hpl
def tyName : D → String
  | .none => "NoneType"
  | .bool _ => "bool"
  | .int _ => "int"
  | .str _ => "str"
  | .list _ => "list"
  | .tuple _ => "tuple"
  | .dict _ => "dict"
def isiT (T : String) (n : String) : Bool := n == T || (n == "bool" && T == "int")
def visi (T : String) : D → R D
  | .dict _ => .stuck
  | d => .ok (.bool (isiT T (tyName d)))
structure TyOk (T : String) : Prop where
  k : ∀ n ∈ ["NoneType", "bool", "int", "str", "list", "tuple"], kitB n T = some (isiT T n)
theorem ty_int : TyOk "int" := ⟨by decide +kernel⟩
theorem ty_bool : TyOk "bool" := ⟨by decide +kernel⟩
theorem ty_tuple : TyOk "tuple" := ⟨by decide +kernel⟩
theorem is_ty {K : PySem.W.Frag} {B H : Hp} (s : Same B H) {d : D} {v : V} (nd : ∀ k, d ≠ .dict k) (h : Is K B v d) : TyX K H v (.type (tyName d)) := by
  cases h with
  | non => exact .base .non
  | bl b => exact .base (.bl b)
  | int i => exact .base (.int i)
  | str z => exact .base (.str z)
  | lst h1 h2 =>
    rcases h1 with h | ⟨o, h⟩
    · exact .base (.lst (s _ _ h))
    · exact .base (.frz (s _ _ h))
  | exc _ _ => exact absurd rfl (nd _)
  | dct _ _ _ => exact absurd rfl (nd _)
  | sst _ => exact absurd rfl (nd _)
  | ins _ _ _ _ => exact absurd rfl (nd _)
  | tup h1 h2 =>
    rcases h1 with h | ⟨o, its, n, h, c, _⟩
    · exact .base (.tup (s _ _ h))
    · exact .kTuple h c
theorem visi_ {T : String} {p p2 : Pos} (hT : TyOk T) (hm : X.mg "isinstance" = none) {x : Str} (hx : X.mg x = none) (hv : bootBuiltins x = some (.type T)) (ha : VE X W a fa)
    (hg : Gl X "isinstance" := by rfl) (hgx : Gl X x := by rfl) (hn : x ≠ "__name__" := by decide) (hdb : (x == ("__debug__" : Str)) = false := by decide)
    (he : starEach [a, .Name x p2] X.env = (false, eval a X.env) :: starEach [.Name x p2] X.env := by rfl) (he2 : starEach [.Name x p2] X.env = (false, eval (.Name x p2) X.env) :: starEach [] X.env := by rfl) (hpl : (backTo pos (starEach [.Name x p2] X.env)).any (·.1) = false := by rfl) :
    VE X W (.Call (.Name "isinstance" p) [a, .Name x p2] [] pos) (v1 (visi T) fa) := by
  obtain ⟨ta, pa, qa⟩ := ha.ex
  have p2' : PE X (.Name x p2) (tC (.ty T)) := pe_bltn hgx hx hv rfl hn hdb
  refine VE.mk' (pe_callB call_isi hg hm (by decide +kernel) (pa_cons pa (pa_cons p2' pa_nil he2) he) (by decide) (by decide) he hpl) fun σ H B ρ Q s rf p => ?_
  refine one qa s rf p fun d v H' B' ex sm dx pg => ?_
  have nd : ∀ k, d ≠ .dict k := fun k e => by subst e; exact pg.elim
  have ev : visi T d = .ok (.bool (isiT T (tyName d))) := by
    cases d <;> first | rfl | exact absurd rfl (nd _)
  rw [ev] at pg
  refine ⟨v, .ty T, .type (tyName d), .type T, isiT T (tyName d), rfl, .ty T, is_ty ex.bh nd dx, kit_ty (hT.k _ ?_), pg _ H' B' ex (.bl _)⟩
  cases dx <;> first | exact absurd rfl (nd _) | simp [tyName]

def cutL (xs : List D) (lo hi : Option Int) : List D := (xs.drop (HT.sIx xs.length 0 lo)).take (HT.sIx xs.length xs.length hi - HT.sIx xs.length 0 lo)
theorem IsAll.cut {K : PySem.W.Frag} {F : Hp} {vs : List V} {ds : List D} (h : IsAll K F vs ds) (lo hi : Option Int) : IsAll K F (cutV vs lo hi) (cutL ds lo hi) := by
  unfold cutV cutL
  rw [IsAll.len h]
  exact IsAll.take _ (IsAll.drop _ h)
def vcut (lo hi : Option Int) : D → R D
  | .list xs => .ok (.list (cutL xs lo hi))
  | .tuple xs => .ok (.tuple (cutL xs lo hi))
  | _ => .stuck
structure VO1 (X : Cx) (W : WX) (e : Option Expr) (f : PEnv → R (Option Int)) : Prop where
  ex : ∃ t, PO X e t ∧ ∀ σ H B ρ Q, Same B H → RF X.K B σ ρ → Pst X W σ H (fun i => ∀ H' B', Ext B H B' H' → Q i H') (f ρ) → t σ H Q
def oInt : D → R (Option Int)
  | .int i => .ok (some i)
  | _ => .stuck
theorem vo_none : VO1 X W none (fun _ => .ok none) := ⟨_, po_none, fun σ H B ρ Q s rf p => p H B (.refl s)⟩
theorem vo_some (h : VE X W a fa) : VO1 X W (some a) (fun ρ => (fa ρ).bind oInt) := by
  obtain ⟨t, p, q⟩ := h.ex
  refine ⟨_, po_some p, fun σ H B ρ Q s rf pr => ?_⟩
  refine one q s rf pr fun d x H' B' ex sm dx pg => ?_
  cases dx <;> first | exact pg.elim | exact ⟨_, rfl, pg H' B' ex⟩
def vslice (f : PEnv → R D) (l u : PEnv → R (Option Int)) : PEnv → R D := fun ρ => (f ρ).bind fun d => (l ρ).bind fun lo => (u ρ).bind fun hi => vcut lo hi d
theorem whole_cut (xs : List D) (lo hi : Option Int) (h : HT.sIx xs.length 0 lo = 0 ∧ HT.sIx xs.length xs.length hi = xs.length) : cutL xs lo hi = xs := by
  unfold cutL
  rw [h.1, h.2]
  simp
theorem vslice_ {lo hi : Option Expr} {p2 : Pos} {fl fu : PEnv → R (Option Int)} (ha : VE X W a fa) (hl : VO1 X W lo fl) (hu : VO1 X W hi fu) : VE X W (.Subscript a (.Slice lo hi none p2) pos) (vslice fa fl fu) := by
  obtain ⟨ta, pa, qa⟩ := ha.ex
  obtain ⟨tl, pl, ql⟩ := hl.ex
  obtain ⟨tu, pu, qu⟩ := hu.ex
  refine VE.mk' (pe_slice (SlR.or sl_list sl_tupA) pa pl pu) fun σ H B ρ Q s rf p => ?_
  unfold vslice at p
  refine one qa s rf p fun d x H1 B1 e1 sm dx p1 => ?_
  refine ql σ H1 B1 ρ _ e1.bh (rf.mono e1.bb) ?_
  generalize fl ρ = rl at p1 ⊢
  cases rl with
  | stuck => exact p1
  | err c => exact p1
  | ok lo' =>
    intro H2 B2 e2
    refine qu σ H2 B2 ρ _ e2.bh (rf.mono (e1.trans e2).bb) ?_
    simp only [R.bind_ok] at p1
    generalize fu ρ = ru at p1 ⊢
    cases ru with
    | stuck => exact p1
    | err c => exact fun H' z => p1 H' (e2.hh.trans z)
    | ok hi' =>
      intro H3 B3 e3
      simp only [R.bind_ok] at p1
      have E := (e1.trans e2).trans e3
      have dx3 := Is.mono (e2.trans e3).bb dx
      cases dx3 <;> first | exact p1.elim | skip
      · rename_i h1 h2
        refine .inl ⟨_, _, rfl, .inl (Rd.mono e3.bh h1), fun q hq => ?_⟩
        exact p1 _ _ _ (E.trans (Ext.new e3.bh hq)) (.lst (.inl upd_same) (IsAll.cut (IsAll.mono (Ext.new e3.bh hq).bb h2) _ _))
      · rename_i h1 h2
        refine .inr ⟨_, _, rfl, Same.tupl e3.bh h1, fun hw => ?_, fun _ q hq => ?_⟩
        · rw [IsAll.len h2] at hw
          rw [show vcut lo' hi' (.tuple _) = .ok (.tuple (cutL _ lo' hi')) from rfl, whole_cut _ _ _ hw] at p1
          exact p1 _ H3 B3 E (.tup h1 h2)
        · exact p1 _ _ _ (E.trans (Ext.new e3.bh hq)) (.tup (.inl upd_same) (IsAll.cut (IsAll.mono (Ext.new e3.bh hq).bb h2) _ _))
end
end VL

namespace VL
open PySem PySem.Spec PyProof.Rows L2

structure Walks (K : PySem.W.Frag) (J : It) (ds : List D) (B : Hp) : Prop where
  go : ∀ i H, Same B H → i < ds.length → J.go i H
  yld : ∀ i H x H' B1, Same B B1 → Same B1 H → i < ds.length → J.yld i H x H' → ∃ d B2, ds[i]? = some d ∧ Ext B1 H B2 H' ∧ Is K B2 x d
  stop : ∀ H, Same B H → J.stop ds.length H
  small : ds.length ≤ sizeLine
def KI1 (X : Cx) (B H : Hp) (Rr : It → Hp → Prop) (ds : List D) : Prop := ∀ J H' B', Ext B H B' H' → Walks X.K J ds B' → Rr J H'
structure VI (X : Cx) (W : WX) (tg iter : Expr) (f : PEnv → R (List D)) : Prop where
  ex : ∃ wi, PI X tg iter wi ∧ ∀ σ H B ρ Rr, Same B H → RF X.K B σ ρ → Pst X W σ H (KI1 X B H Rr) (f ρ) → wi σ H Rr
theorem walks_list {K : PySem.W.Frag} {B : Hp} {a : Addr} {vs : List V} {ds : List D} (h : Rd B a (.lst vs)) (hd : IsAll K B vs ds) (hz : ds.length ≤ sizeLine) : Walks K (Itl K a) ds B where
  go := fun i H s hi => by
    have hl := IsAll.len hd
    exact ⟨vs, vs[i]'(by omega), .inl (Rd.mono s h), by simp⟩
  yld := fun i H x H' B1 s1 s2 hi y => by
    obtain ⟨rfl, y⟩ := y
    have e := y vs (.inl (Rd.mono (s1.trans s2) h))
    obtain ⟨d, e2, e3⟩ := IsAll.get hd e
    exact ⟨d, B1, e2, .refl s2, Is.mono s1 e3⟩
  stop := fun H s => ⟨vs, .inl (Rd.mono s h), by rw [IsAll.len hd]; exact Nat.le_refl _⟩
  small := hz
theorem walks_tup {K : PySem.W.Frag} {B : Hp} {a : Addr} {vs : List V} {ds : List D} (h : TupAt K B a vs) (hd : IsAll K B vs ds) (hz : ds.length ≤ sizeLine) : Walks K (Itt K a) ds B where
  go := fun i H s hi => by
    have hl := IsAll.len hd
    exact ⟨vs, vs[i]'(by omega), Same.tupl s h, by simp⟩
  yld := fun i H x H' B1 s1 s2 hi y => by
    obtain ⟨rfl, y⟩ := y
    have e := y vs (Same.tupl (s1.trans s2) h)
    obtain ⟨d, e2, e3⟩ := IsAll.get hd e
    exact ⟨d, B1, e2, .refl s2, Is.mono s1 e3⟩
  stop := fun H s => ⟨vs, Same.tupl s h, by rw [IsAll.len hd]; exact Nat.le_refl _⟩
  small := hz
def rangeD (lo : Int) (n : Nat) : List D := (List.range n).map fun (i : Nat) => PyData.int (lo + (i : Int))
theorem rangeD_len (lo : Int) (n : Nat) : (rangeD lo n).length = n := by unfold rangeD; simp
theorem rangeD_at {lo : Int} {n i : Nat} (h : i < n) : (rangeD lo n)[i]? = some (.int (lo + (i : Int))) := by
  unfold rangeD
  rw [List.getElem?_map, List.getElem?_range h]
  rfl
theorem walks_range {K : PySem.W.Frag} {B : Hp} {lo : Int} {n : Nat} (hz : n ≤ sizeLine) : Walks K (Itr lo n) (rangeD lo n) B where
  go := fun i H s hi => by rw [rangeD_len] at hi; exact hi
  yld := fun i H x H' B1 s1 s2 hi y => by
    obtain ⟨rfl, rfl⟩ := y
    rw [rangeD_len] at hi
    exact ⟨_, B1, rangeD_at hi, .refl s2, .int _⟩
  stop := fun H s => by rw [rangeD_len]; exact Nat.le_refl _
  small := by rw [rangeD_len]; exact hz
def enumD (ds : List D) : List D := ds.mapIdx fun i d => PyData.tuple [.int (i : Int), d]
theorem enumD_len (ds : List D) : (enumD ds).length = ds.length := by unfold enumD; simp
theorem walks_enum {K : PySem.W.Frag} {B : Hp} {a : Addr} {vs : List V} {ds : List D} (h : Rd B a (.lst vs)) (hd : IsAll K B vs ds) (hz : ds.length ≤ sizeLine) : Walks K (Ite K a) (enumD ds) B where
  go := fun i H s hi => by
    have hl := IsAll.len hd
    rw [enumD_len] at hi
    exact ⟨vs, vs[i]'(by omega), .inl (Rd.mono s h), by simp⟩
  yld := fun i H x H' B1 s1 s2 hi y => by
    obtain ⟨T, x', rfl, nT, rfl, y⟩ := y
    have e := y vs (.inl (Rd.mono (s1.trans s2) h))
    obtain ⟨d, e2, e3⟩ := IsAll.get hd e
    refine ⟨.tuple [.int (i : Int), d], _, ?_, Ext.new s2 nT, .tup (.inl upd_same) (.cons (.int _) (.cons (Is.mono (s1.trans (Ext.new s2 nT).bb) e3) .nil))⟩
    unfold enumD
    rw [List.getElem?_mapIdx, e2]
    rfl
  stop := fun H s => ⟨vs, .inl (Rd.mono s h), by rw [enumD_len, IsAll.len hd]; exact Nat.le_refl _⟩
  small := by rw [enumD_len]; exact hz
def zipD (ds es : List D) : List D := List.zipWith (fun d e => PyData.tuple [d, e]) ds es
def seqD : D → R (List D)
  | .list xs => .ok xs
  | .tuple xs => .ok xs
  | _ => .stuck
def rngOk (i j : Int) : Prop := -16777216 ≤ i ∧ i ≤ 16777216 ∧ -16777216 ≤ j ∧ j ≤ 16777216 ∧ j - i ≤ 16777216
noncomputable instance (i j : Int) : Decidable (rngOk i j) := Classical.propDecidable _
noncomputable def vrange1 : D → R (List D)
  | .int j => if rngOk 0 j then .ok (rangeD 0 j.toNat) else .stuck
  | _ => .stuck
noncomputable def vrange2 : D → D → R (List D)
  | .int i, .int j => if rngOk i j then .ok (rangeD i (j - i).toNat) else .stuck
  | _, _ => .stuck
def venum : D → R (List D)
  | .list xs => .ok (enumD xs)
  | _ => .stuck
def vzip : D → D → R (List D)
  | .list xs, .list ys => .ok (zipD xs ys)
  | _, _ => .stuck
def vrev : D → R (List D)
  | .list xs => .ok xs.reverse
  | _ => .stuck
def setsV (σ : L2.St) (bs : List (Nat × V)) : L2.St := bs.foldl (fun σ b => σ.set b.1 (some b.2)) σ
def setsD (ρ : PEnv) (bs : List (Nat × D)) : PEnv := bs.foldl (fun ρ b => ρ.set b.1 (some b.2)) ρ
abbrev Bds (K : PySem.W.Frag) (B : Hp) : List (Nat × V) → List (Nat × D) → Prop := Paired fun p q => p.1 = q.1 ∧ Is K B p.2 q.2
theorem RF.set {K : PySem.W.Frag} {B : Hp} {σ : L2.St} {ρ : PEnv} (h : RF K B σ ρ) (i : Nat) {v : V} {d : D} (hd : Is K B v d) : RF K B (σ.set i (some v)) (ρ.set i (some d)) := ⟨by rw [List.length_set, List.length_set]; exact h.len, fun j e x => by
  by_cases hj : j = i
  · subst hj
    have hl : j < ρ.length := by
      obtain ⟨q, _⟩ := List.getElem?_eq_some_iff.mp x
      rw [List.length_set] at q; exact q
    rw [List.getElem?_set_self hl] at x
    cases x
    rw [List.getElem?_set_self (by rw [h.len]; exact hl)]
    exact ⟨v, rfl, hd⟩
  · rw [List.getElem?_set_ne (Ne.symm hj)] at x
    obtain ⟨u, e1, e2⟩ := h.at_ j e x
    exact ⟨u, by rw [List.getElem?_set_ne (Ne.symm hj)]; exact e1, e2⟩⟩
theorem RF.sets {K : PySem.W.Frag} {B : Hp} : ∀ {bv : List (Nat × V)} {bd : List (Nat × D)} {σ : L2.St} {ρ : PEnv}, RF K B σ ρ → Bds K B bv bd → RF K B (setsV σ bv) (setsD ρ bd)
  | _, _, _, _, h, .nil => h
  | _, _, _, _, h, .cons (a := p) (b := q) r t => by
    obtain ⟨r1, r2⟩ := r
    unfold setsV setsD
    rw [List.foldl_cons, List.foldl_cons, r1]
    exact RF.sets (RF.set h q.1 r2) t
structure VG (X : Cx) (tg : Expr) (sl : List Nat) (k : D → R (List (Nat × D))) : Prop where
  ex : ∃ t, PG X tg t ∧ ∀ v σ H B d Q, Same B H → Is X.K B v d → (∃ bd, k d = .ok bd ∧ ∀ bv, Bds X.K B bv bd → Q (setsV σ bv) H) → t v σ H Q
  sl : ∀ d bs, k d = .ok bs → bs.map (·.1) = sl
structure VGs (X : Cx) (ts : List Expr) (sl : List Nat) (k : List D → R (List (Nat × D))) : Prop where
  ex : ∃ t, PGs X ts t ∧ ∀ vs σ H B ds Q, Same B H → IsAll X.K B vs ds → (∃ bd, k ds = .ok bd ∧ ∀ bv, Bds X.K B bv bd → Q (setsV σ bv) H) → t vs σ H Q
  sl : ∀ ds bs, k ds = .ok bs → bs.map (·.1) = sl ∧ ds.length = ts.length
def gN (i : Nat) : D → R (List (Nat × D)) := fun d => .ok [(i, d)]
def gC (g : D → R (List (Nat × D))) (h : List D → R (List (Nat × D))) : List D → R (List (Nat × D))
  | [] => .stuck
  | d :: ds => (g d).bind fun bs => (h ds).bind fun cs => .ok (bs ++ cs)
def gE : List D → R (List (Nat × D))
  | [] => .ok []
  | _ => .stuck
def gT (h : List D → R (List (Nat × D))) : D → R (List (Nat × D))
  | .tuple xs => h xs
  | .list xs => h xs
  | _ => .stuck
section
variable {X : Cx} {pos : Pos} {e : Expr} {es : List Expr} {g : D → R (List (Nat × D))} {h : List D → R (List (Nat × D))} {sl sl' : List Nat}
theorem vg (i : Nat) {x : Str} (hN : X.N.Nodup) (hi : X.N[i]? = some x := by rfl) (hx : Loc X.env.scope x := by first | exact Or.inl rfl | exact Or.inr rfl) (hf : X.fn x = true ∨ X.env.scope.names.lookup x = some .local := by first | exact .inl rfl | exact .inr rfl) : VG X (.Name x pos) [i] (gN i) :=
  ⟨⟨_, pg_name hN hi hx hf, fun v σ H B d Q s dv ⟨bd, e, q⟩ => by
    cases e
    exact q [(i, v)] (.cons ⟨rfl, dv⟩ .nil)⟩, fun d bs e => by cases e; rfl⟩
theorem vgs_nil : VGs X [] [] gE := ⟨⟨_, pgs_nil, fun vs σ H B ds Q s dv ⟨bd, e, q⟩ => by
  cases dv with
  | nil => cases e; exact ⟨rfl, q [] .nil⟩
  | cons _ _ => cases e⟩, fun ds bs e => by cases ds <;> first | (cases e; exact ⟨rfl, rfl⟩) | cases e⟩
theorem vgs_cons (h1 : VG X e sl g) (h2 : VGs X es sl' h) (hs : (assignEach (e :: es) X.env).map (·.2) = assign e X.env :: (assignEach es X.env).map (·.2) := by rfl) : VGs X (e :: es) (sl ++ sl') (gC g h) := by
  obtain ⟨t, p, q⟩ := h1.ex
  obtain ⟨t2, p2, q2⟩ := h2.ex
  refine ⟨⟨_, pgs_cons p p2 hs, fun vs σ H B ds Q s dv ⟨bd, eb, qq⟩ => ?_⟩, fun ds bs eb => ?_⟩
  · cases dv with
    | nil => cases eb
    | @cons v vs d ds d1 d2 =>
      refine ⟨v, vs, rfl, ?_⟩
      simp only [gC] at eb
      generalize hg : g d = rg at eb
      cases rg with
      | stuck => cases eb
      | err c => cases eb
      | ok b1 =>
        simp only [R.bind_ok] at eb
        generalize hh : h ds = rh at eb
        cases rh with
        | stuck => cases eb
        | err c => cases eb
        | ok b2 =>
          cases eb
          refine q v σ H B d _ s d1 ⟨b1, hg, fun bv1 hb1 => ?_⟩
          refine q2 vs _ H B ds _ s d2 ⟨b2, hh, fun bv2 hb2 => ?_⟩
          have z := qq (bv1 ++ bv2) (by
            have app : ∀ {l1 l2 l3 l4}, Bds X.K B l1 l2 → Bds X.K B l3 l4 → Bds X.K B (l1 ++ l3) (l2 ++ l4) := by
              intro l1 l2 l3 l4 a b
              induction a with
              | nil => exact b
              | cons r t ih => exact .cons r ih
            exact app hb1 hb2)
          unfold setsV at z
          rw [List.foldl_append] at z
          exact z
  · cases ds with
    | nil => cases eb
    | cons d ds =>
      simp only [gC] at eb
      generalize hg : g d = rg at eb
      cases rg with
      | stuck => cases eb
      | err c => cases eb
      | ok b1 =>
        simp only [R.bind_ok] at eb
        generalize hh : h ds = rh at eb
        cases rh with
        | stuck => cases eb
        | err c => cases eb
        | ok b2 =>
          cases eb
          obtain ⟨z1, z2⟩ := h2.sl ds b2 hh
          rw [List.map_append, h1.sl d b1 hg, z1, List.length_cons, List.length_cons, z2]
          exact ⟨rfl, rfl⟩
theorem pg_or {tg : Expr} {t1 t2 : TG} (h1 : PG X tg t1) (h2 : PG X tg t2) : PG X tg (fun v σ H Q => t1 v σ H Q ∨ t2 v σ H Q) :=
  ⟨fun pins s σ H v u Q I r hw => hw.elim (h1.run pins s σ H v u Q I r) (h2.run pins s σ H v u Q I r)⟩
theorem vg_tup {k : Nat} {n : Nat} (hc : X.calm = true) (hh : VGs X es sl h) (hn : (assignEach es X.env).length = n := by rfl) (hst : (assignEach es X.env).findIdx? (·.1) = none := by rfl) (hl : es.length = n := by rfl) : VG X (.Tuple es k pos) sl (gT h) := by
  obtain ⟨t, p, q⟩ := hh.ex
  refine ⟨⟨_, pg_or (pg_tup hc p hn hst) (pg_lst hc p hn hst), fun v σ H B d Q s dv ⟨bd, eb, qq⟩ => ?_⟩, fun d bs eb => ?_⟩
  · cases dv with
    | @tup a xs ds h1 h2 => exact .inl ⟨a, xs, rfl, Same.tupl s h1, by rw [IsAll.len h2, (hh.sl ds bd eb).2, hl], q xs σ H B ds Q s h2 ⟨bd, eb, qq⟩⟩
    | @lst a xs ds h1 h2 => exact .inr ⟨a, xs, rfl, .inl (Rd.mono s h1), by rw [IsAll.len h2, (hh.sl ds bd eb).2, hl], q xs σ H B ds Q s h2 ⟨bd, eb, qq⟩⟩
    | _ => cases eb
  · cases d <;> first | (cases eb; done) | exact (hh.sl _ bs eb).1
end
section
variable {X : Cx} {W : WX} {a b c : Expr} {es : List Expr} {pos : Pos} {fa fb fc : PEnv → R D} {ft fu : PEnv → R Bool} {k : Nat} {tg : Expr}
theorem pi_seq {l : Expr} {tl : TE} (hl : PE X l tl) : PI X tg l (fun σ H Rr => tl σ H fun x G1 => ∃ a, x = .ref a ∧ (((∃ xs, SqL X.K G1 a xs) ∧ Rr (Itl X.K a) G1) ∨ ((∃ xs, SqT X.K G1 a xs) ∧ Rr (Itt X.K a) G1))) := by
  refine ⟨fun pins s σ H R J hh => ?_⟩
  refine thn (hl.run pins s σ H _ J hh) fun v t1 ⟨x, G1, J1, rr, qq⟩ => ?_
  obtain ⟨a, ee, q⟩ := qq
  subst ee
  cases rr
  rcases q with ⟨⟨xs, hq⟩, q⟩ | ⟨⟨xs, hq⟩, q⟩
  · obtain ⟨its, rv, p, hz⟩ := J1.list hq
    refine wpAny_pyIter_list p.isList ?_
    refine ⟨t1.heap.objs.size, [t1.heap.objs.size], _, _, G1, rfl, J1.kept (t' := t1.toks) fun bb o ee => Heap.get?_push_of_some _ ee, turn_list a _, ⟨_, Heap.get?_push_size _ rfl, rfl, rfl⟩, fun bb hb => ?_, q⟩
    have ee : bb = t1.heap.objs.size := by simpa using hb
    subst ee
    exact J1.fpOk (Nat.le_refl _) (J1.hok.fresh (Nat.le_refl _))
  · obtain ⟨its, rv, p, hz⟩ := J1.tuple hq
    refine wpAny_pyIter_tuple (show t1.heap.IsTuple a its.toArray from p) ?_
    refine ⟨t1.heap.objs.size, [t1.heap.objs.size], _, _, G1, rfl, J1.kept (t' := t1.toks) fun bb o ee => Heap.get?_push_of_some _ ee, turn_tuple a _, ⟨_, Heap.get?_push_size _ rfl, rfl, rfl⟩, fun bb hb => ?_, q⟩
    have ee : bb = t1.heap.objs.size := by simpa using hb
    subst ee
    exact J1.fpOk (Nat.le_refl _) (J1.hok.fresh (Nat.le_refl _))
def isq (f : PEnv → R D) : PEnv → R (List D) := fun ρ => (f ρ).bind seqD
theorem vi_seq (h : VE X W a fa) : VI X W tg a (isq fa) := by
  obtain ⟨t, p, q⟩ := h.ex
  refine ⟨_, pi_seq p, fun σ H B ρ Rr s rf pr => ?_⟩
  refine one q s rf pr fun d x H' B' ex sm dx pg => ?_
  have dx0 := dx
  cases dx <;> first | exact pg.elim | skip
  · rename_i h1 h2
    exact ⟨_, rfl, .inl ⟨⟨_, .inl (Rd.mono ex.bh h1)⟩, pg _ H' B' ex (walks_list h1 h2 (Small.list sm ex.bh dx0))⟩⟩
  · rename_i h1 h2
    exact ⟨_, rfl, .inr ⟨⟨_, Same.tupl ex.bh h1⟩, pg _ H' B' ex (walks_tup h1 h2 (Small.tuple sm ex.bh dx0))⟩⟩
def i1 (g : D → R (List D)) (f : PEnv → R D) : PEnv → R (List D) := fun ρ => (f ρ).bind g
def i2 (g : D → D → R (List D)) (f f' : PEnv → R D) : PEnv → R (List D) := fun ρ => (f ρ).bind fun d => (f' ρ).bind fun e => g d e
theorem vi_enum {p pos tpos : Pos} {elts : List Expr} {kk : Nat} (hm : X.mg "enumerate" = none) (ha : VE X W a fa) (hg : Gl X "enumerate" := by rfl) (hs : starEach [a] X.env = [(false, eval a X.env)] := by rfl) (he : starEach [a] X.env = (false, eval a X.env) :: starEach [] X.env := by rfl) : VI X W (.Tuple elts kk tpos) (.Call (.Name "enumerate" p) [a] [] pos) (i1 venum fa) := by
  obtain ⟨t, pt, qt⟩ := ha.ex
  refine ⟨_, pi_enum hg hm (pa_cons pt pa_nil he) hs, fun σ H B ρ Rr s rf pr => ?_⟩
  refine one qt s rf pr fun d x H' B' ex sm dx pg => ?_
  have dx0 := dx
  cases dx <;> first | exact pg.elim | skip
  rename_i h1 h2
  exact ⟨_, _, rfl, .inl (Rd.mono ex.bh h1), pg _ H' B' ex (walks_enum h1 h2 (Small.list sm ex.bh dx0))⟩
def wipeD (ρ : PEnv) : List Nat → PEnv
  | [] => ρ
  | v :: vs => (wipeD ρ vs).set v none
theorem RF.wipe {K : PySem.W.Frag} {B : Hp} {σ : L2.St} {ρ : PEnv} (h : RF K B σ ρ) : ∀ vs : List Nat, RF K B (L2.wipe σ vs) (wipeD ρ vs)
  | [] => h
  | v :: vs => by
    have ih := RF.wipe h vs
    unfold L2.wipe wipeD
    refine ⟨by rw [List.length_set, List.length_set]; exact ih.len, fun j e x => ?_⟩
    by_cases hj : j = v
    · subst hj
      have hl : j < (wipeD ρ vs).length := by
        obtain ⟨q, _⟩ := List.getElem?_eq_some_iff.mp x
        rw [List.length_set] at q; exact q
      rw [List.getElem?_set_self hl] at x
      cases x
    · rw [List.getElem?_set_ne (Ne.symm hj)] at x
      obtain ⟨u, e1, e2⟩ := ih.at_ j e x
      exact ⟨u, by rw [List.getElem?_set_ne (Ne.symm hj)]; exact e1, e2⟩
theorem wipe_set {σ : L2.St} {i : Nat} {x : Option V} : ∀ {vs : List Nat}, i ∈ vs → L2.wipe (σ.set i x) vs = L2.wipe σ vs
  | [], h => by cases h
  | v :: vs, h => by
    show (L2.wipe (σ.set i x) vs).set v none = (L2.wipe σ vs).set v none
    by_cases hm : i ∈ vs
    · rw [wipe_set hm]
    · have hv : i = v := by
        rcases List.mem_cons.mp h with e | e
        · exact e
        · exact absurd e hm
      subst hv
      have sw : ∀ ws : List Nat, i ∉ ws → L2.wipe (σ.set i x) ws = (L2.wipe σ ws).set i x := by
        intro ws
        induction ws with
        | nil => intro _; rfl
        | cons w ws ih =>
          intro hw
          have h1 : i ≠ w := fun e => hw (e ▸ List.mem_cons_self)
          show (L2.wipe (σ.set i x) ws).set w none = ((L2.wipe σ ws).set w none).set i x
          rw [ih (fun q => hw (List.mem_cons_of_mem _ q)), List.set_comm _ _ h1]
      rw [sw vs hm, List.set_set]
theorem wipe_idem {σ : L2.St} (vs : List Nat) : L2.wipe (L2.wipe σ vs) vs = L2.wipe σ vs := by
  have : ∀ ws, (∀ w ∈ ws, w ∈ vs) → L2.wipe (L2.wipe σ ws) vs = L2.wipe σ vs := by
    intro ws
    induction ws with
    | nil => intro _; rfl
    | cons w ws ih =>
      intro h
      show L2.wipe ((L2.wipe σ ws).set w none) vs = _
      rw [wipe_set (h w List.mem_cons_self), ih fun x hx => h x (List.mem_cons_of_mem _ hx)]
  exact this vs fun _ h => h
theorem wipe_sets {vs : List Nat} : ∀ {bs : List (Nat × V)} {σ : L2.St}, (∀ b ∈ bs, b.1 ∈ vs) → L2.wipe (setsV σ bs) vs = L2.wipe σ vs
  | [], _, _ => rfl
  | b :: bs, σ, h => by
    show L2.wipe (setsV (σ.set b.1 (some b.2)) bs) vs = _
    rw [wipe_sets fun x hx => h x (List.mem_cons_of_mem _ hx), wipe_set (h b List.mem_cons_self)]
def R.calm {α : Type} : R α → R α
  | .err _ => .stuck
  | r => r
def tyes : PEnv → R Bool := fun _ => .ok true
def compL (kt : D → R (List (Nat × D))) (ft : PEnv → R Bool) (fe : PEnv → R D) (ρ : PEnv) : List D → R (List D)
  | [] => .ok []
  | d :: ds => (kt d).bind fun bs => ((ft (setsD ρ bs)).calm).bind fun b => if b then ((fe (setsD ρ bs)).calm).bind fun y => (compL kt ft fe ρ ds).bind fun ys => .ok (y :: ys) else compL kt ft fe ρ ds
def vcomp (own : List Nat) (fi : PEnv → R (List D)) (kt : D → R (List (Nat × D))) (ft : PEnv → R Bool) (fe : PEnv → R D) : PEnv → R (List D) := fun ρ => (fi ρ).bind fun ds => (compL kt ft fe (wipeD ρ own) ds).calm
abbrev W0 : WX := fun _ _ _ _ => False
structure VTs (X : Cx) (W : WX) (ifs : List Expr) (f : PEnv → R Bool) : Prop where
  ex : ∃ t, PTs X ifs t ∧ ∀ σ H B ρ Q, Same B H → RF X.K B σ ρ → Pst X W σ H (KB1 B H Q) (f ρ) → t σ H Q
theorem vts_nil : VTs X W [] tyes := ⟨_, pts_nil, fun σ H B ρ Q s rf p => p H B (.refl s)⟩
theorem vts_one (h : VT X W c ft) : VTs X W [c] ft := by
  obtain ⟨t, p, q⟩ := h.ex
  exact ⟨t, pts_one p, q⟩
theorem calm_ok {α : Type} {r : R α} {a : α} (h : r.calm = .ok a) : r = .ok a := by
  cases r <;> first | exact h | cases h
theorem calm_ne {α : Type} {r : R α} {c : Str} : r.calm ≠ .err c := by cases r <;> exact fun h => nomatch h
theorem Pst.calm {α : Type} {X : Cx} {W : WX} {σ : L2.St} {H : Hp} {K : α → Prop} {r : R α} {a : α} (h : r.calm = .ok a) (k : K a) : Pst X W σ H K r := by
  rw [calm_ok h]; exact k
def KFr (X : Cx) (B H : Hp) (Q : VK) (ds : List PyData) : Prop := ∀ p vs H' B', Ext B H B' H' → H' p = some (.lst vs) → H p = none → B' p = none → IsAll X.K B' vs ds → Q (.ref p) H'
theorem kfr_of {B H : Hp} {Q : VK} {ds : List PyData} (h : ∀ v H' B', Ext B H B' H' → Is X.K B' v (.list ds) → Q v H') : KFr X B H Q ds := fun p vs H' B' e hp hn bn ia => by
  refine h _ H' (upd B' p (.lst vs)) ⟨e.hh, fun b u q => same_upd bn _ _ (e.bb _ _ q), fun b u q => ?_, fun a h1 h2 => ?_⟩ (.lst (.inl upd_same) (IsAll.mono (same_upd bn) ia))
  · by_cases hb : b = p
    · subst hb; rw [upd_same] at q; cases q; exact hp
    · rw [upd_ne hb] at q; exact e.bh _ _ q
  · by_cases hb : a = p
    · subst hb; exact .inl hn
    · rw [upd_ne hb] at h2; exact e.nw a h1 h2
structure VFr (X : Cx) (W : WX) (e : Expr) (f : PEnv → R (List PyData)) : Prop where
  ex : ∃ t, PE X e t ∧ ∀ σ H B ρ Q, Same B H → RF X.K B σ ρ → Pst X W σ H (KFr X B H Q) (f ρ) → t σ H Q
def vlistOf (f : PEnv → R (List PyData)) : PEnv → R PyData := fun ρ => (f ρ).bind fun ds => .ok (.list ds)
theorem VFr.ve {e : Expr} {f : PEnv → R (List PyData)} (h : VFr X W e f) : VE X W e (vlistOf f) := by
  obtain ⟨t, p, q⟩ := h.ex
  refine VE.mk' p fun σ H B ρ Q s rf pr => q σ H B ρ Q s rf ?_
  unfold vlistOf at pr
  generalize f ρ = r at pr ⊢
  cases r with
  | stuck => exact pr
  | err c => exact pr
  | ok ds => exact kfr_of pr
theorem comp_read1 {wi : TI} {g : TG} {tt : TT} {te : TE} {own sl : List Nat} {fi : PEnv → R (List D)} {kt : D → R (List (Nat × D))} {ft : PEnv → R Bool} {fe : PEnv → R D} 
    (qg : ∀ v σ H B d Q, Same B H → Is X.K B v d → (∃ bd, kt d = .ok bd ∧ ∀ bv, Bds X.K B bv bd → Q (setsV σ bv) H) → g v σ H Q) (hsl : ∀ d bs, kt d = .ok bs → bs.map (·.1) = sl) (hso : ∀ i ∈ sl, i ∈ own)
    (qt : ∀ σ H B ρ Q, Same B H → RF X.K B σ ρ → Pst X W0 σ H (KB1 B H Q) (ft ρ) → tt σ H Q)
    (qe : ∀ σ H B ρ Q, Same B H → RF X.K B σ ρ → Pst X W0 σ H (KV1 X B H Q) (fe ρ) → te σ H Q)
    {σ : L2.St} {H B : Hp} {ρ : PEnv} {Q : VK} (s : Same B H) (rf : RF X.K B σ ρ)
    (qi : ∀ Rr, Pst X W σ H (KI1 X B H Rr) (fi ρ) → wi σ H Rr)
    (pr : Pst X W σ H (KFr X B H Q) (vcomp own fi kt ft fe ρ)) : tLc wi g tt te own σ H Q := by
  unfold vcomp at pr
  refine qi _ ?_
  generalize fi ρ = ri at pr ⊢
  cases ri with
  | stuck => exact pr
  | err c => exact pr
  | ok ds =>
    simp only [R.bind_ok] at pr
    intro J H1 B1 e1 wk D hD
    generalize hc : (compL kt ft fe (wipeD ρ own) ds).calm = rc at pr
    cases rc with
    | stuck => exact pr.elim
    | err c => exact (calm_ne hc).elim
    | ok ys =>
      have hc := calm_ok hc
      have pr : KFr X B H Q ys := pr
      have hDH : H D = none := Same.free e1.hh hD
      have upo : ∀ {B' H' : Hp} {o : HO}, Ext B H B' H' → B' D = none → Ext B H B' (upd H' D o) := fun {B' H' o} x n =>
        ⟨fun b u q => by rw [upd_ne (ne_of_none q hDH)]; exact x.hh _ _ q, x.bb, fun b u q => by rw [upd_ne (ne_of_none q n)]; exact x.bh _ _ q, x.nw⟩
      have keepD : ∀ {Ba Ha B' H' : Hp} {o : List V}, Ext Ba Ha B' H' → Ba D = none → Ha D = some (.lst o) → B' D = none := fun {Ba Ha B' H' o} x n q => by
        cases z : B' D with
        | none => rfl
        | some u =>
          have := x.nw D n (by rw [z]; exact fun w => nomatch w)
          exact (this.no q (fun _ e => nomatch e)).elim
      refine ⟨fun i m Hi => m = ds.length - i ∧ i ≤ ds.length ∧ ∃ Bi acc yd rest, Ext B H Bi Hi ∧ Same B1 Bi ∧ Bi D = none ∧ Hi D = some (.lst acc) ∧ IsAll X.K Bi acc yd ∧ acc.length ≤ i ∧ compL kt ft fe (wipeD ρ own) (ds.drop i) = .ok rest ∧ yd ++ rest = ys,
        ⟨ds.length, by simp, Nat.zero_le _, B1, [], [], ys, upo e1 (Same.free e1.bh hD), Same.refl _, Same.free e1.bh hD, upd_same, .nil, Nat.le_refl _, by simpa using hc, rfl⟩, ?_⟩
      rintro i m Hi ⟨rfl, hi, Bi, acc, yd, rest, ex, b1, bD, hDi, ia, hl, hcr, hys⟩
      by_cases hlt : i < ds.length
      · refine .inr ⟨wk.go i Hi (b1.trans ex.bh) hlt, fun Hi => i + 1 ≤ ds.length ∧ ∃ Bi acc yd rest, Ext B H Bi Hi ∧ Same B1 Bi ∧ Bi D = none ∧ Hi D = some (.lst acc) ∧ IsAll X.K Bi acc yd ∧ acc.length ≤ i + 1 ∧ compL kt ft fe (wipeD ρ own) (ds.drop (i + 1)) = .ok rest ∧ yd ++ rest = ys,
          fun H' q => ⟨ds.length - (i + 1), by omega, rfl, q⟩, fun x H' y => ?_⟩
        obtain ⟨d, B2, e2, E2, dx⟩ := wk.yld i Hi x H' Bi b1 ex.bh hlt y
        have hdrop : ds.drop i = d :: ds.drop (i + 1) := by
          obtain ⟨q1, q2⟩ := List.getElem?_eq_some_iff.mp e2
          rw [List.drop_eq_getElem_cons q1, q2]
        rw [hdrop] at hcr
        simp only [compL] at hcr
        generalize hk : kt d = rk at hcr
        cases rk with
        | stuck => cases hcr
        | err c => cases hcr
        | ok bs =>
          simp only [R.bind_ok] at hcr
          generalize hft : (ft (setsD (wipeD ρ own) bs)).calm = rt at hcr
          cases rt with
          | stuck => cases hcr
          | err c => cases hcr
          | ok b =>
            simp only [R.bind_ok] at hcr
            refine qg x (L2.wipe σ own) H' B2 d _ E2.bh dx ⟨bs, hk, fun bv hb => ?_⟩
            have RF2 : RF X.K B2 (setsV (L2.wipe σ own) bv) (setsD (wipeD ρ own) bs) := RF.sets ((RF.wipe rf own).mono (ex.bb.trans E2.bb)) hb
            have hw : L2.wipe (setsV (L2.wipe σ own) bv) own = L2.wipe σ own := by
              rw [wipe_sets, wipe_idem]
              intro p hp
              refine hso _ ?_
              rw [← hsl d bs hk]
              have fst : ∀ {l1 : List (Nat × V)} {l2 : List (Nat × PyData)}, Bds X.K B2 l1 l2 → l1.map (·.1) = l2.map (·.1) := by
                intro l1 l2 h
                induction h with
                | nil => rfl
                | cons r t ih => rw [List.map_cons, List.map_cons, r.1, ih]
              rw [← fst hb]
              exact List.mem_map_of_mem hp
            refine ⟨hw, ?_⟩
            refine qt _ H' B2 _ _ E2.bh RF2 (Pst.calm hft fun H3 B3 E3 => ?_)
            have hD2 := E2.hh _ _ hDi
            have bD2 := keepD E2 bD hDi
            cases b with
            | true =>
              simp only [if_true] at hcr
              generalize hfe : (fe (setsD (wipeD ρ own) bs)).calm = re at hcr
              cases re with
              | stuck => cases hcr
              | err c => cases hcr
              | ok yv =>
                simp only [R.bind_ok] at hcr
                generalize hrest : compL kt ft fe (wipeD ρ own) (ds.drop (i + 1)) = rr at hcr
                cases rr with
                | stuck => cases hcr
                | err c => cases hcr
                | ok rest' =>
                  cases hcr
                  refine iteT (qe _ H3 B3 _ _ E3.bh (RF2.mono E3.bb) (Pst.calm hfe fun v H4 B4 E4 sm dv => ?_))
                  have E24 := (E2.trans E3).trans E4
                  have bD4 := keepD E24 bD hDi
                  refine ⟨acc, E24.hh _ _ hDi, by have := wk.small; omega, hlt, B4, acc ++ [v], yd ++ [yv], rest', upo (ex.trans E24) bD4, b1.trans E24.bb, bD4, upd_same, IsAll.append (IsAll.mono E24.bb ia) (.cons dv .nil), by rw [List.length_append, List.length_singleton]; omega, rfl, ?_⟩
                  rw [List.append_assoc]; exact hys
            | false =>
              simp only [Bool.false_eq_true, if_false] at hcr
              have E23 := E2.trans E3
              exact iteF ⟨hlt, B3, acc, yd, rest, ex.trans E23, b1.trans E23.bb, keepD E23 bD hDi, E23.hh _ _ hDi, IsAll.mono E23.bb ia, by omega, hcr, hys⟩
      · have e : i = ds.length := by omega
        subst e
        refine .inl ⟨wk.stop Hi (b1.trans ex.bh), ?_⟩
        rw [List.drop_length] at hcr
        cases hcr
        rw [List.append_nil] at hys
        subst hys
        exact pr D acc Hi Bi ex hDi hDH bD ia
theorem comp_read {wi : TI} {g : TG} {tt : TT} {te : TE} {own sl : List Nat} {fi : PEnv → R (List D)} {kt : D → R (List (Nat × D))} {ft : PEnv → R Bool} {fe : PEnv → R D} 
    (qi : ∀ σ H B ρ Rr, Same B H → RF X.K B σ ρ → Pst X W σ H (KI1 X B H Rr) (fi ρ) → wi σ H Rr)
    (qg : ∀ v σ H B d Q, Same B H → Is X.K B v d → (∃ bd, kt d = .ok bd ∧ ∀ bv, Bds X.K B bv bd → Q (setsV σ bv) H) → g v σ H Q) (hsl : ∀ d bs, kt d = .ok bs → bs.map (·.1) = sl) (hso : ∀ i ∈ sl, i ∈ own)
    (qt : ∀ σ H B ρ Q, Same B H → RF X.K B σ ρ → Pst X W0 σ H (KB1 B H Q) (ft ρ) → tt σ H Q)
    (qe : ∀ σ H B ρ Q, Same B H → RF X.K B σ ρ → Pst X W0 σ H (KV1 X B H Q) (fe ρ) → te σ H Q)
    {σ : L2.St} {H B : Hp} {ρ : PEnv} {Q : VK} (s : Same B H) (rf : RF X.K B σ ρ)
    (pr : Pst X W σ H (KFr X B H Q) (vcomp own fi kt ft fe ρ)) : tLc wi g tt te own σ H Q :=
  comp_read1 qg hsl hso qt qe s rf (fun Rr h => qi σ H B ρ Rr s rf h) pr
def tV (X : Cx) (W : WX) (f : PEnv → R PyData) : TE := fun σ H Q => ∃ B ρ, Same B H ∧ RF X.K B σ ρ ∧ Pst X W σ H (KV1 X B H Q) (f ρ)
def tVT (X : Cx) (W : WX) (f : PEnv → R Bool) : TT := fun σ H Q => ∃ B ρ, Same B H ∧ RF X.K B σ ρ ∧ Pst X W σ H (KB1 B H Q) (f ρ)
def tVG (X : Cx) (k : PyData → R (List (Nat × PyData))) : TG := fun v σ H Q => ∃ B d, Same B H ∧ Is X.K B v d ∧ ∃ bd, k d = .ok bd ∧ ∀ bv, Bds X.K B bv bd → Q (setsV σ bv) H
theorem VE.pe {e : Expr} {f : PEnv → R PyData} (h : VE X W e f) : PE X e (tV X W f) := by
  obtain ⟨t, p, q⟩ := h.ex
  exact ⟨fun pins s σ H Q I ⟨B, ρ, s1, r, hp⟩ => p.run pins s σ H Q I (q σ H B ρ Q s1 r hp)⟩
theorem VTs.pt {e : List Expr} {f : PEnv → R Bool} (h : VTs X W e f) : PTs X e (tVT X W f) := by
  obtain ⟨t, p, q⟩ := h.ex
  exact ⟨fun pins s σ H Q I ⟨B, ρ, s1, r, hp⟩ => p.run pins s σ H Q I (q σ H B ρ Q s1 r hp)⟩
theorem VT.pt {e : Expr} {f : PEnv → R Bool} (h : VT X W e f) : PT X e (tVT X W f) := by
  obtain ⟨t, p, q⟩ := h.ex
  exact ⟨fun pins s σ H Q I ⟨B, ρ, s1, r, hp⟩ => p.run pins s σ H Q I (q σ H B ρ Q s1 r hp)⟩
theorem VG.pg {e : Expr} {sl : List Nat} {k : PyData → R (List (Nat × PyData))} (h : VG X e sl k) : PG X e (tVG X k) := by
  obtain ⟨t, p, q⟩ := h.ex
  exact ⟨fun pins s σ H v u Q I r ⟨B, d, s1, dv, hp⟩ => p.run pins s σ H v u Q I r (q v σ H B d Q s1 dv hp)⟩
theorem vcomp_ {elt tg iter : Expr} {ifs : List Expr} {scope : Scope} {own : List (Str × Nat)} {sl : List Nat} {fi : PEnv → R (List D)} {kt : D → R (List (Nat × D))} {ft : PEnv → R Bool} {fe : PEnv → R D} (hc : X.calm = true) (hN : X.N.Nodup) (hi : VI X W tg iter fi) (ok : BlkOk X.N X.env.scope scope own)
    (hg : ∀ (s : Shared) (H : Hp) (C : Addr) (cl : List (Str × Addr)) (fp : List Addr), VG (X.blk s H scope (compEnvC scope cl C X.env) fp) tg sl kt)
    (hso : ∀ i ∈ sl, i ∈ own.map (·.2))
    (ht : ∀ (s : Shared) (H : Hp) (C : Addr) (cl : List (Str × Addr)) (fp : List Addr), VTs (X.blk s H scope (compEnvC scope cl C X.env) fp) W0 ifs ft)
    (he : ∀ (s : Shared) (H : Hp) (C : Addr) (cl : List (Str × Addr)) (fp : List Addr), VE (X.blk s H scope (compEnvC scope cl C X.env) fp) W0 elt fe) (hs : ∀ x, foldedSetIterable iter X.env x = pure x := by intro _; rfl) :
    VFr X W (.ListComp elt [⟨tg, iter, ifs, 0⟩] scope pos) (vcomp (own.map (·.2)) fi kt ft fe) := by
  obtain ⟨wi, pi, qi⟩ := hi.ex
  have h1 : ∀ (s : Shared) (H : Hp) (C : Addr) (cl : List (Str × Addr)) (fp : List Addr), PG (X.blk s H scope (compEnvC scope cl C X.env) fp) tg (tVG X kt) := fun s H C cl fp => (hg s H C cl fp).pg
  have h2 : ∀ (s : Shared) (H : Hp) (C : Addr) (cl : List (Str × Addr)) (fp : List Addr), PTs (X.blk s H scope (compEnvC scope cl C X.env) fp) ifs (tVT X W0 ft) := fun s H C cl fp => (ht s H C cl fp).pt
  have h3 : ∀ (s : Shared) (H : Hp) (C : Addr) (cl : List (Str × Addr)) (fp : List Addr), PE (X.blk s H scope (compEnvC scope cl C X.env) fp) elt (tV X W0 fe) := fun s H C cl fp => (he s H C cl fp).pe
  refine ⟨_, pe_lc hc hN pi ok h1 h2 h3 hs, fun σ H B ρ Q s rf pr => ?_⟩
  have hsl : ∀ d bs, kt d = .ok bs → bs.map (·.1) = sl := (hg {} (fun _ => none) 0 [] []).sl
  exact comp_read qi (fun v σ H B d Q s dv q => ⟨B, d, s, dv, q⟩) hsl hso (fun σ H B ρ Q s r p => ⟨B, ρ, s, r, p⟩) (fun σ H B ρ Q s r p => ⟨B, ρ, s, r, p⟩) s rf pr
theorem vlst_f {n : Nat} {g : PEnv → R (List PyData)} (h : VAn X W n es g) (hz : n ≤ 1000 := by decide) : VFr X W (.List es pos) g := by
  obtain ⟨t, pt, qt⟩ := h.va.ex
  refine ⟨_, pe_lst pt, fun σ H B ρ Q s r p => ?_⟩
  cases hg : g ρ with
  | stuck => rw [hg] at p; exact p.elim
  | err c => rw [hg] at p; exact qt σ H B ρ _ s r (by rw [hg]; exact p)
  | ok ds =>
    rw [hg] at p
    refine qt σ H B ρ _ s r ?_
    rw [hg]
    intro xs H1 B1 e1 d1
    refine ⟨by rw [IsAll.len d1, h.len ρ ds hg]; exact Nat.le_trans hz (by decide), fun q hq => ?_⟩
    exact p q xs _ B1 (e1.trans (Ext.own e1.bh hq)) upd_same (Same.free e1.hh hq) (Same.free e1.bh hq) d1
theorem vlist_f {p : Pos} {e : Expr} {f : PEnv → R PyData} (hm : X.mg "list" = none) (ha : VE X W e f) (hg : Gl X "list" := by rfl) (he : starEach [e] X.env = (false, eval e X.env) :: starEach [] X.env := by rfl) (hpl : (backTo pos (starEach [] X.env)).any (·.1) = false := by rfl) :
    VFr X W (.Call (.Name "list" p) [e] [] pos) (isq f) := by
  obtain ⟨t, pt, qt⟩ := ha.ex
  refine ⟨_, pe_callTy call_list_of hg hm (by decide +kernel) (pa_cons pt pa_nil he) (by decide) (by decide) he hpl, fun σ H B ρ Q s rf pr => ?_⟩
  refine one qt s rf pr fun d x H' B' ex sm dx pg => ?_
  cases dx <;> first | exact pg.elim | skip
  · rename_i h1 h2
    exact ⟨_, _, rfl, .inl (.inl (Rd.mono ex.bh h1)), fun l hl => pg l _ _ B' (ex.trans (Ext.own ex.bh hl)) upd_same (Same.free ex.hh hl) (Same.free ex.bh hl) h2⟩
  · rename_i h1 h2
    exact ⟨_, _, rfl, .inr (Same.tupl ex.bh h1), fun l hl => pg l _ _ B' (ex.trans (Ext.own ex.bh hl)) upd_same (Same.free ex.hh hl) (Same.free ex.bh hl) h2⟩
end
end VL

namespace VL
open PySem PySem.Spec PyProof.Rows L2

inductive O where
  | fz (d : PyData)
  | tup (xs : List O)
  | lst (xs : List O)
  | dct (ks : KS) (xs : List O)
  | ins (c : Str) (ns : List Str) (xs : List O)
  /- what a def was lent: the thing at a -/
  | par (a : Addr) (o : O)
mutual
def O.data : O → PyData
  | .fz d => d
  | .tup xs => .tuple (O.datas xs)
  | .lst xs => .list (O.datas xs)
  | .dct ks xs => dctD ks (O.datas xs)
  | .ins c ns xs => insD c ns (O.datas xs)
  | .par _ o => O.data o
def O.datas : List O → List PyData
  | [] => []
  | x :: xs => O.data x :: O.datas xs
end
theorem O.datas_map : ∀ xs : List O, O.datas xs = xs.map O.data
  | [] => by simp [O.datas]
  | x :: xs => by simp [O.datas, O.datas_map xs]
@[simp] theorem O.data_fz (d : PyData) : O.data (.fz d) = d := by simp [O.data]
@[simp] theorem O.data_lst (xs : List O) : O.data (.lst xs) = .list (xs.map O.data) := by simp [O.data, O.datas_map]
@[simp] theorem O.data_tup (xs : List O) : O.data (.tup xs) = .tuple (xs.map O.data) := by simp [O.data, O.datas_map]
def KS.nd : KS → Prop
  | .inl ks => ks.Nodup
  | .inr ks => ks.Nodup
mutual
inductive Own (K : PySem.W.Frag) (F H : Hp) : V → O → List Addr → Prop
  | fz {v : V} {d : PyData} : Is K F v d → Own K F H v (.fz d) []
  | tup {a : Addr} {vs : List V} {os : List O} {fp : List Addr} : F a = some (.tup vs) → OwnL K F H vs os fp → Own K F H (.ref a) (.tup os) fp
  | lst {a : Addr} {vs : List V} {os : List O} {fp : List Addr} : H a = some (.lst vs) → OwnL K F H vs os fp → Own K F H (.ref a) (.lst os) (a :: fp)
  | dct {a : Addr} {ks : KS} {vs : List V} {os : List O} {fp : List Addr} : H a = some (hoD ks vs) → (ks.len = vs.length ∧ ks.nd) → OwnL K F H vs os fp → Own K F H (.ref a) (.dct ks os) (a :: fp)
  | ins {a C dx : Addr} {c : Str} {ns : List Str} {vs : List V} {os : List O} {fp : List Addr} : clsOf K c = some C → H a = some (.ins C dx (ns.zip vs)) → H dx = some (.own a) → ns.length = vs.length → OwnL K F H vs os fp → Own K F H (.ref a) (.ins c ns os) (a :: dx :: fp)
  | par {a : Addr} {o : O} {fp : List Addr} : Own K F H (.ref a) o fp → Own K F H (.ref a) (.par a o) fp
inductive OwnL (K : PySem.W.Frag) (F H : Hp) : List V → List O → List Addr → Prop
  | nil : OwnL K F H [] [] []
  | cons {v : V} {vs : List V} {o : O} {os : List O} {fp fps : List Addr} : Own K F H v o fp → OwnL K F H vs os fps → OwnL K F H (v :: vs) (o :: os) (fp ++ fps)
end
mutual
theorem Own.keep {K : PySem.W.Frag} {F F' H H' : Hp} (e : Same F F') : ∀ {o : O} {v : V} {fp : List Addr}, Own K F H v o fp → (∀ a ∈ fp, H' a = H a) → Own K F' H' v o fp
  | .fz d, _, _, h, _ => by cases h with | fz h => exact .fz (Is.mono e h)
  | .tup os, _, _, h, k => by cases h with | tup h1 h2 => exact .tup (e _ _ h1) (OwnL.keep e h2 k)
  | .lst os, _, _, h, k => by
    cases h with
    | lst h1 h2 => exact .lst ((k _ List.mem_cons_self).trans h1) (OwnL.keep e h2 fun a ha => k a (List.mem_cons_of_mem _ ha))
  | .dct ks os, _, _, h, k => by
    cases h with
    | dct h1 hl h2 => exact .dct ((k _ List.mem_cons_self).trans h1) hl (OwnL.keep e h2 fun a ha => k a (List.mem_cons_of_mem _ ha))
  | .ins c ns os, _, _, h, k => by
    cases h with
    | ins hc h1 hd hl h2 => exact .ins hc ((k _ List.mem_cons_self).trans h1) ((k _ (List.mem_cons_of_mem _ List.mem_cons_self)).trans hd) hl (OwnL.keep e h2 fun a ha => k a (List.mem_cons_of_mem _ (List.mem_cons_of_mem _ ha)))
  | .par _ o, _, _, h, k => by cases h with | par h1 => exact .par (Own.keep e h1 k)
theorem OwnL.keep {K : PySem.W.Frag} {F F' H H' : Hp} (e : Same F F') : ∀ {os : List O} {vs : List V} {fp : List Addr}, OwnL K F H vs os fp → (∀ a ∈ fp, H' a = H a) → OwnL K F' H' vs os fp
  | [], _, _, h, _ => by cases h; exact .nil
  | o :: os, _, _, h, k => by
    cases h with
    | cons h1 h2 => exact .cons (Own.keep e h1 fun a ha => k a (List.mem_append_left _ ha)) (OwnL.keep e h2 fun a ha => k a (List.mem_append_right _ ha))
end
mutual
/- seen as data, in a heap that holds the frozen part and the footprint -/
theorem Own.is {K : PySem.W.Frag} {F H B : Hp} (e : Same F B) : ∀ {o : O} {v : V} {fp : List Addr}, Own K F H v o fp → (∀ a ∈ fp, B a = H a) → Is K B v o.data
  | .fz d, _, _, h, _ => by cases h with | fz h => rw [O.data_fz]; exact Is.mono e h
  | .tup os, _, _, h, k => by cases h with | tup h1 h2 => rw [O.data]; exact .tup (.inl (e _ _ h1)) (OwnL.is e h2 k)
  | .lst os, _, _, h, k => by
    cases h with
    | lst h1 h2 => rw [O.data]; exact .lst (.inl ((k _ List.mem_cons_self).trans h1)) (OwnL.is e h2 fun a ha => k a (List.mem_cons_of_mem _ ha))
  | .dct ks os, _, _, h, k => by
    cases h with
    | dct h1 hl h2 => rw [O.data]; exact .dct (.inl ((k _ List.mem_cons_self).trans h1)) hl.1 (OwnL.is e h2 fun a ha => k a (List.mem_cons_of_mem _ ha))
  | .ins c ns os, _, _, h, k => by
    cases h with
    | ins hc h1 hd hl h2 => rw [O.data]; exact .ins hc ((k _ List.mem_cons_self).trans h1) hl (OwnL.is e h2 fun a ha => k a (List.mem_cons_of_mem _ (List.mem_cons_of_mem _ ha)))
  | .par _ o, _, _, h, k => by cases h with | par h1 => rw [O.data]; exact Own.is e h1 k
theorem OwnL.is {K : PySem.W.Frag} {F H B : Hp} (e : Same F B) : ∀ {os : List O} {vs : List V} {fp : List Addr}, OwnL K F H vs os fp → (∀ a ∈ fp, B a = H a) → IsAll K B vs (O.datas os)
  | [], _, _, h, _ => by cases h; rw [O.datas]; exact .nil
  | o :: os, _, _, h, k => by
    cases h with
    | cons h1 h2 => rw [O.datas]; exact .cons (Own.is e h1 fun a ha => k a (List.mem_append_left _ ha)) (OwnL.is e h2 fun a ha => k a (List.mem_append_right _ ha))
end
mutual
theorem Own.lstAt {K : PySem.W.Frag} {F H : Hp} : ∀ {o : O} {v : V} {fp : List Addr}, Own K F H v o fp → ∀ a ∈ fp, ∃ u, H a = some u ∧ NoT u
  | .fz d, _, _, h, a, ha => by cases h with | fz h => cases ha
  | .tup os, _, _, h, a, ha => by cases h with | tup h1 h2 => exact OwnL.lstAt h2 a ha
  | .lst os, _, _, h, a, ha => by
    cases h with
    | lst h1 h2 =>
      rcases List.mem_cons.mp ha with e | e
      · subst e; exact ⟨_, h1, .lst _⟩
      · exact OwnL.lstAt h2 a e
  | .dct ks os, _, _, h, a, ha => by
    cases h with
    | dct h1 hl h2 =>
      rcases List.mem_cons.mp ha with e | e
      · subst e; exact ⟨_, h1, .hoD _ _⟩
      · exact OwnL.lstAt h2 a e
  | .ins c ns os, _, _, h, a, ha => by
    cases h with
    | ins hc h1 hd hl h2 =>
      rcases List.mem_cons.mp ha with e | e
      · subst e; exact ⟨_, h1, .ins _ _ _⟩
      · rcases List.mem_cons.mp e with e | e
        · subst e; exact ⟨_, hd, .own _⟩
        · exact OwnL.lstAt h2 a e
  | .par _ o, _, _, h, a, ha => by cases h with | par h1 => exact Own.lstAt h1 a ha
theorem OwnL.lstAt {K : PySem.W.Frag} {F H : Hp} : ∀ {os : List O} {vs : List V} {fp : List Addr}, OwnL K F H vs os fp → ∀ a ∈ fp, ∃ u, H a = some u ∧ NoT u
  | [], _, _, h, a, ha => by cases h; cases ha
  | o :: os, _, _, h, a, ha => by
    cases h with
    | cons h1 h2 =>
      rcases List.mem_append.mp ha with e | e
      · exact Own.lstAt h1 a e
      · exact OwnL.lstAt h2 a e
end
theorem OwnL.len {K : PySem.W.Frag} {F H : Hp} : ∀ {os : List O} {vs : List V} {fp : List Addr}, OwnL K F H vs os fp → vs.length = os.length
  | [], _, _, h => by cases h; rfl
  | o :: os, _, _, h => by
    cases h with
    | cons h1 h2 => rw [List.length_cons, List.length_cons, OwnL.len h2]
theorem OwnL.append {K : PySem.W.Frag} {F H : Hp} : ∀ {os ps : List O} {vs us : List V} {f g : List Addr}, OwnL K F H vs os f → OwnL K F H us ps g → OwnL K F H (vs ++ us) (os ++ ps) (f ++ g)
  | [], _, _, _, _, _, h, q => by cases h; exact q
  | o :: os, _, _, _, _, _, h, q => by
    cases h with
    | cons h1 h2 => rw [List.append_assoc]; exact .cons h1 (OwnL.append h2 q)
theorem OwnL.fzs {K : PySem.W.Frag} {F H : Hp} : ∀ {ds : List PyData} {vs : List V}, IsAll K F vs ds → OwnL K F H vs (ds.map O.fz) []
  | [], _, h => by cases h; exact .nil
  | d :: ds, _, h => by
    cases h with
    | cons h1 h2 => exact .cons (.fz h1) (OwnL.fzs h2)

abbrev OEnv := List (Option O)
inductive Slots (K : PySem.W.Frag) (F H : Hp) : L2.St → OEnv → List Addr → Prop
  | nil : Slots K F H [] [] []
  | un {s : Option V} {σ : L2.St} {ρ : OEnv} {fps : List Addr} : Slots K F H σ ρ fps → Slots K F H (s :: σ) (none :: ρ) fps
  | ow {v : V} {o : O} {fp : List Addr} {σ : L2.St} {ρ : OEnv} {fps : List Addr} : Own K F H v o fp → Slots K F H σ ρ fps → Slots K F H (some v :: σ) (some o :: ρ) (fp ++ fps)
section
variable {K : PySem.W.Frag} {F F' H H' B : Hp} {σ : L2.St} {ρ : OEnv} {fps : List Addr}
theorem Slots.len (h : Slots K F H σ ρ fps) : σ.length = ρ.length := by
  induction h with
  | nil => rfl
  | un _ ih => rw [List.length_cons, List.length_cons, ih]
  | ow _ _ ih => rw [List.length_cons, List.length_cons, ih]
theorem Slots.keep (h : Slots K F H σ ρ fps) (e : Same F F') (k : ∀ a ∈ fps, H' a = H a) : Slots K F' H' σ ρ fps := by
  induction h with
  | nil => exact .nil
  | un _ ih => exact .un (ih k)
  | ow h1 _ ih => exact .ow (h1.keep e fun a ha => k a (List.mem_append_left _ ha)) (ih fun a ha => k a (List.mem_append_right _ ha))
theorem Slots.lstAt (h : Slots K F H σ ρ fps) : ∀ a ∈ fps, ∃ u, H a = some u ∧ NoT u := by
  induction h with
  | nil => intro a ha; cases ha
  | un _ ih => exact ih
  | ow h1 _ ih =>
    intro a ha
    rcases List.mem_append.mp ha with e | e
    · exact h1.lstAt a e
    · exact ih a e
theorem Slots.split (h : Slots K F H σ ρ fps) : ∀ {i : Nat} {o : O}, ρ[i]? = some (some o) → ∃ v fp fpr, σ[i]? = some (some v) ∧ Own K F H v o fp ∧ fps.Perm (fp ++ fpr) ∧
    (∀ s, Slots K F H (σ.set i s) (ρ.set i none) fpr) ∧ ∀ F' H' v' o' fp', Own K F' H' v' o' fp' → Same F F' → (∀ a ∈ fpr, H' a = H a) → ∃ fps', Slots K F' H' (σ.set i (some v')) (ρ.set i (some o')) fps' ∧ fps'.Perm (fp' ++ fpr) := by
  induction h with
  | nil => intro i o e; simp at e
  | @un s σ ρ fps h ih =>
    intro i o e
    cases i with
    | zero => simp at e
    | succ i =>
      obtain ⟨v, fp, fpr, e1, e2, e3, e4, e5⟩ := ih (i := i) (by simpa using e)
      refine ⟨v, fp, fpr, by simpa using e1, e2, e3, fun s => .un (e4 s), fun F' H' v' o' fp' q1 q2 q3 => ?_⟩
      obtain ⟨fps', z1, z2⟩ := e5 F' H' v' o' fp' q1 q2 q3
      exact ⟨fps', .un z1, z2⟩
  | @ow v o' fp σ ρ fps h1 h ih =>
    intro i o e
    cases i with
    | zero =>
      simp at e
      subst e
      exact ⟨v, fp, fps, rfl, h1, .refl _, fun s => .un h, fun F' H' v' o' fp' q1 q2 q3 => ⟨fp' ++ fps, .ow q1 (h.keep q2 q3), .refl _⟩⟩
    | succ i =>
      obtain ⟨v2, fp2, fpr, e1, e2, e3, e4, e5⟩ := ih (i := i) (by simpa using e)
      refine ⟨v2, fp2, fp ++ fpr, by simpa using e1, e2, ?_, fun s => .ow h1 (e4 s), fun F' H' v' o'' fp' q1 q2 q3 => ?_⟩
      · refine (List.Perm.append_left fp e3).trans ?_
        rw [← List.append_assoc, ← List.append_assoc]
        exact List.Perm.append_right _ List.perm_append_comm
      · obtain ⟨fps', z1, z2⟩ := e5 F' H' v' o'' fp' q1 q2 fun a ha => q3 a (List.mem_append_right _ ha)
        refine ⟨fp ++ fps', .ow (h1.keep q2 fun a ha => q3 a (List.mem_append_left _ ha)) z1, ?_⟩
        refine (List.Perm.append_left fp z2).trans ?_
        rw [← List.append_assoc, ← List.append_assoc]
        exact List.Perm.append_right _ List.perm_append_comm
theorem Slots.drop (h : Slots K F H σ ρ fps) : ∀ (i : Nat) (s : Option V), ∃ fpr, Slots K F H (σ.set i s) (ρ.set i none) fpr ∧ fpr.Sublist fps := by
  induction h with
  | nil => intro i s; exact ⟨[], by simp; exact .nil, .refl _⟩
  | @un s' σ ρ fps h ih =>
    intro i s
    cases i with
    | zero => exact ⟨fps, .un h, .refl _⟩
    | succ i => obtain ⟨f, z1, z2⟩ := ih i s; exact ⟨f, .un z1, z2⟩
  | @ow v o' fp σ ρ fps h1 h ih =>
    intro i s
    cases i with
    | zero => exact ⟨fps, .un h, List.sublist_append_right _ _⟩
    | succ i => obtain ⟨f, z1, z2⟩ := ih i s; exact ⟨fp ++ f, .ow h1 z1, List.Sublist.append_left z2 _⟩
theorem Slots.put (h : Slots K F H σ ρ fps) {v : V} {o : O} {fp : List Addr} (ho : Own K F H v o fp) : ∀ (i : Nat), i < ρ.length → ∃ fps', Slots K F H (σ.set i (some v)) (ρ.set i (some o)) fps' ∧ ∃ fpr, fps'.Perm (fp ++ fpr) ∧ fpr.Sublist fps := by
  induction h with
  | nil => intro i hi; simp at hi
  | @un s' σ ρ fps h ih =>
    intro i hi
    cases i with
    | zero => exact ⟨fp ++ fps, .ow ho h, fps, .refl _, .refl _⟩
    | succ i => obtain ⟨f, z1, g, z2, z3⟩ := ih i (by simpa using hi); exact ⟨f, .un z1, g, z2, z3⟩
  | @ow v' o' fp' σ ρ fps h1 h ih =>
    intro i hi
    cases i with
    | zero => exact ⟨fp ++ fps, .ow ho h, fps, .refl _, List.sublist_append_right _ _⟩
    | succ i =>
      obtain ⟨f, z1, g, z2, z3⟩ := ih i (by simpa using hi)
      refine ⟨fp' ++ f, .ow h1 z1, fp' ++ g, ?_, List.Sublist.append_left z3 _⟩
      refine (List.Perm.append_left fp' z2).trans ?_
      rw [← List.append_assoc, ← List.append_assoc]
      exact List.Perm.append_right _ List.perm_append_comm
end
def viewB (ρ : OEnv) : PEnv := ρ.map (Option.map O.data)
def fzOf : Option O → Option PyData
  | some (.fz d) => some d
  | _ => none
def viewF (ρ : OEnv) : PEnv := ρ.map fzOf
theorem Slots.rfB {K : PySem.W.Frag} {F H B : Hp} {σ : L2.St} {ρ : OEnv} {fps : List Addr} (e : Same F B) (h : Slots K F H σ ρ fps) (k : ∀ a ∈ fps, B a = H a) : RF K B σ (viewB ρ) := by
  refine ⟨by unfold viewB; rw [List.length_map]; exact h.len, ?_⟩
  induction h with
  | nil => intro i d x; simp [viewB] at x
  | un _ ih =>
    intro i d x
    cases i with
    | zero => simp [viewB] at x
    | succ i => obtain ⟨v, z1, z2⟩ := ih k i d (by simpa [viewB] using x); exact ⟨v, by simpa using z1, z2⟩
  | @ow v o fp σ ρ fps h1 _ ih =>
    intro i d x
    cases i with
    | zero =>
      simp [viewB] at x
      subst x
      exact ⟨v, rfl, h1.is e fun a ha => k a (List.mem_append_left _ ha)⟩
    | succ i => obtain ⟨v, z1, z2⟩ := ih (fun a ha => k a (List.mem_append_right _ ha)) i d (by simpa [viewB] using x); exact ⟨v, by simpa using z1, z2⟩
theorem Slots.rfF {K : PySem.W.Frag} {F H : Hp} {σ : L2.St} {ρ : OEnv} {fps : List Addr} (h : Slots K F H σ ρ fps) : RF K F σ (viewF ρ) := by
  refine ⟨by unfold viewF; rw [List.length_map]; exact h.len, ?_⟩
  induction h with
  | nil => intro i d x; simp [viewF] at x
  | un _ ih =>
    intro i d x
    cases i with
    | zero => simp [viewF, fzOf] at x
    | succ i => obtain ⟨v, z1, z2⟩ := ih i d (by simpa [viewF] using x); exact ⟨v, by simpa using z1, z2⟩
  | @ow v o fp σ ρ fps h1 _ ih =>
    intro i d x
    cases i with
    | zero =>
      cases o with
      | fz d' =>
        simp [viewF, fzOf] at x
        subst x
        cases h1 with | fz h1 => exact ⟨v, rfl, h1⟩
      | tup _ => simp [viewF, fzOf] at x
      | lst _ => simp [viewF, fzOf] at x
      | dct _ _ => simp [viewF, fzOf] at x
      | ins _ _ _ => simp [viewF, fzOf] at x
      | par _ _ => simp [viewF, fzOf] at x
    | succ i => obtain ⟨v, z1, z2⟩ := ih i d (by simpa [viewF] using x); exact ⟨v, by simpa using z1, z2⟩

structure Hs (F0 H0 F H : Hp) (fps : List Addr) : Prop where
  nd : fps.Nodup
  ow : ∀ a ∈ fps, F a = none ∧ H0 a = none
  fh : Same F H
  f0 : Same F0 F
  h0 : Same H0 H
  nw : ∀ a, F0 a = none → F a ≠ none → NT H0 a
theorem Hs.perm {F0 H0 F H : Hp} {fps fps' : List Addr} (h : Hs F0 H0 F H fps) (p : fps.Perm fps') : Hs F0 H0 F H fps' := ⟨p.nodup_iff.mp h.nd, fun a ha => h.ow a (p.mem_iff.mpr ha), h.fh, h.f0, h.h0, h.nw⟩
theorem Hs.sub {F0 H0 F H : Hp} {fps fps' : List Addr} (h : Hs F0 H0 F H fps) (p : fps'.Sublist fps) : Hs F0 H0 F H fps' := ⟨h.nd.sublist p, fun a ha => h.ow a (p.subset ha), h.fh, h.f0, h.h0, h.nw⟩
theorem Hs.ext {F0 H0 F H F' H' : Hp} {fps : List Addr} (h : Hs F0 H0 F H fps) (e : Ext F H F' H') (l : ∀ a ∈ fps, ∃ u, H a = some u ∧ NoT u) : Hs F0 H0 F' H' fps :=
  ⟨h.nd, fun a ha => ⟨(by
    cases q : F' a with
    | none => rfl
    | some o =>
      obtain ⟨vs, z, zt⟩ := l a ha
      have := e.nw a (h.ow a ha).1 (by rw [q]; exact fun w => nomatch w)
      exact (this.no z zt.1).elim), (h.ow a ha).2⟩, e.bh, h.f0.trans e.bb, h.h0.trans e.hh, fun a h1 h2 => by
    cases q : F a with
    | some o => exact h.nw a h1 (by rw [q]; exact fun w => nomatch w)
    | none => exact (e.nw a q h2).back h.h0⟩
structure RS (K : PySem.W.Frag) (F0 H0 F H : Hp) (σ : L2.St) (ρ : OEnv) : Prop where
  ex : ∃ fps, Slots K F H σ ρ fps ∧ Hs F0 H0 F H fps
theorem RS.ext {K : PySem.W.Frag} {F0 H0 F H F' H' : Hp} {σ : L2.St} {ρ : OEnv} (h : RS K F0 H0 F H σ ρ) (e : Ext F H F' H') : RS K F0 H0 F' H' σ ρ := by
  obtain ⟨fps, s, hs⟩ := h.ex
  exact ⟨fps, s.keep e.bb fun a ha => by
    obtain ⟨vs, z, zt⟩ := s.lstAt a ha
    rw [z]; exact e.hh _ _ z, hs.ext e s.lstAt⟩
theorem RS.grow {K : PySem.W.Frag} {F0 H0 F H H' : Hp} {σ : L2.St} {ρ : OEnv} (h : RS K F0 H0 F H σ ρ) (e : Same H H') : RS K F0 H0 F H' σ ρ := by
  obtain ⟨fps, s, hs⟩ := id h.ex
  exact h.ext ⟨e, Same.refl F, hs.fh.trans e, fun a x y => absurd x y⟩
def bor (F H : Hp) (fps : List Addr) : Hp := fun a => if a ∈ fps then H a else F a
theorem bor_own {F H : Hp} {fps : List Addr} {a : Addr} (h : a ∈ fps) : bor F H fps a = H a := if_pos h
theorem bor_not {F H : Hp} {fps : List Addr} {a : Addr} (h : a ∉ fps) : bor F H fps a = F a := if_neg h
theorem Hs.bor {F0 H0 F H : Hp} {fps : List Addr} (h : Hs F0 H0 F H fps) : Same F (bor F H fps) ∧ Same (VL.bor F H fps) H := by
  refine ⟨fun a o e => ?_, fun a o e => ?_⟩
  · rw [bor_not (fun ha => by rw [(h.ow a ha).1] at e; cases e)]; exact e
  · by_cases ha : a ∈ fps
    · rw [bor_own ha] at e; exact e
    · rw [bor_not ha] at e; exact h.fh _ _ e
theorem Hs.unbor {F0 H0 F H B' H' : Hp} {fps : List Addr} (h : Hs F0 H0 F H fps) (l : ∀ a ∈ fps, ∃ u, H a = some u ∧ NoT u) (e : Ext (VL.bor F H fps) H B' H') :
    ∃ F', Ext F H F' H' ∧ (∀ b, (∃ ys, Rd B' b (.tup ys)) → F' b = B' b) ∧ Same F' B' := by
  obtain ⟨b1, b2⟩ := h.bor
  refine ⟨fun a => if a ∈ fps then none else B' a, ⟨e.hh, fun a o q => ?_, fun a o q => ?_, fun a h1 h2 => ?_⟩, fun b ⟨ys, hb⟩ => ?_, fun a o q => ?_⟩
  · show (if a ∈ fps then none else B' a) = some o
    rw [if_neg (fun ha => by rw [(h.ow a ha).1] at q; cases q)]
    exact e.bb _ _ (b1 _ _ q)
  · by_cases ha : a ∈ fps
    · rw [if_pos ha] at q; cases q
    · rw [if_neg ha] at q; exact e.bh _ _ q
  · by_cases ha : a ∈ fps
    · exact absurd (if_pos ha) h2
    · have h2 : B' a ≠ none := fun z => h2 ((if_neg ha).trans z)
      exact e.nw a (by rw [bor_not ha]; exact h1) h2
  · refine if_neg fun ha => ?_
    obtain ⟨vs, z, zt⟩ := l b ha
    have q := e.bb b _ ((bor_own ha).trans z)
    rcases hb with hb | ⟨o, hb⟩
    · rw [q] at hb; exact zt.1 _ (Option.some.inj hb)
    · rw [q] at hb; exact zt.2 _ _ (Option.some.inj hb)
  · have q : (if a ∈ fps then none else B' a) = some o := q
    by_cases ha : a ∈ fps
    · rw [if_pos ha] at q; cases q
    · rw [if_neg ha] at q; exact q
end VL

namespace VL
open PySem PySem.Spec PyProof.Rows L2

def lfok (d : PyData) : R PyData := if lf d then .ok d else .stuck
def exF (f : PEnv → R PyData) : OEnv → R PyData := fun ρ => f (viewF ρ)
def exB (f : PEnv → R PyData) : OEnv → R PyData := fun ρ => (f (viewB ρ)).bind lfok
def KX (X : Cx) (F H : Hp) (Q : VK) (d : PyData) : Prop := ∀ v H' F', Ext F H F' H' → Is X.K F' v d → Q v H'
structure VX (X : Cx) (W : WX) (e : Expr) (h : OEnv → R PyData) : Prop where
  ex : ∃ t, PE X e t ∧ ∀ σ H F0 H0 F ρ Q, RS X.K F0 H0 F H σ ρ → Pst X W σ H (KX X F H Q) (h ρ) → t σ H Q
def KXT (F H : Hp) (Q : Bool → Hp → Prop) (b : Bool) : Prop := ∀ H' F', Ext F H F' H' → Q b H'
structure VXT (X : Cx) (W : WX) (e : Expr) (h : OEnv → R Bool) : Prop where
  ex : ∃ t, PT X e t ∧ ∀ σ H F0 H0 F ρ Q, RS X.K F0 H0 F H σ ρ → Pst X W σ H (KXT F H Q) (h ρ) → t σ H Q
section
variable {X : Cx} {W : WX} {a b c e : Expr} {es : List Expr} {pos : Pos} {fa fb fc f : PEnv → R PyData} {ft fu : PEnv → R Bool} {k : Nat}
theorem vxF (h : VE X W e f) : VX X W e (exF f) := by
  obtain ⟨t, p, q⟩ := h.ex
  refine ⟨t, p, fun σ H F0 H0 F ρ Q r pr => ?_⟩
  obtain ⟨fps, s, hs⟩ := r.ex
  exact q σ H F _ Q hs.fh s.rfF (Pst.imp (fun d kx v H' B' ex sm dv => kx v H' B' ex dv) pr)
theorem vxB (h : VE X W e f) : VX X W e (exB f) := by
  obtain ⟨t, p, q⟩ := h.ex
  refine ⟨t, p, fun σ H F0 H0 F ρ Q r pr => ?_⟩
  obtain ⟨fps, s, hs⟩ := r.ex
  obtain ⟨b1, b2⟩ := hs.bor
  refine q σ H (bor F H fps) _ Q b2 (s.rfB b1 fun a ha => bor_own ha) ?_
  unfold exB at pr
  generalize f (viewB ρ) = rr at pr ⊢
  cases rr with
  | stuck => exact pr
  | err c => exact pr
  | ok d =>
    simp only [R.bind_ok, lfok] at pr
    split at pr
    · rename_i hl
      intro v H' B' ex sm dv
      obtain ⟨F', e1, e2, e3⟩ := hs.unbor s.lstAt ex
      exact pr v H' F' e1 (Is.lfree e2 hl dv)
    · exact pr.elim
theorem vxT (h : VT X W e ft) : VXT X W e (fun ρ => ft (viewB ρ)) := by
  obtain ⟨t, p, q⟩ := h.ex
  refine ⟨t, p, fun σ H F0 H0 F ρ Q r pr => ?_⟩
  obtain ⟨fps, s, hs⟩ := r.ex
  obtain ⟨b1, b2⟩ := hs.bor
  refine q σ H (bor F H fps) _ Q b2 (s.rfB b1 fun a ha => bor_own ha) (Pst.imp (fun d kx H' B' ex => ?_) pr)
  obtain ⟨F', e1, e2, e3⟩ := hs.unbor s.lstAt ex
  exact kx H' F' e1
end

def KO (X : Cx) (F0 H0 : Hp) (σ : L2.St) (Q : VK) (o : O × OEnv) : Prop := ∀ v H' F', RS X.K F0 H0 F' H' (some v :: σ) (some o.1 :: o.2) → Q v H'
structure VO (X : Cx) (W : WX) (e : Expr) (h : OEnv → R (O × OEnv)) : Prop where
  ex : ∃ t, PE X e t ∧ ∀ σ H F0 H0 F ρ Q, RS X.K F0 H0 F H σ ρ → Pst X W σ H (KO X F0 H0 σ Q) (h ρ) → t σ H Q
def oX (h : OEnv → R PyData) : OEnv → R (O × OEnv) := fun ρ => (h ρ).bind fun d => .ok (.fz d, ρ)
def oFrF (f : PEnv → R (List PyData)) : OEnv → R (O × OEnv) := fun ρ => (f (viewF ρ)).bind fun ds => .ok (.lst (ds.map O.fz), ρ)
def oFrB (f : PEnv → R (List PyData)) : OEnv → R (O × OEnv) := fun ρ => (f (viewB ρ)).bind fun ds => if lfs ds then .ok (.lst (ds.map O.fz), ρ) else .stuck
section
variable {X : Cx} {W : WX} {a b c e : Expr} {es : List Expr} {pos : Pos} {h : OEnv → R PyData} {f : PEnv → R (List PyData)} {k : Nat}
theorem vo_x (g : VX X W e h) : VO X W e (oX h) := by
  obtain ⟨t, p, q⟩ := g.ex
  refine ⟨t, p, fun σ H F0 H0 F ρ Q r pr => ?_⟩
  refine q σ H F0 H0 F ρ Q r ?_
  unfold oX at pr
  generalize h ρ = rr at pr ⊢
  cases rr with
  | stuck => exact pr
  | err c => exact pr
  | ok d =>
    intro v H' F' ex dv
    obtain ⟨fps, s, hs⟩ := (r.ext ex).ex
    exact pr v H' F' ⟨fps, .ow (.fz dv) s, hs⟩
theorem vo_frF (g : VFr X W e f) : VO X W e (oFrF f) := by
  obtain ⟨t, p, q⟩ := g.ex
  refine ⟨t, p, fun σ H F0 H0 F ρ Q r pr => ?_⟩
  obtain ⟨fps, s, hs⟩ := r.ex
  refine q σ H F _ Q hs.fh s.rfF ?_
  unfold oFrF at pr
  generalize f (viewF ρ) = rr at pr ⊢
  cases rr with
  | stuck => exact pr
  | err c => exact pr
  | ok ds =>
    intro pa vs H' B' ex hp hn bn ia
    have hs' := hs.ext ex s.lstAt
    have s' : Slots X.K B' H' σ ρ fps := s.keep ex.bb fun a ha => by
      obtain ⟨us, z, _⟩ := s.lstAt a ha
      rw [z]; exact ex.hh _ _ z
    refine pr (.ref pa) H' B' ⟨[pa] ++ fps, .ow (.lst hp (OwnL.fzs ia)) s', ?_, ?_, hs'.fh, hs'.f0, hs'.h0, hs'.nw⟩
    · refine List.nodup_cons.mpr ⟨fun hm => ?_, hs'.nd⟩
      obtain ⟨us, z, _⟩ := s.lstAt pa hm
      rw [hn] at z; cases z
    · intro a ha
      rcases List.mem_cons.mp ha with e | e
      · subst e; exact ⟨bn, Same.free hs.h0 hn⟩
      · exact hs'.ow a e
end

inductive SR where
  | stuck
  | err (c : Str) (ρ : OEnv)
  | nx (ρ : OEnv)
  | rt (o : O) (ρ : OEnv)
  | bk (ρ : OEnv)
  | ct (ρ : OEnv)
def RV (K : PySem.W.Frag) (F0 H0 F H : Hp) (v : V) (o : O) : Prop := ∃ fp, Own K F H v o fp ∧ Hs F0 H0 F H fp
def SPst (X : Cx) (W : WX) (F0 H0 : Hp) (D : Ends) : SR → Prop
  | .stuck => False
  | .err c ρ => ∀ σ' H' F', RS X.K F0 H0 F' H' σ' ρ → ErrAt X W c σ' H'
  | .nx ρ => ∀ σ' H' F', RS X.K F0 H0 F' H' σ' ρ → D.nx σ' H'
  | .bk ρ => ∀ σ' H' F', RS X.K F0 H0 F' H' σ' ρ → D.bk σ' H'
  | .ct ρ => ∀ σ' H' F', RS X.K F0 H0 F' H' σ' ρ → D.ct σ' H'
  | .rt o ρ => ∀ v σ' H' F', RS X.K F0 H0 F' H' (some v :: σ') (some o :: ρ) → D.rt v H'
structure VS (X : Cx) (W : WX) (st : Stmt) (g : OEnv → SR) : Prop where
  ex : ∃ t, PS X st t ∧ ∀ D σ H F0 H0 F ρ, RS X.K F0 H0 F H σ ρ → SPst X W F0 H0 D (g ρ) → t D σ H
structure VSs (X : Cx) (W : WX) (sts : List Stmt) (g : OEnv → SR) : Prop where
  ex : ∃ t, PSs X sts t ∧ ∀ D σ H F0 H0 F ρ, RS X.K F0 H0 F H σ ρ → SPst X W F0 H0 D (g ρ) → t D σ H
def SR.seq (r : SR) (g : OEnv → SR) : SR := match r with
  | .nx ρ => g ρ
  | r => r
def R.sr {α : Type} (x : R α) (ρ : OEnv) (f : α → SR) : SR := match x with
  | .stuck => .stuck
  | .err c => .err c ρ
  | .ok a => f a
@[simp] theorem R.sr_ok {α : Type} (a : α) (ρ : OEnv) (f : α → SR) : R.sr (.ok a) ρ f = f a := rfl
@[simp] theorem R.sr_err {α : Type} (c : Str) (ρ : OEnv) (f : α → SR) : R.sr (.err c : R α) ρ f = .err c ρ := rfl
@[simp] theorem R.sr_stuck {α : Type} (ρ : OEnv) (f : α → SR) : R.sr (.stuck : R α) ρ f = .stuck := rfl
@[simp] theorem SR.seq_nx (ρ : OEnv) (g : OEnv → SR) : SR.seq (.nx ρ) g = g ρ := rfl
@[simp] theorem SR.seq_rt (o : O) (ρ : OEnv) (g : OEnv → SR) : SR.seq (.rt o ρ) g = .rt o ρ := rfl
@[simp] theorem SR.seq_err (c : Str) (ρ : OEnv) (g : OEnv → SR) : SR.seq (.err c ρ) g = .err c ρ := rfl
@[simp] theorem SR.seq_bk (ρ : OEnv) (g : OEnv → SR) : SR.seq (.bk ρ) g = .bk ρ := rfl
@[simp] theorem SR.seq_ct (ρ : OEnv) (g : OEnv → SR) : SR.seq (.ct ρ) g = .ct ρ := rfl
theorem sr_pst {α : Type} {X : Cx} {W : WX} {F0 H0 F H : Hp} {D : Ends} {σ : L2.St} {ρ : OEnv} {x : R α} {f : α → SR} {K : α → Prop} (r : RS X.K F0 H0 F H σ ρ) (p : SPst X W F0 H0 D (x.sr ρ f)) (h : ∀ a, SPst X W F0 H0 D (f a) → K a) : Pst X W σ H K x := by
  cases x with
  | stuck => exact p
  | err c => exact fun H' e => p σ H' F (r.grow e)
  | ok a => exact h a p
section
variable {X : Cx} {W : WX} {a b c e : Expr} {st : Stmt} {sts rest : List Stmt} {pos : Pos} {g h : OEnv → SR} {hx : OEnv → R PyData} {ho : OEnv → R (O × OEnv)} {k : Nat}
theorem vss_nil : VSs X W [] (fun ρ => .nx ρ) := ⟨_, pss_nil, fun D σ H F0 H0 F ρ r p => p σ H F r⟩
theorem vss_cons (h1 : VS X W st g) (h2 : VSs X W rest h) : VSs X W (st :: rest) (fun ρ => (g ρ).seq h) := by
  obtain ⟨t, p, q⟩ := h1.ex
  obtain ⟨t2, p2, q2⟩ := h2.ex
  refine ⟨_, pss_cons p p2, fun D σ H F0 H0 F ρ r pr => ?_⟩
  refine q _ σ H F0 H0 F ρ r ?_
  generalize g ρ = rr at pr ⊢
  cases rr with
  | nx ρ' => exact fun σ' H' F' r' => q2 D σ' H' F0 H0 F' ρ' r' pr
  | stuck => exact pr
  | err c ρ' => exact pr
  | rt o _ => exact pr
  | bk ρ' => exact pr
  | ct ρ' => exact pr
theorem vss_one (h1 : VS X W st g) : VSs X W [st] g := by
  obtain ⟨t, p, q⟩ := h1.ex
  exact ⟨_, pss_one p, q⟩
def EnvT (K : PySem.W.Frag) (T : OEnv → OEnv) : Prop := ∀ F0 H0 F H σ ρ, RS K F0 H0 F H σ ρ → ∃ F', RS K F0 H0 F' H σ (T ρ)
theorem vss_t {T : OEnv → OEnv} (hT : EnvT X.K T) (h1 : VSs X W sts g) : VSs X W sts (fun ρ => g (T ρ)) := by
  obtain ⟨t, p, q⟩ := h1.ex
  refine ⟨t, p, fun D σ H F0 H0 F ρ r pr => ?_⟩
  obtain ⟨F', r'⟩ := hT F0 H0 F H σ ρ r
  exact q D σ H F0 H0 F' (T ρ) r' pr
def kill (is : List Nat) (ρ : OEnv) : OEnv := is.foldl (fun ρ i => ρ.set i none) ρ
def freezeAt (ρ : OEnv) (i : Nat) : OEnv := match ρ[i]? with
  | some (some o) => ρ.set i (some (.fz o.data))
  | _ => ρ
def freeze (is : List Nat) (ρ : OEnv) : OEnv := is.foldl freezeAt ρ
theorem RS.drop {K : PySem.W.Frag} {F0 H0 F H : Hp} {σ : L2.St} {ρ : OEnv} (r : RS K F0 H0 F H σ ρ) (i : Nat) : RS K F0 H0 F H σ (ρ.set i none) := by
  obtain ⟨fps, s, hs⟩ := r.ex
  by_cases hi : i < σ.length
  · obtain ⟨fpr, z1, z2⟩ := s.drop i σ[i]
    rw [List.set_getElem_self] at z1
    exact ⟨fpr, z1, hs.sub z2⟩
  · rw [List.set_eq_of_length_le (by rw [← s.len]; omega)]
    exact ⟨fps, s, hs⟩
theorem envT_kill (K : PySem.W.Frag) : ∀ is : List Nat, EnvT K (kill is)
  | [], F0, H0, F, H, σ, ρ, r => ⟨F, r⟩
  | i :: is, F0, H0, F, H, σ, ρ, r => envT_kill K is F0 H0 F H σ (ρ.set i none) (r.drop i)
theorem set_same {σ : L2.St} {i : Nat} {v : V} (e : σ[i]? = some (some v)) : σ.set i (some v) = σ := by
  refine List.ext_getElem? fun j => ?_
  by_cases hj : j = i
  · subst hj
    obtain ⟨q1, q2⟩ := List.getElem?_eq_some_iff.mp e
    rw [List.getElem?_set_self q1, e]
  · rw [List.getElem?_set_ne (Ne.symm hj)]
theorem RS.freeze {K : PySem.W.Frag} {F0 H0 F H : Hp} {σ : L2.St} {ρ : OEnv} (r : RS K F0 H0 F H σ ρ) (i : Nat) : ∃ F', RS K F0 H0 F' H σ (freezeAt ρ i) := by
  unfold freezeAt
  split
  · rename_i o eo
    obtain ⟨fps, s, hs⟩ := r.ex
    obtain ⟨v, fp, fpr, e1, e2, e3, e4, e5⟩ := s.split eo
    have hp := hs.perm e3
    have nd := List.nodup_append.mp hp.nd
    have own : ∀ a ∈ fp, F a = none ∧ H0 a = none := fun a ha => hp.ow a (List.mem_append_left _ ha)
    refine ⟨bor F H fp, ?_⟩
    have b1 : Same F (bor F H fp) := fun a u q => by
      rw [bor_not (fun ha => by rw [(own a ha).1] at q; cases q)]; exact q
    obtain ⟨fps', z1, z2⟩ := e5 (bor F H fp) H v (.fz o.data) [] (.fz (e2.is b1 fun a ha => bor_own ha)) b1 (fun _ _ => rfl)
    rw [set_same e1] at z1
    refine ⟨fps', z1, (Hs.perm ⟨?_, fun a ha => ⟨?_, ?_⟩, fun a u q => ?_, hs.f0.trans b1, hs.h0, fun a h1 h2 => ?_⟩ z2.symm)⟩
    · exact nd.2.1
    · have ha : a ∈ fpr := ha
      rw [bor_not (fun hm => nd.2.2 a hm a ha rfl)]
      exact (hp.ow a (List.mem_append_right _ ha)).1
    · exact (hp.ow a (List.mem_append_right _ ha)).2
    · by_cases ha : a ∈ fp
      · rw [bor_own ha] at q; exact q
      · rw [bor_not ha] at q; exact hs.fh _ _ q
    · by_cases ha : a ∈ fp
      · exact .inl (own a ha).2
      · rw [bor_not ha] at h2; exact hs.nw a h1 h2
  · exact ⟨F, r⟩
theorem envT_freeze (K : PySem.W.Frag) : ∀ is : List Nat, EnvT K (freeze is)
  | [], F0, H0, F, H, σ, ρ, r => ⟨F, r⟩
  | i :: is, F0, H0, F, H, σ, ρ, r => by
    obtain ⟨F', r'⟩ := r.freeze i
    exact envT_freeze K is F0 H0 F' H σ _ r'

theorem RS.put {K : PySem.W.Frag} {F0 H0 F H : Hp} {σ : L2.St} {ρ : OEnv} {v : V} {o : O} (r : RS K F0 H0 F H (some v :: σ) (some o :: ρ)) (i : Nat) : RS K F0 H0 F H (σ.set i (some v)) (ρ.set i (some o)) := by
  obtain ⟨fps, s, hs⟩ := r.ex
  cases s with
  | @ow v o fp σ ρ fps h1 s =>
    by_cases hi : i < ρ.length
    · obtain ⟨fps', z1, g, z2, z3⟩ := s.put h1 i hi
      exact ⟨fps', z1, (hs.sub (List.Sublist.append_left z3 fp)).perm z2.symm⟩
    · have l := s.len
      rw [List.set_eq_of_length_le (show σ.length ≤ i by omega), List.set_eq_of_length_le (show ρ.length ≤ i by omega)]
      exact ⟨fps, s, hs.sub (List.sublist_append_right _ _)⟩
def sSet (i : Nat) (h : OEnv → R (O × OEnv)) : OEnv → SR := fun ρ => (h ρ).sr ρ fun p => .nx (p.2.set i (some p.1))
theorem vs_set (i : Nat) {x : Str} {pos' : Pos} (hN : X.N.Nodup) (he : VO X W e ho) (hi : X.N[i]? = some x := by rfl) (hxl : Loc X.env.scope x := by first | exact Or.inl rfl | exact Or.inr rfl) (hs : swapsWith e (some (.Name x pos')) pos.line X.env = pure false := by rfl) (hf : X.fn x = true ∨ X.env.scope.names.lookup x = some .local := by first | exact .inl rfl | exact .inr rfl) :
    VS X W (.Assign [.Name x pos'] e pos) (sSet i ho) := by
  obtain ⟨t, p, q⟩ := he.ex
  refine ⟨_, ps_set hN hi hxl p hs hf, fun D σ H F0 H0 F ρ r pr => ?_⟩
  refine q σ H F0 H0 F ρ _ r (sr_pst r pr fun o po v H' F' r' => ?_)
  exact po _ _ _ (r'.put i)
theorem vs_setLc (i : Nat) {x : Str} {py : Pos} {elt tg iter : Expr} {ifs : List Expr} {scope : Scope} {own : List (Str × Nat)} {sl : List Nat} {fi : PEnv → R (List PyData)} {kt : PyData → R (List (Nat × PyData))} {ft : PEnv → R Bool} {fe : PEnv → R PyData} {cpos : Pos}
    {hh : OEnv → R (O × OEnv)} (mode : ∀ {t : TE}, (∀ σ H B ρ Q, Same B H → RF X.K B σ ρ → Pst X W σ H (KFr X B H Q) (vcomp (own.map (·.2)) fi kt ft fe ρ) → t σ H Q) → ∀ σ H F0 H0 F ρ Q, RS X.K F0 H0 F H σ ρ → Pst X W σ H (KO X F0 H0 σ Q) (hh ρ) → t σ H Q)
    (hc : X.calm = true) (hN : X.N.Nodup) (hy : X.N[i]? = some x) (hyl : X.env.scope.names.lookup x = some .local) (hsw : swapsWith (.ListComp elt [⟨tg, iter, ifs, 0⟩] scope cpos) (some (.Name x py)) pos.line X.env = pure true)
    (hi : VI X W tg iter fi) (ok : BlkOk X.N X.env.scope scope own)
    (hg : ∀ (s : Shared) (H : Hp) (C : Addr) (cl : List (Str × Addr)) (fp : List Addr), VG (X.blk s H scope (compEnvC scope cl C X.env) fp) tg sl kt)
    (hso : ∀ i ∈ sl, i ∈ own.map (·.2))
    (ht : ∀ (s : Shared) (H : Hp) (C : Addr) (cl : List (Str × Addr)) (fp : List Addr), VTs (X.blk s H scope (compEnvC scope cl C X.env) fp) W0 ifs ft)
    (hee : ∀ (s : Shared) (H : Hp) (C : Addr) (cl : List (Str × Addr)) (fp : List Addr), VE (X.blk s H scope (compEnvC scope cl C X.env) fp) W0 elt fe) (hs : ∀ x, foldedSetIterable iter X.env x = pure x := by intro _; rfl) :
    VS X W (.Assign [.Name x py] (.ListComp elt [⟨tg, iter, ifs, 0⟩] scope cpos) pos) (sSet i hh) := by
  obtain ⟨wi, pi, qi⟩ := hi.ex
  have h1 : ∀ (s : Shared) (H : Hp) (C : Addr) (cl : List (Str × Addr)) (fp : List Addr), PG (X.blk s H scope (compEnvC scope cl C X.env) fp) tg (tVG X kt) := fun s H C cl fp => (hg s H C cl fp).pg
  have h2 : ∀ (s : Shared) (H : Hp) (C : Addr) (cl : List (Str × Addr)) (fp : List Addr), PTs (X.blk s H scope (compEnvC scope cl C X.env) fp) ifs (tVT X W0 ft) := fun s H C cl fp => (ht s H C cl fp).pt
  have h3 : ∀ (s : Shared) (H : Hp) (C : Addr) (cl : List (Str × Addr)) (fp : List Addr), PE (X.blk s H scope (compEnvC scope cl C X.env) fp) elt (tV X W0 fe) := fun s H C cl fp => (hee s H C cl fp).pe
  have hsl : ∀ d bs, kt d = .ok bs → bs.map (·.1) = sl := (hg {} (fun _ => none) 0 [] []).sl
  refine ⟨_, ps_setLc hc hN hy hyl hsw pi ok h1 h2 h3 hs, fun D σ H F0 H0 F ρ r pr => ?_⟩
  refine mode (fun σ H B ρ Q s rf pr => comp_read qi (fun v σ H B d Q s dv q => ⟨B, d, s, dv, q⟩) hsl hso (fun σ H B ρ Q s r p => ⟨B, ρ, s, r, p⟩) (fun σ H B ρ Q s r p => ⟨B, ρ, s, r, p⟩) s rf pr) σ H F0 H0 F ρ _ r (sr_pst r pr fun o po v H' F' r' => ?_)
  exact po _ _ _ (r'.put i)
def sRet (h : OEnv → R (O × OEnv)) : OEnv → SR := fun ρ => (h ρ).sr ρ fun p => .rt p.1 p.2
theorem vs_ret (he : VO X W e ho) : VS X W (.Return (some e) pos) (sRet ho) := by
  obtain ⟨t, p, q⟩ := he.ex
  refine ⟨_, ps_ret p, fun D σ H F0 H0 F ρ r pr => ?_⟩
  refine q σ H F0 H0 F ρ _ r (sr_pst r pr fun o po v H' F' r' => ?_)
  exact po v σ H' F' r'
def sExpr (h : OEnv → R (O × OEnv)) : OEnv → SR := fun ρ => (h ρ).sr ρ fun p => .nx p.2
theorem vs_expr (he : VO X W e ho) (hs : swapsWith e none pos.line X.env = pure false := by rfl) : VS X W (.Expr e pos) (sExpr ho) := by
  obtain ⟨t, p, q⟩ := he.ex
  refine ⟨_, ps_expr p hs, fun D σ H F0 H0 F ρ r pr => ?_⟩
  refine q σ H F0 H0 F ρ _ r (sr_pst r pr fun o po v H' F' r' => ?_)
  obtain ⟨fps, s, hs⟩ := r'.ex
  cases s with
  | ow h1 s => exact po σ H' F' ⟨_, s, hs.sub (List.sublist_append_right _ _)⟩
def sIf (t : OEnv → R Bool) (g h : OEnv → SR) : OEnv → SR := fun ρ => (t ρ).sr ρ fun b => if b then g ρ else h ρ
theorem vs_if {ts us : List Stmt} {ht : OEnv → R Bool} (h0 : VXT X W c ht) (h1 : VSs X W ts g) (h2 : VSs X W us h) : VS X W (.If c ts us pos) (sIf ht g h) := by
  obtain ⟨t, p, q⟩ := h0.ex
  obtain ⟨t1, p1, q1⟩ := h1.ex
  obtain ⟨t2, p2, q2⟩ := h2.ex
  refine ⟨_, ps_if p p1 p2, fun D σ H F0 H0 F ρ r pr => ?_⟩
  refine q σ H F0 H0 F ρ _ r (sr_pst r pr fun b pb H' F' ex => ?_)
  cases b with
  | true => exact iteT (q1 D σ H' F0 H0 F' ρ (r.ext ex) pb)
  | false => exact iteF (q2 D σ H' F0 H0 F' ρ (r.ext ex) pb)
end
end VL

namespace VL
open PySem PySem.Spec PyProof.Rows L2

theorem Hs.rebase {F0 H0 F1 F H : Hp} {fps : List Addr} (h : Hs F1 H0 F H fps) (s : Same F0 F1) (n : ∀ a, F0 a = none → F1 a ≠ none → NT H0 a) : Hs F0 H0 F H fps :=
  ⟨h.nd, h.ow, h.fh, s.trans h.f0, h.h0, fun a h1 h2 => by
    cases q : F1 a with
    | none => exact h.nw a q h2
    | some o => exact n a h1 (by rw [q]; exact fun w => nomatch w)⟩
theorem RS.self {K : PySem.W.Frag} {F0 H0 F H : Hp} {σ : L2.St} {ρ : OEnv} (r : RS K F0 H0 F H σ ρ) : RS K F H0 F H σ ρ ∧ Same F0 F ∧ ∀ a, F0 a = none → F a ≠ none → NT H0 a := by
  obtain ⟨fps, s, hs⟩ := r.ex
  exact ⟨⟨fps, s, hs.nd, hs.ow, hs.fh, Same.refl F, hs.h0, fun a x y => absurd x y⟩, hs.f0, hs.nw⟩
theorem RS.rebase {K : PySem.W.Frag} {F0 H0 F1 F H : Hp} {σ : L2.St} {ρ : OEnv} (r : RS K F1 H0 F H σ ρ) (s : Same F0 F1) (n : ∀ a, F0 a = none → F1 a ≠ none → NT H0 a) : RS K F0 H0 F H σ ρ := by
  obtain ⟨fps, sl, hs⟩ := r.ex
  exact ⟨fps, sl, hs.rebase s n⟩
theorem RV.rebase {K : PySem.W.Frag} {F0 H0 F1 F H : Hp} {v : V} {o : O} (r : RV K F1 H0 F H v o) (s : Same F0 F1) (n : ∀ a, F0 a = none → F1 a ≠ none → NT H0 a) : RV K F0 H0 F H v o := by
  obtain ⟨fps, sl, hs⟩ := r
  exact ⟨fps, sl, hs.rebase s n⟩
theorem RS.tail {K : PySem.W.Frag} {F0 H0 F H : Hp} {σ : L2.St} {ρ : OEnv} {s : Option V} {o : Option O} (r : RS K F0 H0 F H (s :: σ) (o :: ρ)) : RS K F0 H0 F H σ ρ := by
  obtain ⟨fps, sl, hs⟩ := r.ex
  cases sl with
  | un s => exact ⟨_, s, hs⟩
  | ow h1 s => exact ⟨_, s, hs.sub (List.sublist_append_right _ _)⟩
theorem RS.consFz {K : PySem.W.Frag} {F0 H0 F H : Hp} {σ : L2.St} {ρ : OEnv} {v : V} {d : PyData} (r : RS K F0 H0 F H σ ρ) (h : Is K F v d) : RS K F0 H0 F H (some v :: σ) (some (.fz d) :: ρ) := by
  obtain ⟨fps, sl, hs⟩ := r.ex
  exact ⟨_, .ow (.fz h) sl, hs⟩
def setsO (ρ : OEnv) (bs : List (Nat × PyData)) : OEnv := bs.foldl (fun ρ b => ρ.set b.1 (some (.fz b.2))) ρ
theorem RS.sets {K : PySem.W.Frag} {F0 H0 F H : Hp} : ∀ {bv : List (Nat × V)} {bd : List (Nat × PyData)} {σ : L2.St} {ρ : OEnv}, RS K F0 H0 F H σ ρ → Bds K F bv bd → RS K F0 H0 F H (setsV σ bv) (setsO ρ bd)
  | _, _, _, _, r, .nil => r
  | _, _, _, _, r, .cons (a := p) (b := q) h t => by
    obtain ⟨r1, r2⟩ := h
    unfold setsV setsO
    rw [List.foldl_cons, List.foldl_cons, r1]
    exact RS.sets ((r.consFz r2).put q.1) t

theorem OwnL.setAt {K : PySem.W.Frag} {F H : Hp} {y : V} {o : O} {fpo : List Addr} (ho : Own K F H y o fpo) : ∀ {os : List O} {vs : List V} {fp : List Addr} (j : Nat), OwnL K F H vs os fp → ∃ fp', OwnL K F H (vs.set j y) (os.set j o) fp' ∧ ∃ fp'', fp'.Perm fp'' ∧ fp''.Sublist (fp ++ fpo)
  | [], _, _, j, h => by cases h; exact ⟨[], by simp; exact .nil, [], .refl _, List.nil_sublist _⟩
  | p :: os, _, _, 0, h => by
    cases h with
    | @cons v vs _ _ f1 f2 h1 h2 =>
      refine ⟨fpo ++ f2, .cons ho h2, f2 ++ fpo, List.perm_append_comm, ?_⟩
      rw [List.append_assoc]
      exact List.sublist_append_right _ _
  | p :: os, _, _, j + 1, h => by
    cases h with
    | @cons v vs _ _ f1 f2 h1 h2 =>
      obtain ⟨f3, z1, f4, z2, z3⟩ := OwnL.setAt ho j h2
      refine ⟨f1 ++ f3, .cons h1 z1, f1 ++ f4, List.Perm.append_left f1 z2, ?_⟩
      rw [List.append_assoc]
      exact List.Sublist.append_left z3 f1
structure Chg (tv : List V → V → List V) (to : List O → O → List O) : Prop where
  own : ∀ {K : PySem.W.Frag} {F H : Hp} {vs : List V} {os : List O} {y : V} {o : O} {fp fpo : List Addr}, OwnL K F H vs os fp → Own K F H y o fpo → ∃ fp', OwnL K F H (tv vs y) (to os o) fp' ∧ ∃ fp'', fp'.Perm fp'' ∧ fp''.Sublist (fp ++ fpo)
theorem chg_app : Chg (fun vs y => vs ++ [y]) (fun os o => os ++ [o]) := ⟨fun {K F H vs os y o fp fpo} h1 h2 => by
  refine ⟨fp ++ fpo, ?_, fp ++ fpo, .refl _, .refl _⟩
  have z := OwnL.append h1 (.cons h2 .nil)
  rw [List.append_nil] at z
  exact z⟩
theorem chg_set (j : Nat) : Chg (fun vs y => vs.set j y) (fun os o => os.set j o) := ⟨fun h1 h2 => OwnL.setAt h2 j h1⟩
theorem RS.mut {K : PySem.W.Frag} {F0 H0 F H : Hp} {σ : L2.St} {ρ : OEnv} {y : V} {o : O} {i : Nat} {os : List O} {tv : List V → V → List V} {to : List O → O → List O} (c : Chg tv to) (r : RS K F0 H0 F H (some y :: σ) (some o :: ρ)) (ei : ρ[i]? = some (some (.lst os))) :
    ∃ a vs, σ[i]? = some (some (.ref a)) ∧ H a = some (.lst vs) ∧ vs.length = os.length ∧ RS K F0 H0 F (upd H a (.lst (tv vs y))) σ (ρ.set i (some (.lst (to os o)))) := by
  obtain ⟨fps, sl, hs⟩ := r.ex
  cases sl with
  | @ow _ _ fpo _ _ fpt h1 s =>
    obtain ⟨v, fp, fpr, e1, e2, e3, e4, e5⟩ := s.split ei
    cases e2 with
    | @lst a vs _ fpi ha hl =>
      refine ⟨a, vs, e1, ha, hl.len, ?_⟩
      have hp : Hs F0 H0 F H (fpo ++ ((a :: fpi) ++ fpr)) := hs.perm (List.Perm.append_left fpo e3)
      have nd := List.nodup_append.mp hp.nd
      have nd2 := List.nodup_append.mp nd.2.1
      have na_o : a ∉ fpo := fun m => nd.2.2 a m a (List.mem_append_left _ List.mem_cons_self) rfl
      have na_i : a ∉ fpi := (List.nodup_cons.mp nd2.1).1
      have na_r : a ∉ fpr := fun m => nd2.2.2 a List.mem_cons_self a m rfl
      have hk : ∀ b, b ≠ a → upd H a (.lst (tv vs y)) b = H b := fun b hb => upd_ne hb
      have o1 : Own K F (upd H a (.lst (tv vs y))) y o fpo := h1.keep (Same.refl F) fun b hb => hk b fun e => na_o (e ▸ hb)
      have l1 : OwnL K F (upd H a (.lst (tv vs y))) vs os fpi := hl.keep (Same.refl F) fun b hb => hk b fun e => na_i (e ▸ hb)
      obtain ⟨fp', z1, fp'', z2, z3⟩ := c.own l1 o1
      obtain ⟨fps', w1, w2⟩ := e5 F (upd H a (.lst (tv vs y))) (.ref a) (.lst (to os o)) (a :: fp') (.lst upd_same z1) (Same.refl F) fun b hb => hk b fun e => na_r (e ▸ hb)
      rw [set_same e1] at w1
      have an : F a = none ∧ H0 a = none := hp.ow a (List.mem_append_right _ (List.mem_append_left _ List.mem_cons_self))
      have base : Hs F0 H0 F (upd H a (.lst (tv vs y))) (fpo ++ ((a :: fpi) ++ fpr)) := ⟨hp.nd, hp.ow, fun b u q => by
        rw [hk b (fun e => by rw [e, an.1] at q; cases q)]; exact hp.fh _ _ q, hp.f0, fun b u q => by
        rw [hk b (fun e => by rw [e, an.2] at q; cases q)]; exact hp.h0 _ _ q, hp.nw⟩
      have p1 : (fpo ++ ((a :: fpi) ++ fpr)).Perm (a :: ((fpi ++ fpo) ++ fpr)) := by
        have : (fpo ++ ((a :: fpi) ++ fpr)).Perm (((a :: fpi) ++ fpo) ++ fpr) := by
          rw [← List.append_assoc]
          exact List.Perm.append_right _ List.perm_append_comm
        simpa using this
      have p2 : Hs F0 H0 F (upd H a (.lst (tv vs y))) (a :: (fp'' ++ fpr)) := (base.perm p1).sub (List.Sublist.cons_cons a (List.Sublist.append_right z3 fpr))
      refine ⟨fps', w1, (p2.perm ?_).perm w2.symm⟩
      exact List.Perm.cons a (List.Perm.append_right fpr z2.symm)

section
variable {X : Cx} {W : WX} {a b c e : Expr} {st : Stmt} {sts rest : List Stmt} {pos : Pos} {g h : OEnv → SR} {hx hx' : OEnv → R PyData} {ho : OEnv → R (O × OEnv)} {k : Nat}
def sApp (i : Nat) (h : OEnv → R (O × OEnv)) : OEnv → SR := fun ρ => match ρ[i]? with
  | some (some (.lst _)) => (h ρ).sr ρ fun p => match p.2[i]? with
    | some (some (.lst os)) => if os.length < sizeLine then .nx (p.2.set i (some (.lst (os ++ [p.1])))) else .stuck
    | _ => .stuck
  | _ => .stuck
theorem vs_app (i : Nat) {x : Str} {p1 p2 p3 : Pos} (mk : ∀ {t : TE}, PE X e t → PE X (.Call (.Attribute (.Name x p1) "append" p2) [e] [] p3) (tBM X.K "list" rAppend (tVar i) (tCons t tNil))) (he : VO X W e ho)
    (hs : swapsWith (.Call (.Attribute (.Name x p1) "append" p2) [e] [] p3) none pos.line X.env = pure false := by rfl) :
    VS X W (.Expr (.Call (.Attribute (.Name x p1) "append" p2) [e] [] p3) pos) (sApp i ho) := by
  obtain ⟨t, p, q⟩ := he.ex
  refine ⟨_, ps_expr (mk p) hs, fun D σ H F0 H0 F ρ r pr => ?_⟩
  unfold sApp at pr
  split at pr
  · rename_i os0 e0
    obtain ⟨fps, sl, hss⟩ := r.ex
    obtain ⟨v, fp, fpr, e1, e2, e3, e4, e5⟩ := sl.split e0
    cases e2 with
    | @lst ad vs _ fpi ha hl =>
      refine ⟨.ref ad, e1, .inl ⟨rfl, _, .inl (.inl ha)⟩, ?_⟩
      refine q σ H F0 H0 F ρ _ r (sr_pst r pr fun o po y H' F' r' => ?_)
      split at po
      · rename_i os eo
        split at po
        · rename_i hz
          obtain ⟨ad', vs', e6, e7, e8, r2⟩ := r'.mut chg_app eo
          rw [e1] at e6
          cases e6
          exact ⟨ad, vs', y, rfl, rfl, e7, by rw [e8]; exact hz, po _ _ _ r2⟩
        · exact po.elim
      · exact po.elim
  · exact pr.elim
def sTup (k : PyData → R (List (Nat × PyData))) (h : OEnv → R PyData) : OEnv → SR := fun ρ => (h ρ).sr ρ fun d => match k d with | .ok bd => .nx (setsO ρ bd) | _ => .stuck
theorem vs_tup {tg : Expr} {sl : List Nat} {k : PyData → R (List (Nat × PyData))} (hg : VG X tg sl k) (he : VX X W e hx) (h1 : swapsWithSole [tg] e pos.line X.env = pure false := by rfl) (h2 : swappedStores [tg] e X.env = pure none := by rfl) (h3 : (assignEach [tg] X.env).map (·.2) = [assign tg X.env] := by rfl) :
    VS X W (.Assign [tg] e pos) (sTup k hx) := by
  obtain ⟨t, p, q⟩ := he.ex
  obtain ⟨tg', pg, qg⟩ := hg.ex
  refine ⟨_, ps_asg p pg h1 h2 h3, fun D σ H F0 H0 F ρ r pr => ?_⟩
  unfold sTup at pr
  refine q σ H F0 H0 F ρ _ r (sr_pst r pr fun d pd v H' F' ex dv => ?_)
  have r' := r.ext ex
  obtain ⟨fps, sl', hss⟩ := r'.ex
  generalize hk : k d = rk at pd
  cases rk with
  | stuck => exact pd.elim
  | err c => exact pd.elim
  | ok bd => exact qg v σ H' F' d _ hss.fh dv ⟨bd, hk, fun bv hb => pd _ H' F' (RS.sets r' hb)⟩
end
end VL

namespace VL
open PySem PySem.Spec PyProof.Rows L2

def KIX (X : Cx) (F H : Hp) (Rr : It → Hp → Prop) (ds : List PyData) : Prop := ∀ J H' F', Ext F H F' H' → Walks X.K J ds F' → Rr J H'
structure VIX (X : Cx) (W : WX) (tg iter : Expr) (h : OEnv → R (List PyData)) : Prop where
  ex : ∃ wi, PI X tg iter wi ∧ ∀ σ H F0 H0 F ρ Rr, RS X.K F0 H0 F H σ ρ → Pst X W σ H (KIX X F H Rr) (h ρ) → wi σ H Rr
section
variable {X : Cx} {W : WX} {a b c e tg iter : Expr} {st : Stmt} {sts rest : List Stmt} {pos : Pos} {g h : OEnv → SR} {hx hx' ha hb : OEnv → R PyData} {ho : OEnv → R (O × OEnv)} {k : Nat}
theorem vix_F {f : PEnv → R (List PyData)} (h : VI X W tg iter f) : VIX X W tg iter (fun ρ => f (viewF ρ)) := by
  obtain ⟨wi, p, q⟩ := h.ex
  refine ⟨wi, p, fun σ H F0 H0 F ρ Rr r pr => ?_⟩
  obtain ⟨fps, s, hs⟩ := r.ex
  exact q σ H F _ Rr hs.fh s.rfF pr
def x1 (g : PyData → R (List PyData)) (h : OEnv → R PyData) : OEnv → R (List PyData) := fun ρ => (h ρ).bind g
def x2 (g : PyData → PyData → R (List PyData)) (h h' : OEnv → R PyData) : OEnv → R (List PyData) := fun ρ => (h ρ).bind fun d => (h' ρ).bind fun e => g d e
theorem oneX {ta : TE} (hq : ∀ σ H F0 H0 F ρ Q, RS X.K F0 H0 F H σ ρ → Pst X W σ H (KX X F H Q) (hx ρ) → ta σ H Q)
    {α : Type} {σ : L2.St} {F0 H0 H F : Hp} {ρ : OEnv} {g : PyData → R α} {K : α → Prop} {Q : V → Hp → Prop} (r : RS X.K F0 H0 F H σ ρ)
    (p : Pst X W σ H K ((hx ρ).bind g))
    (q : ∀ d x H' F', Ext F H F' H' → Is X.K F' x d → Pst X W σ H' K (g d) → Q x H') : ta σ H Q := by
  refine hq σ H F0 H0 F ρ _ r ?_
  generalize hx ρ = ra at p ⊢
  cases ra with
  | stuck => exact p
  | err c => exact p
  | ok d =>
    intro x H1 F1 e1 d1
    refine q d x H1 F1 e1 d1 ?_
    simp only [R.bind_ok] at p
    generalize g d = rg at p ⊢
    cases rg with
    | stuck => exact p
    | err c => exact fun H' z => p H' (e1.hh.trans z)
    | ok z => exact p
theorem vix_range1 {p pos : Pos} (hm : X.mg "range" = none) (h1 : VX X W a ha) (hg : Gl X "range" := by rfl) (hs : starEach [a] X.env = [(false, eval a X.env)] := by rfl) (he : starEach [a] X.env = (false, eval a X.env) :: starEach [] X.env := by rfl) : VIX X W tg (.Call (.Name "range" p) [a] [] pos) (x1 vrange1 ha) := by
  obtain ⟨t, pt, qt⟩ := h1.ex
  refine ⟨_, pi_range1 hg hm (pa_cons pt pa_nil he) hs, fun σ H F0 H0 F ρ Rr r pr => ?_⟩
  refine oneX qt r pr fun d x H' F' ex dx pg => ?_
  cases dx <;> first | exact pg.elim | skip
  rename_i i
  simp only [vrange1] at pg
  split at pg
  · rename_i hz
    have hz' : -16777216 ≤ (0:Int) ∧ (0:Int) ≤ 16777216 ∧ -16777216 ≤ i ∧ i ≤ 16777216 ∧ i - 0 ≤ 16777216 := hz
    exact ⟨_, rfl, by omega, by omega, pg _ H' F' ex (walks_range (by have := sizeLine_eq; omega))⟩
  · exact pg.elim
theorem vix_range2 {p pos : Pos} (hm : X.mg "range" = none) (h1 : VX X W a ha) (h2 : VX X W b hb) (hg : Gl X "range" := by rfl) (hs : starEach [a, b] X.env = [(false, eval a X.env), (false, eval b X.env)] := by rfl) (hs2 : starEach [b] X.env = [(false, eval b X.env)] := by rfl)
    (he : starEach [a, b] X.env = (false, eval a X.env) :: starEach [b] X.env := by rfl) (he2 : starEach [b] X.env = (false, eval b X.env) :: starEach [] X.env := by rfl) : VIX X W tg (.Call (.Name "range" p) [a, b] [] pos) (x2 vrange2 ha hb) := by
  obtain ⟨t, pt, qt⟩ := h1.ex
  obtain ⟨t2, pt2, qt2⟩ := h2.ex
  refine ⟨_, pi_range2 hg hm (pa_cons pt (pa_cons pt2 pa_nil he2) he) hs hs2, fun σ H F0 H0 F ρ Rr r pr => ?_⟩
  refine oneX qt r pr fun d x H1 F1 ex1 dx p1 => ?_
  refine oneX qt2 (r.ext ex1) p1 fun e y H' F' ex dy pg => ?_
  cases dx <;> first | (cases dy <;> exact pg.elim) | skip
  cases dy <;> first | exact pg.elim | skip
  rename_i i j
  simp only [vrange2] at pg
  split at pg
  · rename_i hz
    have hz' : -16777216 ≤ i ∧ i ≤ 16777216 ∧ -16777216 ≤ j ∧ j ≤ 16777216 ∧ j - i ≤ 16777216 := hz
    exact ⟨i, j, rfl, ⟨by omega, by omega, by omega, by omega⟩, pg _ H' F' (ex1.trans ex) (walks_range (by have := sizeLine_eq; omega))⟩
  · exact pg.elim

def forL (kt : PyData → R (List (Nat × PyData))) (kl : OEnv → OEnv) (gb : OEnv → SR) : List PyData → OEnv → SR
  | [], ρ => .nx ρ
  | d :: ds, ρ => match kt d with
    | .ok bs => (match gb (setsO ρ bs) with
      | .nx ρ' => forL kt kl gb ds (kl ρ')
      | .ct ρ' => forL kt kl gb ds (kl ρ')
      | .bk ρ' => .nx ρ'
      | r => r)
    | _ => .stuck
def sFor (hi : OEnv → R (List PyData)) (kt : PyData → R (List (Nat × PyData))) (kl : OEnv → OEnv) (gb : OEnv → SR) : OEnv → SR := fun ρ => (hi ρ).sr ρ fun ds => forL kt kl gb ds ρ
theorem RS.head {K : PySem.W.Frag} {F0 H0 F H : Hp} {σ : L2.St} {ρ : OEnv} {v : V} {o : O} (r : RS K F0 H0 F H (some v :: σ) (some o :: ρ)) : RV K F0 H0 F H v o := by
  obtain ⟨fps, sl, hs⟩ := r.ex
  cases sl with
  | ow h1 s => exact ⟨_, h1, hs.sub (List.sublist_append_left _ _)⟩
theorem SPst.rebase {F0 H0 F1 : Hp} {D D' : Ends} (s : Same F0 F1) (n : ∀ a, F0 a = none → F1 a ≠ none → NT H0 a) {r : SR} (hn : ∀ ρ, (r = .nx ρ → ∀ σ' H' F', RS X.K F1 H0 F' H' σ' ρ → D'.nx σ' H') ∧ (r = .bk ρ → ∀ σ' H' F', RS X.K F1 H0 F' H' σ' ρ → D'.bk σ' H') ∧ (r = .ct ρ → ∀ σ' H' F', RS X.K F1 H0 F' H' σ' ρ → D'.ct σ' H'))
    (hrt : D'.rt = D.rt) (p : ∀ ρ, r ≠ .nx ρ → r ≠ .bk ρ → r ≠ .ct ρ → SPst X W F0 H0 D r) (hs : r ≠ .stuck) : SPst X W F1 H0 D' r := by
  cases r with
  | stuck => exact absurd rfl hs
  | err c ρ => exact fun σ' H' F' x => p ρ (fun z => nomatch z) (fun z => nomatch z) (fun z => nomatch z) σ' H' F' (x.rebase s n)
  | nx ρ => exact (hn ρ).1 rfl
  | bk ρ => exact (hn ρ).2.1 rfl
  | ct ρ => exact (hn ρ).2.2 rfl
  | rt o ρ => exact fun v σ' H' F' x => by rw [hrt]; exact p [] (fun z => nomatch z) (fun z => nomatch z) (fun z => nomatch z) v σ' H' F' (x.rebase s n)
theorem vs_for {body : List Stmt} {sl : List Nat} {kt : PyData → R (List (Nat × PyData))} {hi : OEnv → R (List PyData)} {kl : OEnv → OEnv} {gb : OEnv → SR} (hp : PassesOwn (model X.prog X.w) X.A X.env X.xe) (hc : X.calm = true) (h1 : VIX X W tg iter hi) (h2 : VG X tg sl kt) (hk : EnvT X.K kl) (h3 : VSs X W body gb)
    (hs : ∀ x, foldedSetIterable iter X.env x = pure x := by intro _; rfl) : VS X W (.For tg iter body [] pos) (sFor hi kt kl gb) := by
  obtain ⟨wi, pi, qi⟩ := h1.ex
  obtain ⟨tg', pg, qg⟩ := h2.ex
  obtain ⟨tb, pb, qb⟩ := h3.ex
  refine ⟨_, ps_for hp hc pi pg pb hs, fun D σ H F0 H0 F ρ r pr => ?_⟩
  refine qi σ H F0 H0 F ρ _ r (sr_pst r pr fun ds pd J H1 F1 ex wk => ?_)
  have r1 := r.ext ex
  refine ⟨fun i m σ H => m = ds.length - i ∧ i ≤ ds.length ∧ ∃ F' ρ', RS X.K F0 H0 F' H σ ρ' ∧ Same F1 F' ∧ SPst X W F0 H0 D (forL kt kl gb (ds.drop i) ρ'), ⟨ds.length, by simp, Nat.zero_le _, F1, ρ, r1, Same.refl _, by simpa using pd⟩, ?_⟩
  rintro i m σ' Hi ⟨rfl, hi', F', ρ', r', s1, pd'⟩
  obtain ⟨rs, b1, b2⟩ := r'.self
  have fh : Same F' Hi := by obtain ⟨_, _, hs⟩ := rs.ex; exact hs.fh
  by_cases hlt : i < ds.length
  · refine .inr ⟨wk.go i Hi (s1.trans fh) hlt, fun σ' H => i + 1 ≤ ds.length ∧ ∃ F' ρ', RS X.K F0 H0 F' H σ' ρ' ∧ Same F1 F' ∧ SPst X W F0 H0 D (forL kt kl gb (ds.drop (i + 1)) ρ'), fun σ'' H'' q => ⟨ds.length - (i + 1), by omega, rfl, q⟩, fun x H' y => ?_⟩
    obtain ⟨d, F2, e2, E2, dx⟩ := wk.yld i Hi x H' F' s1 fh hlt y
    have hdrop : ds.drop i = d :: ds.drop (i + 1) := by
      obtain ⟨q1, q2⟩ := List.getElem?_eq_some_iff.mp e2
      rw [List.drop_eq_getElem_cons q1, q2]
    rw [hdrop] at pd'
    simp only [forL] at pd'
    generalize hkd : kt d = rk at pd'
    cases rk with
    | stuck => exact pd'.elim
    | err c => exact pd'.elim
    | ok bs =>
      simp only at pd'
      refine qg x σ' H' F2 d _ E2.bh dx ⟨bs, hkd, fun bv hb => ?_⟩
      have r2 : RS X.K F' H0 F2 H' (setsV σ' bv) (setsO ρ' bs) := RS.sets (rs.ext E2) hb
      have again : ∀ {σ3 : L2.St} {H3 F3 : Hp} {ρ3 : OEnv}, RS X.K F' H0 F3 H3 σ3 ρ3 → SPst X W F0 H0 D (forL kt kl gb (ds.drop (i + 1)) (kl ρ3)) → i + 1 ≤ ds.length ∧ ∃ F' ρ', RS X.K F0 H0 F' H3 σ3 ρ' ∧ Same F1 F' ∧ SPst X W F0 H0 D (forL kt kl gb (ds.drop (i + 1)) ρ') := fun {σ3 H3 F3 ρ3} r3 p3 => by
        obtain ⟨F4, r4⟩ := hk F' H0 F3 H3 σ3 ρ3 r3
        refine ⟨hlt, F4, kl ρ3, r4.rebase b1 b2, s1.trans ?_, p3⟩
        obtain ⟨_, _, hs⟩ := r4.ex
        exact hs.f0
      refine qb _ (setsV σ' bv) H' F' H0 F2 (setsO ρ' bs) r2 ?_
      generalize hgb : gb (setsO ρ' bs) = rg at pd'
      cases rg with
      | stuck => exact pd'.elim
      | err c ρ3 => exact fun σ3 H3 F3 r3 => pd' σ3 H3 F3 (r3.rebase b1 b2)
      | nx ρ3 => exact fun σ3 H3 F3 r3 => again r3 pd'
      | ct ρ3 => exact fun σ3 H3 F3 r3 => again r3 pd'
      | bk ρ3 => exact fun σ3 H3 F3 r3 => pd' σ3 H3 F3 (r3.rebase b1 b2)
      | rt o _ => exact fun v σ3 H3 F3 r3 => pd' v σ3 H3 F3 (r3.rebase b1 b2)
  · have e : i = ds.length := by omega
    subst e
    refine .inl ⟨wk.stop Hi (s1.trans fh), ?_⟩
    rw [List.drop_length] at pd'
    exact pd' σ' Hi F' r'

def sForK (hi : OEnv → R (List PyData)) (T : OEnv → OEnv) (kt : PyData → R (List (Nat × PyData))) (kl : OEnv → OEnv) (gb : OEnv → SR) : OEnv → SR := fun ρ => (hi ρ).sr ρ fun ds => forL kt kl gb ds (T ρ)
theorem vs_forK {body : List Stmt} {sl : List Nat} {kt : PyData → R (List (Nat × PyData))} {hi : OEnv → R (List PyData)} {T kl : OEnv → OEnv} {gb : OEnv → SR} (hp : PassesOwn (model X.prog X.w) X.A X.env X.xe) (hc : X.calm = true) (h1 : VIX X W tg iter hi) (h2 : VG X tg sl kt) (hT : ∀ F0 H0 F H σ ρ, RS X.K F0 H0 F H σ ρ → RS X.K F0 H0 F H σ (T ρ)) (hk : EnvT X.K kl) (h3 : VSs X W body gb)
    (hs : ∀ x, foldedSetIterable iter X.env x = pure x := by intro _; rfl) : VS X W (.For tg iter body [] pos) (sForK hi T kt kl gb) := by
  obtain ⟨wi, pi, qi⟩ := h1.ex
  obtain ⟨tg', pg, qg⟩ := h2.ex
  obtain ⟨tb, pb, qb⟩ := h3.ex
  refine ⟨_, ps_for hp hc pi pg pb hs, fun D σ H F0 H0 F ρ r pr => ?_⟩
  refine qi σ H F0 H0 F ρ _ r (sr_pst r pr fun ds pd J H1 F1 ex wk => ?_)
  have r1 := hT _ _ _ _ _ _ (r.ext ex)
  refine ⟨fun i m σ H => m = ds.length - i ∧ i ≤ ds.length ∧ ∃ F' ρ', RS X.K F0 H0 F' H σ ρ' ∧ Same F1 F' ∧ SPst X W F0 H0 D (forL kt kl gb (ds.drop i) ρ'), ⟨ds.length, by simp, Nat.zero_le _, F1, T ρ, r1, Same.refl _, by simpa using pd⟩, ?_⟩
  rintro i m σ' Hi ⟨rfl, hi', F', ρ', r', s1, pd'⟩
  obtain ⟨rs, b1, b2⟩ := r'.self
  have fh : Same F' Hi := by obtain ⟨_, _, hs⟩ := rs.ex; exact hs.fh
  by_cases hlt : i < ds.length
  · refine .inr ⟨wk.go i Hi (s1.trans fh) hlt, fun σ' H => i + 1 ≤ ds.length ∧ ∃ F' ρ', RS X.K F0 H0 F' H σ' ρ' ∧ Same F1 F' ∧ SPst X W F0 H0 D (forL kt kl gb (ds.drop (i + 1)) ρ'), fun σ'' H'' q => ⟨ds.length - (i + 1), by omega, rfl, q⟩, fun x H' y => ?_⟩
    obtain ⟨d, F2, e2, E2, dx⟩ := wk.yld i Hi x H' F' s1 fh hlt y
    have hdrop : ds.drop i = d :: ds.drop (i + 1) := by
      obtain ⟨q1, q2⟩ := List.getElem?_eq_some_iff.mp e2
      rw [List.drop_eq_getElem_cons q1, q2]
    rw [hdrop] at pd'
    simp only [forL] at pd'
    generalize hkd : kt d = rk at pd'
    cases rk with
    | stuck => exact pd'.elim
    | err c => exact pd'.elim
    | ok bs =>
      simp only at pd'
      refine qg x σ' H' F2 d _ E2.bh dx ⟨bs, hkd, fun bv hb => ?_⟩
      have r2 : RS X.K F' H0 F2 H' (setsV σ' bv) (setsO ρ' bs) := RS.sets (rs.ext E2) hb
      have again : ∀ {σ3 : L2.St} {H3 F3 : Hp} {ρ3 : OEnv}, RS X.K F' H0 F3 H3 σ3 ρ3 → SPst X W F0 H0 D (forL kt kl gb (ds.drop (i + 1)) (kl ρ3)) → i + 1 ≤ ds.length ∧ ∃ F' ρ', RS X.K F0 H0 F' H3 σ3 ρ' ∧ Same F1 F' ∧ SPst X W F0 H0 D (forL kt kl gb (ds.drop (i + 1)) ρ') := fun {σ3 H3 F3 ρ3} r3 p3 => by
        obtain ⟨F4, r4⟩ := hk F' H0 F3 H3 σ3 ρ3 r3
        refine ⟨hlt, F4, kl ρ3, r4.rebase b1 b2, s1.trans ?_, p3⟩
        obtain ⟨_, _, hs⟩ := r4.ex
        exact hs.f0
      refine qb _ (setsV σ' bv) H' F' H0 F2 (setsO ρ' bs) r2 ?_
      generalize hgb : gb (setsO ρ' bs) = rg at pd'
      cases rg with
      | stuck => exact pd'.elim
      | err c ρ3 => exact fun σ3 H3 F3 r3 => pd' σ3 H3 F3 (r3.rebase b1 b2)
      | nx ρ3 => exact fun σ3 H3 F3 r3 => again r3 pd'
      | ct ρ3 => exact fun σ3 H3 F3 r3 => again r3 pd'
      | bk ρ3 => exact fun σ3 H3 F3 r3 => pd' σ3 H3 F3 (r3.rebase b1 b2)
      | rt o _ => exact fun v σ3 H3 F3 r3 => pd' v σ3 H3 F3 (r3.rebase b1 b2)
  · have e : i = ds.length := by omega
    subst e
    refine .inl ⟨wk.stop Hi (s1.trans fh), ?_⟩
    rw [List.drop_length] at pd'
    exact pd' σ' Hi F' r'

theorem rs_kill (K : PySem.W.Frag) : ∀ (is : List Nat) F0 H0 F H σ ρ, RS K F0 H0 F H σ ρ → RS K F0 H0 F H σ (kill is ρ)
  | [], _, _, _, _, _, _, r => r
  | i :: is, F0, H0, F, H, σ, ρ, r => rs_kill K is F0 H0 F H σ (ρ.set i none) (r.drop i)

def sPar (i j : Nat) (h h' : OEnv → R PyData) : OEnv → SR := fun ρ => (h ρ).sr ρ fun d => (h' ρ).sr ρ fun e => .nx ((ρ.set i (some (.fz d))).set j (some (.fz e)))
end

def spO (K : PySem.W.Frag) (mg : Str → Option Value) (n : Nat) (g : List PyData → R O) : Sp := fun vs H Q E => vs.length = n ∧ ∃ ds B, Same B H ∧ IsAll K B vs ds ∧
  match g ds with
  | .stuck => False
  | .err c => ∀ H', Same H H' → ∃ C, mg c = some (.ref C) ∧ E (.ref C) none H'
  | .ok o => ∀ v H' F', RV K B H F' H' v o → Q v H'
def startO (n : Nat) (ds : List PyData) : OEnv := ds.map (fun d => some (.fz d)) ++ List.replicate (n - ds.length) none
def runB (n : Nat) (g : OEnv → SR) (ds : List PyData) : R O := match g (startO n ds) with
  | .rt o _ => .ok o
  | .nx _ => .ok (.fz .none)
  | .err c _ => .err c
  | _ => .stuck
theorem slots_start {K : PySem.W.Frag} {B H : Hp} : ∀ {ds : List PyData} {vs : List V} (m : Nat), IsAll K B vs ds → Slots K B H (vs.map some ++ List.replicate m none) (ds.map (fun d => some (O.fz d)) ++ List.replicate m none) []
  | [], _, m, h => by
    cases h
    induction m with
    | zero => exact .nil
    | succ m ih => exact .un ih
  | d :: ds, _, m, h => by
    cases h with
    | cons h1 h2 => exact .ow (fp := []) (.fz h1) (slots_start m h2)
section
variable {P : Program} {w : World} {K : PySem.W.Frag} {mg : Str → Option Value} {base : Heap}
theorem fn_vl {x qual : Str} {st : Stmt} {f : Addr} {fd : FuncData} {N ps : List Str} {k n : Nat} {g : OEnv → SR} (F : Fun K x qual st f fd) (S : FnScope N ps (defScope st)) (hn : n = ps.length)
    (hb : ∀ (cdv : Value) (A : Around) (outer : List Env) (s : Shared) (H : Hp) (E : XK), Room k (A.deeper (envOfC qual (defScope st) s.heap.objs.size f cdv)) →
      VSs (cxOf (L2.CX P w) P w K mg base N qual (defScope st) f cdv A outer s H E) (fun cls d _ H => E cls d H) (defBody st) g) :
    FnOk P w K mg base (L2.CX P w) (k + 1) f fd ps (spO K mg n (runB N.length g)) := by
  refine F.okX S (fun vs H Q E h => by rw [h.1, hn]) (fun cdv A outer s H vs Q E hr h => ?_)
  obtain ⟨hl, ds, B, sb, ia, post⟩ := h
  obtain ⟨t, p, q⟩ := (hb cdv A outer s H E hr).ex
  refine ⟨t, p, q _ _ H B H B (startO N.length ds) ?_ ?_⟩
  · refine ⟨[], ?_, List.nodup_nil, fun a ha => (nomatch ha), sb, Same.refl _, Same.refl _, fun a x y => absurd x y⟩
    unfold L2.start startO
    rw [IsAll.len ia]
    exact slots_start _ ia
  · unfold runB at post
    generalize g (startO N.length ds) = r at post ⊢
    cases r with
    | stuck => exact post
    | err c ρ =>
      intro σ' H' F' x
      obtain ⟨_, _, hs⟩ := x.ex
      exact post H' hs.h0
    | nx ρ =>
      intro σ' H' F' x
      obtain ⟨fps, _, hs⟩ := x.ex
      exact post .non H' F' ⟨[], .fz .non, hs.sub (List.nil_sublist _)⟩
    | bk ρ => exact post.elim
    | ct ρ => exact post.elim
    | rt o _ => exact fun v σ' H' F' x => post v H' F' x.head
def frz (g : List PyData → R O) : List PyData → R PyData := fun ds => (g ds).bind fun o => .ok o.data
theorem fn_frz {f : Addr} {fd : FuncData} {ps : List Str} {k n : Nat} {g : List PyData → R O} (F : FnOk P w K mg base (L2.CX P w) k f fd ps (spO K mg n g)) : FnOk P w K mg base (L2.CX P w) k f fd ps (spV K mg n (frz g)) := by
  refine F.imp fun vs H Q E h => ?_
  obtain ⟨hl, ds, B, sb, ia, post⟩ := h
  refine ⟨hl, ds, B, sb, ia, ?_⟩
  unfold frz at post
  generalize g ds = r at post ⊢
  cases r with
  | stuck => exact post
  | err c => exact post
  | ok o =>
    intro v H' F' rv
    obtain ⟨fp, ow, hs⟩ := rv
    obtain ⟨b1, b2⟩ := hs.bor
    refine post v H' (bor F' H' fp) ⟨hs.h0, hs.f0.trans b1, b2, fun a h1 h2 => ?_⟩ (ow.is b1 fun a ha => bor_own ha)
    by_cases ha : a ∈ fp
    · exact .inl (hs.ow a ha).2
    · rw [bor_not ha] at h2; exact hs.nw a h1 h2
end
end VL

namespace VL
open PySem PySem.Spec PyProof.Rows L2

def tst (f : PEnv → R PyData) : PEnv → R Bool := fun ρ => (f ρ).bind tbool
def tnn (f : PEnv → R PyData) : PEnv → R Bool := fun ρ => (v1 visnone f ρ).bind fun d => (tbool d).bind fun b => .ok (!b)
def ttr (f : PEnv → R PyData) : PEnv → R Bool := fun ρ => (f ρ).bind vtruth
def vnn (f : PEnv → R PyData) : PEnv → R PyData := v1 (fun d => (visnone d).bind fun b => match b with | .bool b => .ok (.bool (!b)) | _ => .stuck) f
def vpart (f : PEnv → R PyData) : PEnv → R (Option Int) := fun ρ => (f ρ).bind oInt
def vnopart : PEnv → R (Option Int) := fun _ => .ok none
def seq (g h : OEnv → SR) : OEnv → SR := fun ρ => (g ρ).seq h
def pre (T : OEnv → OEnv) (g : OEnv → SR) : OEnv → SR := fun ρ => g (T ρ)
def tB (t : PEnv → R Bool) : OEnv → R Bool := fun ρ => t (viewB ρ)
def ixF (f : PEnv → R (List PyData)) : OEnv → R (List PyData) := fun ρ => f (viewF ρ)
def sNx : OEnv → SR := fun ρ => .nx ρ
def sBk : OEnv → SR := fun ρ => .bk ρ
def sCt : OEnv → SR := fun ρ => .ct ρ
def sRetN : OEnv → SR := fun ρ => .rt (.fz .none) ρ
def vInT : PyData → PyData → R PyData
  | d, .tuple ds => if SeqAt.shaped d = true ∧ SeqAt.shaped (.tuple ds) = true then .ok (.bool (ds.any fun z => PyData.eqv z d)) else .stuck
  | _, _ => .stuck
def rInTD (K : PySem.W.Frag) (neg : Bool) : R2 := fun x y H Q => ∃ d ds, Dp K H x d ∧ Dp K H y (.tuple ds) ∧ SeqAt.shaped d = true ∧ SeqAt.shaped (.tuple ds) = true ∧ Q (.bl (if neg then !ds.any fun z => PyData.eqv z d else ds.any fun z => PyData.eqv z d)) H
theorem roomT {A : Around} {d : PyData} {ds : List PyData} (h : SeqAt.shaped d = true) (hu : A.units + 65 < cLine) : A.units + 1 + min (PyData.depthAll ds) d.depth < cLine := by
  have := SeqAt.depth_of_shaped h
  have := Nat.min_le_right (PyData.depthAll ds) d.depth
  omega
theorem op_inTD {X : Cx} (hu : X.A.units + 65 < cLine) : OpR X (compareOp .In) (rInTD X.K false) := by
  intro pins t σ G x y vv uu Q J rX rY hh
  obtain ⟨d, ds, hd, he, sd, se, q⟩ := hh
  obtain ⟨as, k1⟩ := Dp.reads J d x vv hd rX
  obtain ⟨bs, k2⟩ := Dp.reads J (.tuple ds) y uu he rY
  exact SeqAt.in_tuple_reads k2 k1 (SeqAt.canLay_of_shaped se) (SeqAt.canLay_of_shaped sd) (roomT sd hu) ⟨.bl _, G, J, rfl, q⟩
end VL

namespace VL
open PySem PySem.Spec PyProof.Rows L2
section
variable {X : Cx} {W : WX} {a b c e tg iter : Expr} {es : List Expr} {st : Stmt} {sts rest : List Stmt} {pos : Pos} {g h : OEnv → SR} {fa fb fc : PEnv → R PyData} {ft fu : PEnv → R Bool} {k : Nat}
theorem qs_nil : VSs X W [] sNx := vss_nil
theorem qs_cons (h1 : VS X W st g) (h2 : VSs X W rest h) : VSs X W (st :: rest) (seq g h) := vss_cons h1 h2
theorem qs_t {T : OEnv → OEnv} (hT : EnvT X.K T) (h1 : VSs X W sts g) : VSs X W sts (pre T g) := vss_t (g := g) (T := T) hT h1
theorem qx_T (h : VT X W e ft) : VXT X W e (tB ft) := vxT h
theorem qix_F {f : PEnv → R (List PyData)} (h : VI X W tg iter f) : VIX X W tg iter (ixF f) := vix_F h
theorem qlt (ha : VE X W a fa) (hb : VE X W b fb) : VT X W (.Compare a [.Lt] [b] pos) (tst (v2 vlt fa fb)) := vlt_t ha hb
theorem qgt (ha : VE X W a fa) (hb : VE X W b fb) : VT X W (.Compare a [.Gt] [b] pos) (tst (v2 vgt fa fb)) := vgt_t ha hb
theorem qge (ha : VE X W a fa) (hb : VE X W b fb) : VT X W (.Compare a [.GtE] [b] pos) (tst (v2 vge fa fb)) := vge_t ha hb
theorem qeq (hu : X.A.units + 65 < cLine) (ha : VE X W a fa) (hb : VE X W b fb) : VT X W (.Compare a [.Eq] [b] pos) (tst (v2 veq fa fb)) := veq_t hu ha hb
theorem qne (hu : X.A.units + 65 < cLine) (ha : VE X W a fa) (hb : VE X W b fb) : VT X W (.Compare a [.NotEq] [b] pos) (tst (v2 vne fa fb)) := vne_t hu ha hb
theorem qtruth (h : VE X W a fa) (he : ∀ whole, isTrue a X.env whole = (do let v ← whole; standAt a.pos; holding [v] (truthy v)) := by intro _; rfl) : VT X W a (ttr fa) := vt_truth h he
theorem qchain {op op' : CmpOp} {p p' : Int → Int → Bool} {g g' : D → D → R D} (i1 : IntCmp X op p g) (i2 : IntCmp X op' p' g') (ha : VE X W a fa) (hb : VE X W b fb) (hc : VE X W c fc) (hm : lastMarks [op, op'] [b, c] = false := by with_unfolding_all rfl) :
    VT X W (.Compare a [op, op'] [b, c] pos) (tst (vchain g g' fa fb fc)) := vchain_t i1 i2 ha hb hc hm
theorem qo_some (h : VE X W a fa) : VO1 X W (some a) (vpart fa) := vo_some h
theorem qo_none : VO1 X W none vnopart := vo_none
theorem rule_inT : Rule2 X W (rInTD X.K false) vInT := fun d e x y σ H B Q s sm dx dy p => by
  cases e <;> first | (cases d <;> exact p.elim) | skip
  simp only [vInT] at p
  split at p
  · rename_i hf
    exact ⟨_, _, (Is.mono s dx).dp (SeqAt.canLay_of_shaped hf.1), (Is.mono s dy).dp (SeqAt.canLay_of_shaped hf.2), hf.1, hf.2, p _ H B (.refl s) (.bl _)⟩
  · exact p.elim
theorem winT (hu : X.A.units + 65 < cLine) (ha : VE X W a fa) (hb : VE X W b fb) (hm : behindInMarks .In b = false := by with_unfolding_all rfl) : VE X W (.Compare a [.In] [b] pos) (v2 vInT fa fb) := ve2 (fun p q => pe_cmpR (op_inTD hu) p q hm) rule_inT ha hb
theorem inT_bool {d e z : PyData} (h : vInT d e = .ok z) : ∃ k, z = .bool k := by
  cases e <;> first | (cases d <;> (cases h; done)) | skip
  simp only [vInT] at h
  split at h <;> cases h
  exact ⟨_, rfl⟩
theorem qinT (hu : X.A.units + 65 < cLine) (ha : VE X W a fa) (hb : VE X W b fb) (hm : behindInMarks .In b = false := by with_unfolding_all rfl) : VT X W (.Compare a [.In] [b] pos) (tst (v2 vInT fa fb)) := vt2 (fun p q => pt_cmpR (op_inTD hu) p q hm) rule_inT (fun _ _ _ h => inT_bool h) ha hb
end
theorem takes0 {X : Cx} : Takes X W0 := fun u s' ⟨_, _, _, _, _, _, _, _, _, _, _, _, _, _, _, _, w⟩ => w.elim
def Cst (K : PySem.W.Frag) (mg : Str → Option Value) (x : Str) (d : PyData) : Prop := ∃ (u : Value) (v : V), mg x = some u ∧ RelV v u ∧ ∀ H, Is K H v d
theorem vglobT {X : Cx} {W : WX} {pos : Pos} {x : Str} {d : PyData} (h : Cst X.K X.mg x d) (hg : Gl X x := by rfl) (hdb : (x == ("__debug__" : Str)) = false := by decide) : VE X W (.Name x pos) (vC d) := by
  obtain ⟨u, v, h1, h2, h3⟩ := h
  exact vglob hg h1 h2 h3 hdb
theorem is_ktup {K : PySem.W.Frag} {q : Addr} {dd : Option Addr} {ss : Array (Option Value)} {its : Array Value} {n : Nat} {vs : List V} {ds : List PyData} (h : K.lookup q = some ⟨.type "tuple", dd, .seq its n, ss⟩) (hz : its.size ≤ sizeLine) (hv : Vals vs its.toList) (hd : ∀ H, IsAll K H vs ds) : ∀ H, Is K H (.ref q) (.tuple ds) :=
  fun H => .tup (.inr ⟨_, its, n, h, rfl, rfl, hz, hv⟩) (hd H)

section
variable {X : Cx} {W : WX} {f : PEnv → R (List PyData)} {t : TE}
theorem mode_F (q : ∀ σ H B ρ Q, Same B H → RF X.K B σ ρ → Pst X W σ H (KFr X B H Q) (f ρ) → t σ H Q) : ∀ σ H F0 H0 F ρ Q, RS X.K F0 H0 F H σ ρ → Pst X W σ H (KO X F0 H0 σ Q) (oFrF f ρ) → t σ H Q := fun σ H F0 H0 F ρ Q r pr => by
  obtain ⟨fps, s, hs⟩ := r.ex
  refine q σ H F _ Q hs.fh s.rfF ?_
  unfold oFrF at pr
  generalize f (viewF ρ) = rr at pr ⊢
  cases rr with
  | stuck => exact pr
  | err c => exact pr
  | ok ds =>
    intro pa vs H' B' ex hp hn bn ia
    have hs' := hs.ext ex s.lstAt
    have s' : Slots X.K B' H' σ ρ fps := s.keep ex.bb fun a ha => by
      obtain ⟨us, z, _⟩ := s.lstAt a ha
      rw [z]; exact ex.hh _ _ z
    refine pr (.ref pa) H' B' ⟨[pa] ++ fps, .ow (.lst hp (OwnL.fzs ia)) s', ?_, ?_, hs'.fh, hs'.f0, hs'.h0, hs'.nw⟩
    · refine List.nodup_cons.mpr ⟨fun hm => ?_, hs'.nd⟩
      obtain ⟨us, z, _⟩ := s.lstAt pa hm
      rw [hn] at z; cases z
    · intro a ha
      rcases List.mem_cons.mp ha with e | e
      · subst e; exact ⟨bn, Same.free hs.h0 hn⟩
      · exact hs'.ow a e
theorem mode_Z (q : ∀ σ H B ρ Q, Same B H → RF X.K B σ ρ → Pst X W σ H (KFr X B H Q) (f ρ) → t σ H Q) : ∀ σ H F0 H0 F ρ Q, RS X.K F0 H0 F H σ ρ → Pst X W σ H (KO X F0 H0 σ Q) (oX (exF (vlistOf f)) ρ) → t σ H Q := fun σ H F0 H0 F ρ Q r pr => by
  have r0 := r
  obtain ⟨fps, s, hs⟩ := r.ex
  refine q σ H F _ Q hs.fh s.rfF ?_
  unfold oX exF vlistOf at pr
  generalize f (viewF ρ) = rr at pr ⊢
  cases rr with
  | stuck => exact pr
  | err c => exact pr
  | ok ds =>
    refine kfr_of fun v H' F' ex dv => ?_
    obtain ⟨fps, s, hs⟩ := (r0.ext ex).ex
    exact pr v H' F' ⟨fps, .ow (.fz dv) s, hs⟩
end
section
variable {X : Cx} {W : WX} {a b c e tg iter elt : Expr} {ifs : List Expr} {pos : Pos} {scope : Scope} {own : List (Str × Nat)} {sl ownl : List Nat} {fi : PEnv → R (List D)} {kt : D → R (List (Nat × D))} {ft : PEnv → R Bool} {fe : PEnv → R D} {k : Nat}
theorem qcomp (hc : X.calm = true) (hN : X.N.Nodup) (hi : VI X W tg iter fi) (ok : BlkOk X.N X.env.scope scope own) (ho : own.map (·.2) = ownl)
    (hg : ∀ (s : Shared) (H : Hp) (C : Addr) (cl : List (Str × Addr)) (fp : List Addr), VG (X.blk s H scope (compEnvC scope cl C X.env) fp) tg sl kt)
    (hso : ∀ i ∈ sl, i ∈ ownl)
    (ht : ∀ (s : Shared) (H : Hp) (C : Addr) (cl : List (Str × Addr)) (fp : List Addr), VTs (X.blk s H scope (compEnvC scope cl C X.env) fp) W0 ifs ft)
    (he : ∀ (s : Shared) (H : Hp) (C : Addr) (cl : List (Str × Addr)) (fp : List Addr), VE (X.blk s H scope (compEnvC scope cl C X.env) fp) W0 elt fe) (hs : ∀ x, foldedSetIterable iter X.env x = pure x := by intro _; rfl) :
    VFr X W (.ListComp elt [⟨tg, iter, ifs, 0⟩] scope pos) (vcomp ownl fi kt ft fe) := by
  subst ho
  exact vcomp_ hc hN hi ok hg hso ht he hs
theorem qsetLc {cpos : Pos} {x : Str} {py : Pos} {hh : OEnv → R (O × OEnv)} (i : Nat) (mode : ∀ {t : TE}, (∀ σ H B ρ Q, Same B H → RF X.K B σ ρ → Pst X W σ H (KFr X B H Q) (vcomp ownl fi kt ft fe ρ) → t σ H Q) → ∀ σ H F0 H0 F ρ Q, RS X.K F0 H0 F H σ ρ → Pst X W σ H (KO X F0 H0 σ Q) (hh ρ) → t σ H Q)
    (hc : X.calm = true) (hN : X.N.Nodup) (hy : X.N[i]? = some x) (hyl : X.env.scope.names.lookup x = some .local) (hsw : swapsWith (.ListComp elt [⟨tg, iter, ifs, 0⟩] scope cpos) (some (.Name x py)) pos.line X.env = pure true)
    (hi : VI X W tg iter fi) (ok : BlkOk X.N X.env.scope scope own) (ho : own.map (·.2) = ownl)
    (hg : ∀ (s : Shared) (H : Hp) (C : Addr) (cl : List (Str × Addr)) (fp : List Addr), VG (X.blk s H scope (compEnvC scope cl C X.env) fp) tg sl kt)
    (hso : ∀ i ∈ sl, i ∈ ownl)
    (ht : ∀ (s : Shared) (H : Hp) (C : Addr) (cl : List (Str × Addr)) (fp : List Addr), VTs (X.blk s H scope (compEnvC scope cl C X.env) fp) W0 ifs ft)
    (hee : ∀ (s : Shared) (H : Hp) (C : Addr) (cl : List (Str × Addr)) (fp : List Addr), VE (X.blk s H scope (compEnvC scope cl C X.env) fp) W0 elt fe) (hs : ∀ x, foldedSetIterable iter X.env x = pure x := by intro _; rfl) :
    VS X W (.Assign [.Name x py] (.ListComp elt [⟨tg, iter, ifs, 0⟩] scope cpos) pos) (sSet i hh) := by
  subst ho
  exact vs_setLc i mode hc hN hy hyl hsw hi ok hg hso ht hee hs
theorem ints_is {K : PySem.W.Frag} {F : Hp} : ∀ ns : List Int, IsAll K F (ns.map V.int) (ns.map PyData.int)
  | [] => .nil
  | n :: ns => .cons (.int n) (ints_is ns)
theorem rgV_is {K : PySem.W.Frag} {F : Hp} (i j : Int) : IsAll K F (rgV i j) (rangeD i (j - i).toNat) := by
  have := ints_is (K := K) (F := F) ((List.range (j - i).toNat).map fun n : Nat => i + (n : Int))
  unfold rgV rangeD
  rw [List.map_map, List.map_map] at this
  exact this
theorem rgOk_of {i j : Int} (h : rngOk i j) : RgOk i j := by
  obtain ⟨h1, h2, h3, h4, h5⟩ := h
  exact ⟨by omega, by omega, by omega, by omega, by omega⟩
theorem qlist_rg1 {p p2 pos2 : Pos} {fa : PEnv → R PyData} (hc : X.calm = true) (hm : X.mg "list" = none) (hm2 : X.mg "range" = none) (ha : VE X W a fa) (hg : Gl X "list" := by rfl) (hg2 : Gl X "range" := by rfl)
    (n1 : starEach [a] X.env = (false, eval a X.env) :: starEach [] X.env := by rfl)
    (n3 : starEach [.Call (.Name "range" p2) [a] [] pos2] X.env = (false, eval (.Call (.Name "range" p2) [a] [] pos2) X.env) :: starEach [] X.env := by rfl) : VFr X W (.Call (.Name "list" p) [.Call (.Name "range" p2) [a] [] pos2] [] pos) (i1 vrange1 fa) := by
  obtain ⟨t, pt, qt⟩ := ha.ex
  refine ⟨_, pe_listRg hc hg hm (prg_1 hg2 hm2 pt n1) n3, fun σ H B ρ Q s rf pr => ?_⟩
  refine one qt s rf pr fun d x H' B' ex sm dx pg => ?_
  cases dx <;> first | exact pg.elim | skip
  rename_i j
  simp only [vrange1] at pg
  split at pg
  · rename_i hz
    refine ⟨j, rfl, rgOk_of hz, fun q hq => ?_⟩
    have pg : KFr X B H Q (rangeD 0 j.toNat) := pg
    have e := rgV_is (K := X.K) (F := B') 0 j
    rw [Int.sub_zero] at e
    exact pg q _ _ B' (ex.trans (Ext.own ex.bh hq)) upd_same (Same.free ex.hh hq) (Same.free ex.bh hq) e
  · exact pg.elim
end
def spL : Sp := fun vs H Q _ => ∃ (a : Addr) (ns : List Int), vs = [.ref a] ∧ ns.length ≤ 63 ∧ Rd H a (.lst (ns.map V.int)) ∧ ∀ H', Same H H' → Q (.bl true) H'
def noLst (K : PySem.W.Frag) : Bool := K.all fun p => match p.2.cls with | .type "list" => false | _ => true
theorem lookup_all {K : PySem.W.Frag} {p : Addr × Obj → Bool} : ∀ {K : List (Addr × Obj)} {a : Addr} {o : Obj}, K.all p = true → K.lookup a = some o → ∃ b, p (b, o) = true
  | [], a, o, _, e => by cases e
  | (b, u) :: K, a, o, h, e => by
    rw [List.all_cons, Bool.and_eq_true] at h
    rw [List.lookup_cons] at e
    split at e
    · cases e; exact ⟨b, h.1⟩
    · exact lookup_all (K := K) h.2 e
theorem spL_of {K : PySem.W.Frag} {H : Hp} {a : Addr} {ns : List Int} (hl : ns.length ≤ 63) (hS : SqL K H a (ns.map V.int)) (hK : noLst K = true) : spL [.ref a] H (fun v _ => v = .bl true) fun _ _ _ => False := by
  rcases hS with h | ⟨o, its, n, h1, h2, _⟩
  · exact ⟨a, ns, rfl, hl, h, fun _ _ => rfl⟩
  · obtain ⟨b, hb⟩ := lookup_all (K := K) (p := fun p => match p.2.cls with | .type "list" => false | _ => true) hK h1
    simp only [h2] at hb
    cases hb
theorem fn_law {P : Program} {w : World} {K : PySem.W.Frag} {mg : Str → Option Value} {base : Heap} {f : Addr} {fd : FuncData} {ps : List Str} {k : Nat} {g : List PyData → R PyData} (F : FnOk P w K mg base (L2.CX P w) k f fd ps (spV K mg 1 g))
    (math : ∀ ns : List Int, ns.length ≤ 63 → g [.list (ns.map PyData.int)] = .ok (.bool true)) : FnOk P w K mg base (L2.CX P w) k f fd ps spL := by
  refine F.imp fun vs H Q E q => ?_
  obtain ⟨a, ns, rfl, hl, hr, post⟩ := q
  refine ⟨rfl, [.list (ns.map PyData.int)], H, Same.refl H, .cons (.lst hr (ints_is ns)) .nil, ?_⟩
  rw [math ns hl]
  intro v H' B' ex dv
  cases dv
  exact post H' ex.hh
theorem cx_false {P : Program} {w : World} {H : Hp} {s : Shared} {e : Value} {s' : Shared} (h : L2.CX P w [] H s (fun _ _ _ => False) e s') : False := by
  obtain ⟨_, _, _, _, _, _, _, _, _, _, _, _, h⟩ := h
  exact h
end VL

namespace VL
open PySem PySem.Spec PyProof.Rows

def fin : SR → R PyData
  | .rt o _ => .ok o.data
  | .nx _ => .ok .none
  | .err c _ => .err c
  | _ => .stuck
@[simp] theorem fin_rt (o : O) (ρ : OEnv) : fin (.rt o ρ) = .ok o.data := rfl
@[simp] theorem fin_nx (ρ : OEnv) : fin (.nx ρ) = .ok .none := rfl
@[simp] theorem fin_err (c : Str) (ρ : OEnv) : fin (.err c ρ) = .err c := rfl
theorem frz_fin (n : Nat) (g : OEnv → SR) (ds : List PyData) : frz (runB n g) ds = fin (g (startO n ds)) := by
  unfold frz runB
  cases g (startO n ds) <;> rfl
@[simp] theorem seq_ap (g h : OEnv → SR) (ρ : OEnv) : seq g h ρ = (g ρ).seq h := rfl
@[simp] theorem pre_ap (T : OEnv → OEnv) (g : OEnv → SR) (ρ : OEnv) : pre T g ρ = g (T ρ) := rfl
@[simp] theorem tB_ap (t : PEnv → R Bool) (ρ : OEnv) : tB t ρ = t (viewB ρ) := rfl
@[simp] theorem ixF_ap (t : PEnv → R (List PyData)) (ρ : OEnv) : ixF t ρ = t (viewF ρ) := rfl
@[simp] theorem sRet_ap (h : OEnv → R (O × OEnv)) (ρ : OEnv) : sRet h ρ = (h ρ).sr ρ fun p => .rt p.1 p.2 := rfl
@[simp] theorem sSet_ap (i : Nat) (h : OEnv → R (O × OEnv)) (ρ : OEnv) : sSet i h ρ = (h ρ).sr ρ fun p => .nx (p.2.set i (some p.1)) := rfl
@[simp] theorem sExpr_ap (h : OEnv → R (O × OEnv)) (ρ : OEnv) : sExpr h ρ = (h ρ).sr ρ fun p => .nx p.2 := rfl
@[simp] theorem sIf_ap (t : OEnv → R Bool) (g h : OEnv → SR) (ρ : OEnv) : sIf t g h ρ = (t ρ).sr ρ fun b => if b then g ρ else h ρ := rfl
@[simp] theorem sNx_ap (ρ : OEnv) : sNx ρ = .nx ρ := rfl
@[simp] theorem sBk_ap (ρ : OEnv) : sBk ρ = .bk ρ := rfl
@[simp] theorem sCt_ap (ρ : OEnv) : sCt ρ = .ct ρ := rfl
@[simp] theorem sRetN_ap (ρ : OEnv) : sRetN ρ = .rt (.fz .none) ρ := rfl
@[simp] theorem oX_ap (h : OEnv → R PyData) (ρ : OEnv) : oX h ρ = (h ρ).bind fun d => .ok (.fz d, ρ) := rfl
@[simp] theorem exF_ap (f : PEnv → R PyData) (ρ : OEnv) : exF f ρ = f (viewF ρ) := rfl
@[simp] theorem exB_ap (f : PEnv → R PyData) (ρ : OEnv) : exB f ρ = (f (viewB ρ)).bind lfok := rfl
@[simp] theorem oFrF_ap (f : PEnv → R (List PyData)) (ρ : OEnv) : oFrF f ρ = (f (viewF ρ)).bind fun ds => .ok (.lst (ds.map O.fz), ρ) := rfl
@[simp] theorem oFrB_ap (f : PEnv → R (List PyData)) (ρ : OEnv) : oFrB f ρ = (f (viewB ρ)).bind fun ds => if lfs ds then .ok (.lst (ds.map O.fz), ρ) else .stuck := rfl
@[simp] theorem sPar_ap (i j : Nat) (h h' : OEnv → R PyData) (ρ : OEnv) : sPar i j h h' ρ = (h ρ).sr ρ fun d => (h' ρ).sr ρ fun e => .nx ((ρ.set i (some (.fz d))).set j (some (.fz e))) := rfl
@[simp] theorem sTup_ap (k : PyData → R (List (Nat × PyData))) (h : OEnv → R PyData) (ρ : OEnv) : sTup k h ρ = (h ρ).sr ρ fun d => match k d with | .ok bd => .nx (setsO ρ bd) | _ => .stuck := rfl
@[simp] theorem sFor_ap (hi : OEnv → R (List PyData)) (kt : PyData → R (List (Nat × PyData))) (kl : OEnv → OEnv) (gb : OEnv → SR) (ρ : OEnv) : sFor hi kt kl gb ρ = (hi ρ).sr ρ fun ds => forL kt kl gb ds ρ := rfl
@[simp] theorem sForK_ap (hi : OEnv → R (List PyData)) (T : OEnv → OEnv) (kt : PyData → R (List (Nat × PyData))) (kl : OEnv → OEnv) (gb : OEnv → SR) (ρ : OEnv) : sForK hi T kt kl gb ρ = (hi ρ).sr ρ fun ds => forL kt kl gb ds (T ρ) := rfl
@[simp] theorem lfok_ap (d : PyData) : lfok d = if lf d then .ok d else .stuck := rfl
@[simp] theorem kill_nil (ρ : OEnv) : kill [] ρ = ρ := rfl
@[simp] theorem kill_cons (i : Nat) (is : List Nat) (ρ : OEnv) : kill (i :: is) ρ = kill is (ρ.set i none) := rfl
@[simp] theorem freeze_nil (ρ : OEnv) : freeze [] ρ = ρ := rfl
@[simp] theorem freeze_cons (i : Nat) (is : List Nat) (ρ : OEnv) : freeze (i :: is) ρ = freeze is (freezeAt ρ i) := rfl
@[simp] theorem setsO_nil (ρ : OEnv) : setsO ρ [] = ρ := rfl
@[simp] theorem setsO_cons (b : Nat × PyData) (bs : List (Nat × PyData)) (ρ : OEnv) : setsO ρ (b :: bs) = setsO (ρ.set b.1 (some (.fz b.2))) bs := rfl
@[simp] theorem setsD_nil (ρ : PEnv) : setsD ρ [] = ρ := rfl
@[simp] theorem setsD_cons (b : Nat × PyData) (bs : List (Nat × PyData)) (ρ : PEnv) : setsD ρ (b :: bs) = setsD (ρ.set b.1 (some b.2)) bs := rfl
@[simp] theorem wipeD_nil (ρ : PEnv) : wipeD ρ [] = ρ := rfl
@[simp] theorem wipeD_cons (i : Nat) (is : List Nat) (ρ : PEnv) : wipeD ρ (i :: is) = (wipeD ρ is).set i none := rfl
@[simp] theorem viewF_nil : viewF [] = [] := rfl
@[simp] theorem viewF_none (ρ : OEnv) : viewF (none :: ρ) = none :: viewF ρ := rfl
@[simp] theorem viewF_fz (d : PyData) (ρ : OEnv) : viewF (some (.fz d) :: ρ) = some d :: viewF ρ := rfl
@[simp] theorem viewF_lst (xs : List O) (ρ : OEnv) : viewF (some (.lst xs) :: ρ) = none :: viewF ρ := rfl
@[simp] theorem viewB_nil : viewB [] = [] := rfl
@[simp] theorem viewB_none (ρ : OEnv) : viewB (none :: ρ) = none :: viewB ρ := rfl
@[simp] theorem viewB_some (o : O) (ρ : OEnv) : viewB (some o :: ρ) = some o.data :: viewB ρ := rfl
@[simp] theorem v2_ap (g : D → D → R D) (fa fb : PEnv → R D) (ρ : PEnv) : v2 g fa fb ρ = (fa ρ).bind fun d => (fb ρ).bind fun e => g d e := rfl
@[simp] theorem v1_ap (g : D → R D) (fa : PEnv → R D) (ρ : PEnv) : v1 g fa ρ = (fa ρ).bind g := rfl
@[simp] theorem vC_ap (d : D) (ρ : PEnv) : vC d ρ = .ok d := rfl
@[simp] theorem vnn_ap (f : PEnv → R PyData) (ρ : PEnv) : vnn f ρ = (f ρ).bind fun d => .ok (.bool (match d with | .none => false | _ => true)) := by
  unfold vnn v1 visnone
  generalize f ρ = r
  cases r with
  | stuck => rfl
  | err c => rfl
  | ok d => cases d <;> rfl
@[simp] theorem tnn_ap (f : PEnv → R PyData) (ρ : PEnv) : tnn f ρ = (f ρ).bind fun d => .ok (match d with | .none => false | _ => true) := by
  unfold tnn v1 visnone
  generalize f ρ = r
  cases r with
  | stuck => rfl
  | err c => rfl
  | ok d => cases d <;> rfl
@[simp] theorem tst_ap (f : PEnv → R PyData) (ρ : PEnv) : tst f ρ = (f ρ).bind tbool := rfl
@[simp] theorem ttr_ap (f : PEnv → R PyData) (ρ : PEnv) : ttr f ρ = (f ρ).bind vtruth := rfl
@[simp] theorem vpart_ap (f : PEnv → R PyData) (ρ : PEnv) : vpart f ρ = (f ρ).bind oInt := rfl
@[simp] theorem vnopart_ap (ρ : PEnv) : vnopart ρ = .ok none := rfl
@[simp] theorem oInt_int (i : Int) : oInt (.int i) = .ok (some i) := rfl
@[simp] theorem tbool_bool (b : Bool) : tbool (.bool b) = .ok b := rfl
@[simp] theorem tand_ap (f g : PEnv → R Bool) (ρ : PEnv) : tand f g ρ = (f ρ).bind fun b => if b then g ρ else .ok false := rfl
@[simp] theorem tor_ap (f g : PEnv → R Bool) (ρ : PEnv) : tor f g ρ = (f ρ).bind fun b => if b then .ok true else g ρ := rfl
@[simp] theorem tnot_ap (f : PEnv → R Bool) (ρ : PEnv) : tnot f ρ = (f ρ).bind fun b => .ok (!b) := rfl
@[simp] theorem tyes_ap (ρ : PEnv) : tyes ρ = .ok true := rfl
@[simp] theorem vif_ap (t : PEnv → R Bool) (f g : PEnv → R D) (ρ : PEnv) : vif t f g ρ = (t ρ).bind fun b => if b then f ρ else g ρ := rfl
@[simp] theorem vand_ap (f g : PEnv → R D) (ρ : PEnv) : vand f g ρ = (f ρ).bind fun d => (tbool d).bind fun b => if b then g ρ else .ok (.bool false) := rfl
@[simp] theorem vor_ap (f g : PEnv → R D) (ρ : PEnv) : vor f g ρ = (f ρ).bind fun d => (tbool d).bind fun b => if b then .ok (.bool true) else g ρ := rfl
@[simp] theorem vnot_ap (f : PEnv → R D) (ρ : PEnv) : vnot f ρ = (f ρ).bind fun d => (tbool d).bind fun b => .ok (.bool (!b)) := rfl
@[simp] theorem vchain_ap (g g' : D → D → R D) (fa fb fc : PEnv → R D) (ρ : PEnv) : vchain g g' fa fb fc ρ = (fa ρ).bind fun d => (fb ρ).bind fun e => (g d e).bind fun z => (tbool z).bind fun k => if k then (fc ρ).bind fun f => g' e f else .ok (.bool false) := rfl
@[simp] theorem aNil_ap (ρ : PEnv) : aNil ρ = .ok [] := rfl
@[simp] theorem aCons_ap (f : PEnv → R D) (g : PEnv → R (List D)) (ρ : PEnv) : aCons f g ρ = (f ρ).bind fun d => (g ρ).bind fun ds => .ok (d :: ds) := rfl
@[simp] theorem vtup_ap (g : PEnv → R (List D)) (ρ : PEnv) : vtup g ρ = (g ρ).bind fun ds => .ok (.tuple ds) := rfl
@[simp] theorem vlistOf_ap (g : PEnv → R (List D)) (ρ : PEnv) : vlistOf g ρ = (g ρ).bind fun ds => .ok (.list ds) := rfl
@[simp] theorem vapp_ap (g : List D → R D) (f : PEnv → R (List D)) (ρ : PEnv) : vapp g f ρ = (f ρ).bind g := rfl
@[simp] theorem vslice_ap (f : PEnv → R D) (l u : PEnv → R (Option Int)) (ρ : PEnv) : vslice f l u ρ = (f ρ).bind fun d => (l ρ).bind fun lo => (u ρ).bind fun hi => vcut lo hi d := rfl
@[simp] theorem x1_ap (g : PyData → R (List PyData)) (h : OEnv → R PyData) (ρ : OEnv) : x1 g h ρ = (h ρ).bind g := rfl
@[simp] theorem x2_ap (g : PyData → PyData → R (List PyData)) (h h' : OEnv → R PyData) (ρ : OEnv) : x2 g h h' ρ = (h ρ).bind fun d => (h' ρ).bind fun e => g d e := rfl
@[simp] theorem i1_ap (g : PyData → R (List PyData)) (h : PEnv → R PyData) (ρ : PEnv) : i1 g h ρ = (h ρ).bind g := rfl
@[simp] theorem i2_ap (g : PyData → PyData → R (List PyData)) (h h' : PEnv → R PyData) (ρ : PEnv) : i2 g h h' ρ = (h ρ).bind fun d => (h' ρ).bind fun e => g d e := rfl
@[simp] theorem isq_ap (h : PEnv → R PyData) (ρ : PEnv) : isq h ρ = (h ρ).bind seqD := rfl
@[simp] theorem seqD_list (xs : List PyData) : seqD (.list xs) = .ok xs := rfl
@[simp] theorem seqD_tuple (xs : List PyData) : seqD (.tuple xs) = .ok xs := rfl
@[simp] theorem gN_ap (i : Nat) (d : PyData) : gN i d = .ok [(i, d)] := rfl
@[simp] theorem calm_okk {α : Type} (a : α) : (R.ok a).calm = .ok a := rfl
@[simp] theorem calm_ite {α : Type} (p : Prop) [Decidable p] (a b : R α) : (if p then a else b).calm = if p then a.calm else b.calm := by split <;> rfl

@[simp] theorem vadd_int (a b : Int) : vadd (.int a) (.int b) = .ok (.int (a + b)) := rfl
@[simp] theorem vsub_int (a b : Int) : vsub (.int a) (.int b) = .ok (.int (a - b)) := rfl
@[simp] theorem vlt_int (a b : Int) : vlt (.int a) (.int b) = .ok (.bool (decide (a < b))) := rfl
@[simp] theorem vle_int (a b : Int) : vle (.int a) (.int b) = .ok (.bool (decide (a ≤ b))) := rfl
@[simp] theorem vgt_int (a b : Int) : vgt (.int a) (.int b) = .ok (.bool (decide (b < a))) := rfl
@[simp] theorem vge_int (a b : Int) : vge (.int a) (.int b) = .ok (.bool (decide (b ≤ a))) := rfl
@[simp] theorem vneg_int (a : Int) : vneg (.int a) = .ok (.int (-a)) := rfl
theorem vmul_int {a b : Int} (h : IntMulOk a b) : vmul (.int a) (.int b) = .ok (.int (a * b)) := if_pos h
@[simp] theorem vfdiv_int {a b : Int} (h : 0 < b ∧ b < 2 ^ 250) : vfdiv (.int a) (.int b) = .ok (.int (a / b)) := if_pos h
@[simp] theorem vmod_int (a b : Int) : vmod (.int a) (.int b) = if 0 < b then .ok (.int (a % b)) else .stuck := rfl
@[simp] theorem vpow_int {a b : Int} (h : 0 ≤ b ∧ b ≤ 1000 ∧ a.natAbs < 2 ^ 64) : vpow (.int a) (.int b) = .ok (.int (a ^ b.toNat)) := if_pos h
@[simp] theorem veq_int (a b : Int) : veq (.int a) (.int b) = .ok (.bool (decide (a = b))) := by
  unfold veq vEq; simp [SeqAt.shaped, PyData.canLay0, PyData.depth, PyData.eqv, Bool.beq_eq_decide_eq]
@[simp] theorem vne_int (a b : Int) : vne (.int a) (.int b) = .ok (.bool (!decide (a = b))) := by
  unfold vne vEq; simp [SeqAt.shaped, PyData.canLay0, PyData.depth, PyData.eqv, Bool.beq_eq_decide_eq]
theorem veq_str {a b : Str} (ha : PyData.strOk a = true) (hb : PyData.strOk b = true) : veq (.str a) (.str b) = .ok (.bool (decide (a = b))) := by
  unfold veq vEq; simp [SeqAt.shaped, PyData.canLay0, PyData.depth, PyData.eqv, ha, hb, Bool.beq_eq_decide_eq]
theorem vne_str {a b : Str} (ha : PyData.strOk a = true) (hb : PyData.strOk b = true) : vne (.str a) (.str b) = .ok (.bool (!decide (a = b))) := by
  unfold vne vEq; simp [SeqAt.shaped, PyData.canLay0, PyData.depth, PyData.eqv, ha, hb, Bool.beq_eq_decide_eq]
@[simp] theorem veq_bool (a b : Bool) : veq (.bool a) (.bool b) = .ok (.bool (decide (a = b))) := by
  unfold veq vEq; simp [SeqAt.shaped, PyData.canLay0, PyData.depth, PyData.eqv, Bool.beq_eq_decide_eq]
@[simp] theorem vne_bool (a b : Bool) : vne (.bool a) (.bool b) = .ok (.bool (!decide (a = b))) := by
  unfold vne vEq; simp [SeqAt.shaped, PyData.canLay0, PyData.depth, PyData.eqv, Bool.beq_eq_decide_eq]
@[simp] theorem vint1_int (a : Int) : vint1 [.int a] = .ok (.int a) := rfl
@[simp] theorem vint1_bool (a : Bool) : vint1 [.bool a] = .ok (.int (if a then 1 else 0)) := rfl
@[simp] theorem vabs_int (a : Int) : vabs [.int a] = .ok (.int (if a < 0 then -a else a)) := rfl
@[simp] theorem vlen_list (a : List PyData) : vlen [.list a] = .ok (.int a.length) := rfl
@[simp] theorem vlen_tuple (a : List PyData) : vlen [.tuple a] = .ok (.int a.length) := rfl
@[simp] theorem vtuple1_list (a : List PyData) : vtuple1 [.list a] = .ok (.tuple a) := rfl
@[simp] theorem vtuple1_tuple (a : List PyData) : vtuple1 [.tuple a] = .ok (.tuple a) := rfl
@[simp] theorem vlist1_list (a : List PyData) : vlist1 [.list a] = .ok (.list a) := rfl
@[simp] theorem vlist1_tuple (a : List PyData) : vlist1 [.tuple a] = .ok (.list a) := rfl
@[simp] theorem vmax_two (i j : Int) : vmax [.int i, .int j] = .ok (.int (if j > i then j else i)) := rfl
@[simp] theorem vmin_two (i j : Int) : vmin [.int i, .int j] = .ok (.int (if j < i then j else i)) := rfl
@[simp] theorem vtruth_int (i : Int) : vtruth (.int i) = .ok (i != 0) := rfl
@[simp] theorem vtruth_bool (i : Bool) : vtruth (.bool i) = .ok i := rfl
@[simp] theorem vtruth_none : vtruth .none = .ok false := rfl
@[simp] theorem vtruth_list (i : List PyData) : vtruth (.list i) = .ok (!i.isEmpty) := rfl
@[simp] theorem vtruth_tuple (i : List PyData) : vtruth (.tuple i) = .ok (!i.isEmpty) := rfl
@[simp] theorem visnone_none : visnone .none = .ok (.bool true) := rfl
@[simp] theorem visnone_bool (b : Bool) : visnone (.bool b) = .ok (.bool false) := rfl
@[simp] theorem visnone_int (b : Int) : visnone (.int b) = .ok (.bool false) := rfl
@[simp] theorem visnone_str (b : Str) : visnone (.str b) = .ok (.bool false) := rfl
@[simp] theorem visnone_list (b : List PyData) : visnone (.list b) = .ok (.bool false) := rfl
@[simp] theorem visnone_tuple (b : List PyData) : visnone (.tuple b) = .ok (.bool false) := rfl
@[simp] theorem vrange1_int (j : Int) : vrange1 (.int j) = if rngOk 0 j then .ok (rangeD 0 j.toNat) else .stuck := rfl
@[simp] theorem vrange2_int (i j : Int) : vrange2 (.int i) (.int j) = if rngOk i j then .ok (rangeD i (j - i).toNat) else .stuck := rfl
@[simp] theorem venum_list (xs : List PyData) : venum (.list xs) = .ok (enumD xs) := rfl
@[simp] theorem vzip_list (xs ys : List PyData) : vzip (.list xs) (.list ys) = .ok (zipD xs ys) := rfl
@[simp] theorem vrev_list (xs : List PyData) : vrev (.list xs) = .ok xs.reverse := rfl
@[simp] theorem visi_int_none  : visi "int" .none = .ok (.bool false) := rfl
@[simp] theorem visi_int_bool (b : Bool) : visi "int" (.bool b) = .ok (.bool true) := rfl
@[simp] theorem visi_int_int (b : Int) : visi "int" (.int b) = .ok (.bool true) := rfl
@[simp] theorem visi_int_str (b : Str) : visi "int" (.str b) = .ok (.bool false) := rfl
@[simp] theorem visi_int_list (b : List PyData) : visi "int" (.list b) = .ok (.bool false) := rfl
@[simp] theorem visi_int_tuple (b : List PyData) : visi "int" (.tuple b) = .ok (.bool false) := rfl
@[simp] theorem visi_bool_none  : visi "bool" .none = .ok (.bool false) := rfl
@[simp] theorem visi_bool_bool (b : Bool) : visi "bool" (.bool b) = .ok (.bool true) := rfl
@[simp] theorem visi_bool_int (b : Int) : visi "bool" (.int b) = .ok (.bool false) := rfl
@[simp] theorem visi_bool_str (b : Str) : visi "bool" (.str b) = .ok (.bool false) := rfl
@[simp] theorem visi_bool_list (b : List PyData) : visi "bool" (.list b) = .ok (.bool false) := rfl
@[simp] theorem visi_bool_tuple (b : List PyData) : visi "bool" (.tuple b) = .ok (.bool false) := rfl
@[simp] theorem visi_str_none  : visi "str" .none = .ok (.bool false) := rfl
@[simp] theorem visi_str_bool (b : Bool) : visi "str" (.bool b) = .ok (.bool false) := rfl
@[simp] theorem visi_str_int (b : Int) : visi "str" (.int b) = .ok (.bool false) := rfl
@[simp] theorem visi_str_str (b : Str) : visi "str" (.str b) = .ok (.bool true) := rfl
@[simp] theorem visi_str_list (b : List PyData) : visi "str" (.list b) = .ok (.bool false) := rfl
@[simp] theorem visi_str_tuple (b : List PyData) : visi "str" (.tuple b) = .ok (.bool false) := rfl
@[simp] theorem visi_list_none  : visi "list" .none = .ok (.bool false) := rfl
@[simp] theorem visi_list_bool (b : Bool) : visi "list" (.bool b) = .ok (.bool false) := rfl
@[simp] theorem visi_list_int (b : Int) : visi "list" (.int b) = .ok (.bool false) := rfl
@[simp] theorem visi_list_str (b : Str) : visi "list" (.str b) = .ok (.bool false) := rfl
@[simp] theorem visi_list_list (b : List PyData) : visi "list" (.list b) = .ok (.bool true) := rfl
@[simp] theorem visi_list_tuple (b : List PyData) : visi "list" (.tuple b) = .ok (.bool false) := rfl
@[simp] theorem visi_tuple_none  : visi "tuple" .none = .ok (.bool false) := rfl
@[simp] theorem visi_tuple_bool (b : Bool) : visi "tuple" (.bool b) = .ok (.bool false) := rfl
@[simp] theorem visi_tuple_int (b : Int) : visi "tuple" (.int b) = .ok (.bool false) := rfl
@[simp] theorem visi_tuple_str (b : Str) : visi "tuple" (.str b) = .ok (.bool false) := rfl
@[simp] theorem visi_tuple_list (b : List PyData) : visi "tuple" (.list b) = .ok (.bool false) := rfl
@[simp] theorem visi_tuple_tuple (b : List PyData) : visi "tuple" (.tuple b) = .ok (.bool true) := rfl
@[simp] theorem vVar_0 (d : PyData) (ρ : PEnv) : vVar 0 (some d :: ρ) = .ok d := rfl
@[simp] theorem vVar_1 (x0 : Option PyData) (d : PyData) (ρ : PEnv) : vVar 1 (x0 :: some d :: ρ) = .ok d := rfl
@[simp] theorem vVar_2 (x0 x1 : Option PyData) (d : PyData) (ρ : PEnv) : vVar 2 (x0 :: x1 :: some d :: ρ) = .ok d := rfl
@[simp] theorem vVar_3 (x0 x1 x2 : Option PyData) (d : PyData) (ρ : PEnv) : vVar 3 (x0 :: x1 :: x2 :: some d :: ρ) = .ok d := rfl
@[simp] theorem vVar_4 (x0 x1 x2 x3 : Option PyData) (d : PyData) (ρ : PEnv) : vVar 4 (x0 :: x1 :: x2 :: x3 :: some d :: ρ) = .ok d := rfl
@[simp] theorem vVar_5 (x0 x1 x2 x3 x4 : Option PyData) (d : PyData) (ρ : PEnv) : vVar 5 (x0 :: x1 :: x2 :: x3 :: x4 :: some d :: ρ) = .ok d := rfl
@[simp] theorem vVar_6 (x0 x1 x2 x3 x4 x5 : Option PyData) (d : PyData) (ρ : PEnv) : vVar 6 (x0 :: x1 :: x2 :: x3 :: x4 :: x5 :: some d :: ρ) = .ok d := rfl
@[simp] theorem vVar_7 (x0 x1 x2 x3 x4 x5 x6 : Option PyData) (d : PyData) (ρ : PEnv) : vVar 7 (x0 :: x1 :: x2 :: x3 :: x4 :: x5 :: x6 :: some d :: ρ) = .ok d := rfl
@[simp] theorem vVar_8 (x0 x1 x2 x3 x4 x5 x6 x7 : Option PyData) (d : PyData) (ρ : PEnv) : vVar 8 (x0 :: x1 :: x2 :: x3 :: x4 :: x5 :: x6 :: x7 :: some d :: ρ) = .ok d := rfl
@[simp] theorem vVar_9 (x0 x1 x2 x3 x4 x5 x6 x7 x8 : Option PyData) (d : PyData) (ρ : PEnv) : vVar 9 (x0 :: x1 :: x2 :: x3 :: x4 :: x5 :: x6 :: x7 :: x8 :: some d :: ρ) = .ok d := rfl
@[simp] theorem vVar_10 (x0 x1 x2 x3 x4 x5 x6 x7 x8 x9 : Option PyData) (d : PyData) (ρ : PEnv) : vVar 10 (x0 :: x1 :: x2 :: x3 :: x4 :: x5 :: x6 :: x7 :: x8 :: x9 :: some d :: ρ) = .ok d := rfl
@[simp] theorem vVar_11 (x0 x1 x2 x3 x4 x5 x6 x7 x8 x9 x10 : Option PyData) (d : PyData) (ρ : PEnv) : vVar 11 (x0 :: x1 :: x2 :: x3 :: x4 :: x5 :: x6 :: x7 :: x8 :: x9 :: x10 :: some d :: ρ) = .ok d := rfl
@[simp] theorem vVar_12 (x0 x1 x2 x3 x4 x5 x6 x7 x8 x9 x10 x11 : Option PyData) (d : PyData) (ρ : PEnv) : vVar 12 (x0 :: x1 :: x2 :: x3 :: x4 :: x5 :: x6 :: x7 :: x8 :: x9 :: x10 :: x11 :: some d :: ρ) = .ok d := rfl
@[simp] theorem vVar_13 (x0 x1 x2 x3 x4 x5 x6 x7 x8 x9 x10 x11 x12 : Option PyData) (d : PyData) (ρ : PEnv) : vVar 13 (x0 :: x1 :: x2 :: x3 :: x4 :: x5 :: x6 :: x7 :: x8 :: x9 :: x10 :: x11 :: x12 :: some d :: ρ) = .ok d := rfl
@[simp] theorem vVar_14 (x0 x1 x2 x3 x4 x5 x6 x7 x8 x9 x10 x11 x12 x13 : Option PyData) (d : PyData) (ρ : PEnv) : vVar 14 (x0 :: x1 :: x2 :: x3 :: x4 :: x5 :: x6 :: x7 :: x8 :: x9 :: x10 :: x11 :: x12 :: x13 :: some d :: ρ) = .ok d := rfl
@[simp] theorem vVar_15 (x0 x1 x2 x3 x4 x5 x6 x7 x8 x9 x10 x11 x12 x13 x14 : Option PyData) (d : PyData) (ρ : PEnv) : vVar 15 (x0 :: x1 :: x2 :: x3 :: x4 :: x5 :: x6 :: x7 :: x8 :: x9 :: x10 :: x11 :: x12 :: x13 :: x14 :: some d :: ρ) = .ok d := rfl
@[simp] theorem vVar_16 (x0 x1 x2 x3 x4 x5 x6 x7 x8 x9 x10 x11 x12 x13 x14 x15 : Option PyData) (d : PyData) (ρ : PEnv) : vVar 16 (x0 :: x1 :: x2 :: x3 :: x4 :: x5 :: x6 :: x7 :: x8 :: x9 :: x10 :: x11 :: x12 :: x13 :: x14 :: x15 :: some d :: ρ) = .ok d := rfl
@[simp] theorem vVar_17 (x0 x1 x2 x3 x4 x5 x6 x7 x8 x9 x10 x11 x12 x13 x14 x15 x16 : Option PyData) (d : PyData) (ρ : PEnv) : vVar 17 (x0 :: x1 :: x2 :: x3 :: x4 :: x5 :: x6 :: x7 :: x8 :: x9 :: x10 :: x11 :: x12 :: x13 :: x14 :: x15 :: x16 :: some d :: ρ) = .ok d := rfl
@[simp] theorem vVar_18 (x0 x1 x2 x3 x4 x5 x6 x7 x8 x9 x10 x11 x12 x13 x14 x15 x16 x17 : Option PyData) (d : PyData) (ρ : PEnv) : vVar 18 (x0 :: x1 :: x2 :: x3 :: x4 :: x5 :: x6 :: x7 :: x8 :: x9 :: x10 :: x11 :: x12 :: x13 :: x14 :: x15 :: x16 :: x17 :: some d :: ρ) = .ok d := rfl
@[simp] theorem vVar_19 (x0 x1 x2 x3 x4 x5 x6 x7 x8 x9 x10 x11 x12 x13 x14 x15 x16 x17 x18 : Option PyData) (d : PyData) (ρ : PEnv) : vVar 19 (x0 :: x1 :: x2 :: x3 :: x4 :: x5 :: x6 :: x7 :: x8 :: x9 :: x10 :: x11 :: x12 :: x13 :: x14 :: x15 :: x16 :: x17 :: x18 :: some d :: ρ) = .ok d := rfl
@[simp] theorem vVar_20 (x0 x1 x2 x3 x4 x5 x6 x7 x8 x9 x10 x11 x12 x13 x14 x15 x16 x17 x18 x19 : Option PyData) (d : PyData) (ρ : PEnv) : vVar 20 (x0 :: x1 :: x2 :: x3 :: x4 :: x5 :: x6 :: x7 :: x8 :: x9 :: x10 :: x11 :: x12 :: x13 :: x14 :: x15 :: x16 :: x17 :: x18 :: x19 :: some d :: ρ) = .ok d := rfl
@[simp] theorem vVar_21 (x0 x1 x2 x3 x4 x5 x6 x7 x8 x9 x10 x11 x12 x13 x14 x15 x16 x17 x18 x19 x20 : Option PyData) (d : PyData) (ρ : PEnv) : vVar 21 (x0 :: x1 :: x2 :: x3 :: x4 :: x5 :: x6 :: x7 :: x8 :: x9 :: x10 :: x11 :: x12 :: x13 :: x14 :: x15 :: x16 :: x17 :: x18 :: x19 :: x20 :: some d :: ρ) = .ok d := rfl
@[simp] theorem vVar_22 (x0 x1 x2 x3 x4 x5 x6 x7 x8 x9 x10 x11 x12 x13 x14 x15 x16 x17 x18 x19 x20 x21 : Option PyData) (d : PyData) (ρ : PEnv) : vVar 22 (x0 :: x1 :: x2 :: x3 :: x4 :: x5 :: x6 :: x7 :: x8 :: x9 :: x10 :: x11 :: x12 :: x13 :: x14 :: x15 :: x16 :: x17 :: x18 :: x19 :: x20 :: x21 :: some d :: ρ) = .ok d := rfl
@[simp] theorem vVar_23 (x0 x1 x2 x3 x4 x5 x6 x7 x8 x9 x10 x11 x12 x13 x14 x15 x16 x17 x18 x19 x20 x21 x22 : Option PyData) (d : PyData) (ρ : PEnv) : vVar 23 (x0 :: x1 :: x2 :: x3 :: x4 :: x5 :: x6 :: x7 :: x8 :: x9 :: x10 :: x11 :: x12 :: x13 :: x14 :: x15 :: x16 :: x17 :: x18 :: x19 :: x20 :: x21 :: x22 :: some d :: ρ) = .ok d := rfl
@[simp] theorem vVar_24 (x0 x1 x2 x3 x4 x5 x6 x7 x8 x9 x10 x11 x12 x13 x14 x15 x16 x17 x18 x19 x20 x21 x22 x23 : Option PyData) (d : PyData) (ρ : PEnv) : vVar 24 (x0 :: x1 :: x2 :: x3 :: x4 :: x5 :: x6 :: x7 :: x8 :: x9 :: x10 :: x11 :: x12 :: x13 :: x14 :: x15 :: x16 :: x17 :: x18 :: x19 :: x20 :: x21 :: x22 :: x23 :: some d :: ρ) = .ok d := rfl
@[simp] theorem vVar_25 (x0 x1 x2 x3 x4 x5 x6 x7 x8 x9 x10 x11 x12 x13 x14 x15 x16 x17 x18 x19 x20 x21 x22 x23 x24 : Option PyData) (d : PyData) (ρ : PEnv) : vVar 25 (x0 :: x1 :: x2 :: x3 :: x4 :: x5 :: x6 :: x7 :: x8 :: x9 :: x10 :: x11 :: x12 :: x13 :: x14 :: x15 :: x16 :: x17 :: x18 :: x19 :: x20 :: x21 :: x22 :: x23 :: x24 :: some d :: ρ) = .ok d := rfl
@[simp] theorem vVar_26 (x0 x1 x2 x3 x4 x5 x6 x7 x8 x9 x10 x11 x12 x13 x14 x15 x16 x17 x18 x19 x20 x21 x22 x23 x24 x25 : Option PyData) (d : PyData) (ρ : PEnv) : vVar 26 (x0 :: x1 :: x2 :: x3 :: x4 :: x5 :: x6 :: x7 :: x8 :: x9 :: x10 :: x11 :: x12 :: x13 :: x14 :: x15 :: x16 :: x17 :: x18 :: x19 :: x20 :: x21 :: x22 :: x23 :: x24 :: x25 :: some d :: ρ) = .ok d := rfl
@[simp] theorem vVar_27 (x0 x1 x2 x3 x4 x5 x6 x7 x8 x9 x10 x11 x12 x13 x14 x15 x16 x17 x18 x19 x20 x21 x22 x23 x24 x25 x26 : Option PyData) (d : PyData) (ρ : PEnv) : vVar 27 (x0 :: x1 :: x2 :: x3 :: x4 :: x5 :: x6 :: x7 :: x8 :: x9 :: x10 :: x11 :: x12 :: x13 :: x14 :: x15 :: x16 :: x17 :: x18 :: x19 :: x20 :: x21 :: x22 :: x23 :: x24 :: x25 :: x26 :: some d :: ρ) = .ok d := rfl
@[simp] theorem vVar_28 (x0 x1 x2 x3 x4 x5 x6 x7 x8 x9 x10 x11 x12 x13 x14 x15 x16 x17 x18 x19 x20 x21 x22 x23 x24 x25 x26 x27 : Option PyData) (d : PyData) (ρ : PEnv) : vVar 28 (x0 :: x1 :: x2 :: x3 :: x4 :: x5 :: x6 :: x7 :: x8 :: x9 :: x10 :: x11 :: x12 :: x13 :: x14 :: x15 :: x16 :: x17 :: x18 :: x19 :: x20 :: x21 :: x22 :: x23 :: x24 :: x25 :: x26 :: x27 :: some d :: ρ) = .ok d := rfl
@[simp] theorem vVar_29 (x0 x1 x2 x3 x4 x5 x6 x7 x8 x9 x10 x11 x12 x13 x14 x15 x16 x17 x18 x19 x20 x21 x22 x23 x24 x25 x26 x27 x28 : Option PyData) (d : PyData) (ρ : PEnv) : vVar 29 (x0 :: x1 :: x2 :: x3 :: x4 :: x5 :: x6 :: x7 :: x8 :: x9 :: x10 :: x11 :: x12 :: x13 :: x14 :: x15 :: x16 :: x17 :: x18 :: x19 :: x20 :: x21 :: x22 :: x23 :: x24 :: x25 :: x26 :: x27 :: x28 :: some d :: ρ) = .ok d := rfl
def Sm (n : Nat) (a : Int) : Prop := a.natAbs < 2 ^ n
theorem Sm.mono {m n : Nat} {a : Int} (h : Sm m a) (l : m ≤ n) : Sm n a := Nat.lt_of_lt_of_le h (Nat.pow_le_pow_right (by omega) l)
theorem Sm.neg {n : Nat} {a : Int} (h : Sm n a) : Sm n (-a) := by unfold Sm at *; rw [Int.natAbs_neg]; exact h
theorem Sm.add {m : Nat} {a b : Int} (h : Sm m a) (g : Sm m b) : Sm (m + 1) (a + b) := by
  unfold Sm at *
  rw [Nat.pow_succ]
  have := Int.natAbs_add_le a b
  omega
theorem Sm.sub {m : Nat} {a b : Int} (h : Sm m a) (g : Sm m b) : Sm (m + 1) (a - b) := by
  rw [Int.sub_eq_add_neg]; exact h.add g.neg
theorem Sm.mul {m n : Nat} {a b : Int} (h : Sm m a) (g : Sm n b) : Sm (m + n) (a * b) := by
  unfold Sm at *
  rw [Int.natAbs_mul, Nat.pow_add]
  exact Nat.mul_lt_mul'' h g
theorem Sm.bits {n : Nat} {a : Int} (h : Sm n a) : Builtin.Int.intBits a ≤ n := by
  unfold Builtin.Int.intBits
  split
  · omega
  · rename_i h0
    have h1 : a.natAbs ≠ 0 := fun z => h0 (by simp; omega)
    have := (Nat.log2_lt h1).mpr h
    omega
theorem Sm.mulOk {m n : Nat} {a b : Int} (h : Sm m a) (g : Sm n b) (l : m + n ≤ 134217728 := by decide) : IntMulOk a b := by
  have h1 := h.bits
  have h2 := g.bits
  unfold IntMulOk Builtin.Int.intTooBig
  intro z
  rw [Bool.and_eq_true] at z
  have z2 := of_decide_eq_true z.2
  have : (bitsLine : Int) = 134217728 := by unfold bitsLine; decide
  omega
theorem vmul_sm {m n : Nat} {a b : Int} (h : Sm m a) (g : Sm n b) (l : m + n ≤ 134217728 := by decide) : vmul (.int a) (.int b) = .ok (.int (a * b)) := vmul_int (h.mulOk g l)
end VL

namespace VL
open PySem PySem.Spec PyProof.Rows
theorem atI_nat {α : Type} (xs : List α) (k : Nat) : L2.atI xs (k : Int) = xs[k]? := by
  unfold L2.atI L2.ixN
  by_cases h : k < xs.length
  · simp [h]
  · simp [h]
theorem vidx_list {xs : List PyData} {k : Nat} {d : PyData} (h : xs[k]? = some d) : vidx (.list xs) (.int (k : Int)) = .ok d := by
  simp only [vidx, atI_nat, h]
theorem vidx_tuple {xs : List PyData} {k : Nat} {d : PyData} (h : xs[k]? = some d) : vidx (.tuple xs) (.int (k : Int)) = .ok d := by
  simp only [vidx, atI_nat, h]
@[simp] theorem vidx_list_0 (a : PyData) (xs : List PyData) : vidx (.list (a :: xs)) (.int 0) = .ok a := vidx_list (k := 0) rfl
@[simp] theorem vidx_list_1 (a b : PyData) (xs : List PyData) : vidx (.list (a :: b :: xs)) (.int 1) = .ok b := vidx_list (k := 1) rfl
@[simp] theorem vidx_list_2 (a b c : PyData) (xs : List PyData) : vidx (.list (a :: b :: c :: xs)) (.int 2) = .ok c := vidx_list (k := 2) rfl
@[simp] theorem vidx_list_3 (a b c d : PyData) (xs : List PyData) : vidx (.list (a :: b :: c :: d :: xs)) (.int 3) = .ok d := vidx_list (k := 3) rfl
@[simp] theorem vidx_list_4 (a b c d e : PyData) (xs : List PyData) : vidx (.list (a :: b :: c :: d :: e :: xs)) (.int 4) = .ok e := vidx_list (k := 4) rfl
@[simp] theorem vidx_list_5 (a b c d e f : PyData) (xs : List PyData) : vidx (.list (a :: b :: c :: d :: e :: f :: xs)) (.int 5) = .ok f := vidx_list (k := 5) rfl
@[simp] theorem vidx_tuple_0 (a : PyData) (xs : List PyData) : vidx (.tuple (a :: xs)) (.int 0) = .ok a := vidx_tuple (k := 0) rfl
@[simp] theorem vidx_tuple_1 (a b : PyData) (xs : List PyData) : vidx (.tuple (a :: b :: xs)) (.int 1) = .ok b := vidx_tuple (k := 1) rfl
@[simp] theorem vidx_tuple_2 (a b c : PyData) (xs : List PyData) : vidx (.tuple (a :: b :: c :: xs)) (.int 2) = .ok c := vidx_tuple (k := 2) rfl
@[simp] theorem vidx_tuple_3 (a b c d : PyData) (xs : List PyData) : vidx (.tuple (a :: b :: c :: d :: xs)) (.int 3) = .ok d := vidx_tuple (k := 3) rfl
@[simp] theorem vidx_tuple_4 (a b c d e : PyData) (xs : List PyData) : vidx (.tuple (a :: b :: c :: d :: e :: xs)) (.int 4) = .ok e := vidx_tuple (k := 4) rfl
theorem rngOk_nat {n : Nat} (h : n ≤ 16777216) : rngOk 0 (n : Int) := by unfold rngOk; omega
@[simp] theorem vrange1_nat {n : Nat} (h : n ≤ 16777216) : vrange1 (.int (n : Int)) = .ok (rangeD 0 n) := by
  rw [vrange1_int, if_pos (rngOk_nat h)]; simp
theorem sm_of {n : Nat} {a : Int} (h : -(2 ^ n : Int) < a ∧ a < 2 ^ n) : Sm n a := by
  unfold Sm
  have e : ((2 ^ n : Nat) : Int) = 2 ^ n := by simp
  omega
theorem Sm.lit {n : Nat} {a : Int} (h : a.natAbs < 2 ^ n := by decide) : Sm n a := h
theorem szL : sizeLine = 16777216 := by with_unfolding_all rfl
end VL

namespace VL
open PySem PySem.Spec PyProof.Rows
@[simp] theorem gT_ap (k : List PyData → R (List (Nat × PyData))) (xs : List PyData) : gT k (.tuple xs) = k xs := rfl
@[simp] theorem gT_apL (k : List PyData → R (List (Nat × PyData))) (xs : List PyData) : gT k (.list xs) = k xs := rfl
@[simp] theorem gC_ap (g : PyData → R (List (Nat × PyData))) (h : List PyData → R (List (Nat × PyData))) (d : PyData) (ds : List PyData) : gC g h (d :: ds) = (g d).bind fun bs => (h ds).bind fun cs => .ok (bs ++ cs) := rfl
@[simp] theorem gE_ap : gE [] = .ok [] := rfl
class Bd (a : Int) (n : outParam Nat) : Prop where
  h : Sm n a
instance bd_add {a b : Int} {m n : Nat} [ha : Bd a m] [hb : Bd b n] : Bd (a + b) (max m n + 1) := ⟨(ha.h.mono (Nat.le_max_left m n)).add (hb.h.mono (Nat.le_max_right m n))⟩
instance bd_sub {a b : Int} {m n : Nat} [ha : Bd a m] [hb : Bd b n] : Bd (a - b) (max m n + 1) := ⟨(ha.h.mono (Nat.le_max_left m n)).sub (hb.h.mono (Nat.le_max_right m n))⟩
instance bd_mul {a b : Int} {m n : Nat} [ha : Bd a m] [hb : Bd b n] : Bd (a * b) (m + n) := ⟨ha.h.mul hb.h⟩
instance bd_neg {a : Int} {m : Nat} [ha : Bd a m] : Bd (-a) m := ⟨ha.h.neg⟩
instance bd_ite {p : Prop} [Decidable p] {a b : Int} {m n : Nat} [ha : Bd a m] [hb : Bd b n] : Bd (if p then a else b) (max m n) := ⟨by
  split
  · exact ha.h.mono (Nat.le_max_left m n)
  · exact hb.h.mono (Nat.le_max_right m n)⟩
theorem bd_modl {a k : Int} {n : Nat} (h0 : 0 < k) (h : k < 2 ^ n) : Bd (a % k) n := ⟨by
  have a1 := Int.emod_nonneg a (b := k) (by omega)
  have a2 := Int.emod_lt_of_pos a h0
  exact sm_of ⟨by omega, by omega⟩⟩
@[simp] theorem vmul_bd {a b : Int} {m n : Nat} [ha : Bd a m] [hb : Bd b n] (h : m + n ≤ 134217728) : vmul (.int a) (.int b) = .ok (.int (a * b)) := vmul_sm ha.h hb.h h
end VL

namespace VL
open PySem PySem.Spec PyProof.Rows
def okS : Nat → PyData → Prop
  | 0, _ => False
  | _ + 1, .none => True
  | _ + 1, .bool _ => True
  | _ + 1, .int _ => True
  | _ + 1, .str s => PyData.strOk s = true
  | n + 1, .list xs => xs.length ≤ 16777216 ∧ ∀ x ∈ xs, okS n x
  | n + 1, .tuple xs => xs.length ≤ 16777216 ∧ ∀ x ∈ xs, okS n x
  | _ + 1, .dict _ => False
theorem all_lay {n : Nat} (ih : ∀ {d : PyData}, okS n d → d.canLay0 = true ∧ d.depth ≤ n ∧ PyData.eqv d d = true) : ∀ ys : List PyData, (∀ x ∈ ys, okS n x) → PyData.canLayAll0 ys = true ∧ PyData.depthAll ys ≤ n ∧ PyData.eqvAll ys ys = true
  | [], _ => by simp [PyData.canLayAll0, PyData.depthAll, PyData.eqvAll]
  | y :: ys, hy => by
    have h1 := ih (hy y List.mem_cons_self)
    have h2 := all_lay ih ys fun x hx => hy x (List.mem_cons_of_mem _ hx)
    simp only [PyData.canLayAll0, PyData.depthAll, PyData.eqvAll, Bool.and_eq_true]
    exact ⟨⟨h1.1, h2.1⟩, by omega, h1.2.2, h2.2.2⟩
theorem okS.lay : ∀ {n : Nat} {d : PyData}, okS n d → d.canLay0 = true ∧ d.depth ≤ n ∧ PyData.eqv d d = true
  | 0, _, h => h.elim
  | n + 1, .none, _ => by simp [PyData.canLay0, PyData.depth, PyData.eqv]
  | n + 1, .bool _, _ => by simp [PyData.canLay0, PyData.depth, PyData.eqv]
  | n + 1, .int _, _ => by simp [PyData.canLay0, PyData.depth, PyData.eqv]
  | n + 1, .str s, h => by simp only [PyData.canLay0, PyData.depth, PyData.eqv]; exact ⟨h, Nat.zero_le _, by simp⟩
  | n + 1, .list xs, h => by
    have := all_lay (fun {d} => okS.lay (n := n) (d := d)) xs h.2
    simp only [PyData.canLay0, PyData.depth, PyData.eqv]
    exact ⟨this.1, by omega, this.2.2⟩
  | n + 1, .tuple xs, h => by
    have := all_lay (fun {d} => okS.lay (n := n) (d := d)) xs h.2
    simp only [PyData.canLay0, PyData.depth, PyData.eqv]
    exact ⟨this.1, by omega, this.2.2⟩
theorem okS.shaped {n : Nat} {d : PyData} (h : okS n d) (hn : n ≤ 64 := by decide) : SeqAt.shaped d = true := by
  have := h.lay
  unfold SeqAt.shaped
  rw [this.1, decide_eq_true (show d.depth ≤ 64 by omega)]
  rfl
theorem vEq_ok {m n : Nat} {d e : PyData} (h : okS m d) (g : okS n e) (hm : m ≤ 64 := by decide) (hn : n ≤ 64 := by decide) : vEq d e = .ok (PyData.eqv d e) := if_pos ⟨h.shaped hm, g.shaped hn⟩
@[simp] theorem veq_strS {a b : Str} (ha : PyData.strOk a = true) (hb : PyData.strOk b = true) : veq (.str a) (.str b) = .ok (.bool (decide (a = b))) := veq_str ha hb
@[simp] theorem vne_strS {a b : Str} (ha : PyData.strOk a = true) (hb : PyData.strOk b = true) : vne (.str a) (.str b) = .ok (.bool (!decide (a = b))) := vne_str ha hb
theorem ixN_nat {n j : Nat} (h : j < n) : L2.ixN n (j : Int) = some j := by unfold L2.ixN; simp [h]
@[simp] theorem vcomp_ap (own : List Nat) (fi : PEnv → R (List PyData)) (kt : PyData → R (List (Nat × PyData))) (ft : PEnv → R Bool) (fe : PEnv → R PyData) (ρ : PEnv) : vcomp own fi kt ft fe ρ = (fi ρ).bind fun ds => (compL kt ft fe (wipeD ρ own) ds).calm := rfl
@[simp] theorem vadd_list {xs ys : List PyData} (h : xs.length + ys.length ≤ 16777216) : vadd (.list xs) (.list ys) = .ok (.list (xs ++ ys)) := if_pos (by rw [szL]; exact h)
@[simp] theorem vadd_tuple {xs ys : List PyData} (h : xs.length + ys.length ≤ 16777216) : vadd (.tuple xs) (.tuple ys) = .ok (.tuple (xs ++ ys)) := if_pos (by rw [szL]; exact h)
end VL

namespace VL
open PySem PySem.Spec PyProof.Rows L2
structure ExcF (K : PySem.W.Frag) (mg : Str → Option Value) (x : Str) (C : Addr) : Prop where
  xF : PySem.W.excIn K C [.type "ValueError", .type "Exception", .type "BaseException", .type "object"] "ValueError.__new__" = true
  gF : mg x = some (.ref C)
  kF : PySem.W.keepIn K (.ref C) = true
  bF : PySem.W.subIn K (.ref C) (.type "BaseException") = some true
  tF : PySem.W.typeIn K (.ref C) = some (.type "type")
def sRaise (c : Str) : OEnv → SR := fun ρ => .err c ρ
@[simp] theorem sRaise_ap (c : Str) (ρ : OEnv) : sRaise c ρ = .err c ρ := rfl
theorem vs_raise {X : Cx} {W : WX} {x m : Str} {j : Nat} {p p2 pos pos2 : Pos} {C : Addr} (hc : X.calm = true) (tk : Takes X W) (E : ExcF X.K X.mg x C) (hg : Gl X x := by rfl) (hdb : (x == ("__debug__" : Str)) = false := by decide) :
    VS X W (.Raise (some (.Call (.Name x p) [.Constant (.str m) j p2] [] pos)) none pos2) (sRaise x) := by
  refine ⟨_, ps_raise hc tk (pmk_own PySem.F.excBase_ValueError E.xF E.gF E.kF (raises_own E.bF E.tF) hg hdb), fun D σ H F0 H0 F ρ r pr => ?_⟩
  obtain ⟨C', e, w⟩ := pr σ H F r
  rw [E.gF] at e
  cases e
  exact w
end VL

namespace VL
open PySem PySem.Spec PyProof.Rows L2
def tVS (X : Cx) (W : WX) (g : OEnv → SR) : TS := fun D σ H => ∃ F0 H0 F ρ, RS X.K F0 H0 F H σ ρ ∧ SPst X W F0 H0 D (g ρ)
theorem VSs.pss {X : Cx} {W : WX} {sts : List Stmt} {g : OEnv → SR} (h : VSs X W sts g) : PSs X sts (tVS X W g) := by
  obtain ⟨t, p, q⟩ := h.ex
  exact ⟨fun pins s σ H D I ⟨F0, H0, F, ρ, r, z⟩ => p.run pins s σ H D I (q D σ H F0 H0 F ρ r z)⟩
def excD (a : Addr) (c : Str) : PyData := .dict [(.none, .int (a : Int)), (.none, .str c)]
noncomputable def anyA (g : Addr → SR) : SR := open Classical in if h : ∃ r, ∀ a, g a = r then Classical.choose h else .stuck
def SR.unset (i : Nat) : SR → SR
  | .nx ρ => .nx (ρ.set i none)
  | .bk ρ => .bk (ρ.set i none)
  | .ct ρ => .ct (ρ.set i none)
  | .rt o _ => .rt o []
  | _ => .stuck
@[simp] theorem unset_nx (i : Nat) (ρ : OEnv) : SR.unset i (.nx ρ) = .nx (ρ.set i none) := rfl
@[simp] theorem unset_bk (i : Nat) (ρ : OEnv) : SR.unset i (.bk ρ) = .bk (ρ.set i none) := rfl
@[simp] theorem unset_ct (i : Nat) (ρ : OEnv) : SR.unset i (.ct ρ) = .ct (ρ.set i none) := rfl
@[simp] theorem unset_rt (i : Nat) (o : O) (ρ : OEnv) : SR.unset i (.rt o ρ) = .rt o [] := rfl
noncomputable def catchA (tb : Str → Option Bool) (i : Nat) (gs : Addr → Str → OEnv → SR) : SR → SR
  | .err c ρ => match tb c with
    | some true => anyA fun a => (gs a c (ρ.set i (some (.fz (excD a c))))).unset i
    | some false => .err c ρ
    | none => .stuck
  | r => r
noncomputable def sTryAs (gb : OEnv → SR) (tb : Str → Option Bool) (i : Nat) (gs : Addr → Str → OEnv → SR) : OEnv → SR := fun ρ => catchA tb i gs (gb ρ)
@[simp] theorem sTryAs_ap (gb : OEnv → SR) (tb : Str → Option Bool) (i : Nat) (gs : Addr → Str → OEnv → SR) (ρ : OEnv) : sTryAs gb tb i gs ρ = catchA tb i gs (gb ρ) := rfl
@[simp] theorem catchA_nx (tb : Str → Option Bool) (i : Nat) (gs : Addr → Str → OEnv → SR) (ρ : OEnv) : catchA tb i gs (.nx ρ) = .nx ρ := rfl
@[simp] theorem catchA_rt (tb : Str → Option Bool) (i : Nat) (gs : Addr → Str → OEnv → SR) (o : O) (ρ : OEnv) : catchA tb i gs (.rt o ρ) = .rt o ρ := rfl
@[simp] theorem catchA_ct (tb : Str → Option Bool) (i : Nat) (gs : Addr → Str → OEnv → SR) (ρ : OEnv) : catchA tb i gs (.ct ρ) = .ct ρ := rfl
@[simp] theorem catchA_bk (tb : Str → Option Bool) (i : Nat) (gs : Addr → Str → OEnv → SR) (ρ : OEnv) : catchA tb i gs (.bk ρ) = .bk ρ := rfl
structure HTab (K : PySem.W.Frag) (mg : Str → Option Value) (x : Str) (tb : Str → Option Bool) : Prop where
  ex : ∃ c, mg x = some c ∧ ∀ cn b, tb cn = some b → ∃ C, mg cn = some (.ref C) ∧ PySem.W.exmOne K (.ref C) c = some b
theorem RS.only {K : PySem.W.Frag} {F0 H0 F H : Hp} {σ : L2.St} {ρ : OEnv} {v : V} {o : O} (r : RS K F0 H0 F H (some v :: σ) (some o :: ρ)) : RS K F0 H0 F H [some v] [some o] := by
  obtain ⟨fp, h1, h2⟩ := r.head
  exact ⟨fp ++ [], .ow h1 .nil, by rw [List.append_nil]; exact h2⟩
section
variable {X : Cx} {W : WX} {body suite : List Stmt} {b₀ : Stmt} {np pos pos' : Pos} {x n : Str} {gb : OEnv → SR} {gs : Addr → Str → OEnv → SR} {tb : Str → Option Bool}
noncomputable def catchO (tb : Str → Option Bool) (gs : OEnv → SR) : SR → SR
  | .err c ρ => match tb c with
    | some true => (match gs ρ with
      | .err _ _ => .stuck
      | r => r)
    | some false => .err c ρ
    | none => .stuck
  | r => r
noncomputable def sTryO (gb : OEnv → SR) (tb : Str → Option Bool) (gs : OEnv → SR) : OEnv → SR := fun ρ => catchO tb gs (gb ρ)
@[simp] theorem sTryO_ap (gb : OEnv → SR) (tb : Str → Option Bool) (gs : OEnv → SR) (ρ : OEnv) : sTryO gb tb gs ρ = catchO tb gs (gb ρ) := rfl
@[simp] theorem catchO_nx (tb : Str → Option Bool) (gs : OEnv → SR) (ρ : OEnv) : catchO tb gs (.nx ρ) = .nx ρ := rfl
@[simp] theorem catchO_rt (tb : Str → Option Bool) (gs : OEnv → SR) (o : O) (ρ : OEnv) : catchO tb gs (.rt o ρ) = .rt o ρ := rfl
@[simp] theorem catchO_ct (tb : Str → Option Bool) (gs : OEnv → SR) (ρ : OEnv) : catchO tb gs (.ct ρ) = .ct ρ := rfl
@[simp] theorem catchO_bk (tb : Str → Option Bool) (gs : OEnv → SR) (ρ : OEnv) : catchO tb gs (.bk ρ) = .bk ρ := rfl
theorem vs_tryO {gs : OEnv → SR} (hs : X.stack = X.env :: X.outer) (hf : X.env.frame = some X.env.locals) (tk : Takes X W) (T : HTab X.K X.mg x tb)
    (hb : ∀ (W' : WX) (pn : List (Addr × Obj)) (xe : Value → Shared → Prop), Takes (X.tr pn xe) W' → PassesOwn (model X.prog X.w) X.A X.env xe → VSs (X.tr pn xe) W' body gb)
    (hsu : ∀ (a : Addr) (oe : Obj) (pn : List (Addr × Obj)), VSs (X.suite a ((a, oe) :: pn)) W0 (b₀ :: suite) gs)
    (hg : Gl X x := by rfl) (hdb : (x == ("__debug__" : Str)) = false := by decide) :
    VS X W (.Try body [.ExceptHandler (some (.Name x np)) none (b₀ :: suite) pos'] [] [] pos) (sTryO gb tb gs) := by
  obtain ⟨c, hm, tab⟩ := T.ex
  refine ⟨_, ps_try_only (c := c) (tb := fun W' => tVS X W' gb) (ts := fun a cls d => tVS X W0 gs) (Wout := W) hs hf ⟨hg, hdb, .inl hm⟩ tk
    (fun W' pn xe tk' hp => (hb W' pn xe tk' hp).pss) (fun a oe cls d pn hz hfd => (hsu a oe pn).pss), fun D σ H F0 H0 F ρ r pr => ?_⟩
  refine ⟨F0, H0, F, ρ, r, ?_⟩
  unfold sTryO at pr
  generalize gb ρ = rr at pr ⊢
  cases rr with
  | stuck => exact pr
  | nx ρ' => exact pr
  | bk ρ' => exact pr
  | ct ρ' => exact pr
  | rt o _ => exact pr
  | err cn ρ' =>
    intro σ' H' F' r'
    simp only [catchO] at pr
    cases ht : tb cn with
    | none => rw [ht] at pr; exact pr.elim
    | some b =>
      obtain ⟨C, hC, he⟩ := tab cn b ht
      rw [ht] at pr
      cases b with
      | false =>
        obtain ⟨C', hC', hw⟩ := pr σ' H' F' r'
        exact ⟨C', hC', false, by rw [hC] at hC'; cases hC'; exact he, fun z => (nomatch z), fun _ => hw⟩
      | true =>
        refine ⟨C, hC, true, he, fun _ a na => ⟨F0, H0, F', _, r', ?_⟩, fun z => (nomatch z)⟩
        simp only [] at pr
        generalize gs ρ' = rs at pr ⊢
        cases rs with
        | stuck => exact pr.elim
        | err c ρ => exact pr.elim
        | nx ρ3 => exact pr
        | bk ρ3 => exact pr
        | ct ρ3 => exact pr
        | rt o _ => exact pr
end
def vIsE (a : Addr) (cn : Str) (tb : Str → Option Bool) : PyData → R PyData
  | .dict [(.none, .int a'), (.none, .str c')] => if a' = (a : Int) ∧ c' = cn then (match tb cn with | some b => .ok (.bool b) | none => .stuck) else .stuck
  | _ => .stuck
@[simp] theorem vIsE_ap (a : Addr) (cn : Str) (tb : Str → Option Bool) : vIsE a cn tb (excD a cn) = match tb cn with | some b => .ok (.bool b) | none => .stuck := by
  simp [vIsE, excD]
structure ITab (K : PySem.W.Frag) (mg : Str → Option Value) (x : Str) (cv : Value) (tb : Str → Option Bool) : Prop where
  kt : ∀ cn D b, mg cn = some (.ref D) → tb cn = some b → ExcC K D ∧ PySem.W.kitOne K (.ref D) cv = some b
theorem tab_of {P : Str → Bool → Prop} {l : List (Str × Bool)} (h : ∀ p ∈ l, P p.1 p.2) : ∀ cn b, l.lookup cn = some b → P cn b := by
  induction l with
  | nil => intro cn b e; cases e
  | cons p l ih =>
    intro cn b e
    rw [List.lookup_cons] at e
    split at e
    · rename_i hb
      cases e
      rw [show cn = p.1 from by simpa using hb]
      exact h p List.mem_cons_self
    · exact ih (fun q hq => h q (List.mem_cons_of_mem _ hq)) cn b e
section
variable {X : Cx} {W : WX} {a : Addr} {oe : Obj} {pn : List (Addr × Obj)} {C : Addr} {cn : Str} {ea : Expr} {fa : PEnv → R PyData}
end
end VL

namespace VL
open PySem PySem.Spec PyProof.Rows
theorem vin_ok {m n : Nat} {d : PyData} {ds : List PyData} (h : okS m d) (g : okS n (.list ds)) (hm : m ≤ 64 := by decide) (hn : n ≤ 64 := by decide) : vin d (.list ds) = .ok (ds.any fun z => PyData.eqv z d) := if_pos ⟨h.shaped hm, g.shaped hn⟩
theorem vIn_ok {m n : Nat} {d : PyData} {ds : List PyData} (h : okS m d) (g : okS n (.list ds)) (hm : m ≤ 64 := by decide) (hn : n ≤ 64 := by decide) : vIn d (.list ds) = .ok (.bool (ds.any fun z => PyData.eqv z d)) := by
  unfold vIn; rw [vin_ok h g hm hn]; rfl
theorem vNotIn_ok {m n : Nat} {d : PyData} {ds : List PyData} (h : okS m d) (g : okS n (.list ds)) (hm : m ≤ 64 := by decide) (hn : n ≤ 64 := by decide) : vNotIn d (.list ds) = .ok (.bool (!ds.any fun z => PyData.eqv z d)) := by
  unfold vNotIn; rw [vin_ok h g hm hn]; rfl
@[simp] theorem vcut_list (lo hi : Option Int) (xs : List PyData) : vcut lo hi (.list xs) = .ok (.list (cutL xs lo hi)) := rfl
@[simp] theorem vcut_tuple (lo hi : Option Int) (xs : List PyData) : vcut lo hi (.tuple xs) = .ok (.tuple (cutL xs lo hi)) := rfl
theorem cut_from (xs : List PyData) (k : Nat) : cutL xs (some (k : Int)) none = xs.drop k := by
  unfold cutL
  rw [HT.sIx_nat, HT.sIx_none]
  by_cases h : k ≤ xs.length
  · rw [Nat.min_eq_left h, List.take_of_length_le (by rw [List.length_drop]; omega)]
  · rw [Nat.min_eq_right (by omega), List.drop_length, List.drop_of_length_le (by omega), List.take_nil]
@[simp] theorem cut_1 (x : PyData) (xs : List PyData) : cutL (x :: xs) (some 1) none = xs := cut_from (x :: xs) 1
theorem okS.mono : ∀ {m n : Nat} {d : PyData}, m ≤ n → okS m d → okS n d
  | 0, _, _, _, h => h.elim
  | _ + 1, 0, _, hl, _ => absurd hl (by omega)
  | m + 1, n + 1, .none, _, _ => trivial
  | m + 1, n + 1, .bool _, _, _ => trivial
  | m + 1, n + 1, .int _, _, _ => trivial
  | m + 1, n + 1, .str _, _, h => h
  | m + 1, n + 1, .list xs, hl, h => ⟨h.1, fun x hx => okS.mono (by omega) (h.2 x hx)⟩
  | m + 1, n + 1, .tuple xs, hl, h => ⟨h.1, fun x hx => okS.mono (by omega) (h.2 x hx)⟩
  | m + 1, n + 1, .dict _, _, h => h.elim
end VL

namespace VL
open PySem PySem.Spec PyProof.Rows L2
section
variable {X : Cx} {W : WX} {a b c e : Expr} {pos : Pos} {fa fb fc : PEnv → R PyData} {ho : OEnv → R (O × OEnv)} {k : Nat}
def vmax3 : List PyData → R PyData
  | [.int i, .int j, .int k] => .ok (.int (max (max i j) k))
  | _ => .stuck
def vmin3 : List PyData → R PyData
  | [.int i, .int j, .int k] => .ok (.int (min (min i j) k))
  | _ => .stuck
@[simp] theorem vmax3_ap (i j k : Int) : vmax3 [.int i, .int j, .int k] = .ok (.int (max (max i j) k)) := rfl
@[simp] theorem vmin3_ap (i j k : Int) : vmin3 [.int i, .int j, .int k] = .ok (.int (min (min i j) k)) := rfl
def lcat : PyData → PyData → R (List PyData)
  | .list xs, .list ys => if xs.length + ys.length ≤ sizeLine then .ok (xs ++ ys) else .stuck
  | _, _ => .stuck
def fcat (f g : PEnv → R PyData) : PEnv → R (List PyData) := fun ρ => (f ρ).bind fun d => (g ρ).bind fun e => lcat d e
@[simp] theorem fcat_ap (f g : PEnv → R PyData) (ρ : PEnv) : fcat f g ρ = (f ρ).bind fun d => (g ρ).bind fun e => lcat d e := rfl
@[simp] theorem lcat_list {xs ys : List PyData} (h : xs.length + ys.length ≤ 16777216) : lcat (.list xs) (.list ys) = .ok (xs ++ ys) := if_pos (by rw [szL]; exact h)
def lcut (lo hi : Option Int) : PyData → R (List PyData)
  | .list xs => .ok (cutL xs lo hi)
  | _ => .stuck
def fslice (f : PEnv → R PyData) (l u : PEnv → R (Option Int)) : PEnv → R (List PyData) := fun ρ => (f ρ).bind fun d => (l ρ).bind fun lo => (u ρ).bind fun hi => lcut lo hi d
@[simp] theorem fslice_ap (f : PEnv → R PyData) (l u : PEnv → R (Option Int)) (ρ : PEnv) : fslice f l u ρ = (f ρ).bind fun d => (l ρ).bind fun lo => (u ρ).bind fun hi => lcut lo hi d := rfl
@[simp] theorem lcut_list (lo hi : Option Int) (xs : List PyData) : lcut lo hi (.list xs) = .ok (cutL xs lo hi) := rfl
end
end VL

namespace VL
open PySem PySem.Spec PyProof.Rows L2
theorem RS.push {K : PySem.W.Frag} {F0 H0 F H F' H' : Hp} {σ : L2.St} {ρ : OEnv} {v : V} {o : O} (r : RS K F0 H0 F H σ ρ) (q : RV K F H F' H' v o) : RS K F0 H0 F' H' (some v :: σ) (some o :: ρ) := by
  obtain ⟨fps, s, hs⟩ := r.ex
  obtain ⟨fp, ow, h1⟩ := q
  have lst := s.lstAt
  refine ⟨fp ++ fps, .ow ow (s.keep h1.f0 fun a ha => ?_), ?_, fun a ha => ?_, h1.fh, hs.f0.trans h1.f0, hs.h0.trans h1.h0, fun a z1 z2 => ?_⟩
  · obtain ⟨vs, z, _⟩ := lst a ha
    rw [z]; exact h1.h0 _ _ z
  · refine List.nodup_append.mpr ⟨h1.nd, hs.nd, fun a ha b hb e => ?_⟩
    subst e
    obtain ⟨vs, z, _⟩ := lst a hb
    rw [(h1.ow a ha).2] at z
    cases z
  · rcases List.mem_append.mp ha with m | m
    · exact ⟨(h1.ow a m).1, Same.free hs.h0 (h1.ow a m).2⟩
    · refine ⟨?_, (hs.ow a m).2⟩
      obtain ⟨vs, z, zt⟩ := lst a m
      cases q : F' a with
      | none => rfl
      | some u =>
        have := h1.nw a (hs.ow a m).1 (by rw [q]; exact fun w => nomatch w)
        exact (this.no z zt.1).elim
  · cases q : F a with
    | some u => exact hs.nw a z1 (by rw [q]; exact fun w => nomatch w)
    | none => exact (h1.nw a q z2).back hs.h0
section
variable {X : Cx} {W : WX} {a b c e : Expr} {es : List Expr} {pos : Pos} {hx : OEnv → R PyData} {k : Nat}
def oCall (g : List PyData → R O) (fa : PEnv → R (List PyData)) : OEnv → R (O × OEnv) := fun ρ => (fa (viewF ρ)).bind fun ds => (g ds).bind fun o => .ok (o, ρ)
@[simp] theorem oCall_ap (g : List PyData → R O) (fa : PEnv → R (List PyData)) (ρ : OEnv) : oCall g fa ρ = (fa (viewF ρ)).bind fun ds => (g ds).bind fun o => .ok (o, ρ) := rfl
theorem OwnL.pick {K : PySem.W.Frag} {F H : Hp} : ∀ {os : List O} {vs : List V} {fp : List Addr} {j : Nat} {o : O}, OwnL K F H vs os fp → os[j]? = some o → ∃ y f1 f2, vs[j]? = some y ∧ Own K F H y o f1 ∧ OwnL K F H (vs.eraseIdx j) (os.eraseIdx j) f2 ∧ fp.Perm (f1 ++ f2)
  | [], _, _, _, _, h, e => by simp at e
  | p :: os, _, _, 0, o, h, e => by
    cases h with
    | @cons v vs _ _ f1 f2 h1 h2 =>
      simp at e
      subst e
      exact ⟨v, f1, f2, rfl, h1, h2, .refl _⟩
  | p :: os, _, _, j + 1, o, h, e => by
    cases h with
    | @cons v vs _ _ f1 f2 h1 h2 =>
      obtain ⟨y, g1, g2, z1, z2, z3, z4⟩ := OwnL.pick (j := j) h2 (by simpa using e)
      refine ⟨y, g1, f1 ++ g2, by simpa using z1, z2, .cons h1 z3, ?_⟩
      refine (List.Perm.append_left f1 z4).trans ?_
      rw [← List.append_assoc, ← List.append_assoc]
      exact List.Perm.append_right _ List.perm_append_comm
theorem RS.take {K : PySem.W.Frag} {F0 H0 F H : Hp} {σ : L2.St} {ρ : OEnv} {i j : Nat} {os : List O} {o : O} (r : RS K F0 H0 F H σ ρ) (ei : ρ[i]? = some (some (.lst os))) (ej : os[j]? = some o) :
    ∃ a vs y, σ[i]? = some (some (.ref a)) ∧ H a = some (.lst vs) ∧ vs.length = os.length ∧ vs[j]? = some y ∧ RS K F0 H0 F (upd H a (.lst (vs.eraseIdx j))) (some y :: σ) (some o :: ρ.set i (some (.lst (os.eraseIdx j)))) := by
  obtain ⟨fps, s, hs⟩ := r.ex
  obtain ⟨v, fp, fpr, e1, e2, e3, e4, e5⟩ := s.split ei
  cases e2 with
  | @lst a vs _ fpi ha hl =>
    obtain ⟨y, g1, g2, z1, z2, z3, z4⟩ := hl.pick ej
    refine ⟨a, vs, y, e1, ha, hl.len, z1, ?_⟩
    have hp : Hs F0 H0 F H ((a :: (g1 ++ g2)) ++ fpr) := (hs.perm e3).perm (List.Perm.append_right fpr (List.Perm.cons a z4))
    have nd := List.nodup_append.mp hp.nd
    have na := List.nodup_cons.mp nd.1
    have na_r : a ∉ fpr := fun m => nd.2.2 a List.mem_cons_self a m rfl
    have hk : ∀ c, c ≠ a → upd H a (.lst (vs.eraseIdx j)) c = H c := fun c hc => upd_ne hc
    have l1 : Own K F (upd H a (.lst (vs.eraseIdx j))) y o g1 := z2.keep (Same.refl F) fun c hc => hk c fun e => na.1 (e ▸ List.mem_append_left _ hc)
    have l2 : OwnL K F (upd H a (.lst (vs.eraseIdx j))) (vs.eraseIdx j) (os.eraseIdx j) g2 := z3.keep (Same.refl F) fun c hc => hk c fun e => na.1 (e ▸ List.mem_append_right _ hc)
    obtain ⟨fps', w1, w2⟩ := e5 F (upd H a (.lst (vs.eraseIdx j))) (.ref a) (.lst (os.eraseIdx j)) (a :: g2) (.lst upd_same l2) (Same.refl F) fun c hc => hk c fun e => na_r (e ▸ hc)
    rw [set_same e1] at w1
    have an : F a = none ∧ H0 a = none := hp.ow a (List.mem_append_left _ List.mem_cons_self)
    have base : Hs F0 H0 F (upd H a (.lst (vs.eraseIdx j))) ((a :: (g1 ++ g2)) ++ fpr) := ⟨hp.nd, hp.ow, fun c u q => by
      rw [hk c (fun e => by rw [e, an.1] at q; cases q)]; exact hp.fh _ _ q, hp.f0, fun c u q => by
      rw [hk c (fun e => by rw [e, an.2] at q; cases q)]; exact hp.h0 _ _ q, hp.nw⟩
    refine ⟨g1 ++ fps', .ow l1 w1, base.perm ?_⟩
    have p1 : ((a :: (g1 ++ g2)) ++ fpr).Perm (g1 ++ ((a :: g2) ++ fpr)) := by
      have : ((a :: (g1 ++ g2)) ++ fpr).Perm ((g1 ++ (a :: g2)) ++ fpr) := List.Perm.append_right fpr List.perm_middle.symm
      rw [List.append_assoc] at this
      exact this
    exact p1.trans (List.Perm.append_left g1 w2.symm)
def oPop (i : Nat) : OEnv → R (O × OEnv) := fun ρ => match ρ[i]? with
  | some (some (.lst os)) => (match os[os.length - 1]? with
    | some o => .ok (o, ρ.set i (some (.lst (os.eraseIdx (os.length - 1)))))
    | none => .stuck)
  | _ => .stuck
theorem vo_pop (i : Nat) {x : Str} {p1 p2 p3 : Pos} (mk : PE X (.Call (.Attribute (.Name x p1) "pop" p2) [] [] p3) (tBM0 X.K "list" rPop (tVar i))) :
    VO X W (.Call (.Attribute (.Name x p1) "pop" p2) [] [] p3) (oPop i) := by
  refine ⟨_, mk, fun σ H F0 H0 F ρ Q r pr => ?_⟩
  unfold oPop at pr
  split at pr
  · rename_i os e0
    split at pr
    · rename_i o eo
      obtain ⟨ad, vs, y, e1, e2, e3, e4, r2⟩ := r.take e0 eo
      refine ⟨.ref ad, e1, .inl ⟨rfl, _, .inl (.inl e2)⟩, ad, vs, y, rfl, rfl, e2, by rw [e3]; exact e4, ?_⟩
      have : vs.dropLast = vs.eraseIdx (os.length - 1) := by rw [← e3, List.eraseIdx_length_sub_one]
      rw [this]
      exact pr y _ F r2
    · exact pr.elim
  · exact pr.elim
theorem erase_map {α β : Type} (f : α → β) : ∀ (l : List α) (m : Nat), (l.map f).eraseIdx m = (l.eraseIdx m).map f
  | [], _ => rfl
  | _ :: _, 0 => rfl
  | x :: l, m + 1 => by
    show f x :: (l.map f).eraseIdx m = f x :: (l.eraseIdx m).map f
    rw [erase_map f l m]
end
def finO : SR → R O
  | .rt o _ => .ok o
  | .nx _ => .ok (.fz .none)
  | .err c _ => .err c
  | _ => .stuck
@[simp] theorem finO_rt (o : O) (ρ : OEnv) : finO (.rt o ρ) = .ok o := rfl
@[simp] theorem finO_nx (ρ : OEnv) : finO (.nx ρ) = .ok (.fz .none) := rfl
@[simp] theorem finO_err (c : Str) (ρ : OEnv) : finO (.err c ρ) = .err c := rfl
end VL

namespace VL
open PySem PySem.Spec PyProof.Rows L2
def vindex : PyData → PyData → R PyData
  | .list ds, d => if SeqAt.shaped (.list ds) = true ∧ SeqAt.shaped d = true then (match ds.findIdx? (fun z => PyData.eqv z d) with
    | some j => .ok (.int (j : Nat))
    | none => .stuck) else .stuck
  | _, _ => .stuck
def isL : PyData → R PyData
  | .list ds => .ok (.list ds)
  | _ => .stuck
def vindexF (fa fb : PEnv → R PyData) : PEnv → R PyData := fun ρ => (fa ρ).bind fun d => (isL d).bind fun d => (fb ρ).bind fun e => vindex d e
@[simp] theorem vindexF_ap (fa fb : PEnv → R PyData) (ρ : PEnv) : vindexF fa fb ρ = (fa ρ).bind fun d => (isL d).bind fun d => (fb ρ).bind fun e => vindex d e := rfl
@[simp] theorem isL_list (ds : List PyData) : isL (.list ds) = .ok (.list ds) := rfl
section
variable {X : Cx} {W : WX} {a b : Expr} {fa fb : PEnv → R PyData} {k : Nat}
end
end VL

namespace VL
open PySem PySem.Spec PyProof.Rows L2
def lrev : PyData → R (List PyData)
  | .list xs => .ok xs.reverse
  | _ => .stuck
def frev (f : PEnv → R PyData) : PEnv → R (List PyData) := fun ρ => (f ρ).bind lrev
@[simp] theorem frev_ap (f : PEnv → R PyData) (ρ : PEnv) : frev f ρ = (f ρ).bind lrev := rfl
@[simp] theorem lrev_list (xs : List PyData) : lrev (.list xs) = .ok xs.reverse := rfl
def srtI (ns : List Int) : List Int := ns.mergeSort fun a b => decide (a ≤ b)
theorem srtI_perm (ns : List Int) : (srtI ns).Perm ns := List.mergeSort_perm ns _
theorem srtI_ord (ns : List Int) : (srtI ns).Pairwise (· ≤ ·) := by
  have := List.pairwise_mergeSort (le := fun a b : Int => decide (a ≤ b)) (fun a b c h1 h2 => by simp at *; omega) (fun a b => by simp; omega) ns
  exact this.imp fun h => by simpa using h
theorem srtI_eq {ns ms : List Int} (p : ms.Perm ns) (o : ms.Pairwise (· ≤ ·)) : ms = srtI ns :=
  List.Perm.eq_of_pairwise (fun a b _ _ h1 h2 => Int.le_antisymm h1 h2) o (srtI_ord ns) (p.trans (srtI_perm ns).symm)
def lsort : PyData → R (List PyData)
  | .list xs => (match intsOf xs with
    | some ns => .ok ((srtI ns).map .int)
    | none => .stuck)
  | _ => .stuck
def fsort (f : PEnv → R PyData) : PEnv → R (List PyData) := fun ρ => (f ρ).bind lsort
@[simp] theorem fsort_ap (f : PEnv → R PyData) (ρ : PEnv) : fsort f ρ = (f ρ).bind lsort := rfl
theorem lsort_ints (ns : List Int) : lsort (.list (ns.map .int)) = .ok ((srtI ns).map .int) := by simp only [lsort, intsOf_map]
section
variable {X : Cx} {W : WX} {a : Expr} {fa : PEnv → R PyData}
theorem vsorted_f {p pos : Pos} (hm : X.mg "sorted" = none) (ha : VE X W a fa) (hg : Gl X "sorted" := by rfl) (he : starEach [a] X.env = (false, eval a X.env) :: starEach [] X.env := by rfl) (hpl : (backTo pos (starEach [] X.env)).any (·.1) = false := by rfl) :
    VFr X W (.Call (.Name "sorted" p) [a] [] pos) (fsort fa) := by
  obtain ⟨ta, pa, qa⟩ := ha.ex
  refine ⟨_, pe_callB cr_sortedI hg hm (by decide +kernel) (pa_cons pa pa_nil he) (by decide) (by decide) he hpl, fun σ H B ρ Q s rf pr => ?_⟩
  refine one qa s rf pr fun d x H' B' ex sm dx pg => ?_
  cases dx <;> first | exact pg.elim | skip
  rename_i h1 h2
  simp only [lsort] at pg
  split at pg
  · rename_i ns hi
    rw [intsOf_some hi] at h2
    have e := is_ints h2
    subst e
    refine ⟨_, ns, rfl, .inl (Rd.mono ex.bh h1), fun ns' q hp ho hq => ?_⟩
    have e := srtI_eq hp ho
    subst e
    exact pg q _ _ B' (ex.trans (Ext.own ex.bh hq)) upd_same (Same.free ex.hh hq) (Same.free ex.bh hq) (ints_is _)
  · exact pg.elim
end
end VL

namespace VL
open PySem PySem.Spec PyProof.Rows
theorem vall_bools (bs : List Bool) : vall [.list (bs.map .bool)] = .ok (.bool (bs.all id)) := by simp only [vall, boolsOf_map]
theorem vsum_ints (ns : List Int) : vsum [.list (ns.map .int)] = .ok (.int ns.sum) := by simp only [vsum, intsOf_map]
end VL

namespace VL
open PySem PySem.Spec PyProof.Rows L2

class Enc (α : Type) where
  e : α → PyData
open Enc (e)
structure Tup (α : Type) where
  l : List α
  deriving DecidableEq
structure T1 (α : Type) where
  a : α
  deriving DecidableEq
structure T3 (α β γ : Type) where
  a : α
  b : β
  c : γ
  deriving DecidableEq
structure T4 (α β γ δ : Type) where
  a : α
  b : β
  c : γ
  d : δ
  deriving DecidableEq
structure T5 (α β γ δ ε : Type) where
  a : α
  b : β
  c : γ
  d : δ
  x : ε
  deriving DecidableEq
structure T6 (α β γ δ ε ζ : Type) where
  a : α
  b : β
  c : γ
  d : δ
  x : ε
  y : ζ
  deriving DecidableEq
structure T7 (α β γ δ ε ζ η : Type) where
  a : α
  b : β
  c : γ
  d : δ
  x : ε
  y : ζ
  z : η
  deriving DecidableEq
instance : Enc Int := ⟨.int⟩
instance : Enc Bool := ⟨.bool⟩
instance : Enc Str := ⟨.str⟩
instance : Enc Unit := ⟨fun _ => .none⟩
instance : Enc PyData := ⟨fun d => d⟩
section
variable {α β γ δ ε ζ η θ ι : Type} [Enc α] [Enc β] [Enc γ] [Enc δ] [Enc ε] [Enc ζ] [Enc η] [Enc θ] [Enc ι]
instance : Enc (List α) := ⟨fun xs => .list (xs.map Enc.e)⟩
instance : Enc (Tup α) := ⟨fun xs => .tuple (xs.l.map Enc.e)⟩
instance : Enc (T1 α) := ⟨fun p => .tuple [e p.a]⟩
instance : Enc (α × β) := ⟨fun p => .tuple [e p.1, e p.2]⟩
instance : Enc (T3 α β γ) := ⟨fun p => .tuple [e p.a, e p.b, e p.c]⟩
instance : Enc (T4 α β γ δ) := ⟨fun p => .tuple [e p.a, e p.b, e p.c, e p.d]⟩
instance : Enc (T5 α β γ δ ε) := ⟨fun p => .tuple [e p.a, e p.b, e p.c, e p.d, e p.x]⟩
instance : Enc (T6 α β γ δ ε ζ) := ⟨fun p => .tuple [e p.a, e p.b, e p.c, e p.d, e p.x, e p.y]⟩
instance : Enc (T7 α β γ δ ε ζ η) := ⟨fun p => .tuple [e p.a, e p.b, e p.c, e p.d, e p.x, e p.y, e p.z]⟩
instance : Enc (Option α) := ⟨fun o => match o with | none => .none | some a => e a⟩
end

def TQ {α γ : Type} (f : α → γ) (x : R γ) (t : R α) : Prop := match t with
  | .ok a => x = .ok (f a)
  | .err c => x = .err c
  | .stuck => True
theorem TQ.ok {α γ : Type} {f : α → γ} {x : R γ} {t : R α} {a : α} (h : TQ f x t) (e : t = .ok a) : x = .ok (f a) := by subst e; exact h
theorem TQ.er {α γ : Type} {f : α → γ} {x : R γ} {t : R α} {c : Str} (h : TQ f x t) (e : t = .err c) : x = .err c := by subst e; exact h
theorem TQ.bind {α γ α' γ' : Type} {f : α → γ} {f' : α' → γ'} {x : R γ} {t : R α} {k : γ → R γ'} {l : α → R α'} (h : TQ f x t) (hk : ∀ a, TQ f' (k (f a)) (l a)) : TQ f' (x.bind k) (t.bind l) := by
  cases t with
  | stuck => trivial
  | err c => show TQ f' (x.bind k) (.err c); rw [show x = .err c from h]; rfl
  | ok a => rw [show x = .ok (f a) from h]; exact hk a
abbrev TEq {α : Type} [Enc α] (x : R PyData) (t : R α) : Prop := TQ Enc.e x t
abbrev TL {α : Type} [Enc α] (x : R (List PyData)) (t : R (List α)) : Prop := TQ (List.map Enc.e) x t
abbrev TB (x t : R Bool) : Prop := TQ (fun b => b) x t
abbrev TO (x t : R (Option Int)) : Prop := TQ (fun b => b) x t
def b1 {α β : Type} (f : α → R β) (s : R α) : R β := s.bind f
def b2 {α β γ : Type} (f : α → β → R γ) (s : R α) (t : R β) : R γ := s.bind fun a => t.bind fun b => f a b
def b3 {α β γ δ : Type} (f : α → β → γ → R δ) (s : R α) (t : R β) (u : R γ) : R δ := s.bind fun a => t.bind fun b => u.bind fun c => f a b c
def b4 {α β γ δ ε : Type} (f : α → β → γ → δ → R ε) (s : R α) (t : R β) (u : R γ) (v : R δ) : R ε := s.bind fun a => t.bind fun b => u.bind fun c => v.bind fun d => f a b c d
def b5 {α β γ δ ε ζ : Type} (f : α → β → γ → δ → ε → R ζ) (s : R α) (t : R β) (u : R γ) (v : R δ) (w : R ε) : R ζ := s.bind fun a => t.bind fun b => u.bind fun c => v.bind fun d => w.bind fun x => f a b c d x
def b6 {α β γ δ ε ζ η : Type} (f : α → β → γ → δ → ε → ζ → R η) (s : R α) (t : R β) (u : R γ) (v : R δ) (w : R ε) (r : R ζ) : R η := s.bind fun a => t.bind fun b => u.bind fun c => v.bind fun d => w.bind fun x => r.bind fun y => f a b c d x y
def b7 {α β γ δ ε ζ η θ : Type} (f : α → β → γ → δ → ε → ζ → η → R θ) (s : R α) (t : R β) (u : R γ) (v : R δ) (w : R ε) (r : R ζ) (q : R η) : R θ := s.bind fun a => t.bind fun b => u.bind fun c => v.bind fun d => w.bind fun x => r.bind fun y => q.bind fun z => f a b c d x y z
def bite {α : Type} (c : R Bool) (s t : R α) : R α := c.bind fun b => if b then s else t
@[simp] theorem b1_ap {α β : Type} (f : α → R β) (s : R α) : b1 f s = s.bind f := rfl
@[simp] theorem b2_ap {α β γ : Type} (f : α → β → R γ) (s : R α) (t : R β) : b2 f s t = s.bind fun a => t.bind fun b => f a b := rfl
@[simp] theorem b3_ap {α β γ δ : Type} (f : α → β → γ → R δ) (s : R α) (t : R β) (u : R γ) : b3 f s t u = s.bind fun a => t.bind fun b => u.bind fun c => f a b c := rfl
@[simp] theorem b4_ap {α β γ δ ε : Type} (f : α → β → γ → δ → R ε) (s : R α) (t : R β) (u : R γ) (v : R δ) : b4 f s t u v = s.bind fun a => t.bind fun b => u.bind fun c => v.bind fun d => f a b c d := rfl
@[simp] theorem b5_ap {α β γ δ ε ζ : Type} (f : α → β → γ → δ → ε → R ζ) (s : R α) (t : R β) (u : R γ) (v : R δ) (w : R ε) : b5 f s t u v w = s.bind fun a => t.bind fun b => u.bind fun c => v.bind fun d => w.bind fun x => f a b c d x := rfl
@[simp] theorem b6_ap {α β γ δ ε ζ η : Type} (f : α → β → γ → δ → ε → ζ → R η) (s : R α) (t : R β) (u : R γ) (v : R δ) (w : R ε) (r : R ζ) : b6 f s t u v w r = s.bind fun a => t.bind fun b => u.bind fun c => v.bind fun d => w.bind fun x => r.bind fun y => f a b c d x y := rfl
@[simp] theorem b7_ap {α β γ δ ε ζ η θ : Type} (f : α → β → γ → δ → ε → ζ → η → R θ) (s : R α) (t : R β) (u : R γ) (v : R δ) (w : R ε) (r : R ζ) (q : R η) : b7 f s t u v w r q = s.bind fun a => t.bind fun b => u.bind fun c => v.bind fun d => w.bind fun x => r.bind fun y => q.bind fun z => f a b c d x y z := rfl
@[simp] theorem bite_ap {α : Type} (c : R Bool) (s t : R α) : bite c s t = c.bind fun b => if b then s else t := rfl
@[simp] theorem R.bind_assoc {α β γ : Type} (x : R α) (f : α → R β) (g : β → R γ) : (x.bind f).bind g = x.bind fun a => (f a).bind g := by cases x <;> rfl
theorem R.bind_ite {α β : Type} (p : Prop) [Decidable p] (x y : R α) (f : α → R β) : (if p then x else y).bind f = if p then x.bind f else y.bind f := by split <;> rfl

def taddI (a b : Int) : R Int := .ok (a + b)
def tsubI (a b : Int) : R Int := .ok (a - b)
noncomputable def tmulI (a b : Int) : R Int := open Classical in if IntMulOk a b then .ok (a * b) else .stuck
noncomputable def tfdivI (a b : Int) : R Int := @ite _ (0 < b ∧ b < 2 ^ 250) (Classical.propDecidable _) (.ok (a / b)) .stuck
def tmodI (a b : Int) : R Int := if 0 < b then .ok (a % b) else .stuck
noncomputable def tpowI (a b : Int) : R Int := @ite _ (0 ≤ b ∧ b ≤ 1000 ∧ a.natAbs < 2 ^ 64) (Classical.propDecidable _) (.ok (a ^ b.toNat)) .stuck
def tnegI (a : Int) : R Int := .ok (-a)
def tltI (a b : Int) : R Bool := .ok (decide (a < b))
def tleI (a b : Int) : R Bool := .ok (decide (a ≤ b))
def tgtI (a b : Int) : R Bool := .ok (decide (b < a))
def tgeI (a b : Int) : R Bool := .ok (decide (b ≤ a))
def taddL {α : Type} (a b : List α) : R (List α) := if a.length + b.length ≤ 16777216 then .ok (a ++ b) else .stuck
def tidx {α : Type} (xs : List α) (i : Int) : R α := match atI xs i with | some d => .ok d | none => .stuck
def tidxV {α : Type} (xs : Tup α) (i : Int) : R α := tidx xs.l i
def tlen {α : Type} (xs : List α) : R Int := .ok xs.length
def tlenV {α : Type} (xs : Tup α) : R Int := .ok xs.l.length
def tint (i : Int) : R Int := .ok i
def tintB (b : Bool) : R Int := .ok (if b then 1 else 0)
def tabs (i : Int) : R Int := .ok (if i < 0 then -i else i)
def ttupL {α : Type} (xs : List α) : R (Tup α) := .ok ⟨xs⟩
def tlistV {α : Type} (xs : Tup α) : R (List α) := .ok xs.l
def tid {α : Type} (x : α) : R α := .ok x
def tsum (xs : List Int) : R Int := .ok xs.sum
def tmax2 (i j : Int) : R Int := .ok (if j > i then j else i)
def tmin2 (i j : Int) : R Int := .ok (if j < i then j else i)
def tmax3 (i j k : Int) : R Int := .ok (max (max i j) k)
def tmin3 (i j k : Int) : R Int := .ok (min (min i j) k)
def tallB (xs : List Bool) : R Bool := .ok (xs.all id)
def tanyB (xs : List Bool) : R Bool := .ok (xs.any id)
def cutG {α : Type} (xs : List α) (lo hi : Option Int) : List α := (xs.drop (HT.sIx xs.length 0 lo)).take (HT.sIx xs.length xs.length hi - HT.sIx xs.length 0 lo)
def tcut {α : Type} (xs : List α) (lo hi : Option Int) : R (List α) := .ok (cutG xs lo hi)
def tcutV {α : Type} (xs : Tup α) (lo hi : Option Int) : R (Tup α) := .ok ⟨cutG xs.l lo hi⟩
def tpart (i : Int) : R (Option Int) := .ok (some i)
def rangeI (lo : Int) (n : Nat) : List Int := (List.range n).map fun i : Nat => lo + (i : Int)
noncomputable def trange1 (j : Int) : R (List Int) := if rngOk 0 j then .ok (rangeI 0 j.toNat) else .stuck
noncomputable def trange2 (i j : Int) : R (List Int) := if rngOk i j then .ok (rangeI i (j - i).toNat) else .stuck
def tenum {α : Type} (xs : List α) : R (List (Int × α)) := .ok (xs.mapIdx fun i d => ((i : Int), d))
def tzip {α β : Type} (xs : List α) (ys : List β) : R (List (α × β)) := .ok (List.zipWith (fun a b => (a, b)) xs ys)
def trev {α : Type} (xs : List α) : R (List α) := .ok xs.reverse
def tsort (xs : List Int) : R (List Int) := .ok (srtI xs)
def tseqV {α : Type} (xs : Tup α) : R (List α) := .ok xs.l
def tnotB (b : Bool) : R Bool := .ok (!b)
def tandB (s t : R Bool) : R Bool := s.bind fun b => if b then t else .ok false
def torB (s t : R Bool) : R Bool := s.bind fun b => if b then .ok true else t
def tchain {α β γ : Type} (g : α → β → R Bool) (g' : β → γ → R Bool) (s : R α) (t : R β) (u : R γ) : R Bool := s.bind fun a => t.bind fun b => (g a b).bind fun k => if k then u.bind fun c => g' b c else .ok false
def ttruI (i : Int) : R Bool := .ok (i != 0)
def ttruL {α : Type} (xs : List α) : R Bool := .ok (!xs.isEmpty)
def ttruV {α : Type} (xs : Tup α) : R Bool := .ok (!xs.l.isEmpty)
def tisnoneD (d : PyData) : R Bool := .ok (match d with | .none => true | _ => false)
def tisnoneO {α : Type} (o : Option α) : R Bool := .ok o.isNone
def tcons {α : Type} (s : R α) (t : R (List α)) : R (List α) := s.bind fun a => t.bind fun as => .ok (a :: as)
def tcomp {α β : Type} (c : α → R Bool) (f : α → R β) : List α → R (List β)
  | [] => .ok []
  | a :: as => ((c a).calm).bind fun b => if b then ((f a).calm).bind fun y => (tcomp c f as).bind fun ys => .ok (y :: ys) else tcomp c f as
def tmap {α β : Type} (f : α → R β) : List α → R (List β)
  | [] => .ok []
  | a :: as => ((f a).calm).bind fun y => (tmap f as).bind fun ys => .ok (y :: ys)
def tpair {α β : Type} (s : R α) (t : R β) : R (α × β) := s.bind fun a => t.bind fun b => .ok (a, b)
@[simp] theorem taddI_ap (a b : Int) : taddI a b = .ok (a + b) := rfl
@[simp] theorem tsubI_ap (a b : Int) : tsubI a b = .ok (a - b) := rfl
@[simp] theorem tnegI_ap (a : Int) : tnegI a = .ok (-a) := rfl
@[simp] theorem tltI_ap (a b : Int) : tltI a b = .ok (decide (a < b)) := rfl
@[simp] theorem tleI_ap (a b : Int) : tleI a b = .ok (decide (a ≤ b)) := rfl
@[simp] theorem tgtI_ap (a b : Int) : tgtI a b = .ok (decide (b < a)) := rfl
@[simp] theorem tgeI_ap (a b : Int) : tgeI a b = .ok (decide (b ≤ a)) := rfl
@[simp] theorem tlen_ap {α : Type} (xs : List α) : tlen xs = .ok (xs.length : Int) := rfl
@[simp] theorem tlenV_ap {α : Type} (xs : Tup α) : tlenV xs = .ok (xs.l.length : Int) := rfl
@[simp] theorem tint_ap (i : Int) : tint i = .ok i := rfl
@[simp] theorem tintB_ap (b : Bool) : tintB b = .ok (if b then 1 else 0) := rfl
@[simp] theorem tabs_ap (i : Int) : tabs i = .ok (if i < 0 then -i else i) := rfl
@[simp] theorem ttupL_ap {α : Type} (xs : List α) : ttupL xs = .ok ⟨xs⟩ := rfl
@[simp] theorem tlistV_ap {α : Type} (xs : Tup α) : tlistV xs = .ok xs.l := rfl
@[simp] theorem tid_ap {α : Type} (x : α) : tid x = .ok x := rfl
@[simp] theorem tsum_ap (xs : List Int) : tsum xs = .ok xs.sum := rfl
@[simp] theorem tmax2_ap (i j : Int) : tmax2 i j = .ok (if j > i then j else i) := rfl
@[simp] theorem tmin2_ap (i j : Int) : tmin2 i j = .ok (if j < i then j else i) := rfl
@[simp] theorem tmax3_ap (i j k : Int) : tmax3 i j k = .ok (max (max i j) k) := rfl
@[simp] theorem tmin3_ap (i j k : Int) : tmin3 i j k = .ok (min (min i j) k) := rfl
@[simp] theorem tallB_ap (xs : List Bool) : tallB xs = .ok (xs.all id) := rfl
@[simp] theorem tanyB_ap (xs : List Bool) : tanyB xs = .ok (xs.any id) := rfl
@[simp] theorem tcut_ap {α : Type} (xs : List α) (lo hi : Option Int) : tcut xs lo hi = .ok (cutG xs lo hi) := rfl
@[simp] theorem tcutV_ap {α : Type} (xs : Tup α) (lo hi : Option Int) : tcutV xs lo hi = .ok ⟨cutG xs.l lo hi⟩ := rfl
@[simp] theorem tpart_ap (i : Int) : tpart i = .ok (some i) := rfl
@[simp] theorem tenum_ap {α : Type} (xs : List α) : tenum xs = .ok (xs.mapIdx fun i d => ((i : Int), d)) := rfl
@[simp] theorem tzip_ap {α β : Type} (xs : List α) (ys : List β) : tzip xs ys = .ok (List.zipWith (fun a b => (a, b)) xs ys) := rfl
@[simp] theorem trev_ap {α : Type} (xs : List α) : trev xs = .ok xs.reverse := rfl
@[simp] theorem tsort_ap (xs : List Int) : tsort xs = .ok (srtI xs) := rfl
@[simp] theorem tseqV_ap {α : Type} (xs : Tup α) : tseqV xs = .ok xs.l := rfl
@[simp] theorem tnotB_ap (b : Bool) : tnotB b = .ok (!b) := rfl
@[simp] theorem tandB_ap (s t : R Bool) : tandB s t = s.bind fun b => if b then t else .ok false := rfl
@[simp] theorem torB_ap (s t : R Bool) : torB s t = s.bind fun b => if b then .ok true else t := rfl
@[simp] theorem tchain_ap {α β γ : Type} (g : α → β → R Bool) (g' : β → γ → R Bool) (s : R α) (t : R β) (u : R γ) : tchain g g' s t u = s.bind fun a => t.bind fun b => (g a b).bind fun k => if k then u.bind fun c => g' b c else .ok false := rfl
@[simp] theorem ttruI_ap (i : Int) : ttruI i = .ok (i != 0) := rfl
@[simp] theorem ttruL_ap {α : Type} (xs : List α) : ttruL xs = .ok (!xs.isEmpty) := rfl
@[simp] theorem ttruV_ap {α : Type} (xs : Tup α) : ttruV xs = .ok (!xs.l.isEmpty) := rfl
@[simp] theorem tisnoneO_ap {α : Type} (o : Option α) : tisnoneO o = .ok o.isNone := rfl
@[simp] theorem tisnoneD_ap (d : PyData) : tisnoneD d = .ok (match d with | .none => true | _ => false) := rfl
@[simp] theorem tcons_ap {α : Type} (s : R α) (t : R (List α)) : tcons s t = s.bind fun a => t.bind fun as => .ok (a :: as) := rfl
@[simp] theorem tpair_ap {α β : Type} (s : R α) (t : R β) : tpair s t = s.bind fun a => t.bind fun b => .ok (a, b) := rfl
@[simp] theorem tidxV_ap {α : Type} (xs : Tup α) (i : Int) : tidxV xs i = tidx xs.l i := rfl

class EqE (α : Type) [Enc α] where
  dec : DecidableEq α
  ok : α → Prop
  dep : Nat
  lay : ∀ a, ok a → okS dep (e a)
  eqv : ∀ a b : α, ok a → ok b → PyData.eqv (e a) (e b) = @decide (a = b) (dec a b)
instance : EqE Int where
  dec := inferInstance
  ok := fun _ => True
  dep := 1
  lay := fun _ _ => trivial
  eqv := fun a b _ _ => by simp [Enc.e, PyData.eqv, Bool.beq_eq_decide_eq]
instance : EqE Bool where
  dec := inferInstance
  ok := fun _ => True
  dep := 1
  lay := fun _ _ => trivial
  eqv := fun a b _ _ => by simp [Enc.e, PyData.eqv, Bool.beq_eq_decide_eq]
instance : EqE Str where
  dec := inferInstance
  ok := fun s => PyData.strOk s = true
  dep := 1
  lay := fun _ h => h
  eqv := fun a b _ _ => by simp [Enc.e, PyData.eqv, Bool.beq_eq_decide_eq]
instance : EqE Unit where
  dec := inferInstance
  ok := fun _ => True
  dep := 1
  lay := fun _ _ => trivial
  eqv := fun a b _ _ => by simp [Enc.e, PyData.eqv]
section
variable {α β γ δ ε ζ η : Type} [Enc α] [Enc β] [Enc γ] [Enc δ] [Enc ε] [Enc ζ] [Enc η]
theorem eqvAll_map [q : EqE α] : ∀ xs ys : List α, (∀ x ∈ xs, EqE.ok x) → (∀ x ∈ ys, EqE.ok x) → PyData.eqvAll (xs.map e) (ys.map e) = (@List.hasDecEq α q.dec xs ys).decide
  | [], [], _, _ => by simp [PyData.eqvAll]
  | [], _ :: _, _, _ => by simp [PyData.eqvAll]
  | _ :: _, [], _, _ => by simp [PyData.eqvAll]
  | x :: xs, y :: ys, h, g => by
    have ih := eqvAll_map xs ys (fun z hz => h z (List.mem_cons_of_mem _ hz)) fun z hz => g z (List.mem_cons_of_mem _ hz)
    have ix := EqE.eqv x y (h x List.mem_cons_self) (g y List.mem_cons_self)
    simp only [List.map_cons, PyData.eqvAll, ix, ih]
    rw [Bool.eq_iff_iff]
    simp
instance [q : EqE α] : EqE (List α) where
  dec := @List.hasDecEq α q.dec
  ok := fun xs => xs.length ≤ 16777216 ∧ ∀ x ∈ xs, EqE.ok x
  dep := EqE.dep α + 1
  lay := fun xs h => ⟨by rw [List.length_map]; exact h.1, fun x hx => by
    obtain ⟨a, ha, rfl⟩ := List.mem_map.mp hx
    exact EqE.lay a (h.2 a ha)⟩
  eqv := fun xs ys h g => by
    show PyData.eqv (.list _) (.list _) = _
    simp only [PyData.eqv]
    exact eqvAll_map xs ys h.2 g.2
instance [q : EqE α] : EqE (Tup α) where
  dec := fun a b => @instDecidableEqTup.decEq α q.dec a b
  ok := fun xs => xs.l.length ≤ 16777216 ∧ ∀ x ∈ xs.l, EqE.ok x
  dep := EqE.dep α + 1
  lay := fun xs h => ⟨by rw [List.length_map]; exact h.1, fun x hx => by
    obtain ⟨a, ha, rfl⟩ := List.mem_map.mp hx
    exact EqE.lay a (h.2 a ha)⟩
  eqv := fun xs ys h g => by
    obtain ⟨xs⟩ := xs
    obtain ⟨ys⟩ := ys
    show PyData.eqv (.tuple _) (.tuple _) = _
    simp only [PyData.eqv]
    rw [eqvAll_map xs ys h.2 g.2, Bool.eq_iff_iff]
    simp
theorem okS_m {n m : Nat} {d : PyData} (h : okS n d) (l : n ≤ m) : okS m d := okS.mono l h
instance [q : EqE α] : EqE (T1 α) where
  dec := fun a b => @instDecidableEqT1.decEq α q.dec a b
  ok := fun p => EqE.ok p.a
  dep := EqE.dep α + 1
  lay := fun p h => ⟨by simp, fun x hx => by
    rw [List.mem_singleton.mp hx]
    exact EqE.lay p.a h⟩
  eqv := fun p q h g => by
    obtain ⟨a⟩ := p
    obtain ⟨b⟩ := q
    show PyData.eqv (.tuple [e a]) (.tuple [e b]) = _
    simp only [PyData.eqv, PyData.eqvAll]
    rw [EqE.eqv a b h g, Bool.eq_iff_iff]
    simp
instance [q : EqE α] [r : EqE β] : EqE (α × β) where
  dec := @instDecidableEqProd α β q.dec r.dec
  ok := fun p => EqE.ok p.1 ∧ EqE.ok p.2
  dep := max (EqE.dep α) (EqE.dep β) + 1
  lay := fun p h => ⟨by simp, fun x hx => by
    simp only [List.mem_cons, List.not_mem_nil, or_false] at hx
    rcases hx with rfl | rfl
    · exact okS_m (EqE.lay _ h.1) (by omega)
    · exact okS_m (EqE.lay _ h.2) (by omega)⟩
  eqv := fun p q h g => by
    obtain ⟨a, b⟩ := p
    obtain ⟨c, d⟩ := q
    show PyData.eqv (.tuple [e a, e b]) (.tuple [e c, e d]) = _
    simp only [PyData.eqv, PyData.eqvAll]
    rw [EqE.eqv a c h.1 g.1, EqE.eqv b d h.2 g.2, Bool.eq_iff_iff]
    simp
instance [q : EqE α] [r : EqE β] [s : EqE γ] : EqE (T3 α β γ) where
  dec := fun a b => @instDecidableEqT3.decEq α β γ q.dec r.dec s.dec a b
  ok := fun p => EqE.ok p.a ∧ EqE.ok p.b ∧ EqE.ok p.c
  dep := max (EqE.dep α) (max (EqE.dep β) (EqE.dep γ)) + 1
  lay := fun p h => ⟨by simp, fun x hx => by
    simp only [List.mem_cons, List.not_mem_nil, or_false] at hx
    rcases hx with rfl | rfl | rfl
    · exact okS_m (EqE.lay _ h.1) (by omega)
    · exact okS_m (EqE.lay _ h.2.1) (by omega)
    · exact okS_m (EqE.lay _ h.2.2) (by omega)⟩
  eqv := fun p q h g => by
    obtain ⟨a, b, c⟩ := p
    obtain ⟨a', b', c'⟩ := q
    show PyData.eqv (.tuple [e a, e b, e c]) (.tuple [e a', e b', e c']) = _
    simp only [PyData.eqv, PyData.eqvAll]
    rw [EqE.eqv a a' h.1 g.1, EqE.eqv b b' h.2.1 g.2.1, EqE.eqv c c' h.2.2 g.2.2, Bool.eq_iff_iff]
    simp
instance [q : EqE α] [r : EqE β] [s : EqE γ] [t : EqE δ] : EqE (T4 α β γ δ) where
  dec := fun a b => @instDecidableEqT4.decEq α β γ δ q.dec r.dec s.dec t.dec a b
  ok := fun p => EqE.ok p.a ∧ EqE.ok p.b ∧ EqE.ok p.c ∧ EqE.ok p.d
  dep := max (max (EqE.dep α) (EqE.dep β)) (max (EqE.dep γ) (EqE.dep δ)) + 1
  lay := fun p h => ⟨by simp, fun x hx => by
    simp only [List.mem_cons, List.not_mem_nil, or_false] at hx
    rcases hx with rfl | rfl | rfl | rfl
    · exact okS_m (EqE.lay _ h.1) (by omega)
    · exact okS_m (EqE.lay _ h.2.1) (by omega)
    · exact okS_m (EqE.lay _ h.2.2.1) (by omega)
    · exact okS_m (EqE.lay _ h.2.2.2) (by omega)⟩
  eqv := fun p q h g => by
    obtain ⟨a, b, c, d⟩ := p
    obtain ⟨a', b', c', d'⟩ := q
    show PyData.eqv (.tuple [e a, e b, e c, e d]) (.tuple [e a', e b', e c', e d']) = _
    simp only [PyData.eqv, PyData.eqvAll]
    rw [EqE.eqv a a' h.1 g.1, EqE.eqv b b' h.2.1 g.2.1, EqE.eqv c c' h.2.2.1 g.2.2.1, EqE.eqv d d' h.2.2.2 g.2.2.2, Bool.eq_iff_iff]
    simp
end
noncomputable def teq {α : Type} [Enc α] [q : EqE α] (a b : α) : R Bool := @ite _ (EqE.ok a ∧ EqE.ok b) (Classical.propDecidable _) (.ok (@decide (a = b) (q.dec a b))) .stuck
noncomputable def tne {α : Type} [Enc α] [q : EqE α] (a b : α) : R Bool := @ite _ (EqE.ok a ∧ EqE.ok b) (Classical.propDecidable _) (.ok (!@decide (a = b) (q.dec a b))) .stuck
noncomputable def tin {α : Type} [Enc α] [q : EqE α] (a : α) (xs : List α) : R Bool := @ite _ (EqE.ok a ∧ EqE.ok xs) (Classical.propDecidable _) (.ok (xs.any fun x => @decide (x = a) (q.dec x a))) .stuck
noncomputable def tnin {α : Type} [Enc α] [q : EqE α] (a : α) (xs : List α) : R Bool := @ite _ (EqE.ok a ∧ EqE.ok xs) (Classical.propDecidable _) (.ok (!xs.any fun x => @decide (x = a) (q.dec x a))) .stuck
@[simp] theorem ok_int (a : Int) : EqE.ok a = True := rfl
@[simp] theorem ok_bool (a : Bool) : EqE.ok a = True := rfl
@[simp] theorem ok_unit (a : Unit) : EqE.ok a = True := rfl
@[simp] theorem ok_str (a : Str) : EqE.ok a = (PyData.strOk a = true) := rfl
section
variable {α β γ δ : Type} [Enc α] [Enc β] [Enc γ] [Enc δ]
@[simp] theorem ok_list [EqE α] (a : List α) : EqE.ok a = (a.length ≤ 16777216 ∧ ∀ x ∈ a, EqE.ok x) := rfl
@[simp] theorem ok_vt [EqE α] (a : Tup α) : EqE.ok a = (a.l.length ≤ 16777216 ∧ ∀ x ∈ a.l, EqE.ok x) := rfl
@[simp] theorem ok_t1 [EqE α] (p : T1 α) : EqE.ok p = EqE.ok p.a := rfl
@[simp] theorem ok_pair [EqE α] [EqE β] (p : α × β) : EqE.ok p = (EqE.ok p.1 ∧ EqE.ok p.2) := rfl
@[simp] theorem ok_t3 [EqE α] [EqE β] [EqE γ] (p : T3 α β γ) : EqE.ok p = (EqE.ok p.a ∧ EqE.ok p.b ∧ EqE.ok p.c) := rfl
@[simp] theorem ok_t4 [EqE α] [EqE β] [EqE γ] [EqE δ] (p : T4 α β γ δ) : EqE.ok p = (EqE.ok p.a ∧ EqE.ok p.b ∧ EqE.ok p.c ∧ EqE.ok p.d) := rfl
theorem teq_ok [q : EqE α] [DecidableEq α] {a b : α} (h : EqE.ok a) (g : EqE.ok b) : teq a b = .ok (decide (a = b)) := by unfold teq; rw [if_pos ⟨h, g⟩]; congr
theorem tne_ok [q : EqE α] [DecidableEq α] {a b : α} (h : EqE.ok a) (g : EqE.ok b) : tne a b = .ok (!decide (a = b)) := by unfold tne; rw [if_pos ⟨h, g⟩]; congr
theorem tnin_ok [q : EqE α] [DecidableEq α] {a : α} {xs : List α} (h : EqE.ok a) (g : EqE.ok xs) : tnin a xs = .ok (!decide (a ∈ xs)) := by
  unfold tnin; rw [if_pos ⟨h, g⟩]
  congr 2
  rw [Bool.eq_iff_iff]
  simp
@[simp] theorem teq_int (a b : Int) : teq a b = .ok (decide (a = b)) := teq_ok trivial trivial
@[simp] theorem tne_int (a b : Int) : tne a b = .ok (!decide (a = b)) := tne_ok trivial trivial
@[simp] theorem teq_bool (a b : Bool) : teq a b = .ok (decide (a = b)) := teq_ok trivial trivial
@[simp] theorem tne_bool (a b : Bool) : tne a b = .ok (!decide (a = b)) := tne_ok trivial trivial
theorem tne_rfl [q : EqE α] {a : α} (h : EqE.ok a) : tne a a = .ok false := by letI := q.dec; rw [tne_ok h h]; simp
end
class NN (α : Type) [Enc α] : Prop where
  nn : ∀ a : α, PyData.eqv .none (e a) = false ∧ PyData.eqv (e a) .none = false
instance : NN Int := ⟨fun _ => ⟨rfl, rfl⟩⟩
instance : NN Bool := ⟨fun _ => ⟨rfl, rfl⟩⟩
instance : NN Str := ⟨fun _ => ⟨rfl, rfl⟩⟩
instance {α : Type} [Enc α] : NN (List α) := ⟨fun _ => ⟨rfl, rfl⟩⟩
instance {α : Type} [Enc α] : NN (Tup α) := ⟨fun _ => ⟨rfl, rfl⟩⟩
instance {α : Type} [Enc α] : NN (T1 α) := ⟨fun _ => ⟨rfl, rfl⟩⟩
instance {α β : Type} [Enc α] [Enc β] : NN (α × β) := ⟨fun _ => ⟨rfl, rfl⟩⟩
instance {α β γ : Type} [Enc α] [Enc β] [Enc γ] : NN (T3 α β γ) := ⟨fun _ => ⟨rfl, rfl⟩⟩
instance {α β γ δ : Type} [Enc α] [Enc β] [Enc γ] [Enc δ] : NN (T4 α β γ δ) := ⟨fun _ => ⟨rfl, rfl⟩⟩
theorem dec_os {α : Type} (i : DecidableEq α) (j : DecidableEq (Option α)) (a b : α) : @decide (a = b) (i a b) = @decide (some a = some b) (j (some a) (some b)) := by
  by_cases h : a = b
  · rw [decide_eq_true h, decide_eq_true (congrArg some h)]
  · rw [decide_eq_false h, decide_eq_false fun k => h (Option.some.inj k)]
instance {α : Type} [Enc α] [q : EqE α] [n : NN α] : EqE (Option α) where
  dec := letI := q.dec; inferInstance
  ok := fun o => match o with | none => True | some a => EqE.ok a
  dep := EqE.dep α + 1
  lay := fun o h => by
    cases o with
    | none => exact trivial
    | some a => exact okS_m (EqE.lay a h) (by omega)
  eqv := fun a b h g => by
    cases a with
    | none => cases b with
      | none => rfl
      | some b => exact (NN.nn b).1
    | some a => cases b with
      | none => exact (NN.nn a).2
      | some b => exact (EqE.eqv a b h g).trans (dec_os _ _ _ _)
@[simp] theorem ok_onone {α : Type} [Enc α] [q : EqE α] [n : NN α] : EqE.ok (none : Option α) = True := rfl
@[simp] theorem ok_osome {α : Type} [Enc α] [q : EqE α] [n : NN α] (a : α) : EqE.ok (some a) = EqE.ok a := rfl
theorem ok_oint (a : Option Int) : EqE.ok a := by cases a <;> exact trivial
@[simp] theorem teq_oint (a b : Option Int) : teq a b = .ok (decide (a = b)) := teq_ok (ok_oint a) (ok_oint b)
@[simp] theorem tne_oint (a b : Option Int) : tne a b = .ok (!decide (a = b)) := tne_ok (ok_oint a) (ok_oint b)
end VL

namespace VL
open PySem PySem.Spec PyProof.Rows L2
open Enc (e)

section
variable {α β γ δ ε ζ η θ : Type} [Enc α] [Enc β] [Enc γ] [Enc δ] [Enc ε] [Enc ζ] [Enc η] [Enc θ] {ρ : PEnv} {f g h f1 f2 f3 f4 f5 f6 f7 : PEnv → R PyData}
theorem t_var (i : Nat) (a : α) (h : ρ[i]? = some (some (e a)) := by rfl) : TEq (vVar i ρ) (.ok a) := by
  show vVar i ρ = .ok (e a)
  unfold vVar; rw [h]
theorem t_varO (i : Nat) (ox : α → O) (a : α) (hd : ∀ a, O.data (ox a) = e a) (h : ρ[i]? = some (some (O.data (ox a))) := by rfl) : TEq (vVar i ρ) (.ok a) := by
  show vVar i ρ = .ok (e a)
  unfold vVar; rw [h, hd]
theorem t_c {d : PyData} (a : α) (h : d = e a := by rfl) : TEq (vC d ρ) (.ok a) := by rw [h]; exact rfl
theorem t_2 {op : PyData → PyData → R PyData} {top : α → β → R γ} {s : R α} {t : R β} (ho : ∀ a b, TEq (op (e a) (e b)) (top a b)) (ha : TEq (f ρ) s) (hb : TEq (g ρ) t) : TEq (v2 op f g ρ) (b2 top s t) :=
  ha.bind fun a => hb.bind fun b => ho a b
theorem t_1 {op : PyData → R PyData} {top : α → R γ} {s : R α} (ho : ∀ a, TEq (op (e a)) (top a)) (ha : TEq (f ρ) s) : TEq (v1 op f ρ) (b1 top s) := ha.bind ho
theorem t_tst {s : R Bool} (ha : TEq (f ρ) s) : TB (tst f ρ) s := by
  cases s with
  | stuck => trivial
  | err c => show (f ρ).bind tbool = _; rw [show f ρ = .err c from ha]; rfl
  | ok b => show (f ρ).bind tbool = _; rw [show f ρ = .ok (.bool b) from ha]; rfl
theorem t_ttr {s : R α} {top : α → R Bool} (ho : ∀ a, TB (vtruth (e a)) (top a)) (ha : TEq (f ρ) s) : TB (ttr f ρ) (b1 top s) := ha.bind ho
theorem t_tand {c d : PEnv → R Bool} {s t : R Bool} (ha : TB (c ρ) s) (hb : TB (d ρ) t) : TB (tand c d ρ) (tandB s t) := ha.bind fun b => by cases b <;> first | exact hb | exact rfl
theorem t_tor {c d : PEnv → R Bool} {s t : R Bool} (ha : TB (c ρ) s) (hb : TB (d ρ) t) : TB (tor c d ρ) (torB s t) := ha.bind fun b => by cases b <;> first | exact hb | exact rfl
theorem t_tnot {c : PEnv → R Bool} {s : R Bool} (ha : TB (c ρ) s) : TB (tnot c ρ) (b1 tnotB s) := ha.bind fun b => rfl
theorem t_vand {s t : R Bool} (ha : TEq (f ρ) s) (hb : TEq (g ρ) t) : TEq (vand f g ρ) (tandB s t) := ha.bind fun b => by cases b <;> first | exact hb | exact rfl
theorem t_vor {s t : R Bool} (ha : TEq (f ρ) s) (hb : TEq (g ρ) t) : TEq (vor f g ρ) (torB s t) := ha.bind fun b => by cases b <;> first | exact hb | exact rfl
theorem t_vnot {s : R Bool} (ha : TEq (f ρ) s) : TEq (vnot f ρ) (b1 tnotB s) := ha.bind fun b => rfl
theorem t_vchain {op op' : PyData → PyData → R PyData} {top : α → β → R Bool} {top' : β → γ → R Bool} {s : R α} {t : R β} {u : R γ} (ho : ∀ a b, TEq (op (e a) (e b)) (top a b)) (ho' : ∀ a b, TEq (op' (e a) (e b)) (top' a b)) (ha : TEq (f ρ) s) (hb : TEq (g ρ) t) (hc : TEq (h ρ) u) : TEq (vchain op op' f g h ρ) (tchain top top' s t u) :=
  ha.bind fun a => hb.bind fun b => (ho a b).bind fun k => by
    cases k
    · exact rfl
    · exact hc.bind fun c => ho' b c
theorem t_call1 {m : List PyData → R PyData} {t : α → R β} (hm : ∀ a, TEq (m [e a]) (t a)) {s1 : R α} (h1 : TEq (f1 ρ) s1) : TEq (vapp m (aCons f1 aNil) ρ) (b1 t s1) := by
  show TEq (R.bind (R.bind (f1 ρ) fun d => .ok [d]) m) _
  rw [R.bind_assoc]
  exact h1.bind fun a => hm a
theorem t_call2 {m : List PyData → R PyData} {t : α → β → R γ} (hm : ∀ a b, TEq (m [e a, e b]) (t a b)) {s1 : R α} {s2 : R β} (h1 : TEq (f1 ρ) s1) (h2 : TEq (f2 ρ) s2) : TEq (vapp m (aCons f1 (aCons f2 aNil)) ρ) (b2 t s1 s2) := by
  simp only [vapp_ap, aCons_ap, aNil_ap, R.bind_assoc, R.bind_ok]
  exact h1.bind fun a => h2.bind fun b => hm a b
theorem t_call3 {m : List PyData → R PyData} {t : α → β → γ → R δ} (hm : ∀ a b c, TEq (m [e a, e b, e c]) (t a b c)) {s1 : R α} {s2 : R β} {s3 : R γ} (h1 : TEq (f1 ρ) s1) (h2 : TEq (f2 ρ) s2) (h3 : TEq (f3 ρ) s3) : TEq (vapp m (aCons f1 (aCons f2 (aCons f3 aNil))) ρ) (b3 t s1 s2 s3) := by
  simp only [vapp_ap, aCons_ap, aNil_ap, R.bind_assoc, R.bind_ok]
  exact h1.bind fun a => h2.bind fun b => h3.bind fun c => hm a b c
theorem t_call4 {m : List PyData → R PyData} {t : α → β → γ → δ → R ε} (hm : ∀ a b c d, TEq (m [e a, e b, e c, e d]) (t a b c d)) {s1 : R α} {s2 : R β} {s3 : R γ} {s4 : R δ} (h1 : TEq (f1 ρ) s1) (h2 : TEq (f2 ρ) s2) (h3 : TEq (f3 ρ) s3) (h4 : TEq (f4 ρ) s4) : TEq (vapp m (aCons f1 (aCons f2 (aCons f3 (aCons f4 aNil)))) ρ) (b4 t s1 s2 s3 s4) := by
  simp only [vapp_ap, aCons_ap, aNil_ap, R.bind_assoc, R.bind_ok]
  exact h1.bind fun a => h2.bind fun b => h3.bind fun c => h4.bind fun d => hm a b c d
def mk1 {α : Type} (a : α) : R (T1 α) := .ok ⟨a⟩
def mk2 {α β : Type} (a : α) (b : β) : R (α × β) := .ok (a, b)
def mk3 {α β γ : Type} (a : α) (b : β) (c : γ) : R (T3 α β γ) := .ok ⟨a, b, c⟩
def mk4 {α β γ δ : Type} (a : α) (b : β) (c : γ) (d : δ) : R (T4 α β γ δ) := .ok ⟨a, b, c, d⟩
def mk5 {α β γ δ ε : Type} (a : α) (b : β) (c : γ) (d : δ) (x : ε) : R (T5 α β γ δ ε) := .ok ⟨a, b, c, d, x⟩
def mk6 {α β γ δ ε ζ : Type} (a : α) (b : β) (c : γ) (d : δ) (x : ε) (y : ζ) : R (T6 α β γ δ ε ζ) := .ok ⟨a, b, c, d, x, y⟩
def mk7 {α β γ δ ε ζ η : Type} (a : α) (b : β) (c : γ) (d : δ) (x : ε) (y : ζ) (z : η) : R (T7 α β γ δ ε ζ η) := .ok ⟨a, b, c, d, x, y, z⟩
def mkV {α : Type} (xs : List α) : R (Tup α) := .ok ⟨xs⟩
@[simp] theorem mk1_ap {α : Type} (a : α) : mk1 a = .ok ⟨a⟩ := rfl
@[simp] theorem mk2_ap {α β : Type} (a : α) (b : β) : mk2 a b = .ok (a, b) := rfl
@[simp] theorem mk3_ap {α β γ : Type} (a : α) (b : β) (c : γ) : mk3 a b c = .ok ⟨a, b, c⟩ := rfl
@[simp] theorem mk4_ap {α β γ δ : Type} (a : α) (b : β) (c : γ) (d : δ) : mk4 a b c d = .ok ⟨a, b, c, d⟩ := rfl
@[simp] theorem mk5_ap {α β γ δ ε : Type} (a : α) (b : β) (c : γ) (d : δ) (x : ε) : mk5 a b c d x = .ok ⟨a, b, c, d, x⟩ := rfl
@[simp] theorem mk6_ap {α β γ δ ε ζ : Type} (a : α) (b : β) (c : γ) (d : δ) (x : ε) (y : ζ) : mk6 a b c d x y = .ok ⟨a, b, c, d, x, y⟩ := rfl
@[simp] theorem mk7_ap {α β γ δ ε ζ η : Type} (a : α) (b : β) (c : γ) (d : δ) (x : ε) (y : ζ) (z : η) : mk7 a b c d x y z = .ok ⟨a, b, c, d, x, y, z⟩ := rfl
@[simp] theorem mkV_ap {α : Type} (xs : List α) : mkV xs = .ok ⟨xs⟩ := rfl
theorem t_tup2 {s1 : R α} {s2 : R β} (h1 : TEq (f1 ρ) s1) (h2 : TEq (f2 ρ) s2) : TEq (vtup (aCons f1 (aCons f2 aNil)) ρ) (b2 mk2 s1 s2) := by
  simp only [vtup_ap, aCons_ap, aNil_ap, R.bind_assoc, R.bind_ok]
  exact h1.bind fun a => h2.bind fun b => rfl
theorem t_tup3 {s1 : R α} {s2 : R β} {s3 : R γ} (h1 : TEq (f1 ρ) s1) (h2 : TEq (f2 ρ) s2) (h3 : TEq (f3 ρ) s3) : TEq (vtup (aCons f1 (aCons f2 (aCons f3 aNil))) ρ) (b3 mk3 s1 s2 s3) := by
  simp only [vtup_ap, aCons_ap, aNil_ap, R.bind_assoc, R.bind_ok]
  exact h1.bind fun a => h2.bind fun b => h3.bind fun c => rfl
theorem t_tup4 {s1 : R α} {s2 : R β} {s3 : R γ} {s4 : R δ} (h1 : TEq (f1 ρ) s1) (h2 : TEq (f2 ρ) s2) (h3 : TEq (f3 ρ) s3) (h4 : TEq (f4 ρ) s4) : TEq (vtup (aCons f1 (aCons f2 (aCons f3 (aCons f4 aNil)))) ρ) (b4 mk4 s1 s2 s3 s4) := by
  simp only [vtup_ap, aCons_ap, aNil_ap, R.bind_assoc, R.bind_ok]
  exact h1.bind fun a => h2.bind fun b => h3.bind fun c => h4.bind fun d => rfl
theorem t_nil : TL (aNil ρ) (.ok ([] : List α)) := rfl
theorem t_cons {g : PEnv → R (List PyData)} {s : R α} {t : R (List α)} (ha : TEq (f ρ) s) (hb : TL (g ρ) t) : TL (aCons f g ρ) (tcons s t) := ha.bind fun a => hb.bind fun as => rfl
theorem t_tupV {g : PEnv → R (List PyData)} {s : R (List α)} (ha : TL (g ρ) s) : TEq (vtup g ρ) (b1 mkV s) := ha.bind fun as => rfl
theorem t_list {g : PEnv → R (List PyData)} {s : R (List α)} (ha : TL (g ρ) s) : TEq (vlistOf g ρ) s := by
  cases s with
  | stuck => trivial
  | err c => show (g ρ).bind _ = _; rw [show g ρ = .err c from ha]; rfl
  | ok b => show (g ρ).bind _ = _; rw [show g ρ = .ok (b.map e) from ha]; rfl
theorem t_isq {s : R (List α)} (ha : TEq (f ρ) s) : TL (isq f ρ) s := by
  cases s with
  | stuck => trivial
  | err c => show (f ρ).bind _ = _; rw [show f ρ = .err c from ha]; rfl
  | ok b => show (f ρ).bind _ = _; rw [show f ρ = .ok (e b) from ha]; rfl
def tseq2 {α : Type} (p : α × α) : R (List α) := .ok [p.1, p.2]
def tseq3 {α : Type} (p : T3 α α α) : R (List α) := .ok [p.a, p.b, p.c]
def tseq4 {α : Type} (p : T4 α α α α) : R (List α) := .ok [p.a, p.b, p.c, p.d]
@[simp] theorem tseq2_ap {α : Type} (p : α × α) : tseq2 p = .ok [p.1, p.2] := rfl
@[simp] theorem tseq3_ap {α : Type} (p : T3 α α α) : tseq3 p = .ok [p.a, p.b, p.c] := rfl
@[simp] theorem tseq4_ap {α : Type} (p : T4 α α α α) : tseq4 p = .ok [p.a, p.b, p.c, p.d] := rfl
theorem t_i1 {op : PyData → R (List PyData)} {top : α → R (List γ)} {s : R α} (ho : ∀ a, TL (op (e a)) (top a)) (ha : TEq (f ρ) s) : TL (i1 op f ρ) (b1 top s) := ha.bind ho
theorem TQ.calm {α γ : Type} {f : α → γ} {x : R γ} {t : R α} (h : TQ f x t) : TQ f x.calm t.calm := by
  cases t with
  | stuck => trivial
  | err c => trivial
  | ok a => rw [show x = .ok (f a) from h]; exact rfl
theorem compL_T {kt : PyData → R (List (Nat × PyData))} {ft : PEnv → R Bool} {fe : PEnv → R PyData} {ρ : PEnv} {bs : β → List (Nat × PyData)} {k : α → R β} {c : β → R Bool} {t : β → R γ} (hk : ∀ a, TQ bs (kt (e a)) (k a)) (hc : ∀ b, TB (ft (setsD ρ (bs b))) (c b)) (hf : ∀ b, TEq (fe (setsD ρ (bs b))) (t b)) : ∀ xs : List α, TL (compL kt ft fe ρ (xs.map e)) (tcomp (fun a => (k a).bind c) (fun a => (k a).bind t) xs)
  | [] => rfl
  | a :: as => by
    have ih := compL_T hk hc hf as
    have h1 := hk a
    show TQ _ ((kt (e a)).bind _) ((((k a).bind c).calm).bind _)
    cases hka : k a with
    | stuck => trivial
    | err s => trivial
    | ok b =>
      rw [h1.ok hka]
      simp only [hka, R.bind_ok]
      refine (hc b).calm.bind fun z => ?_
      cases z with
      | false => exact ih
      | true =>
        simp only [if_true]
        exact (hf b).calm.bind (f' := List.map e) (k := fun d => (compL kt ft fe ρ (List.map e as)).bind fun ys => R.ok (d :: ys)) (l := fun y => (tcomp (fun a => (k a).bind c) (fun a => (k a).bind t) as).bind fun ys => .ok (y :: ys)) fun y => ih.bind (k := fun ys => .ok (e y :: ys)) (l := fun ys => .ok (y :: ys)) fun ys => (show TL (R.ok (e y :: List.map e ys)) (R.ok (y :: ys)) from rfl)
theorem t_comp {own : List Nat} {fi : PEnv → R (List PyData)} {kt : PyData → R (List (Nat × PyData))} {ft : PEnv → R Bool} {fe : PEnv → R PyData} {s : R (List α)} {c : β → R Bool} {t : β → R γ} (bs : β → List (Nat × PyData)) (k : α → R β) (hi : TL (fi ρ) s) (hk : ∀ a, TQ bs (kt (e a)) (k a)) (hc : ∀ b, TB (ft (setsD (wipeD ρ own) (bs b))) (c b)) (hf : ∀ b, TEq (fe (setsD (wipeD ρ own) (bs b))) (t b)) :
    TL (vcomp own fi kt ft fe ρ) (s.bind fun xs => (tcomp (fun a => (k a).bind c) (fun a => (k a).bind t) xs).calm) := hi.bind (l := fun xs => (tcomp (fun a => (k a).bind c) (fun a => (k a).bind t) xs).calm) fun xs => (compL_T hk hc hf xs).calm
theorem tcomp_yes {α γ : Type} (f : α → R γ) : ∀ xs : List α, tcomp (fun _ => .ok true) f xs = tmap f xs
  | [] => rfl
  | a :: as => by
    show R.bind _ _ = R.bind _ _
    simp only [calm_okk, R.bind_ok, if_true, tcomp_yes f as]
theorem t_map {own : List Nat} {fi : PEnv → R (List PyData)} {kt : PyData → R (List (Nat × PyData))} {fe : PEnv → R PyData} {s : R (List α)} {t : α → R γ} (bs : α → List (Nat × PyData)) (hi : TL (fi ρ) s) (hk : ∀ a, kt (e a) = .ok (bs a)) (hf : ∀ b, TEq (fe (setsD (wipeD ρ own) (bs b))) (t b)) :
    TL (vcomp own fi kt tyes fe ρ) (s.bind fun xs => (tmap t xs).calm) := by
  have h := t_comp (ρ := ρ) (own := own) (fi := fi) (kt := kt) (ft := tyes) (fe := fe) (c := fun _ => .ok true) (t := t) bs (fun a => .ok a) hi (fun a => hk a) (fun b => rfl) hf
  simp only [R.bind_ok, tcomp_yes] at h
  exact h
theorem t_fil {own : List Nat} {fi : PEnv → R (List PyData)} {kt : PyData → R (List (Nat × PyData))} {ft : PEnv → R Bool} {fe : PEnv → R PyData} {s : R (List α)} {c : α → R Bool} {t : α → R γ} (bs : α → List (Nat × PyData)) (hi : TL (fi ρ) s) (hk : ∀ a, kt (e a) = .ok (bs a)) (hc : ∀ b, TB (ft (setsD (wipeD ρ own) (bs b))) (c b)) (hf : ∀ b, TEq (fe (setsD (wipeD ρ own) (bs b))) (t b)) :
    TL (vcomp own fi kt ft fe ρ) (s.bind fun xs => (tcomp c t xs).calm) := by
  have h := t_comp (ρ := ρ) (own := own) (fi := fi) (kt := kt) (ft := ft) (fe := fe) (c := c) (t := t) bs (fun a => .ok a) hi (fun a => hk a) hc hf
  simp only [R.bind_ok] at h
  exact h
theorem t_part {s : R Int} (h : TEq (f ρ) s) : TO (vpart f ρ) (b1 tpart s) := h.bind fun _ => rfl
theorem t_nopart : TO (vnopart ρ) (.ok none) := rfl
theorem cut_map {α β : Type} (g : α → β) (xs : List α) (lo hi : Option Int) : cutG (xs.map g) lo hi = (cutG xs lo hi).map g := by
  unfold cutG
  rw [List.length_map, List.map_take, List.map_drop]
theorem t_slice {l u : PEnv → R (Option Int)} {s : R (List α)} {a b : R (Option Int)} (h : TEq (f ρ) s) (hl : TO (l ρ) a) (hu : TO (u ρ) b) : TEq (vslice f l u ρ) (b3 tcut s a b) :=
  h.bind fun xs => hl.bind fun lo => hu.bind fun hi => by
    show R.ok (PyData.list (cutL _ _ _)) = _
    exact congrArg (fun z => R.ok (PyData.list z)) (cut_map e xs lo hi)
theorem t_frev {s : R (List α)} (h : TEq (f ρ) s) : TL (frev f ρ) (b1 trev s) := h.bind fun xs => by
  show R.ok _ = R.ok _
  rw [List.map_reverse]
theorem t_fsort {s : R (List Int)} (h : TEq (f ρ) s) : TL (fsort f ρ) (b1 tsort s) := h.bind fun xs => lsort_ints xs
def Co (c : α → R β) : Prop := ∀ a, TEq (.ok (e a)) (c a)
theorem t_co {x : R PyData} {s : R α} {c : α → R β} (hc : Co c) (h : TEq x s) : TEq x (b1 c s) := by
  cases s with
  | stuck => trivial
  | err c => exact h
  | ok a => rw [show x = .ok (e a) from h]; exact hc a
def cUp (a : α) : R PyData := .ok (e a)
@[simp] theorem cUp_ap (a : α) : cUp a = .ok (e a) := rfl
theorem Co.up : Co (cUp : α → R PyData) := fun _ => rfl
def cInt : PyData → R Int | .int i => .ok i | _ => .stuck
theorem Co.int : Co cInt := fun d => by cases d <;> first | exact rfl | trivial
@[simp] theorem cInt_ap (i : Int) : cInt (.int i) = .ok i := rfl
def cBool : PyData → R Bool | .bool i => .ok i | _ => .stuck
theorem Co.bool : Co cBool := fun d => by cases d <;> first | exact rfl | trivial
@[simp] theorem cBool_ap (i : Bool) : cBool (.bool i) = .ok i := rfl
def cStr : PyData → R Str | .str i => .ok i | _ => .stuck
theorem Co.str : Co cStr := fun d => by cases d <;> first | exact rfl | trivial
@[simp] theorem cStr_ap (i : Str) : cStr (.str i) = .ok i := rfl
def cNil (_ : List Empty) : R (List α) := .ok []
instance : Enc Empty := ⟨fun x => nomatch x⟩
theorem Co.nil : Co (cNil : List Empty → R (List α)) := fun xs => by cases xs with
  | nil => exact rfl
  | cons x _ => exact nomatch x
@[simp] theorem cNil_ap (x : List Empty) : (cNil x : R (List α)) = .ok [] := rfl
theorem tmap_Co {c : α → R β} (hc : Co c) : ∀ xs : List α, TL (.ok (xs.map e)) (tmap c xs)
  | [] => rfl
  | a :: as => by
    have h1 := hc a
    have ih := tmap_Co hc as
    unfold tmap
    cases hca : c a with
    | stuck => trivial
    | err s => trivial
    | ok b =>
      rw [hca] at h1
      simp only [calm_okk, R.bind_ok]
      cases hcs : tmap c as with
      | stuck => trivial
      | err s => rw [hcs] at ih; exact nomatch (show R.ok (as.map e) = .err s from ih)
      | ok bs =>
        rw [hcs] at ih
        have e1 : R.ok (as.map e) = .ok (bs.map e) := ih
        have e2 : R.ok (e a) = .ok (e b) := h1
        show R.ok (e a :: as.map e) = .ok (e b :: bs.map e)
        rw [R.ok.inj e1, R.ok.inj e2]
theorem Co.list {c : α → R β} (hc : Co c) : Co (tmap c) := fun xs => by
  have h := tmap_Co hc xs
  generalize tmap c xs = t at h
  cases t with
  | stuck => trivial
  | err s => exact nomatch (show R.ok (xs.map e) = .err s from h)
  | ok ys => exact congrArg (fun z => R.ok (PyData.list z)) (R.ok.inj (show R.ok (xs.map e) = .ok (ys.map e) from h))
def cSome {α : Type} : Option α → R α | some a => .ok a | none => .stuck
@[simp] theorem cSome_ap {α : Type} (a : α) : cSome (some a) = .ok a := rfl
theorem Co.some : Co (cSome : Option α → R α) := fun o => by cases o <;> first | exact rfl | trivial
def cJust {α : Type} (a : α) : R (Option α) := .ok (some a)
@[simp] theorem cJust_ap {α : Type} (a : α) : cJust a = .ok (some a) := rfl
def cNone {α : Type} (_ : Unit) : R (Option α) := .ok none
@[simp] theorem cNone_ap {α : Type} (u : Unit) : (cNone u : R (Option α)) = .ok none := rfl
theorem Co.none : Co (cNone : Unit → R (Option α)) := fun a => rfl
def cP2 {α β γ δ : Type} (c : α → R γ) (d : β → R δ) (p : α × β) : R (γ × δ) := (c p.1).bind fun x => (d p.2).bind fun y => .ok (x, y)
@[simp] theorem cP2_ap {α β γ δ : Type} (c : α → R γ) (d : β → R δ) (p : α × β) : cP2 c d p = (c p.1).bind fun x => (d p.2).bind fun y => .ok (x, y) := rfl
theorem Co.p2 {c : α → R γ} {d : β → R δ} (hc : Co c) (hd : Co d) : Co (cP2 c d) := fun p => by
  have h1 := hc p.1
  have h2 := hd p.2
  unfold cP2
  cases hx : c p.1 with
  | stuck => trivial
  | err s => rw [hx] at h1; exact nomatch (show R.ok (e p.1) = .err s from h1)
  | ok x =>
    cases hy : d p.2 with
    | stuck => trivial
    | err s => rw [hy] at h2; exact nomatch (show R.ok (e p.2) = .err s from h2)
    | ok y =>
      rw [hx] at h1; rw [hy] at h2
      show R.ok (PyData.tuple [e p.1, e p.2]) = .ok (PyData.tuple [e x, e y])
      rw [R.ok.inj (show R.ok (e p.1) = .ok (e x) from h1), R.ok.inj (show R.ok (e p.2) = .ok (e y) from h2)]
def c2V {α : Type} (p : α × α) : R (Tup α) := .ok ⟨[p.1, p.2]⟩
def c3V {α : Type} (p : T3 α α α) : R (Tup α) := .ok ⟨[p.a, p.b, p.c]⟩
def c4V {α : Type} (p : T4 α α α α) : R (Tup α) := .ok ⟨[p.a, p.b, p.c, p.d]⟩
def c1V {α : Type} (p : T1 α) : R (Tup α) := .ok ⟨[p.a]⟩
@[simp] theorem c1V_ap {α : Type} (p : T1 α) : c1V p = .ok ⟨[p.a]⟩ := rfl
@[simp] theorem c2V_ap {α : Type} (p : α × α) : c2V p = .ok ⟨[p.1, p.2]⟩ := rfl
@[simp] theorem c3V_ap {α : Type} (p : T3 α α α) : c3V p = .ok ⟨[p.a, p.b, p.c]⟩ := rfl
@[simp] theorem c4V_ap {α : Type} (p : T4 α α α α) : c4V p = .ok ⟨[p.a, p.b, p.c, p.d]⟩ := rfl
theorem Co.t1 : Co (c1V : T1 α → R (Tup α)) := fun _ => rfl
theorem Co.t2 : Co (c2V : α × α → R (Tup α)) := fun _ => rfl
theorem Co.t3 : Co (c3V : T3 α α α → R (Tup α)) := fun _ => rfl
theorem Co.t4 : Co (c4V : T4 α α α α → R (Tup α)) := fun _ => rfl
end
section
variable {α β γ δ α' β' γ' δ' : Type} [Enc α] [Enc β] [Enc γ] [Enc δ] [Enc α'] [Enc β'] [Enc γ'] [Enc δ']
theorem Co.inv {c : α → R β} (hc : Co c) (a : α) : c a = .stuck ∨ ∃ b, c a = .ok b ∧ e a = e b := by
  have h := hc a
  cases hx : c a with
  | stuck => exact .inl rfl
  | err s => rw [hx] at h; exact nomatch (show R.ok (e a) = .err s from h)
  | ok b => rw [hx] at h; exact .inr ⟨b, rfl, R.ok.inj (show R.ok (e a) = .ok (e b) from h)⟩
def cP3 (c : α → R α') (d : β → R β') (f : γ → R γ') (p : T3 α β γ) : R (T3 α' β' γ') := (c p.a).bind fun x => (d p.b).bind fun y => (f p.c).bind fun z => .ok ⟨x, y, z⟩
def cP4 (c : α → R α') (d : β → R β') (f : γ → R γ') (g : δ → R δ') (p : T4 α β γ δ) : R (T4 α' β' γ' δ') := (c p.a).bind fun x => (d p.b).bind fun y => (f p.c).bind fun z => (g p.d).bind fun w => .ok ⟨x, y, z, w⟩
@[simp] theorem cP3_ap (c : α → R α') (d : β → R β') (f : γ → R γ') (p : T3 α β γ) : cP3 c d f p = (c p.a).bind fun x => (d p.b).bind fun y => (f p.c).bind fun z => .ok ⟨x, y, z⟩ := rfl
@[simp] theorem cP4_ap (c : α → R α') (d : β → R β') (f : γ → R γ') (g : δ → R δ') (p : T4 α β γ δ) : cP4 c d f g p = (c p.a).bind fun x => (d p.b).bind fun y => (f p.c).bind fun z => (g p.d).bind fun w => .ok ⟨x, y, z, w⟩ := rfl
theorem Co.p3 {c : α → R α'} {d : β → R β'} {f : γ → R γ'} (hc : Co c) (hd : Co d) (hf : Co f) : Co (cP3 c d f) := fun p => by
  unfold cP3
  rcases hc.inv p.a with h | ⟨x, h, e1⟩
  · rw [h]; trivial
  rcases hd.inv p.b with h2 | ⟨y, h2, e2⟩
  · rw [h, h2]; trivial
  rcases hf.inv p.c with h3 | ⟨z, h3, e3⟩
  · rw [h, h2, h3]; trivial
  rw [h, h2, h3]
  show R.ok (PyData.tuple [e p.a, e p.b, e p.c]) = .ok (PyData.tuple [e x, e y, e z])
  rw [e1, e2, e3]
theorem Co.p4 {c : α → R α'} {d : β → R β'} {f : γ → R γ'} {g : δ → R δ'} (hc : Co c) (hd : Co d) (hf : Co f) (hg : Co g) : Co (cP4 c d f g) := fun p => by
  unfold cP4
  rcases hc.inv p.a with h | ⟨x, h, e1⟩
  · rw [h]; trivial
  rcases hd.inv p.b with h2 | ⟨y, h2, e2⟩
  · rw [h, h2]; trivial
  rcases hf.inv p.c with h3 | ⟨z, h3, e3⟩
  · rw [h, h2, h3]; trivial
  rcases hg.inv p.d with h4 | ⟨w, h4, e4⟩
  · rw [h, h2, h3, h4]; trivial
  rw [h, h2, h3, h4]
  show R.ok (PyData.tuple [e p.a, e p.b, e p.c, e p.d]) = .ok (PyData.tuple [e x, e y, e z, e w])
  rw [e1, e2, e3, e4]
end
section
variable {α : Type} [Enc α]
end
end VL

namespace VL
open PySem PySem.Spec PyProof.Rows L2
open Enc (e)

theorem cite_pos {p : Prop} (h : p) {α : Type} {a b : α} : @ite α p (Classical.propDecidable p) a b = a := if_pos h
section
variable {α β γ δ ε ζ η θ : Type} [Enc α] [Enc β] [Enc γ] [Enc δ] [Enc ε] [Enc ζ] [Enc η] [Enc θ]
theorem o_addI (a b : Int) : TEq (vadd (e a) (e b)) (taddI a b) := rfl
theorem o_subI (a b : Int) : TEq (vsub (e a) (e b)) (tsubI a b) := rfl
theorem o_mulI (a b : Int) : TEq (vmul (e a) (e b)) (tmulI a b) := by
  show TEq (if IntMulOk a b then _ else _) (if IntMulOk a b then _ else _)
  by_cases h : IntMulOk a b
  · rw [if_pos h, if_pos h]; exact rfl
  · rw [if_neg h, if_neg h]; trivial
theorem o_fdivI (a b : Int) : TEq (vfdiv (e a) (e b)) (tfdivI a b) := by
  by_cases h : 0 < b ∧ b < 2 ^ 250
  · rw [show tfdivI a b = .ok (a / b) from if_pos h]; exact if_pos h
  · rw [show tfdivI a b = .stuck from if_neg h]; trivial
theorem o_modI (a b : Int) : TEq (vmod (e a) (e b)) (tmodI a b) := by
  show TEq (if 0 < b then _ else _) (if 0 < b then _ else _)
  split
  · exact rfl
  · trivial
theorem o_powI (a b : Int) : TEq (vpow (e a) (e b)) (tpowI a b) := by
  by_cases h : 0 ≤ b ∧ b ≤ 1000 ∧ a.natAbs < 2 ^ 64
  · rw [show tpowI a b = .ok (a ^ b.toNat) from if_pos h]; exact if_pos h
  · rw [show tpowI a b = .stuck from if_neg h]; trivial
theorem o_negI (a : Int) : TEq (vneg (e a)) (tnegI a) := rfl
theorem o_ltI (a b : Int) : TEq (vlt (e a) (e b)) (tltI a b) := rfl
theorem o_leI (a b : Int) : TEq (vle (e a) (e b)) (tleI a b) := rfl
theorem o_gtI (a b : Int) : TEq (vgt (e a) (e b)) (tgtI a b) := rfl
theorem o_geI (a b : Int) : TEq (vge (e a) (e b)) (tgeI a b) := rfl
theorem o_addL (a b : List α) : TEq (vadd (e a) (e b)) (taddL a b) := by
  show TEq (if (a.map e).length + (b.map e).length ≤ sizeLine then _ else _) (if _ then _ else _)
  rw [List.length_map, List.length_map, szL]
  split
  · show R.ok (PyData.list _) = R.ok (PyData.list _)
    rw [List.map_append]
  · trivial
theorem atI_map {α β : Type} (f : α → β) (xs : List α) (i : Int) : atI (xs.map f) i = (atI xs i).map f := by
  unfold atI
  rw [List.length_map]
  cases ixN xs.length i <;> simp
theorem o_idx (a : List α) (b : Int) : TEq (vidx (e a) (e b)) (tidx a b) := by
  show TEq (match atI (a.map e) b with | some d => .ok d | none => .stuck) (match atI a b with | some d => .ok d | none => .stuck)
  rw [atI_map]
  cases atI a b <;> first | exact rfl | trivial
theorem o_idxV (a : Tup α) (b : Int) : TEq (vidx (e a) (e b)) (tidxV a b) := by
  show TEq (match atI (a.l.map e) b with | some d => .ok d | none => .stuck) (match atI a.l b with | some d => .ok d | none => .stuck)
  rw [atI_map]
  cases atI a.l b <;> first | exact rfl | trivial
def pj {α β : Type} (f : α → β) (a : α) : R β := .ok (f a)
@[simp] theorem pj_ap {α β : Type} (f : α → β) (a : α) : pj f a = .ok (f a) := rfl
theorem o_pj {n : Int} {p : α → β} (h : ∀ a : α, vidx (e a) (.int n) = .ok (e (p a)) := by intro _; rfl) {ρ : PEnv} {f : PEnv → R PyData} {s : R α} (ha : TEq (f ρ) s) : TEq (v2 vidx f (vC (.int n)) ρ) (b1 (pj p) s) := ha.bind fun a => h a
theorem vEq_T [q : EqE α] (a b : α) (h : EqE.ok a ∧ EqE.ok b) (hd : EqE.dep α ≤ 64) : vEq (e a) (e b) = .ok (@decide (a = b) (q.dec a b)) := by
  rw [vEq_ok (EqE.lay a h.1) (EqE.lay b h.2) hd hd, EqE.eqv a b h.1 h.2]
theorem o_eq [q : EqE α] (hd : EqE.dep α ≤ 64 := by decide) (a b : α) : TEq (veq (e a) (e b)) (teq a b) := by
  unfold teq
  by_cases h : EqE.ok a ∧ EqE.ok b
  · rw [if_pos h]; unfold veq; rw [vEq_T a b h hd]; exact rfl
  · rw [if_neg h]; trivial
theorem o_ne [q : EqE α] (hd : EqE.dep α ≤ 64 := by decide) (a b : α) : TEq (vne (e a) (e b)) (tne a b) := by
  unfold tne
  by_cases h : EqE.ok a ∧ EqE.ok b
  · rw [if_pos h]; unfold vne; rw [vEq_T a b h hd]; exact rfl
  · rw [if_neg h]; trivial
theorem any_T [q : EqE α] {a : α} (ha : EqE.ok a) : ∀ {xs : List α}, (∀ x ∈ xs, EqE.ok x) → ((xs.map e).any fun z => PyData.eqv z (e a)) = xs.any fun x => @decide (x = a) (q.dec x a)
  | [], _ => rfl
  | x :: xs, h => by
    rw [List.map_cons, List.any_cons, List.any_cons, any_T ha fun y hy => h y (List.mem_cons_of_mem _ hy), EqE.eqv x a (h x List.mem_cons_self) ha]
theorem o_in [q : EqE α] (hd : EqE.dep α + 1 ≤ 64 := by decide) (a : α) (b : List α) : TEq (vIn (e a) (e b)) (tin a b) := by
  unfold tin
  by_cases h : EqE.ok a ∧ EqE.ok b
  · rw [if_pos h]
    show TEq (vIn (e a) (.list (b.map e))) _
    rw [vIn_ok (EqE.lay a h.1) (EqE.lay b h.2) (by omega) hd, any_T h.1 h.2.2]; exact rfl
  · rw [if_neg h]; trivial
theorem o_nin [q : EqE α] (hd : EqE.dep α + 1 ≤ 64 := by decide) (a : α) (b : List α) : TEq (vNotIn (e a) (e b)) (tnin a b) := by
  unfold tnin
  by_cases h : EqE.ok a ∧ EqE.ok b
  · rw [if_pos h]
    show TEq (vNotIn (e a) (.list (b.map e))) _
    rw [vNotIn_ok (EqE.lay a h.1) (EqE.lay b h.2) (by omega) hd, any_T h.1 h.2.2]; exact rfl
  · rw [if_neg h]; trivial
noncomputable def tinV {α : Type} [Enc α] [EqE α] (a : α) (xs : Tup α) : R Bool := tin a xs.l
noncomputable def tninV {α : Type} [Enc α] [EqE α] (a : α) (xs : Tup α) : R Bool := tnin a xs.l
@[simp] theorem tinV_ap [EqE α] (a : α) (xs : Tup α) : tinV a xs = tin a xs.l := rfl
@[simp] theorem tninV_ap [EqE α] (a : α) (xs : Tup α) : tninV a xs = tnin a xs.l := rfl
theorem o_D2 {op : PyData → PyData → R PyData} (a b : PyData) : TEq (op (e a) (e b)) (op a b) := by
  show TEq (op a b) (op a b)
  cases op a b <;> first | exact rfl | trivial
def dB (op : PyData → PyData → R PyData) (a b : PyData) : R Bool := (op a b).bind cBool
def dB1 (op : PyData → R PyData) (a : PyData) : R Bool := (op a).bind cBool
@[simp] theorem dB_ap (op : PyData → PyData → R PyData) (a b : PyData) : dB op a b = (op a b).bind cBool := rfl
@[simp] theorem dB1_ap (op : PyData → R PyData) (a : PyData) : dB1 op a = (op a).bind cBool := rfl
theorem o_DB2 {op : PyData → PyData → R PyData} (a b : PyData) : TEq (op (e a) (e b)) (dB op a b) := t_co Co.bool (o_D2 a b)
theorem o_len (a : List α) : TEq (vlen [e a]) (tlen a) := by show R.ok (PyData.int ((a.map e).length)) = _; rw [List.length_map]; rfl
theorem o_int (a : Int) : TEq (vint1 [e a]) (tint a) := rfl
theorem o_abs (a : Int) : TEq (vabs [e a]) (tabs a) := rfl
theorem o_tupV (a : Tup α) : TEq (vtuple1 [e a]) (tid a) := rfl
theorem o_sum (a : List Int) : TEq (vsum [e a]) (tsum a) := vsum_ints a
theorem o_all (a : List Bool) : TEq (vall [e a]) (tallB a) := vall_bools a
theorem o_range1 (j : Int) : TL (vrange1 (e j)) (trange1 j) := by
  show TL (if rngOk 0 j then _ else _) (if rngOk 0 j then _ else _)
  split
  · show R.ok _ = R.ok _
    unfold rangeD rangeI; rw [List.map_map]; rfl
  · trivial
theorem o_range2 (i j : Int) : TL (vrange2 (e i) (e j)) (trange2 i j) := by
  show TL (if rngOk i j then _ else _) (if rngOk i j then _ else _)
  split
  · show R.ok _ = R.ok _
    unfold rangeD rangeI; rw [List.map_map]; rfl
  · trivial
theorem o_enum (xs : List α) : TL (venum (e xs)) (tenum xs) := by
  show R.ok (enumD (xs.map e)) = R.ok _
  unfold enumD
  congr 1
  apply List.ext_getElem?
  intro i
  simp only [List.getElem?_mapIdx, List.getElem?_map, Option.map_map]
  rfl
theorem o_truB (i : Bool) : TB (vtruth (e i)) (tid i) := rfl
def tK {α : Type} (b : Bool) (_ : α) : R Bool := .ok b
@[simp] theorem tK_ap {α : Type} (b : Bool) (a : α) : tK b a = .ok b := rfl
theorem o_K {op : PyData → R PyData} {b : Bool} (h : ∀ a : α, op (e a) = .ok (.bool b) := by intro _; rfl) (i : α) : TEq (op (e i)) (tK b i) := h i

abbrev oF (a : α) : O := .fz (e a)
abbrev oL {α : Type} (ox : α → O) (xs : List α) : O := .lst (xs.map ox)
theorem dF (a : α) : O.data (oF a) = e a := O.data_fz _
theorem dL {ox : α → O} (h : ∀ a, O.data (ox a) = e a) (xs : List α) : O.data (oL ox xs) = e xs := by
  show _ = PyData.list (xs.map e)
  rw [O.data_lst, List.map_map]
  congr 1
  exact List.map_congr_left fun a _ => h a
class LF (α : Type) [Enc α] : Prop where
  h : ∀ a : α, lf (e a) = true
instance : LF Int := ⟨lf_int⟩
instance : LF Bool := ⟨lf_bool⟩
instance : LF Str := ⟨lf_str⟩
instance : LF Unit := ⟨fun _ => lf_none⟩
instance [LF α] : LF (T1 α) := ⟨fun p => by show lf (.tuple _) = true; simp [LF.h]⟩
instance [LF α] [LF β] : LF (α × β) := ⟨fun p => by show lf (.tuple _) = true; simp [LF.h]⟩
instance [LF α] [LF β] [LF γ] : LF (T3 α β γ) := ⟨fun p => by show lf (.tuple _) = true; simp [LF.h]⟩
instance [LF α] [LF β] [LF γ] [LF δ] : LF (T4 α β γ δ) := ⟨fun p => by show lf (.tuple _) = true; simp [LF.h]⟩
instance [LF α] [LF β] [LF γ] [LF δ] [LF ε] : LF (T5 α β γ δ ε) := ⟨fun p => by show lf (.tuple _) = true; simp [LF.h]⟩
theorem lfs_map [LF α] : ∀ xs : List α, lfs (xs.map e) = true
  | [] => lfs_nil
  | x :: xs => by rw [List.map_cons, lfs_cons, LF.h, lfs_map xs]; rfl
instance [LF α] : LF (Tup α) := ⟨fun p => by show lf (.tuple _) = true; rw [lf_tuple]; exact lfs_map _⟩
instance [LF α] : LF (Option α) := ⟨fun p => by cases p with | none => exact lf_none | some a => exact LF.h a⟩
theorem t_exF {f : PEnv → R PyData} {ρ : OEnv} {s : R α} (h : TEq (f (viewF ρ)) s) : TEq (exF f ρ) s := h
theorem t_exB [LF α] {f : PEnv → R PyData} {ρ : OEnv} {s : R α} (h : TEq (f (viewB ρ)) s) : TEq (exB f ρ) s := by
  show TEq ((f (viewB ρ)).bind lfok) s
  cases s with
  | stuck => trivial
  | err c => show (f (viewB ρ)).bind lfok = _; rw [show f (viewB ρ) = .err c from h]; rfl
  | ok a => show (f (viewB ρ)).bind lfok = _; rw [show f (viewB ρ) = .ok (e a) from h]; show (if lf (e a) = true then _ else _) = _; rw [if_pos (LF.h a)]
theorem p_x {h : OEnv → R PyData} {ρ : OEnv} {s : R α} (hs : TEq (h ρ) s) : TQ (fun a : α => (oF a, ρ)) (oX h ρ) s := by
  cases s with
  | stuck => trivial
  | err c => show (h ρ).bind _ = _; rw [show h ρ = .err c from hs]; rfl
  | ok a => show (h ρ).bind _ = _; rw [show h ρ = .ok (e a) from hs]; rfl
theorem p_frF {f : PEnv → R (List PyData)} {ρ : OEnv} {s : R (List α)} (hs : TL (f (viewF ρ)) s) : TQ (fun a : List α => (oL oF a, ρ)) (oFrF f ρ) s := by
  cases s with
  | stuck => trivial
  | err c => show (f (viewF ρ)).bind _ = _; rw [show f (viewF ρ) = .err c from hs]; rfl
  | ok a => show (f (viewF ρ)).bind _ = _; rw [show f (viewF ρ) = .ok (a.map e) from hs]; show R.ok _ = R.ok _; rw [List.map_map]; rfl
def tpop {α : Type} (xs : List α) : R (α × List α) := match xs[xs.length - 1]? with | some a => .ok (a, xs.eraseIdx (xs.length - 1)) | none => .stuck
theorem p_pop {α : Type} {ox : α → O} {ρ : OEnv} (i : Nat) (xs : List α) (h : ρ[i]? = some (some (oL ox xs)) := by rfl) : TQ (fun p : α × List α => (ox p.1, ρ.set i (some (oL ox p.2)))) (oPop i ρ) (tpop xs) := by
  unfold oPop tpop; rw [h]
  simp only [List.length_map, List.getElem?_map]
  cases xs[xs.length - 1]? with
  | none => trivial
  | some a => show R.ok _ = R.ok _; rw [erase_map]
end
end VL

namespace VL
open PySem PySem.Spec PyProof.Rows L2
open Enc (e)
inductive TR (β l σ : Type) where
  | nx (s : σ)
  | bk (s : l)
  | ct (s : l)
  | rt (b : β)
  | err (c : Str)
  | stuck
def TR.bind {β l σ τ : Type} (x : TR β l σ) (k : σ → TR β l τ) : TR β l τ := match x with
  | .nx s => k s
  | .bk s => .bk s
  | .ct s => .ct s
  | .rt b => .rt b
  | .err c => .err c
  | .stuck => .stuck
def R.tr {α β l σ : Type} (x : R α) (k : α → TR β l σ) : TR β l σ := match x with
  | .ok a => k a
  | .err c => .err c
  | .stuck => .stuck
def tite {β l σ : Type} (c : R Bool) (s t : TR β l σ) : TR β l σ := c.tr fun b => if b then s else t
def forT {α β l σ : Type} (f : α → σ → TR β σ σ) : List α → σ → TR β l σ
  | [], s => .nx s
  | a :: as, s => match f a s with
    | .nx s' => forT f as s'
    | .ct s' => forT f as s'
    | .bk s' => .nx s'
    | .rt b => .rt b
    | .err c => .err c
    | .stuck => .stuck
def TR.fn {β l σ : Type} (x : TR β l σ) (d : σ → R β) : R β := match x with
  | .nx s => d s
  | .rt b => .ok b
  | .err c => .err c
  | _ => .stuck
def ttry {β l σ : Type} (s : TR β l σ) (tb : Str → Option Bool) (h : TR β l σ) : TR β l σ := match s with
  | .err c => match tb c with
    | some true => (match h with
      | .err _ => .stuck
      | r => r)
    | some false => .err c
    | none => .stuck
  | r => r
section
variable {β l σ τ α : Type}
@[simp] theorem TR.bind_nx (s : σ) (k : σ → TR β l τ) : TR.bind (.nx s) k = k s := rfl
@[simp] theorem TR.bind_bk (s : l) (k : σ → TR β l τ) : TR.bind (.bk s) k = .bk s := rfl
@[simp] theorem TR.bind_ct (s : l) (k : σ → TR β l τ) : TR.bind (.ct s) k = .ct s := rfl
@[simp] theorem TR.bind_rt (s : β) (k : σ → TR β l τ) : TR.bind (.rt s) k = .rt s := rfl
@[simp] theorem TR.bind_err (c : Str) (k : σ → TR β l τ) : TR.bind (.err c) k = .err c := rfl
@[simp] theorem R.tr_ok (a : α) (k : α → TR β l σ) : R.tr (.ok a) k = k a := rfl
@[simp] theorem R.tr_err (c : Str) (k : α → TR β l σ) : R.tr (.err c) k = .err c := rfl
@[simp] theorem R.tr_bind {γ : Type} (x : R γ) (f : γ → R α) (k : α → TR β l σ) : R.tr (x.bind f) k = x.tr fun c => (f c).tr k := by cases x <;> rfl
@[simp] theorem R.tr_ite (p : Prop) [Decidable p] (x y : R α) (k : α → TR β l σ) : R.tr (if p then x else y) k = if p then x.tr k else y.tr k := by split <;> rfl
@[simp] theorem TR.bind_ite (p : Prop) [Decidable p] (x y : TR β l σ) (k : σ → TR β l τ) : TR.bind (if p then x else y) k = if p then x.bind k else y.bind k := by split <;> rfl
@[simp] theorem TR.bind_tr (x : R α) (f : α → TR β l σ) (k : σ → TR β l τ) : TR.bind (x.tr f) k = x.tr fun a => (f a).bind k := by cases x <;> rfl
@[simp] theorem TR.bind_bind {υ : Type} (x : TR β l σ) (f : σ → TR β l τ) (k : τ → TR β l υ) : TR.bind (x.bind f) k = x.bind fun a => (f a).bind k := by cases x <;> rfl
@[simp] theorem tite_ap (c : R Bool) (s t : TR β l σ) : tite c s t = c.tr fun b => if b then s else t := rfl
@[simp] theorem forT_nil (f : α → σ → TR β σ σ) (s : σ) : (forT f [] s : TR β l σ) = .nx s := rfl
@[simp] theorem TR.fn_nx (s : σ) (d : σ → R β) : TR.fn (.nx s : TR β l σ) d = d s := rfl
@[simp] theorem TR.fn_rt (b : β) (d : σ → R β) : TR.fn (.rt b : TR β l σ) d = .ok b := rfl
@[simp] theorem TR.fn_err (c : Str) (d : σ → R β) : TR.fn (.err c : TR β l σ) d = .err c := rfl
@[simp] theorem TR.fn_ite (p : Prop) [Decidable p] (x y : TR β l σ) (d : σ → R β) : TR.fn (if p then x else y) d = if p then x.fn d else y.fn d := by split <;> rfl
@[simp] theorem TR.fn_tr (x : R α) (f : α → TR β l σ) (d : σ → R β) : TR.fn (x.tr f) d = x.bind fun a => (f a).fn d := by cases x <;> rfl
end
def SQ {β l σ : Type} (E : σ → OEnv → Prop) (L : l → OEnv → Prop) (er : O → OEnv → β → Prop) (Z : OEnv → Prop) (r : SR) : TR β l σ → Prop
  | .nx s => ∃ ρ, r = .nx ρ ∧ E s ρ
  | .bk s => ∃ ρ, r = .bk ρ ∧ L s ρ
  | .ct s => ∃ ρ, r = .ct ρ ∧ L s ρ
  | .rt b => ∃ o ρ, r = .rt o ρ ∧ er o ρ b
  | .err c => ∃ ρ, r = .err c ρ ∧ Z ρ
  | .stuck => True
section
variable {β l σ τ α γ : Type} {E : σ → OEnv → Prop} {E1 : τ → OEnv → Prop} {L : l → OEnv → Prop} {er : O → OEnv → β → Prop} {Z : OEnv → Prop} {ρ : OEnv} {g h k g1 : OEnv → SR}
theorem q_nx (s : σ) (h : E s ρ) : SQ E L er Z (sNx ρ) (.nx s) := ⟨ρ, rfl, h⟩
theorem SR.seq_nxr (r : SR) : SR.seq r sNx = r := by cases r <;> rfl
theorem q_end {t : TR β l σ} (h : SQ E L er Z (seq g sNx ρ) t) : SQ E L er Z (g ρ) t := by
  have : seq g sNx ρ = g ρ := SR.seq_nxr _
  rw [this] at h; exact h
theorem q_nxs {t : TR β l σ} (h : SQ E L er Z (k ρ) t) : SQ E L er Z (seq sNx k ρ) t := h
theorem q_assoc {t : TR β l σ} (hh : SQ E L er Z (seq g (seq h k) ρ) t) : SQ E L er Z (seq (seq g h) k ρ) t := by
  have : seq (seq g h) k ρ = seq g (seq h k) ρ := by
    show SR.seq (SR.seq (g ρ) h) k = SR.seq (g ρ) (seq h k)
    cases g ρ <;> rfl
  rw [this]; exact hh
theorem q_pre {T : OEnv → OEnv} {t : TR β l σ} (hh : SQ E L er Z (seq g k (T ρ)) t) : SQ E L er Z (seq (pre T g) k ρ) t := hh
theorem q_pre0 {T : OEnv → OEnv} {t : TR β l σ} (hh : SQ E L er Z (g (T ρ)) t) : SQ E L er Z (pre T g ρ) t := hh
theorem freeze1 [Enc α] {ox : α → O} {is : List Nat} (i : Nat) (a : α) (hd : ∀ a, O.data (ox a) = e a) (h : ρ[i]? = some (some (ox a)) := by rfl) : freeze (i :: is) ρ = freeze is (ρ.set i (some (oF a))) := by
  rw [freeze_cons]
  unfold freezeAt; rw [h]
  show freeze is (ρ.set i (some (.fz (O.data (ox a))))) = _
  rw [hd]
theorem q_at {ρ' : OEnv} {t : TR β l σ} (he : ρ = ρ') (hh : SQ E L er Z (g ρ') t) : SQ E L er Z (g ρ) t := by rw [he]; exact hh
theorem SQ.sr {α γ : Type} {f : α → γ} {x : R γ} {t : R α} {kk : γ → SR} {ll : α → TR β l σ} (h : TQ f x t) (z : Z ρ) (hk : ∀ a, SQ E L er Z (kk (f a)) (ll a)) : SQ E L er Z (x.sr ρ kk) (t.tr ll) := by
  cases t with
  | stuck => trivial
  | err c => rw [show x = .err c from h]; exact ⟨ρ, rfl, z⟩
  | ok a => rw [show x = .ok (f a) from h]; exact hk a
theorem seq_sr {γ : Type} (x : R γ) (kk : γ → SR) : SR.seq (x.sr ρ kk) k = x.sr ρ fun c => (kk c).seq k := by cases x <;> rfl
theorem q_set {i : Nat} {ho : OEnv → R (O × OEnv)} {ox : α → O × OEnv} {t : R α} {ll : α → TR β l σ} (h : TQ ox (ho ρ) t) (z : Z ρ) (hk : ∀ a, SQ E L er Z (k ((ox a).2.set i (some (ox a).1))) (ll a)) : SQ E L er Z (seq (sSet i ho) k ρ) (t.tr ll) := by
  show SQ E L er Z (SR.seq (R.sr _ _ _) k) _
  rw [seq_sr]
  exact SQ.sr h z hk
theorem q_ret {ho : OEnv → R (O × OEnv)} {ox : α → O × OEnv} {f : α → β} {t : R α} (h : TQ ox (ho ρ) t) (z : Z ρ) (hr : ∀ a, er (ox a).1 (ox a).2 (f a)) : SQ E L er Z (seq (sRet ho) k ρ) (t.tr fun a => .rt (f a)) := by
  show SQ E L er Z (SR.seq (R.sr _ _ _) k) _
  rw [seq_sr]
  exact SQ.sr h z fun a => ⟨_, _, rfl, hr a⟩
theorem q_raise {c : Str} (z : Z ρ) : SQ E L er Z (seq (sRaise c) k ρ) (.err c) := ⟨ρ, rfl, z⟩
theorem q_expr {ho : OEnv → R (O × OEnv)} {ox : α → O × OEnv} {t : R α} {ll : α → TR β l σ} (h : TQ ox (ho ρ) t) (z : Z ρ) (hk : ∀ a, SQ E L er Z (k (ox a).2) (ll a)) : SQ E L er Z (seq (sExpr ho) k ρ) (t.tr ll) := by
  show SQ E L er Z (SR.seq (R.sr _ _ _) k) _
  rw [seq_sr]
  exact SQ.sr h z hk
/- a test whose ways go on, each for itself -/
theorem q_if {c : PEnv → R Bool} {s : R Bool} {t1 t2 : TR β l σ} (hc : TB (c (viewB ρ)) s) (z : Z ρ) (h1 : SQ E L er Z (seq g k ρ) t1) (h2 : SQ E L er Z (seq h k ρ) t2) : SQ E L er Z (seq (sIf (tB c) g h) k ρ) (tite s t1 t2) := by
  show SQ E L er Z (SR.seq (R.sr _ _ _) k) _
  rw [seq_sr]
  refine SQ.sr hc z fun b => ?_
  cases b
  · exact h2
  · exact h1
theorem SQ.bind {r : SR} {t : TR β l τ} {ll : τ → TR β l σ} (h : SQ E1 L er Z r t) (hk : ∀ s ρ, E1 s ρ → SQ E L er Z (k ρ) (ll s)) : SQ E L er Z (r.seq k) (t.bind ll) := by
  cases t with
  | stuck => trivial
  | nx s => obtain ⟨ρ, e1, e2⟩ := h; rw [e1]; exact hk s ρ e2
  | bk s => obtain ⟨ρ, e1, e2⟩ := h; rw [e1]; exact ⟨ρ, rfl, e2⟩
  | ct s => obtain ⟨ρ, e1, e2⟩ := h; rw [e1]; exact ⟨ρ, rfl, e2⟩
  | rt s => obtain ⟨o, ρ, e1, e2⟩ := h; rw [e1]; exact ⟨o, ρ, rfl, e2⟩
  | err c => obtain ⟨ρ, e1, e2⟩ := h; rw [e1]; exact ⟨ρ, rfl, e2⟩
/- ways that meet again -/
theorem q_join {Es : τ → OEnv} {t : TR β l τ} {ll : τ → TR β l σ} (h : SQ (fun s ρ => ρ = Es s) L er Z (g ρ) t) (hk : ∀ s, SQ E L er Z (k (Es s)) (ll s)) : SQ E L er Z (seq g k ρ) (t.bind ll) :=
  SQ.bind h fun s ρ e1 => by rw [e1]; exact hk s
theorem forL_T {α' : Type} [Enc α] {kt : PyData → R (List (Nat × PyData))} {kl : OEnv → OEnv} {gb : OEnv → SR} {Es : τ → OEnv} {bs : α' → List (Nat × PyData)} {c : α → R α'} {body : α' → τ → TR β τ τ} (hk : ∀ a, TQ bs (kt (e a)) (c a)) (hkl : ∀ s, kl (Es s) = Es s)
    (hb : ∀ b s, SQ (fun s ρ => kl ρ = Es s) (fun s ρ => ρ = Es s) er Z (gb (setsO (Es s) (bs b))) (body b s)) : ∀ (xs : List α) (s : τ), SQ (fun s ρ => ρ = Es s) L er Z (forL kt kl gb (xs.map e) (Es s)) (forT (fun a s => (c a).calm.tr fun b => body b s) xs s : TR β l τ)
  | [], s => ⟨_, rfl, rfl⟩
  | a :: as, s => by
    have h1 := hk a
    simp only [List.map_cons, forL, forT]
    cases hca : c a with
    | stuck => trivial
    | err x => trivial
    | ok b =>
      rw [hca] at h1
      rw [show kt (e a) = .ok (bs b) from h1]
      simp only [R.tr_ok, calm_okk]
      have h2 := hb b s
      cases ht : body b s with
      | stuck => trivial
      | nx s' =>
        rw [ht] at h2; obtain ⟨ρ', e1, e2⟩ := h2
        rw [e1]; simp only [e2]
        exact forL_T hk hkl hb as s'
      | ct s' =>
        rw [ht] at h2; obtain ⟨ρ', e1, e2⟩ := h2
        rw [e1]; simp only [e2, hkl]
        exact forL_T hk hkl hb as s'
      | bk s' => rw [ht] at h2; obtain ⟨ρ', e1, e2⟩ := h2; rw [e1]; exact ⟨_, rfl, e2⟩
      | rt b => rw [ht] at h2; obtain ⟨o, ρ', e1, e2⟩ := h2; rw [e1]; exact ⟨_, _, rfl, e2⟩
      | err b => rw [ht] at h2; obtain ⟨ρ', e1, e2⟩ := h2; rw [e1]; exact ⟨_, rfl, e2⟩
theorem forL_T0 [Enc α] {kt : PyData → R (List (Nat × PyData))} {kl : OEnv → OEnv} {gb : OEnv → SR} {Es : τ → OEnv} {bs : α → List (Nat × PyData)} {body : α → τ → TR β τ τ} (hk : ∀ a, kt (e a) = .ok (bs a)) (hkl : ∀ s, kl (Es s) = Es s)
    (hb : ∀ b s, SQ (fun s ρ => kl ρ = Es s) (fun s ρ => ρ = Es s) er Z (gb (setsO (Es s) (bs b))) (body b s)) (xs : List α) (s : τ) : SQ (fun s ρ => ρ = Es s) L er Z (forL kt kl gb (xs.map e) (Es s)) (forT body xs s : TR β l τ) :=
  forL_T (c := fun a => .ok a) (bs := bs) (fun a => hk a) hkl hb xs s
theorem q_for [Enc α] {hi : OEnv → R (List PyData)} {kt : PyData → R (List (Nat × PyData))} {kl : OEnv → OEnv} {gb : OEnv → SR} {t : R (List α)} {body : α → τ → TR β τ τ} {ll : τ → TR β l σ} (Es : τ → OEnv) (bs : α → List (Nat × PyData)) (s0 : τ) (h : TL (hi ρ) t) (z : Z ρ) (he : ρ = Es s0) (hk : ∀ a, kt (e a) = .ok (bs a)) (hkl : ∀ s, kl (Es s) = Es s)
    (hb : ∀ b s, SQ (fun s ρ => kl ρ = Es s) (fun s ρ => ρ = Es s) er Z (gb (setsO (Es s) (bs b))) (body b s)) (hr : ∀ s, SQ E L er Z (k (Es s)) (ll s)) : SQ E L er Z (seq (sFor hi kt kl gb) k ρ) (t.tr fun xs => (forT body xs s0).bind ll) := by
  show SQ E L er Z (SR.seq (R.sr _ _ _) k) _
  rw [seq_sr]
  refine SQ.sr h z fun xs => ?_
  rw [he]
  exact SQ.bind (forL_T0 hk hkl hb xs s0) fun s ρ e1 => by rw [e1]; exact hr s
theorem q_forK [Enc α] {hi : OEnv → R (List PyData)} {T : OEnv → OEnv} {kt : PyData → R (List (Nat × PyData))} {kl : OEnv → OEnv} {gb : OEnv → SR} {t : R (List α)} {body : α → τ → TR β τ τ} {ll : τ → TR β l σ} (Es : τ → OEnv) (bs : α → List (Nat × PyData)) (s0 : τ) (h : TL (hi ρ) t) (z : Z ρ) (he : T ρ = Es s0) (hk : ∀ a, kt (e a) = .ok (bs a)) (hkl : ∀ s, kl (Es s) = Es s)
    (hb : ∀ b s, SQ (fun s ρ => kl ρ = Es s) (fun s ρ => ρ = Es s) er Z (gb (setsO (Es s) (bs b))) (body b s)) (hr : ∀ s, SQ E L er Z (k (Es s)) (ll s)) : SQ E L er Z (seq (sForK hi T kt kl gb) k ρ) (t.tr fun xs => (forT body xs s0).bind ll) := by
  show SQ E L er Z (SR.seq (R.sr _ _ _) k) _
  rw [seq_sr]
  refine SQ.sr h z fun xs => ?_
  rw [he]
  exact SQ.bind (forL_T0 hk hkl hb xs s0) fun s ρ e1 => by rw [e1]; exact hr s
theorem SQ.ne {r : SR} {t : TR β l τ} (h : SQ E1 L er Z r t) (ht : t ≠ .stuck) : r ≠ .stuck := by
  cases t with
  | stuck => exact absurd rfl ht
  | nx s => obtain ⟨ρ', e1, _⟩ := h; rw [e1]; exact nofun
  | ct s => obtain ⟨ρ', e1, _⟩ := h; rw [e1]; exact nofun
  | bk s => obtain ⟨ρ', e1, _⟩ := h; rw [e1]; exact nofun
  | rt s => obtain ⟨_, ρ', e1, _⟩ := h; rw [e1]; exact nofun
  | err s => obtain ⟨ρ', e1, _⟩ := h; rw [e1]; exact nofun
theorem q_tup {α' : Type} [Enc α] {kt : PyData → R (List (Nat × PyData))} {hx : OEnv → R PyData} {t : R α} {ll : α' → TR β l σ} (c : α → R α') (bs : α' → List (Nat × PyData)) (h : TEq (hx ρ) t) (z : Z ρ) (hk : ∀ a, TQ bs (kt (e a)) (c a)) (hr : ∀ b, SQ E L er Z (k (setsO ρ (bs b))) (ll b)) : SQ E L er Z (seq (sTup kt hx) k ρ) (t.tr fun a => (c a).calm.tr ll) := by
  show SQ E L er Z (SR.seq (R.sr _ _ _) k) _
  rw [seq_sr]
  refine SQ.sr h z fun a => ?_
  have h1 := hk a
  cases hca : c a with
  | stuck => trivial
  | err x => trivial
  | ok b => rw [hca] at h1; rw [show kt (e a) = .ok (bs b) from h1]; exact hr b
theorem q_tup0 [Enc α] {kt : PyData → R (List (Nat × PyData))} {hx : OEnv → R PyData} {t : R α} {ll : α → TR β l σ} (bs : α → List (Nat × PyData)) (h : TEq (hx ρ) t) (z : Z ρ) (hk : ∀ a, kt (e a) = .ok (bs a)) (hr : ∀ b, SQ E L er Z (k (setsO ρ (bs b))) (ll b)) : SQ E L er Z (seq (sTup kt hx) k ρ) (t.tr ll) := by
  have := q_tup (k := k) (er := er) (E := E) (L := L) (c := fun a => .ok a) bs h z (fun a => hk a) hr
  simpa only [calm_okk, R.tr_ok] using this
def tapp {α : Type} (xs : List α) (a : α) : R (List α) := if xs.length < 16777216 then .ok (xs ++ [a]) else .stuck
theorem q_app {ox : α → O} {ho : OEnv → R (O × OEnv)} {t : R α} {ll : List α → TR β l σ} (i : Nat) (xs : List α) (h : TQ (fun a => (ox a, ρ)) (ho ρ) t) (z : Z ρ) (hr : ∀ ys, SQ E L er Z (k (ρ.set i (some (oL ox ys)))) (ll ys)) (hi : ρ[i]? = some (some (oL ox xs)) := by rfl) : SQ E L er Z (seq (sApp i ho) k ρ) (t.tr fun a => (tapp xs a).tr ll) := by
  show SQ E L er Z (SR.seq (sApp i ho ρ) k) _
  unfold sApp
  rw [hi]
  show SQ E L er Z (SR.seq (R.sr _ _ _) k) _
  rw [seq_sr]
  refine SQ.sr h z fun a => ?_
  unfold tapp
  simp only [hi, List.length_map, szL]
  split
  · show SQ _ _ _ _ (k _) (ll (xs ++ [a]))
    have := hr (xs ++ [a])
    rw [show oL ox (xs ++ [a]) = O.lst (xs.map ox ++ [ox a]) by simp [oL]] at this
    exact this
  · trivial
def tset {α : Type} (xs : List α) (j : Int) (a : α) : R (List α) := match ixN xs.length j with | some n => .ok (xs.set n a) | none => .stuck
theorem q_asn {t : TR β l σ} (h : SQ E L er Z (g ρ) t) : SQ E L er Z (seq g sNx ρ) t := by
  have : seq g sNx ρ = g ρ := SR.seq_nxr _
  rw [this]; exact h
theorem t_x1 {α γ : Type} [Enc α] [Enc γ] {op : PyData → R (List PyData)} {top : α → R (List γ)} {h : OEnv → R PyData} {s : R α} (ho : ∀ a, TL (op (e a)) (top a)) (ha : TEq (h ρ) s) : TL (x1 op h ρ) (b1 top s) := ha.bind ho
theorem t_x2 {α β γ : Type} [Enc α] [Enc β] [Enc γ] {op : PyData → PyData → R (List PyData)} {top : α → β → R (List γ)} {h h' : OEnv → R PyData} {s : R α} {t : R β} (ho : ∀ a b, TL (op (e a) (e b)) (top a b)) (ha : TEq (h ρ) s) (hb : TEq (h' ρ) t) : TL (x2 op h h' ρ) (b2 top s t) := ha.bind fun a => hb.bind fun b => ho a b
theorem q_try {gb gs : OEnv → SR} {tb : Str → Option Bool} {Zb : OEnv → Prop} {Es : τ → OEnv} {s t : TR β l τ} {ll : τ → TR β l σ} (h1 : SQ (fun s ρ => ρ = Es s) L er Zb (gb ρ) s) (h2 : ∀ ρ, Zb ρ → SQ (fun s ρ => ρ = Es s) L er (fun _ => True) (gs ρ) t) (hz : ∀ ρ, Zb ρ → Z ρ) (hr : ∀ s, SQ E L er Z (k (Es s)) (ll s)) : SQ E L er Z (seq (sTryO gb tb gs) k ρ) ((ttry s tb t).bind ll) := by
  refine SQ.bind (E1 := fun s ρ => ρ = Es s) ?_ fun s ρ e1 => by rw [e1]; exact hr s
  show SQ _ _ _ _ (catchO tb gs (gb ρ)) _
  cases s with
  | stuck => trivial
  | nx s => obtain ⟨ρ', e1, e2⟩ := h1; rw [e1]; exact ⟨_, rfl, e2⟩
  | ct s => obtain ⟨ρ', e1, e2⟩ := h1; rw [e1]; exact ⟨_, rfl, e2⟩
  | bk s => obtain ⟨ρ', e1, e2⟩ := h1; rw [e1]; exact ⟨_, rfl, e2⟩
  | rt s => obtain ⟨_, ρ', e1, e2⟩ := h1; rw [e1]; exact ⟨_, _, rfl, e2⟩
  | err c =>
    obtain ⟨ρ', e1, e2⟩ := h1
    rw [e1]
    unfold catchO ttry
    dsimp only
    cases tb c with
    | none => trivial
    | some b =>
      cases b with
      | false => exact ⟨_, rfl, hz _ e2⟩
      | true =>
        have h3 := h2 ρ' e2
        dsimp only
        cases t with
        | stuck => trivial
        | nx s => obtain ⟨ρ', e1, e2⟩ := h3; rw [e1]; exact ⟨_, rfl, e2⟩
        | ct s => obtain ⟨ρ', e1, e2⟩ := h3; rw [e1]; exact ⟨_, rfl, e2⟩
        | bk s => obtain ⟨ρ', e1, e2⟩ := h3; rw [e1]; exact ⟨_, rfl, e2⟩
        | rt s => obtain ⟨_, ρ', e1, e2⟩ := h3; rw [e1]; exact ⟨_, _, rfl, e2⟩
        | err s => trivial
end
theorem fn_T {β l σ : Type} [Enc β] {g : OEnv → SR} {ρ : OEnv} {E : σ → OEnv → Prop} {L : l → OEnv → Prop} {t : TR β l σ} {d : σ → R β} (h : SQ E L (fun o _ b => O.data o = e b) (fun _ => True) (g ρ) t) (hd : ∀ s, TEq (.ok .none) (d s)) : TEq (fin (g ρ)) (t.fn d) := by
  cases t with
  | stuck => trivial
  | nx s => obtain ⟨ρ', e1, e2⟩ := h; rw [e1]; exact hd s
  | ct s => trivial
  | bk s => trivial
  | rt s => obtain ⟨_, ρ', e1, e2⟩ := h; rw [e1]; show R.ok _ = R.ok _; rw [e2]
  | err c => obtain ⟨ρ', e1, e2⟩ := h; rw [e1]; exact rfl
end VL

namespace VL
open PySem PySem.Spec PyProof.Rows L2
open Enc (e)
section
variable {α β l σ γ : Type}
theorem forT_nx {f : α → σ → TR β σ σ} {a : α} {as : List α} {s s' : σ} (h : f a s = .nx s') : (forT f (a :: as) s : TR β l σ) = forT f as s' := by simp only [forT, h]
theorem forT_ct {f : α → σ → TR β σ σ} {a : α} {as : List α} {s s' : σ} (h : f a s = .ct s') : (forT f (a :: as) s : TR β l σ) = forT f as s' := by simp only [forT, h]
theorem forT_rt {f : α → σ → TR β σ σ} {a : α} {as : List α} {s : σ} {b : β} (h : f a s = .rt b) : (forT f (a :: as) s : TR β l σ) = .rt b := by simp only [forT, h]
def TR.go (r : TR β σ σ) (s : σ) : Prop := r = .nx s ∨ r = .ct s
theorem forT_go {f : α → σ → TR β σ σ} {a : α} {as : List α} {s s' : σ} (h : (f a s).go s') : (forT f (a :: as) s : TR β l σ) = forT f as s' := h.elim forT_nx forT_ct
theorem forT_ix {f : α → σ → TR β σ σ} (P : Nat → σ → Prop) : ∀ (xs : List α) (j : Nat) (s : σ), P j s → (∀ i a s, xs[i]? = some a → P (j + i) s → ∃ s', (f a s).go s' ∧ P (j + i + 1) s') → ∃ s', (forT f xs s : TR β l σ) = .nx s' ∧ P (j + xs.length) s'
  | [], j, s, hp, _ => ⟨s, rfl, hp⟩
  | a :: as, j, s, hp, h => by
    obtain ⟨s1, h1, h2⟩ := h 0 a s rfl hp
    obtain ⟨s2, h3, h4⟩ := forT_ix P as (j + 1) s1 h2 fun i b s hb hp' => by
      have := h (i + 1) b s (by simpa using hb) (by rw [show j + (i + 1) = j + 1 + i by omega]; exact hp')
      rw [show j + (i + 1) + 1 = j + 1 + i + 1 by omega] at this
      exact this
    exact ⟨s2, by rw [forT_go h1]; exact h3, by rw [List.length_cons, show j + (as.length + 1) = j + 1 + as.length by omega]; exact h4⟩
theorem forT_chk {f : α → σ → TR β σ σ} (bad : α → Bool) (b : β) {s : σ} : ∀ {xs : List α}, (∀ a ∈ xs, (bad a = true → f a s = .rt b) ∧ (bad a = false → (f a s).go s)) → (forT f xs s : TR β l σ) = if xs.any bad = true then .rt b else .nx s
  | [], _ => rfl
  | a :: as, h => by
    obtain ⟨h1, h2⟩ := h a List.mem_cons_self
    have ih := forT_chk bad b (xs := as) fun x hx => h x (List.mem_cons_of_mem _ hx)
    cases hb : bad a with
    | true => rw [forT_rt (h1 hb), List.any_cons, hb]; rfl
    | false => rw [forT_go (h2 hb), ih, List.any_cons, hb]; rfl
theorem forT_pass {f : α → σ → TR β σ σ} {s : σ} : ∀ {xs : List α}, (∀ a ∈ xs, (f a s).go s) → (forT f xs s : TR β l σ) = .nx s
  | [], _ => rfl
  | a :: as, h => by rw [forT_go (h a List.mem_cons_self)]; exact forT_pass fun x hx => h x (List.mem_cons_of_mem _ hx)
theorem tmap_ok {f : α → R γ} (g : α → γ) : ∀ {xs : List α}, (∀ a ∈ xs, f a = .ok (g a)) → tmap f xs = .ok (xs.map g)
  | [], _ => rfl
  | a :: as, h => by
    simp only [tmap, h a List.mem_cons_self, calm_okk, R.bind_ok, tmap_ok g fun x hx => h x (List.mem_cons_of_mem _ hx), List.map_cons]
theorem tmap_ex {f : α → R γ} (S : γ → Prop) : ∀ {xs : List α}, (∀ a ∈ xs, ∃ y, f a = .ok y ∧ S y) → ∃ ys, tmap f xs = .ok ys ∧ ys.length = xs.length ∧ ∀ y ∈ ys, S y
  | [], _ => ⟨[], rfl, rfl, fun _ h => nomatch h⟩
  | a :: as, h => by
    obtain ⟨y, h1, h2⟩ := h a List.mem_cons_self
    obtain ⟨ys, h3, h4, h5⟩ := tmap_ex S (xs := as) fun x hx => h x (List.mem_cons_of_mem _ hx)
    refine ⟨y :: ys, by simp only [tmap, h1, calm_okk, R.bind_ok, h3], by simp [h4], fun z hz => ?_⟩
    rcases List.mem_cons.mp hz with q | q
    · subst q; exact h2
    · exact h5 z q
theorem tcomp_ok {c : α → R Bool} {f : α → R γ} (p : α → Bool) (g : α → γ) : ∀ {xs : List α}, (∀ a ∈ xs, c a = .ok (p a) ∧ (p a = true → f a = .ok (g a))) → tcomp c f xs = .ok ((xs.filter p).map g)
  | [], _ => rfl
  | a :: as, h => by
    obtain ⟨h1, h2⟩ := h a List.mem_cons_self
    have ih := tcomp_ok p g (xs := as) fun x hx => h x (List.mem_cons_of_mem _ hx)
    cases hp : p a with
    | true => simp only [tcomp, h1, hp, calm_okk, R.bind_ok, if_true, h2 hp, ih, List.filter_cons, List.map_cons]
    | false => simp only [tcomp, h1, hp, calm_okk, R.bind_ok, ih, List.filter_cons]; rfl
theorem tidx_nat {xs : List α} {k : Nat} {a : α} (h : xs[k]? = some a) : tidx xs (k : Int) = .ok a := by
  unfold tidx; rw [atI_nat, h]
theorem tidx_lt {xs : List α} {k : Nat} (h : k < xs.length) : tidx xs (k : Int) = .ok xs[k] := tidx_nat (by simp [h])
@[simp] theorem tidx_0 (a : α) (xs : List α) : tidx (a :: xs) 0 = .ok a := tidx_nat (k := 0) rfl
@[simp] theorem tidx_1 (a b : α) (xs : List α) : tidx (a :: b :: xs) 1 = .ok b := tidx_nat (k := 1) rfl
@[simp] theorem tidx_2 (a b c : α) (xs : List α) : tidx (a :: b :: c :: xs) 2 = .ok c := tidx_nat (k := 2) rfl
@[simp] theorem tidx_3 (a b c d : α) (xs : List α) : tidx (a :: b :: c :: d :: xs) 3 = .ok d := tidx_nat (k := 3) rfl
@[simp] theorem tidx_4 (a b c d f : α) (xs : List α) : tidx (a :: b :: c :: d :: f :: xs) 4 = .ok f := tidx_nat (k := 4) rfl
@[simp] theorem tidx_5 (a b c d f g : α) (xs : List α) : tidx (a :: b :: c :: d :: f :: g :: xs) 5 = .ok g := tidx_nat (k := 5) rfl
@[simp] theorem tidx_6 (a b c d f g h : α) (xs : List α) : tidx (a :: b :: c :: d :: f :: g :: h :: xs) 6 = .ok h := tidx_nat (k := 6) rfl
@[simp] theorem tidx_7 (a b c d f g h i : α) (xs : List α) : tidx (a :: b :: c :: d :: f :: g :: h :: i :: xs) 7 = .ok i := tidx_nat (k := 7) rfl
theorem tidx_last {xs : List α} {a : α} (h : xs.getLast? = some a) : tidx xs (-1) = .ok a := by
  unfold tidx atI ixN
  have hl : xs ≠ [] := by intro z; rw [z] at h; simp at h
  have hl2 : 0 < xs.length := List.length_pos_iff.mpr hl
  rw [if_neg (by omega), if_pos (by omega)]
  rw [List.getLast?_eq_getElem?] at h
  rw [show ((-1 : Int) + (xs.length : Int)).toNat = xs.length - 1 by omega]
  simp [h]
theorem tapp_ok {xs : List α} {a : α} (h : xs.length < 16777216) : tapp xs a = .ok (xs ++ [a]) := if_pos h
theorem taddL_ok {xs ys : List α} (h : xs.length + ys.length ≤ 16777216) : taddL xs ys = .ok (xs ++ ys) := if_pos h
theorem tset_ok {xs : List α} {k : Nat} {a : α} (h : k < xs.length) : tset xs (k : Int) a = .ok (xs.set k a) := by
  unfold tset; rw [ixN_nat h]
end
@[simp] theorem rangeI_len (lo : Int) (n : Nat) : (rangeI lo n).length = n := by unfold rangeI; simp
theorem rangeI_get {lo : Int} {n i : Nat} {d : Int} (h : (rangeI lo n)[i]? = some d) : i < n ∧ d = lo + (i : Int) := by
  unfold rangeI at h
  rw [List.getElem?_map] at h
  by_cases hi : i < n
  · rw [List.getElem?_range hi] at h
    simp at h
    exact ⟨hi, h.symm⟩
  · rw [List.getElem?_eq_none (by simp; omega)] at h
    simp at h
theorem rangeI_mem {lo : Int} {n : Nat} {d : Int} : d ∈ rangeI lo n ↔ ∃ k : Nat, k < n ∧ d = lo + (k : Int) := by
  unfold rangeI
  simp only [List.mem_map, List.mem_range]
  exact ⟨fun ⟨k, h1, h2⟩ => ⟨k, h1, h2.symm⟩, fun ⟨k, h1, h2⟩ => ⟨k, h1, h2.symm⟩⟩
@[simp] theorem trange1_nat {n : Nat} (h : n ≤ 16777216) : trange1 (n : Int) = .ok (rangeI 0 n) := by
  unfold trange1; rw [if_pos (rngOk_nat h)]; simp
theorem trange2_of {i j : Int} {n : Nat} (hj : (j - i).toNat = n) (h1 : -16777216 ≤ i) (h2 : i ≤ 16777216) (h3 : -16777216 ≤ j) (h4 : j ≤ 16777216) (h5 : j - i ≤ 16777216) : trange2 i j = .ok (rangeI i n) := by
  unfold trange2; rw [if_pos (show rngOk i j from ⟨h1, h2, h3, h4, h5⟩), hj]
theorem tmulI_ok {a b : Int} (h : IntMulOk a b) : tmulI a b = .ok (a * b) := by unfold tmulI; rw [if_pos h]
theorem tmulI_r {a b : Int} (h : Sm 64 b) : tmulI a b = .ok (a * b) := tmulI_ok (IntMulOk.of_right h.bits)
theorem tmulI_sm {m n : Nat} {a b : Int} (h : Sm m a) (g : Sm n b) (l : m + n ≤ 134217728 := by decide) : tmulI a b = .ok (a * b) := tmulI_ok (h.mulOk g l)
@[simp] theorem tmulI_bd {a b : Int} {m n : Nat} [ha : Bd a m] [hb : Bd b n] (h : m + n ≤ 134217728) : tmulI a b = .ok (a * b) := tmulI_sm ha.h hb.h h
theorem tfdivI_pos {a b : Int} (h : 0 < b) (h2 : b < 2 ^ 250) : tfdivI a b = .ok (a / b) := by unfold tfdivI; rw [cite_pos ⟨h, h2⟩]
@[simp] theorem tmodI_pos {a b : Int} (h : 0 < b) : tmodI a b = .ok (a % b) := if_pos h
theorem tpowI_ok {a b : Int} (h : 0 ≤ b ∧ b ≤ 1000 ∧ a.natAbs < 2 ^ 64) : tpowI a b = .ok (a ^ b.toNat) := by unfold tpowI; rw [cite_pos h]
theorem cutG_to {α : Type} (xs : List α) (k : Nat) : cutG xs none (some (k : Int)) = xs.take k := by
  unfold cutG
  rw [HT.sIx_nat]
  show (xs.drop 0).take (min k xs.length - 0) = _
  rw [List.drop_zero, Nat.sub_zero, ← List.take_eq_take_min]
theorem cutG_len {α : Type} (xs : List α) (lo hi : Option Int) : (cutG xs lo hi).length ≤ xs.length := by
  unfold cutG; simp; omega
theorem cutG_mem {α : Type} {xs : List α} {lo hi : Option Int} {x : α} (h : x ∈ cutG xs lo hi) : x ∈ xs := List.mem_of_mem_drop (List.mem_of_mem_take h)
def Dr (n : Nat) (lim : Int) (ds : List Int) : Prop := ds.length = n ∧ ∀ d ∈ ds, 0 ≤ d ∧ d < lim
theorem Dr.snoc {n : Nat} {lim d : Int} {ds : List Int} (h : Dr n lim ds) (h0 : 0 ≤ d) (h1 : d < lim) : Dr (n + 1) lim (ds ++ [d]) :=
  ⟨by rw [List.length_append, h.1]; rfl, fun x hx => by
    rcases List.mem_append.mp hx with q | q
    · exact h.2 x q
    · rw [List.mem_singleton.mp q]; exact ⟨h0, h1⟩⟩
theorem Dr.idx {n : Nat} {lim : Int} {ds : List Int} (h : Dr n lim ds) (i : Nat) (hi : i < n) : ∃ d, tidx ds (i : Int) = .ok d ∧ 0 ≤ d ∧ d < lim := by
  have hl : i < ds.length := by rw [h.1]; exact hi
  exact ⟨ds[i], tidx_lt hl, h.2 _ (List.getElem_mem hl)⟩
theorem Dr.ix {n : Nat} {lim : Int} {ds : List Int} (h : Dr n lim ds) (j : Int) (h0 : 0 ≤ j := by omega) (h1 : j < (n : Int) := by omega) : ∃ d, tidx ds j = .ok d ∧ 0 ≤ d ∧ d < lim := by
  obtain ⟨d, e, r⟩ := h.idx j.toNat (by omega)
  exact ⟨d, by rw [show ((j.toNat : Nat) : Int) = j by omega] at e; exact e, r⟩
end VL

namespace VL
open PySem PySem.Spec PyProof.Rows L2

def O.kids : O → Option (List O)
  | .tup xs => some xs
  | .lst xs => some xs
  | .dct _ xs => some xs
  | .ins _ _ xs => some xs
  | .par _ o => some [o]
  | .fz _ => none
def O.setKid : O → Nat → O → O
  | .tup xs, k, n => .tup (xs.set k n)
  | .lst xs, k, n => .lst (xs.set k n)
  | .dct ks xs, k, n => .dct ks (xs.set k n)
  | .ins c ns xs, k, n => .ins c ns (xs.set k n)
  | .par a _, _, n => .par a n
  | .fz d, _, _ => .fz d
def O.at (o : O) : List Nat → Option O
  | [] => some o
  | k :: ks => match o.kids with
    | some xs => (match xs[k]? with
      | some x => O.at x ks
      | none => none)
    | none => none
def O.put (o : O) : List Nat → O → O
  | [], n => n
  | k :: ks, n => match o.kids with
    | some xs => (match xs[k]? with
      | some x => o.setKid k (O.put x ks n)
      | none => o)
    | none => o
inductive Pth (K : PySem.W.Frag) (F H : Hp) : V → O → List Nat → V → Prop
  | nil {v : V} {o : O} : Pth K F H v o [] v
  | lst {a : Addr} {vs : List V} {os : List O} {k : Nat} {p : List Nat} {v1 v' : V} {o1 : O} : H a = some (.lst vs) → vs.length = os.length → vs[k]? = some v1 → os[k]? = some o1 → Pth K F H v1 o1 p v' → Pth K F H (.ref a) (.lst os) (k :: p) v'
  | tup {a : Addr} {vs : List V} {os : List O} {k : Nat} {p : List Nat} {v1 v' : V} {o1 : O} : F a = some (.tup vs) → vs.length = os.length → vs[k]? = some v1 → os[k]? = some o1 → Pth K F H v1 o1 p v' → Pth K F H (.ref a) (.tup os) (k :: p) v'
  | dct {a : Addr} {ks : KS} {vs : List V} {os : List O} {k : Nat} {p : List Nat} {v1 v' : V} {o1 : O} : H a = some (hoD ks vs) → ks.len = vs.length → vs.length = os.length → vs[k]? = some v1 → os[k]? = some o1 → Pth K F H v1 o1 p v' → Pth K F H (.ref a) (.dct ks os) (k :: p) v'
  | ins {a C dx : Addr} {c : Str} {ns : List Str} {vs : List V} {os : List O} {k : Nat} {p : List Nat} {v1 v' : V} {o1 : O} : clsOf K c = some C → H a = some (.ins C dx (ns.zip vs)) → ns.length = vs.length → vs.length = os.length → vs[k]? = some v1 → os[k]? = some o1 → Pth K F H v1 o1 p v' → Pth K F H (.ref a) (.ins c ns os) (k :: p) v'
  | par {a : Addr} {o : O} {p : List Nat} {v' : V} : Pth K F H (.ref a) o p v' → Pth K F H (.ref a) (.par a o) (0 :: p) v'
theorem Pth.mono {K : PySem.W.Frag} {F F' H H' : Hp} (e : Same H H') (ef : Same F F') {v : V} {o : O} {p : List Nat} {v' : V} (h : Pth K F H v o p v') : Pth K F' H' v o p v' := by
  induction h with
  | nil => exact .nil
  | lst h1 h2 h3 h4 _ ih => exact .lst (e _ _ h1) h2 h3 h4 ih
  | tup h1 h2 h3 h4 _ ih => exact .tup (ef _ _ h1) h2 h3 h4 ih
  | dct h1 hl h2 h3 h4 _ ih => exact .dct (e _ _ h1) hl h2 h3 h4 ih
  | ins hc h1 hl h2 h3 h4 _ ih => exact .ins hc (e _ _ h1) hl h2 h3 h4 ih
  | par _ ih => exact .par ih
theorem OwnL.child {K : PySem.W.Frag} {F H : Hp} : ∀ {os : List O} {vs : List V} {fps : List Addr} {k : Nat} {o1 : O}, OwnL K F H vs os fps → os[k]? = some o1 → ∃ v1 f1 fr, vs[k]? = some v1 ∧ Own K F H v1 o1 f1 ∧ fps.Perm (f1 ++ fr) ∧
    ∀ F2 H2 o2 f2, Own K F2 H2 v1 o2 f2 → Same F F2 → (∀ a ∈ fr, H2 a = H a) → ∃ fq, OwnL K F2 H2 vs (os.set k o2) fq ∧ fq.Perm (f2 ++ fr)
  | [], _, _, k, o1, h, e => by simp at e
  | o :: os, _, _, 0, o1, h, e => by
    cases h with
    | @cons v vs _ _ f1 f2 h1 h2 =>
      simp at e
      subst e
      exact ⟨v, f1, f2, rfl, h1, .refl _, fun F2 H2 o2 f3 q1 q2 q3 => ⟨f3 ++ f2, .cons q1 (h2.keep q2 q3), .refl _⟩⟩
  | o :: os, _, _, k + 1, o1, h, e => by
    cases h with
    | @cons v vs _ _ f1 f2 h1 h2 =>
      obtain ⟨v1, g1, gr, e1, e2, e3, e4⟩ := OwnL.child (k := k) h2 (by simpa using e)
      refine ⟨v1, g1, f1 ++ gr, by simpa using e1, e2, ?_, fun F2 H2 o2 f3 q1 q2 q3 => ?_⟩
      · refine (List.Perm.append_left f1 e3).trans ?_
        rw [← List.append_assoc, ← List.append_assoc]
        exact List.Perm.append_right _ List.perm_append_comm
      · obtain ⟨fq, z1, z2⟩ := e4 F2 H2 o2 f3 q1 q2 fun a ha => q3 a (List.mem_append_right _ ha)
        refine ⟨f1 ++ fq, .cons (h1.keep q2 fun a ha => q3 a (List.mem_append_left _ ha)) z1, ?_⟩
        refine (List.Perm.append_left f1 z2).trans ?_
        rw [← List.append_assoc, ← List.append_assoc]
        exact List.Perm.append_right _ List.perm_append_comm
theorem perm_mid {α : Type} (c a b : List α) : (c ++ (a ++ b)).Perm (a ++ (c ++ b)) := by
  rw [← List.append_assoc, ← List.append_assoc]
  exact List.Perm.append_right _ List.perm_append_comm
theorem Own.path {K : PySem.W.Frag} {F H : Hp} : ∀ (p : List Nat) {o : O} {v : V} {fp : List Addr} {o' : O}, Own K F H v o fp → o.at p = some o' → ∃ v' f1 fr, Pth K F H v o p v' ∧ Own K F H v' o' f1 ∧ fp.Perm (f1 ++ fr) ∧
    ∀ F2 H2 o2 f2, Own K F2 H2 v' o2 f2 → Same F F2 → (∀ a ∈ fr, H2 a = H a) → ∃ fq, Own K F2 H2 v (o.put p o2) fq ∧ fq.Perm (f2 ++ fr)
  | [], o, v, fp, o', h, e => by
    simp only [O.at, Option.some.injEq] at e
    subst e
    exact ⟨v, fp, [], .nil, h, by simp, fun F2 H2 o2 f2 q1 q2 q3 => ⟨f2, q1, by simp⟩⟩
  | k :: p, o, v, fp, o', h, e => by
    simp only [O.at] at e
    cases o with
    | fz d => cases e
    | par a o =>
      simp only [O.kids] at e
      cases k with
      | succ k => simp at e
      | zero =>
        simp only [List.getElem?_cons_zero] at e
        cases h with
        | par h1 =>
          obtain ⟨v', f1, fr, e1, e2, e3, e4⟩ := Own.path p h1 e
          refine ⟨v', f1, fr, .par e1, e2, e3, fun F2 H2 o2 f2 q1 q2 q3 => ?_⟩
          obtain ⟨fq, z1, z2⟩ := e4 F2 H2 o2 f2 q1 q2 q3
          exact ⟨fq, .par z1, z2⟩
    | tup os =>
      simp only [O.kids] at e
      cases hk : os[k]? with
      | none => rw [hk] at e; cases e
      | some x =>
        rw [hk] at e
        cases h with
        | tup h1 h2 =>
          obtain ⟨v1, g1, gr, c1, c2, c3, c4⟩ := h2.child hk
          obtain ⟨v', f1, fr, e1, e2, e3, e4⟩ := Own.path p c2 e
          refine ⟨v', f1, fr ++ gr, .tup h1 h2.len c1 hk e1, e2, ?_, fun F2 H2 o2 f2 q1 q2 q3 => ?_⟩
          · rw [← List.append_assoc]; exact c3.trans (List.Perm.append_right _ e3)
          · obtain ⟨fq, z1, z2⟩ := e4 F2 H2 o2 f2 q1 q2 fun a ha => q3 a (List.mem_append_left _ ha)
            obtain ⟨fz, w1, w2⟩ := c4 F2 H2 _ fq z1 q2 fun a ha => q3 a (List.mem_append_right _ ha)
            refine ⟨fz, ?_, ?_⟩
            · simp only [O.put, O.kids, hk, O.setKid]; exact .tup (q2 _ _ h1) w1
            · rw [← List.append_assoc]; exact w2.trans (List.Perm.append_right _ z2)
    | lst os =>
      simp only [O.kids] at e
      cases hk : os[k]? with
      | none => rw [hk] at e; cases e
      | some x =>
        rw [hk] at e
        cases h with
        | @lst a vs _ fpi h1 h2 =>
          obtain ⟨v1, g1, gr, c1, c2, c3, c4⟩ := h2.child hk
          obtain ⟨v', f1, fr, e1, e2, e3, e4⟩ := Own.path p c2 e
          refine ⟨v', f1, a :: (fr ++ gr), .lst h1 h2.len c1 hk e1, e2, ?_, fun F2 H2 o2 f2 q1 q2 q3 => ?_⟩
          · refine (List.Perm.cons a (c3.trans (List.Perm.append_right _ e3))).trans ?_
            rw [List.append_assoc]
            exact (List.perm_middle (l₁ := f1) (l₂ := fr ++ gr) (a := a)).symm
          · obtain ⟨fq, z1, z2⟩ := e4 F2 H2 o2 f2 q1 q2 fun a ha => q3 a (List.mem_cons_of_mem _ (List.mem_append_left _ ha))
            obtain ⟨fz, w1, w2⟩ := c4 F2 H2 _ fq z1 q2 fun a ha => q3 a (List.mem_cons_of_mem _ (List.mem_append_right _ ha))
            refine ⟨a :: fz, ?_, ?_⟩
            · simp only [O.put, O.kids, hk, O.setKid]; exact .lst ((q3 a List.mem_cons_self).trans h1) w1
            · refine (List.Perm.cons a (w2.trans (List.Perm.append_right _ z2))).trans ?_
              rw [List.append_assoc]
              exact (List.perm_middle (l₁ := f2) (l₂ := fr ++ gr) (a := a)).symm
    | dct ks os =>
      simp only [O.kids] at e
      cases hk : os[k]? with
      | none => rw [hk] at e; cases e
      | some x =>
        rw [hk] at e
        cases h with
        | @dct a _ vs _ fpi h1 hl h2 =>
          obtain ⟨v1, g1, gr, c1, c2, c3, c4⟩ := h2.child hk
          obtain ⟨v', f1, fr, e1, e2, e3, e4⟩ := Own.path p c2 e
          refine ⟨v', f1, a :: (fr ++ gr), .dct h1 hl.1 h2.len c1 hk e1, e2, ?_, fun F2 H2 o2 f2 q1 q2 q3 => ?_⟩
          · refine (List.Perm.cons a (c3.trans (List.Perm.append_right _ e3))).trans ?_
            rw [List.append_assoc]
            exact (List.perm_middle (l₁ := f1) (l₂ := fr ++ gr) (a := a)).symm
          · obtain ⟨fq, z1, z2⟩ := e4 F2 H2 o2 f2 q1 q2 fun a ha => q3 a (List.mem_cons_of_mem _ (List.mem_append_left _ ha))
            obtain ⟨fz, w1, w2⟩ := c4 F2 H2 _ fq z1 q2 fun a ha => q3 a (List.mem_cons_of_mem _ (List.mem_append_right _ ha))
            refine ⟨a :: fz, ?_, ?_⟩
            · simp only [O.put, O.kids, hk, O.setKid]; exact .dct ((q3 a List.mem_cons_self).trans h1) hl w1
            · refine (List.Perm.cons a (w2.trans (List.Perm.append_right _ z2))).trans ?_
              rw [List.append_assoc]
              exact (List.perm_middle (l₁ := f2) (l₂ := fr ++ gr) (a := a)).symm
    | ins c ns os =>
      simp only [O.kids] at e
      cases hk : os[k]? with
      | none => rw [hk] at e; cases e
      | some x =>
        rw [hk] at e
        cases h with
        | @ins a C dx _ _ vs _ fpi hc h1 hd hl h2 =>
          obtain ⟨v1, g1, gr, c1, c2, c3, c4⟩ := h2.child hk
          obtain ⟨v', f1, fr, e1, e2, e3, e4⟩ := Own.path p c2 e
          refine ⟨v', f1, a :: dx :: (fr ++ gr), .ins hc h1 hl h2.len c1 hk e1, e2, ?_, fun F2 H2 o2 f2 q1 q2 q3 => ?_⟩
          · refine (List.Perm.cons a (List.Perm.cons dx (c3.trans (List.Perm.append_right _ e3)))).trans ?_
            rw [List.append_assoc]
            exact perm_mid [a, dx] f1 (fr ++ gr)
          · obtain ⟨fq, z1, z2⟩ := e4 F2 H2 o2 f2 q1 q2 fun a ha => q3 a (List.mem_cons_of_mem _ (List.mem_cons_of_mem _ (List.mem_append_left _ ha)))
            obtain ⟨fz, w1, w2⟩ := c4 F2 H2 _ fq z1 q2 fun a ha => q3 a (List.mem_cons_of_mem _ (List.mem_cons_of_mem _ (List.mem_append_right _ ha)))
            refine ⟨a :: dx :: fz, ?_, ?_⟩
            · simp only [O.put, O.kids, hk, O.setKid]
              exact .ins hc ((q3 a List.mem_cons_self).trans h1) ((q3 dx (List.mem_cons_of_mem _ List.mem_cons_self)).trans hd) hl w1
            · refine (List.Perm.cons a (List.Perm.cons dx (w2.trans (List.Perm.append_right _ z2)))).trans ?_
              rw [List.append_assoc]
              exact perm_mid [a, dx] f2 (fr ++ gr)
def cutH (H : Hp) (fp : List Addr) : Hp := fun a => if a ∈ fp then none else H a
theorem cutH_in {H : Hp} {fp : List Addr} {a : Addr} (h : a ∈ fp) : cutH H fp a = none := if_pos h
theorem cutH_out {H : Hp} {fp : List Addr} {a : Addr} (h : a ∉ fp) : cutH H fp a = H a := if_neg h
theorem NT.cut {H H0 : Hp} {fp : List Addr} {a : Addr} (h : NT (cutH H fp) a) (c : cutH H fp a = none → H0 a = none) (s : Same H0 H) : NT H0 a := by
  rcases h with h | ⟨ys, h⟩
  · exact .inl (c h)
  · refine NT.back s (.inr ⟨ys, ?_⟩)
    by_cases m : a ∈ fp
    · rw [cutH_in m] at h; cases h
    · rw [cutH_out m] at h; exact h
theorem RS.place {K : PySem.W.Frag} {F0 H0 F H : Hp} {σ : L2.St} {ρ : OEnv} {y : V} {oy : O} {i : Nat} {o o' : O} {p : List Nat} (r : RS K F0 H0 F H (some y :: σ) (some oy :: ρ)) (ei : ρ[i]? = some (some o)) (ep : o.at p = some o') :
    ∃ v v' f1 fy, σ[i]? = some (some v) ∧ Pth K F H v o p v' ∧ Own K F H v' o' f1 ∧ Own K F H y oy fy ∧ (fy ++ f1).Nodup ∧ (∀ a ∈ fy ++ f1, F a = none) ∧ Same F H ∧
      ∀ F2 H2 o2, RV K F (cutH H (fy ++ f1)) F2 H2 v' o2 → RS K F0 H0 F2 H2 σ (ρ.set i (some (o.put p o2))) := by
  obtain ⟨fps, sl, hs⟩ := r.ex
  cases sl with
  | @ow _ _ fy _ _ fpt hy s =>
    obtain ⟨v, fp, fpr, e1, e2, e3, e4, e5⟩ := s.split ei
    obtain ⟨v', f1, fr, p1, p2, p3, p4⟩ := e2.path p ep
    have hp : Hs F0 H0 F H (fy ++ (f1 ++ (fr ++ fpr))) := hs.perm (List.Perm.append_left fy (e3.trans (by rw [← List.append_assoc]; exact List.Perm.append_right _ p3)))
    have hp' : Hs F0 H0 F H ((fy ++ f1) ++ (fr ++ fpr)) := by rw [List.append_assoc]; exact hp
    have nd := List.nodup_append.mp hp'.nd
    have lstT : ∀ a ∈ fr ++ fpr, ∃ u, H a = some u ∧ NoT u := fun a ha => by
      rcases List.mem_append.mp ha with q | q
      · exact e2.lstAt a (p3.mem_iff.mpr (List.mem_append_right _ q))
      · exact s.lstAt a (e3.mem_iff.mpr (List.mem_append_right _ q))
    have lst : ∀ a ∈ fr ++ fpr, ∃ u, H a = some u := fun a ha => by
      obtain ⟨u, z, _⟩ := lstT a ha; exact ⟨u, z⟩
    refine ⟨v, v', f1, fy, e1, p1, p2, hy, nd.1, fun a ha => (hp'.ow a (List.mem_append_left _ ha)).1, hs.fh, fun F2 H2 o2 ⟨f2, w1, w2⟩ => ?_⟩
    have kp : ∀ a ∈ fr ++ fpr, cutH H (fy ++ f1) a = H a := fun a ha => cutH_out fun m => nd.2.2 a m a ha rfl
    have keep : ∀ a ∈ fr ++ fpr, H2 a = H a := fun a ha => by
      obtain ⟨u, z⟩ := lst a ha
      rw [z]
      exact w2.h0 _ _ ((kp a ha).trans z)
    obtain ⟨fq, g1, g2⟩ := p4 F2 H2 o2 f2 w1 w2.f0 fun a ha => keep a (List.mem_append_left _ ha)
    obtain ⟨fz, g3, g4⟩ := e5 F2 H2 v _ fq g1 w2.f0 fun a ha => keep a (List.mem_append_right _ ha)
    rw [set_same e1] at g3
    have pm : fz.Perm (f2 ++ (fr ++ fpr)) := g4.trans (by rw [← List.append_assoc]; exact List.Perm.append_right _ g2)
    have cut0 : ∀ a, cutH H (fy ++ f1) a = none → H0 a = none := fun a ha => by
      by_cases m : a ∈ fy ++ f1
      · exact (hp'.ow a (List.mem_append_left _ m)).2
      · rw [cutH_out m] at ha; exact Same.free hs.h0 ha
    refine ⟨fz, g3, Hs.perm ?_ pm.symm⟩
    refine ⟨List.nodup_append.mpr ⟨w2.nd, nd.2.1, fun a ha b hb e => ?_⟩, fun a ha => ?_, w2.fh, hs.f0.trans w2.f0, fun a u z => ?_, fun a z1 z2 => ?_⟩
    · subst e
      obtain ⟨u, z⟩ := lst a hb
      have := (w2.ow a ha).2
      rw [kp a hb, z] at this
      cases this
    · rcases List.mem_append.mp ha with m | m
      · exact ⟨(w2.ow a m).1, cut0 a (w2.ow a m).2⟩
      · refine ⟨?_, (hp'.ow a (List.mem_append_right _ m)).2⟩
        cases q : F2 a with
        | none => rfl
        | some u =>
          have := w2.nw a (hp'.ow a (List.mem_append_right _ m)).1 (by rw [q]; exact fun w => nomatch w)
          obtain ⟨u', z, zt⟩ := lstT a m
          exact (this.no ((kp a m).trans z) zt.1).elim
    · refine w2.h0 _ _ ?_
      rw [cutH_out fun m => by rw [(hp'.ow a (List.mem_append_left _ m)).2] at z; cases z]
      exact hs.h0 _ _ z
    · cases q : F a with
      | some u => exact hs.nw a z1 (by rw [q]; exact fun w => nomatch w)
      | none => exact (w2.nw a q z2).cut (cut0 a) hs.h0
theorem RV.cell {K : PySem.W.Frag} {F H : Hp} {a : Addr} {ho2 : HO} {o2 : O} {f1 fi : List Addr} (fh : Same F H) (nd : f1.Nodup) (fn : ∀ b ∈ f1, F b = none) (ha : a ∈ f1) (hfi : ∀ b ∈ fi, b ∈ f1) (hfa : a ∉ fi) (ndi : fi.Nodup) (ho : Own K F (upd H a ho2) (.ref a) o2 (a :: fi)) : RV K F (cutH H f1) F (upd H a ho2) (.ref a) o2 :=
  ⟨a :: fi, ho, List.nodup_cons.mpr ⟨hfa, ndi⟩, fun b hb => by
    rcases List.mem_cons.mp hb with q | q
    · subst q; exact ⟨fn _ ha, cutH_in ha⟩
    · exact ⟨fn b (hfi b q), cutH_in (hfi b q)⟩, fun b u z => by
    have hb : b ≠ a := fun e => by rw [e, fn a ha] at z; cases z
    rw [upd_ne hb]; exact fh _ _ z, Same.refl F, fun b u z => by
    have hb : b ≠ a := fun e => by rw [e, cutH_in ha] at z; cases z
    rw [upd_ne hb]
    by_cases m : b ∈ f1
    · rw [cutH_in m] at z; cases z
    · rw [cutH_out m] at z; exact z, fun b z1 z2 => absurd z1 z2⟩
theorem RS.mutL {K : PySem.W.Frag} {F0 H0 F H : Hp} {σ : L2.St} {ρ : OEnv} {y : V} {oy : O} {i : Nat} {o : O} {os : List O} {p : List Nat} (r : RS K F0 H0 F H (some y :: σ) (some oy :: ρ)) (ei : ρ[i]? = some (some o)) (ep : o.at p = some (.lst os)) :
    ∃ v a vs, σ[i]? = some (some v) ∧ Pth K F H v o p (.ref a) ∧ H a = some (.lst vs) ∧ vs.length = os.length ∧
      ∀ {tv : List V → V → List V} {to : List O → O → List O}, Chg tv to → RS K F0 H0 F (upd H a (.lst (tv vs y))) σ (ρ.set i (some (o.put p (.lst (to os oy))))) := by
  obtain ⟨v, v', f1, fy, e1, e2, e3, e4, nd, fn, fh, back⟩ := r.place ei ep
  cases e3 with
  | @lst a vs _ fi ha hl =>
    refine ⟨v, a, vs, e1, e2, ha, hl.len, fun {tv to} c => back F _ _ ?_⟩
    have nd2 := List.nodup_append.mp nd
    have na_y : a ∉ fy := fun m => nd2.2.2 a m a List.mem_cons_self rfl
    have na_i : a ∉ fi := (List.nodup_cons.mp nd2.2.1).1
    have hk : ∀ b, b ≠ a → upd H a (.lst (tv vs y)) b = H b := fun b hb => upd_ne hb
    have o1 : Own K F (upd H a (.lst (tv vs y))) y oy fy := e4.keep (Same.refl F) fun b hb => hk b fun e => na_y (e ▸ hb)
    have l1 : OwnL K F (upd H a (.lst (tv vs y))) vs os fi := hl.keep (Same.refl F) fun b hb => hk b fun e => na_i (e ▸ hb)
    obtain ⟨fp', z1, fp'', z2, z3⟩ := c.own l1 o1
    have sub : ∀ b ∈ fp', b ∈ fi ++ fy := fun b hb => z3.subset (z2.mem_iff.mp hb)
    have ndf : (fi ++ fy).Nodup := List.nodup_append.mpr ⟨(List.nodup_cons.mp nd2.2.1).2, nd2.1, fun x hx w hw e => nd2.2.2 w hw x (List.mem_cons_of_mem _ hx) e.symm⟩
    refine RV.cell (fi := fp') fh nd fn (List.mem_append_right _ List.mem_cons_self) (fun b hb => ?_) (fun m => ?_) (z2.nodup_iff.mpr (ndf.sublist z3)) (.lst upd_same z1)
    · rcases List.mem_append.mp (sub b hb) with q | q
      · exact List.mem_append_right _ (List.mem_cons_of_mem _ q)
      · exact List.mem_append_left _ q
    · rcases List.mem_append.mp (sub a m) with q | q
      · exact na_i q
      · exact na_y q
end VL

namespace VL
open PySem PySem.Spec PyProof.Rows L2

theorem hoD_inj {k1 k2 : KS} {v1 v2 : List V} (h : hoD k1 v1 = hoD k2 v2) (l1 : k1.len = v1.length) (l2 : k2.len = v2.length) : v1 = v2 := by
  cases k1 with
  | inl a =>
    cases k2 with
    | inl b =>
      simp only [hoD, HO.dK.injEq] at h
      have := congrArg (List.map Prod.snd) h
      rw [List.map_snd_zip (Nat.le_of_eq l1.symm), List.map_snd_zip (Nat.le_of_eq l2.symm)] at this
      exact this
    | inr b => cases h
  | inr a =>
    cases k2 with
    | inl b => cases h
    | inr b =>
      simp only [hoD, HO.dT.injEq] at h
      have := congrArg (List.map Prod.snd) h
      rw [List.map_snd_zip (Nat.le_of_eq l1.symm), List.map_snd_zip (Nat.le_of_eq l2.symm)] at this
      exact this
theorem zip_inj {α β : Type} {n1 n2 : List α} {v1 v2 : List β} (h : n1.zip v1 = n2.zip v2) (l1 : n1.length = v1.length) (l2 : n2.length = v2.length) : n1 = n2 ∧ v1 = v2 := by
  constructor
  · have := congrArg (List.map Prod.fst) h
    rw [List.map_fst_zip (Nat.le_of_eq l1), List.map_fst_zip (Nat.le_of_eq l2)] at this
    exact this
  · have := congrArg (List.map Prod.snd) h
    rw [List.map_snd_zip (Nat.le_of_eq l1.symm), List.map_snd_zip (Nat.le_of_eq l2.symm)] at this
    exact this
theorem Pth.det {K : PySem.W.Frag} {F H : Hp} {v : V} {o : O} {p : List Nat} {x y : V} (h : Pth K F H v o p x) (g : Pth K F H v o p y) : x = y := by
  induction h generalizing y with
  | nil => cases g; rfl
  | lst h1 h2 h3 h4 _ ih =>
    cases g with
    | lst g1 g2 g3 g4 g5 =>
      rw [h1] at g1; cases g1
      rw [h3] at g3; cases g3
      rw [h4] at g4; cases g4
      exact ih g5
  | tup h1 h2 h3 h4 _ ih =>
    cases g with
    | tup g1 g2 g3 g4 g5 =>
      rw [h1] at g1; cases g1
      rw [h3] at g3; cases g3
      rw [h4] at g4; cases g4
      exact ih g5
  | dct h1 hl h2 h3 h4 _ ih =>
    cases g with
    | dct g1 gl g2 g3 g4 g5 =>
      rw [h1] at g1
      have := hoD_inj (Option.some.inj g1) hl gl
      subst this
      rw [h3] at g3; cases g3
      rw [h4] at g4; cases g4
      exact ih g5
  | ins hc h1 hl h2 h3 h4 _ ih =>
    cases g with
    | ins gc g1 gl g2 g3 g4 g5 =>
      rw [h1] at g1
      have e := Option.some.inj g1
      injection e with e1 e2 e3
      have := (zip_inj e3 hl gl).2
      subst this
      rw [h3] at g3; cases g3
      rw [h4] at g4; cases g4
      exact ih g5
  | par _ ih => cases g with | par g => exact ih g
theorem Pth.app {K : PySem.W.Frag} {F H : Hp} {v : V} {o : O} {p q : List Nat} {x y : V} {o1 : O} (h : Pth K F H v o p x) (ho : o.at p = some o1) (g : Pth K F H x o1 q y) : Pth K F H v o (p ++ q) y := by
  induction h with
  | nil => simp only [O.at, Option.some.injEq] at ho; subst ho; exact g
  | lst h1 h2 h3 h4 _ ih => exact .lst h1 h2 h3 h4 (ih (by simpa only [O.at, O.kids, h4] using ho) g)
  | tup h1 h2 h3 h4 _ ih => exact .tup h1 h2 h3 h4 (ih (by simpa only [O.at, O.kids, h4] using ho) g)
  | dct h1 hl h2 h3 h4 _ ih => exact .dct h1 hl h2 h3 h4 (ih (by simpa only [O.at, O.kids, h4] using ho) g)
  | ins hc h1 hl h2 h3 h4 _ ih => exact .ins hc h1 hl h2 h3 h4 (ih (by simpa only [O.at, O.kids, h4] using ho) g)
  | par _ ih => exact .par (ih (by simpa [O.at, O.kids] using ho) g)
theorem RS.non {K : PySem.W.Frag} {F0 H0 F H : Hp} {σ : L2.St} {ρ : OEnv} (r : RS K F0 H0 F H σ ρ) : RS K F0 H0 F H (some .non :: σ) (some (.fz .none) :: ρ) := r.consFz .non
theorem RS.slot {K : PySem.W.Frag} {F0 H0 F H : Hp} {σ : L2.St} {ρ : OEnv} {i : Nat} {o : O} (r : RS K F0 H0 F H σ ρ) (e : ρ[i]? = some (some o)) : ∃ v, σ[i]? = some (some v) := by
  obtain ⟨fps, s, hs⟩ := r.ex
  obtain ⟨v, fp, fpr, e1, _⟩ := s.split e
  exact ⟨v, e1⟩

structure VPl (X : Cx) (W : WX) (e : Expr) (h : OEnv → R (Nat × List Nat)) : Prop where
  ex : ∃ t, PE X e t ∧ ∀ σ H F0 H0 F ρ Q, RS X.K F0 H0 F H σ ρ → Pst X W σ H (fun ip => ∃ o v, ρ[ip.1]? = some (some o) ∧ σ[ip.1]? = some (some v) ∧ (∃ o', o.at ip.2 = some o') ∧ ∀ v' H' F', Ext F H F' H' → Pth X.K F' H' v o ip.2 v' → Q v' H') (h ρ) → t σ H Q
def lentP : O → List Nat
  | .par _ _ => [0]
  | _ => []
def pVar (i : Nat) : OEnv → R (Nat × List Nat) := fun ρ => match ρ[i]? with
  | some (some o) => .ok (i, lentP o)
  | _ => .stuck
def pIx1 (ip : Nat × List Nat) (n : Nat) (d : PyData) : R (Nat × List Nat) := match d with
  | .int j => (match ixN n j with | some k => .ok (ip.1, ip.2 ++ [k]) | none => .stuck)
  | _ => .stuck
def pIdx (h : OEnv → R (Nat × List Nat)) (hk : OEnv → R PyData) : OEnv → R (Nat × List Nat) := fun ρ => (h ρ).bind fun ip => match ρ[ip.1]? with
  | some (some o) => (match o.at ip.2 with
    | some (.lst os) => (hk ρ).bind (pIx1 ip os.length)
    | some (.tup os) => (hk ρ).bind (pIx1 ip os.length)
    | _ => .stuck)
  | _ => .stuck
section
variable {X : Cx} {W : WX} {a b c e : Expr} {es : List Expr} {pos : Pos} {hx hk : OEnv → R PyData} {hp : OEnv → R (Nat × List Nat)} {ho : OEnv → R (O × OEnv)} {k : Nat}
theorem vpl_var (i : Nat) (pv : PE X e (tVar i)) : VPl X W e (pVar i) := by
  refine ⟨_, pv, fun σ H F0 H0 F ρ Q r pr => ?_⟩
  unfold pVar at pr
  split at pr
  · rename_i o eo
    obtain ⟨o2, v, e1, e2, ⟨o', e3⟩, q⟩ := pr
    refine ⟨v, e2, q v H F ?_ ?_⟩
    · obtain ⟨_, _, hs⟩ := r.ex; exact .refl hs.fh
    · have e1' : ρ[i]? = some (some o2) := e1
      rw [eo] at e1'
      cases e1'
      obtain ⟨v0, v', f1, fy, g1, g2, g3, _⟩ := r.non.place eo e3
      have g1' : σ[i]? = some (some v0) := g1
      rw [show σ[i]? = some (some v) from e2] at g1'
      cases g1'
      cases o <;> first | exact .nil | skip
      rename_i ad o1
      cases g2 with
      | par g => exact .par .nil
  · exact pr.elim
theorem pl_one {K : PySem.W.Frag} {F H : Hp} {a : Addr} {vs : List V} {os : List O} {k : Nat} {v1 : V} (h1 : H a = some (.lst vs)) (h2 : vs.length = os.length) (h3 : vs[k]? = some v1) : Pth K F H (.ref a) (.lst os) [k] v1 := by
  have hk : k < os.length := by rw [← h2]; exact (List.getElem?_eq_some_iff.mp h3).1
  exact .lst h1 h2 h3 (List.getElem?_eq_getElem hk) .nil
theorem pl_oneT {K : PySem.W.Frag} {F H : Hp} {a : Addr} {vs : List V} {os : List O} {k : Nat} {v1 : V} (h1 : F a = some (.tup vs)) (h2 : vs.length = os.length) (h3 : vs[k]? = some v1) : Pth K F H (.ref a) (.tup os) [k] v1 := by
  have hk : k < os.length := by rw [← h2]; exact (List.getElem?_eq_some_iff.mp h3).1
  exact .tup h1 h2 h3 (List.getElem?_eq_getElem hk) .nil
theorem ixN_lt {n j : Nat} {i : Int} (h : ixN n i = some j) : j < n := (ixN_seq h).2.1
theorem vpl_idx (h : VPl X W a hp) (hb : VX X W b hk) (hs : PlainIx b := by exact fun _ _ => rfl) : VPl X W (.Subscript a b pos) (pIdx hp hk) := by
  obtain ⟨t, p, q⟩ := h.ex
  obtain ⟨tk, pk, qk⟩ := hb.ex
  refine ⟨_, pe_ix ix_seq p pk hs, fun σ H F0 H0 F ρ Q r pr => ?_⟩
  refine q σ H F0 H0 F ρ _ r ?_
  unfold pIdx at pr
  generalize hp ρ = rp at pr ⊢
  cases rp with
  | stuck => exact pr
  | err c => exact pr
  | ok ip =>
    simp only [R.bind_ok] at pr
    cases hρ : ρ[ip.1]? with
    | none => rw [hρ] at pr; exact pr.elim
    | some oo =>
      cases oo with
      | none => rw [hρ] at pr; exact pr.elim
      | some o =>
        rw [hρ] at pr
        simp only at pr
        obtain ⟨v, ev⟩ := r.slot hρ
        cases ho : o.at ip.2 with
        | none => rw [ho] at pr; exact pr.elim
        | some o1 =>
          rw [ho] at pr
          refine ⟨o, v, hρ, ev, ⟨o1, ho⟩, fun v' H1 F1 ex1 pt => ?_⟩
          have r1 := r.ext ex1
          obtain ⟨v0, v2, f1, fy, g1, g2, g3, _, _, _, fh, _⟩ := r1.non.place hρ ho
          have g1' : σ[ip.1]? = some (some v0) := g1
          rw [ev] at g1'
          cases g1'
          have := pt.det g2
          subst this
          refine qk σ H1 F0 H0 F1 ρ _ r1 ?_
          have err : ∀ c, (∀ H', Same H H' → ErrAt X W c σ H') → ∀ H', Same H1 H' → ErrAt X W c σ H' := fun c z H' e => z H' (ex1.hh.trans e)
          cases o1 with
          | lst os =>
            simp only at pr
            generalize hk ρ = rk at pr ⊢
            cases rk with
            | stuck => exact pr.elim
            | err c => exact err c pr
            | ok d =>
              simp only [R.bind_ok] at pr
              intro iv H2 F2 ex2 di
              unfold pIx1 at pr
              cases di <;> first | exact pr.elim | skip
              rename_i j
              simp only at pr
              cases hix : ixN os.length j with
              | none => rw [hix] at pr; exact pr.elim
              | some k =>
                rw [hix] at pr
                obtain ⟨o3, v3, e1, e2, ⟨o4, e3⟩, qq⟩ := pr
                have e1' : ρ[ip.1]? = some (some o3) := e1
                rw [hρ] at e1'; cases e1'
                have e2' : σ[ip.1]? = some (some v3) := e2
                rw [ev] at e2'; cases e2'
                cases g3 with
                | @lst ad vs _ fi ha hl =>
                  have lk : k < vs.length := by rw [hl.len]; exact ixN_lt hix
                  have hv := List.getElem?_eq_getElem lk
                  refine .inl ⟨ad, vs, j, _, rfl, rfl, .inl (.inl (ex2.hh _ _ ha)), by unfold atI; rw [hl.len, hix]; exact hv, qq _ H2 F2 (ex1.trans ex2) ?_⟩
                  exact (pt.mono ex2.hh ex2.bb).app ho (pl_one (ex2.hh _ _ ha) hl.len hv)
          | tup os =>
            simp only at pr
            generalize hk ρ = rk at pr ⊢
            cases rk with
            | stuck => exact pr.elim
            | err c => exact err c pr
            | ok d =>
              simp only [R.bind_ok] at pr
              intro iv H2 F2 ex2 di
              unfold pIx1 at pr
              cases di <;> first | exact pr.elim | skip
              rename_i j
              simp only at pr
              cases hix : ixN os.length j with
              | none => rw [hix] at pr; exact pr.elim
              | some k =>
                rw [hix] at pr
                obtain ⟨o3, v3, e1, e2, ⟨o4, e3⟩, qq⟩ := pr
                have e1' : ρ[ip.1]? = some (some o3) := e1
                rw [hρ] at e1'; cases e1'
                have e2' : σ[ip.1]? = some (some v3) := e2
                rw [ev] at e2'; cases e2'
                cases g3 with
                | @tup ad vs _ fi ha hl =>
                  have lk : k < vs.length := by rw [hl.len]; exact ixN_lt hix
                  have hv := List.getElem?_eq_getElem lk
                  refine .inr (.inl ⟨ad, vs, j, _, rfl, rfl, .inl (.inl (ex2.bh _ _ (ex2.bb _ _ ha))), by unfold atI; rw [hl.len, hix]; exact hv, qq _ H2 F2 (ex1.trans ex2) ?_⟩)
                  exact (pt.mono ex2.hh ex2.bb).app ho (pl_oneT (ex2.bb _ _ ha) hl.len hv)
          | _ => exact pr.elim
end
end VL

namespace VL
open PySem PySem.Spec PyProof.Rows L2

structure VOq (X : Cx) (W : WX) (e : Expr) (h : OEnv → R (O × OEnv)) : Prop where
  ex : ∃ t, PE X e t ∧ ∀ σ H F0 H0 F ρ Q, RS X.K F0 H0 F H σ ρ → Pst X W σ H (fun p : O × OEnv => ∀ v H' F', Same H H' → Same F F' → RS X.K F0 H0 F' H' (some v :: σ) (some p.1 :: p.2) → Q v H') (h ρ) → t σ H Q
structure VOs (X : Cx) (W : WX) (es : List Expr) (h : OEnv → R (List O × OEnv)) : Prop where
  ex : ∃ t, PA X es t ∧ ∀ σ H F0 H0 F ρ Q, RS X.K F0 H0 F H σ ρ → Pst X W σ H (fun p : List O × OEnv => ∀ vs H' F', vs.length = p.1.length → Same H H' → Same F F' → RS X.K F0 H0 F' H' (vs.map some ++ σ) (p.1.map some ++ p.2) → Q vs H') (h ρ) → t σ H Q
def oNil : OEnv → R (List O × OEnv) := fun ρ => .ok ([], ρ)
def oCons (h : OEnv → R (O × OEnv)) (g : OEnv → R (List O × OEnv)) : OEnv → R (List O × OEnv) := fun ρ => (h ρ).bind fun p => (g p.2).bind fun q => .ok (p.1 :: q.1, q.2)
def oTup (g : OEnv → R (List O × OEnv)) : OEnv → R (O × OEnv) := fun ρ => (g ρ).bind fun p => if p.1.length ≤ 1000 then .ok (.tup p.1, p.2) else .stuck
@[simp] theorem oNil_ap (ρ : OEnv) : oNil ρ = .ok ([], ρ) := rfl
@[simp] theorem oCons_ap (h : OEnv → R (O × OEnv)) (g : OEnv → R (List O × OEnv)) (ρ : OEnv) : oCons h g ρ = (h ρ).bind fun p => (g p.2).bind fun q => .ok (p.1 :: q.1, q.2) := rfl
@[simp] theorem oTup_ap (g : OEnv → R (List O × OEnv)) (ρ : OEnv) : oTup g ρ = (g ρ).bind fun p => if p.1.length ≤ 1000 then .ok (.tup p.1, p.2) else .stuck := rfl
section
variable {X : Cx} {W : WX} {a b c e : Expr} {es : List Expr} {pos : Pos} {hx hk : OEnv → R PyData} {hp : OEnv → R (Nat × List Nat)} {ho : OEnv → R (O × OEnv)} {g : OEnv → R (List O × OEnv)} {f : PEnv → R (List PyData)} {k : Nat}
theorem voq_x (g : VX X W e hx) : VOq X W e (oX hx) := by
  obtain ⟨t, p, q⟩ := g.ex
  refine ⟨t, p, fun σ H F0 H0 F ρ Q r pr => ?_⟩
  refine q σ H F0 H0 F ρ Q r ?_
  unfold oX at pr
  generalize hx ρ = rr at pr ⊢
  cases rr with
  | stuck => exact pr
  | err c => exact pr
  | ok d =>
    intro v H' F' ex dv
    obtain ⟨fps, s, hs⟩ := (r.ext ex).ex
    exact pr v H' F' ex.hh ex.bb ⟨fps, .ow (.fz dv) s, hs⟩
theorem VOq.vo (h : VOq X W e ho) : VO X W e ho := by
  obtain ⟨t, p, q⟩ := h.ex
  exact ⟨t, p, fun σ H F0 H0 F ρ Q r pr => q σ H F0 H0 F ρ Q r (Pst.imp (fun p k v H' F' _ _ r' => k v H' F' r') pr)⟩
end
end VL

namespace VL
open PySem PySem.Spec PyProof.Rows L2
structure VOn (X : Cx) (W : WX) (e : Expr) (h : OEnv → R O) : Prop where
  q : VOq X W e (fun ρ => (h ρ).bind fun o => .ok (o, ρ))
def nX (hx : OEnv → R PyData) : OEnv → R O := fun ρ => (hx ρ).bind fun d => .ok (.fz d)
def nFrF (f : PEnv → R (List PyData)) : OEnv → R O := fun ρ => (f (viewF ρ)).bind fun ds => .ok (.lst (ds.map O.fz))
def nCall (g : List PyData → R O) (fa : PEnv → R (List PyData)) : OEnv → R O := fun ρ => (fa (viewF ρ)).bind g
@[simp] theorem nX_ap (hx : OEnv → R PyData) (ρ : OEnv) : nX hx ρ = (hx ρ).bind fun d => .ok (.fz d) := rfl
@[simp] theorem nFrF_ap (f : PEnv → R (List PyData)) (ρ : OEnv) : nFrF f ρ = (f (viewF ρ)).bind fun ds => .ok (.lst (ds.map O.fz)) := rfl
@[simp] theorem nCall_ap (g : List PyData → R O) (fa : PEnv → R (List PyData)) (ρ : OEnv) : nCall g fa ρ = (fa (viewF ρ)).bind g := rfl
section
variable {X : Cx} {W : WX} {a b c e oe ce : Expr} {es : List Expr} {pos : Pos} {hx hk : OEnv → R PyData} {hp : OEnv → R (Nat × List Nat)} {ho : OEnv → R (O × OEnv)} {hn : OEnv → R O} {g : OEnv → R (List O × OEnv)} {f : PEnv → R (List PyData)} {k : Nat}
theorem von_x (g : VX X W e hx) : VOn X W e (nX hx) := ⟨by
  have : (fun ρ : OEnv => (nX hx ρ).bind fun o => R.ok (o, ρ)) = oX hx := by funext ρ; simp only [nX, R.bind_assoc, R.bind_ok]; rfl
  rw [this]; exact voq_x g⟩
theorem VOn.ex (h : VOn X W e hn) : ∃ t, PE X e t ∧ ∀ σ H F0 H0 F ρ Q, RS X.K F0 H0 F H σ ρ → Pst X W σ H (fun o : O => ∀ v H' F', Same H H' → Same F F' → RS X.K F0 H0 F' H' (some v :: σ) (some o :: ρ) → Q v H') (hn ρ) → t σ H Q := by
  obtain ⟨t, p, q⟩ := h.q.ex
  refine ⟨t, p, fun σ H F0 H0 F ρ Q r pr => q σ H F0 H0 F ρ Q r ?_⟩
  show Pst X W σ H _ ((hn ρ).bind _)
  cases hr : hn ρ with
  | stuck => rw [hr] at pr; exact pr
  | err c => rw [hr] at pr; exact pr
  | ok o => rw [hr] at pr; exact pr
structure MutOk (r : V → List V → Hp → VK → Prop) (f : List O → O → Option (List O)) : Prop where
  ok : ∀ os oy os', f os oy = some os' → ∃ (tv : List V → V → List V) (to : List O → O → List O), Chg tv to ∧ to os oy = os' ∧ ∀ (a : Addr) (vs : List V) (y : V) (H : Hp) (Q : VK), H a = some (.lst vs) → vs.length = os.length → Q .non (upd H a (.lst (tv vs y))) → r (.ref a) [y] H Q
theorem VPl.go (h : VPl X W oe hp) : ∃ t, PE X oe t ∧ ∀ σ H F0 H0 F ρ Q (kk : Nat × List Nat → SR) (D : Ends), RS X.K F0 H0 F H σ ρ → SPst X W F0 H0 D ((hp ρ).sr ρ kk) →
    (∀ ip o v o', ρ[ip.1]? = some (some o) → σ[ip.1]? = some (some v) → o.at ip.2 = some o' → SPst X W F0 H0 D (kk ip) → ∀ v' H' F', Ext F H F' H' → Pth X.K F' H' v o ip.2 v' → Q v' H') →
    (∀ ip, SPst X W F0 H0 D (kk ip) → ∃ o o', ρ[ip.1]? = some (some o) ∧ o.at ip.2 = some o') → t σ H Q := by
  obtain ⟨t, p, q⟩ := h.ex
  refine ⟨t, p, fun σ H F0 H0 F ρ Q kk D r pr hq hd => q σ H F0 H0 F ρ Q r (sr_pst r pr fun ip po => ?_)⟩
  obtain ⟨o, o', e1, e2⟩ := hd ip po
  obtain ⟨v, ev⟩ := r.slot e1
  exact ⟨o, v, e1, ev, ⟨o', e2⟩, hq ip o v o' e1 ev e2 po⟩
structure MutOk0 (r : V → List V → Hp → VK → Prop) (f : List O → Option (List O)) : Prop where
  ok : ∀ os os', f os = some os' → ∃ (tv : List V → V → List V) (to : List O → O → List O), Chg tv to ∧ to os (.fz .none) = os' ∧ ∀ (a : Addr) (vs : List V) (H : Hp) (Q : VK), H a = some (.lst vs) → vs.length = os.length → Q .non (upd H a (.lst (tv vs .non))) → r (.ref a) [] H Q
def sSetP (hp : OEnv → R (Nat × List Nat)) (hk : OEnv → R PyData) (h : OEnv → R (O × OEnv)) : OEnv → SR := fun ρ => (h ρ).sr ρ fun p => (hp p.2).sr p.2 fun ip => match p.2[ip.1]? with
  | some (some o) => (match o.at ip.2 with
    | some (.lst os) => (hk p.2).sr p.2 fun d => (match d with
      | .int j => (match ixN os.length j with
        | some n => .nx (p.2.set ip.1 (some (o.put ip.2 (.lst (os.set n p.1)))))
        | none => .stuck)
      | _ => .stuck)
    | _ => .stuck)
  | _ => .stuck
theorem vs_setP {p2 : Pos} (mk : ∀ {te to tk : TE}, PE X e te → PE X oe to → PE X b tk → PS X (.Assign [.Subscript oe b p2] e pos) (tAsg te (gSub to tk rSetL))) (h1 : VPl X W oe hp) (h2 : VX X W b hk) (h3 : VO X W e ho) :
    VS X W (.Assign [.Subscript oe b p2] e pos) (sSetP hp hk ho) := by
  obtain ⟨t1, p1, q1⟩ := h1.go
  obtain ⟨t2, pk, qk⟩ := h2.ex
  obtain ⟨t3, p3, q3⟩ := h3.ex
  refine ⟨_, mk p3 p1 pk, fun D σ H F0 H0 F ρ rs pr => ?_⟩
  unfold sSetP at pr
  refine q3 σ H F0 H0 F ρ _ rs (sr_pst rs pr fun py po y H1 F1 ry => ?_)
  have rt := ry.tail
  refine q1 σ H1 F0 H0 F1 py.2 _ _ D rt po (fun ip o v o' e1 ev e2 po v' H2 F2 ex pt => ?_) (fun ip po => ?_)
  · rw [e1] at po
    simp only [e2] at po
    cases o' with
    | lst os =>
      simp only at po
      have rt2 := rt.ext ex
      refine qk σ H2 F0 H0 F2 py.2 _ rt2 (sr_pst rt2 po fun d pd => ?_)
      intro iv H3 F3 ex3 di
      cases di <;> first | exact pd.elim | skip
      rename_i j
      simp only at pd
      cases hix : ixN os.length j with
      | none => rw [hix] at pd; exact pd.elim
      | some n =>
        rw [hix] at pd
        obtain ⟨v3, a3, vs3, k1, k2, k3, k4, k5⟩ := ((ry.ext ex).ext ex3).mutL e1 e2
        have k1' : σ[ip.1]? = some (some v3) := k1
        rw [ev] at k1'; cases k1'
        have ea := (pt.mono ex3.hh ex3.bb).det k2
        subst ea
        exact ⟨a3, vs3, j, n, rfl, rfl, k3, by rw [k4]; exact hix, pd _ _ _ (k5 (chg_set n))⟩
    | _ => exact po.elim
  · split at po
    · rename_i o eo
      split at po
      · rename_i os eo2; exact ⟨o, _, eo, eo2⟩
      · exact po.elim
    · exact po.elim
end
end VL

namespace VL
open PySem PySem.Spec PyProof.Rows L2
def setsT (ρ : OEnv) (bs : List (Nat × O)) : OEnv := bs.foldl (fun ρ b => ρ.set b.1 (some b.2)) ρ
@[simp] theorem setsT_nil (ρ : OEnv) : setsT ρ [] = ρ := rfl
@[simp] theorem setsT_cons (ρ : OEnv) (b : Nat × O) (bs : List (Nat × O)) : setsT ρ (b :: bs) = setsT (ρ.set b.1 (some b.2)) bs := rfl
theorem set_app {α : Type} (us : List α) (xs : List α) (i : Nat) (x : α) : (us ++ xs).set (us.length + i) x = us ++ xs.set i x := by
  rw [List.set_append, if_neg (by omega), Nat.add_sub_cancel_left]
theorem RS.setsT {K : PySem.W.Frag} {F0 H0 F H : Hp} : ∀ {is : List Nat} {vs : List V} {os : List O} {σ : L2.St} {ρ : OEnv}, vs.length = os.length → RS K F0 H0 F H (vs.map some ++ σ) (os.map some ++ ρ) → is.length = vs.length → RS K F0 H0 F H (setsV σ (is.zip vs)) (VL.setsT ρ (is.zip os))
  | [], [], [], σ, ρ, _, r, _ => r
  | i :: is, v :: vs, o :: os, σ, ρ, l, r, l2 => by
    have r1 := RS.put (σ := vs.map some ++ σ) (ρ := os.map some ++ ρ) r (vs.length + i)
    have e1 : (vs.map some ++ σ).set (vs.length + i) (some v) = vs.map some ++ σ.set i (some v) := by
      have := set_app (vs.map some) σ i (some v); rw [List.length_map] at this; exact this
    have e2 : (os.map some ++ ρ).set (vs.length + i) (some o) = os.map some ++ ρ.set i (some o) := by
      have := set_app (os.map some) ρ i (some o); rw [List.length_map, ← show vs.length = os.length by simpa using l] at this; exact this
    rw [e1, e2] at r1
    exact RS.setsT (is := is) (vs := vs) (os := os) (σ := σ.set i (some v)) (ρ := ρ.set i (some o)) (by simpa using l) r1 (by simpa using l2)
  | [], _ :: _, _, _, _, _, _, l2 => by simp at l2
  | _ :: _, [], _, _, _, _, _, l2 => by simp at l2
  | [], [], _ :: _, _, _, l, _, _ => by simp at l
  | _ :: _, _ :: _, [], _, _, l, _, _ => by simp at l
structure VGN (X : Cx) (ts : List Expr) (is : List Nat) : Prop where
  ex : ∃ t, PGs X ts t ∧ ∀ vs σ H Q, vs.length = is.length → Q (setsV σ (is.zip vs)) H → t vs σ H Q
section
variable {X : Cx} {W : WX} {a b c e oe ce : Expr} {es : List Expr} {pos : Pos} {hx hk : OEnv → R PyData} {hp : OEnv → R (Nat × List Nat)} {ho : OEnv → R (O × OEnv)} {hn : OEnv → R O} {is : List Nat} {k : Nat}
def sTupN (is : List Nat) (ho : OEnv → R (O × OEnv)) : OEnv → SR := fun ρ => (ho ρ).sr ρ fun p => match p.1 with
  | .tup os => if os.length = is.length then .nx (VL.setsT p.2 (is.zip os)) else .stuck
  | .fz (.tuple ds) => if ds.length = is.length then .nx (setsO p.2 (is.zip ds)) else .stuck
  | .fz (.list ds) => if ds.length = is.length then .nx (setsO p.2 (is.zip ds)) else .stuck
  | _ => .stuck
@[simp] theorem sTupN_ap (is : List Nat) (ho : OEnv → R (O × OEnv)) (ρ : OEnv) : sTupN is ho ρ = (ho ρ).sr ρ fun p => match p.1 with
  | .tup os => if os.length = is.length then .nx (VL.setsT p.2 (is.zip os)) else .stuck
  | .fz (.tuple ds) => if ds.length = is.length then .nx (setsO p.2 (is.zip ds)) else .stuck
  | .fz (.list ds) => if ds.length = is.length then .nx (setsO p.2 (is.zip ds)) else .stuck
  | _ => .stuck := rfl
theorem OwnL.takeP {K : PySem.W.Frag} {F H : Hp} : ∀ {os : List O} {vs : List V} {fp : List Addr} (n : Nat), OwnL K F H vs os fp → ∃ f1 f2, OwnL K F H (vs.take n) (os.take n) f1 ∧ OwnL K F H (vs.drop n) (os.drop n) f2 ∧ fp = f1 ++ f2
  | _, _, _, 0, h => ⟨[], _, by simp; exact .nil, by simpa using h, rfl⟩
  | _, _, _, n + 1, .nil => ⟨[], [], by simp; exact .nil, by simp; exact .nil, rfl⟩
  | _, _, _, n + 1, .cons h1 h2 => by
    obtain ⟨f1, f2, z1, z2, rfl⟩ := OwnL.takeP n h2
    exact ⟨_ ++ f1, f2, .cons h1 z1, z2, by rw [List.append_assoc]⟩
theorem chg_ins (n : Nat) : Chg (fun vs y => vs.take n ++ [y] ++ vs.drop n) (fun os o => os.take n ++ [o] ++ os.drop n) := ⟨fun {K F H vs os y o fp fpo} h1 h2 => by
  obtain ⟨f1, f2, z1, z2, rfl⟩ := h1.takeP n
  have w : OwnL K F H [y] [o] (fpo ++ []) := .cons h2 .nil
  rw [List.append_nil] at w
  refine ⟨(f1 ++ fpo) ++ f2, (z1.append w).append z2, (f1 ++ f2) ++ fpo, ?_, .refl _⟩
  rw [List.append_assoc, List.append_assoc]
  exact List.Perm.append_left f1 List.perm_append_comm⟩
def insAt {α : Type} (xs : List α) (n : Nat) (y : α) : List α := xs.take n ++ [y] ++ xs.drop n
def sInsP (hp : OEnv → R (Nat × List Nat)) (hk : OEnv → R PyData) (hn : OEnv → R O) : OEnv → SR := fun ρ => (hp ρ).sr ρ fun ip => match ρ[ip.1]? with
  | some (some o) => (match o.at ip.2 with
    | some (.lst os) => (hk ρ).sr ρ fun d => (hn ρ).sr ρ fun y => (match d with
      | .int j => if 0 ≤ j ∧ j < 16777216 ∧ os.length < sizeLine then .nx (ρ.set ip.1 (some (o.put ip.2 (.lst (insAt os j.toNat y))))) else .stuck
      | _ => .stuck)
    | _ => .stuck)
  | _ => .stuck
theorem vs_insP (mk : ∀ {to tk te : TE}, PE X oe to → PE X b tk → PE X e te → PE X ce (tBM X.K "list" (fun x vs H Q => ∃ (l : Addr) (xs : List V) (i : Int) (y : V), x = .ref l ∧ vs = [.int i, y] ∧ H l = some (.lst xs) ∧ xs.length < sizeLine ∧ 0 ≤ i ∧ i < 2 ^ 63 ∧ Q .non (upd H l (.lst (xs.take i.toNat ++ [y] ++ xs.drop i.toNat)))) to (tCons tk (tCons te tNil)))) (h1 : VPl X W oe hp) (h2 : VX X W b hk) (h3 : VOn X W e hn)
    (hs : swapsWith ce none pos.line X.env = pure false := by rfl) : VS X W (.Expr ce pos) (sInsP hp hk hn) := by
  obtain ⟨t1, p1, q1⟩ := h1.go
  obtain ⟨t2, p2, q2⟩ := h2.ex
  obtain ⟨t3, p3, q3⟩ := h3.ex
  refine ⟨_, ps_expr (mk p1 p2 p3) hs, fun D σ H F0 H0 F ρ rs pr => ?_⟩
  unfold sInsP at pr
  refine q1 σ H F0 H0 F ρ _ _ D rs pr (fun ip o v o' e1 ev e2 po v' H1 F1 ex pt => ?_) (fun ip po => ?_)
  · rw [e1] at po
    simp only [e2] at po
    cases o' with
    | lst os =>
      simp only at po
      have r1 := rs.ext ex
      obtain ⟨v0, a0, vs0, g1, g2, g3, g4, _⟩ := r1.non.mutL e1 e2
      have g1' : σ[ip.1]? = some (some v0) := g1
      rw [ev] at g1'; cases g1'
      have ea := pt.det g2
      subst ea
      refine ⟨.inl ⟨rfl, _, .inl (.inl g3)⟩, ?_⟩
      refine q2 σ H1 F0 H0 F1 ρ _ r1 (sr_pst r1 po fun d po1 => ?_)
      intro iv H2 F2 ex2 di
      have r2 := r1.ext ex2
      refine q3 σ H2 F0 H0 F2 ρ _ r2 (sr_pst r2 po1 fun y po2 vy H3 F3 s3 sf3 r3 => ?_)
      cases di <;> first | exact po2.elim | skip
      rename_i j
      simp only at po2
      split at po2
      · rename_i hc
        obtain ⟨v3, a3, vs3, k1, k2, k3, k4, k5⟩ := r3.mutL e1 e2
        have k1' : σ[ip.1]? = some (some v3) := k1
        rw [ev] at k1'; cases k1'
        have ea := ((pt.mono ex2.hh ex2.bb).mono s3 sf3).det k2
        cases ea
        exact ⟨a0, vs3, j, vy, rfl, rfl, k3, by rw [k4]; exact hc.2.2, hc.1, Int.lt_trans hc.2.1 (by decide), po2 _ _ _ (k5 (chg_ins j.toNat))⟩
      · exact po2.elim
    | _ => exact po.elim
  · split at po
    · rename_i o eo
      split at po
      · rename_i os eo2; exact ⟨o, _, eo, eo2⟩
      · exact po.elim
    · exact po.elim
end
end VL

namespace VL
open PySem PySem.Spec PyProof.Rows L2
open Enc (e)
section
variable {α β γ δ : Type}
abbrev oT2 (f : α → O) (g : β → O) (p : α × β) : O := .tup [f p.1, g p.2]
abbrev oT3 (f : α → O) (g : β → O) (h : γ → O) (p : T3 α β γ) : O := .tup [f p.a, g p.b, h p.c]
variable {ρ ρ1 ρ2 ρ3 ρ4 : OEnv} {h1 h2 h3 h4 : OEnv → R (O × OEnv)} {f1 : α → O} {f2 : β → O} {f3 : γ → O} {f4 : δ → O}
theorem TQ.mk {γ' : Type} {f : α → γ'} {x : R γ'} {t : R α} (h : ∀ a, t = .ok a → x = .ok (f a)) (h' : ∀ c, t = .err c → x = .err c) : TQ f x t := by
  cases t with
  | stuck => trivial
  | err c => exact h' c rfl
  | ok a => exact h a rfl
variable {hn : OEnv → R O}
theorem n_x [Enc α] {h : OEnv → R PyData} {s : R α} (hs : TEq (h ρ) s) : TQ (oF : α → O) (nX h ρ) s := by
  cases s with
  | stuck => trivial
  | err c => show (h ρ).bind _ = _; rw [show h ρ = .err c from hs]; rfl
  | ok a => show (h ρ).bind _ = _; rw [show h ρ = .ok (e a) from hs]; rfl
structure LQ (ox : α → O) (p : List Nat) (get : α → Option (List β)) (oe : β → O) (set : α → List β → α) : Prop where
  g : ∀ x ys, get x = some ys → (ox x).at p = some (oL oe ys)
  s : ∀ x ys zs, get x = some ys → (ox x).put p (oL oe zs) = ox (set x zs)
theorem lq_self {oe : β → O} : LQ (oL oe) [] some oe (fun _ zs => zs) := ⟨fun x ys h => by cases h; rfl, fun x ys zs h => rfl⟩
theorem l_var (i : Nat) {ox : α → O} (x : α) (hl : lentP (ox x) = [] := by rfl) (h : ρ[i]? = some (some (ox x)) := by rfl) : TQ (fun _ : Unit => (i, ([] : List Nat))) (pVar i ρ) (.ok ()) := by
  show pVar i ρ = _
  unfold pVar; rw [h]; simp only [hl]
end
section
variable {β l σ τ α γ ι : Type} {E : σ → OEnv → Prop} {L : l → OEnv → Prop} {er : O → OEnv → β → Prop} {Z : OEnv → Prop} {ρ : OEnv} {g h k g1 : OEnv → SR}
def tmutP {α γ δ : Type} (get : α → Option (List γ)) (set : α → List γ → α) (x : α) (f : List γ → R (List γ)) : R α := match get x with
  | some ys => (f ys).bind fun zs => .ok (set x zs)
  | none => .stuck
@[simp] theorem tmutP_some {α γ : Type} {get : α → Option (List γ)} {set : α → List γ → α} {x : α} {f : List γ → R (List γ)} {ys : List γ} (h : get x = some ys) : tmutP (δ := Unit) get set x f = (f ys).bind fun zs => .ok (set x zs) := by unfold tmutP; rw [h]
def tfd {γ β l σ : Type} (o : Option γ) (f : γ → TR β l σ) : TR β l σ := match o with
  | some y => f y
  | none => .stuck
@[simp] theorem tfd_some {γ β l σ : Type} (y : γ) (f : γ → TR β l σ) : tfd (some y) f = f y := rfl
theorem q_setP {ox : α → O} {oe : γ → O} {hp : OEnv → R (Nat × List Nat)} {hk : OEnv → R PyData} {ho : OEnv → R (O × OEnv)} {t : R ι} {u : R γ} {w : R Int} {ll : α → TR β l σ} (i : Nat) {p : ι → List Nat} {get : ι → α → Option (List γ)} {set : ι → α → List γ → α} (x : α) (hl : ∀ n, LQ ox (p n) (get n) oe (set n)) (h0 : TQ (fun a => (oe a, ρ)) (ho ρ) u) (h1 : TQ (fun n => (i, p n)) (hp ρ) t) (h2 : TEq (hk ρ) w) (z : Z ρ) (hr : ∀ y, SQ E L er Z (k (ρ.set i (some (ox y)))) (ll y)) (hi : ρ[i]? = some (some (ox x)) := by rfl) :
    SQ E L er Z (seq (sSetP hp hk ho) k ρ) (u.tr fun a => t.tr fun n => tfd (get n x) fun ys => w.tr fun j => (tset ys j a).tr fun zs => ll (set n x zs)) := by
  show SQ E L er Z (SR.seq (R.sr _ _ _) k) _
  rw [seq_sr]
  refine SQ.sr h0 z fun a => ?_
  rw [seq_sr]
  refine SQ.sr h1 z fun n => ?_
  simp only [hi]
  cases hg : get n x with
  | none => trivial
  | some ys =>
    rw [(hl n).g x ys hg]
    simp only
    rw [seq_sr]
    refine SQ.sr h2 z fun j => ?_
    unfold tset
    show SQ _ _ _ _ (SR.seq (match ixN (ys.map oe).length j with | some m => _ | none => _) k) _
    rw [List.length_map]
    cases ixN ys.length j with
    | none => trivial
    | some m =>
      have e1 := (hl n).s x ys (ys.set m a) hg
      rw [show oL oe (ys.set m a) = O.lst ((ys.map oe).set m (oe a)) by simp [oL, List.map_set]] at e1
      show SQ _ _ _ _ (k _) (ll (set n x (ys.set m a)))
      rw [e1]
      exact hr _
def tins {α : Type} (xs : List α) (j : Int) (a : α) : R (List α) := if 0 ≤ j ∧ j < 16777216 ∧ xs.length < 16777216 then .ok (insAt xs j.toNat a) else .stuck
theorem q_insP {ox : α → O} {oe : γ → O} {hp : OEnv → R (Nat × List Nat)} {hk : OEnv → R PyData} {hn : OEnv → R O} {t : R ι} {u : R γ} {w : R Int} {ll : α → TR β l σ} (i : Nat) {p : ι → List Nat} {get : ι → α → Option (List γ)} {set : ι → α → List γ → α} (x : α) (hl : ∀ n, LQ ox (p n) (get n) oe (set n)) (h1 : TQ (fun n => (i, p n)) (hp ρ) t) (h2 : TEq (hk ρ) w) (h3 : TQ oe (hn ρ) u) (z : Z ρ) (hr : ∀ y, SQ E L er Z (k (ρ.set i (some (ox y)))) (ll y)) (hi : ρ[i]? = some (some (ox x)) := by rfl) :
    SQ E L er Z (seq (sInsP hp hk hn) k ρ) (t.tr fun n => tfd (get n x) fun ys => w.tr fun j => u.tr fun a => (tins ys j a).tr fun zs => ll (set n x zs)) := by
  show SQ E L er Z (SR.seq (R.sr _ _ _) k) _
  rw [seq_sr]
  refine SQ.sr h1 z fun n => ?_
  simp only [hi]
  cases hg : get n x with
  | none => trivial
  | some ys =>
    rw [(hl n).g x ys hg]
    simp only
    rw [seq_sr]
    refine SQ.sr h2 z fun j => ?_
    rw [seq_sr]
    refine SQ.sr h3 z fun a => ?_
    unfold tins
    show SQ _ _ _ _ (SR.seq (if 0 ≤ j ∧ j < 16777216 ∧ (ys.map oe).length < sizeLine then _ else _) k) _
    rw [List.length_map, szL]
    split
    · have e1 := (hl n).s x ys (insAt ys j.toNat a) hg
      rw [show oL oe (insAt ys j.toNat a) = O.lst (insAt (ys.map oe) j.toNat (oe a)) by simp [oL, insAt, List.map_take, List.map_drop]] at e1
      show SQ _ _ _ _ (k _) (ll (set n x (insAt ys j.toNat a)))
      rw [e1]
      exact hr _
    · trivial
end
end VL

namespace VL
open PySem PySem.Spec PyProof.Rows L2
open Enc (e)
def ttryA {β l σ : Type} (s : TR β l σ) (tb : Str → Option Bool) (h : Str → TR β l σ) : TR β l σ := match s with
  | .err c => match tb c with
    | some true => (match h c with
      | .err _ => .stuck
      | r => r)
    | some false => .err c
    | none => .stuck
  | r => r
section
variable {β l σ τ : Type}
@[simp] theorem ttryA_nx (s : σ) (tb : Str → Option Bool) (h : Str → TR β l σ) : ttryA (.nx s) tb h = .nx s := rfl
@[simp] theorem ttryA_rt (s : β) (tb : Str → Option Bool) (h : Str → TR β l σ) : ttryA (.rt s) tb h = .rt s := rfl
@[simp] theorem ttryA_ct (s : l) (tb : Str → Option Bool) (h : Str → TR β l σ) : ttryA (.ct s) tb h = .ct s := rfl
@[simp] theorem ttryA_bk (s : l) (tb : Str → Option Bool) (h : Str → TR β l σ) : ttryA (.bk s) tb h = .bk s := rfl
@[simp] theorem ttry_nx (s : σ) (tb : Str → Option Bool) (h : TR β l σ) : ttry (.nx s) tb h = .nx s := rfl
@[simp] theorem ttry_rt (s : β) (tb : Str → Option Bool) (h : TR β l σ) : ttry (.rt s) tb h = .rt s := rfl
@[simp] theorem ttry_ct (s : l) (tb : Str → Option Bool) (h : TR β l σ) : ttry (.ct s) tb h = .ct s := rfl
@[simp] theorem ttry_bk (s : l) (tb : Str → Option Bool) (h : TR β l σ) : ttry (.bk s) tb h = .bk s := rfl
variable {E : σ → OEnv → Prop} {L : l → OEnv → Prop} {er : O → OEnv → β → Prop} {Z : OEnv → Prop} {ρ : OEnv} {k : OEnv → SR}
theorem q_hand {g : OEnv → SR} {ks : List Nat} {ρ' : OEnv} {t : TR β l σ} (h : kill ks ρ = ρ') (hh : SQ E L er Z (g ρ') t) : SQ E L er Z (pre (kill ks) g ρ) t := by
  show SQ E L er Z (g (kill ks ρ)) t
  rw [h]; exact hh
end
def cNever {α β : Type} (_ : α) : R β := .stuck
@[simp] theorem cNever_ap {α β : Type} (a : α) : (cNever a : R β) = .stuck := rfl
end VL

namespace VL
open PySem PySem.Spec PyProof.Rows L2
section
variable {X : Cx} {pins : List (Addr × Obj)} {σ : L2.St} {H : Hp} {s : Shared} {a : Addr} {y v d : V} {u r : Value} {o : Option V} {A : Around} {E : Value → Shared → Prop}
theorem key_sq (I : Inv X pins σ H s) {b : Addr} {k : List L2.Key} (h : SqT X.K H b (k.map kV)) : (tupleKind (mixKind X.prog X.w)).is s.heap k b := by
  obtain ⟨its, r, ⟨o, e, hc, n, hd⟩, _⟩ := I.tuple h
  exact ⟨o, its.toArray, n, e, hc, hd, by simpa using items_are r⟩
def DG (K : PySem.W.Frag) (H : Hp) (a : Addr) (y : V) (r : Option V) : Prop :=
  (∃ kvs k, Rd H a (.dK kvs) ∧ y = kV k ∧ r = valV kvs k) ∨ ∃ kvs k b, Rd H a (.dT kvs) ∧ y = .ref b ∧ SqT K H b (k.map kV) ∧ r = valV kvs k
theorem DG.is (g : DG X.K H a y o) : IsD H a := by
  rcases g with ⟨kvs, k, e, _⟩ | ⟨kvs, k, b, e, _⟩
  · exact .inl ⟨kvs, e⟩
  · exact .inr ⟨kvs, e⟩
theorem dg_getItem {Q : Value → Shared → Prop} (hu : A.units + 1 < cLine) (I : Inv X pins σ H s) (g : DG X.K H a y (some v)) (ry : RelV y u) (h : ∀ w' s', Inv X pins σ H s' → RelV v w' → Q w' s') :
    wpAny (model X.prog X.w) A (getItem (.ref a) u) Q E s := by
  rcases g with ⟨kvs, k, e, ey, l⟩ | ⟨kvs, k, b, e, ey, eb, l⟩
  · exact d_getItem hu I (.inl ⟨kvs, k, e, ey, l⟩) ry h
  · subst ey
    cases (show u = Value.ref b from ry)
    obtain ⟨z, hd, xs, rel, dd⟩ := dt_rd I.hok e
    obtain ⟨w', hw, rw'⟩ := RelO.some_of (v := v) (o := (atKey xs k).map (·.2)) (by rw [l]; exact rel.val k)
    obtain ⟨p, hp, hp2⟩ := Option.map_eq_some_iff.mp hw
    refine wpAny_getItem_heap (tupleKind_room_in1 hu) (key_sq I eb) dd hp ?_
    rw [hp2]
    exact h w' _ (I.tok _) rw'
theorem dg_in {Q : Value → Shared → Prop} (hu : A.units + 1 < cLine) (I : Inv X pins σ H s) (g : DG X.K H a y o) (ry : RelV y u) (h : ∀ s', Inv X pins σ H s' → Q (.bool o.isSome) s') :
    wpAny (model X.prog X.w) A (compareOp .In u (.ref a)) Q E s := by
  rcases g with ⟨kvs, k, e, ey, l⟩ | ⟨kvs, k, b, e, ey, eb, l⟩
  · exact d_in hu I (.inl ⟨kvs, k, e, ey, l⟩) ry h
  · subst ey
    cases (show u = Value.ref b from ry)
    obtain ⟨z, hd, xs, rel, dd⟩ := dt_rd I.hok e
    refine wpAny_in_heap (tupleKind_room_in1 hu) (key_sq I eb) hd dd ?_
    have q := (rel.val k).isSome_eq
    rw [Option.isSome_map] at q
    rw [← q, ← l]
    exact h _ (I.tok _)
theorem dg_notIn {Q : Value → Shared → Prop} (hu : A.units + 1 < cLine) (I : Inv X pins σ H s) (g : DG X.K H a y o) (ry : RelV y u) (h : ∀ s', Inv X pins σ H s' → Q (.bool (!o.isSome)) s') :
    wpAny (model X.prog X.w) A (compareOp .NotIn u (.ref a)) Q E s := by
  rcases g with ⟨kvs, k, e, ey, l⟩ | ⟨kvs, k, b, e, ey, eb, l⟩
  · exact d_notIn hu I (.inl ⟨kvs, k, e, ey, l⟩) ry h
  · subst ey
    cases (show u = Value.ref b from ry)
    obtain ⟨z, hd, xs, rel, dd⟩ := dt_rd I.hok e
    refine wpAny_notIn_heap (tupleKind_room_in1 hu) (key_sq I eb) hd dd ?_
    have q := (rel.val k).isSome_eq
    rw [Option.isSome_map] at q
    rw [← q, ← l]
    exact h _ (I.tok _)
end
section
variable {X : Cx} {o i e f : Expr} {pos apos cpos : Pos} {td ty tx : TE}
def rDG (K : PySem.W.Frag) : V → V → Hp → VK → Prop := fun x y H Q => ∃ a v, x = .ref a ∧ DG K H a y (some v) ∧ Q v H
def rDIn (K : PySem.W.Frag) : V → V → Hp → VK → Prop := fun y x H Q => ∃ a o, x = .ref a ∧ DG K H a y o ∧ Q (.bl o.isSome) H
def rDNin (K : PySem.W.Frag) : V → V → Hp → VK → Prop := fun y x H Q => ∃ a o, x = .ref a ∧ DG K H a y o ∧ Q (.bl (!o.isSome)) H
theorem op_dgin (hu : X.A.units + 1 < cLine) : OpR X (compareOp .In) (rDIn X.K) := by
  intro pins s σ H x y u v Q I rx ry h
  obtain ⟨a, ov, rfl, g, q⟩ := h
  obtain rfl : v = Value.ref a := ry
  exact dg_in hu I g rx fun s3 I3 => ⟨.bl ov.isSome, H, I3, rfl, q⟩
theorem op_dgnin (hu : X.A.units + 1 < cLine) : OpR X (compareOp .NotIn) (rDNin X.K) := by
  intro pins s σ H x y u v Q I rx ry h
  obtain ⟨a, ov, rfl, g, q⟩ := h
  obtain rfl : v = Value.ref a := ry
  exact dg_notIn hu I g rx fun s3 I3 => ⟨.bl (!ov.isSome), H, I3, rfl, q⟩
end

def dictOf : PyData → Option (Bool × List (PyData × PyData))
  | .dict ((.none, .bool t) :: kvs) => some (t, kvs)
  | _ => none
theorem dictOf_some {d : PyData} {t : Bool} {kvs : List (PyData × PyData)} (h : dictOf d = some (t, kvs)) : d = .dict ((.none, .bool t) :: kvs) := by
  unfold dictOf at h
  split at h
  · injection h with h; injection h with h1 h2; subst h1 h2; rfl
  · cases h
def flatD : PyData → Bool
  | .int _ => true
  | .str _ => true
  | _ => false
def keyOk (t : Bool) : PyData → Bool
  | .int _ => !t
  | .str _ => !t
  | .tuple ks => t && ks.all flatD
  | _ => false
noncomputable def dLook (kvs : List (PyData × PyData)) (k : PyData) : Option PyData := match kvs with
  | [] => none
  | (j, v) :: r => @ite _ (j = k) (Classical.propDecidable _) (some v) (dLook r k)
noncomputable def vdLook (d k : PyData) : R (Option PyData) := match dictOf d with
  | some (t, kvs) => if keyOk t k = true then .ok (dLook kvs k) else .stuck
  | none => .stuck
theorem keyD_inj {j k : L2.Key} (h : keyD j = keyD k) : j = k := by
  cases j <;> cases k <;> simp [keyD] at h <;> simp [h]
theorem keyDs_inj : ∀ {j k : List L2.Key}, j.map keyD = k.map keyD → j = k
  | [], [], _ => rfl
  | [], _ :: _, h => by simp at h
  | _ :: _, [], h => by simp at h
  | a :: j, b :: k, h => by
    rw [List.map_cons, List.map_cons] at h
    injection h with h1 h2
    rw [keyD_inj h1, keyDs_inj h2]
theorem is_key {K : PySem.W.Frag} {B : Hp} {y : V} {k : L2.Key} (h : Is K B y (keyD k)) : y = kV k := by
  cases k <;> (cases h; rfl)
theorem flat_keys : ∀ {ds : List PyData}, ds.all flatD = true → ∃ k : List L2.Key, ds = k.map keyD
  | [], _ => ⟨[], rfl⟩
  | d :: ds, h => by
    rw [List.all_cons, Bool.and_eq_true] at h
    obtain ⟨k, rfl⟩ := flat_keys h.2
    cases d with
    | int i => exact ⟨.inl i :: k, rfl⟩
    | str x => exact ⟨.inr x :: k, rfl⟩
    | none => exact absurd h.1 (by simp [flatD])
    | bool b => exact absurd h.1 (by simp [flatD])
    | list b => exact absurd h.1 (by simp [flatD])
    | tuple b => exact absurd h.1 (by simp [flatD])
    | dict b => exact absurd h.1 (by simp [flatD])
theorem isAll_keys {K : PySem.W.Frag} {B : Hp} : ∀ {k : List L2.Key} {vs : List V}, IsAll K B vs (k.map keyD) → vs = k.map kV
  | [], _, h => by cases h; rfl
  | a :: k, _, h => by
    cases h with
    | cons h1 h2 => rw [List.map_cons, is_key h1, isAll_keys h2]
def RelD (K : PySem.W.Frag) (B : Hp) (ov : Option V) (o : Option PyData) : Prop := match ov, o with
  | some v, some d => Is K B v d
  | none, none => True
  | _, _ => False
theorem look_rel {κ : Type} [DecidableEq κ] (f : κ → PyData) (hf : ∀ {a b}, f a = f b → a = b) {K : PySem.W.Frag} {B : Hp} (k : κ) : ∀ {ks : List κ} {vs : List V} {ds : List PyData}, IsAll K B vs ds → ks.length = vs.length →
    RelD K B (valV (ks.zip vs) k) (dLook ((ks.map f).zip ds) (f k))
  | [], [], ds, h, _ => by cases h; exact trivial
  | [], _ :: _, _, _, hl => by cases hl
  | _ :: _, [], _, _, hl => by cases hl
  | j :: ks, v :: vs, ds, h, hl => by
    cases h with
    | @cons _ _ d ds h1 h2 =>
      have ih := look_rel f hf k (ks := ks) h2 (by simpa using hl)
      rw [List.map_cons, List.zip_cons_cons, List.zip_cons_cons]
      unfold dLook
      by_cases e : j = k
      · rw [valV_pos (p := (j, v)) e, if_pos (congrArg f e)]; exact h1
      · rw [valV_neg (p := (j, v)) e, if_neg fun z => e (hf z)]; exact ih
theorem look_core {K : PySem.W.Frag} {B H : Hp} {x y : V} {d k : PyData} {o : Option PyData} (s : Same B H) (hx : Is K B x d) (hy : Is K B y k) (h : vdLook d k = .ok o) : ∃ a ov, x = .ref a ∧ DG K H a y ov ∧ RelD K B ov o := by
  unfold vdLook at h
  split at h
  · rename_i t kvs e
    have ed := dictOf_some e
    subst ed
    split at h
    · rename_i hk
      injection h with h
      subst h
      cases hx with
      | @dct a ks vs ds hr hl ha =>
        cases ks with
        | inl ks =>
          obtain ⟨k', rfl⟩ : ∃ k', k = keyD k' := by
            cases k with
            | int i => exact ⟨.inl i, rfl⟩
            | str z => exact ⟨.inr z, rfl⟩
            | none => exact absurd hk (by simp [keyOk])
            | bool b => exact absurd hk (by simp [keyOk])
            | list b => exact absurd hk (by simp [keyOk])
            | tuple b => exact absurd hk (by simp [keyOk, KS.kind])
            | dict b => exact absurd hk (by simp [keyOk])
          exact ⟨a, valV (ks.zip vs) k', rfl, .inl ⟨_, k', Rd.mono s hr, is_key hy, rfl⟩, look_rel keyD keyD_inj k' ha hl⟩
        | inr ks =>
          cases k with
          | int i => exact absurd hk (by simp [keyOk, KS.kind])
          | str z => exact absurd hk (by simp [keyOk, KS.kind])
          | none => exact absurd hk (by simp [keyOk])
          | bool b => exact absurd hk (by simp [keyOk])
          | list b => exact absurd hk (by simp [keyOk])
          | dict b => exact absurd hk (by simp [keyOk])
          | tuple js =>
            obtain ⟨k', rfl⟩ := flat_keys (ds := js) (by simpa [keyOk, KS.kind] using hk)
            cases hy with
            | @tup b xs _ ht hxs =>
              have e2 := isAll_keys hxs
              subst e2
              exact ⟨a, valV (ks.zip vs) k', rfl, .inr ⟨_, k', b, Rd.mono s hr, rfl, Same.tupl s ht, rfl⟩, look_rel (fun k : List L2.Key => .tuple (k.map keyD)) (fun z => by injection z with z; exact keyDs_inj z) k' ha hl⟩
    · cases h
  · cases h
noncomputable def dgetD (d k : PyData) : R PyData := (vdLook d k).bind fun o => match o with | some v => .ok v | none => .stuck
noncomputable def dinD (k d : PyData) : R PyData := (vdLook d k).bind fun o => .ok (.bool o.isSome)
noncomputable def dninD (k d : PyData) : R PyData := (vdLook d k).bind fun o => .ok (.bool (!o.isSome))
noncomputable def vix (d k : PyData) : R PyData := match dictOf d with
  | some _ => dgetD d k
  | none => vidx d k
noncomputable def vInX (k d : PyData) : R PyData := match dictOf d with
  | some _ => dinD k d
  | none => vIn k d
noncomputable def vNotInX (k d : PyData) : R PyData := match dictOf d with
  | some _ => dninD k d
  | none => vNotIn k d
section
variable {X : Cx} {W : WX} {a b : Expr} {pos : Pos} {fa fb : PEnv → R PyData}
theorem rule_dg : Rule2 X W (rDG X.K) dgetD := fun d e x y σ H B Q s sm dx dy p => by
  unfold dgetD at p
  cases q : vdLook d e with
  | stuck => rw [q] at p; exact p.elim
  | err c => exact absurd q (by unfold vdLook; split <;> (try split) <;> exact fun h => nomatch h)
  | ok o =>
    rw [q] at p
    obtain ⟨a, ov, rfl, g, r⟩ := look_core s dx dy q
    cases o with
    | none => exact p.elim
    | some d' =>
      cases ov with
      | none => exact r.elim
      | some v => exact ⟨a, v, rfl, g, p v H B (.refl s) r⟩
theorem rule_din : Rule2 X W (rDIn X.K) dinD := fun d e x y σ H B Q s sm dx dy p => by
  unfold dinD at p
  cases q : vdLook e d with
  | stuck => rw [q] at p; exact p.elim
  | err c => exact absurd q (by unfold vdLook; split <;> (try split) <;> exact fun h => nomatch h)
  | ok o =>
    rw [q] at p
    obtain ⟨a, ov, rfl, g, r⟩ := look_core s dy dx q
    refine ⟨a, ov, rfl, g, ?_⟩
    have : ov.isSome = o.isSome := by cases ov <;> cases o <;> first | rfl | exact r.elim
    rw [this]
    exact p _ H B (.refl s) (.bl _)
theorem rule_dnin : Rule2 X W (rDNin X.K) dninD := fun d e x y σ H B Q s sm dx dy p => by
  unfold dninD at p
  cases q : vdLook e d with
  | stuck => rw [q] at p; exact p.elim
  | err c => exact absurd q (by unfold vdLook; split <;> (try split) <;> exact fun h => nomatch h)
  | ok o =>
    rw [q] at p
    obtain ⟨a, ov, rfl, g, r⟩ := look_core s dy dx q
    refine ⟨a, ov, rfl, g, ?_⟩
    have : ov.isSome = o.isSome := by cases ov <;> cases o <;> first | rfl | exact r.elim
    rw [this]
    exact p _ H B (.refl s) (.bl _)

theorem ix_dg (hu : X.A.units + 1 < cLine) : IxR X (rDG X.K) := by
  intro value slice pins s σ H x y v u Q I rx ry h hs
  obtain ⟨p, r, rfl, g, q⟩ := h
  obtain rfl : v = Value.ref p := rx
  exact tail_any (isD_at I g.is).1 PySem.F.slot_dict_getitem.lookup (dg_getItem hu I g ry fun w' s3 I3 rw' => ⟨r, H, I3, rw', q⟩) hs
theorem rule_or1 {r1 r2 : R2} {g1 g2 : PyData → PyData → R PyData} (c : PyData → Bool) (h1 : Rule2 X W r1 g1) (h2 : Rule2 X W r2 g2) {g : PyData → PyData → R PyData} (hg : ∀ d k, g d k = if c d = true then g2 d k else g1 d k) : Rule2 X W (fun x y H Q => r1 x y H Q ∨ r2 x y H Q) g := fun d e x y σ H B Q s sm dx dy p => by
  rw [hg] at p
  by_cases q : c d = true
  · rw [if_pos q] at p; exact .inr (h2 d e x y σ H B Q s sm dx dy p)
  · rw [if_neg q] at p; exact .inl (h1 d e x y σ H B Q s sm dx dy p)
theorem rule_or2 {r1 r2 : R2} {g1 g2 : PyData → PyData → R PyData} (c : PyData → Bool) (h1 : Rule2 X W r1 g1) (h2 : Rule2 X W r2 g2) {g : PyData → PyData → R PyData} (hg : ∀ d k, g d k = if c k = true then g2 d k else g1 d k) : Rule2 X W (fun x y H Q => r1 x y H Q ∨ r2 x y H Q) g := fun d e x y σ H B Q s sm dx dy p => by
  rw [hg] at p
  by_cases q : c e = true
  · rw [if_pos q] at p; exact .inr (h2 d e x y σ H B Q s sm dx dy p)
  · rw [if_neg q] at p; exact .inl (h1 d e x y σ H B Q s sm dx dy p)
theorem vix_if (d k : PyData) : vix d k = if (dictOf d).isSome = true then dgetD d k else vidx d k := by unfold vix; cases dictOf d <;> simp
theorem vInX_if (k d : PyData) : vInX k d = if (dictOf d).isSome = true then dinD k d else vIn k d := by unfold vInX; cases dictOf d <;> simp
theorem vNotInX_if (k d : PyData) : vNotInX k d = if (dictOf d).isSome = true then dninD k d else vNotIn k d := by unfold vNotInX; cases dictOf d <;> simp
theorem vix_ (hu : X.A.units + 65 < cLine) (ha : VE X W a fa) (hb : VE X W b fb) (hs : PlainIx b := by exact fun _ _ => rfl) : VE X W (.Subscript a b pos) (v2 vix fa fb) :=
  ve2 (fun p q => pe_ix (ix_seq.or (ix_dg (by omega))) p q hs) (rule_or1 (fun d => (dictOf d).isSome) rule_idx rule_dg vix_if) ha hb
theorem dninD_bool : ∀ d k z, dninD d k = .ok z → ∃ b, z = .bool b := fun d k z h => by
  unfold dninD at h
  cases q : vdLook k d with
  | stuck => rw [q] at h; cases h
  | err c => rw [q] at h; cases h
  | ok o => rw [q] at h; injection h with h; exact ⟨_, h.symm⟩
theorem vNotInX_bool : ∀ d k z, vNotInX d k = .ok z → ∃ b, z = .bool b := fun d k z h => by
  rw [vNotInX_if] at h
  split at h
  · exact dninD_bool _ _ _ h
  · unfold vNotIn at h
    generalize vin d k = r at h
    cases r <;> first | (cases h; done) | (cases h; exact ⟨_, rfl⟩)
theorem winX (hu : X.A.units + 65 < cLine) (ha : VE X W a fa) (hb : VE X W b fb) (hm : behindInMarks .In b = false := by with_unfolding_all rfl) : VE X W (.Compare a [.In] [b] pos) (v2 vInX fa fb) :=
  ve2 (fun p q => pe_cmpR ((op_inD hu).or (op_dgin (by omega))) p q hm) (rule_or2 (fun d => (dictOf d).isSome) rule_in rule_din vInX_if) ha hb
theorem wnotinX (hu : X.A.units + 65 < cLine) (ha : VE X W a fa) (hb : VE X W b fb) (hm : behindInMarks .NotIn b = false := by with_unfolding_all rfl) : VE X W (.Compare a [.NotIn] [b] pos) (v2 vNotInX fa fb) :=
  ve2 (fun p q => pe_cmpR ((op_notInD hu).or (op_dgnin (by omega))) p q hm) (rule_or2 (fun d => (dictOf d).isSome) rule_notin rule_dnin vNotInX_if) ha hb
theorem qnotinX (hu : X.A.units + 65 < cLine) (ha : VE X W a fa) (hb : VE X W b fb) (hm : behindInMarks .NotIn b = false := by with_unfolding_all rfl) : VT X W (.Compare a [.NotIn] [b] pos) (tst (v2 vNotInX fa fb)) :=
  vt2 (fun p q => pt_cmpR ((op_notInD hu).or (op_dgnin (by omega))) p q hm) (rule_or2 (fun d => (dictOf d).isSome) rule_notin rule_dnin vNotInX_if) vNotInX_bool ha hb
end
end VL

namespace VL
open PySem PySem.Spec PyProof.Rows L2
section
variable {X : Cx} {o e f : Expr} {apos cpos : Pos} {td ty tx : TE}
end
theorem RelD.getD {K : PySem.W.Frag} {B : Hp} {ov : Option V} {o : Option PyData} {v : V} {d : PyData} (h : RelD K B ov o) (hd : Is K B v d) : Is K B (ov.getD v) (o.getD d) := by
  cases ov <;> cases o <;> first | exact hd | exact h | exact h.elim
section
variable {X : Cx} {W : WX} {a b c : Expr} {pos apos cpos : Pos} {fa fb fc : PEnv → R PyData}
end
end VL

namespace VL
open PySem PySem.Spec PyProof.Rows L2
theorem putK_old {κ : Type} [DecidableEq κ] {k : κ} {v : V} : ∀ {ks : List κ} {vs : List V} {n : Nat}, ks.Nodup → ks.length = vs.length → ks[n]? = some k → (ks.zip vs).map (fun kv => if kv.1 = k then (kv.1, v) else kv) = ks.zip (vs.set n v)
  | [], vs, n, _, _, h => by simp at h
  | j :: ks, [], n, _, hl, _ => by cases hl
  | j :: ks, u :: vs, 0, nd, hl, h => by
    simp at h
    subst h
    have nd' := List.nodup_cons.mp nd
    simp only [List.zip_cons_cons, List.map_cons, if_true, List.set_cons_zero]
    congr 1
    have : ∀ kv ∈ ks.zip vs, (fun kv : κ × V => if kv.1 = j then (kv.1, v) else kv) kv = kv := fun kv hkv => by
      have : kv.1 ≠ j := fun e => nd'.1 (e ▸ (List.of_mem_zip hkv).1)
      simp [this]
    rw [List.map_congr_left this, List.map_id']
  | j :: ks, u :: vs, n + 1, nd, hl, h => by
    have nd' := List.nodup_cons.mp nd
    have h' : ks[n]? = some k := by simpa using h
    have : j ≠ k := fun e => nd'.1 (e ▸ List.mem_of_getElem? h')
    simp only [List.zip_cons_cons, List.map_cons, if_neg this, List.set_cons_succ]
    rw [putK_old nd'.2 (by simpa using hl) h']
theorem any_zip {κ : Type} [DecidableEq κ] {k : κ} : ∀ {ks : List κ} {vs : List V}, ks.length = vs.length → ((ks.zip vs).any fun kv => decide (kv.1 = k)) = decide (k ∈ ks)
  | [], [], _ => rfl
  | [], _ :: _, h => by cases h
  | _ :: _, [], h => by cases h
  | j :: ks, u :: vs, h => by
    rw [List.zip_cons_cons, List.any_cons, any_zip (by simpa using h), Bool.eq_iff_iff]
    simp only [Bool.or_eq_true, decide_eq_true_eq, List.mem_cons]
    exact ⟨fun z => z.imp Eq.symm id, fun z => z.imp Eq.symm id⟩
theorem putK_at {κ : Type} [DecidableEq κ] {ks : List κ} {vs : List V} {k : κ} {v : V} {n : Nat} (nd : ks.Nodup) (hl : ks.length = vs.length) (h : ks[n]? = some k) : putK (ks.zip vs) k v = ks.zip (vs.set n v) := by
  unfold putK
  rw [any_zip hl, decide_eq_true (List.mem_of_getElem? h), if_pos rfl]
  exact putK_old nd hl h
theorem putK_end {κ : Type} [DecidableEq κ] {ks : List κ} {vs : List V} {k : κ} {v : V} (hl : ks.length = vs.length) (h : k ∉ ks) : putK (ks.zip vs) k v = (ks ++ [k]).zip (vs ++ [v]) := by
  unfold putK
  rw [any_zip hl, decide_eq_false h]
  rw [List.zip_append hl]
  rfl
theorem RS.mutD {K : PySem.W.Frag} {F0 H0 F H : Hp} {σ : L2.St} {ρ : OEnv} {y : V} {oy : O} {i : Nat} {o : O} {ks : KS} {os : List O} {p : List Nat} (r : RS K F0 H0 F H (some y :: σ) (some oy :: ρ)) (ei : ρ[i]? = some (some o)) (ep : o.at p = some (.dct ks os)) :
    ∃ v a vs, σ[i]? = some (some v) ∧ Pth K F H v o p (.ref a) ∧ H a = some (hoD ks vs) ∧ vs.length = os.length ∧ ks.len = vs.length ∧ ks.nd ∧
      ∀ {ks2 : KS} {tv : List V → V → List V} {to : List O → O → List O}, Chg tv to → ks2.len = (tv vs y).length → ks2.nd → RS K F0 H0 F (upd H a (hoD ks2 (tv vs y))) σ (ρ.set i (some (o.put p (.dct ks2 (to os oy))))) := by
  obtain ⟨v, v', f1, fy, e1, e2, e3, e4, nd, fn, fh, back⟩ := r.place ei ep
  cases e3 with
  | @dct a _ vs _ fi ha hkl hl =>
    refine ⟨v, a, vs, e1, e2, ha, hl.len, hkl.1, hkl.2, fun {ks2 tv to} c l2 n2 => back F _ _ ?_⟩
    have nd2 := List.nodup_append.mp nd
    have na_y : a ∉ fy := fun m => nd2.2.2 a m a List.mem_cons_self rfl
    have na_i : a ∉ fi := (List.nodup_cons.mp nd2.2.1).1
    have hk : ∀ b, b ≠ a → upd H a (hoD ks2 (tv vs y)) b = H b := fun b hb => upd_ne hb
    have o1 : Own K F (upd H a (hoD ks2 (tv vs y))) y oy fy := e4.keep (Same.refl F) fun b hb => hk b fun e => na_y (e ▸ hb)
    have l1 : OwnL K F (upd H a (hoD ks2 (tv vs y))) vs os fi := hl.keep (Same.refl F) fun b hb => hk b fun e => na_i (e ▸ hb)
    obtain ⟨fp', z1, fp'', z2, z3⟩ := c.own l1 o1
    have sub : ∀ b ∈ fp', b ∈ fi ++ fy := fun b hb => z3.subset (z2.mem_iff.mp hb)
    have ndf : (fi ++ fy).Nodup := List.nodup_append.mpr ⟨(List.nodup_cons.mp nd2.2.1).2, nd2.1, fun x hx w hw e => nd2.2.2 w hw x (List.mem_cons_of_mem _ hx) e.symm⟩
    refine RV.cell (fi := fp') fh nd fn (List.mem_append_right _ List.mem_cons_self) (fun b hb => ?_) (fun m => ?_) (z2.nodup_iff.mpr (ndf.sublist z3)) (.dct upd_same ⟨l2, n2⟩ z1)
    · rcases List.mem_append.mp (sub b hb) with q | q
      · exact List.mem_append_right _ (List.mem_cons_of_mem _ q)
      · exact List.mem_append_left _ q
    · rcases List.mem_append.mp (sub a m) with q | q
      · exact na_i q
      · exact na_y q
def keysOf : List PyData → Option (List L2.Key)
  | [] => some []
  | .int i :: ds => (keysOf ds).map (.inl i :: ·)
  | .str x :: ds => (keysOf ds).map (.inr x :: ·)
  | _ :: _ => none
theorem keysOf_some : ∀ {ds : List PyData} {k : List L2.Key}, keysOf ds = some k → ds = k.map keyD
  | [], k, h => by injection h with h; subst h; rfl
  | .int i :: ds, k, h => by
    unfold keysOf at h
    obtain ⟨j, e, rfl⟩ := Option.map_eq_some_iff.mp h
    rw [keysOf_some e]; rfl
  | .str i :: ds, k, h => by
    unfold keysOf at h
    obtain ⟨j, e, rfl⟩ := Option.map_eq_some_iff.mp h
    rw [keysOf_some e]; rfl
  | .none :: ds, k, h => by cases h
  | .bool _ :: ds, k, h => by cases h
  | .list _ :: ds, k, h => by cases h
  | .tuple _ :: ds, k, h => by cases h
  | .dict _ :: ds, k, h => by cases h
def putAt {κ : Type} [DecidableEq κ] (ks : List κ) (os : List O) (j : κ) (y : O) : List κ × List O := match ks.findIdx? (fun x => decide (x = j)) with
  | some n => (ks, os.set n y)
  | none => (ks ++ [j], os ++ [y])
def oPut (cs : List (List L2.Key)) (ks : KS) (os : List O) (k : PyData) (y : O) : Option (KS × List O) := match ks, k with
  | .inl ks, .int i => if ks.length < sizeLine then some (.inl (putAt ks os (.inl i) y).1, (putAt ks os (.inl i) y).2) else none
  | .inl ks, .str i => if ks.length < sizeLine then some (.inl (putAt ks os (.inr i) y).1, (putAt ks os (.inr i) y).2) else none
  | .inr ks, .tuple ds => (match keysOf ds with
    | some j => if ks.length < sizeLine ∧ (cs.all fun c => decide (c ≠ j)) = true then some (.inr (putAt ks os j y).1, (putAt ks os j y).2) else none
    | none => none)
  | _, _ => none
def KNo (K : PySem.W.Frag) (cs : List (List L2.Key)) : Prop := ∀ (a : Addr) (o : Obj) (its : Array Value) (n : Nat) (k : List L2.Key), K.lookup a = some o → o.cls = .type "tuple" → o.data = .seq its n → Vals (k.map kV) its.toList → k ∈ cs
theorem putAt_core {κ : Type} [DecidableEq κ] {ks : List κ} {vs : List V} {os : List O} {j : κ} {y : V} {oy : O} (nd : ks.Nodup) (hl : ks.length = vs.length) :
    ∃ (ks2 : List κ) (tv : List V → V → List V) (to : List O → O → List O), Chg tv to ∧ putAt ks os j oy = (ks2, to os oy) ∧ ks2.Nodup ∧ ks2.length = (tv vs y).length ∧ putK (ks.zip vs) j y = ks2.zip (tv vs y) := by
  unfold putAt
  cases e : ks.findIdx? (fun x => decide (x = j)) with
  | some n =>
    obtain ⟨hn, h1, _⟩ := List.findIdx?_eq_some_iff_getElem.mp e
    have h2 : ks[n]? = some j := by rw [List.getElem?_eq_getElem hn]; exact congrArg some (of_decide_eq_true h1)
    exact ⟨ks, _, _, chg_set n, rfl, nd, by rw [List.length_set]; exact hl, putK_at nd hl h2⟩
  | none =>
    have hm : j ∉ ks := fun m => by
      have := List.findIdx?_eq_none_iff.mp e j m
      simp at this
    refine ⟨ks ++ [j], _, _, chg_app, rfl, ?_, by simp [hl], putK_end hl hm⟩
    rw [List.nodup_append]
    exact ⟨nd, by simp, fun a ha b hb q => hm (by rw [List.mem_singleton.mp hb] at q; exact q ▸ ha)⟩
theorem oPut_core {K : PySem.W.Frag} {cs : List (List L2.Key)} (hK : KNo K cs) {F H : Hp} {a : Addr} {ks ks' : KS} {vs : List V} {os os' : List O} {kd : PyData} {kv y : V} {oy : O} (fh : Same F H) (ha : H a = some (hoD ks vs)) (hl : ks.len = vs.length) (nd : ks.nd) (hk : Is K F kv kd) (h : oPut cs ks os kd oy = some (ks', os')) :
    ∃ (tv : List V → V → List V) (to : List O → O → List O), Chg tv to ∧ to os oy = os' ∧ ks'.nd ∧ ks'.len = (tv vs y).length ∧ DPut H a kv y (upd H a (hoD ks' (tv vs y))) := by
  unfold oPut at h
  cases ks with
  | inl ks =>
    have done : ∀ j : L2.Key, kv = kV j → (if ks.length < sizeLine then some ((Sum.inl (putAt ks os j oy).1 : KS), (putAt ks os j oy).2) else none) = some (ks', os') → ∃ (tv : List V → V → List V) (to : List O → O → List O), Chg tv to ∧ to os oy = os' ∧ ks'.nd ∧ ks'.len = (tv vs y).length ∧ DPut H a kv y (upd H a (hoD ks' (tv vs y))) := fun j ej h => by
      split at h
      · rename_i hz
        obtain ⟨ks2, tv, to, c, e1, e2, e3, e4⟩ := putAt_core (os := os) (j := j) (y := y) (oy := oy) nd hl
        rw [e1] at h
        injection h with h
        injection h with h1 h2
        subst h1 h2
        refine ⟨tv, to, c, rfl, e2, e3, .inl ⟨_, j, ha, ej, ?_, ?_⟩⟩
        · rw [List.length_zip]; omega
        · rw [e4]; rfl
      · cases h
    cases kd with
    | int i => exact done (.inl i) (is_key (k := .inl i) hk) h
    | str i => exact done (.inr i) (is_key (k := .inr i) hk) h
    | _ => cases h
  | inr ks =>
    cases kd with
    | tuple ds =>
      simp only at h
      cases hj : keysOf ds with
      | none => rw [hj] at h; cases h
      | some j =>
        rw [hj] at h
        simp only at h
        split at h
        · rename_i hz
          have := keysOf_some hj
          subst this
          cases hk with
          | @tup b xs _ ht hxs =>
            have e5 := isAll_keys hxs
            subst e5
            have hb : H b = some (.tup (j.map kV)) := by
              rcases ht with q | ⟨o, its, n, q1, q2, q3, q4, q5⟩
              · exact fh _ _ q
              · exact absurd rfl (of_decide_eq_true (List.all_eq_true.mp hz.2 j (hK b o its n j q1 q2 q3 q5)))
            obtain ⟨ks2, tv, to, c, e1, e2, e3, e4⟩ := putAt_core (os := os) (j := j) (y := y) (oy := oy) nd hl
            rw [e1] at h
            injection h with h
            injection h with h1 h2
            subst h1 h2
            refine ⟨tv, to, c, rfl, e2, e3, .inr ⟨_, j, b, ha, rfl, hb, ?_, ?_⟩⟩
            · rw [List.length_zip]; omega
            · rw [e4]; rfl
        · cases h
    | _ => cases h
end VL

namespace VL
open PySem PySem.Spec PyProof.Rows L2
def ks0 (t : Bool) : KS := if t then .inr [] else .inl []
def oDct (t : Bool) : OEnv → R (O × OEnv) := fun ρ => .ok (.dct (ks0 t) [], ρ)
abbrev oDctL (_ : Nat) (t : Bool) : OEnv → R (O × OEnv) := oDct t
def tDNew (t : Bool) : TE := fun _ H Q => ∀ p, H p = none → Q (.ref p) (upd H p (hoD (ks0 t) []))
section
variable {X : Cx} {W : WX} {a b c e oe : Expr} {st : Stmt} {pos p2 : Pos} {hk : OEnv → R PyData} {hp : OEnv → R (Nat × List Nat)} {ho : OEnv → R (O × OEnv)}
theorem pe_dnew (t : Bool) : PE X (.Dict [] [] pos) (tDNew t) := by
  cases t
  · exact pe_dnewK
  · exact pe_dnewT
theorem voq_dct (t : Bool) : VOq X W (.Dict [] [] pos) (oDct t) := by
  refine ⟨_, pe_dnew t, fun σ H F0 H0 F ρ Q r pr => ?_⟩
  obtain ⟨fps, s, hs⟩ := r.ex
  intro pa hn
  have e : Same H (upd H pa (hoD (ks0 t) [])) := fun b u z => by
    have hb : b ≠ pa := fun q => by rw [q, hn] at z; cases z
    rw [upd_ne hb]; exact z
  have ex : Ext F H F (upd H pa (hoD (ks0 t) [])) := ⟨e, Same.refl F, hs.fh.trans e, fun a x y => absurd x y⟩
  have hs' := hs.ext ex s.lstAt
  have s' : Slots X.K F (upd H pa (hoD (ks0 t) [])) σ ρ fps := s.keep ex.bb fun a ha => by
    obtain ⟨us, z, _⟩ := s.lstAt a ha
    rw [z]; exact ex.hh _ _ z
  have bn : F pa = none := Same.free hs.fh hn
  refine pr (.ref pa) _ F e (Same.refl F) ⟨[pa] ++ fps, .ow (.dct upd_same (by cases t <;> exact ⟨rfl, List.nodup_nil⟩) .nil) s', ?_, ?_, hs'.fh, hs'.f0, hs'.h0, hs'.nw⟩
  · refine List.nodup_cons.mpr ⟨fun hm => ?_, hs'.nd⟩
    obtain ⟨us, z, _⟩ := s.lstAt pa hm
    rw [hn] at z; cases z
  · intro a ha
    rcases List.mem_cons.mp ha with e | e
    · subst e; exact ⟨bn, Same.free hs.h0 hn⟩
    · exact hs'.ow a e
theorem vo_dct (t : Bool) : VO X W (.Dict [] [] pos) (oDct t) := (voq_dct t).vo
def sDPut (cs : List (List L2.Key)) (hp : OEnv → R (Nat × List Nat)) (hk : OEnv → R PyData) (h : OEnv → R (O × OEnv)) : OEnv → SR := fun ρ => (h ρ).sr ρ fun p => (hp p.2).sr p.2 fun ip => match p.2[ip.1]? with
  | some (some o) => (match o.at ip.2 with
    | some (.dct ks os) => (hk p.2).sr p.2 fun d => (match oPut cs ks os d p.1 with
      | some (ks', os') => .nx (p.2.set ip.1 (some (o.put ip.2 (.dct ks' os'))))
      | none => .stuck)
    | _ => .stuck)
  | _ => .stuck
theorem vs_dput {cs : List (List L2.Key)} (hK : KNo X.K cs) (hu : X.A.units + 65 < cLine) (h1 : VPl X W oe hp) (h2 : VX X W b hk) (h3 : VO X W e ho) (hs : swapsWith e (some (.Subscript oe b p2)) pos.line X.env = pure false := by rfl) :
    VS X W (.Assign [.Subscript oe b p2] e pos) (sDPut cs hp hk ho) := by
  obtain ⟨t1, p1, q1⟩ := h1.go
  obtain ⟨t2, pk, qk⟩ := h2.ex
  obtain ⟨t3, p3, q3⟩ := h3.ex
  refine ⟨_, ps_dput (by omega) p1 pk p3 hs, fun D σ H F0 H0 F ρ rs pr => ?_⟩
  unfold sDPut at pr
  refine q3 σ H F0 H0 F ρ _ rs (sr_pst rs pr fun py po y H1 F1 ry => ?_)
  have rt := ry.tail
  refine q1 σ H1 F0 H0 F1 py.2 _ _ D rt po (fun ip o v o' e1 ev e2 po v' H2 F2 ex pt => ?_) (fun ip po => ?_)
  · rw [e1] at po
    simp only [e2] at po
    cases o' with
    | dct ks os =>
      simp only at po
      have rt2 := rt.ext ex
      refine qk σ H2 F0 H0 F2 py.2 _ rt2 (sr_pst rt2 po fun d pd => ?_)
      intro iv H3 F3 ex3 di
      cases hix : oPut cs ks os d py.1 with
      | none => rw [hix] at pd; exact pd.elim
      | some kk =>
        obtain ⟨ks', os'⟩ := kk
        rw [hix] at pd
        obtain ⟨v3, a3, vs3, k1, k2, k3, k4, k5, k6, k7⟩ := ((ry.ext ex).ext ex3).mutD e1 e2
        have k1' : σ[ip.1]? = some (some v3) := k1
        rw [ev] at k1'; cases k1'
        have ea := (pt.mono ex3.hh ex3.bb).det k2
        subst ea
        obtain ⟨fps, _, hs3⟩ := ((ry.ext ex).ext ex3).ex
        obtain ⟨tv, to, c, e3, n2, l2, dp⟩ := oPut_core (y := y) hK hs3.fh k3 k5 k6 di hix
        subst e3
        exact ⟨a3, _, rfl, dp, pd _ _ _ (k7 c l2 n2)⟩
    | _ => exact po.elim
  · split at po
    · rename_i o eo
      split at po
      · rename_i ks os eo2; exact ⟨o, _, eo, eo2⟩
      · exact po.elim
    · exact po.elim
theorem PS.or {t1 t2 : TS} (h1 : PS X st t1) (h2 : PS X st t2) : PS X st (fun D σ H => t1 D σ H ∨ t2 D σ H) := ⟨fun pins s σ H D I h => h.elim (h1.run pins s σ H D I) (h2.run pins s σ H D I)⟩
theorem vs_or {g g1 g2 : OEnv → SR} (h1 : VS X W st g1) (h2 : VS X W st g2) (hg : ∀ ρ, g ρ = g1 ρ ∨ g ρ = g2 ρ) : VS X W st g := by
  obtain ⟨t1, p1, q1⟩ := h1.ex
  obtain ⟨t2, p2, q2⟩ := h2.ex
  refine ⟨_, PS.or p1 p2, fun D σ H F0 H0 F ρ rs pr => ?_⟩
  rcases hg ρ with e | e
  · rw [e] at pr; exact .inl (q1 D σ H F0 H0 F ρ rs pr)
  · rw [e] at pr; exact .inr (q2 D σ H F0 H0 F ρ rs pr)
def atDct (hp : OEnv → R (Nat × List Nat)) (h : OEnv → R (O × OEnv)) (ρ : OEnv) : Bool := match h ρ with
  | .ok p => (match hp p.2 with
    | .ok ip => (match p.2[ip.1]? with
      | some (some o) => (match o.at ip.2 with
        | some (.dct _ _) => true
        | _ => false)
      | _ => false)
    | _ => false)
  | _ => false
def sSetX (cs : List (List L2.Key)) (hp : OEnv → R (Nat × List Nat)) (hk : OEnv → R PyData) (h : OEnv → R (O × OEnv)) : OEnv → SR := fun ρ => if atDct hp h ρ = true then sDPut cs hp hk h ρ else sSetP hp hk h ρ
theorem vs_setX {cs : List (List L2.Key)} (hK : KNo X.K cs) (hu : X.A.units + 65 < cLine) (mk : ∀ {te to tk : TE}, PE X e te → PE X oe to → PE X b tk → PS X (.Assign [.Subscript oe b p2] e pos) (tAsg te (gSub to tk rSetL))) (h1 : VPl X W oe hp) (h2 : VX X W b hk) (h3 : VO X W e ho) (hs : swapsWith e (some (.Subscript oe b p2)) pos.line X.env = pure false := by rfl) :
    VS X W (.Assign [.Subscript oe b p2] e pos) (sSetX cs hp hk ho) := vs_or (vs_dput hK hu h1 h2 h3 hs) (vs_setP mk h1 h2 h3) fun ρ => by
  unfold sSetX
  split
  · exact .inl rfl
  · exact .inr rfl
end
end VL

namespace VL
open PySem PySem.Spec PyProof.Rows L2
def flatKey : Value → Option L2.Key
  | .int i _ => some (.inl i)
  | .str x _ => some (.inr x)
  | _ => none
def flatKeys : List Value → Option (List L2.Key)
  | [] => some []
  | v :: vs => match flatKey v, flatKeys vs with
    | some k, some ks => some (k :: ks)
    | _, _ => none
def tupOk (cs : List (List L2.Key)) (o : Obj) : Bool := match o.cls with
  | .type T => if T == "tuple" then (match o.data with
    | .seq its _ => (match flatKeys its.toList with
      | some k => cs.any fun c => decide (c = k)
      | none => true)
    | _ => true) else true
  | _ => true
def kTups (K : PySem.W.Frag) (cs : List (List L2.Key)) : Bool := K.all fun p => tupOk cs p.2
theorem flatKeys_of : ∀ {k : List L2.Key} {us : List Value}, Vals (k.map kV) us → flatKeys us = some k
  | [], _, h => by cases h; rfl
  | a :: k, _, h => by
    rw [List.map_cons] at h
    cases h with
    | @cons x u xs us r1 r2 =>
      have ih := flatKeys_of r2
      have e : flatKey u = some a := by
        cases a with
        | inl i => obtain ⟨t, rfl⟩ := r1; rfl
        | inr x => obtain ⟨t, rfl⟩ := r1; rfl
      simp only [flatKeys, e, ih]
theorem lookup_mem {K : PySem.W.Frag} {a : Addr} {o : Obj} (h : K.lookup a = some o) : ∃ b, (b, o) ∈ K := by
  induction K with
  | nil => cases h
  | cons p K ih =>
    obtain ⟨b, u⟩ := p
    rw [List.lookup_cons] at h
    split at h
    · injection h with h; subst h; exact ⟨b, List.mem_cons_self⟩
    · obtain ⟨c, hc⟩ := ih h; exact ⟨c, List.mem_cons_of_mem _ hc⟩
theorem kno_of {K : PySem.W.Frag} {cs : List (List L2.Key)} (h : kTups K cs = true) : KNo K cs := fun a o its n k hl hc hd hv => by
  obtain ⟨b, hb⟩ := lookup_mem hl
  have := List.all_eq_true.mp h _ hb
  unfold tupOk at this
  simp only [hc, hd, flatKeys_of hv] at this
  rw [if_pos (by decide)] at this
  obtain ⟨c, hc1, hc2⟩ := List.any_eq_true.mp this
  rw [← of_decide_eq_true hc2]; exact hc1
end VL

namespace VL
open PySem PySem.Spec PyProof.Rows L2
open Enc (e)
class FlatE (α : Type) [Enc α] where
  k : α → L2.Key
  enc : ∀ a, e a = keyD (k a)
  inj : ∀ {a b}, k a = k b → a = b
instance : FlatE Int := ⟨.inl, fun _ => rfl, fun h => by injection h⟩
instance : FlatE Str := ⟨.inr, fun _ => rfl, fun h => by injection h⟩
class KeyE (κ : Type) [Enc κ] where
  kind : Bool
  k1 : κ → L2.Key
  k2 : κ → List L2.Key
  enc : ∀ a, e a = if kind = true then .tuple ((k2 a).map keyD) else keyD (k1 a)
  inj : ∀ {a b : κ}, e a = e b → a = b
section
variable {α β γ δ : Type} [Enc α] [Enc β] [Enc γ] [Enc δ]
theorem FlatE.einj [q : FlatE α] {a b : α} (h : e a = e b) : a = b := by
  rw [q.enc, q.enc] at h; exact q.inj (keyD_inj h)
instance [q : FlatE α] : KeyE α := ⟨false, q.k, fun _ => [], fun a => by rw [q.enc]; rfl, fun h => FlatE.einj h⟩
instance [q : FlatE α] [r : FlatE β] : KeyE (α × β) := ⟨true, fun _ => .inl 0, fun p => [q.k p.1, r.k p.2], fun p => by
  show PyData.tuple [e p.1, e p.2] = _
  rw [q.enc, r.enc]; rfl, fun {a b} h => by
  have h : PyData.tuple [e a.1, e a.2] = .tuple [e b.1, e b.2] := h
  injection h with h; injection h with h1 h; injection h with h2 h
  exact Prod.ext (FlatE.einj h1) (FlatE.einj h2)⟩
instance [q : FlatE α] [r : FlatE β] [s : FlatE γ] : KeyE (T3 α β γ) := ⟨true, fun _ => .inl 0, fun p => [q.k p.a, r.k p.b, s.k p.c], fun p => by
  show PyData.tuple [e p.a, e p.b, e p.c] = _
  rw [q.enc, r.enc, s.enc]; rfl, fun {a b} h => by
  have h : PyData.tuple [e a.a, e a.b, e a.c] = .tuple [e b.a, e b.b, e b.c] := h
  injection h with h; injection h with h1 h; injection h with h2 h; injection h with h3 h
  obtain ⟨a1, a2, a3⟩ := a
  obtain ⟨b1, b2, b3⟩ := b
  rw [T3.mk.injEq]
  exact ⟨FlatE.einj h1, FlatE.einj h2, FlatE.einj h3⟩⟩
instance [q : FlatE α] [r : FlatE β] [s : FlatE γ] [t : FlatE δ] : KeyE (T4 α β γ δ) := ⟨true, fun _ => .inl 0, fun p => [q.k p.a, r.k p.b, s.k p.c, t.k p.d], fun p => by
  show PyData.tuple [e p.a, e p.b, e p.c, e p.d] = _
  rw [q.enc, r.enc, s.enc, t.enc]; rfl, fun {a b} h => by
  have h : PyData.tuple [e a.a, e a.b, e a.c, e a.d] = .tuple [e b.a, e b.b, e b.c, e b.d] := h
  injection h with h; injection h with h1 h; injection h with h2 h; injection h with h3 h; injection h with h4 h
  obtain ⟨a1, a2, a3, a4⟩ := a
  obtain ⟨b1, b2, b3, b4⟩ := b
  rw [T4.mk.injEq]
  exact ⟨FlatE.einj h1, FlatE.einj h2, FlatE.einj h3, FlatE.einj h4⟩⟩
theorem map_einj [q : FlatE α] : ∀ {xs ys : List α}, xs.map e = ys.map e → xs = ys
  | [], [], _ => rfl
  | [], _ :: _, h => by simp at h
  | _ :: _, [], h => by simp at h
  | x :: xs, y :: ys, h => by
    rw [List.map_cons, List.map_cons] at h
    injection h with h1 h2
    rw [FlatE.einj h1, map_einj h2]
instance [q : FlatE α] : KeyE (Tup α) := ⟨true, fun _ => .inl 0, fun p => p.l.map q.k, fun p => by
  show PyData.tuple (p.l.map e) = .tuple ((p.l.map q.k).map keyD)
  rw [List.map_map]
  congr 1
  exact List.map_congr_left fun a _ => q.enc a, fun {a b} h => by
  have h : PyData.tuple (a.l.map e) = .tuple (b.l.map e) := h
  injection h with h
  obtain ⟨a⟩ := a
  obtain ⟨b⟩ := b
  rw [Tup.mk.injEq]
  exact map_einj h⟩
end
structure Dc (κ β : Type) where
  l : List (κ × β)
section
variable {κ β : Type} [Enc κ] [Enc β] [q : KeyE κ]
instance : Enc (Dc κ β) := ⟨fun d => .dict ((.none, .bool q.kind) :: d.l.map fun p => (e p.1, e p.2))⟩
noncomputable def Dc.get (d : Dc κ β) (k : κ) : Option β := match d with
  | ⟨l⟩ => go l k
where go : List (κ × β) → κ → Option β
  | [], _ => none
  | (j, v) :: r, k => @ite _ (j = k) (Classical.propDecidable _) (some v) (go r k)
theorem key_ok (k : κ) : keyOk q.kind (e k) = true := by
  rw [q.enc]
  by_cases h : q.kind = true
  · rw [if_pos h, h]
    simp only [keyOk, Bool.true_and, List.all_eq_true]
    intro x hx
    obtain ⟨a, _, rfl⟩ := List.mem_map.mp hx
    cases a <;> rfl
  · rw [if_neg h]
    cases q.k1 k <;> simp [keyD, keyOk, h]
theorem dLook_e (k : κ) : ∀ l : List (κ × β), dLook (l.map fun p => (e p.1, e p.2)) (e k) = (Dc.get.go l k).map e
  | [] => rfl
  | (j, v) :: r => by
    have ih := dLook_e k r
    unfold Dc.get.go
    rw [List.map_cons]
    unfold dLook
    by_cases h : j = k
    · rw [if_pos (congrArg e h), if_pos h]; rfl
    · rw [if_neg fun z => h (q.inj z), if_neg h]; exact ih
theorem vdLook_e (d : Dc κ β) (k : κ) : vdLook (e d) (e k) = .ok ((d.get k).map e) := by
  show (if keyOk q.kind (e k) = true then R.ok (dLook _ _) else .stuck) = _
  rw [if_pos (key_ok k), dLook_e]; rfl
noncomputable def tdnin (k : κ) (d : Dc κ β) : R Bool := .ok (!(d.get k).isSome)
theorem o_dnin (k : κ) (d : Dc κ β) : TEq (vNotInX (e k) (e d)) (tdnin k d) := by
  show TEq ((vdLook (e d) (e k)).bind _) _
  rw [vdLook_e]
  show R.ok (PyData.bool (!((d.get k).map e).isSome)) = R.ok (PyData.bool (!(d.get k).isSome))
  rw [Option.isSome_map]
end
end VL

namespace VL
open PySem PySem.Spec PyProof.Rows L2
open Enc (e)
section
variable {κ β : Type} [Enc κ] [Enc β] [q : KeyE κ]
def kS (ks : List κ) : KS := if q.kind = true then .inr (ks.map q.k2) else .inl (ks.map q.k1)
def oM (oe : β → O) (d : Dc κ β) : O := .dct (kS (d.l.map (·.1))) (d.l.map fun p => oe p.2)
theorem kS_kind (ks : List κ) : (kS ks).kind = q.kind := by
  unfold kS
  split
  · rename_i h; exact h.symm
  · rename_i h; show false = _; cases hk : q.kind with
    | true => exact absurd hk h
    | false => rfl
theorem kS_data (ks : List κ) : (kS ks).data = ks.map e := by
  unfold kS
  split
  · rename_i h
    show (ks.map q.k2).map _ = _
    rw [List.map_map]
    refine List.map_congr_left fun a _ => ?_
    rw [q.enc, if_pos h]; rfl
  · rename_i h
    show (ks.map q.k1).map _ = _
    rw [List.map_map]
    refine List.map_congr_left fun a _ => ?_
    rw [q.enc, if_neg h]; rfl
theorem dM {oe : β → O} (h : ∀ b, (oe b).data = e b) (d : Dc κ β) : (oM oe d).data = e d := by
  show dctD (kS _) (O.datas _) = PyData.dict _
  unfold dctD
  rw [kS_kind, kS_data, O.datas_map, List.map_map, List.map_map, List.zip_map']
  congr 2
  exact List.map_congr_left fun p _ => by simp [h]
theorem p_dnew {oe : β → O} {ρ : OEnv} (n : Nat) {t : Bool} (ht : q.kind = t) : TQ (fun d : Dc κ β => (oM oe d, ρ)) (oDctL n t ρ) (.ok ⟨[]⟩) := by
  subst ht
  show R.ok (O.dct (ks0 q.kind) [], ρ) = R.ok (O.dct (kS []) [], ρ)
  have : ks0 q.kind = kS ([] : List κ) := by
    unfold ks0 kS
    split <;> rfl
  rw [this]
noncomputable def Dc.put (d : Dc κ β) (k : κ) (v : β) : Dc κ β := match d.l.findIdx? (fun p => @decide (p.1 = k) (Classical.propDecidable _)) with
  | some n => ⟨d.l.set n (k, v)⟩
  | none => ⟨d.l ++ [(k, v)]⟩
noncomputable def tdput (d : Dc κ β) (k : κ) (v : β) : R (Dc κ β) := if d.l.length < 16777216 then .ok (d.put k v) else .stuck
theorem k1_inj (h : q.kind = false) {a b : κ} (g : q.k1 a = q.k1 b) : a = b := q.inj (by rw [q.enc, q.enc, h, g]; rfl)
theorem k2_inj (h : q.kind = true) {a b : κ} (g : q.k2 a = q.k2 b) : a = b := q.inj (by rw [q.enc, q.enc, h, g]; rfl)
theorem putAt_T {μ : Type} [DecidableEq μ] (f : κ → μ) (hf : ∀ {a b}, f a = f b → a = b) (oe : β → O) (d : Dc κ β) (k : κ) (v : β) :
    putAt ((d.l.map (·.1)).map f) (d.l.map fun p => oe p.2) (f k) (oe v) = (((d.put k v).l.map (·.1)).map f, (d.put k v).l.map fun p => oe p.2) := by
  have e1 : ((d.l.map (·.1)).map f).findIdx? (fun x => decide (x = f k)) = d.l.findIdx? (fun p => @decide (p.1 = k) (Classical.propDecidable _)) := by
    rw [List.map_map, List.findIdx?_map]
    congr 1
    funext p
    simp only [Function.comp]
    rw [Bool.eq_iff_iff]
    simp only [decide_eq_true_eq]
    exact ⟨fun z => hf z, fun z => congrArg f z⟩
  unfold putAt Dc.put
  rw [e1]
  cases hx : d.l.findIdx? (fun p => @decide (p.1 = k) (Classical.propDecidable _)) with
  | none => simp
  | some n =>
    obtain ⟨hn, h1, _⟩ := List.findIdx?_eq_some_iff_getElem.mp hx
    have h1 : d.l[n].1 = k := by simpa using h1
    simp only [List.map_set]
    congr 1
    refine (List.ext_getElem (by simp) fun j h2 h3 => ?_)
    by_cases hj : n = j
    · subst hj; simp [h1]
    · simp [List.getElem_set_ne hj]
theorem oPut_T {cs : List (List L2.Key)} (oe : β → O) (d : Dc κ β) (k : κ) (v : β) (hl : d.l.length < 16777216) (hcs : q.kind = true → (cs.all fun c => decide (c ≠ q.k2 k)) = true) : ∃ ks' os', oPut cs (kS (d.l.map (·.1))) (d.l.map fun p => oe p.2) (e k) (oe v) = some (ks', os') ∧ O.dct ks' os' = oM oe (d.put k v) := by
  unfold kS
  by_cases h : q.kind = true
  · have ek : e k = .tuple ((q.k2 k).map keyD) := by rw [q.enc, if_pos h]
    have hk : ∀ j : List L2.Key, keysOf (j.map keyD) = some j := by
      intro j
      induction j with
      | nil => rfl
      | cons a j ih => cases a <;> simp [keyD, keysOf, ih]
    rw [if_pos h, ek]
    unfold oPut
    simp only [hk]
    rw [if_pos ⟨by rw [List.length_map, List.length_map]; exact hl, hcs h⟩, putAt_T q.k2 (k2_inj h)]
    refine ⟨_, _, rfl, ?_⟩
    unfold oM kS
    rw [if_pos h]
  · have h' : q.kind = false := by cases z : q.kind with
      | true => exact absurd z h
      | false => rfl
    have ek : e k = keyD (q.k1 k) := by rw [q.enc, if_neg h]
    rw [if_neg h, ek]
    have hz : ((d.l.map (·.1)).map q.k1).length < sizeLine := by rw [List.length_map, List.length_map, szL]; exact hl
    have fin : ∀ j : L2.Key, q.k1 k = j → (if ((d.l.map (·.1)).map q.k1).length < sizeLine then some ((Sum.inl (putAt ((d.l.map (·.1)).map q.k1) (d.l.map fun p => oe p.2) j (oe v)).1 : KS), (putAt ((d.l.map (·.1)).map q.k1) (d.l.map fun p => oe p.2) j (oe v)).2) else none) = some ((Sum.inl ((d.put k v).l.map (·.1) |>.map q.k1) : KS), (d.put k v).l.map fun p => oe p.2) := fun j hj => by
      subst hj
      rw [if_pos hz, putAt_T q.k1 (k1_inj h')]
    refine ⟨(Sum.inl ((d.put k v).l.map (·.1) |>.map q.k1) : KS), (d.put k v).l.map fun p => oe p.2, ?_, ?_⟩
    · cases hk : q.k1 k with
      | inl i => exact fin _ hk
      | inr i => exact fin _ hk
    · unfold oM kS
      rw [if_neg h]
end
section
variable {κ γ β l σ : Type} [Enc κ] [Enc γ] [q : KeyE κ] {E : σ → OEnv → Prop} {L : l → OEnv → Prop} {er : O → OEnv → β → Prop} {Z : OEnv → Prop} {ρ : OEnv} {k : OEnv → SR}
theorem q_dputV {cs : List (List L2.Key)} {oe : γ → O} {hk : OEnv → R PyData} {ho : OEnv → R (O × OEnv)} {u : R γ} {w : R κ} {ll : Dc κ γ → TR β l σ} (i : Nat) (d : Dc κ γ) (h0 : TQ (fun a => (oe a, ρ)) (ho ρ) u) (h2 : TEq (hk ρ) w) (z : Z ρ) (hr : ∀ y, SQ E L er Z (k (ρ.set i (some (oM oe y)))) (ll y))
    (hcs : ∀ x : κ, q.kind = true → (cs.all fun c => decide (c ≠ q.k2 x)) = true) (hi : ρ[i]? = some (some (oM oe d)) := by rfl) :
    SQ E L er Z (seq (sSetX cs (pVar i) hk ho) k ρ) (u.tr fun a => w.tr fun j => (tdput d j a).tr ll) := by
  have ev : pVar i ρ = .ok (i, []) := by unfold pVar; rw [hi]; rfl
  show SQ E L er Z (SR.seq (if atDct (pVar i) ho ρ = true then sDPut cs (pVar i) hk ho ρ else sSetP (pVar i) hk ho ρ) k) _
  cases u with
  | stuck => trivial
  | err c =>
    have h0 : ho ρ = .err c := h0
    have : (if atDct (pVar i) ho ρ = true then sDPut cs (pVar i) hk ho ρ else sSetP (pVar i) hk ho ρ) = .err c ρ := by
      split
      · unfold sDPut; rw [h0]; rfl
      · unfold sSetP; rw [h0]; rfl
    rw [this]
    exact ⟨ρ, rfl, z⟩
  | ok a =>
    have h0 : ho ρ = .ok (oe a, ρ) := h0
    have ea : atDct (pVar i) ho ρ = true := by
      unfold atDct
      rw [h0]
      simp only [ev, hi]
      rfl
    rw [if_pos ea]
    unfold sDPut
    rw [h0]
    show SQ E L er Z (SR.seq ((pVar i ρ).sr ρ _) k) _
    rw [ev]
    show SQ E L er Z (SR.seq (match ρ[i]? with | some (some o) => _ | _ => _) k) _
    simp only [hi]
    show SQ E L er Z (SR.seq (R.sr (hk ρ) ρ _) k) _
    rw [seq_sr]
    show SQ E L er Z _ (w.tr fun j => (tdput d j a).tr ll)
    refine SQ.sr h2 z fun j => ?_
    unfold tdput
    by_cases hl : d.l.length < 16777216
    · obtain ⟨ks', os', e1, e2⟩ := oPut_T (cs := cs) oe d j a hl (hcs j)
      rw [if_pos hl]
      simp only [e1]
      show SQ E L er Z (k (ρ.set i (some (O.dct ks' os')))) (ll (d.put j a))
      rw [e2]
      exact hr _
    · rw [if_neg hl]; trivial
end
end VL

namespace VL
open PySem PySem.Spec PyProof.Rows L2
open Enc (e)
section
variable {α β : Type} [Enc α] [Enc β]
theorem o_vixL (a : List α) (i : Int) : TEq (vix (e a) (e i)) (tidx a i) := o_idx a i
theorem o_inX [q : EqE α] (hd : EqE.dep α + 1 ≤ 64 := by decide) (a : α) (b : List α) : TEq (vInX (e a) (e b)) (tin a b) := o_in hd a b
theorem o_ninX [q : EqE α] (hd : EqE.dep α + 1 ≤ 64 := by decide) (a : α) (b : List α) : TEq (vNotInX (e a) (e b)) (tnin a b) := o_nin hd a b
end
section
variable {κ β : Type} [Enc κ] [Enc β] [q : KeyE κ] {ρ : PEnv} {fa fb fc : PEnv → R PyData}
end
section
variable {β l σ τ α γ ι : Type} {E : σ → OEnv → Prop} {L : l → OEnv → Prop} {er : O → OEnv → β → Prop} {Z : OEnv → Prop} {ρ : OEnv} {g h k g1 : OEnv → SR}
theorem q_setX {cs : List (List L2.Key)} {ox : α → O} {oe : γ → O} {hp : OEnv → R (Nat × List Nat)} {hk : OEnv → R PyData} {ho : OEnv → R (O × OEnv)} {t : R ι} {u : R γ} {w : R Int} {ll : α → TR β l σ} (i : Nat) {p : ι → List Nat} {get : ι → α → Option (List γ)} {set : ι → α → List γ → α} (x : α) (hl : ∀ n, LQ ox (p n) (get n) oe (set n)) (h0 : TQ (fun a => (oe a, ρ)) (ho ρ) u) (h1 : TQ (fun n => (i, p n)) (hp ρ) t) (h2 : TEq (hk ρ) w) (z : Z ρ) (hr : ∀ y, SQ E L er Z (k (ρ.set i (some (ox y)))) (ll y)) (hi : ρ[i]? = some (some (ox x)) := by rfl) :
    SQ E L er Z (seq (sSetX cs hp hk ho) k ρ) (u.tr fun a => t.tr fun n => tfd (get n x) fun ys => w.tr fun j => (tset ys j a).tr fun zs => ll (set n x zs)) := by
  have main := q_setP (E := E) (L := L) (er := er) (Z := Z) (k := k) i x hl h0 h1 h2 z hr hi
  cases hd : atDct hp ho ρ with
  | false =>
    have e1 : sSetX cs hp hk ho ρ = sSetP hp hk ho ρ := by unfold sSetX; rw [hd]; rfl
    show SQ E L er Z (SR.seq (sSetX cs hp hk ho ρ) k) _
    rw [e1]
    exact main
  | true =>
    cases u with
    | stuck => trivial
    | err c =>
      have h0 : ho ρ = .err c := h0
      unfold atDct at hd
      rw [h0] at hd
      cases hd
    | ok a =>
      have h0 : ho ρ = .ok (oe a, ρ) := h0
      cases t with
      | stuck => trivial
      | err c =>
        have h1 : hp ρ = .err c := h1
        unfold atDct at hd
        rw [h0] at hd
        simp only [h1] at hd
        cases hd
      | ok n =>
        have h1 : hp ρ = .ok (i, p n) := h1
        show SQ E L er Z _ (tfd (get n x) _)
        cases hg : get n x with
        | none => trivial
        | some ys =>
          unfold atDct at hd
          rw [h0] at hd
          simp only [h1, hi, (hl n).g x ys hg] at hd
          cases hd
end
end VL

namespace VL
open PySem PySem.Spec PyProof.Rows L2
structure VXA (X : Cx) (W : WX) (es : List Expr) (n : Nat) (h : OEnv → R (List PyData)) : Prop where
  len : ∀ ρ ds, h ρ = .ok ds → ds.length = n
  ex : ∃ t, PA X es t ∧ ∀ σ H F0 H0 F ρ Q, RS X.K F0 H0 F H σ ρ → Pst X W σ H (fun ds : List PyData => ∀ vs H' F', Ext F H F' H' → IsAll X.K F' vs ds → Q vs H') (h ρ) → t σ H Q
section
variable {X : Cx} {W : WX} {e : Expr} {es : List Expr} {pos : Pos} {hx : OEnv → R PyData} {hg : OEnv → R (List PyData)} {k n : Nat}
end
end VL

namespace VL
open PySem PySem.Spec PyProof.Rows L2
open Enc (e)
section
variable {α β γ θ : Type} [Enc α] [Enc β] [Enc γ] [Enc θ]
end
end VL

namespace VL
open PySem PySem.Spec PyProof.Rows L2
section
variable {α β γ l σ τ : Type}
def Ok (r : R α) (P : α → Prop) : Prop := ∃ a, r = .ok a ∧ P a
theorem Ok.mk {a : α} {P : α → Prop} (h : P a) : Ok (.ok a) P := ⟨a, rfl, h⟩
@[simp] theorem Ok_ok (a : α) (P : α → Prop) : Ok (.ok a) P = P a := propext ⟨fun ⟨b, e, h⟩ => (R.ok.inj e) ▸ h, fun h => ⟨a, rfl, h⟩⟩
@[simp] theorem Ok_bind (r : R α) (f : α → R β) (P : β → Prop) : Ok (r.bind f) P = Ok r fun a => Ok (f a) P := by
  cases r with
  | ok a => simp
  | err c => exact propext ⟨fun ⟨b, e, h⟩ => (nomatch e), fun ⟨b, e, h⟩ => (nomatch e)⟩
  | stuck => exact propext ⟨fun ⟨b, e, h⟩ => (nomatch e), fun ⟨b, e, h⟩ => (nomatch e)⟩
@[simp] theorem Ok_ite (c : Prop) [Decidable c] (x y : R α) (P : α → Prop) : Ok (if c then x else y) P = if c then Ok x P else Ok y P := by split <;> rfl
theorem Ok.imp {r : R α} {P Q : α → Prop} (h : Ok r P) (i : ∀ a, P a → Q a) : Ok r Q := by obtain ⟨a, e, p⟩ := h; exact ⟨a, e, i a p⟩
theorem Ok.eq {r : R α} {a : α} {P : α → Prop} (e : r = .ok a) (h : P a) : Ok r P := ⟨a, e, h⟩
def Tk (t : TR β l σ) (N : σ → Prop) (Q : β → Prop) (C B : l → Prop) : Prop := (∃ s, t = .nx s ∧ N s) ∨ (∃ b, t = .rt b ∧ Q b) ∨ (∃ s, t = .ct s ∧ C s) ∨ (∃ s, t = .bk s ∧ B s)
theorem Tk.imp {t : TR β l σ} {N N' : σ → Prop} {Q Q' : β → Prop} {C C' B B' : l → Prop} (h : Tk t N Q C B) (n : ∀ s, N s → N' s) (q : ∀ s, Q s → Q' s) (c : ∀ s, C s → C' s) (b : ∀ s, B s → B' s) : Tk t N' Q' C' B' := by
  rcases h with ⟨s, e, h⟩ | ⟨s, e, h⟩ | ⟨s, e, h⟩ | ⟨s, e, h⟩
  · exact .inl ⟨s, e, n s h⟩
  · exact .inr (.inl ⟨s, e, q s h⟩)
  · exact .inr (.inr (.inl ⟨s, e, c s h⟩))
  · exact .inr (.inr (.inr ⟨s, e, b s h⟩))
theorem Tk.to {t : TR β l σ} (N : σ → Prop) {N' : σ → Prop} {Q : β → Prop} {C B : l → Prop} (h : Tk t N (fun _ => False) (fun _ => False) (fun _ => False)) (n : ∀ s, N s → N' s) : Tk t N' Q C B := h.imp n (fun _ h => h.elim) (fun _ h => h.elim) (fun _ h => h.elim)
@[simp] theorem Tk_nx (s : σ) (N : σ → Prop) (Q : β → Prop) (C B : l → Prop) : Tk (.nx s) N Q C B = N s := propext ⟨fun h => (by
  rcases h with ⟨s, e, h⟩ | ⟨s, e, h⟩ | ⟨s, e, h⟩ | ⟨s, e, h⟩ <;> first | (cases e; exact h) | (cases e)), fun h => .inl ⟨s, rfl, h⟩⟩
@[simp] theorem Tk_rt (s : β) (N : σ → Prop) (Q : β → Prop) (C B : l → Prop) : Tk (.rt s) N Q C B = Q s := propext ⟨fun h => (by
  rcases h with ⟨s, e, h⟩ | ⟨s, e, h⟩ | ⟨s, e, h⟩ | ⟨s, e, h⟩ <;> first | (cases e; exact h) | (cases e)), fun h => .inr (.inl ⟨s, rfl, h⟩)⟩
@[simp] theorem Tk_ct (s : l) (N : σ → Prop) (Q : β → Prop) (C B : l → Prop) : Tk (.ct s) N Q C B = C s := propext ⟨fun h => (by
  rcases h with ⟨s, e, h⟩ | ⟨s, e, h⟩ | ⟨s, e, h⟩ | ⟨s, e, h⟩ <;> first | (cases e; exact h) | (cases e)), fun h => .inr (.inr (.inl ⟨s, rfl, h⟩))⟩
@[simp] theorem Tk_bk (s : l) (N : σ → Prop) (Q : β → Prop) (C B : l → Prop) : Tk (.bk s) N Q C B = B s := propext ⟨fun h => (by
  rcases h with ⟨s, e, h⟩ | ⟨s, e, h⟩ | ⟨s, e, h⟩ | ⟨s, e, h⟩ <;> first | (cases e; exact h) | (cases e)), fun h => .inr (.inr (.inr ⟨s, rfl, h⟩))⟩
theorem Tk_no {N : σ → Prop} {Q : β → Prop} {C B : l → Prop} {t : TR β l σ} (h1 : ∀ s, t ≠ .nx s) (h2 : ∀ s, t ≠ .rt s) (h3 : ∀ s, t ≠ .ct s) (h4 : ∀ s, t ≠ .bk s) : Tk t N Q C B = False := propext ⟨fun h => (by
  rcases h with ⟨s, e, h⟩ | ⟨s, e, h⟩ | ⟨s, e, h⟩ | ⟨s, e, h⟩
  · exact h1 _ e
  · exact h2 _ e
  · exact h3 _ e
  · exact h4 _ e), False.elim⟩
@[simp] theorem Tk_err (c : Str) (N : σ → Prop) (Q : β → Prop) (C B : l → Prop) : Tk (.err c) N Q C B = False := Tk_no (fun _ e => (nomatch e)) (fun _ e => (nomatch e)) (fun _ e => (nomatch e)) (fun _ e => (nomatch e))
@[simp] theorem Tk_stuck (N : σ → Prop) (Q : β → Prop) (C B : l → Prop) : Tk .stuck N Q C B = False := Tk_no (fun _ e => (nomatch e)) (fun _ e => (nomatch e)) (fun _ e => (nomatch e)) (fun _ e => (nomatch e))
@[simp] theorem Ok_err (c : Str) (P : α → Prop) : Ok (.err c) P = False := propext ⟨fun ⟨_, e, _⟩ => (nomatch e), False.elim⟩
@[simp] theorem Ok_stuck (P : α → Prop) : Ok (.stuck : R α) P = False := propext ⟨fun ⟨_, e, _⟩ => (nomatch e), False.elim⟩
@[simp] theorem Tk_tr (r : R α) (f : α → TR β l σ) (N : σ → Prop) (Q : β → Prop) (C B : l → Prop) : Tk (r.tr f) N Q C B = Ok r fun a => Tk (f a) N Q C B := by
  cases r <;> simp [R.tr]
@[simp] theorem Tk_bind (t : TR β l τ) (f : τ → TR β l σ) (N : σ → Prop) (Q : β → Prop) (C B : l → Prop) : Tk (t.bind f) N Q C B = Tk t (fun s => Tk (f s) N Q C B) Q C B := by
  cases t <;> simp [TR.bind]
@[simp] theorem Tk_ite (c : Prop) [Decidable c] (x y : TR β l σ) (N : σ → Prop) (Q : β → Prop) (C B : l → Prop) : Tk (if c then x else y) N Q C B = if c then Tk x N Q C B else Tk y N Q C B := by split <;> rfl
@[simp] theorem Ok_fn (t : TR β Empty σ) (d : σ → R β) (P : β → Prop) : Ok (t.fn d) P = Tk t (fun s => Ok (d s) P) P (fun _ => False) (fun _ => False) := by
  cases t with
  | nx s => simp
  | rt s => simp
  | err c => simp
  | stuck => simp [TR.fn]
  | ct s => exact s.elim
  | bk s => exact s.elim
@[simp] theorem Ok_calm (r : R α) (P : α → Prop) : Ok r.calm P = Ok r P := by cases r <;> simp [R.calm]
@[simp] theorem teq_str {a b : Str} (ha : PyData.strOk a = true) (hb : PyData.strOk b = true) : teq a b = .ok (decide (a = b)) := teq_ok ha hb
@[simp] theorem tne_str {a b : Str} (ha : PyData.strOk a = true) (hb : PyData.strOk b = true) : tne a b = .ok (!decide (a = b)) := tne_ok ha hb
end
end VL

namespace RT
open PySem PySem.Spec PyProof.Rows
section
variable {prog : Program} {w : World} {A : Around} {E : Value → Shared → Prop} {s : Shared}
theorem call_list_rev {it l : Addr} {items : Array Value} {Q : Value → Shared → Prop} (hh : A.handled = none) (hit : s.heap.IsRevIter it l ((items.size : Int) - 1)) (hl : s.heap.IsList l items) (hne : l ≠ it) (hn : items.size ≤ sizeLine)
    (hQ : ∀ (h' : Heap) (tk : Nat) (acc : Array Value) (c' : Nat), (∀ b o, b ≠ it → s.heap.get? b = some o → h'.get? b = some o) → h'.get? s.heap.objs.size = some { cls := .type "list", dict := none, data := .seq acc c', slots := #[] } → ItemsOf (fun i v => items[items.size - 1 - i]? = some v) acc items.size →
      Q (.ref s.heap.objs.size) { s with heap := h', toks := tk }) :
    wpAny (model prog w) A (call (.type "list") [.ref it]) Q E s := by
  have W := (Walks.listRev (prog := prog) (w := w) (A := A.in1.in1) hh it l hne items).toS
  obtain ⟨oi, hoi, _⟩ := id hit
  obtain ⟨ol, hol, _⟩ := id hl
  have hSi : s.heap.objs.size ≠ it := Nat.ne_of_gt (Heap.lt_size hoi)
  have hSl : s.heap.objs.size ≠ l := Nat.ne_of_gt (Heap.lt_size hol)
  have hSf : s.heap.objs.size ∉ [it, l] := by simp only [List.mem_cons, List.not_mem_nil, or_false, not_or]; exact ⟨hSi, hSl⟩
  refine callType_codes (Q₁ := fun obj s₁ => obj = .ref s.heap.objs.size ∧ s₁ = { s with heap := s.heap.push { cls := .type "list", data := .seq #[] } }) F.called_list (F.typeCall_list_1 _) F.entry_list_init
    (code_list_new _ ⟨rfl, rfl⟩) fun obj s₁ h₁ => ?_
  obtain ⟨rfl, rfl⟩ := h₁
  have hS : (s.heap.push { cls := .type "list", data := .seq #[] }).get? s.heap.objs.size = some { cls := .type "list", data := .seq #[] } := Heap.get?_push_size _ rfl
  refine ⟨⟨_, hS, rfl⟩, F.args_list_init_2 _ _, ?_⟩
  show wpAny _ A.in1.in1 (do let old ← Builtin.List.listItems (.ref s.heap.objs.size); Builtin.List.listUpdate (.ref s.heap.objs.size) (fun _ => #[]); letGo old.toList.reverse; Builtin.List.listExtendWith (.ref s.heap.objs.size) (.ref it) .none) _ _ _
  refine wpAny_bind ?_
  unfold Builtin.List.listItems
  refine wpAny_bind (wpAny_seqItems hS rfl (wpAny_pure ?_))
  show wpAny _ A.in1.in1 (updateSeq s.heap.objs.size (fun _ => #[]) >>= fun _ => letGo (#[] : Array Value).toList.reverse >>= fun _ => Builtin.List.listExtendWith (.ref s.heap.objs.size) (.ref it) .none) _ _ _
  refine wpAny_bind (wpAny_updateSeq hS rfl ?_)
  have hS2 := Heap.get?_update_self (Obj.mapSeq (fun _ => (#[] : Array Value))) hS rfl
  refine wpAny_bind (wpAny_letGo ?_)
  have k2 : ∀ b o, s.heap.get? b = some o → ((s.heap.push { cls := .type "list", data := .seq #[] }).update s.heap.objs.size (Obj.mapSeq (fun _ => (#[] : Array Value)))).get? b = some o := fun b o e =>
    (Heap.get?_update_other _ _ (Ne.symm (Nat.ne_of_lt (Heap.lt_size e)))).trans (Heap.get?_push_of_some _ e)
  have hit1 : ((s.heap.push { cls := .type "list", data := .seq #[] }).update s.heap.objs.size (Obj.mapSeq (fun _ => (#[] : Array Value)))).IsRevIter it l ((items.size : Int) - 1) := hit.at fun o e => k2 it o e
  have hl1 : ((s.heap.push { cls := .type "list", data := .seq #[] }).update s.heap.objs.size (Obj.mapSeq (fun _ => (#[] : Array Value)))).IsList l items := Heap.IsList.at hl fun o e => k2 l o e
  have hT : ({ s with heap := (s.heap.push { cls := .type "list", data := .seq #[] }).update s.heap.objs.size (Obj.mapSeq (fun _ => (#[] : Array Value))) } : Shared).TypeIs (.ref it) "list_reverseiterator" := Heap.IsRevIter.typeIs (s := { s with heap := _ }) hit1
  have h1 : Builtin.List.listSameRef (.ref s.heap.objs.size) (.ref it) = false := by simp [Builtin.List.listSameRef, hSi]
  unfold Builtin.List.listExtendWith
  refine wpAny_bind (wpAny_typeOf hT ?_)
  rw [if_neg (by rw [h1]; decide)]
  refine wpAny_bind (wpAny_pyIter_revIter (s := { s with heap := _ }) hit1 ?_)
  refine wpAny_bind (wpAny_holding ?_)
  unfold Builtin.List.listLengthHint
  refine wpAny_bind (wpAny_specialOf hT nolen_lri ?_)
  show wpAny _ A.in1.in1 (specialOf (Value.ref it) (Str.ofString "__length_hint__") >>= _) _ _ _
  refine wpAny_bind (wpAny_specialOf hT hint_lri ?_)
  generalize hid : ("list_reverseiterator.__length_hint__" : String) = id0
  wp_delta
  rw [show splitId id0 = some ("list_reverseiterator", "__length_hint__") from by subst hid; decide +kernel]
  subst hid
  refine wpAny_bind (wpAny_isInstance (b := true) hT (by rw [isSubtype_type]; kernel_rfl) ?_)
  refine wpAny_pure ?_
  rw [if_neg (by decide)]
  have e0 : ((items.size : Nat) : Int) - 1 - ((0 : Nat) : Int) = (items.size : Int) - 1 := by omega
  refine wpAny_pure ⟨plainId_quiet F.plain_extend_loop _, codeAny_extend_loopS W hn _ hSf _ items.size 0 _ _ _ rfl (Nat.zero_le _) ⟨Nat.zero_le _, by rw [e0]; exact hit1, hl1⟩ hS2 (ItemsOf.nil _) fun s' acc' c' hm hS' hacc => ?_⟩
  rw [Moved.eq_with hm]
  refine ⟨rfl, hQ s'.heap s'.toks acc' c' (fun b o hb e => hm.heap b o (fun hmem => ?_) (k2 b o e)) hS' hacc⟩
  rcases List.mem_cons.mp hmem with e' | hmem
  · exact absurd (Heap.lt_size e) (by rw [e']; exact Nat.lt_irrefl _)
  · exact hb (List.mem_singleton.mp hmem)
end
end RT

namespace L2
open PySem PySem.Spec PyProof.Rows RT
def tLstRev (K : PySem.W.Frag) (te : TE) : TE := fun σ H Q => te σ H fun v H1 => ∃ (a : Addr) (xs : List V), v = .ref a ∧ SqL K H1 a xs ∧ ∀ q, H1 q = none → Q (.ref q) (upd H1 q (.lst xs.reverse))
section
variable {X : Cx}
theorem pe_lstRev {e : Expr} {te : TE} {p p2 pos pos2 : Pos} (hc : X.calm = true) (hg : Gl X "list") (hm : X.mg "list" = none) (hg2 : Gl X "reversed") (hm2 : X.mg "reversed" = none) (he : PE X e te)
    (hs : starEach [e] X.env = (false, eval e X.env) :: starEach [] X.env := by rfl)
    (hs2 : starEach [.Call (.Name "reversed" p2) [e] [] pos2] X.env = (false, eval (.Call (.Name "reversed" p2) [e] [] pos2) X.env) :: starEach [] X.env := by rfl) :
    PE X (.Call (.Name "list" p) [.Call (.Name "reversed" p2) [e] [] pos2] [] pos) (tLstRev X.K te) := by
  refine ⟨fun pins s σ H Q I h => ?_⟩
  refine Call_ (ld_blt I hg hm boot_list (PyProof.Rows.callWith_type1 (args_cons (Call_ (ld_blt I hg2 hm2 PyProof.Rows.boot_reversed (PyProof.Rows.callWith_type1 (args_cons (thn (he.run pins s σ H _ I h) fun u s1 ⟨v, H1, I1, r1, q1⟩ => args_nil ?_) hs) hs rfl))) hs2) hs2 rfl))
  obtain ⟨a, xs, ev, hq, q⟩ := q1
  subst ev
  obtain rfl : u = Value.ref a := r1
  obtain ⟨its, rv, p', hz⟩ := I1.list hq
  refine call_reversed_list p'.isList (args_nil ?_)
  have k0 : ∀ b o, s1.heap.get? b = some o → (s1.heap.push (revObj a ((its.toArray.size : Int) - 1))).get? b = some o := fun b o e => Heap.get?_push_of_some _ e
  have I2 : Inv X pins σ H1 { s1 with heap := s1.heap.push (revObj a ((its.toArray.size : Int) - 1)) } := I1.kept (t' := s1.toks) k0
  obtain ⟨f0, f1, f2, f3, f4, f5⟩ := I1.fpOk (H' := H1) (b := s1.heap.objs.size) (Nat.le_refl _) (I1.hok.fresh (Nat.le_refl _))
  have hl := p'.isList
  obtain ⟨ol, hol, _⟩ := id hl
  have hne : a ≠ s1.heap.objs.size := Nat.ne_of_lt (Heap.lt_size hol)
  have hn : its.toArray.size ≤ sizeLine := by rw [List.size_toArray, ← rv.length]; exact hz
  refine call_list_rev (s := { s1 with heap := s1.heap.push (revObj a ((its.toArray.size : Int) - 1)) }) (I1.ok.hd hc) ⟨_, Heap.get?_push_size _ rfl, rfl, rfl⟩ (hl.push _) hne hn fun h' tk acc c' hk e' hi => ?_
  have I3 : Inv X pins σ H1 { s1 with heap := h', toks := tk } := I2.turned (t' := tk) (fun b o hb e => hk b o hb e) f0 f1 f3 f4 f5
  have sz : (s1.heap.push (revObj a ((its.toArray.size : Int) - 1))).objs.size = s1.heap.objs.size + 1 := by simp [Heap.push]
  refine ⟨.ref (s1.heap.push (revObj a ((its.toArray.size : Int) - 1))).objs.size, upd H1 (s1.heap.push (revObj a ((its.toArray.size : Int) - 1))).objs.size (.lst xs.reverse), ?_, rfl, q _ ?_⟩
  · refine I1.laid (t' := tk) (fun b o e => hk b o (Nat.ne_of_lt (Heap.lt_size e)) (k0 b o e)) (by rw [sz]; omega) (show ObjOk X.prog X.w _ _ _ (.lst xs.reverse) from ⟨by rw [List.length_reverse]; exact hz, acc.toList, c', vals_rev rv hi, ?_⟩)
    rw [Array.toArray_toList]; exact e'
  · exact I1.hok.fresh (by rw [sz]; omega)
end
end L2

namespace VL
open PySem PySem.Spec PyProof.Rows L2
inductive MR where
  | stuck
  | err (c : Str)
  | ok (o : O) (os : List O)
section
variable {P : Program} {w : World} {K : PySem.W.Frag} {mg : Str → Option Value} {base : Heap}
end
end VL

namespace VL
open PySem PySem.Spec PyProof.Rows L2
abbrev CT := List (Str × List Str)
def inCt (ct : CT) (c f : Str) : Bool := ct.any fun p => decide (p.1 = c) && p.2.any fun g => decide (g = f)
structure CTab (K : PySem.W.Frag) (ct : CT) : Prop where
  cl : ∀ c f, inCt ct c f = true → ∀ C, clsOf K c = some C → Cls K C ∧ NoAttr K C f
section
variable {X : Cx} {W : WX} {a b c e oe : Expr} {es : List Expr} {pos : Pos} {fa : PEnv → R PyData} {hx hk : OEnv → R PyData} {hp : OEnv → R (Nat × List Nat)} {ho : OEnv → R (O × OEnv)} {k : Nat} {ct : CT}
end

section
variable {X : Cx} {W : WX} {a b c e oe : Expr} {es : List Expr} {pos pos' : Pos} {fa : PEnv → R PyData} {hx hk : OEnv → R PyData} {hp : OEnv → R (Nat × List Nat)} {ho : OEnv → R (O × OEnv)} {k : Nat} {ct : CT}
end
end VL

namespace VL
open PySem PySem.Spec PyProof.Rows L2
inductive Ag where
  | d (x : PyData)
  | l (i : Nat)
inductive AgIs (K : PySem.W.Frag) (F : Hp) (σ : L2.St) : List Ag → List V → Prop
  | nil : AgIs K F σ [] []
  | d {x : PyData} {v : V} {as : List Ag} {vs : List V} : Is K F v x → AgIs K F σ as vs → AgIs K F σ (.d x :: as) (v :: vs)
  | l {i : Nat} {v : V} {as : List Ag} {vs : List V} : σ[i]? = some (some v) → AgIs K F σ as vs → AgIs K F σ (.l i :: as) (v :: vs)
theorem AgIs.mono {K : PySem.W.Frag} {F F' : Hp} {σ : L2.St} {as : List Ag} {vs : List V} (h : AgIs K F σ as vs) (e : Same F F') : AgIs K F' σ as vs := by
  induction h with
  | nil => exact .nil
  | d h1 _ ih => exact .d (Is.mono e h1) ih
  | l h1 _ ih => exact .l h1 ih
theorem AgIs.len {K : PySem.W.Frag} {F : Hp} {σ : L2.St} {as : List Ag} {vs : List V} (h : AgIs K F σ as vs) : vs.length = as.length := by
  induction h with
  | nil => rfl
  | d _ _ ih => rw [List.length_cons, List.length_cons, ih]
  | l _ _ ih => rw [List.length_cons, List.length_cons, ih]
structure VAg1 (X : Cx) (W : WX) (e : Expr) (h : OEnv → R Ag) : Prop where
  ex : ∃ t, PE X e t ∧ ∀ σ H F0 H0 F ρ Q, RS X.K F0 H0 F H σ ρ → Pst X W σ H (fun a : Ag => ∀ v H' F', Ext F H F' H' → (∀ as vs, AgIs X.K F' σ as vs → AgIs X.K F' σ (a :: as) (v :: vs)) → Q v H') (h ρ) → t σ H Q
structure VAg (X : Cx) (W : WX) (es : List Expr) (n : Nat) (h : OEnv → R (List Ag)) : Prop where
  len : ∀ ρ as, h ρ = .ok as → as.length = n
  ex : ∃ t, PA X es t ∧ ∀ σ H F0 H0 F ρ Q, RS X.K F0 H0 F H σ ρ → Pst X W σ H (fun as : List Ag => ∀ vs H' F', Ext F H F' H' → AgIs X.K F' σ as vs → Q vs H') (h ρ) → t σ H Q
inductive RM where
  | stuck
  | err (c : Str) (ρ : OEnv)
  | ok (o : O) (ρ : OEnv)
def MPst (X : Cx) (W : WX) (F0 H0 : Hp) (σ : L2.St) (Q : VK) : RM → Prop
  | .stuck => False
  | .err c ρ => ∀ H' F', RS X.K F0 H0 F' H' σ ρ → ErrAt X W c σ H'
  | .ok o ρ => ∀ v H' F', RS X.K F0 H0 F' H' (some v :: σ) (some o :: ρ) → Q v H'
structure VM (X : Cx) (W : WX) (e : Expr) (h : OEnv → RM) : Prop where
  ex : ∃ t, PE X e t ∧ ∀ σ H F0 H0 F ρ Q, RS X.K F0 H0 F H σ ρ → MPst X W F0 H0 σ Q (h ρ) → t σ H Q
section
variable {X : Cx} {W : WX} {a b c e oe : Expr} {es : List Expr} {pos pos' : Pos} {hx : OEnv → R PyData} {h1 : OEnv → R Ag} {hg : OEnv → R (List Ag)} {k n : Nat}
end
end VL

namespace L2
open PySem PySem.Spec PyProof.Rows
section
variable {X : Cx} {CX : CXT} {m x : Str} {p pos apos : Pos} {e o : Expr} {es : List Expr} {ta : TE} {t : TA} {E : St → XK}
variable {k : Nat} {f C : Addr} {fd : FuncData} {ps : List Str} {sp : Sp}
end
end L2
namespace VL
open PySem PySem.Spec PyProof.Rows L2
abbrev MTab := List (Str × (List PyData → R PyData))
section
variable {X : Cx} {W : WX} {a b c e oe o : Expr} {es : List Expr} {pos pos' apos : Pos} {fo : PEnv → R PyData} {fa : PEnv → R (List PyData)} {k n : Nat} {tab : MTab} {m : Str}
end
end VL

namespace VL
open PySem PySem.Spec PyProof.Rows L2
section
variable {X : Cx} {W : WX} {a b c e oe o : Expr} {es : List Expr} {pos pos' apos : Pos} {hg : OEnv → R (List Ag)} {hm : OEnv → RM} {k n : Nat} {m : Str} {g h : OEnv → SR}
end
end VL

namespace VL
open PySem PySem.Spec PyProof.Rows L2
def exP (hp : OEnv → R (Nat × List Nat)) : OEnv → R PyData := fun ρ => (hp ρ).bind fun ip => match ρ[ip.1]? with
  | some (some o) => (match o.at ip.2 with
    | some (.fz d) => .ok d
    | _ => .stuck)
  | _ => .stuck
def x2v (op : PyData → PyData → R PyData) (h h' : OEnv → R PyData) : OEnv → R PyData := fun ρ => (h ρ).bind fun d => (h' ρ).bind fun e => op d e
section
variable {X : Cx} {W : WX} {a b c e oe : Expr} {es : List Expr} {pos pos' : Pos} {hx hy : OEnv → R PyData} {hp : OEnv → R (Nat × List Nat)} {fa fb : PEnv → R PyData} {fl : PEnv → R (List PyData)}
theorem vx_fz (h : VPl X W e hp) : VX X W e (exP hp) := by
  obtain ⟨t, p, q⟩ := h.ex
  refine ⟨t, p, fun σ H F0 H0 F ρ Q r pr => q σ H F0 H0 F ρ Q r ?_⟩
  unfold exP at pr
  generalize hp ρ = rp at pr ⊢
  cases rp with
  | stuck => exact pr
  | err c => exact pr
  | ok ip =>
    simp only [R.bind_ok] at pr
    cases hρ : ρ[ip.1]? with
    | none => rw [hρ] at pr; exact pr.elim
    | some oo =>
      cases oo with
      | none => rw [hρ] at pr; exact pr.elim
      | some o =>
        rw [hρ] at pr
        simp only at pr
        cases ho : o.at ip.2 with
        | none => rw [ho] at pr; exact pr.elim
        | some o1 =>
          rw [ho] at pr
          cases o1 with
          | fz d =>
            obtain ⟨v, ev⟩ := r.slot hρ
            refine ⟨o, v, hρ, ev, ⟨_, ho⟩, fun v' H' F' ex pt => ?_⟩
            obtain ⟨v0, v2, f1, fy, g1, g2, g3, _⟩ := (r.ext ex).non.place hρ ho
            have g1' : σ[ip.1]? = some (some v0) := g1
            rw [ev] at g1'; cases g1'
            have := pt.det g2
            subst this
            cases g3 with
            | fz h => exact pr v' H' F' ex h
          | _ => exact pr.elim
theorem vix_seqX {tg : Expr} (h : VX X W a hx) : VIX X W tg a (x1 seqD hx) := by
  obtain ⟨t, p, q⟩ := h.ex
  refine ⟨_, pi_seq (pe_small p), fun σ H F0 H0 F ρ Rr r pr => ?_⟩
  refine oneX (X := X) (W := W) (Q := fun v H' => Small X.K H' → _) q r pr fun d x H' F' ex dx pg sm => ?_
  obtain ⟨_, _, hs⟩ := (r.ext ex).ex
  have dx0 := dx
  cases dx <;> first | exact pg.elim | skip
  · rename_i h1 h2
    exact ⟨_, rfl, .inl ⟨⟨_, .inl (Rd.mono hs.fh h1)⟩, pg _ H' F' ex (walks_list h1 h2 (Small.list sm hs.fh dx0))⟩⟩
  · rename_i h1 h2
    exact ⟨_, rfl, .inr ⟨⟨_, Same.tupl hs.fh h1⟩, pg _ H' F' ex (walks_tup h1 h2 (Small.tuple sm hs.fh dx0))⟩⟩
theorem vx2_ {r : R2} {g : PyData → PyData → R PyData} (mk : ∀ {ta tb : TE}, PE X a ta → PE X b tb → PE X e (tOp r ta tb)) (hr : Rule2 X W r g) (h1 : VX X W a hx) (h2 : VX X W b hy) : VX X W e (x2v g hx hy) := by
  obtain ⟨ta, pa, qa⟩ := h1.ex
  obtain ⟨tb, pb, qb⟩ := h2.ex
  refine ⟨_, mk pa (pe_small pb), fun σ H F0 H0 F ρ Q r pr => ?_⟩
  refine oneX qa r pr fun d x H1 F1 e1 dx p1 => ?_
  have r1 := r.ext e1
  refine oneX (X := X) (W := W) (Q := fun y H2 => Small X.K H2 → _) qb r1 p1 fun d2 y H2 F2 e2 dy p2 sm => ?_
  obtain ⟨_, _, hs⟩ := (r1.ext e2).ex
  exact hr d d2 x y σ H2 F2 Q hs.fh sm (Is.mono e2.bb dx) dy (Pst.imp (fun z k v H' B' ex dv => k v H' B' ((e1.trans e2).trans ex) dv) p2)
end
def visn : PyData → PyData → R PyData
  | .bool a, .bool b => .ok (.bool (!decide (a = b)))
  | _, _ => .stuck
section
variable {X : Cx} {W : WX} {a b : Expr} {pos : Pos} {fa fb : PEnv → R PyData}
theorem rule_isn : Rule2 X W rNotB visn := fun d e x y σ H B Q s sm dx dy p => by
  cases dx <;> first | (cases dy <;> exact p.elim) | skip
  cases dy <;> first | exact p.elim | skip
  exact ⟨_, _, rfl, rfl, p _ H B (.refl s) (.bl _)⟩
theorem vlrev_f {p p2 pos2 : Pos} (hc : X.calm = true) (hm : X.mg "list" = none) (hm2 : X.mg "reversed" = none) (ha : VE X W a fa) (hg : Gl X "list" := by rfl) (hg2 : Gl X "reversed" := by rfl) (hs : starEach [a] X.env = (false, eval a X.env) :: starEach [] X.env := by rfl)
    (hs2 : starEach [.Call (.Name "reversed" p2) [a] [] pos2] X.env = (false, eval (.Call (.Name "reversed" p2) [a] [] pos2) X.env) :: starEach [] X.env := by rfl) :
    VFr X W (.Call (.Name "list" p) [.Call (.Name "reversed" p2) [a] [] pos2] [] pos) (frev fa) := by
  obtain ⟨ta, pa, qa⟩ := ha.ex
  refine ⟨_, pe_lstRev hc hg hm hg2 hm2 pa hs hs2, fun σ H B ρ Q s rf p => ?_⟩
  refine one qa s rf p fun d x H' B' ex sm dx pg => ?_
  cases dx <;> first | exact pg.elim | skip
  rename_i h1 h2
  exact ⟨_, _, rfl, .inl (Rd.mono ex.bh h1), fun q hq => pg q _ _ B' (ex.trans (Ext.own ex.bh hq)) upd_same (Same.free ex.hh hq) (Same.free ex.bh hq) (IsAll.reverse h2)⟩
end
end VL
namespace VL
open PySem PySem.Spec PyProof.Rows L2
end VL

namespace VL
open PySem PySem.Spec PyProof.Rows L2
structure MutOkV (r : V → List V → Hp → VK → Prop) (f : List O → Option (List O)) : Prop where
  ok : ∀ os os', f os = some os' → ∃ (tv : List V → V → List V) (to : List O → O → List O), Chg tv to ∧ to os (.fz .none) = os' ∧ ∀ (a : Addr) (vs : List V) (H : Hp) (Q : VK), H a = some (.lst vs) → vs.length = os.length → (∀ y, Q y (upd H a (.lst (tv vs .non)))) → r (.ref a) [] H Q
theorem OwnL.dropLast {K : PySem.W.Frag} {F H : Hp} : ∀ {os : List O} {vs : List V} {fp : List Addr}, OwnL K F H vs os fp → ∃ fp', OwnL K F H vs.dropLast os.dropLast fp' ∧ fp'.Sublist fp
  | [], _, _, h => by cases h; exact ⟨[], .nil, .refl _⟩
  | [o], _, _, h => by
    cases h with
    | cons h1 h2 => cases h2; exact ⟨[], .nil, List.nil_sublist _⟩
  | o :: o2 :: os, _, _, h => by
    cases h with
    | @cons v vs _ _ f1 f2 h1 h2 =>
      obtain ⟨fp', z1, z2⟩ := OwnL.dropLast h2
      cases h2 with
      | @cons v2 vs2 _ _ g1 g2 q1 q2 =>
        have e1 : (v :: v2 :: vs2).dropLast = v :: (v2 :: vs2).dropLast := rfl
        have e2 : (o :: o2 :: os).dropLast = o :: (o2 :: os).dropLast := rfl
        rw [e1, e2]
        exact ⟨f1 ++ fp', .cons h1 z1, List.Sublist.append_left z2 f1⟩
theorem OwnL.reverse {K : PySem.W.Frag} {F H : Hp} : ∀ {os : List O} {vs : List V} {fp : List Addr}, OwnL K F H vs os fp → ∃ fp', OwnL K F H vs.reverse os.reverse fp' ∧ fp'.Perm fp
  | [], _, _, h => by cases h; exact ⟨[], .nil, .refl _⟩
  | o :: os, _, _, h => by
    cases h with
    | @cons v vs _ _ f1 f2 h1 h2 =>
      obtain ⟨fp', z1, z2⟩ := OwnL.reverse h2
      rw [List.reverse_cons, List.reverse_cons]
      refine ⟨fp' ++ (f1 ++ []), OwnL.append z1 (.cons h1 .nil), ?_⟩
      rw [List.append_nil]
      exact List.perm_append_comm.trans (List.Perm.append_left f1 z2)
section
variable {X : Cx} {W : WX} {a b c e oe ce : Expr} {es : List Expr} {pos : Pos} {hp : OEnv → R (Nat × List Nat)}
end
section
variable {β l σ τ α γ ι : Type} {E : σ → OEnv → Prop} {L : l → OEnv → Prop} {er : O → OEnv → β → Prop} {Z : OEnv → Prop} {ρ : OEnv} {g h k g1 : OEnv → SR}
end
end VL

namespace VL
open PySem PySem.Spec PyProof.Rows L2
open Enc (e)
structure In (c : Str) (ns : List Str) (τ : Type) where
  v : τ
class EncL (τ : Type) where
  l : τ → List PyData
section
variable {α β γ δ ε ζ η : Type} [Enc α] [Enc β] [Enc γ] [Enc δ] [Enc ε] [Enc ζ] [Enc η]
instance : EncL Unit := ⟨fun _ => []⟩
instance : EncL (T1 α) := ⟨fun p => [e p.a]⟩
instance : EncL (α × β) := ⟨fun p => [e p.1, e p.2]⟩
instance : EncL (T3 α β γ) := ⟨fun p => [e p.a, e p.b, e p.c]⟩
instance : EncL (T4 α β γ δ) := ⟨fun p => [e p.a, e p.b, e p.c, e p.d]⟩
instance : EncL (T5 α β γ δ ε) := ⟨fun p => [e p.a, e p.b, e p.c, e p.d, e p.x]⟩
instance : EncL (T6 α β γ δ ε ζ) := ⟨fun p => [e p.a, e p.b, e p.c, e p.d, e p.x, e p.y]⟩
instance : EncL (T7 α β γ δ ε ζ η) := ⟨fun p => [e p.a, e p.b, e p.c, e p.d, e p.x, e p.y, e p.z]⟩
instance {c : Str} {ns : List Str} {τ : Type} [EncL τ] : Enc (In c ns τ) := ⟨fun x => insD c ns (EncL.l x.v)⟩
end
section
variable {α β γ δ ε ζ η : Type} {f1 : α → O} {f2 : β → O} {f3 : γ → O} {f4 : δ → O} {f5 : ε → O} {f6 : ζ → O} {f7 : η → O}
abbrev oc1 (f1 : α → O) : T1 α → List O := fun p => [f1 p.a]
abbrev oc2 (f1 : α → O) (f2 : β → O) : α × β → List O := fun p => [f1 p.1, f2 p.2]
abbrev oc3 (f1 : α → O) (f2 : β → O) (f3 : γ → O) : T3 α β γ → List O := fun p => [f1 p.a, f2 p.b, f3 p.c]
abbrev oc4 (f1 : α → O) (f2 : β → O) (f3 : γ → O) (f4 : δ → O) : T4 α β γ δ → List O := fun p => [f1 p.a, f2 p.b, f3 p.c, f4 p.d]
abbrev oc5 (f1 : α → O) (f2 : β → O) (f3 : γ → O) (f4 : δ → O) (f5 : ε → O) : T5 α β γ δ ε → List O := fun p => [f1 p.a, f2 p.b, f3 p.c, f4 p.d, f5 p.x]
abbrev oc6 (f1 : α → O) (f2 : β → O) (f3 : γ → O) (f4 : δ → O) (f5 : ε → O) (f6 : ζ → O) : T6 α β γ δ ε ζ → List O := fun p => [f1 p.a, f2 p.b, f3 p.c, f4 p.d, f5 p.x, f6 p.y]
abbrev oc7 (f1 : α → O) (f2 : β → O) (f3 : γ → O) (f4 : δ → O) (f5 : ε → O) (f6 : ζ → O) (f7 : η → O) : T7 α β γ δ ε ζ η → List O := fun p => [f1 p.a, f2 p.b, f3 p.c, f4 p.d, f5 p.x, f6 p.y, f7 p.z]
variable [Enc α] [Enc β] [Enc γ] [Enc δ] [Enc ε] [Enc ζ] [Enc η] {c : Str} {ns : List Str}
end
section
variable {α β γ τ : Type} [Enc α] [Enc β] [Enc γ] [EncL τ] {c f : Str} {ns : List Str} {ct : CT} {ρ : OEnv} {k : Nat}
theorem t_x2v {op : PyData → PyData → R PyData} {top : α → β → R γ} {h h' : OEnv → R PyData} {s : R α} {t : R β} (ho : ∀ a b, TEq (op (e a) (e b)) (top a b)) (ha : TEq (h ρ) s) (hb : TEq (h' ρ) t) : TEq (x2v op h h' ρ) (b2 top s t) := ha.bind fun a => hb.bind fun b => ho a b
end
section
variable {α β γ τ : Type} {c f : Str} {ns : List Str} {ct : CT} {ρ : OEnv} {k : Nat}
end
section
variable {β l σ τ α γ ι : Type} {E : σ → OEnv → Prop} {L : l → OEnv → Prop} {er : O → OEnv → β → Prop} {Z : OEnv → Prop} {ρ : OEnv} {g h k g1 : OEnv → SR} {c f : Str} {ns : List Str} {ct : CT}
end
section
variable {β σ l ς : Type} {N : Nat} {ls : List Nat} {g : OEnv → SR} {ρa : OEnv} {L : l → OEnv → Prop} {lo : ς → List O} {oi : List O} {as : List Addr}
end
section
variable {α β γ σ ς θ : Type} [Enc α] {ρ : OEnv}
end
end VL

namespace VL
open PySem PySem.Spec PyProof.Rows L2
open Enc (e)
section
variable {α β γ σ ς θ τ : Type} {ρ : OEnv} {oy : θ → O} {Es : σ → OEnv} {c m : Str} {ns : List Str}
end
section
variable {β l σ τ α γ ι θ ς : Type} {E : σ → OEnv → Prop} {L : l → OEnv → Prop} {er : O → OEnv → β → Prop} {Z : OEnv → Prop} {ρ : OEnv} {g h k g1 g2 : OEnv → SR} {oy : θ → O} {Es : ς → OEnv} {hm : OEnv → RM} {t : R (θ × ς)}
end
section
variable {β l σ τ α α' γ ι : Type} {E : σ → OEnv → Prop} {L : l → OEnv → Prop} {er : O → OEnv → β → Prop} {Z : OEnv → Prop} {ρ : OEnv} {k : OEnv → SR} {c f : Str} {ns : List Str} {ct : CT}
end
section
variable {β l σ τ α γ ι : Type} [Enc α] [Enc β] {E : σ → OEnv → Prop} {L : l → OEnv → Prop} {Z : OEnv → Prop} {ρ : OEnv} {k : OEnv → SR}
end
section
variable {κ σ α τ θ : Type} {ρ : OEnv}
variable [EncL τ] [Enc θ] {c m : Str} {ns : List Str} {tab : MTab} {g : List PyData → R PyData} {fo : PEnv → R PyData} {fa : PEnv → R (List PyData)} {r : PEnv}
end
section
variable {α : Type} [Enc α] {f : PEnv → R (List PyData)} {g : PEnv → R PyData} {ρ : PEnv}
end
end VL

namespace VL
open PySem PySem.Spec PyProof.Rows L2
open Enc (e)
abbrev OTab := List (Str × (List PyData → R O))
section
variable {X : Cx} {W : WX} {a b c e oe o : Expr} {es : List Expr} {pos pos' apos : Pos} {fo : PEnv → R PyData} {fa : PEnv → R (List PyData)} {k n : Nat} {tab : OTab} {m : Str}
end
section
variable {τ θ κ : Type} [EncL τ] {c m : Str} {ns : List Str} {tab : OTab} {g : List PyData → R O} {fo : PEnv → R PyData} {fa : PEnv → R (List PyData)} {ρ : OEnv} {ox : θ → O}
end
end VL

namespace VL
open PySem PySem.Spec PyProof.Rows L2
open Enc (e)
class Dec (α : Type) [Enc α] where
  dec : PyData → Option α
  ok : ∀ d a, dec d = some a → d = e a
  rt : ∀ a, dec (e a) = some a
instance : Dec PyData := ⟨some, fun d a h => by cases h; rfl, fun a => rfl⟩
instance : Dec Int := ⟨fun d => match d with | .int i => some i | _ => none, fun d a h => by cases d <;> simp at h; subst h; rfl, fun a => rfl⟩
instance : Dec Bool := ⟨fun d => match d with | .bool i => some i | _ => none, fun d a h => by cases d <;> simp at h; subst h; rfl, fun a => rfl⟩
instance : Dec Str := ⟨fun d => match d with | .str i => some i | _ => none, fun d a h => by cases d <;> simp at h; subst h; rfl, fun a => rfl⟩
instance : Dec Unit := ⟨fun d => match d with | .none => some () | _ => none, fun d a h => by cases d <;> simp at h; rfl, fun a => rfl⟩
section
variable {α β γ δ ε : Type} [Enc α] [Enc β] [Enc γ] [Enc δ] [Enc ε] [p : Dec α] [q : Dec β] [r : Dec γ] [s : Dec δ] [t : Dec ε]
def decL : List PyData → Option (List α)
  | [] => some []
  | d :: ds => match p.dec d with
    | some a => (match decL ds with
      | some as => some (a :: as)
      | none => none)
    | none => none
theorem decL_ok : ∀ (ds : List PyData) (as : List α), decL ds = some as → ds = as.map e
  | [], as, h => by cases h; rfl
  | d :: ds, as, h => by
    unfold decL at h
    split at h
    · rename_i a ha
      split at h
      · rename_i as' h2
        cases h
        rw [List.map_cons, ← p.ok d a ha, ← decL_ok ds as' h2]
      · cases h
    · cases h
theorem decL_rt : ∀ as : List α, decL (as.map e) = some as
  | [] => rfl
  | a :: as => by rw [List.map_cons, decL, p.rt]; simp only [decL_rt as]
instance : Dec (List α) where
  dec := fun d => match d with | .list xs => decL xs | _ => none
  ok := fun d a h => by
    cases d <;> simp at h
    rw [decL_ok _ _ h]; rfl
  rt := fun a => decL_rt a
instance : Dec (Tup α) where
  dec := fun d => match d with | .tuple xs => (match decL xs with | some as => some ⟨as⟩ | none => none) | _ => none
  ok := fun d a h => by
    cases d <;> simp at h
    split at h
    · rename_i as h2; cases h; rw [decL_ok _ _ h2]; rfl
    · cases h
  rt := fun a => by
    show (match decL (a.l.map e) with | some as => some (⟨as⟩ : Tup α) | none => none) = _
    rw [decL_rt]
instance : Dec (T1 α) where
  dec := fun d => match d with | .tuple [a] => (match p.dec a with | some a => some ⟨a⟩ | none => none) | _ => none
  ok := fun d x h => by
    split at h
    · split at h
      · rename_i a h1; cases h; rw [p.ok _ _ h1]; rfl
      · cases h
    · cases h
  rt := fun x => by
    show (match p.dec (e x.a) with | some a => some (⟨a⟩ : T1 α) | none => none) = _
    rw [p.rt]
instance : Dec (α × β) where
  dec := fun d => match d with | .tuple [a, b] => (match p.dec a, q.dec b with | some a, some b => some (a, b) | _, _ => none) | _ => none
  ok := fun d x h => by
    split at h
    · split at h
      · rename_i h1 h2; cases h; rw [p.ok _ _ h1, q.ok _ _ h2]; rfl
      · cases h
    · cases h
  rt := fun x => by
    show (match p.dec (e x.1), q.dec (e x.2) with | some a, some b => some (a, b) | _, _ => none) = _
    rw [p.rt, q.rt]
instance : Dec (T3 α β γ) where
  dec := fun d => match d with | .tuple [a, b, c] => (match p.dec a, q.dec b, r.dec c with | some a, some b, some c => some ⟨a, b, c⟩ | _, _, _ => none) | _ => none
  ok := fun d x h => by
    split at h
    · split at h
      · rename_i h1 h2 h3; cases h; rw [p.ok _ _ h1, q.ok _ _ h2, r.ok _ _ h3]; rfl
      · cases h
    · cases h
  rt := fun x => by
    show (match p.dec (e x.a), q.dec (e x.b), r.dec (e x.c) with | some a, some b, some c => some (⟨a, b, c⟩ : T3 α β γ) | _, _, _ => none) = _
    rw [p.rt, q.rt, r.rt]
instance : Dec (T4 α β γ δ) where
  dec := fun d => match d with | .tuple [a, b, c, f] => (match p.dec a, q.dec b, r.dec c, s.dec f with | some a, some b, some c, some f => some ⟨a, b, c, f⟩ | _, _, _, _ => none) | _ => none
  ok := fun d x h => by
    split at h
    · split at h
      · rename_i h1 h2 h3 h4; cases h; rw [p.ok _ _ h1, q.ok _ _ h2, r.ok _ _ h3, s.ok _ _ h4]; rfl
      · cases h
    · cases h
  rt := fun x => by
    show (match p.dec (e x.a), q.dec (e x.b), r.dec (e x.c), s.dec (e x.d) with | some a, some b, some c, some f => some (⟨a, b, c, f⟩ : T4 α β γ δ) | _, _, _, _ => none) = _
    rw [p.rt, q.rt, r.rt, s.rt]
instance [n : NN α] : Dec (Option α) where
  dec := fun d => match d with | .none => some none | d => (match p.dec d with | some a => some (some a) | none => none)
  ok := fun d x h => by
    split at h
    · cases h; rfl
    · split at h
      · rename_i a h1; cases h; rw [p.ok _ _ h1]; rfl
      · cases h
  rt := fun x => by
    cases x with
    | none => rfl
    | some a =>
      show (match e a with | .none => some none | d => (match p.dec d with | some a => some (some a) | none => none)) = _
      have h := (n.nn a).1
      split
      · rename_i h2; rw [h2] at h; cases h
      · rw [p.rt]
def cDec (d : PyData) : R α := match p.dec d with
  | some a => .ok a
  | none => .stuck
theorem Co.dec : Co (cDec : PyData → R α) := fun d => by
  unfold cDec
  cases h : p.dec d with
  | none => trivial
  | some a => show R.ok d = R.ok (e a); rw [← p.ok d a h]
@[simp] theorem cDec_e (a : α) : (cDec (e a) : R α) = .ok a := by unfold cDec; rw [p.rt]
end
@[simp] theorem cDec_int (i : Int) : (cDec (.int i) : R Int) = .ok i := rfl
@[simp] theorem cDec_str (i : Str) : (cDec (.str i) : R Str) = .ok i := rfl
@[simp] theorem cDec_bool (i : Bool) : (cDec (.bool i) : R Bool) = .ok i := rfl
end VL

namespace VL
open PySem PySem.Spec PyProof.Rows L2
open Enc (e)
section
variable {α β γ l σ : Type} {ρ : OEnv} {E : σ → OEnv → Prop} {L : l → OEnv → Prop} {er : O → OEnv → β → Prop} {Z : OEnv → Prop} {k : OEnv → SR}
end
end VL

namespace VL
open PySem PySem.Spec PyProof.Rows L2
open Enc (e)
section
variable {X : Cx} {W : WX} {pos : Pos}
structure DLs (X : Cx) (pos : Pos) (keys : List (Option Expr)) (vals : List Expr) (kvs : List (L2.Key × L2.Key)) : Prop where
  pps : PPs X pos keys vals (kvs.map fun p => (tC (kV p.1), tC (kV p.2)))
  hk : keys.all (·.isSome) = true
  hl : keys.length = vals.length
  hn : keys.length = kvs.length
theorem is_keyV {K : PySem.W.Frag} {B : Hp} (k : L2.Key) : Is K B (kV k) (keyD k) := by
  cases k with
  | inl i => exact .int i
  | inr x => exact .str x
end
end VL

namespace L2
open PySem PySem.Spec PyProof.Rows PySem.W PySem.Calls Builtin
section
variable {X : Cx} {x : Str} {p pos : Pos} {C : Addr}
structure Mk0 (K : PySem.W.Frag) (C : Addr) : Prop where
  makes : PySem.W.makesIn K C = true
  init : PySem.W.findIn K (.ref C) "__init__" = some (some (.builtin "object.__init__"))
  top : PySem.W.mroIn K C (.type "object") = some true
  kp : PySem.W.keepIn K (.ref C) = true
end
end L2
namespace VL
open PySem PySem.Spec PyProof.Rows L2
section
variable {X : Cx} {W : WX} {p pos : Pos} {C : Addr} {cn : Str}
end
end VL

namespace VL
open PySem PySem.Spec PyProof.Rows L2
open Enc (e)
abbrev TTab := List (Str × R PyData)
def tLook (c : Str) : TTab → R PyData
  | [] => .stuck
  | (d, r) :: t => if d = c then r else tLook c t
def tmD (tab : TTab) : PyData → R PyData
  | .dict [(.none, .str c)] => tLook c tab
  | _ => .stuck
section
variable {fo : PEnv → R PyData} {fa : PEnv → R (List PyData)} {ρ : PEnv} {m : Str}
inductive TMs (ρ : PEnv) (fa : PEnv → R (List PyData)) : MTab → TTab → Prop
  | nil : TMs ρ fa [] []
  | cons {c : Str} {g : List PyData → R PyData} {r : R PyData} {tab : MTab} {tt : TTab} : TEq (vapp g (aCons (vC (insD c [] [])) fa) ρ) r → TMs ρ fa tab tt → TMs ρ fa ((c, g) :: tab) ((c, r) :: tt)
@[simp] theorem tmD_ins (c : Str) (tt : TTab) : tmD tt (insD c [] []) = tLook c tt := rfl
end
end VL

namespace VL
open PySem PySem.Spec PyProof.Rows L2
mutual
def olf : O → Bool
  | .fz d => lf d
  | .tup xs => olfs xs
  | .lst xs => olfs xs
  | .dct _ xs => olfs xs
  | .ins _ _ xs => olfs xs
  | .par _ o => olf o
def olfs : List O → Bool
  | [] => true
  | x :: xs => olf x && olfs xs
end
mutual
theorem Own.lfree {K : PySem.W.Frag} {F F' H : Hp} (e : ∀ b, (∃ ys, Rd F b (.tup ys)) → F' b = F b) : ∀ {o : O} {v : V} {fp : List Addr}, olf o = true → Own K F H v o fp → Own K F' H v o fp
  | .fz d, _, _, l, h => by cases h with | fz h => exact .fz (Is.lfree e (by simpa [olf] using l) h)
  | .tup os, _, _, l, h => by
    cases h with
    | tup h1 h2 => exact .tup ((e _ ⟨_, .inl h1⟩).trans h1) (OwnL.lfree e (by simpa [olf] using l) h2)
  | .lst os, _, _, l, h => by cases h with | lst h1 h2 => exact .lst h1 (OwnL.lfree e (by simpa [olf] using l) h2)
  | .dct ks os, _, _, l, h => by cases h with | dct h1 h3 h2 => exact .dct h1 h3 (OwnL.lfree e (by simpa [olf] using l) h2)
  | .ins c ns os, _, _, l, h => by cases h with | ins h1 h3 h4 h5 h2 => exact .ins h1 h3 h4 h5 (OwnL.lfree e (by simpa [olf] using l) h2)
  | .par a o, _, _, l, h => by cases h with | par h => exact .par (Own.lfree e (by simpa [olf] using l) h)
theorem OwnL.lfree {K : PySem.W.Frag} {F F' H : Hp} (e : ∀ b, (∃ ys, Rd F b (.tup ys)) → F' b = F b) : ∀ {os : List O} {vs : List V} {fp : List Addr}, olfs os = true → OwnL K F H vs os fp → OwnL K F' H vs os fp
  | [], _, _, _, h => by cases h; exact .nil
  | o :: os, _, _, l, h => by
    cases h with
    | cons h1 h2 =>
      simp [olfs] at l
      exact .cons (Own.lfree e l.1 h1) (OwnL.lfree e l.2 h2)
end
section
variable {X : Cx} {W : WX} {es : List Expr} {pos : Pos} {k : Nat}
end
class LFO {α : Type} (ox : α → O) : Prop where
  h : ∀ a : α, olf (ox a) = true
theorem olfs_map {α : Type} {ox : α → O} [LFO ox] : ∀ xs : List α, olfs (xs.map ox) = true
  | [] => by simp [olfs]
  | x :: xs => by simp [olfs, LFO.h x, olfs_map xs]
instance {α : Type} [Enc α] [LF α] : LFO (oF : α → O) := ⟨fun a => by simp [oF, olf, LF.h a]⟩
instance {α : Type} {ox : α → O} [LFO ox] : LFO (oL ox) := ⟨fun a => by simp [oL, olf, olfs_map a]⟩
instance {α β : Type} {f : α → O} {g : β → O} [LFO f] [LFO g] : LFO (oT2 f g) := ⟨fun a => by simp [oT2, olf, olfs, LFO.h]⟩
instance {α β γ : Type} {f : α → O} {g : β → O} {h : γ → O} [LFO f] [LFO g] [LFO h] : LFO (oT3 f g h) := ⟨fun a => by simp [oT3, olf, olfs, LFO.h]⟩
end VL

namespace VL
open PySem PySem.Spec PyProof.Rows L2
def oLst (g : OEnv → R (List O × OEnv)) : OEnv → R (O × OEnv) := fun ρ => (g ρ).bind fun p => if p.1.length ≤ 1000 then .ok (.lst p.1, p.2) else .stuck
@[simp] theorem oLst_ap (g : OEnv → R (List O × OEnv)) (ρ : OEnv) : oLst g ρ = (g ρ).bind fun p => if p.1.length ≤ 1000 then .ok (.lst p.1, p.2) else .stuck := rfl
def oZ (h : OEnv → R (O × OEnv)) : OEnv → R (O × OEnv) := fun ρ => (h ρ).bind fun p => .ok (.fz p.1.data, p.2)
@[simp] theorem oZ_ap (h : OEnv → R (O × OEnv)) (ρ : OEnv) : oZ h ρ = (h ρ).bind fun p => .ok (.fz p.1.data, p.2) := rfl
section
variable {X : Cx} {W : WX} {e : Expr} {es : List Expr} {pos : Pos} {ho : OEnv → R (O × OEnv)} {g : OEnv → R (List O × OEnv)}
end
open Enc (e)
structure H2 (α β : Type) where
  a : α
  b : β
  deriving DecidableEq
structure H3 (α β γ : Type) where
  a : α
  b : β
  c : γ
  deriving DecidableEq
section
variable {α β γ θ : Type} [Enc α] [Enc β] [Enc γ]
instance : Enc (H2 α β) := ⟨fun p => .list [e p.a, e p.b]⟩
instance : Enc (H3 α β γ) := ⟨fun p => .list [e p.a, e p.b, e p.c]⟩
def mkh2 (a : α) (b : β) : R (H2 α β) := .ok ⟨a, b⟩
def mkh3 (a : α) (b : β) (c : γ) : R (H3 α β γ) := .ok ⟨a, b, c⟩
@[simp] theorem mkh2_ap (a : α) (b : β) : mkh2 a b = .ok ⟨a, b⟩ := rfl
@[simp] theorem mkh3_ap (a : α) (b : β) (c : γ) : mkh3 a b c = .ok ⟨a, b, c⟩ := rfl
def mkc (a : θ) (as : List θ) : R (List θ) := .ok (a :: as)
@[simp] theorem mkc_ap (a : θ) (as : List θ) : mkc a as = .ok (a :: as) := rfl
variable {ρ ρ1 ρ2 ρ3 : OEnv} {h1 h2 h3 : OEnv → R (O × OEnv)} {f1 : α → O} {f2 : β → O} {f3 : γ → O} {g : OEnv → R (List O × OEnv)} {ox : θ → O}
end
end VL

namespace VL
open PySem PySem.Spec PyProof.Rows L2
open Enc (e)
section
variable {α β : Type} [Enc α] [Enc β] {ρ : PEnv} {f : PEnv → R PyData} {s : R α}
end
example : ∀ a : T5 Int Int Int Int Int, vcut none (some 2) (e a) = .ok (e ((a.a, a.b) : Int × Int)) := by intro _; rfl
section
variable {α β γ δ ε : Type} [Enc α] [Enc β] [Enc γ] [Enc δ] [Enc ε]
instance [q : EqE α] [r : EqE β] [s : EqE γ] [t : EqE δ] [u : EqE ε] : EqE (T5 α β γ δ ε) where
  dec := fun a b => @instDecidableEqT5.decEq α β γ δ ε q.dec r.dec s.dec t.dec u.dec a b
  ok := fun p => EqE.ok p.a ∧ EqE.ok p.b ∧ EqE.ok p.c ∧ EqE.ok p.d ∧ EqE.ok p.x
  dep := max (max (EqE.dep α) (EqE.dep β)) (max (EqE.dep γ) (max (EqE.dep δ) (EqE.dep ε))) + 1
  lay := fun p h => ⟨by simp, fun x hx => by
    simp only [List.mem_cons, List.not_mem_nil, or_false] at hx
    rcases hx with rfl | rfl | rfl | rfl | rfl
    · exact okS_m (EqE.lay _ h.1) (by omega)
    · exact okS_m (EqE.lay _ h.2.1) (by omega)
    · exact okS_m (EqE.lay _ h.2.2.1) (by omega)
    · exact okS_m (EqE.lay _ h.2.2.2.1) (by omega)
    · exact okS_m (EqE.lay _ h.2.2.2.2) (by omega)⟩
  eqv := fun p q h g => by
    obtain ⟨a, b, c, d, f⟩ := p
    obtain ⟨a', b', c', d', f'⟩ := q
    show PyData.eqv (.tuple [e a, e b, e c, e d, e f]) (.tuple [e a', e b', e c', e d', e f']) = _
    simp only [PyData.eqv, PyData.eqvAll]
    rw [EqE.eqv a a' h.1 g.1, EqE.eqv b b' h.2.1 g.2.1, EqE.eqv c c' h.2.2.1 g.2.2.1, EqE.eqv d d' h.2.2.2.1 g.2.2.2.1, EqE.eqv f f' h.2.2.2.2 g.2.2.2.2, Bool.eq_iff_iff]
    simp
@[simp] theorem ok_t5 [EqE α] [EqE β] [EqE γ] [EqE δ] [EqE ε] (p : T5 α β γ δ ε) : EqE.ok p = (EqE.ok p.a ∧ EqE.ok p.b ∧ EqE.ok p.c ∧ EqE.ok p.d ∧ EqE.ok p.x) := rfl
end
end VL

namespace VL
open PySem PySem.Spec PyProof.Rows L2
section
variable {X : Cx} {W : WX} {a : Expr} {fa : PEnv → R PyData}
end
end VL

namespace VL
open PySem PySem.Spec PyProof.Rows L2
open Enc (e)
class AlkE (α : Type) [Enc α] : Prop where
  al : ∀ a b : α, PySem.W.alike (e a) (e b) = true
class TupE (α : Type) [Enc α] : Prop where
  tu : ∀ a : α, ∃ x r, e a = .tuple (x :: r)
instance : AlkE Int := ⟨fun a b => by simp [Enc.e, PySem.W.alike]⟩
instance : AlkE Bool := ⟨fun a b => by simp [Enc.e, PySem.W.alike]⟩
instance : AlkE Str := ⟨fun a b => by simp [Enc.e, PySem.W.alike]⟩
section
variable {α β γ δ ε : Type} [Enc α] [Enc β] [Enc γ] [Enc δ] [Enc ε]
theorem alikeAll_map [AlkE α] : ∀ xs ys : List α, PySem.W.alikeAll (xs.map e) (ys.map e) = true
  | [], ys => by simp [PySem.W.alikeAll]
  | x :: xs, [] => by simp [PySem.W.alikeAll]
  | x :: xs, y :: ys => by simp [PySem.W.alikeAll, AlkE.al x y, alikeAll_map xs ys]
instance [AlkE α] : AlkE (List α) := ⟨fun a b => by show PySem.W.alike (.list _) (.list _) = true; simp only [PySem.W.alike]; exact alikeAll_map a b⟩
instance [AlkE α] : AlkE (Tup α) := ⟨fun a b => by show PySem.W.alike (.tuple _) (.tuple _) = true; simp only [PySem.W.alike]; exact alikeAll_map a.l b.l⟩
instance [AlkE α] : AlkE (T1 α) := ⟨fun a b => by show PySem.W.alike (.tuple _) (.tuple _) = true; simp [PySem.W.alike, PySem.W.alikeAll, AlkE.al]⟩
instance [AlkE α] [AlkE β] : AlkE (α × β) := ⟨fun a b => by show PySem.W.alike (.tuple _) (.tuple _) = true; simp [PySem.W.alike, PySem.W.alikeAll, AlkE.al]⟩
instance [AlkE α] [AlkE β] [AlkE γ] : AlkE (T3 α β γ) := ⟨fun a b => by show PySem.W.alike (.tuple _) (.tuple _) = true; simp [PySem.W.alike, PySem.W.alikeAll, AlkE.al]⟩
instance [AlkE α] [AlkE β] [AlkE γ] [AlkE δ] : AlkE (T4 α β γ δ) := ⟨fun a b => by show PySem.W.alike (.tuple _) (.tuple _) = true; simp [PySem.W.alike, PySem.W.alikeAll, AlkE.al]⟩
instance [AlkE α] [AlkE β] [AlkE γ] [AlkE δ] [AlkE ε] : AlkE (T5 α β γ δ ε) := ⟨fun a b => by show PySem.W.alike (.tuple _) (.tuple _) = true; simp [PySem.W.alike, PySem.W.alikeAll, AlkE.al]⟩
instance : TupE (T1 α) := ⟨fun a => ⟨_, _, rfl⟩⟩
instance : TupE (α × β) := ⟨fun a => ⟨_, _, rfl⟩⟩
instance : TupE (T3 α β γ) := ⟨fun a => ⟨_, _, rfl⟩⟩
instance : TupE (T4 α β γ δ) := ⟨fun a => ⟨_, _, rfl⟩⟩
instance : TupE (T5 α β γ δ ε) := ⟨fun a => ⟨_, _, rfl⟩⟩
end
end VL

namespace VL
open PySem PySem.Spec PyProof.Rows L2
section
variable {X : Cx} {W : WX} {a b : Expr} {fa fb : PEnv → R PyData}
end
end VL

namespace VL
open PySem PySem.Spec PyProof.Rows L2
def dKeys : PyData → R (List PyData)
  | .dict ((.none, .bool false) :: kvs) => .ok (kvs.map (·.1))
  | _ => .stuck
def fkeys (f : PEnv → R PyData) : PEnv → R (List PyData) := fun ρ => (f ρ).bind dKeys
@[simp] theorem fkeys_ap (f : PEnv → R PyData) (ρ : PEnv) : fkeys f ρ = (f ρ).bind dKeys := rfl
theorem is_keysV {K : PySem.W.Frag} {B : Hp} : ∀ ks : List L2.Key, IsAll K B (ks.map kV) (ks.map keyD)
  | [] => .nil
  | k :: ks => .cons (is_keyV k) (is_keysV ks)
section
variable {X : Cx} {W : WX} {a : Expr} {fa : PEnv → R PyData}
theorem dKeys_cases {d : PyData} (h : dKeys d ≠ .stuck) : ∃ kvs, d = .dict ((.none, .bool false) :: kvs) ∧ dKeys d = .ok (kvs.map (·.1)) := by
  unfold dKeys at h ⊢
  split at h
  · exact ⟨_, rfl, rfl⟩
  · exact absurd rfl h
def rKeysR : List V → Hp → VK → Prop := fun xs H Q => ∃ ad ents, xs = [V.ref ad] ∧ Rd H ad (HO.dK ents) ∧ ∀ new, H new = none → Q (V.ref new) (upd H new (HO.lst (ents.map fun en => kV en.1)))
theorem cr_keysR (hc : X.calm = true) : CallR X (.type "list") rKeysR := by
  intro ps st sl HH args us0 C J rr hh
  obtain ⟨ad, ents, rfl, hrd, fin⟩ := hh
  obtain ⟨uu, rfl, ru⟩ := vals1 rr
  cases (show uu = Value.ref ad from ru)
  obtain ⟨zz, lay, ws, pw, objd⟩ := (show ObjOk X.prog X.w HH st.heap ad (HO.dK ents) from hrd.ok J.hok)
  obtain ⟨ver, dat⟩ := objd.dictAt
  have hlen : ents.length = ws.length := pw.length
  refine PySem.W.kdl_call (PySem.W.kdl_dict (knd := mixKind X.prog X.w) (kvs := ws) (ep := ver) lay) (J.ok.hd hc) dat (hlen ▸ zz) fun hp2 tk2 arr cap keep2 isl accd => ?_
  have lay2 : ObjOk X.prog X.w (upd HH st.heap.objs.size (HO.lst (ents.map fun en => kV en.1))) hp2 st.heap.objs.size (HO.lst (ents.map fun en => kV en.1)) := by
    refine ⟨by rw [List.length_map]; exact zz, arr.toList, cap, ?_, by rw [Array.toArray_toList]; exact isl⟩
    have sz : arr.toList.length = arr.size := Array.length_toList
    refine vals_of_at (by rw [List.length_map, sz, accd.1, hlen]) fun n y u g1 g2 => ?_
    obtain ⟨key, val, at1, rel⟩ := accd.2 n u (by rw [← Array.getElem?_toList]; exact g2)
    have kk : (ents.map (·.1))[n]? = some key := by rw [KV.keys pw, List.getElem?_map, at1]; rfl
    have cmp : (ents.map fun en => kV en.1) = (ents.map (·.1)).map kV := by rw [List.map_map]; rfl
    rw [cmp, List.getElem?_map, kk] at g1
    injection g1 with g1
    subst g1
    exact keyIs_rel rel
  exact ⟨V.ref st.heap.objs.size, _, J.laid keep2 (Nat.le_refl _) lay2, rfl, fin _ (J.hok.fresh (Nat.le_refl _))⟩
theorem vkeys_f {p pos : Pos} (hc : X.calm = true) (hm : X.mg "list" = none) (ha : VE X W a fa) (hg : Gl X "list" := by rfl) (he : starEach [a] X.env = (false, eval a X.env) :: starEach [] X.env := by rfl) (hpl : (backTo pos (starEach [] X.env)).any (·.1) = false := by rfl) :
    VFr X W (.Call (.Name "list" p) [a] [] pos) (fkeys fa) := by
  obtain ⟨ta, pa, qa⟩ := ha.ex
  refine ⟨_, pe_callTy (cr_keysR hc) hg hm (by decide +kernel) (pa_cons pa pa_nil he) (by decide) (by decide) he hpl, fun σ H B ρ Q s rf pr => ?_⟩
  refine one qa s rf pr fun d x H' B' ex sm dx pg => ?_
  have h0 : dKeys d ≠ .stuck := fun z => by rw [z] at pg; exact pg
  obtain ⟨kvs, e1, e2⟩ := dKeys_cases h0
  rw [e2] at pg
  cases dx <;> first | (exact PyData.noConfusion e1) | (exact absurd e1 (by simp)) | (exact absurd e1 (by simp [insD])) | (exact absurd e1 (by simp [setD])) | skip
  · rename_i ad ks vs ds hr hl ha
    cases ks with
    | inr ks =>
      unfold dctD at e1
      injection e1 with e3
      injection e3 with e4 e5
      injection e4 with _ e6
      injection e6 with e7
      exact nomatch e7
    | inl ks =>
      unfold dctD at e1
      injection e1 with e3
      injection e3 with e4 e5
      have el : ks.length = vs.length := hl
      have ed := IsAll.len ha
      have ek : kvs.map (·.1) = ks.map keyD := by
        rw [← e5]
        show (((ks.map keyD).zip ds).map Prod.fst) = _
        rw [List.map_fst_zip (by rw [List.length_map]; omega)]
      rw [ek] at pg
      have er : Rd H' ad (.dK (ks.zip vs)) := Rd.mono ex.bh hr
      refine ⟨ad, ks.zip vs, rfl, ?_, fun q hq => ?_⟩
      · exact er
      · have eq : ((ks.zip vs).map fun kv => kV kv.1) = ks.map kV := by
          rw [show (fun kv : L2.Key × V => kV kv.1) = kV ∘ Prod.fst from rfl, ← List.map_map, List.map_fst_zip (Nat.le_of_eq el)]
        rw [eq]
        exact pg q _ _ B' (ex.trans (Ext.own ex.bh hq)) upd_same (Same.free ex.hh hq) (Same.free ex.bh hq) (is_keysV ks)
end
open Enc (e)
section
variable {β : Type} [Enc β] {ρ : PEnv} {f : PEnv → R PyData}
def tkeysI (d : Dc Int β) : R (List Int) := .ok (d.l.map Prod.fst)
theorem t_keysI {s : R (Dc Int β)} (h : TEq (f ρ) s) : TL (fkeys f ρ) (b1 tkeysI s) := h.bind fun d => by
  show dKeys (.dict ((.none, .bool _) :: d.l.map fun p => (e p.1, e p.2))) = .ok ((d.l.map Prod.fst).map e)
  show R.ok ((d.l.map fun p => (e p.1, e p.2)).map (·.1)) = _
  rw [List.map_map, List.map_map]
  rfl
end
end VL

namespace VL
open PySem PySem.Spec PyProof.Rows L2
abbrev Dcd := List L2.Key × List PyData
def KFd (X : Cx) (B H : Hp) (Q : VK) (p : Dcd) : Prop := ∀ a vs H' B', Ext B H B' H' → H' a = some (hoD (.inl p.1) vs) → p.1.length = vs.length → p.1.Nodup → H a = none → B' a = none → IsAll X.K B' vs p.2 → Q (.ref a) H'
structure VFd (X : Cx) (W : WX) (e : Expr) (f : PEnv → R Dcd) : Prop where
  ex : ∃ t, PE X e t ∧ ∀ σ H B ρ Q, Same B H → RF X.K B σ ρ → Pst X W σ H (KFd X B H Q) (f ρ) → t σ H Q
section
variable {X : Cx} {W : WX}
variable {kx vx tg iter : Expr} {ifs : List Expr} {scope : Scope} {own : List (Str × Nat)} {sl ownl : List Nat} {fi : PEnv → R (List PyData)} {kt : PyData → R (List (Nat × PyData))} {ft : PEnv → R Bool} {fk fv : PEnv → R PyData} {pos : Pos}
end
section
variable {X : Cx} {W : WX} {f : PEnv → R Dcd} {t : TE}
variable {e : Expr}
end
end VL

namespace VL
open PySem PySem.Spec PyProof.Rows L2
def dK (z : List (L2.Key × V)) : HO := .dK z
theorem Ext.unlock {B H B2 H2 : Hp} {a : Addr} {z : List (L2.Key × V)} {od : Obj} (hB : B a = some (.dK z)) (hH : H a = some (.dK z)) (ex : Ext (upd B a (.frz od (.dK z))) (upd H a (.frz od (.dK z))) B2 H2) : Ext B H (upd B2 a (.dK z)) (upd H2 a (.dK z)) := by
  have same : ∀ {F F2 : Hp}, F a = some (.dK z) → Same (upd F a (.frz od (.dK z))) F2 → Same F (upd F2 a (.dK z)) := fun {F F2} h s b o e => by
    by_cases hb : b = a
    · subst hb; rw [h] at e; cases e; exact upd_same
    · rw [upd_ne hb]; exact s b o (by rw [upd_ne hb]; exact e)
  refine ⟨same hH ex.hh, same hB ex.bb, fun b o e => ?_, fun b n w => ?_⟩
  · by_cases hb : b = a
    · subst hb; rw [upd_same] at e; cases e; exact upd_same
    · rw [upd_ne hb] at e ⊢; exact ex.bh b o e
  · have hb : b ≠ a := fun q => by rw [q, hB] at n; cases n
    have := ex.nw b (by rw [upd_ne hb]; exact n) (by rw [upd_ne hb] at w; exact w)
    rcases this with h | ⟨ys, h⟩
    · rw [upd_ne hb] at h; exact .inl h
    · rw [upd_ne hb] at h; exact .inr ⟨ys, h⟩
section
variable {X : Cx} {W : WX} {x : Str} {i : Nat} {p0 : Pos} {kx vx elt tg : Expr} {ifs : List Expr} {scope : Scope} {own : List (Str × Nat)} {sl ownl : List Nat} {kt : PyData → R (List (Nat × PyData))} {ft : PEnv → R Bool} {fe fk fv : PEnv → R PyData} {pos : Pos}
theorem pe_or {e : Expr} {t1 t2 : TE} (h1 : PE X e t1) (h2 : PE X e t2) : PE X e (fun σ H Q => t1 σ H Q ∨ t2 σ H Q) := ⟨fun pins s σ H Q I h => h.elim (h1.run pins s σ H Q I) (h2.run pins s σ H Q I)⟩
end
end VL

namespace VL
open PySem PySem.Spec PyProof.Rows L2
open Enc (e)
section
variable {κ β α γ : Type} [Enc κ] [Enc β] [Enc α] [q : KeyE κ]
variable {ρ : PEnv} {fi : PEnv → R (List PyData)} {kt : PyData → R (List (Nat × PyData))} {ft : PEnv → R Bool} {fk fv : PEnv → R PyData} {s : R (List α)} {own : List Nat}
end
end VL

namespace VL
open PySem PySem.Spec PyProof.Rows L2
section
variable {X : Cx} {W : WX} {pos : Pos} {k : Nat}
end
end VL

namespace VL
open PySem PySem.Spec PyProof.Rows L2
section
variable {β l σ α : Type} {E : σ → OEnv → Prop} {L : l → OEnv → Prop} {er : O → OEnv → β → Prop} {Z : OEnv → Prop} {ρ : OEnv} {k : OEnv → SR}
end
end VL

namespace VL
open PySem PySem.Spec PyProof.Rows L2
section
variable {X : Cx} {W : WX} {a b : Expr} {fa fb : PEnv → R PyData} {pos : Pos}
end
section
open Enc (e)
variable {κ β : Type} [Enc κ] [Enc β] [q : KeyE κ] {ρ : PEnv} {fa fb : PEnv → R PyData}
def tdc1 (k : κ) (v : β) : R (Dc κ β) := .ok ⟨[(k, v)]⟩
@[simp] theorem tdc1_ap (k : κ) (v : β) : tdc1 k v = .ok ⟨[(k, v)]⟩ := rfl
end
end VL

namespace VL
open PySem PySem.Spec PyProof.Rows L2
def dKeysT : PyData → R (List PyData)
  | .dict ((.none, .bool true) :: kvs) => .ok (kvs.map (·.1))
  | _ => .stuck
def fkeysT (f : PEnv → R PyData) : PEnv → R (List PyData) := fun ρ => (f ρ).bind dKeysT
@[simp] theorem fkeysT_ap (f : PEnv → R PyData) (ρ : PEnv) : fkeysT f ρ = (f ρ).bind dKeysT := rfl
section
variable {X : Cx} {W : WX} {a : Expr} {fa : PEnv → R PyData}
end
section
open Enc (e)
variable {κ β : Type} [Enc κ] [Enc β] [q : KeyE κ] {ρ : PEnv} {fa : PEnv → R PyData}
def tkeysT (d : Dc κ β) : R (List κ) := .ok (d.l.map (·.1))
@[simp] theorem tkeysT_ap (d : Dc κ β) : tkeysT d = .ok (d.l.map (·.1)) := rfl
end
end VL

namespace VL
open PySem PySem.Spec PyProof.Rows L2
open Enc (e)
section
variable {α β γ : Type} [Enc α] [Enc β] [Enc γ]
def tcat12 (a : T1 α) (b : β × γ) : R (T3 α β γ) := .ok ⟨a.a, b.1, b.2⟩
@[simp] theorem tcat12_ap (a : T1 α) (b : β × γ) : tcat12 a b = .ok ⟨a.a, b.1, b.2⟩ := rfl
def tcat22 {δ : Type} (a : α × β) (b : γ × δ) : R (T4 α β γ δ) := .ok ⟨a.1, a.2, b.1, b.2⟩
@[simp] theorem tcat22_ap {δ : Type} (a : α × β) (b : γ × δ) : tcat22 a b = .ok ⟨a.1, a.2, b.1, b.2⟩ := rfl
end
end VL

namespace VL
open PySem PySem.Spec PyProof.Rows L2
def KNw (X : Cx) (B H : Hp) (Q : VK) (o : O) : Prop := ∀ v H' B' fp, Ext B H B' H' → Own X.K B' H' v o fp → fp.Nodup → (∀ a ∈ fp, H a = none ∧ B' a = none) → Q v H'
structure VN (X : Cx) (W : WX) (e : Expr) (f : PEnv → R O) : Prop where
  ex : ∃ t, PE X e t ∧ ∀ σ H B ρ Q, Same B H → RF X.K B σ ρ → Pst X W σ H (KNw X B H Q) (f ρ) → t σ H Q
section
variable {X : Cx} {W : WX} {e : Expr} {es : List Expr} {pos : Pos} {k : Nat}
def tVN (X : Cx) (W : WX) (f : PEnv → R O) : TE := fun σ H Q => ∃ B ρ, Same B H ∧ RF X.K B σ ρ ∧ Pst X W σ H (KNw X B H Q) (f ρ)
theorem VN.pe {e : Expr} {f : PEnv → R O} (h : VN X W e f) : PE X e (tVN X W f) := by
  obtain ⟨t, p, q⟩ := h.ex
  exact ⟨fun pins s σ H Q I ⟨B, ρ, s1, r, hp⟩ => p.run pins s σ H Q I (q σ H B ρ Q s1 r hp)⟩
variable {elt tg iter : Expr} {ifs : List Expr} {scope : Scope} {own : List (Str × Nat)} {sl ownl : List Nat} {fi : PEnv → R (List PyData)} {kt : PyData → R (List (Nat × PyData))} {ft : PEnv → R Bool} {fe : PEnv → R O}
end
end VL

namespace VL
open PySem PySem.Spec PyProof.Rows L2
section
variable {X : Cx} {W : WX} {e : Expr} {hp : OEnv → R (Nat × List Nat)}
end
section
variable {X : Cx} {W : WX} {es : List Expr} {pos : Pos} {k : Nat}
end
open Enc (e)
section
variable {α β γ τ : Type} [Enc α] [Enc β] {ρ : OEnv} {c f : Str} {ns : List Str} {ct : CT} {k : Nat}
theorem o_seqL (xs : List α) : TL (seqD (e xs)) (tid xs) := rfl
end
section
variable {θ σ σ1 σ2 : Type} {ρ : OEnv}
end
end VL

namespace VL
open PySem PySem.Spec PyProof.Rows L2
open Enc (e)
def tisB (a b : Bool) : R Bool := .ok (decide (a = b))
def tisnB (a b : Bool) : R Bool := .ok (!decide (a = b))
@[simp] theorem tisB_ap (a b : Bool) : tisB a b = .ok (decide (a = b)) := rfl
@[simp] theorem tisnB_ap (a b : Bool) : tisnB a b = .ok (!decide (a = b)) := rfl
theorem o_isnB (a b : Bool) : TEq (visn (e a) (e b)) (tisnB a b) := rfl
section
variable {X : Cx} {W : WX} {a b : Expr} {pos : Pos} {fa fb : PEnv → R PyData}
theorem qisn (ha : VE X W a fa) (hb : VE X W b fb) : VT X W (.Compare a [.IsNot] [b] pos) (tst (v2 visn fa fb)) :=
  vt2 (fun p q => pt_cmpR op_notBl p q (nomark _)) rule_isn (fun d e z h => by cases d <;> first | (cases h; done) | (cases e <;> first | (cases h; done) | (cases h; exact ⟨_, rfl⟩))) ha hb
end
end VL

namespace VL
open PySem PySem.Spec PyProof.Rows L2
open Enc (e)
theorem t_exPI {α : Type} [Enc α] {ρ : OEnv} {i : Nat} (x : List α) {hk : OEnv → R PyData} {t : R Int} (hj : TEq (hk ρ) t) (h : ρ[i]? = some (some (oL oF x)) := by rfl) : TEq (exP (pIdx (pVar i) hk) ρ) (t.bind fun j => tidx x j) := by
  have e1 : pVar i ρ = .ok (i, []) := by unfold pVar; rw [h]; rfl
  unfold exP pIdx
  rw [e1]
  simp only [R.bind_ok, h]
  show TEq (R.bind (R.bind (hk ρ) (pIx1 (i, []) (x.map oF).length)) _) _
  cases t with
  | stuck => trivial
  | err c =>
    have q : hk ρ = .err c := hj
    rw [q]; exact rfl
  | ok j =>
    have q : hk ρ = .ok (e j) := hj
    rw [q]
    show TEq (R.bind (match ixN (x.map oF).length j with | some k => R.ok (i, [] ++ [k]) | none => R.stuck) _) (match (ixN x.length j).bind (x[·]?) with | some d => .ok d | none => .stuck)
    rw [List.length_map]
    cases ixN x.length j with
    | none => trivial
    | some k =>
      show TEq (match ρ[i]? with | some (some o) => (match o.at [k] with | some (.fz d) => .ok d | _ => .stuck) | _ => .stuck) (match x[k]? with | some d => .ok d | none => .stuck)
      rw [h]
      show TEq (match (match (x.map (oF : α → O))[k]? with | some y => O.at y [] | none => none) with | some (.fz d) => .ok d | _ => .stuck) _
      rw [List.getElem?_map]
      cases x[k]? with
      | none => trivial
      | some y => exact rfl
section
variable {X : Cx} {W : WX} {a b : Expr} {pos : Pos} {ho : OEnv → R (O × OEnv)} {hk : OEnv → R PyData}
end
end VL

namespace VL
open PySem PySem.Spec PyProof.Rows L2
section
variable {X : Cx} {W : WX} {a b c e oe : Expr} {rest : List Stmt} {pos pos1 : Pos} {hp : OEnv → R (Nat × List Nat)} {hj hd : OEnv → R PyData} {g : OEnv → SR}
theorem RS.un {K : PySem.W.Frag} {F0 H0 F H : Hp} {σ : L2.St} {ρ : OEnv} (r : RS K F0 H0 F H σ ρ) (i : Nat) (s : Option V) : RS K F0 H0 F H (σ.set i s) (ρ.set i none) := by
  obtain ⟨fps, s0, hs⟩ := r.ex
  obtain ⟨fpr, z1, z2⟩ := s0.drop i s
  exact ⟨fpr, z1, hs.sub z2⟩
end
open Enc (e)
section
variable {β l σ τ α γ ι : Type} {E : σ → OEnv → Prop} {L : l → OEnv → Prop} {er : O → OEnv → β → Prop} {Z : OEnv → Prop} {ρ : OEnv} {g h k g1 : OEnv → SR}
end
end VL

namespace VL
open PySem PySem.Spec PyProof.Rows L2
structure Ali (H : Hp) (σ : L2.St) (i iy n : Nat) : Prop where
  ex : ∃ aL vs v', σ[iy]? = some (some (.ref aL)) ∧ H aL = some (.lst vs) ∧ vs[n]? = some v' ∧ σ[i]? = some (some v')
theorem Ali.mono {H H' : Hp} {σ : L2.St} {i iy n : Nat} (a : Ali H σ i iy n) (e : Same H H') : Ali H' σ i iy n := by
  obtain ⟨aL, vs, v', h1, h2, h3, h4⟩ := a
  exact ⟨aL, vs, v', h1, e _ _ h2, h3, h4⟩
theorem Ali.set {H : Hp} {σ : L2.St} {i iy n k : Nat} {s : Option V} (a : Ali H σ i iy n) (h1 : k ≠ i) (h2 : k ≠ iy) : Ali H (σ.set k s) i iy n := by
  obtain ⟨aL, vs, v', g1, g2, g3, g4⟩ := a
  exact ⟨aL, vs, v', by rw [List.getElem?_set, if_neg h2]; exact g1, g2, g3, by rw [List.getElem?_set, if_neg h1]; exact g4⟩
def SPA (X : Cx) (W : WX) (F0 H0 : Hp) (D : Ends) (i iy n : Nat) : SR → Prop
  | .nx ρ => ∀ σ' H' F', RS X.K F0 H0 F' H' σ' ρ → Ali H' σ' i iy n → D.nx σ' H'
  | r => SPst X W F0 H0 D r
structure VA1 (X : Cx) (W : WX) (i iy : Nat) (st : Stmt) (g : Nat → OEnv → SR) : Prop where
  ex : ∃ t, PS X st t ∧ ∀ D σ H F0 H0 F ρ n, RS X.K F0 H0 F H σ ρ → Ali H σ i iy n → SPA X W F0 H0 D i iy n (g n ρ) → t D σ H
structure VAs (X : Cx) (W : WX) (i iy : Nat) (sts : List Stmt) (g : Nat → OEnv → SR) : Prop where
  ex : ∃ t, PSs X sts t ∧ ∀ D σ H F0 H0 F ρ n, RS X.K F0 H0 F H σ ρ → Ali H σ i iy n → SPA X W F0 H0 D i iy n (g n ρ) → t D σ H
section
variable {X : Cx} {W : WX} {a b c e oe ce : Expr} {st : Stmt} {sts rest : List Stmt} {pos pos1 : Pos} {hp : OEnv → R (Nat × List Nat)} {hx : OEnv → R PyData} {hn : OEnv → R O} {i iy : Nat} {g h : Nat → OEnv → SR} {gr : OEnv → SR}
end
end VL

namespace VL
open PySem PySem.Spec PyProof.Rows L2
section
variable {X : Cx}
end
def vcount : PyData → PyData → R PyData
  | .list ds, d => if SeqAt.shaped (.list ds) = true ∧ SeqAt.shaped d = true then .ok (.int ((ds.countP fun z => PyData.eqv z d : Nat) : Int)) else .stuck
  | _, _ => .stuck
def vcountF (fa fb : PEnv → R PyData) : PEnv → R PyData := fun ρ => (fa ρ).bind fun d => (isL d).bind fun d => (fb ρ).bind fun e => vcount d e
@[simp] theorem vcountF_ap (fa fb : PEnv → R PyData) (ρ : PEnv) : vcountF fa fb ρ = (fa ρ).bind fun d => (isL d).bind fun d => (fb ρ).bind fun e => vcount d e := rfl
section
variable {X : Cx} {W : WX} {a b : Expr} {fa fb : PEnv → R PyData} {k : Nat}
end
open Enc (e)
section
variable {α β γ : Type} [Enc α] [Enc β] {f g : PEnv → R PyData} {ρ : PEnv}
end
section
variable {β l σ τ α γ ι : Type} {E : σ → OEnv → Prop} {L : l → OEnv → Prop} {er : O → OEnv → β → Prop} {Z : OEnv → Prop} {ρ : OEnv} {g h k g1 : OEnv → SR}
end
end VL

namespace VL
open PySem PySem.Spec PyProof.Rows L2
section
variable {X : Cx} {W : WX} {a b c e oe ce : Expr} {pos : Pos} {hp : OEnv → R (Nat × List Nat)} {hn : OEnv → R O}
end
open Enc (e)
section
variable {β l σ τ α γ ι : Type} {E : σ → OEnv → Prop} {L : l → OEnv → Prop} {er : O → OEnv → β → Prop} {Z : OEnv → Prop} {ρ : OEnv} {g h k g1 : OEnv → SR}
end
end VL

namespace VL
open PySem PySem.Spec PyProof.Rows L2
structure PopT (X : Cx) (T : TE → TE) (f : List O → Option (PyData × List O)) : Prop where
  ex : ∃ body : V → L2.St → Hp → VK → Prop, (∀ to σ H Q, T to σ H Q = to σ H (fun x H1 => tyV X.K "list" x H1 ∧ body x σ H1 Q)) ∧
    ∀ os d os', f os = some (d, os') → ∃ (j : Nat) (tv : List V → V → List V) (to : List O → O → List O), Chg tv to ∧ to os (.fz .none) = os' ∧ os[j]? = some (.fz d) ∧
      ∀ (a : Addr) (vs : List V) (y : V) (σ : L2.St) (H : Hp) (Q : VK), H a = some (.lst vs) → vs.length = os.length → vs[j]? = some y → Q y (upd H a (.lst (tv vs .non))) → body (.ref a) σ H Q
section
variable {X : Cx} {W : WX} {oe be e ce : Expr} {pos : Pos} {hp hq : OEnv → R (Nat × List Nat)}
end
end VL

namespace VL
open PySem PySem.Spec PyProof.Rows L2
open Enc (e)
section
variable {α β γ ι κ l σ : Type} {ρ : OEnv} {E : σ → OEnv → Prop} {L : l → OEnv → Prop} {er : O → OEnv → β → Prop} {Z : OEnv → Prop} {k : OEnv → SR}
end
section
variable {α β γ δ : Type}
instance [Enc α] [Enc β] : Enc (α ⊕ β) where
  e := fun x => match x with
    | .inl a => e a
    | .inr b => e b
def tinl (β : Type) (a : α) : R (α ⊕ β) := .ok (.inl a)
def tinr (α : Type) (b : β) : R (α ⊕ β) := .ok (.inr b)
@[simp] theorem tinl_ap (a : α) : tinl β a = .ok (.inl a) := rfl
@[simp] theorem tinr_ap (b : β) : tinr α b = .ok (.inr b) := rfl
def gInr (x : γ × (δ ⊕ α)) : Option α := match x.2 with
  | .inr ys => some ys
  | .inl _ => none
@[simp] theorem gInr_inr (a : γ) (y : α) : gInr (a, (Sum.inr y : δ ⊕ α)) = some y := rfl
@[simp] theorem gInr_inl (a : γ) (y : δ) : gInr (a, (Sum.inl y : δ ⊕ α)) = none := rfl
end
end VL

namespace VL
open PySem PySem.Spec PyProof.Rows L2
open Enc (e)
section
variable {X : Cx} {W : WX} {a b : Expr} {pos : Pos} {k : Nat}
end
section
variable {X : Cx} {W : WX} {a : Expr} {p pos : Pos}
end
section
variable {α β : Type}
end
end VL
namespace VL
open PySem PySem.Spec PyProof.Rows L2
open Enc (e)
section
variable {α β : Type} {ρ : OEnv}
end
end VL
namespace VL
open PySem PySem.Spec PyProof.Rows L2
open Enc (e)
section
variable {α β γ l σ : Type} {ρ ρ2 : OEnv} {E : σ → OEnv → Prop} {L : l → OEnv → Prop} {er : O → OEnv → β → Prop} {Z : OEnv → Prop} {k : OEnv → SR}
end
end VL

namespace VL
open PySem PySem.Spec PyProof.Rows L2
open Enc (e)
section
variable {X : Cx} {W : WX} {a b : Expr} {pos : Pos} {hk : OEnv → R PyData} {hp : OEnv → R (Nat × List Nat)}
end
end VL

namespace VL
open PySem PySem.Spec PyProof.Rows L2
open Enc (e)
section
variable {κ β : Type} [Enc κ] [Enc β] [q : KeyE κ]
variable {ρ : OEnv}
end
end VL

namespace VL
open PySem PySem.Spec PyProof.Rows L2
abbrev es0 (w : World) : Obj := { cls := .type "set", dict := none, data := .set #[] 0 (.fresh 0 0 (!w.params.followText "set-order")) }
section
variable {P : Program} {w : World} {A : Around} {E : Value → Shared → Prop} {s : Shared}
theorem set_ints {l : Addr} {xs : Array Value} (ns : List Int) {Q : Value → Shared → Prop} (hh : A.handled = none) (hl : s.heap.IsList l xs) (hi : IntsAre xs.toList ns) (hb : ns.length + 1 < scanBound)
    (q : ∀ (g : Heap) (tk c : Nat), SetR w g s.heap.objs.size (fun j => decide (j ∈ ns)) c → (∀ b o, s.heap.get? b = some o → g.get? b = some o) → Q (.ref s.heap.objs.size) { s with heap := g, toks := tk }) :
    wpAny (model P w) A (call (.type "set") [.ref l]) Q E s := by
  have sz : xs.size = ns.length := by
    have := hi.length
    rwa [Array.length_toList] at this
  let D : Addr := s.heap.objs.size
  let h0 : Heap := s.heap.push (es0 w)
  have gD : h0.get? D = some (es0 w) := Heap.get?_push_size _ rfl
  obtain ⟨k, _, mro⟩ := F.called_set.mro
  have f1 := F.called_set.made
  have f2 := F.called_set.sub
  have f3 := F.called_set.notType
  have f4 := F.called_set.canCreate
  have f5 := F.typeCall_set_1 (.ref l)
  refine wpAny_call (codeAny_of_tree ?_)
  refine wpAny_pure ⟨Code.quiet_builtin _ (by decide +kernel), codeAny_builtin F.entry_type_call ?_⟩
  rw [Around.under_plain (weight_type_call_type "set" [.ref l] []) rfl]
  repeat (any_goals (first | assumption | wp_step))
  refine codeAny_mono (code_set_led1 (.ref l) (E := E) (Q₁ := fun o s1 => o = .ref D ∧ s1 = { s with heap := h0 }) ⟨rfl, rfl⟩) fun r s1 hr => ?_
  rcases r with ex | fl
  · exact hr
  cases fl with
  | ret _ =>
    obtain ⟨rfl, e1⟩ := hr
    subst e1
    have tD : Shared.TypeIs { s with heap := h0 } (.ref D) "set" := ⟨_, gD, rfl⟩
    have f6 := F.called_set.init.lookup
    have f7 := F.called_set.init.bind (.ref D)
    repeat (any_goals (first | assumption | wp_step))
    refine codeAny_mono (codeAny_call_builtin (R := wants (fun r s2 => r = .none ∧ ∃ g tk c, s2 = { s with heap := g, toks := tk } ∧ SetR w g D (fun j => decide (j ∈ ns)) c ∧ (∀ b o, s.heap.get? b = some o → g.get? b = some o)) E)
      F.called_set.init.plain F.entry_set_init (check_set_init_1 tD ?_)) fun r s2 hr => ?_
    · obtain ⟨⟨oc, od, oa, os⟩, ho, h1, n, h2⟩ := hl
      simp only at h1 h2
      subst h1; subst h2
      have gl : h0.get? l = some { cls := .type "list", dict := od, data := .seq xs n, slots := os } := Heap.get?_push_of_some _ ho
      have f8 := F.sub_list_set
      have f9 := F.sub_list_frozenset
      have f10 : (Value.type "list" == Value.type "dict") = false := by decide
      have il : h0.IsList l xs := ⟨_, gl, rfl, n, rfl⟩
      unfold Builtin.«set.__init__» noKeywords Builtin.Frozenset.updateFrom
      generalize hp : pyIter = pI
      wp_walk
      subst hp
      refine wpAny_pyIter_list il (wpAny_bind (wpAny_runValue ?_))
      have lD : l < D := Heap.lt_size ho
      have z0 : h0.objs.size = D + 1 := Heap.size_push ..
      have hh3 : A.in1.in1.in1.handled = none := by simp [hh]
      have ne : l ≠ h0.objs.size := by rw [z0]; exact Nat.ne_of_lt (Nat.lt_succ_of_lt lD)
      have nD : D ∉ [h0.objs.size, l] := by
        rw [z0]
        simp only [List.mem_cons, List.not_mem_nil, or_false, not_or]
        exact ⟨Nat.ne_of_lt (Nat.lt_succ_self _), Nat.ne_of_gt lD⟩
      refine set_update_ints ((Walks.list hh3 _ l ne xs).toS) D nD ns sz hb (fun i v hv => ?_) (xs.size - 0) 0 _ (by omega) (Nat.zero_le _) ⟨⟨_, Heap.get?_push_size _ rfl, rfl, rfl⟩, il.push _⟩ ⟨0, Nat.le_refl 0, setR_new_at (Heap.get?_push_of_some _ gD)⟩ fun s' c mv _ R => ?_
      · have lt : i < ns.length := by rw [← sz]; exact (Array.getElem?_eq_some_iff.mp hv).1
        obtain ⟨t, ht⟩ := PyProof.Rows.IntsAre.int_at hi i v (by rw [Array.getElem?_toList]; exact hv)
        exact ⟨ns[i], t, List.getElem?_eq_getElem lt, by rw [ht, List.getD_eq_getElem?_getD, List.getElem?_eq_getElem lt]; rfl⟩
      · obtain ⟨g, g2, d2, tk, o2⟩ := s'
        obtain rfl : g2 = s.gens := mv.gens
        obtain rfl : d2 = s.drawn := mv.drawn
        obtain rfl : o2 = s.os := mv.os
        refine wpAny_pure (wpAny_pure ⟨rfl, g, tk, c, rfl, R, fun b o hb => mv.heap b o ?_ (Heap.get?_push_of_some _ (Heap.get?_push_of_some _ hb))⟩)
        have lb : b < D := Heap.lt_size hb
        rw [z0]
        simp only [List.mem_cons, List.not_mem_nil, or_false, not_or]
        exact ⟨Nat.ne_of_lt lb, Nat.ne_of_lt (Nat.lt_succ_of_lt lb)⟩
    · rcases r with ex | fl
      · exact hr
      cases fl with
      | ret _ =>
        obtain ⟨rfl, g, tk, c, rfl, R, kp⟩ := hr
        repeat (any_goals (first | assumption | wp_step))
        exact q _ _ _ R kp
      | _ => exact hr.elim
  | _ => exact hr.elim
end
end VL

namespace VL
open PySem PySem.Spec PyProof.Rows L2
def uqI : List Int → List Int
  | [] => []
  | a :: as => if a ∈ uqI as then uqI as else a :: uqI as
theorem uqI_mem {k : Int} : ∀ {ns : List Int}, k ∈ uqI ns ↔ k ∈ ns
  | [] => Iff.rfl
  | a :: as => by
    unfold uqI
    have ih := uqI_mem (k := k) (ns := as)
    split
    · rename_i h
      rw [ih, List.mem_cons]
      exact ⟨.inr, fun z => z.elim (fun z => by rw [z]; exact uqI_mem.mp h) id⟩
    · rw [List.mem_cons, List.mem_cons, ih]
theorem uqI_nodup : ∀ ns : List Int, (uqI ns).Nodup
  | [] => List.nodup_nil
  | a :: as => by
    unfold uqI
    split
    · exact uqI_nodup as
    · rename_i h; exact List.nodup_cons.mpr ⟨h, uqI_nodup as⟩
theorem setR_keys {w : World} {h : Heap} {a : Addr} {ns : List Int} {n : Nat} (R : SetR w h a (fun j => decide (j ∈ ns)) n) : n = (uqI ns).length := by
  obtain ⟨o, es, ep, t, _, _, _, _, nd, hm, _, _, hn, _, _⟩ := R
  have p : (es.toList.map keyOf).Perm (uqI ns) := (List.perm_ext_iff_of_nodup nd (uqI_nodup ns)).mpr fun k => by
    rw [← hm k, uqI_mem]; simp
  have := p.length_eq
  rw [List.length_map, Array.length_toList, hn] at this
  exact this
def sO (w : World) (p : Addr) (ns : List Int) : HO := SetO w p (fun j => decide (j ∈ ns)) (uqI ns).length
section
variable {X : Cx}
def rSetL (X : Cx) : List V → Hp → VK → Prop := fun vs H Q => ∃ (a : Addr) (ns : List Int), vs = [V.ref a] ∧ SqL X.K H a (ns.map V.int) ∧ ns.length + 1 < scanBound ∧ ∀ p, H p = none → Q (.ref p) (upd H p (sO X.w p ns))
end
def KSt (X : Cx) (B H : Hp) (Q : VK) (ns : List Int) : Prop := ∀ p H' B', Ext B H B' H' → H' p = some (sO X.w p ns) → H p = none → B' p = none → Q (.ref p) H'
structure VSt (X : Cx) (W : WX) (e : Expr) (f : PEnv → R (List Int)) : Prop where
  ex : ∃ t, PE X e t ∧ ∀ σ H B ρ Q, Same B H → RF X.K B σ ρ → Pst X W σ H (KSt X B H Q) (f ρ) → t σ H Q
def setL : PyData → R (List Int)
  | .list ds => match intsOf ds with
    | some ns => if ns.length < 4000 then .ok ns else .stuck
    | none => .stuck
  | _ => .stuck
section
variable {X : Cx} {W : WX} {a : Expr} {fa : PEnv → R PyData} {f : PEnv → R (List Int)} {p pos : Pos}
end
end VL

namespace VL
open PySem PySem.Spec PyProof.Rows L2
open Enc (e)
section
variable {ρ : PEnv} {fa : PEnv → R PyData} {f : PEnv → R (List Int)} {s : R (List Int)}
end
end VL

namespace VL
open PySem PySem.Spec PyProof.Rows L2
open Enc (e)
section
variable {X : Cx} {W : WX} {e : Expr} {hx : OEnv → R PyData} {pos : Pos}
end
section
variable {β l σ : Type} {ρ : OEnv} {E : σ → OEnv → Prop} {L : l → OEnv → Prop} {er : O → OEnv → β → Prop} {Z : OEnv → Prop} {k : OEnv → SR}
end
end VL
namespace VL
open PySem PySem.Spec PyProof.Rows L2
end VL

namespace VL
open PySem PySem.Spec PyProof.Rows L2
def vset1 : List PyData → R PyData
  | [d] => (setL d).bind fun ns => .ok (setD ns)
  | _ => .stuck
def rSetS (K : PySem.W.Frag) : List V → Hp → VK → Prop := fun vs H Q => ∃ (a : Addr) (ns : List Int), vs = [V.ref a] ∧ SqL K H a (ns.map V.int) ∧ ns.length + 1 < scanBound ∧ ∀ p, H p = none → Q (.ref p) (upd H p (.set (fun j => decide (j ∈ ns)) (uqI ns).length))
section
variable {X : Cx} {W : WX}
theorem cr_setS (hc : X.calm = true) : CallR X (.type "set") (rSetS X.K) := by
  intro pins s σ H vs us Q I r h
  obtain ⟨a, ns, rfl, hs, hb, q⟩ := h
  obtain ⟨its, rv, hl, _⟩ := I.list hs
  rw [Vals.ref1 r]
  refine set_ints ns (I.ok.hd hc) hl.isList rv.ints hb fun g tk c R kp => ?_
  have e := setR_keys R
  subst e
  exact ⟨.ref _, upd H s.heap.objs.size (.set (fun j => decide (j ∈ ns)) (uqI ns).length), I.laid kp (Nat.le_refl _) (show ObjOk X.prog X.w H g s.heap.objs.size (.set _ _) from R.setOf), rfl, q _ (I.hok.fresh (Nat.le_refl _))⟩
theorem rc_setS : RuleC X W (rSetS X.K) vset1 := fun ds vs σ H B Q s dx p => by
  cases dx with
  | nil => exact p.elim
  | cons h1 h2 =>
    cases h2 with
    | cons _ _ => cases h1 <;> exact p.elim
    | nil =>
      cases h1 <;> first | exact p.elim | skip
      rename_i h3 h4
      simp only [vset1, setL] at p
      split at p
      · rename_i ns hi
        split at p
        · rename_i hz
          rw [intsOf_some hi] at h4
          have e := is_ints h4
          subst e
          exact ⟨_, ns, rfl, .inl (Rd.mono s h3), by unfold scanBound; omega, fun l hl => p _ _ _ (Ext.new s hl) (.sst upd_same)⟩
        · exact p.elim
      · exact p.elim
theorem vset_ {f : PEnv → R (List D)} {p : Pos} {e : Expr} (hc : X.calm = true) (hm : X.mg "set" = none) (ha : VA X W [e] f) (hg : Gl X "set" := by rfl) (he : starEach [e] X.env = (false, eval e X.env) :: starEach [] X.env := by rfl) (hpl : (backTo pos (starEach [] X.env)).any (·.1) = false := by rfl) :
    VE X W (.Call (.Name "set" p) [e] [] pos) (vapp vset1 f) := vcT (cr_setS hc) rc_setS hm (by decide +kernel) ha hg (by decide) (by decide) he hpl
def rInS : R2 := fun x y H Q => ∃ k a S n, x = V.int k ∧ y = V.ref a ∧ H a = some (.set S n) ∧ Q (.bl (S k)) H
theorem or_inS : OpR X (compareOp .In) rInS := by
  intro pins s σ H x y v u Q I rx ry h
  obtain ⟨k, a, S, n, rfl, rfl, ha, q⟩ := h
  obtain ⟨tk, rfl⟩ := rx
  cases ry
  exact wpAny_inSet_of (intKind_is _ _ _ _) rfl (show s.heap.SetOf (intKind X.prog X.w) a S n from I.hok a _ ha) ⟨.bl (S k), H, I.tok _, rfl, q⟩
def vInS : PyData → PyData → R PyData
  | .int k, .dict [(.none, .list ds)] => match intsOf ds with
    | some ns => .ok (.bool (decide (k ∈ ns)))
    | none => .stuck
  | _, _ => .stuck
theorem inS_D (k : Int) (ns : List Int) : vInS (.int k) (setD ns) = .ok (.bool (decide (k ∈ ns))) := by
  unfold setD vInS; simp only [intsOf_map]
theorem rule_inS : Rule2 X W rInS vInS := fun d e x y σ H B Q s sm dx dy p => by
  cases dx <;> first | exact p.elim | skip
  cases dy <;> first | exact p.elim | skip
  rename_i i a ns n h
  rw [inS_D] at p
  exact ⟨_, _, _, _, rfl, rfl, s _ _ h, p _ H B (.refl s) (.bl (decide (i ∈ ns)))⟩
variable {a b : Expr} {pos : Pos} {fa fb : PEnv → R PyData}
theorem winS (ha : VE X W a fa) (hb : VE X W b fb) (hm : behindInMarks .In b = false := by with_unfolding_all rfl) : VE X W (.Compare a [.In] [b] pos) (v2 vInS fa fb) :=
  ve2 (fun p q => pe_cmpR or_inS p q hm) rule_inS ha hb
end
end VL

namespace VL
open PySem PySem.Spec PyProof.Rows L2
open Enc (e)
structure Ist where
  l : List Int
  deriving DecidableEq
instance : Enc Ist := ⟨fun s => setD s.l⟩
def tmkS (xs : List Int) : R Ist := if xs.length < 4000 then .ok ⟨xs⟩ else .stuck
def tinS (k : Int) (s : Ist) : R Bool := .ok (decide (k ∈ s.l))
def tninS (k : Int) (s : Ist) : R Bool := .ok (!decide (k ∈ s.l))
@[simp] theorem tinS_ap (k : Int) (s : Ist) : tinS k s = .ok (decide (k ∈ s.l)) := rfl
@[simp] theorem tninS_ap (k : Int) (s : Ist) : tninS k s = .ok (!decide (k ∈ s.l)) := rfl
theorem o_mkS (xs : List Int) : TEq (vset1 [e xs]) (tmkS xs) := by
  have e1 : setL (.list (xs.map PyData.int)) = if xs.length < 4000 then R.ok xs else .stuck := by
    unfold setL
    have := intsOf_map xs
    simp only [this]
  show TEq ((setL (.list (xs.map PyData.int))).bind fun ns => .ok (setD ns)) _
  rw [e1]
  unfold tmkS
  split
  · exact rfl
  · trivial
theorem o_inS (k : Int) (s : Ist) : TEq (vInS (e k) (e s)) (tinS k s) := by
  show TEq (vInS (.int k) (setD s.l)) _
  rw [inS_D]; exact rfl
instance : NN Ist := ⟨fun _ => ⟨rfl, rfl⟩⟩
end VL

namespace VL
open PySem PySem.Spec PyProof.Rows L2
def excA (a : Addr) : PyData := .dict [(.none, .int (a : Int)), (.none, .str "")]
theorem is_excA {K : PySem.W.Frag} {F : Hp} {a : Addr} {v : V} (h : Is K F v (excA a)) : v = .ref a := by
  generalize hd : excA a = d at h
  unfold excA at hd
  cases h with
  | exc b c =>
    injection hd with hd
    injection hd with e1 _
    injection e1 with _ e1
    injection e1 with e1
    have : a = b := Int.ofNat_inj.mp e1
    rw [this]
  | dct h1 h2 h3 => unfold dctD at hd; injection hd with hd; injection hd with e1 _; injection e1 with _ e1; cases e1
  | sst h1 => unfold setD at hd; injection hd with hd; injection hd with e1 _; injection e1 with _ e1; cases e1
  | ins h1 h2 h3 h4 => unfold insD at hd; injection hd with hd; injection hd with e1 _; injection e1 with _ e1; cases e1
  | _ => cases hd
theorem ownL_fz {K : PySem.W.Frag} {F H : Hp} : ∀ {ds : List PyData} {vs : List V}, IsAll K F vs ds → OwnL K F H vs (ds.map O.fz) []
  | [], _, h => by cases h; exact .nil
  | d :: ds, _, h => by
    cases h with
    | cons h1 h2 => exact .cons (fp := []) (.fz h1) (ownL_fz h2)
theorem fz_ownL {K : PySem.W.Frag} {F H : Hp} : ∀ {ds : List PyData} {vs : List V} {fp : List Addr}, OwnL K F H vs (ds.map O.fz) fp → IsAll K F vs ds
  | [], _, _, h => by cases h; exact .nil
  | d :: ds, _, _, h => by
    cases h with
    | cons h1 h2 => cases h1 with | fz h1 => exact .cons h1 (fz_ownL h2)
theorem set_here {α : Type} : ∀ {l : List α} {i : Nat} {x : α}, l[i]? = some x → l.set i x = l
  | [], _, _, h => by cases h
  | a :: l, 0, x, h => by injection h with h; rw [h]; rfl
  | a :: l, i + 1, x, h => by rw [List.set_cons_succ, set_here (l := l) (by simpa using h)]
theorem RS.lock {K : PySem.W.Frag} {F0 H0 F H : Hp} {σ : L2.St} {ρ : OEnv} {i : Nat} {ds : List PyData} (r : RS K F0 H0 F H σ ρ) (h : ρ[i]? = some (some (.lst (ds.map O.fz)))) :
    ∃ a vs, σ[i]? = some (some (.ref a)) ∧ H a = some (.lst vs) ∧ H0 a = none ∧ F0 a = none ∧ IsAll K F vs ds ∧ RS K F0 (upd H0 a (.lst vs)) F H σ (ρ.set i (some (.fz (excA a)))) := by
  obtain ⟨fps, sl, hs⟩ := r.ex
  obtain ⟨v, fp, fpr, e1, ow, pm, _, put⟩ := sl.split h
  cases ow with
  | @lst a vs os fp' hH hl =>
    have hs2 := hs.perm pm
    have oa := hs2.ow a (List.mem_append_left _ List.mem_cons_self)
    have f0 : F0 a = none := by
      cases q : F0 a with
      | none => rfl
      | some o => exact absurd (hs.f0 _ _ q) (by rw [oa.1]; exact fun z => nomatch z)
    obtain ⟨fps', s2, p2⟩ := put F H (.ref a) (.fz (excA a)) [] (.fz (.exc a "")) (Same.refl F) (fun _ _ => rfl)
    rw [set_here e1] at s2
    have na : ∀ b ∈ fps', b ≠ a := fun b hb e => by
      subst e
      have hb2 : b ∈ fpr := by simpa using p2.mem_iff.mp hb
      have := List.nodup_append.mp hs2.nd
      exact this.2.2 b List.mem_cons_self b hb2 rfl
    refine ⟨a, vs, e1, hH, oa.2, f0, fz_ownL hl, fps', s2, ?_⟩
    have sub : ∀ b ∈ fps', b ∈ (a :: fp') ++ fpr := fun b hb => List.mem_append_right _ (by simpa using p2.mem_iff.mp hb)
    refine ⟨p2.nodup_iff.mpr (by simpa using (List.nodup_append.mp hs2.nd).2.1), fun b hb => ⟨(hs2.ow b (sub b hb)).1, by rw [upd_ne (na b hb)]; exact (hs2.ow b (sub b hb)).2⟩, hs.fh, hs.f0, fun b o hb => ?_, fun b h1 h2 => ?_⟩
    · by_cases c : b = a
      · subst c; rw [upd_same] at hb; rw [hH, hb]
      · rw [upd_ne c] at hb; exact hs.h0 _ _ hb
    · have n := hs.nw b h1 h2
      have c : b ≠ a := fun e => by subst e; exact h2 oa.1
      unfold NT at n ⊢
      rw [upd_ne c]; exact n
theorem RS.unbase {K : PySem.W.Frag} {F0 H0 F H : Hp} {σ : L2.St} {ρ : OEnv} {a : Addr} {vs : List V} (r : RS K F0 (upd H0 a (.lst vs)) F H σ ρ) (h0 : H0 a = none) : RS K F0 H0 F H σ ρ := by
  obtain ⟨fps, sl, hs⟩ := r.ex
  refine ⟨fps, sl, hs.nd, fun b hb => ⟨(hs.ow b hb).1, ?_⟩, hs.fh, hs.f0, fun b o hb => ?_, fun b h1 h2 => ?_⟩
  · have := (hs.ow b hb).2
    by_cases c : b = a
    · subst c; exact h0
    · rwa [upd_ne c] at this
  · have c : b ≠ a := fun e => by subst e; rw [h0] at hb; cases hb
    exact hs.h0 _ _ (by rw [upd_ne c]; exact hb)
  · have n := hs.nw b h1 h2
    by_cases c : b = a
    · subst c; exact .inl h0
    · unfold NT at n ⊢; rwa [upd_ne c] at n
theorem RS.unlock {K : PySem.W.Frag} {F0 H0 F H : Hp} {σ : L2.St} {ρ : OEnv} {a : Addr} {i : Nat} {vs : List V} {ds : List PyData} (r : RS K F0 (upd H0 a (.lst vs)) F H σ ρ) (h0 : H0 a = none) (f0 : F0 a = none) (hd : IsAll K F vs ds) (h : ρ[i]? = some (some (.fz (excA a)))) :
    RS K F0 H0 F H σ (ρ.set i (some (.lst (ds.map O.fz)))) := by
  obtain ⟨_, _, hs0⟩ := (r.unbase h0).ex
  obtain ⟨fps, sl, hs⟩ := r.ex
  obtain ⟨v, fp, fpr, e1, ow, pm, _, put⟩ := sl.split h
  cases ow with
  | fz hi =>
    have ev := is_excA hi
    subst ev
    have hH : H a = some (.lst vs) := hs.h0 _ _ upd_same
    obtain ⟨fps', s2, p2⟩ := put F H (.ref a) (.lst (ds.map O.fz)) [a] (.lst hH (ownL_fz hd)) (Same.refl F) (fun _ _ => rfl)
    rw [set_here e1] at s2
    have hs2 := hs.perm pm
    have na : a ∉ fpr := fun z => by
      have := (hs2.ow a (List.mem_append_right _ z)).2
      rw [upd_same] at this; cases this
    have fa : F a = none := by
      cases q : F a with
      | none => rfl
      | some o =>
        have := hs.nw a f0 (by rw [q]; exact fun z => nomatch z)
        rcases this with z | ⟨ys, z⟩
        · rw [upd_same] at z; cases z
        · rw [upd_same] at z; cases z
    refine ⟨fps', s2, p2.nodup_iff.mpr (List.nodup_cons.mpr ⟨na, by simpa using hs2.nd⟩), fun b hb => ?_, hs0.fh, hs0.f0, hs0.h0, hs0.nw⟩
    rcases List.mem_cons.mp (p2.mem_iff.mp hb) with z | z
    · subst z; exact ⟨fa, h0⟩
    · have := hs2.ow b (List.mem_append_right _ z)
      have c : b ≠ a := fun e => by subst e; exact na z
      rw [upd_ne c] at this
      exact this
noncomputable def loopA (run : Addr → SR) : SR := open Classical in if h : ∃ r, ∀ a, run a = r then Classical.choose h else .stuck
theorem loopA_at {run : Addr → SR} (h : loopA run ≠ .stuck) (a : Addr) : run a = loopA run := by
  unfold loopA at h ⊢
  split
  · rename_i ex; exact Classical.choose_spec ex a
  · rename_i ex; rw [dif_neg ex] at h; exact absurd rfl h
theorem loopA_eq {run : Addr → SR} {r : SR} (h : ∀ a, run a = r) : loopA run = r := by
  unfold loopA
  have ex : ∃ r, ∀ a, run a = r := ⟨r, h⟩
  rw [dif_pos ex, ← Classical.choose_spec ex (0 : Addr), h]
noncomputable def unlk (i : Nat) (a : Addr) (os : List O) : SR → SR
  | .nx ρ => open Classical in if ρ[i]? = some (some (.fz (excA a))) then .nx (ρ.set i (some (.lst os))) else .stuck
  | .err c ρ => .err c (ρ.set i none)
  | .rt o ρ => .rt o (ρ.set i none)
  | _ => .stuck
def fzs : List O → Option (List PyData)
  | [] => some []
  | .fz d :: os => (fzs os).map (d :: ·)
  | _ :: _ => none
theorem fzs_map : ∀ ds : List PyData, fzs (ds.map O.fz) = some ds
  | [] => rfl
  | d :: ds => by show (fzs (ds.map O.fz)).map (d :: ·) = _; rw [fzs_map ds]; rfl
theorem fzs_some : ∀ {os : List O} {ds : List PyData}, fzs os = some ds → os = ds.map O.fz
  | [], ds, h => by injection h with h; subst h; rfl
  | .fz d :: os, ds, h => by
    unfold fzs at h
    cases q : fzs os with
    | none => rw [q] at h; cases h
    | some es =>
      rw [q] at h
      injection h with h
      subst h
      rw [fzs_some q]; rfl
  | .tup _ :: _, _, h => by cases h
  | .lst _ :: _, _, h => by cases h
  | .dct _ _ :: _, _, h => by cases h
  | .ins _ _ _ :: _, _, h => by cases h
  | .par _ _ :: _, _, h => by cases h
noncomputable def sForO (i : Nat) (T : OEnv → OEnv) (kt : PyData → R (List (Nat × PyData))) (kl : OEnv → OEnv) (gb : OEnv → SR) : OEnv → SR := fun ρ => match (T ρ)[i]? with
  | some (some (.lst os)) => (match fzs os with
    | some ds => loopA fun a => unlk i a os (forL kt kl gb ds ((T ρ).set i (some (.fz (excA a)))))
    | none => .stuck)
  | _ => .stuck
section
variable {X : Cx} {W : WX} {tg : Expr} {pos p0 : Pos} {x : Str}
theorem vs_forO {body : List Stmt} {sl : List Nat} {kt : PyData → R (List (Nat × PyData))} {T kl : OEnv → OEnv} {gb : OEnv → SR} (i : Nat) (hp : PassesOwn (model X.prog X.w) X.A X.env X.xe) (hc : X.calm = true) (h2 : VG X tg sl kt) (hT : ∀ F0 H0 F H σ ρ, RS X.K F0 H0 F H σ ρ → RS X.K F0 H0 F H σ (T ρ)) (hk : EnvT X.K kl) (h3 : VSs X W body gb)
    (hN : X.N[i]? = some x := by rfl) (hv : Vis X.env.scope x := by first | exact Or.inl rfl | exact Or.inr (Or.inl rfl) | exact Or.inr (Or.inr rfl)) (hd : (x == ("__debug__" : Str)) = false := by decide) (hcd : (x == ("__classdict__" : Str)) = false := by decide)
    (hs : ∀ y, foldedSetIterable (.Name x p0) X.env y = pure y := by intro _; rfl) : VS X W (.For tg (.Name x p0) body [] pos) (sForO i T kt kl gb) := by
  obtain ⟨tg', pg, qg⟩ := h2.ex
  obtain ⟨tb, pb, qb⟩ := h3.ex
  refine ⟨_, ps_for hp hc (pi_list (pe_var hN hv hd hcd)) pg pb hs, fun D σ H F0 H0 F ρ r pr => ?_⟩
  have r := hT _ _ _ _ _ _ r
  unfold sForO at pr
  generalize T ρ = ρ at r pr
  split at pr
  · rename_i os hi
    split at pr
    · rename_i ds hz
      have eos := fzs_some hz
      subst eos
      obtain ⟨a, vs, e1, hH, h0, f0, hd2, rl⟩ := r.lock hi
      have nst : loopA (fun a => unlk i a (ds.map O.fz) (forL kt kl gb ds (ρ.set i (some (.fz (excA a)))))) ≠ .stuck := fun z => by rw [z] at pr; exact pr
      rw [← loopA_at nst a] at pr
      have hl := IsAll.len hd2
      -- what stands at each turn
      let H1 : Hp := upd H0 a (.lst vs)
      have here : ∀ {F' Hi : Hp} {σ' : L2.St} {ρ' : OEnv}, RS X.K F0 H1 F' Hi σ' ρ' → Hi a = some (.lst vs) := fun q => by
        obtain ⟨_, _, hs⟩ := q.ex
        exact hs.h0 _ _ upd_same
      have out : ∀ {F3 H3 : Hp} {σ3 : L2.St} {ρ3 : OEnv}, RS X.K F0 H1 F3 H3 σ3 ρ3 → Same F F3 → ρ3[i]? = some (some (.fz (excA a))) → RS X.K F0 H0 F3 H3 σ3 (ρ3.set i (some (.lst (ds.map O.fz)))) := fun q s h => q.unlock h0 f0 (IsAll.mono s hd2) h
      refine ⟨.ref a, e1, a, rfl, ⟨vs, .inl (.inl hH)⟩, ?_⟩
      refine ⟨fun j m σ H => m = ds.length - j ∧ j ≤ ds.length ∧ ∃ F' ρ', RS X.K F0 H1 F' H σ ρ' ∧ Same F F' ∧ SPst X W F0 H0 D (unlk i a (ds.map O.fz) (forL kt kl gb (ds.drop j) ρ')), ⟨ds.length, by simp, Nat.zero_le _, F, _, rl, Same.refl _, by simpa using pr⟩, ?_⟩
      rintro j m σ' Hi ⟨rfl, hi', F', ρ', r', s1, pd'⟩
      obtain ⟨rs, b1, b2⟩ := r'.self
      have ha := here r'
      by_cases hlt : j < ds.length
      · have hjv : j < vs.length := by omega
        refine .inr ⟨⟨vs, vs[j], .inl (.inl ha), by simp [hjv]⟩, fun σ' H => j + 1 ≤ ds.length ∧ ∃ F' ρ', RS X.K F0 H1 F' H σ' ρ' ∧ Same F F' ∧ SPst X W F0 H0 D (unlk i a (ds.map O.fz) (forL kt kl gb (ds.drop (j + 1)) ρ')), fun σ'' H'' q => ⟨ds.length - (j + 1), by omega, rfl, q⟩, fun x H' y => ?_⟩
        obtain ⟨rfl, y⟩ := y
        have ey := y vs (.inl (.inl ha))
        obtain ⟨d, e2, dx⟩ := IsAll.get (IsAll.mono s1 hd2) ey
        have hdrop : ds.drop j = d :: ds.drop (j + 1) := by
          obtain ⟨q1, q2⟩ := List.getElem?_eq_some_iff.mp e2
          rw [List.drop_eq_getElem_cons q1, q2]
        rw [hdrop] at pd'
        simp only [forL] at pd'
        generalize hkd : kt d = rk at pd'
        cases rk with
        | stuck => exact pd'.elim
        | err c => exact pd'.elim
        | ok bs =>
          simp only at pd'
          have fh : Same F' H' := by obtain ⟨_, _, hs⟩ := rs.ex; exact hs.fh
          refine qg x σ' H' F' d _ fh dx ⟨bs, hkd, fun bv hb => ?_⟩
          have r2 : RS X.K F' H1 F' H' (setsV σ' bv) (setsO ρ' bs) := RS.sets rs hb
          have grow : ∀ {F3 H3 : Hp} {σ3 : L2.St} {ρ3 : OEnv}, RS X.K F' H1 F3 H3 σ3 ρ3 → RS X.K F0 H1 F3 H3 σ3 ρ3 ∧ Same F F3 := fun q => ⟨q.rebase b1 b2, s1.trans (by obtain ⟨_, _, hs⟩ := q.ex; exact hs.f0)⟩
          have again : ∀ {σ3 : L2.St} {H3 F3 : Hp} {ρ3 : OEnv}, RS X.K F' H1 F3 H3 σ3 ρ3 → SPst X W F0 H0 D (unlk i a (ds.map O.fz) (forL kt kl gb (ds.drop (j + 1)) (kl ρ3))) → j + 1 ≤ ds.length ∧ ∃ F' ρ', RS X.K F0 H1 F' H3 σ3 ρ' ∧ Same F F' ∧ SPst X W F0 H0 D (unlk i a (ds.map O.fz) (forL kt kl gb (ds.drop (j + 1)) ρ')) := fun r3 p3 => by
            obtain ⟨F4, r4⟩ := hk F' H1 _ _ _ _ r3
            exact ⟨hlt, F4, kl _, (grow r4).1, (grow r4).2, p3⟩
          refine qb _ (setsV σ' bv) H' F' H1 F' (setsO ρ' bs) r2 ?_
          generalize hgb : gb (setsO ρ' bs) = rg at pd'
          cases rg with
          | stuck => exact pd'.elim
          | err c ρ3 =>
            intro σ3 H3 F3 r3
            exact pd' σ3 H3 F3 (((grow r3).1.unbase h0).drop i)
          | nx ρ3 => exact fun σ3 H3 F3 r3 => again r3 pd'
          | ct ρ3 => exact fun σ3 H3 F3 r3 => again r3 pd'
          | bk ρ3 =>
            intro σ3 H3 F3 r3
            simp only [unlk] at pd'
            split at pd'
            · rename_i hh
              exact pd' σ3 H3 F3 (out (grow r3).1 (grow r3).2 hh)
            · exact pd'.elim
          | rt o ρ3 =>
            intro v σ3 H3 F3 r3
            have r4 := ((grow r3).1.unbase h0).drop (i + 1)
            exact pd' v σ3 H3 F3 r4
      · have e : j = ds.length := by omega
        subst e
        refine .inl ⟨⟨vs, .inl (.inl ha), by omega⟩, ?_⟩
        rw [List.drop_length] at pd'
        simp only [forL, unlk] at pd'
        split at pd'
        · rename_i hh
          exact pd' σ' Hi F' (out r' s1 hh)
        · exact pd'.elim
    · exact pr.elim
  · exact pr.elim
end
end VL

namespace VL
open PySem PySem.Spec PyProof.Rows L2
open Enc (e)
def noRE {β l σ : Type} : TR β l σ → TR β l σ
  | .nx s => .nx s
  | _ => .stuck
@[simp] theorem noRE_nx {β l σ : Type} (s : σ) : noRE (.nx s : TR β l σ) = .nx s := rfl
section
variable {β l σ τ α : Type} {E : σ → OEnv → Prop} {L : l → OEnv → Prop} {er : O → OEnv → β → Prop} {Z : OEnv → Prop} {ρ : OEnv} {k : OEnv → SR}
theorem q_forO [Enc α] {i : Nat} {kt : PyData → R (List (Nat × PyData))} {T kl : OEnv → OEnv} {gb : OEnv → SR} {xs : List α} {body : α → τ → TR β τ τ} {ll : τ → TR β l σ} (Es : Addr → τ → OEnv) (Es' : τ → OEnv) (bs : α → List (Nat × PyData)) (s0 : τ)
    (hx : (T ρ)[i]? = some (some (oL oF xs))) (he : ∀ a, (T ρ).set i (some (.fz (excA a))) = Es a s0) (hi : ∀ a s, (Es a s)[i]? = some (some (.fz (excA a)))) (hs : ∀ a s, (Es a s).set i (some (oL oF xs)) = Es' s)
    (hk : ∀ b, kt (e b) = .ok (bs b)) (hkl : ∀ a s, kl (Es a s) = Es a s)
    (hb : ∀ a b s, SQ (fun s ρ => kl ρ = Es a s) (fun s ρ => ρ = Es a s) er (fun _ => True) (gb (setsO (Es a s) (bs b))) (body b s)) (hr : ∀ s, SQ E L er Z (k (Es' s)) (ll s)) :
    SQ E L er Z (seq (sForO i T kt kl gb) k ρ) ((noRE (forT body xs s0)).bind ll) := by
  show SQ E L er Z (SR.seq (sForO i T kt kl gb ρ) k) _
  have f : ∀ a, SQ (fun s ρ => ρ = Es a s) (fun (_ : Empty) _ => True) er (fun _ => True) (forL kt kl gb (xs.map e) (Es a s0)) (forT body xs s0 : TR β Empty τ) := fun a => forL_T0 hk (hkl a) (hb a) xs s0
  have eq : ∀ {l' : Type}, (forT body xs s0 : TR β l' τ) = match (forT body xs s0 : TR β Empty τ) with | .nx s => .nx s | .rt b => .rt b | .err c => .err c | .stuck => .stuck | .bk x => nomatch x | .ct x => nomatch x := by
    intro l'
    clear f hx he hs hr hb hi
    induction xs generalizing s0 with
    | nil => rfl
    | cons x xs ih =>
      simp only [forT]
      cases body x s0 <;> simp only <;> first | rfl | exact ih _
  cases hT : (forT body xs s0 : TR β Empty τ) with
  | nx s =>
    rw [eq, hT]
    have run : ∀ a, unlk i a (xs.map oF) (forL kt kl gb (xs.map e) ((T ρ).set i (some (.fz (excA a))))) = .nx (Es' s) := fun a => by
      have fa := f a
      rw [hT] at fa
      obtain ⟨ρ', e1, e2⟩ := fa
      rw [he a, e1, e2]
      unfold unlk
      simp only
      rw [if_pos (hi a s)]
      exact congrArg SR.nx (hs a s)
    have fz : fzs (xs.map oF) = some (xs.map e) := by
      have := fzs_map (xs.map (e (α := α)))
      rw [List.map_map] at this
      exact this
    have top : sForO i T kt kl gb ρ = .nx (Es' s) := by
      unfold sForO
      rw [hx]
      show (match fzs (xs.map oF) with | some ds => _ | none => _) = _
      rw [fz]
      exact loopA_eq run
    rw [top]
    exact hr s
  | rt b => rw [eq, hT]; trivial
  | err c => rw [eq, hT]; trivial
  | stuck => rw [eq, hT]; trivial
  | bk x => exact nomatch x
  | ct x => exact nomatch x
end
end VL

namespace VL
open PySem PySem.Spec PyProof.Rows L2
section
variable {X : Cx} {W : WX} {a b : Expr} {pos : Pos} {hx hy : OEnv → R PyData}
theorem vx_add (h1 : VX X W a hx) (h2 : VX X W b hy) : VX X W (.BinOp a .Add b pos) (x2v vadd hx hy) := by
  refine vx2_ (fun p q => pe_op (L2.OpR.or op_add (L2.OpR.or op_add_str (L2.OpR.or op_catL op_catA))) p q) (fun d e x y σ H B Q s sm dx dy p => ?_) h1 h2
  cases dx with
  | int i =>
    cases dy <;> first | exact p.elim | exact .inl ⟨_, _, rfl, rfl, p _ H B (.refl s) (.int _)⟩
  | str z =>
    cases dy <;> first | exact p.elim | skip
    simp only [vadd] at p
    split at p
    · rename_i hz
      exact .inr (.inl ⟨_, _, rfl, rfl, hz, p _ H B (.refl s) (.str _)⟩)
    · exact p.elim
  | lst h1 h2 =>
    cases dy <;> first | exact p.elim | skip
    rename_i h3 h4
    simp only [vadd] at p
    split at p
    · rename_i hz
      refine .inr (.inr (.inl ⟨_, _, _, _, rfl, rfl, Rd.mono s h1, Rd.mono s h3, by rw [IsAll.len h2, IsAll.len h4]; exact hz, fun q hq => ?_⟩))
      exact p _ _ _ (Ext.new s hq) (.lst (.inl upd_same) (IsAll.append (IsAll.mono (Ext.new s hq).bb h2) (IsAll.mono (Ext.new s hq).bb h4)))
    · exact p.elim
  | tup h1 h2 =>
    cases dy <;> first | exact p.elim | skip
    rename_i ds1 a2 xs2 ds2 h3 h4
    simp only [vadd] at p
    split at p
    · rename_i hz
      have l1 := IsAll.len h2
      have l2 := IsAll.len h4
      refine .inr (.inr (.inr ⟨_, _, _, _, rfl, rfl, Same.tupl s h1, Same.tupl s h3, by rw [l1, l2]; exact hz, fun e1 => ?_, fun _ e2 => ?_, fun _ _ q hq => ?_⟩))
      · subst e1
        have : ds1 = [] := List.eq_nil_of_length_eq_zero (by rw [← l1]; rfl)
        subst this
        exact p _ H B (.refl s) (.tup h3 h4)
      · subst e2
        have : ds2 = [] := List.eq_nil_of_length_eq_zero (by rw [← l2]; rfl)
        subst this
        rw [List.append_nil] at p
        exact p _ H B (.refl s) (.tup h1 h2)
      · exact p _ _ _ (Ext.new s hq) (.tup (.inl upd_same) (IsAll.append (IsAll.mono (Ext.new s hq).bb h2) (IsAll.mono (Ext.new s hq).bb h4)))
    · exact p.elim
  | non => cases dy <;> exact p.elim
  | bl _ => cases dy <;> exact p.elim
  | exc _ _ => cases dy <;> exact p.elim
  | dct _ _ _ => cases dy <;> exact p.elim
  | sst _ => cases dy <;> exact p.elim
  | ins _ _ _ _ => cases dy <;> exact p.elim

end
end VL

namespace LW
open PySem PySem.Spec PyProof.Rows L2 VL
def topS (i : Nat) : Stmt := PySem.Challenge.pw_trackswhole_k31_judge_of_unequal_halves.main.body.getD i (.Pass ⟨0, 0, 0, 0⟩)
abbrev k_DIRECTIONS : PyData := (.int 8)
abbrev k_ORIGIN : PyData := (.tuple [(.int 0), (.int 0), (.int 0), (.int 0)])
abbrev k_UNIT : PyData := (.tuple [k_ORIGIN, (.int 0)])
abbrev k_MOST_LENGTH : PyData := (.int 9999)
abbrev k_MOST_RISE : PyData := (.int 99)
abbrev k_SIDES : PyData := (.tuple [(.str "left"), (.str "right")])
abbrev k_BACK_END : PyData := (.tuple [(.tuple [(.int 0), (.int 0), (.int 0), (.int 0)]), (.int 4)])
abbrev k_ROUND_CURVES : PyData := (.int 8)
abbrev k_ITEM_WORDS : PyData := (.tuple [(.str "straight"), (.str "curve")])
instance lit_0 : Bd (0 : Int) 4 := ⟨.lit⟩
instance lit_1 : Bd (1 : Int) 4 := ⟨.lit⟩
instance mod_1 (a : Int) : Bd (a % 1) 4 := bd_modl (by decide) (by decide)
instance lit_2 : Bd (2 : Int) 4 := ⟨.lit⟩
instance mod_2 (a : Int) : Bd (a % 2) 4 := bd_modl (by decide) (by decide)
instance lit_3 : Bd (3 : Int) 4 := ⟨.lit⟩
instance mod_3 (a : Int) : Bd (a % 3) 4 := bd_modl (by decide) (by decide)
instance lit_4 : Bd (4 : Int) 4 := ⟨.lit⟩
instance mod_4 (a : Int) : Bd (a % 4) 4 := bd_modl (by decide) (by decide)
instance lit_5 : Bd (5 : Int) 4 := ⟨.lit⟩
instance mod_5 (a : Int) : Bd (a % 5) 4 := bd_modl (by decide) (by decide)
instance lit_6 : Bd (6 : Int) 4 := ⟨.lit⟩
instance mod_6 (a : Int) : Bd (a % 6) 4 := bd_modl (by decide) (by decide)
instance lit_7 : Bd (7 : Int) 4 := ⟨.lit⟩
instance mod_7 (a : Int) : Bd (a % 7) 4 := bd_modl (by decide) (by decide)
instance lit_8 : Bd (8 : Int) 5 := ⟨.lit⟩
instance mod_8 (a : Int) : Bd (a % 8) 5 := bd_modl (by decide) (by decide)
instance lit_9 : Bd (9 : Int) 5 := ⟨.lit⟩
instance mod_9 (a : Int) : Bd (a % 9) 5 := bd_modl (by decide) (by decide)
instance lit_10 : Bd (10 : Int) 5 := ⟨.lit⟩
instance mod_10 (a : Int) : Bd (a % 10) 5 := bd_modl (by decide) (by decide)
instance lit_11 : Bd (11 : Int) 5 := ⟨.lit⟩
instance mod_11 (a : Int) : Bd (a % 11) 5 := bd_modl (by decide) (by decide)
instance lit_12 : Bd (12 : Int) 5 := ⟨.lit⟩
instance mod_12 (a : Int) : Bd (a % 12) 5 := bd_modl (by decide) (by decide)
instance lit_18 : Bd (18 : Int) 6 := ⟨.lit⟩
instance mod_18 (a : Int) : Bd (a % 18) 6 := bd_modl (by decide) (by decide)
instance lit_31 : Bd (31 : Int) 6 := ⟨.lit⟩
instance mod_31 (a : Int) : Bd (a % 31) 6 := bd_modl (by decide) (by decide)
instance lit_32 : Bd (32 : Int) 7 := ⟨.lit⟩
instance mod_32 (a : Int) : Bd (a % 32) 7 := bd_modl (by decide) (by decide)
instance lit_99 : Bd (99 : Int) 8 := ⟨.lit⟩
instance mod_99 (a : Int) : Bd (a % 99) 8 := bd_modl (by decide) (by decide)
instance lit_300 : Bd (300 : Int) 10 := ⟨.lit⟩
instance mod_300 (a : Int) : Bd (a % 300) 10 := bd_modl (by decide) (by decide)
instance lit_5040 : Bd (5040 : Int) 14 := ⟨.lit⟩
instance mod_5040 (a : Int) : Bd (a % 5040) 14 := bd_modl (by decide) (by decide)
instance lit_9999 : Bd (9999 : Int) 15 := ⟨.lit⟩
instance mod_9999 (a : Int) : Bd (a % 9999) 15 := bd_modl (by decide) (by decide)
instance lit_16807 : Bd (16807 : Int) 16 := ⟨.lit⟩
instance mod_16807 (a : Int) : Bd (a % 16807) 16 := bd_modl (by decide) (by decide)
instance lit_20000 : Bd (20000 : Int) 16 := ⟨.lit⟩
instance mod_20000 (a : Int) : Bd (a % 20000) 16 := bd_modl (by decide) (by decide)
instance lit_39996 : Bd (39996 : Int) 17 := ⟨.lit⟩
instance mod_39996 (a : Int) : Bd (a % 39996) 17 := bd_modl (by decide) (by decide)
instance lit_40692 : Bd (40692 : Int) 17 := ⟨.lit⟩
instance mod_40692 (a : Int) : Bd (a % 40692) 17 := bd_modl (by decide) (by decide)
instance lit_48271 : Bd (48271 : Int) 17 := ⟨.lit⟩
instance mod_48271 (a : Int) : Bd (a % 48271) 17 := bd_modl (by decide) (by decide)
instance lit_69621 : Bd (69621 : Int) 18 := ⟨.lit⟩
instance mod_69621 (a : Int) : Bd (a % 69621) 18 := bd_modl (by decide) (by decide)
instance lit_2147483399 : Bd (2147483399 : Int) 32 := ⟨.lit⟩
instance mod_2147483399 (a : Int) : Bd (a % 2147483399) 32 := bd_modl (by decide) (by decide)
instance lit_2147483647 : Bd (2147483647 : Int) 32 := ⟨.lit⟩
instance mod_2147483647 (a : Int) : Bd (a % 2147483647) 32 := bd_modl (by decide) (by decide)
@[simp] theorem sok_0 : PyData.strOk "" = true := by decide +kernel
@[simp] theorem sok_1 : PyData.strOk "Unequal" = true := by decide +kernel
@[simp] theorem sok_2 : PyData.strOk "cross" = true := by decide +kernel
@[simp] theorem sok_3 : PyData.strOk "curve" = true := by decide +kernel
@[simp] theorem sok_4 : PyData.strOk "equal" = true := by decide +kernel
@[simp] theorem sok_5 : PyData.strOk "gap" = true := by decide +kernel
@[simp] theorem sok_6 : PyData.strOk "left" = true := by decide +kernel
@[simp] theorem sok_7 : PyData.strOk "none" = true := by decide +kernel
@[simp] theorem sok_8 : PyData.strOk "points" = true := by decide +kernel
@[simp] theorem sok_9 : PyData.strOk "ramp" = true := by decide +kernel
@[simp] theorem sok_10 : PyData.strOk "right" = true := by decide +kernel
@[simp] theorem sok_11 : PyData.strOk "round" = true := by decide +kernel
@[simp] theorem sok_12 : PyData.strOk "stop" = true := by decide +kernel
@[simp] theorem sok_13 : PyData.strOk "straight" = true := by decide +kernel
@[simp] theorem sok_14 : PyData.strOk "unequal" = true := by decide +kernel
@[simp] theorem sne_0_2 : (("" : Str) = "cross") = False := eq_false (by decide)
@[simp] theorem sne_0_3 : (("" : Str) = "curve") = False := eq_false (by decide)
@[simp] theorem sne_0_5 : (("" : Str) = "gap") = False := eq_false (by decide)
@[simp] theorem sne_0_6 : (("" : Str) = "left") = False := eq_false (by decide)
@[simp] theorem sne_0_8 : (("" : Str) = "points") = False := eq_false (by decide)
@[simp] theorem sne_0_9 : (("" : Str) = "ramp") = False := eq_false (by decide)
@[simp] theorem sne_0_11 : (("" : Str) = "round") = False := eq_false (by decide)
@[simp] theorem sne_0_12 : (("" : Str) = "stop") = False := eq_false (by decide)
@[simp] theorem sne_0_13 : (("" : Str) = "straight") = False := eq_false (by decide)
@[simp] theorem sne_0_14 : (("" : Str) = "unequal") = False := eq_false (by decide)
@[simp] theorem sne_1_2 : (("Unequal" : Str) = "cross") = False := eq_false (by decide)
@[simp] theorem sne_1_3 : (("Unequal" : Str) = "curve") = False := eq_false (by decide)
@[simp] theorem sne_1_5 : (("Unequal" : Str) = "gap") = False := eq_false (by decide)
@[simp] theorem sne_1_6 : (("Unequal" : Str) = "left") = False := eq_false (by decide)
@[simp] theorem sne_1_8 : (("Unequal" : Str) = "points") = False := eq_false (by decide)
@[simp] theorem sne_1_9 : (("Unequal" : Str) = "ramp") = False := eq_false (by decide)
@[simp] theorem sne_1_11 : (("Unequal" : Str) = "round") = False := eq_false (by decide)
@[simp] theorem sne_1_12 : (("Unequal" : Str) = "stop") = False := eq_false (by decide)
@[simp] theorem sne_1_13 : (("Unequal" : Str) = "straight") = False := eq_false (by decide)
@[simp] theorem sne_1_14 : (("Unequal" : Str) = "unequal") = False := eq_false (by decide)
@[simp] theorem sne_2_0 : (("cross" : Str) = "") = False := eq_false (by decide)
@[simp] theorem sne_2_1 : (("cross" : Str) = "Unequal") = False := eq_false (by decide)
@[simp] theorem sne_2_3 : (("cross" : Str) = "curve") = False := eq_false (by decide)
@[simp] theorem sne_2_4 : (("cross" : Str) = "equal") = False := eq_false (by decide)
@[simp] theorem sne_2_5 : (("cross" : Str) = "gap") = False := eq_false (by decide)
@[simp] theorem sne_2_6 : (("cross" : Str) = "left") = False := eq_false (by decide)
@[simp] theorem sne_2_7 : (("cross" : Str) = "none") = False := eq_false (by decide)
@[simp] theorem sne_2_8 : (("cross" : Str) = "points") = False := eq_false (by decide)
@[simp] theorem sne_2_9 : (("cross" : Str) = "ramp") = False := eq_false (by decide)
@[simp] theorem sne_2_10 : (("cross" : Str) = "right") = False := eq_false (by decide)
@[simp] theorem sne_2_11 : (("cross" : Str) = "round") = False := eq_false (by decide)
@[simp] theorem sne_2_12 : (("cross" : Str) = "stop") = False := eq_false (by decide)
@[simp] theorem sne_2_13 : (("cross" : Str) = "straight") = False := eq_false (by decide)
@[simp] theorem sne_2_14 : (("cross" : Str) = "unequal") = False := eq_false (by decide)
@[simp] theorem sne_3_0 : (("curve" : Str) = "") = False := eq_false (by decide)
@[simp] theorem sne_3_1 : (("curve" : Str) = "Unequal") = False := eq_false (by decide)
@[simp] theorem sne_3_2 : (("curve" : Str) = "cross") = False := eq_false (by decide)
@[simp] theorem sne_3_4 : (("curve" : Str) = "equal") = False := eq_false (by decide)
@[simp] theorem sne_3_5 : (("curve" : Str) = "gap") = False := eq_false (by decide)
@[simp] theorem sne_3_6 : (("curve" : Str) = "left") = False := eq_false (by decide)
@[simp] theorem sne_3_7 : (("curve" : Str) = "none") = False := eq_false (by decide)
@[simp] theorem sne_3_8 : (("curve" : Str) = "points") = False := eq_false (by decide)
@[simp] theorem sne_3_9 : (("curve" : Str) = "ramp") = False := eq_false (by decide)
@[simp] theorem sne_3_10 : (("curve" : Str) = "right") = False := eq_false (by decide)
@[simp] theorem sne_3_11 : (("curve" : Str) = "round") = False := eq_false (by decide)
@[simp] theorem sne_3_12 : (("curve" : Str) = "stop") = False := eq_false (by decide)
@[simp] theorem sne_3_13 : (("curve" : Str) = "straight") = False := eq_false (by decide)
@[simp] theorem sne_3_14 : (("curve" : Str) = "unequal") = False := eq_false (by decide)
@[simp] theorem sne_4_2 : (("equal" : Str) = "cross") = False := eq_false (by decide)
@[simp] theorem sne_4_3 : (("equal" : Str) = "curve") = False := eq_false (by decide)
@[simp] theorem sne_4_5 : (("equal" : Str) = "gap") = False := eq_false (by decide)
@[simp] theorem sne_4_6 : (("equal" : Str) = "left") = False := eq_false (by decide)
@[simp] theorem sne_4_8 : (("equal" : Str) = "points") = False := eq_false (by decide)
@[simp] theorem sne_4_9 : (("equal" : Str) = "ramp") = False := eq_false (by decide)
@[simp] theorem sne_4_11 : (("equal" : Str) = "round") = False := eq_false (by decide)
@[simp] theorem sne_4_12 : (("equal" : Str) = "stop") = False := eq_false (by decide)
@[simp] theorem sne_4_13 : (("equal" : Str) = "straight") = False := eq_false (by decide)
@[simp] theorem sne_4_14 : (("equal" : Str) = "unequal") = False := eq_false (by decide)
@[simp] theorem sne_5_0 : (("gap" : Str) = "") = False := eq_false (by decide)
@[simp] theorem sne_5_1 : (("gap" : Str) = "Unequal") = False := eq_false (by decide)
@[simp] theorem sne_5_2 : (("gap" : Str) = "cross") = False := eq_false (by decide)
@[simp] theorem sne_5_3 : (("gap" : Str) = "curve") = False := eq_false (by decide)
@[simp] theorem sne_5_4 : (("gap" : Str) = "equal") = False := eq_false (by decide)
@[simp] theorem sne_5_6 : (("gap" : Str) = "left") = False := eq_false (by decide)
@[simp] theorem sne_5_7 : (("gap" : Str) = "none") = False := eq_false (by decide)
@[simp] theorem sne_5_8 : (("gap" : Str) = "points") = False := eq_false (by decide)
@[simp] theorem sne_5_9 : (("gap" : Str) = "ramp") = False := eq_false (by decide)
@[simp] theorem sne_5_10 : (("gap" : Str) = "right") = False := eq_false (by decide)
@[simp] theorem sne_5_11 : (("gap" : Str) = "round") = False := eq_false (by decide)
@[simp] theorem sne_5_12 : (("gap" : Str) = "stop") = False := eq_false (by decide)
@[simp] theorem sne_5_13 : (("gap" : Str) = "straight") = False := eq_false (by decide)
@[simp] theorem sne_5_14 : (("gap" : Str) = "unequal") = False := eq_false (by decide)
@[simp] theorem sne_6_0 : (("left" : Str) = "") = False := eq_false (by decide)
@[simp] theorem sne_6_1 : (("left" : Str) = "Unequal") = False := eq_false (by decide)
@[simp] theorem sne_6_2 : (("left" : Str) = "cross") = False := eq_false (by decide)
@[simp] theorem sne_6_3 : (("left" : Str) = "curve") = False := eq_false (by decide)
@[simp] theorem sne_6_4 : (("left" : Str) = "equal") = False := eq_false (by decide)
@[simp] theorem sne_6_5 : (("left" : Str) = "gap") = False := eq_false (by decide)
@[simp] theorem sne_6_7 : (("left" : Str) = "none") = False := eq_false (by decide)
@[simp] theorem sne_6_8 : (("left" : Str) = "points") = False := eq_false (by decide)
@[simp] theorem sne_6_9 : (("left" : Str) = "ramp") = False := eq_false (by decide)
@[simp] theorem sne_6_10 : (("left" : Str) = "right") = False := eq_false (by decide)
@[simp] theorem sne_6_11 : (("left" : Str) = "round") = False := eq_false (by decide)
@[simp] theorem sne_6_12 : (("left" : Str) = "stop") = False := eq_false (by decide)
@[simp] theorem sne_6_13 : (("left" : Str) = "straight") = False := eq_false (by decide)
@[simp] theorem sne_6_14 : (("left" : Str) = "unequal") = False := eq_false (by decide)
@[simp] theorem sne_7_2 : (("none" : Str) = "cross") = False := eq_false (by decide)
@[simp] theorem sne_7_3 : (("none" : Str) = "curve") = False := eq_false (by decide)
@[simp] theorem sne_7_5 : (("none" : Str) = "gap") = False := eq_false (by decide)
@[simp] theorem sne_7_6 : (("none" : Str) = "left") = False := eq_false (by decide)
@[simp] theorem sne_7_8 : (("none" : Str) = "points") = False := eq_false (by decide)
@[simp] theorem sne_7_9 : (("none" : Str) = "ramp") = False := eq_false (by decide)
@[simp] theorem sne_7_11 : (("none" : Str) = "round") = False := eq_false (by decide)
@[simp] theorem sne_7_12 : (("none" : Str) = "stop") = False := eq_false (by decide)
@[simp] theorem sne_7_13 : (("none" : Str) = "straight") = False := eq_false (by decide)
@[simp] theorem sne_7_14 : (("none" : Str) = "unequal") = False := eq_false (by decide)
@[simp] theorem sne_8_0 : (("points" : Str) = "") = False := eq_false (by decide)
@[simp] theorem sne_8_1 : (("points" : Str) = "Unequal") = False := eq_false (by decide)
@[simp] theorem sne_8_2 : (("points" : Str) = "cross") = False := eq_false (by decide)
@[simp] theorem sne_8_3 : (("points" : Str) = "curve") = False := eq_false (by decide)
@[simp] theorem sne_8_4 : (("points" : Str) = "equal") = False := eq_false (by decide)
@[simp] theorem sne_8_5 : (("points" : Str) = "gap") = False := eq_false (by decide)
@[simp] theorem sne_8_6 : (("points" : Str) = "left") = False := eq_false (by decide)
@[simp] theorem sne_8_7 : (("points" : Str) = "none") = False := eq_false (by decide)
@[simp] theorem sne_8_9 : (("points" : Str) = "ramp") = False := eq_false (by decide)
@[simp] theorem sne_8_10 : (("points" : Str) = "right") = False := eq_false (by decide)
@[simp] theorem sne_8_11 : (("points" : Str) = "round") = False := eq_false (by decide)
@[simp] theorem sne_8_12 : (("points" : Str) = "stop") = False := eq_false (by decide)
@[simp] theorem sne_8_13 : (("points" : Str) = "straight") = False := eq_false (by decide)
@[simp] theorem sne_8_14 : (("points" : Str) = "unequal") = False := eq_false (by decide)
@[simp] theorem sne_9_0 : (("ramp" : Str) = "") = False := eq_false (by decide)
@[simp] theorem sne_9_1 : (("ramp" : Str) = "Unequal") = False := eq_false (by decide)
@[simp] theorem sne_9_2 : (("ramp" : Str) = "cross") = False := eq_false (by decide)
@[simp] theorem sne_9_3 : (("ramp" : Str) = "curve") = False := eq_false (by decide)
@[simp] theorem sne_9_4 : (("ramp" : Str) = "equal") = False := eq_false (by decide)
@[simp] theorem sne_9_5 : (("ramp" : Str) = "gap") = False := eq_false (by decide)
@[simp] theorem sne_9_6 : (("ramp" : Str) = "left") = False := eq_false (by decide)
@[simp] theorem sne_9_7 : (("ramp" : Str) = "none") = False := eq_false (by decide)
@[simp] theorem sne_9_8 : (("ramp" : Str) = "points") = False := eq_false (by decide)
@[simp] theorem sne_9_10 : (("ramp" : Str) = "right") = False := eq_false (by decide)
@[simp] theorem sne_9_11 : (("ramp" : Str) = "round") = False := eq_false (by decide)
@[simp] theorem sne_9_12 : (("ramp" : Str) = "stop") = False := eq_false (by decide)
@[simp] theorem sne_9_13 : (("ramp" : Str) = "straight") = False := eq_false (by decide)
@[simp] theorem sne_9_14 : (("ramp" : Str) = "unequal") = False := eq_false (by decide)
@[simp] theorem sne_10_2 : (("right" : Str) = "cross") = False := eq_false (by decide)
@[simp] theorem sne_10_3 : (("right" : Str) = "curve") = False := eq_false (by decide)
@[simp] theorem sne_10_5 : (("right" : Str) = "gap") = False := eq_false (by decide)
@[simp] theorem sne_10_6 : (("right" : Str) = "left") = False := eq_false (by decide)
@[simp] theorem sne_10_8 : (("right" : Str) = "points") = False := eq_false (by decide)
@[simp] theorem sne_10_9 : (("right" : Str) = "ramp") = False := eq_false (by decide)
@[simp] theorem sne_10_11 : (("right" : Str) = "round") = False := eq_false (by decide)
@[simp] theorem sne_10_12 : (("right" : Str) = "stop") = False := eq_false (by decide)
@[simp] theorem sne_10_13 : (("right" : Str) = "straight") = False := eq_false (by decide)
@[simp] theorem sne_10_14 : (("right" : Str) = "unequal") = False := eq_false (by decide)
@[simp] theorem sne_11_0 : (("round" : Str) = "") = False := eq_false (by decide)
@[simp] theorem sne_11_1 : (("round" : Str) = "Unequal") = False := eq_false (by decide)
@[simp] theorem sne_11_2 : (("round" : Str) = "cross") = False := eq_false (by decide)
@[simp] theorem sne_11_3 : (("round" : Str) = "curve") = False := eq_false (by decide)
@[simp] theorem sne_11_4 : (("round" : Str) = "equal") = False := eq_false (by decide)
@[simp] theorem sne_11_5 : (("round" : Str) = "gap") = False := eq_false (by decide)
@[simp] theorem sne_11_6 : (("round" : Str) = "left") = False := eq_false (by decide)
@[simp] theorem sne_11_7 : (("round" : Str) = "none") = False := eq_false (by decide)
@[simp] theorem sne_11_8 : (("round" : Str) = "points") = False := eq_false (by decide)
@[simp] theorem sne_11_9 : (("round" : Str) = "ramp") = False := eq_false (by decide)
@[simp] theorem sne_11_10 : (("round" : Str) = "right") = False := eq_false (by decide)
@[simp] theorem sne_11_12 : (("round" : Str) = "stop") = False := eq_false (by decide)
@[simp] theorem sne_11_13 : (("round" : Str) = "straight") = False := eq_false (by decide)
@[simp] theorem sne_11_14 : (("round" : Str) = "unequal") = False := eq_false (by decide)
@[simp] theorem sne_12_0 : (("stop" : Str) = "") = False := eq_false (by decide)
@[simp] theorem sne_12_1 : (("stop" : Str) = "Unequal") = False := eq_false (by decide)
@[simp] theorem sne_12_2 : (("stop" : Str) = "cross") = False := eq_false (by decide)
@[simp] theorem sne_12_3 : (("stop" : Str) = "curve") = False := eq_false (by decide)
@[simp] theorem sne_12_4 : (("stop" : Str) = "equal") = False := eq_false (by decide)
@[simp] theorem sne_12_5 : (("stop" : Str) = "gap") = False := eq_false (by decide)
@[simp] theorem sne_12_6 : (("stop" : Str) = "left") = False := eq_false (by decide)
@[simp] theorem sne_12_7 : (("stop" : Str) = "none") = False := eq_false (by decide)
@[simp] theorem sne_12_8 : (("stop" : Str) = "points") = False := eq_false (by decide)
@[simp] theorem sne_12_9 : (("stop" : Str) = "ramp") = False := eq_false (by decide)
@[simp] theorem sne_12_10 : (("stop" : Str) = "right") = False := eq_false (by decide)
@[simp] theorem sne_12_11 : (("stop" : Str) = "round") = False := eq_false (by decide)
@[simp] theorem sne_12_13 : (("stop" : Str) = "straight") = False := eq_false (by decide)
@[simp] theorem sne_12_14 : (("stop" : Str) = "unequal") = False := eq_false (by decide)
@[simp] theorem sne_13_0 : (("straight" : Str) = "") = False := eq_false (by decide)
@[simp] theorem sne_13_1 : (("straight" : Str) = "Unequal") = False := eq_false (by decide)
@[simp] theorem sne_13_2 : (("straight" : Str) = "cross") = False := eq_false (by decide)
@[simp] theorem sne_13_3 : (("straight" : Str) = "curve") = False := eq_false (by decide)
@[simp] theorem sne_13_4 : (("straight" : Str) = "equal") = False := eq_false (by decide)
@[simp] theorem sne_13_5 : (("straight" : Str) = "gap") = False := eq_false (by decide)
@[simp] theorem sne_13_6 : (("straight" : Str) = "left") = False := eq_false (by decide)
@[simp] theorem sne_13_7 : (("straight" : Str) = "none") = False := eq_false (by decide)
@[simp] theorem sne_13_8 : (("straight" : Str) = "points") = False := eq_false (by decide)
@[simp] theorem sne_13_9 : (("straight" : Str) = "ramp") = False := eq_false (by decide)
@[simp] theorem sne_13_10 : (("straight" : Str) = "right") = False := eq_false (by decide)
@[simp] theorem sne_13_11 : (("straight" : Str) = "round") = False := eq_false (by decide)
@[simp] theorem sne_13_12 : (("straight" : Str) = "stop") = False := eq_false (by decide)
@[simp] theorem sne_13_14 : (("straight" : Str) = "unequal") = False := eq_false (by decide)
@[simp] theorem sne_14_0 : (("unequal" : Str) = "") = False := eq_false (by decide)
@[simp] theorem sne_14_1 : (("unequal" : Str) = "Unequal") = False := eq_false (by decide)
@[simp] theorem sne_14_2 : (("unequal" : Str) = "cross") = False := eq_false (by decide)
@[simp] theorem sne_14_3 : (("unequal" : Str) = "curve") = False := eq_false (by decide)
@[simp] theorem sne_14_4 : (("unequal" : Str) = "equal") = False := eq_false (by decide)
@[simp] theorem sne_14_5 : (("unequal" : Str) = "gap") = False := eq_false (by decide)
@[simp] theorem sne_14_6 : (("unequal" : Str) = "left") = False := eq_false (by decide)
@[simp] theorem sne_14_7 : (("unequal" : Str) = "none") = False := eq_false (by decide)
@[simp] theorem sne_14_8 : (("unequal" : Str) = "points") = False := eq_false (by decide)
@[simp] theorem sne_14_9 : (("unequal" : Str) = "ramp") = False := eq_false (by decide)
@[simp] theorem sne_14_10 : (("unequal" : Str) = "right") = False := eq_false (by decide)
@[simp] theorem sne_14_11 : (("unequal" : Str) = "round") = False := eq_false (by decide)
@[simp] theorem sne_14_12 : (("unequal" : Str) = "stop") = False := eq_false (by decide)
@[simp] theorem sne_14_13 : (("unequal" : Str) = "straight") = False := eq_false (by decide)
abbrev csK : List (List L2.Key) := [[], [.inl (0), .inl (0), .inl (0), .inl (0)], [.inr "left", .inr "right"], [.inr "straight", .inr "curve"], [.inr "one", .inr "other"], [.inr "spot"], [.inr "spot", .inr "direction"], [.inr "units", .inr "direction"], [.inr "value"], [.inr "values"], [.inr "piece"], [.inr "piece", .inr "end"], [.inr "radius", .inr "side"], [.inr "length"], [.inr "length", .inr "turn", .inr "end"], [.inr "item"], [.inr "items"], [.inr "box", .inr "items"], [.inr "straights", .inr "last"], [.inr "sums", .inr "after", .inr "length"], [.inr "straights", .inr "sums"], [.inr "box", .inr "verdict"], [.inr "script", .inr "k"], [.inr "cell", .inr "count", .inr "limit"], [.inr "number"], [.inr "cell", .inr "other", .inr "most"], [.inr "straights"], [.inr "box", .inr "sums"], [.inr "lengths", .inr "sums", .inr "at", .inr "number"], [.inr "sums", .inr "at", .inr "row"], [.inr "lengths", .inr "sums", .inr "draws"], [.inr "script"], [.inr "spot", .inr "direction", .inr "found", .inr "_"], [.inr "one", .inr "other", .inr "spot"], [.inr "piece", .inr "word"], [.inr "length", .inr "turn", .inr "end", .inr "half"], [.inr "items", .inr "found", .inr "item"], [.inr "items", .inr "item"], [.inr "box", .inr "items", .inr "straights", .inr "curves", .inr "radius", .inr "bent", .inr "item"], [.inr "straights", .inr "last", .inr "total"], [.inr "box", .inr "items", .inr "item"], [.inr "sums", .inr "after", .inr "length", .inr "known", .inr "value"], [.inr "straights", .inr "sums", .inr "k", .inr "length"], [.inr "box", .inr "verdict", .inr "word", .inr "paper"], [.inr "cell", .inr "count", .inr "limit", .inr "found", .inr "k", .inr "mixed"], [.inr "number", .inr "kind", .inr "rest"], [.inr "cell", .inr "other", .inr "most", .inr "draws", .inr "count", .inr "number", .inr "sizes", .inr "kind", .inr "found", .inr "size", .inr "total"], [.inr "straights", .inr "found", .inr "length", .inr "known", .inr "value"], [.inr "box", .inr "sums", .inr "lengths", .inr "k", .inr "known", .inr "value", .inr "total"], [.inr "lengths", .inr "sums", .inr "at", .inr "number", .inr "row", .inr "found", .inr "rest", .inr "k", .inr "value"], [.inr "sums", .inr "at", .inr "row", .inr "one"], [.inr "lengths", .inr "sums", .inr "draws", .inr "at", .inr "row", .inr "spot", .inr "half", .inr "far", .inr "one", .inr "found", .inr "last", .inr "value"], [.inr "script", .inr "draws", .inr "lengths", .inr "radius", .inr "sums", .inr "row", .inr "right", .inr "boxes", .inr "paper", .inr "straights", .inr "curves", .inr "passed", .inr "handed", .inr "told", .inr "word"]]
abbrev ltb_InvalidPiece : List (Str × Bool) := [("InvalidPiece", true), ("NoSuchEnd", false)]
def tb_InvalidPiece : Str → Option Bool := fun c => ltb_InvalidPiece.lookup c
@[simp] theorem tb_InvalidPiece_InvalidPiece : tb_InvalidPiece "InvalidPiece" = some true := by decide +kernel
@[simp] theorem tb_InvalidPiece_NoSuchEnd : tb_InvalidPiece "NoSuchEnd" = some false := by decide +kernel
noncomputable section
abbrev s_spot_sum : Stmt := topS 8
abbrev N_spot_sum : List Str := ["one", "other"]
def g_spot_sum : OEnv → SR := (sRet (oX (exF (vtup (aCons (v2 vadd (v2 vidx (vVar 0) (vC (.int 0))) (v2 vidx (vVar 1) (vC (.int 0)))) (aCons (v2 vadd (v2 vidx (vVar 0) (vC (.int 1))) (v2 vidx (vVar 1) (vC (.int 1)))) (aCons (v2 vadd (v2 vidx (vVar 0) (vC (.int 2))) (v2 vidx (vVar 1) (vC (.int 2)))) (aCons (v2 vadd (v2 vidx (vVar 0) (vC (.int 3))) (v2 vidx (vVar 1) (vC (.int 3)))) aNil))))))))
def m_spot_sum : List PyData → R PyData := frz (runB 2 g_spot_sum)
theorem r_spot_sum (a0 a1 : PyData) : m_spot_sum [a0, a1] = fin (g_spot_sum [some (.fz a0), some (.fz a1)]) := frz_fin _ _ _
abbrev s_eighth_turned : Stmt := topS 9
abbrev N_eighth_turned : List Str := ["spot"]
def g_eighth_turned : OEnv → SR := (sRet (oX (exF (vtup (aCons (v1 vneg (v2 vidx (vVar 0) (vC (.int 3)))) (aCons (v2 vidx (vVar 0) (vC (.int 0))) (aCons (v2 vidx (vVar 0) (vC (.int 1))) (aCons (v2 vidx (vVar 0) (vC (.int 2))) aNil))))))))
def m_eighth_turned : List PyData → R PyData := frz (runB 1 g_eighth_turned)
theorem r_eighth_turned (a0 : PyData) : m_eighth_turned [a0] = fin (g_eighth_turned [some (.fz a0)]) := frz_fin _ _ _
abbrev s_spot_turned : Stmt := topS 10
abbrev N_spot_turned : List Str := ["spot", "direction", "found", "_"]
def b_spot_turned_1 : OEnv → SR := (sSet 2 (oX (exF (vapp m_eighth_turned (aCons (vVar 2) aNil)))))
def g_spot_turned : OEnv → SR := (seq (sSet 2 (oX (exF (vapp vtuple1 (aCons (vVar 0) aNil)))))
    (pre (kill [0]) (seq (sForK (x1 vrange1 (exF (v2 vmod (vapp vint1 (aCons (vVar 1) aNil)) (vC k_DIRECTIONS)))) (kill [1]) (gN 3) (kill [3]) (b_spot_turned_1))
    (pre (kill [3]) (sRet (oX (exF (vVar 2))))))))
def m_spot_turned : List PyData → R PyData := frz (runB 4 g_spot_turned)
theorem r_spot_turned (a0 a1 : PyData) : m_spot_turned [a0, a1] = fin (g_spot_turned [some (.fz a0), some (.fz a1), none, none]) := frz_fin _ _ _
abbrev s_ray : Stmt := topS 11
abbrev N_ray : List Str := ["units", "direction"]
def g_ray : OEnv → SR := (sRet (oX (exF (vapp m_spot_turned (aCons (vtup (aCons (vVar 0) (aCons (vC (.int 0)) (aCons (vC (.int 0)) (aCons (vC (.int 0)) aNil))))) (aCons (vVar 1) aNil))))))
def m_ray : List PyData → R PyData := frz (runB 2 g_ray)
theorem r_ray (a0 a1 : PyData) : m_ray [a0, a1] = fin (g_ray [some (.fz a0), some (.fz a1)]) := frz_fin _ _ _
abbrev s_pose_product : Stmt := topS 12
abbrev N_pose_product : List Str := ["one", "other", "spot"]
def g_pose_product : OEnv → SR := (seq (sSet 2 (oX (exF (vapp m_spot_sum (aCons (v2 vidx (vVar 0) (vC (.int 0))) (aCons (vapp m_spot_turned (aCons (v2 vidx (vVar 1) (vC (.int 0))) (aCons (v2 vidx (vVar 0) (vC (.int 1))) aNil))) aNil))))))
    (sRet (oX (exF (vtup (aCons (vVar 2) (aCons (v2 vmod (vapp vint1 (aCons (v2 vadd (v2 vidx (vVar 0) (vC (.int 1))) (v2 vidx (vVar 1) (vC (.int 1)))) aNil)) (vC k_DIRECTIONS)) aNil)))))))
def m_pose_product : List PyData → R PyData := frz (runB 3 g_pose_product)
theorem r_pose_product (a0 a1 : PyData) : m_pose_product [a0, a1] = fin (g_pose_product [some (.fz a0), some (.fz a1), none]) := frz_fin _ _ _
abbrev s_is_whole : Stmt := topS 18
abbrev N_is_whole : List Str := ["value"]
def g_is_whole : OEnv → SR := (sRet (oX (exF (vand (v1 (visi "int") (vVar 0)) (vnot (v1 (visi "bool") (vVar 0)))))))
def m_is_whole : List PyData → R PyData := frz (runB 1 g_is_whole)
theorem r_is_whole (a0 : PyData) : m_is_whole [a0] = fin (g_is_whole [some (.fz a0)]) := frz_fin _ _ _
abbrev s_is_length : Stmt := topS 19
abbrev N_is_length : List Str := ["value"]
def g_is_length : OEnv → SR := (sRet (oX (exF (vand (vapp m_is_whole (aCons (vVar 0) aNil)) (vchain vle vle (vC (.int 1)) (vVar 0) (vC k_MOST_LENGTH))))))
def m_is_length : List PyData → R PyData := frz (runB 1 g_is_length)
theorem r_is_length (a0 : PyData) : m_is_length [a0] = fin (g_is_length [some (.fz a0)]) := frz_fin _ _ _
abbrev s_is_rise : Stmt := topS 20
abbrev N_is_rise : List Str := ["value"]
def g_is_rise : OEnv → SR := (sRet (oX (exF (vand (vapp m_is_whole (aCons (vVar 0) aNil)) (vand (v2 vne (vVar 0) (vC (.int 0))) (vchain vle vle (v1 vneg (vC k_MOST_RISE)) (vVar 0) (vC k_MOST_RISE)))))))
def m_is_rise : List PyData → R PyData := frz (runB 1 g_is_rise)
theorem r_is_rise (a0 : PyData) : m_is_rise [a0] = fin (g_is_rise [some (.fz a0)]) := frz_fin _ _ _
abbrev s_is_curve : Stmt := topS 21
abbrev N_is_curve : List Str := ["values"]
def g_is_curve : OEnv → SR := (sRet (oX (exF (vand (v2 veq (vapp vlen (aCons (vVar 0) aNil)) (vC (.int 2))) (vand (vapp m_is_length (aCons (v2 vidx (vVar 0) (vC (.int 0))) aNil)) (v2 vInT (v2 vidx (vVar 0) (vC (.int 1))) (vC k_SIDES)))))))
def m_is_curve : List PyData → R PyData := frz (runB 1 g_is_curve)
theorem r_is_curve (a0 : PyData) : m_is_curve [a0] = fin (g_is_curve [some (.fz a0)]) := frz_fin _ _ _
abbrev s_is_points : Stmt := topS 22
abbrev N_is_points : List Str := ["values"]
def g_is_points : OEnv → SR := (sRet (oX (exF (vand (v2 veq (vapp vlen (aCons (vVar 0) aNil)) (vC (.int 3))) (vand (vapp m_is_length (aCons (v2 vidx (vVar 0) (vC (.int 0))) aNil)) (vapp m_is_curve (aCons (vslice (vVar 0) (vpart (vC (.int 1))) vnopart) aNil)))))))
def m_is_points : List PyData → R PyData := frz (runB 1 g_is_points)
theorem r_is_points (a0 : PyData) : m_is_points [a0] = fin (g_is_points [some (.fz a0)]) := frz_fin _ _ _
abbrev s_is_cross : Stmt := topS 23
abbrev N_is_cross : List Str := ["values"]
def g_is_cross : OEnv → SR := (seq (sIf (tB (tor (tst (v2 vne (vapp vlen (aCons (vVar 0) aNil)) (vC (.int 2)))) (tor (tnot (ttr (vapp m_is_length (aCons (v2 vidx (vVar 0) (vC (.int 0))) aNil)))) (tnot (ttr (vapp m_is_whole (aCons (v2 vidx (vVar 0) (vC (.int 1))) aNil)))))))
    (sRet (oX (exF (vC (.bool false)))))
    sNx)
    (sRet (oX (exF (vand (v2 veq (v2 vmod (v2 vidx (vVar 0) (vC (.int 0))) (vC (.int 2))) (vC (.int 0))) (vchain vle vle (vC (.int 1)) (v2 vidx (vVar 0) (vC (.int 1))) (vC (.int 3))))))))
def m_is_cross : List PyData → R PyData := frz (runB 1 g_is_cross)
theorem r_is_cross (a0 : PyData) : m_is_cross [a0] = fin (g_is_cross [some (.fz a0)]) := frz_fin _ _ _
abbrev s_is_ramp : Stmt := topS 24
abbrev N_is_ramp : List Str := ["values"]
def g_is_ramp : OEnv → SR := (sRet (oX (exF (vand (v2 veq (vapp vlen (aCons (vVar 0) aNil)) (vC (.int 2))) (vand (vapp m_is_length (aCons (v2 vidx (vVar 0) (vC (.int 0))) aNil)) (vapp m_is_rise (aCons (v2 vidx (vVar 0) (vC (.int 1))) aNil)))))))
def m_is_ramp : List PyData → R PyData := frz (runB 1 g_is_ramp)
theorem r_is_ramp (a0 : PyData) : m_is_ramp [a0] = fin (g_is_ramp [some (.fz a0)]) := frz_fin _ _ _
abbrev s_is_plain : Stmt := topS 25
abbrev N_is_plain : List Str := ["values"]
def g_is_plain : OEnv → SR := (sRet (oX (exF (vand (v2 veq (vapp vlen (aCons (vVar 0) aNil)) (vC (.int 1))) (vapp m_is_length (aCons (v2 vidx (vVar 0) (vC (.int 0))) aNil))))))
def m_is_plain : List PyData → R PyData := frz (runB 1 g_is_plain)
theorem r_is_plain (a0 : PyData) : m_is_plain [a0] = fin (g_is_plain [some (.fz a0)]) := frz_fin _ _ _
abbrev s_is_piece : Stmt := topS 26
abbrev N_is_piece : List Str := ["piece", "word"]
def g_is_piece : OEnv → SR := (seq (sIf (tB (tor (tnot (ttr (v1 (visi "tuple") (vVar 0)))) (tst (v2 veq (vapp vlen (aCons (vVar 0) aNil)) (vC (.int 0))))))
    (sRet (oX (exF (vC (.bool false)))))
    sNx)
    (seq (sSet 1 (oX (exF (v2 vidx (vVar 0) (vC (.int 0))))))
    (seq (sIf (tB (tst (v2 vInT (vVar 1) (vtup (aCons (vC (.str "straight")) (aCons (vC (.str "gap")) (aCons (vC (.str "stop")) aNil)))))))
    (sRet (oX (exF (vapp m_is_plain (aCons (vslice (vVar 0) (vpart (vC (.int 1))) vnopart) aNil)))))
    sNx)
    (seq (sIf (tB (tst (v2 veq (vVar 1) (vC (.str "curve")))))
    (sRet (oX (exF (vapp m_is_curve (aCons (vslice (vVar 0) (vpart (vC (.int 1))) vnopart) aNil)))))
    sNx)
    (seq (sIf (tB (tst (v2 veq (vVar 1) (vC (.str "points")))))
    (sRet (oX (exF (vapp m_is_points (aCons (vslice (vVar 0) (vpart (vC (.int 1))) vnopart) aNil)))))
    sNx)
    (seq (sIf (tB (tst (v2 veq (vVar 1) (vC (.str "cross")))))
    (sRet (oX (exF (vapp m_is_cross (aCons (vslice (vVar 0) (vpart (vC (.int 1))) vnopart) aNil)))))
    sNx)
    (sRet (oX (exF (vand (v2 veq (vVar 1) (vC (.str "ramp"))) (vapp m_is_ramp (aCons (vslice (vVar 0) (vpart (vC (.int 1))) vnopart) aNil))))))))))))
def m_is_piece : List PyData → R PyData := frz (runB 2 g_is_piece)
theorem r_is_piece (a0 : PyData) : m_is_piece [a0] = fin (g_is_piece [some (.fz a0), none]) := frz_fin _ _ _
abbrev s_check_piece : Stmt := topS 27
abbrev N_check_piece : List Str := ["piece"]
def g_check_piece : OEnv → SR := (sIf (tB (tnot (ttr (vapp m_is_piece (aCons (vVar 0) aNil)))))
    (sRaise "InvalidPiece")
    (pre (kill [0]) sNx))
def m_check_piece : List PyData → R PyData := frz (runB 1 g_check_piece)
theorem r_check_piece (a0 : PyData) : m_check_piece [a0] = fin (g_check_piece [some (.fz a0)]) := frz_fin _ _ _
abbrev s_end_count : Stmt := topS 28
abbrev N_end_count : List Str := ["piece"]
def g_end_count : OEnv → SR := (seq (sIf (tB (tst (v2 veq (v2 vidx (vVar 0) (vC (.int 0))) (vC (.str "stop")))))
    (sRet (oX (exF (vC (.int 1)))))
    sNx)
    (seq (sIf (tB (tst (v2 veq (v2 vidx (vVar 0) (vC (.int 0))) (vC (.str "points")))))
    (sRet (oX (exF (vC (.int 3)))))
    sNx)
    (seq (sIf (tB (tst (v2 veq (v2 vidx (vVar 0) (vC (.int 0))) (vC (.str "cross")))))
    (sRet (oX (exF (vC (.int 4)))))
    (pre (kill [0]) sNx))
    (sRet (oX (exF (vC (.int 2))))))))
def m_end_count : List PyData → R PyData := frz (runB 1 g_end_count)
theorem r_end_count (a0 : PyData) : m_end_count [a0] = fin (g_end_count [some (.fz a0)]) := frz_fin _ _ _
abbrev s_check_end : Stmt := topS 29
abbrev N_check_end : List Str := ["piece", "end"]
def g_check_end : OEnv → SR := (sIf (tB (tnot (tst (vchain vle vlt (vC (.int 0)) (vVar 1) (vapp m_end_count (aCons (vVar 0) aNil))))))
    (sRaise "NoSuchEnd")
    (pre (kill [0, 1]) sNx))
def m_check_end : List PyData → R PyData := frz (runB 2 g_check_end)
theorem r_check_end (a0 a1 : PyData) : m_check_end [a0, a1] = fin (g_check_end [some (.fz a0), some (.fz a1)]) := frz_fin _ _ _
abbrev s_curved_end : Stmt := topS 30
abbrev N_curved_end : List Str := ["radius", "side"]
def g_curved_end : OEnv → SR := (seq (sIf (tB (tst (v2 veq (vVar 1) (vC (.str "left")))))
    (sRet (oX (exF (vtup (aCons (vapp m_spot_sum (aCons (vapp m_ray (aCons (vVar 0) (aCons (vC (.int 2)) aNil))) (aCons (vapp m_ray (aCons (vVar 0) (aCons (vC (.int 7)) aNil))) aNil))) (aCons (vC (.int 1)) aNil))))))
    (pre (kill [1]) sNx))
    (sRet (oX (exF (vtup (aCons (vapp m_spot_sum (aCons (vapp m_ray (aCons (vVar 0) (aCons (vC (.int 6)) aNil))) (aCons (vapp m_ray (aCons (vVar 0) (aCons (vC (.int 1)) aNil))) aNil))) (aCons (vC (.int 7)) aNil)))))))
def m_curved_end : List PyData → R PyData := frz (runB 2 g_curved_end)
theorem r_curved_end (a0 a1 : PyData) : m_curved_end [a0, a1] = fin (g_curved_end [some (.fz a0), some (.fz a1)]) := frz_fin _ _ _
abbrev s_straight_end : Stmt := topS 31
abbrev N_straight_end : List Str := ["length"]
def g_straight_end : OEnv → SR := (sRet (oX (exF (vtup (aCons (vapp m_ray (aCons (vVar 0) (aCons (vC (.int 0)) aNil))) (aCons (vC (.int 0)) aNil))))))
def m_straight_end : List PyData → R PyData := frz (runB 1 g_straight_end)
theorem r_straight_end (a0 : PyData) : m_straight_end [a0] = fin (g_straight_end [some (.fz a0)]) := frz_fin _ _ _
abbrev s_cross_end : Stmt := topS 32
abbrev N_cross_end : List Str := ["length", "turn", "end", "half"]
def g_cross_end : OEnv → SR := (seq (sSet 3 (oX (exF (v2 vfdiv (vVar 0) (vC (.int 2))))))
    (seq (sIf (tB (tst (v2 veq (vVar 2) (vC (.int 2)))))
    (sRet (oX (exF (vtup (aCons (vapp m_spot_sum (aCons (vapp m_ray (aCons (vVar 3) (aCons (vC (.int 0)) aNil))) (aCons (vapp m_ray (aCons (vVar 3) (aCons (v2 vadd (vVar 1) (vC (.int 4))) aNil))) aNil))) (aCons (v2 vadd (vVar 1) (vC (.int 4))) aNil))))))
    (pre (kill [0, 2]) sNx))
    (sRet (oX (exF (vtup (aCons (vapp m_spot_sum (aCons (vapp m_ray (aCons (vVar 3) (aCons (vC (.int 0)) aNil))) (aCons (vapp m_ray (aCons (vVar 3) (aCons (vVar 1) aNil))) aNil))) (aCons (vVar 1) aNil))))))))
def m_cross_end : List PyData → R PyData := frz (runB 4 g_cross_end)
theorem r_cross_end (a0 a1 a2 : PyData) : m_cross_end [a0, a1, a2] = fin (g_cross_end [some (.fz a0), some (.fz a1), some (.fz a2), none]) := frz_fin _ _ _
abbrev s_end_pose : Stmt := topS 33
abbrev N_end_pose : List Str := ["piece", "end"]
def g_end_pose : OEnv → SR := (seq (sExpr (oX (exF (vapp m_check_end (aCons (vVar 0) (aCons (vVar 1) aNil))))))
    (seq (sIf (tB (tst (v2 veq (vVar 1) (vC (.int 0)))))
    (sRet (oX (exF (vC k_BACK_END))))
    sNx)
    (seq (sIf (tB (tst (v2 veq (v2 vidx (vVar 0) (vC (.int 0))) (vC (.str "curve")))))
    (sRet (oX (exF (vapp m_curved_end (aCons (v2 vidx (vVar 0) (vC (.int 1))) (aCons (v2 vidx (vVar 0) (vC (.int 2))) aNil))))))
    sNx)
    (seq (sIf (tB (tand (tst (v2 veq (v2 vidx (vVar 0) (vC (.int 0))) (vC (.str "points")))) (tst (v2 veq (vVar 1) (vC (.int 2))))))
    (sRet (oX (exF (vapp m_curved_end (aCons (v2 vidx (vVar 0) (vC (.int 2))) (aCons (v2 vidx (vVar 0) (vC (.int 3))) aNil))))))
    sNx)
    (seq (sIf (tB (tand (tst (v2 veq (v2 vidx (vVar 0) (vC (.int 0))) (vC (.str "cross")))) (tst (v2 vge (vVar 1) (vC (.int 2))))))
    (sRet (oX (exF (vapp m_cross_end (aCons (v2 vidx (vVar 0) (vC (.int 1))) (aCons (v2 vidx (vVar 0) (vC (.int 2))) (aCons (vVar 1) aNil)))))))
    (pre (kill [1]) sNx))
    (sRet (oX (exF (vapp m_straight_end (aCons (v2 vidx (vVar 0) (vC (.int 1))) aNil))))))))))
def m_end_pose : List PyData → R PyData := frz (runB 2 g_end_pose)
theorem r_end_pose (a0 a1 : PyData) : m_end_pose [a0, a1] = fin (g_end_pose [some (.fz a0), some (.fz a1)]) := frz_fin _ _ _
abbrev s_is_item : Stmt := topS 37
abbrev N_is_item : List Str := ["item"]
def g_is_item : OEnv → SR := (seq (sTryO (sExpr (oX (exF (vapp m_check_piece (aCons (vVar 0) aNil))))) tb_InvalidPiece (pre (kill [0]) (sRet (oX (exF (vC (.bool false)))))))
    (sRet (oX (exF (v2 vInT (v2 vidx (vVar 0) (vC (.int 0))) (vC k_ITEM_WORDS))))))
def m_is_item : List PyData → R PyData := frz (runB 1 g_is_item)
theorem r_is_item (a0 : PyData) : m_is_item [a0] = fin (g_is_item [some (.fz a0)]) := frz_fin _ _ _
abbrev s_circuit_sum : Stmt := topS 38
abbrev N_circuit_sum : List Str := ["items", "found", "item"]
def b_circuit_sum_1 : OEnv → SR := (sSet 1 (oX (exF (vapp m_pose_product (aCons (vVar 1) (aCons (vapp m_end_pose (aCons (vVar 2) (aCons (vC (.int 1)) aNil))) aNil))))))
def g_circuit_sum : OEnv → SR := (seq (sSet 1 (oX (exF (vC k_UNIT))))
    (seq (sForK (ixF (isq (vVar 0))) (kill [0]) (gN 2) (kill [2]) (b_circuit_sum_1))
    (pre (kill [2]) (sRet (oX (exF (vVar 1)))))))
def m_circuit_sum : List PyData → R PyData := frz (runB 3 g_circuit_sum)
theorem r_circuit_sum (a0 : PyData) : m_circuit_sum [a0] = fin (g_circuit_sum [some (.fz a0), none, none]) := frz_fin _ _ _
abbrev s_is_closed : Stmt := topS 39
abbrev N_is_closed : List Str := ["items"]
def g_is_closed : OEnv → SR := (sRet (oX (exF (vand (v2 vgt (vapp vlen (aCons (vVar 0) aNil)) (vC (.int 0))) (v2 veq (vapp m_circuit_sum (aCons (vVar 0) aNil)) (vC k_UNIT))))))
def m_is_closed : List PyData → R PyData := frz (runB 1 g_is_closed)
theorem r_is_closed (a0 : PyData) : m_is_closed [a0] = fin (g_is_closed [some (.fz a0)]) := frz_fin _ _ _
abbrev s_straight_lengths : Stmt := topS 40
abbrev N_straight_lengths : List Str := ["items", "item"]
def e_straight_lengths_1 : PEnv → R PyData := (v2 vidx (vVar 1) (vC (.int 1)))
def t_straight_lengths_1 : PEnv → R Bool := (tst (v2 veq (v2 vidx (vVar 1) (vC (.int 0))) (vC (.str "straight"))))
def g_straight_lengths : OEnv → SR := (sRet (oX (exF (vlistOf (fsort (vlistOf (vcomp [1] (isq (vVar 0)) (gN 1) (t_straight_lengths_1) (e_straight_lengths_1))))))))
def m_straight_lengths : List PyData → R PyData := frz (runB 2 g_straight_lengths)
theorem r_straight_lengths (a0 : PyData) : m_straight_lengths [a0] = fin (g_straight_lengths [some (.fz a0), none]) := frz_fin _ _ _
abbrev s_curved_items : Stmt := topS 41
abbrev N_curved_items : List Str := ["items", "item"]
def e_curved_items_1 : PEnv → R PyData := (vVar 1)
def t_curved_items_1 : PEnv → R Bool := (tst (v2 veq (v2 vidx (vVar 1) (vC (.int 0))) (vC (.str "curve"))))
def g_curved_items : OEnv → SR := (sRet (oX (exF (vlistOf (vcomp [1] (isq (vVar 0)) (gN 1) (t_curved_items_1) (e_curved_items_1))))))
def m_curved_items : List PyData → R PyData := frz (runB 2 g_curved_items)
theorem r_curved_items (a0 : PyData) : m_curved_items [a0] = fin (g_curved_items [some (.fz a0), none]) := frz_fin _ _ _
abbrev s_uses_up : Stmt := topS 42
abbrev N_uses_up : List Str := ["box", "items", "straights", "curves", "radius", "bent", "item"]
def e_uses_up_1 : PEnv → R PyData := (v2 veq (v2 vidx (vVar 6) (vC (.int 1))) (vVar 4))
def g_uses_up : OEnv → SR := (seq (sTup (gT (gC (gN 2) (gC (gN 3) (gC (gN 4) gE)))) (exF (vVar 0)))
    (seq (sSet 5 (oX (exF (vapp m_curved_items (aCons (vVar 1) aNil)))))
    (seq (sIf (tB (tor (tst (v2 vne (vapp vlen (aCons (vVar 5) aNil)) (vVar 3))) (tnot (ttr (vapp vall (aCons (vlistOf (vcomp [6] (isq (vVar 5)) (gN 6) tyes (e_uses_up_1))) aNil))))))
    (sRet (oX (exF (vC (.bool false)))))
    (pre (kill [0, 3, 4, 5]) sNx))
    (sRet (oX (exF (v2 veq (vapp m_straight_lengths (aCons (vVar 1) aNil)) (vlistOf (fsort (vVar 2))))))))))
def m_uses_up : List PyData → R PyData := frz (runB 7 g_uses_up)
theorem r_uses_up (a0 a1 : PyData) : m_uses_up [a0, a1] = fin (g_uses_up [some (.fz a0), some (.fz a1), none, none, none, none, none]) := frz_fin _ _ _
abbrev s_is_halved : Stmt := topS 43
abbrev N_is_halved : List Str := ["straights", "last", "total"]
def g_is_halved : OEnv → SR := (seq (sSet 2 (oX (exF (vapp vsum (aCons (vVar 0) aNil)))))
    (sRet (oX (exF (vand (v2 veq (v2 vmod (vVar 2) (vC (.int 2))) (vC (.int 0))) (v2 vInX (v2 vfdiv (vVar 2) (vC (.int 2))) (vVar 1)))))))
def m_is_halved : List PyData → R PyData := frz (runB 3 g_is_halved)
theorem r_is_halved (a0 a1 : PyData) : m_is_halved [a0, a1] = fin (g_is_halved [some (.fz a0), some (.fz a1), none]) := frz_fin _ _ _
abbrev s_is_round : Stmt := topS 44
abbrev N_is_round : List Str := ["box", "items", "item"]
def e_is_round_1 : PEnv → R PyData := (vapp m_is_item (aCons (vVar 2) aNil))
def e_is_round_2 : PEnv → R PyData := (v2 veq (v2 vidx (vVar 2) (vC (.int 2))) (vC (.str "left")))
def g_is_round : OEnv → SR := (seq (sIf (tB (tnot (ttr (vapp vall (aCons (vlistOf (vcomp [2] (isq (vVar 1)) (gN 2) tyes (e_is_round_1))) aNil)))))
    (sRet (oX (exF (vC (.bool false)))))
    sNx)
    (seq (sIf (tB (tnot (ttr (vapp vall (aCons (vlistOf (vcomp [2] (isq (vapp m_curved_items (aCons (vVar 1) aNil))) (gN 2) tyes (e_is_round_2))) aNil)))))
    (sRet (oX (exF (vC (.bool false)))))
    sNx)
    (sRet (oX (exF (vand (vapp m_uses_up (aCons (vVar 0) (aCons (vVar 1) aNil))) (vapp m_is_closed (aCons (vVar 1) aNil))))))))
def m_is_round : List PyData → R PyData := frz (runB 3 g_is_round)
theorem r_is_round (a0 a1 : PyData) : m_is_round [a0, a1] = fin (g_is_round [some (.fz a0), some (.fz a1), none]) := frz_fin _ _ _
abbrev s_carries_on : Stmt := topS 45
abbrev N_carries_on : List Str := ["sums", "after", "length", "known", "value"]
def e_carries_on_1 : PEnv → R PyData := (vand (v2 vInS (vVar 4) (vVar 3)) (v2 vInS (v2 vadd (vVar 4) (vVar 2)) (vVar 3)))
def g_carries_on : OEnv → SR := (seq (sSet 3 (oX (exF (vapp vset1 (aCons (vVar 1) aNil)))))
    (sRet (oX (exF (vapp vall (aCons (vlistOf (vcomp [4] (isq (vVar 0)) (gN 4) tyes (e_carries_on_1))) aNil))))))
def m_carries_on : List PyData → R PyData := frz (runB 5 g_carries_on)
theorem r_carries_on (a0 a1 a2 : PyData) : m_carries_on [a0, a1, a2] = fin (g_carries_on [some (.fz a0), some (.fz a1), some (.fz a2), none, none]) := frz_fin _ _ _
abbrev s_carries_all : Stmt := topS 46
abbrev N_carries_all : List Str := ["straights", "sums", "k", "length"]
def e_carries_all_1 : PEnv → R PyData := (vapp m_carries_on (aCons (v2 vix (vVar 1) (vVar 2)) (aCons (v2 vix (vVar 1) (v2 vadd (vVar 2) (vC (.int 1)))) (aCons (vVar 3) aNil))))
def g_carries_all : OEnv → SR := (seq (sIf (tB (tor (tst (v2 vne (vapp vlen (aCons (vVar 1) aNil)) (v2 vadd (vapp vlen (aCons (vVar 0) aNil)) (vC (.int 1))))) (tst (v2 vNotInX (vC (.int 0)) (v2 vidx (vVar 1) (vC (.int 0)))))))
    (sRet (oX (exF (vC (.bool false)))))
    sNx)
    (sRet (oX (exF (vapp vall (aCons (vlistOf (vcomp [2, 3] (i1 venum (vVar 0)) (gT (gC (gN 2) (gC (gN 3) gE))) tyes (e_carries_all_1))) aNil))))))
def m_carries_all : List PyData → R PyData := frz (runB 4 g_carries_all)
theorem r_carries_all (a0 a1 : PyData) : m_carries_all [a0, a1] = fin (g_carries_all [some (.fz a0), some (.fz a1), none, none]) := frz_fin _ _ _
abbrev s_shows_unequal : Stmt := topS 47
abbrev N_shows_unequal : List Str := ["straights", "sums"]
def g_shows_unequal : OEnv → SR := (sRet (oX (exF (vand (vapp m_carries_all (aCons (vVar 0) (aCons (vVar 1) aNil))) (vnot (vapp m_is_halved (aCons (vVar 0) (aCons (v2 vix (vVar 1) (v1 vneg (vC (.int 1)))) aNil))))))))
def m_shows_unequal : List PyData → R PyData := frz (runB 2 g_shows_unequal)
theorem r_shows_unequal (a0 a1 : PyData) : m_shows_unequal [a0, a1] = fin (g_shows_unequal [some (.fz a0), some (.fz a1)]) := frz_fin _ _ _
abbrev s_judge_round : Stmt := topS 48
abbrev N_judge_round : List Str := ["box", "verdict", "word", "paper"]
def g_judge_round : OEnv → SR := (seq (sTup (gT (gC (gN 2) (gC (gN 3) gE))) (exF (vVar 1)))
    (seq (sIf (tB (tst (v2 vne (v2 vidx (vVar 0) (vC (.int 1))) (vC k_ROUND_CURVES))))
    (sRet (oX (exF (vC (.bool false)))))
    (pre (kill [1]) sNx))
    (seq (sIf (tB (tst (v2 veq (vVar 2) (vC (.str "round")))))
    (sRet (oX (exF (vapp m_is_round (aCons (vVar 0) (aCons (vVar 3) aNil))))))
    sNx)
    (sRet (oX (exF (vand (v2 veq (vVar 2) (vC (.str "unequal"))) (vapp m_shows_unequal (aCons (v2 vidx (vVar 0) (vC (.int 0))) (aCons (vVar 3) aNil))))))))))
def m_judge_round : List PyData → R PyData := frz (runB 4 g_judge_round)
theorem r_judge_round (a0 a1 : PyData) : m_judge_round [a0, a1] = fin (g_judge_round [some (.fz a0), some (.fz a1), none, none]) := frz_fin _ _ _
abbrev s_law_cell : Stmt := topS 50
abbrev N_law_cell : List Str := ["script", "k"]
def g_law_cell : OEnv → SR := (seq (sIf (tB (tst (v2 vlt (vVar 1) (vapp vlen (aCons (vVar 0) aNil)))))
    (sRet (oX (exF (vapp vint1 (aCons (v2 vix (vVar 0) (vVar 1)) aNil)))))
    (pre (kill [0, 1]) sNx))
    (sRet (oX (exF (vC (.int 0))))))
def m_law_cell : List PyData → R PyData := frz (runB 2 g_law_cell)
theorem r_law_cell (a0 a1 : PyData) : m_law_cell [a0, a1] = fin (g_law_cell [some (.fz a0), some (.fz a1)]) := frz_fin _ _ _
abbrev s_law_numbers : Stmt := topS 51
abbrev N_law_numbers : List Str := ["cell", "count", "limit", "found", "k", "mixed"]
def b_law_numbers_1 : OEnv → SR := (seq (sApp 3 (oX (exF (v2 vmod (vapp vint1 (aCons (vVar 0) aNil)) (vVar 2)))))
    (sSet 0 (oX (exF (v2 vfdiv (vapp vint1 (aCons (vVar 0) aNil)) (vVar 2))))))
def b_law_numbers_2 : OEnv → SR := (seq (sSet 5 (oX (exF (v2 vmod (vapp vint1 (aCons (v2 vadd (v2 vadd (v2 vmul (vVar 0) (vC (.int 48271))) (v2 vmul (vVar 4) (vC (.int 69621)))) (vC (.int 7))) aNil)) (vC (.int 2147483647))))))
    (seq (sSet 5 (oX (exF (v2 vmod (vapp vint1 (aCons (v2 vadd (v2 vadd (v2 vadd (v2 vmul (vVar 5) (vVar 5)) (v2 vmul (vVar 5) (vC (.int 40692)))) (v2 vmul (vVar 4) (vC (.int 16807)))) (vC (.int 11))) aNil)) (vC (.int 2147483399))))))
    (sApp 3 (oX (exF (v2 vmod (vapp vint1 (aCons (v2 vfdiv (vVar 5) (vC (.int 32))) aNil)) (vVar 2)))))))
def g_law_numbers : OEnv → SR := (seq (sSet 3 (oFrF aNil))
    (seq (sIf (tB (tst (v2 vge (vVar 0) (v2 vpow (vC (.int 10)) (vC (.int 18))))))
    (seq (sForK (x1 vrange1 (exF (vVar 1))) (kill [1]) (gN 4) (kill [4]) (b_law_numbers_1))
    (pre (kill [0, 2, 4]) (pre (freeze [3]) (sRet (oX (exF (vVar 3)))))))
    sNx)
    (seq (sForK (x1 vrange1 (exF (vVar 1))) (kill [1]) (gN 4) (kill [4, 5]) (b_law_numbers_2))
    (pre (kill [0, 2, 4, 5]) (pre (freeze [3]) (sRet (oX (exF (vVar 3)))))))))
def m_law_numbers : List PyData → R PyData := frz (runB 6 g_law_numbers)
theorem r_law_numbers (a0 a1 a2 : PyData) : m_law_numbers [a0, a1, a2] = fin (g_law_numbers [some (.fz a0), some (.fz a1), some (.fz a2), none, none, none]) := frz_fin _ _ _
abbrev s_law_size : Stmt := topS 52
abbrev N_law_size : List Str := ["number", "kind", "rest"]
def g_law_size : OEnv → SR := (seq (sSet 1 (oX (exF (v2 vmod (vapp vint1 (aCons (vVar 0) aNil)) (vC (.int 4))))))
    (seq (sSet 2 (oX (exF (v2 vfdiv (vapp vint1 (aCons (vVar 0) aNil)) (vC (.int 4))))))
    (seq (sIf (tB (tst (v2 veq (vVar 1) (vC (.int 0)))))
    (sRet (oX (exF (v2 vadd (vC (.int 1)) (v2 vmod (vVar 2) (vC (.int 3)))))))
    (pre (kill [0]) sNx))
    (seq (sIf (tB (tst (v2 veq (vVar 1) (vC (.int 1)))))
    (sRet (oX (exF (v2 vadd (vC (.int 1)) (v2 vmod (vVar 2) (vC (.int 12)))))))
    sNx)
    (seq (sIf (tB (tst (v2 veq (vVar 1) (vC (.int 2)))))
    (sRet (oX (exF (v2 vsub (vC (.int 9999)) (v2 vmod (vVar 2) (vC (.int 3)))))))
    (pre (kill [1]) sNx))
    (sRet (oX (exF (v2 vadd (vC (.int 1)) (v2 vmod (vVar 2) (vC (.int 9999))))))))))))
def m_law_size : List PyData → R PyData := frz (runB 3 g_law_size)
theorem r_law_size (a0 : PyData) : m_law_size [a0] = fin (g_law_size [some (.fz a0), none, none]) := frz_fin _ _ _
abbrev s_law_straights : Stmt := topS 53
abbrev N_law_straights : List Str := ["cell", "other", "most", "draws", "count", "sizes", "kind", "found", "size", "total", "number"]
def e_law_straights_1 : PEnv → R PyData := (vapp m_law_size (aCons (vVar 10) aNil))
def e_law_straights_2 : PEnv → R PyData := (v2 vadd (vC (.int 1)) (vVar 10))
def b_law_straights_3 : OEnv → SR := (seq (sInsP (pVar 7) (exB (v2 vmod (v2 vidx (vVar 3) (vC (.int 3))) (v2 vadd (vapp vlen (aCons (vVar 7) aNil)) (vC (.int 1))))) (nX (exF (vVar 8))))
    (sApp 7 (oX (exF (vVar 8)))))
def b_law_straights_4 : OEnv → SR := (sIf (tB (tst (v2 vgt (vVar 9) (vC (.int 0)))))
    (seq (sSet 9 (oX (exF (v2 vsub (vVar 9) (vVar 8)))))
    (pre (kill [8]) sNx))
    (seq (sSet 9 (oX (exF (v2 vadd (vVar 9) (vVar 8)))))
    (pre (kill [8]) sNx)))
def g_law_straights : OEnv → SR := (seq (sSet 3 (oX (exF (vapp m_law_numbers (aCons (vVar 0) (aCons (vC (.int 6)) (aCons (vC (.int 5040)) aNil)))))))
    (seq (sSet 4 (oX (exF (v2 vmod (v2 vidx (vVar 3) (vC (.int 0))) (v2 vadd (vVar 2) (vC (.int 1)))))))
    (seq (sSet 5 (oFrF (vcomp [10] (isq (vapp m_law_numbers (aCons (vVar 1) (aCons (vVar 4) (aCons (vC (.int 39996)) aNil))))) (gN 10) tyes (e_law_straights_1))))
    (seq (sSet 6 (oX (exF (v2 vmod (v2 vidx (vVar 3) (vC (.int 1))) (vC (.int 4))))))
    (seq (sIf (tB (tst (v2 veq (vVar 6) (vC (.int 0)))))
    (pre (freeze [5]) (sRet (oX (exF (vlistOf (vcomp [10] (isq (vapp m_law_numbers (aCons (vVar 1) (aCons (vVar 4) (aCons (v2 vadd (vC (.int 1)) (v2 vmod (v2 vidx (vVar 3) (vC (.int 2))) (vC (.int 9)))) aNil))))) (gN 10) tyes (e_law_straights_2)))))))
    (pre (kill [0, 1]) sNx))
    (seq (sIf (tB (tst (v2 veq (vVar 6) (vC (.int 1)))))
    (pre (freeze [5]) (seq (sSet 7 (oFrF aNil))
    (pre (kill [4, 6]) (seq (sForK (ixF (isq (vslice (vVar 5) vnopart (vpart (v2 vfdiv (vVar 2) (vC (.int 2))))))) (kill [2, 5]) (gN 8) (kill [8]) (b_law_straights_3))
    (pre (kill [3, 8]) (pre (freeze [7]) (sRet (oX (exF (vVar 7))))))))))
    (pre (kill [2]) sNx))
    (seq (sIf (tB (tand (tst (v2 veq (vVar 6) (vC (.int 2)))) (tst (v2 vgt (vVar 4) (vC (.int 0))))))
    (seq (sExpr (oPop 5))
    (seq (sSet 9 (oX (exF (vC (.int 0)))))
    (pre (kill [6]) (seq (sForO 5 (kill []) (gN 8) (kill [8]) (b_law_straights_4))
    (sIf (tB (tst (v2 vne (vVar 9) (vC (.int 0)))))
    (seq (sInsP (pVar 5) (exF (v2 vmod (v2 vidx (vVar 3) (vC (.int 3))) (vVar 4))) (nX (exF (vapp vabs (aCons (vVar 9) aNil)))))
    (pre (freeze [5]) (pre (kill [3, 4, 9]) sNx)))
    (pre (freeze [5]) (pre (kill [3, 4, 9]) sNx)))))))
    (pre (freeze [5]) (pre (kill [3, 4, 6]) sNx)))
    (sRet (oX (exF (vVar 5)))))))))))
def m_law_straights : List PyData → R PyData := frz (runB 11 g_law_straights)
theorem r_law_straights (a0 a1 a2 : PyData) : m_law_straights [a0, a1, a2] = fin (g_law_straights [some (.fz a0), some (.fz a1), some (.fz a2), none, none, none, none, none, none, none, none]) := frz_fin _ _ _
abbrev s_law_sums : Stmt := topS 54
abbrev N_law_sums : List Str := ["straights", "found", "length", "known", "value"]
def b_law_sums_1 : OEnv → SR := (seq (sSetX csK (pVar 3) (exF (vVar 4)) (oX (exF (vC (.bool true)))))
    (sSetX csK (pVar 3) (exF (v2 vadd (vVar 4) (vVar 2))) (oX (exF (vC (.bool true))))))
def b_law_sums_2 : OEnv → SR := (seq (sSet 3 (oDctL 203 false))
    (pre (kill [0]) (seq (sFor (x1 seqD (exP (pIdx (pVar 1) (exB (v2 vsub (vapp vlen (aCons (vVar 1) aNil)) (vC (.int 1))))))) (gN 4) (kill [4]) (b_law_sums_1))
    (pre (kill [2, 4]) (pre (freeze [3]) (sApp 1 (oX (exF (vlistOf (fsort (vlistOf (fkeys (vVar 3)))))))))))))
def g_law_sums : OEnv → SR := (seq (sSet 1 (oFrF (aCons (vlistOf (aCons (vC (.int 0)) aNil)) aNil)))
    (seq (sForK (ixF (isq (vVar 0))) (kill [0]) (gN 2) (kill [2, 3, 4]) (b_law_sums_2))
    (pre (kill [3]) (pre (freeze [1]) (sRet (oX (exF (vVar 1))))))))
def m_law_sums : List PyData → R PyData := frz (runB 5 g_law_sums)
theorem r_law_sums (a0 : PyData) : m_law_sums [a0] = fin (g_law_sums [some (.fz a0), none, none, none, none]) := frz_fin _ _ _
abbrev s_law_accepted : Stmt := topS 55
abbrev N_law_accepted : List Str := ["box", "sums", "lengths", "k", "known", "value", "total"]
def b_law_accepted_1 : OEnv → SR := (sSetX csK (pVar 4) (exF (vVar 5)) (oX (exF (vC (.bool true)))))
def b_law_accepted_2 : OEnv → SR := (sIf (tB (tor (tst (v2 vNotInX (vVar 5) (vVar 4))) (tst (v2 vNotInX (v2 vadd (vVar 5) (v2 vix (vVar 2) (vVar 3))) (vVar 4)))))
    (sRet (oX (exF (vC (.bool false)))))
    (pre (kill [5]) sNx))
def b_law_accepted_3 : OEnv → SR := (seq (sSet 4 (oDctL 214 false))
    (seq (sFor (ixF (isq (v2 vix (vVar 1) (v2 vadd (vVar 3) (vC (.int 1)))))) (gN 5) (kill [5]) (b_law_accepted_1))
    (pre (kill [5]) (pre (freeze [4]) (sFor (ixF (isq (v2 vix (vVar 1) (vVar 3)))) (gN 5) (kill [5]) (b_law_accepted_2))))))
def g_law_accepted : OEnv → SR := (seq (sSet 2 (oX (exF (v2 vidx (vVar 0) (vC (.int 0))))))
    (seq (sIf (tB (tor (tst (v2 vne (v2 vidx (vVar 0) (vC (.int 1))) (vC (.int 8)))) (tor (tst (v2 vne (vapp vlen (aCons (vVar 1) aNil)) (v2 vadd (vapp vlen (aCons (vVar 2) aNil)) (vC (.int 1))))) (tst (v2 vNotInX (vC (.int 0)) (v2 vidx (vVar 1) (vC (.int 0))))))))
    (sRet (oX (exF (vC (.bool false)))))
    (pre (kill [0]) sNx))
    (seq (sFor (x1 vrange1 (exF (vapp vlen (aCons (vVar 2) aNil)))) (gN 3) (kill [3, 4, 5]) (b_law_accepted_3))
    (pre (kill [3, 4]) (seq (sSet 6 (oX (exF (vapp vsum (aCons (vVar 2) aNil)))))
    (sRet (oX (exF (vor (v2 veq (v2 vmod (vVar 6) (vC (.int 2))) (vC (.int 1))) (v2 vNotInX (v2 vfdiv (vVar 6) (vC (.int 2))) (v2 vix (vVar 1) (vapp vlen (aCons (vVar 2) aNil)))))))))))))
def m_law_accepted : List PyData → R PyData := frz (runB 7 g_law_accepted)
theorem r_law_accepted (a0 a1 : PyData) : m_law_accepted [a0, a1] = fin (g_law_accepted [some (.fz a0), some (.fz a1), none, none, none, none, none]) := frz_fin _ _ _
abbrev s_law_carried : Stmt := topS 56
abbrev N_law_carried : List Str := ["lengths", "sums", "at", "number", "found", "rest", "k", "row", "value"]
def e_law_carried_1 : PEnv → R PyData := (vlistOf (isq (vVar 7)))
def e_law_carried_2 : PEnv → R PyData := (v2 vadd (vVar 8) (v2 vix (vVar 0) (vVar 6)))
def b_law_carried_3 : OEnv → SR := (seq (sSetX csK (pVar 4) (exF (vVar 6)) (oX (x2v vadd (exP (pIdx (pVar 4) (exF (vVar 6)))) (exF (vVar 5)))))
    (sIf (tB (tst (v2 vlt (vVar 6) (vapp vlen (aCons (vVar 0) aNil)))))
    (seq (sSet 5 (oX (exF (v2 vadd (vVar 5) (vlistOf (vcomp [8] (isq (vVar 5)) (gN 8) tyes (e_law_carried_2)))))))
    (pre (kill [1, 2, 6]) sNx))
    (pre (kill [1, 2, 6]) sNx)))
def g_law_carried : OEnv → SR := (seq (sSet 4 (oFrF (vcomp [7] (isq (vVar 1)) (gN 7) tyes (e_law_carried_1))))
    (seq (sSet 5 (oX (exF (vlistOf (aCons (vVar 3) aNil)))))
    (pre (kill [3]) (seq (sForK (x2 vrange2 (exF (vVar 2)) (exF (vapp vlen (aCons (vVar 1) aNil)))) (kill [1, 2]) (gN 6) (kill [6]) (b_law_carried_3))
    (pre (kill [0, 5]) (pre (freeze [4]) (sRet (oX (exF (vVar 4))))))))))
def m_law_carried : List PyData → R PyData := frz (runB 9 g_law_carried)
theorem r_law_carried (a0 a1 a2 a3 : PyData) : m_law_carried [a0, a1, a2, a3] = fin (g_law_carried [some (.fz a0), some (.fz a1), some (.fz a2), some (.fz a3), none, none, none, none, none]) := frz_fin _ _ _
abbrev s_law_with : Stmt := topS 57
abbrev N_law_with : List Str := ["sums", "at", "row", "one"]
def e_law_with_1 : PEnv → R PyData := (vlistOf (isq (vVar 3)))
def e_law_with_2 : PEnv → R PyData := (vlistOf (isq (vVar 3)))
def g_law_with : OEnv → SR := (sRet (oX (exF (v2 vadd (v2 vadd (vlistOf (vcomp [3] (isq (vslice (vVar 0) vnopart (vpart (vVar 1)))) (gN 3) tyes (e_law_with_1))) (vlistOf (aCons (vlistOf (isq (vVar 2))) aNil))) (vlistOf (vcomp [3] (isq (vslice (vVar 0) (vpart (v2 vadd (vVar 1) (vC (.int 1)))) vnopart)) (gN 3) tyes (e_law_with_2)))))))
def m_law_with : List PyData → R PyData := frz (runB 4 g_law_with)
theorem r_law_with (a0 a1 a2 : PyData) : m_law_with [a0, a1, a2] = fin (g_law_with [some (.fz a0), some (.fz a1), some (.fz a2), none]) := frz_fin _ _ _
abbrev s_law_variants : Stmt := topS 58
abbrev N_law_variants : List Str := ["lengths", "sums", "draws", "at", "row", "spot", "half", "far", "found", "last", "one", "value"]
def e_law_variants_1 : PEnv → R PyData := (v2 vadd (vVar 10) (vslice (vVar 10) vnopart (vpart (vC (.int 1)))))
def e_law_variants_2 : PEnv → R PyData := (vlistOf (frev (vVar 10)))
def e_law_variants_3 : PEnv → R PyData := (vVar 11)
def t_law_variants_3 : PEnv → R Bool := (tst (v2 vne (vVar 11) (vVar 6)))
def g_law_variants : OEnv → SR := (seq (sSet 3 (oX (exF (v2 vmod (v2 vidx (vVar 2) (vC (.int 0))) (vapp vlen (aCons (vVar 1) aNil))))))
    (seq (sSet 4 (oX (exF (v2 vix (vVar 1) (vVar 3)))))
    (seq (sSet 5 (oX (exF (v2 vmod (v2 vidx (vVar 2) (vC (.int 1))) (vapp vlen (aCons (vVar 4) aNil))))))
    (seq (sSet 6 (oX (exF (v2 vfdiv (vapp vsum (aCons (vVar 0) aNil)) (vC (.int 2))))))
    (seq (sSet 7 (oX (exF (v2 vadd (v2 vsub (v2 vmod (v2 vidx (vVar 2) (vC (.int 2))) (vC (.int 5))) (vC (.int 2))) (v2 vmul (vVar 6) (v2 vmod (v2 vidx (vVar 2) (vC (.int 3))) (vC (.int 2))))))))
    (seq (sSet 8 (oFrF (aCons (vVar 1) (aCons (vlistOf (vcomp [10] (isq (vVar 1)) (gN 10) tyes (e_law_variants_2))) (aCons (vlistOf (vcomp [10] (isq (vVar 1)) (gN 10) tyes (e_law_variants_1))) aNil)))))
    (seq (sApp 8 (oX (exF (vapp m_law_carried (aCons (vVar 0) (aCons (vVar 1) (aCons (vVar 3) (aCons (vVar 7) aNil))))))))
    (seq (sApp 8 (oX (exF (vapp m_law_carried (aCons (vVar 0) (aCons (vVar 1) (aCons (vC (.int 0)) (aCons (v2 vsub (v2 vidx (vVar 2) (vC (.int 2))) (vC (.int 20000))) aNil))))))))
    (seq (sApp 8 (oX (exF (vapp m_law_with (aCons (vVar 1) (aCons (vVar 3) (aCons (v2 vadd (vVar 4) (vlistOf (aCons (vVar 7) aNil))) aNil)))))))
    (seq (sApp 8 (oX (exF (vapp m_law_with (aCons (vVar 1) (aCons (vVar 3) (aCons (v2 vadd (vslice (vVar 4) vnopart (vpart (vVar 5))) (vslice (vVar 4) (vpart (v2 vadd (vVar 5) (vC (.int 1)))) vnopart)) aNil)))))))
    (seq (sApp 8 (oX (exF (vapp m_law_with (aCons (vVar 1) (aCons (vVar 3) (aCons (v2 vadd (v2 vadd (vslice (vVar 4) vnopart (vpart (vVar 5))) (vlistOf (aCons (v2 vadd (v2 vix (vVar 4) (vVar 5)) (vC (.int 1))) aNil))) (vslice (vVar 4) (vpart (v2 vadd (vVar 5) (vC (.int 1)))) vnopart)) aNil)))))))
    (seq (sApp 8 (oX (exF (vapp m_law_with (aCons (vVar 1) (aCons (vVar 3) (aCons (vlistOf aNil) aNil)))))))
    (seq (sSet 9 (oX (exF (v2 vsub (vapp vlen (aCons (vVar 1) aNil)) (vC (.int 1))))))
    (seq (sApp 8 (oX (exF (vapp m_law_with (aCons (vVar 1) (aCons (vVar 9) (aCons (v2 vadd (v2 vix (vVar 1) (vVar 9)) (vlistOf (aCons (vVar 6) aNil))) aNil)))))))
    (seq (sApp 8 (oX (exF (vapp m_law_with (aCons (vVar 1) (aCons (vVar 9) (aCons (vlistOf (vcomp [11] (isq (v2 vix (vVar 1) (vVar 9))) (gN 11) (t_law_variants_3) (e_law_variants_3))) aNil)))))))
    (seq (sApp 8 (oX (exF (vapp m_law_with (aCons (vVar 1) (aCons (vVar 9) (aCons (vlistOf (i1 vrange1 (v2 vadd (v2 vmod (vapp vsum (aCons (vVar 0) aNil)) (vC (.int 300))) (vC (.int 1))))) aNil)))))))
    (seq (sApp 8 (oX (exF (vapp m_law_with (aCons (vVar 1) (aCons (vC (.int 0)) (aCons (vlistOf (aCons (vC (.int 1)) aNil)) aNil)))))))
    (pre (freeze [8]) (seq (sSet 8 (oX (exF (v2 vadd (vVar 8) (vlistOf (aCons (vslice (vVar 1) vnopart (vpart (v1 vneg (vC (.int 1))))) (aCons (vslice (vVar 1) (vpart (vC (.int 1))) vnopart) (aCons (v2 vadd (vlistOf (aCons (vlistOf (aCons (vC (.int 0)) aNil)) aNil)) (vVar 1)) (aCons (v2 vadd (vVar 1) (vlistOf (aCons (v2 vix (vVar 1) (vVar 9)) aNil))) (aCons (v2 vadd (vVar 1) (vlistOf (aCons (vlistOf aNil) aNil))) (aCons (vlistOf aNil) aNil)))))))))))
    (sRet (oX (exF (vVar 8)))))))))))))))))))))))
def m_law_variants : List PyData → R PyData := frz (runB 12 g_law_variants)
theorem r_law_variants (a0 a1 a2 : PyData) : m_law_variants [a0, a1, a2] = fin (g_law_variants [some (.fz a0), some (.fz a1), some (.fz a2), none, none, none, none, none, none, none, none, none]) := frz_fin _ _ _
abbrev s_law : Stmt := topS 59
abbrev N_law : List Str := ["script", "draws", "lengths", "radius", "sums", "right", "boxes", "paper", "straights", "curves", "passed", "handed", "told", "word", "row"]
def e_law_1 : PEnv → R PyData := (vlistOf (isq (vVar 14)))
def e_law_2 : PEnv → R PyData := (vlistOf (isq (vVar 14)))
def b_law_3 : OEnv → SR := (seq (sSet 10 (oX (exF (vlistOf (isq (vVar 8))))))
    (seq (sSet 11 (oX (exF (vlistOf (vcomp [14] (isq (vVar 7)) (gN 14) tyes (e_law_2))))))
    (seq (sSet 12 (oX (exF (vapp m_judge_round (aCons (vtup (aCons (vVar 10) (aCons (vVar 9) (aCons (vVar 3) aNil)))) (aCons (vtup (aCons (vC (.str "unequal")) (aCons (vVar 11) aNil))) aNil))))))
    (seq (sIf (tB (tor (tnot (ttr (v1 (visi "bool") (vVar 12)))) (tst (v2 vne (vVar 12) (vapp m_law_accepted (aCons (vtup (aCons (vVar 8) (aCons (vVar 9) aNil))) (aCons (vVar 7) aNil)))))))
    (sRet (oX (exF (vC (.bool false)))))
    (pre (kill [9, 12]) sNx))
    (sIf (tB (tor (tst (v2 vne (vVar 10) (vVar 8))) (tst (v2 vne (vVar 11) (vVar 7)))))
    (sRet (oX (exF (vC (.bool false)))))
    (pre (kill [8, 10, 11]) sNx))))))
def b_law_4 : OEnv → SR := (pre (kill [1, 4]) (sFor (ixF (isq (vVar 6))) (gT (gC (gN 8) (gC (gN 9) gE))) (kill [8, 9, 10, 11, 12]) (b_law_3)))
def b_law_5 : OEnv → SR := (sIf (tB (tst (v2 visn (vapp m_judge_round (aCons (vtup (aCons (vlistOf (isq (vVar 2))) (aCons (vC (.int 8)) (aCons (vVar 3) aNil)))) (aCons (vtup (aCons (vVar 13) (aCons (vVar 5) aNil))) aNil))) (vC (.bool false)))))
    (sRet (oX (exF (vC (.bool false)))))
    (pre (kill [13]) sNx))
def g_law : OEnv → SR := (seq (sSet 1 (oX (exF (vapp m_law_numbers (aCons (vapp m_law_cell (aCons (vVar 0) (aCons (vC (.int 2)) aNil))) (aCons (vC (.int 8)) (aCons (vC (.int 39996)) aNil)))))))
    (seq (sSet 2 (oX (exF (vapp m_law_straights (aCons (vapp m_law_cell (aCons (vVar 0) (aCons (vC (.int 0)) aNil))) (aCons (vapp m_law_cell (aCons (vVar 0) (aCons (vC (.int 1)) aNil))) (aCons (vC (.int 6)) aNil)))))))
    (seq (sSet 3 (oX (exF (vapp m_law_size (aCons (v2 vidx (vVar 1) (vC (.int 4))) aNil)))))
    (seq (sSet 4 (oX (exF (vapp m_law_sums (aCons (vVar 2) aNil)))))
    (seq (sSet 5 (oX (exF (vlistOf (vcomp [14] (isq (vVar 4)) (gN 14) tyes (e_law_1))))))
    (seq (sIf (tB (tand (ttr (vapp m_law_accepted (aCons (vtup (aCons (vVar 2) (aCons (vC (.int 8)) aNil))) (aCons (vVar 4) aNil)))) (tst (v2 visn (vapp m_judge_round (aCons (vtup (aCons (vlistOf (isq (vVar 2))) (aCons (vC (.int 8)) (aCons (vVar 3) aNil)))) (aCons (vtup (aCons (vC (.str "unequal")) (aCons (vVar 5) aNil))) aNil))) (vC (.bool true))))))
    (sRet (oX (exF (vC (.bool false)))))
    (pre (kill [0]) sNx))
    (seq (sSet 6 (oX (exF (vlistOf (aCons (vtup (aCons (vVar 2) (aCons (vC (.int 8)) aNil))) (aCons (vtup (aCons (vVar 2) (aCons (v2 vmod (v2 vidx (vVar 1) (vC (.int 5))) (vC (.int 31))) aNil))) (aCons (vtup (aCons (vVar 2) (aCons (vC (.int 9)) aNil))) (aCons (vtup (aCons (vlistOf (frev (vVar 2))) (aCons (vC (.int 8)) aNil))) (aCons (vtup (aCons (v2 vadd (vVar 2) (vlistOf (aCons (vC (.int 1)) aNil))) (aCons (vC (.int 8)) aNil))) aNil)))))))))
    (seq (sForK (ixF (isq (vapp m_law_variants (aCons (vVar 2) (aCons (vVar 4) (aCons (vVar 1) aNil)))))) (kill [1, 4]) (gN 7) (kill [7, 8, 9, 10, 11, 12]) (b_law_4))
    (pre (kill [6, 7]) (seq (sFor (ixF (isq (vlistOf (aCons (vC (.str "none")) (aCons (vC (.str "Unequal")) (aCons (vC (.str "equal")) (aCons (vC (.str "")) aNil))))))) (gN 13) (kill [13]) (b_law_5))
    (pre (kill [2, 3, 5]) (sRet (oX (exF (vC (.bool true))))))))))))))))
def m_law : List PyData → R PyData := frz (runB 15 g_law)
theorem r_law (a0 : PyData) : m_law [a0] = fin (g_law [some (.fz a0), none, none, none, none, none, none, none, none, none, none, none, none, none, none]) := frz_fin _ _ _
end
structure Txt (K : PySem.W.Frag) (mg : Str → Option Value) where
  f_spot_sum : Addr
  d_spot_sum : FuncData
  F_spot_sum : Fun K "spot_sum" "spot_sum" s_spot_sum f_spot_sum d_spot_sum
  g_spot_sum : mg "spot_sum" = some (.ref f_spot_sum)
  B_spot_sum : Binds K d_spot_sum ["one", "other"] []
  f_eighth_turned : Addr
  d_eighth_turned : FuncData
  F_eighth_turned : Fun K "eighth_turned" "eighth_turned" s_eighth_turned f_eighth_turned d_eighth_turned
  g_eighth_turned : mg "eighth_turned" = some (.ref f_eighth_turned)
  B_eighth_turned : Binds K d_eighth_turned ["spot"] []
  f_spot_turned : Addr
  d_spot_turned : FuncData
  F_spot_turned : Fun K "spot_turned" "spot_turned" s_spot_turned f_spot_turned d_spot_turned
  g_spot_turned : mg "spot_turned" = some (.ref f_spot_turned)
  B_spot_turned : Binds K d_spot_turned ["spot", "direction"] []
  f_ray : Addr
  d_ray : FuncData
  F_ray : Fun K "ray" "ray" s_ray f_ray d_ray
  g_ray : mg "ray" = some (.ref f_ray)
  B_ray : Binds K d_ray ["units", "direction"] []
  f_pose_product : Addr
  d_pose_product : FuncData
  F_pose_product : Fun K "pose_product" "pose_product" s_pose_product f_pose_product d_pose_product
  g_pose_product : mg "pose_product" = some (.ref f_pose_product)
  B_pose_product : Binds K d_pose_product ["one", "other"] []
  f_is_whole : Addr
  d_is_whole : FuncData
  F_is_whole : Fun K "is_whole" "is_whole" s_is_whole f_is_whole d_is_whole
  g_is_whole : mg "is_whole" = some (.ref f_is_whole)
  B_is_whole : Binds K d_is_whole ["value"] []
  f_is_length : Addr
  d_is_length : FuncData
  F_is_length : Fun K "is_length" "is_length" s_is_length f_is_length d_is_length
  g_is_length : mg "is_length" = some (.ref f_is_length)
  B_is_length : Binds K d_is_length ["value"] []
  f_is_rise : Addr
  d_is_rise : FuncData
  F_is_rise : Fun K "is_rise" "is_rise" s_is_rise f_is_rise d_is_rise
  g_is_rise : mg "is_rise" = some (.ref f_is_rise)
  B_is_rise : Binds K d_is_rise ["value"] []
  f_is_curve : Addr
  d_is_curve : FuncData
  F_is_curve : Fun K "is_curve" "is_curve" s_is_curve f_is_curve d_is_curve
  g_is_curve : mg "is_curve" = some (.ref f_is_curve)
  B_is_curve : Binds K d_is_curve ["values"] []
  f_is_points : Addr
  d_is_points : FuncData
  F_is_points : Fun K "is_points" "is_points" s_is_points f_is_points d_is_points
  g_is_points : mg "is_points" = some (.ref f_is_points)
  B_is_points : Binds K d_is_points ["values"] []
  f_is_cross : Addr
  d_is_cross : FuncData
  F_is_cross : Fun K "is_cross" "is_cross" s_is_cross f_is_cross d_is_cross
  g_is_cross : mg "is_cross" = some (.ref f_is_cross)
  B_is_cross : Binds K d_is_cross ["values"] []
  f_is_ramp : Addr
  d_is_ramp : FuncData
  F_is_ramp : Fun K "is_ramp" "is_ramp" s_is_ramp f_is_ramp d_is_ramp
  g_is_ramp : mg "is_ramp" = some (.ref f_is_ramp)
  B_is_ramp : Binds K d_is_ramp ["values"] []
  f_is_plain : Addr
  d_is_plain : FuncData
  F_is_plain : Fun K "is_plain" "is_plain" s_is_plain f_is_plain d_is_plain
  g_is_plain : mg "is_plain" = some (.ref f_is_plain)
  B_is_plain : Binds K d_is_plain ["values"] []
  f_is_piece : Addr
  d_is_piece : FuncData
  F_is_piece : Fun K "is_piece" "is_piece" s_is_piece f_is_piece d_is_piece
  g_is_piece : mg "is_piece" = some (.ref f_is_piece)
  B_is_piece : Binds K d_is_piece ["piece"] []
  f_check_piece : Addr
  d_check_piece : FuncData
  F_check_piece : Fun K "check_piece" "check_piece" s_check_piece f_check_piece d_check_piece
  g_check_piece : mg "check_piece" = some (.ref f_check_piece)
  B_check_piece : Binds K d_check_piece ["piece"] []
  f_end_count : Addr
  d_end_count : FuncData
  F_end_count : Fun K "end_count" "end_count" s_end_count f_end_count d_end_count
  g_end_count : mg "end_count" = some (.ref f_end_count)
  B_end_count : Binds K d_end_count ["piece"] []
  f_check_end : Addr
  d_check_end : FuncData
  F_check_end : Fun K "check_end" "check_end" s_check_end f_check_end d_check_end
  g_check_end : mg "check_end" = some (.ref f_check_end)
  B_check_end : Binds K d_check_end ["piece", "end"] []
  f_curved_end : Addr
  d_curved_end : FuncData
  F_curved_end : Fun K "curved_end" "curved_end" s_curved_end f_curved_end d_curved_end
  g_curved_end : mg "curved_end" = some (.ref f_curved_end)
  B_curved_end : Binds K d_curved_end ["radius", "side"] []
  f_straight_end : Addr
  d_straight_end : FuncData
  F_straight_end : Fun K "straight_end" "straight_end" s_straight_end f_straight_end d_straight_end
  g_straight_end : mg "straight_end" = some (.ref f_straight_end)
  B_straight_end : Binds K d_straight_end ["length"] []
  f_cross_end : Addr
  d_cross_end : FuncData
  F_cross_end : Fun K "cross_end" "cross_end" s_cross_end f_cross_end d_cross_end
  g_cross_end : mg "cross_end" = some (.ref f_cross_end)
  B_cross_end : Binds K d_cross_end ["length", "turn", "end"] []
  f_end_pose : Addr
  d_end_pose : FuncData
  F_end_pose : Fun K "end_pose" "end_pose" s_end_pose f_end_pose d_end_pose
  g_end_pose : mg "end_pose" = some (.ref f_end_pose)
  B_end_pose : Binds K d_end_pose ["piece", "end"] []
  f_is_item : Addr
  d_is_item : FuncData
  F_is_item : Fun K "is_item" "is_item" s_is_item f_is_item d_is_item
  g_is_item : mg "is_item" = some (.ref f_is_item)
  B_is_item : Binds K d_is_item ["item"] []
  f_circuit_sum : Addr
  d_circuit_sum : FuncData
  F_circuit_sum : Fun K "circuit_sum" "circuit_sum" s_circuit_sum f_circuit_sum d_circuit_sum
  g_circuit_sum : mg "circuit_sum" = some (.ref f_circuit_sum)
  B_circuit_sum : Binds K d_circuit_sum ["items"] []
  f_is_closed : Addr
  d_is_closed : FuncData
  F_is_closed : Fun K "is_closed" "is_closed" s_is_closed f_is_closed d_is_closed
  g_is_closed : mg "is_closed" = some (.ref f_is_closed)
  B_is_closed : Binds K d_is_closed ["items"] []
  f_straight_lengths : Addr
  d_straight_lengths : FuncData
  F_straight_lengths : Fun K "straight_lengths" "straight_lengths" s_straight_lengths f_straight_lengths d_straight_lengths
  g_straight_lengths : mg "straight_lengths" = some (.ref f_straight_lengths)
  B_straight_lengths : Binds K d_straight_lengths ["items"] []
  f_curved_items : Addr
  d_curved_items : FuncData
  F_curved_items : Fun K "curved_items" "curved_items" s_curved_items f_curved_items d_curved_items
  g_curved_items : mg "curved_items" = some (.ref f_curved_items)
  B_curved_items : Binds K d_curved_items ["items"] []
  f_uses_up : Addr
  d_uses_up : FuncData
  F_uses_up : Fun K "uses_up" "uses_up" s_uses_up f_uses_up d_uses_up
  g_uses_up : mg "uses_up" = some (.ref f_uses_up)
  B_uses_up : Binds K d_uses_up ["box", "items"] []
  f_is_halved : Addr
  d_is_halved : FuncData
  F_is_halved : Fun K "is_halved" "is_halved" s_is_halved f_is_halved d_is_halved
  g_is_halved : mg "is_halved" = some (.ref f_is_halved)
  B_is_halved : Binds K d_is_halved ["straights", "last"] []
  f_is_round : Addr
  d_is_round : FuncData
  F_is_round : Fun K "is_round" "is_round" s_is_round f_is_round d_is_round
  g_is_round : mg "is_round" = some (.ref f_is_round)
  B_is_round : Binds K d_is_round ["box", "items"] []
  f_carries_on : Addr
  d_carries_on : FuncData
  F_carries_on : Fun K "carries_on" "carries_on" s_carries_on f_carries_on d_carries_on
  g_carries_on : mg "carries_on" = some (.ref f_carries_on)
  B_carries_on : Binds K d_carries_on ["sums", "after", "length"] []
  f_carries_all : Addr
  d_carries_all : FuncData
  F_carries_all : Fun K "carries_all" "carries_all" s_carries_all f_carries_all d_carries_all
  g_carries_all : mg "carries_all" = some (.ref f_carries_all)
  B_carries_all : Binds K d_carries_all ["straights", "sums"] []
  f_shows_unequal : Addr
  d_shows_unequal : FuncData
  F_shows_unequal : Fun K "shows_unequal" "shows_unequal" s_shows_unequal f_shows_unequal d_shows_unequal
  g_shows_unequal : mg "shows_unequal" = some (.ref f_shows_unequal)
  B_shows_unequal : Binds K d_shows_unequal ["straights", "sums"] []
  f_judge_round : Addr
  d_judge_round : FuncData
  F_judge_round : Fun K "judge_round" "judge_round" s_judge_round f_judge_round d_judge_round
  g_judge_round : mg "judge_round" = some (.ref f_judge_round)
  B_judge_round : Binds K d_judge_round ["box", "verdict"] []
  f__law_cell : Addr
  d__law_cell : FuncData
  F__law_cell : Fun K "_law_cell" "_law_cell" s_law_cell f__law_cell d__law_cell
  g__law_cell : mg "_law_cell" = some (.ref f__law_cell)
  B__law_cell : Binds K d__law_cell ["script", "k"] []
  f__law_numbers : Addr
  d__law_numbers : FuncData
  F__law_numbers : Fun K "_law_numbers" "_law_numbers" s_law_numbers f__law_numbers d__law_numbers
  g__law_numbers : mg "_law_numbers" = some (.ref f__law_numbers)
  B__law_numbers : Binds K d__law_numbers ["cell", "count", "limit"] []
  f__law_size : Addr
  d__law_size : FuncData
  F__law_size : Fun K "_law_size" "_law_size" s_law_size f__law_size d__law_size
  g__law_size : mg "_law_size" = some (.ref f__law_size)
  B__law_size : Binds K d__law_size ["number"] []
  f__law_straights : Addr
  d__law_straights : FuncData
  F__law_straights : Fun K "_law_straights" "_law_straights" s_law_straights f__law_straights d__law_straights
  g__law_straights : mg "_law_straights" = some (.ref f__law_straights)
  B__law_straights : Binds K d__law_straights ["cell", "other", "most"] []
  f__law_sums : Addr
  d__law_sums : FuncData
  F__law_sums : Fun K "_law_sums" "_law_sums" s_law_sums f__law_sums d__law_sums
  g__law_sums : mg "_law_sums" = some (.ref f__law_sums)
  B__law_sums : Binds K d__law_sums ["straights"] []
  f__law_accepted : Addr
  d__law_accepted : FuncData
  F__law_accepted : Fun K "_law_accepted" "_law_accepted" s_law_accepted f__law_accepted d__law_accepted
  g__law_accepted : mg "_law_accepted" = some (.ref f__law_accepted)
  B__law_accepted : Binds K d__law_accepted ["box", "sums"] []
  f__law_carried : Addr
  d__law_carried : FuncData
  F__law_carried : Fun K "_law_carried" "_law_carried" s_law_carried f__law_carried d__law_carried
  g__law_carried : mg "_law_carried" = some (.ref f__law_carried)
  B__law_carried : Binds K d__law_carried ["lengths", "sums", "at", "number"] []
  f__law_with : Addr
  d__law_with : FuncData
  F__law_with : Fun K "_law_with" "_law_with" s_law_with f__law_with d__law_with
  g__law_with : mg "_law_with" = some (.ref f__law_with)
  B__law_with : Binds K d__law_with ["sums", "at", "row"] []
  f__law_variants : Addr
  d__law_variants : FuncData
  F__law_variants : Fun K "_law_variants" "_law_variants" s_law_variants f__law_variants d__law_variants
  g__law_variants : mg "_law_variants" = some (.ref f__law_variants)
  B__law_variants : Binds K d__law_variants ["lengths", "sums", "draws"] []
  f_law : Addr
  d_law : FuncData
  F_law : Fun K "law" "law" s_law f_law d_law
  g_law : mg "law" = some (.ref f_law)
  B_law : Binds K d_law ["script"] []
  kno : KNo K csK
  b_abs : mg "abs" = none
  b_all : mg "all" = none
  b_bool : mg "bool" = none
  b_enumerate : mg "enumerate" = none
  b_int : mg "int" = none
  b_isinstance : mg "isinstance" = none
  b_len : mg "len" = none
  b_list : mg "list" = none
  b_range : mg "range" = none
  b_reversed : mg "reversed" = none
  b_set : mg "set" = none
  b_sorted : mg "sorted" = none
  b_sum : mg "sum" = none
  b_tuple : mg "tuple" = none
  x_InvalidPiece : Addr
  E_InvalidPiece : ExcF K mg "InvalidPiece" x_InvalidPiece
  x_NoSuchEnd : Addr
  E_NoSuchEnd : ExcF K mg "NoSuchEnd" x_NoSuchEnd
  h_InvalidPiece : HTab K mg "InvalidPiece" tb_InvalidPiece
  c_DIRECTIONS : Cst K mg "DIRECTIONS" k_DIRECTIONS
  c_UNIT : Cst K mg "UNIT" k_UNIT
  c_MOST_LENGTH : Cst K mg "MOST_LENGTH" k_MOST_LENGTH
  c_MOST_RISE : Cst K mg "MOST_RISE" k_MOST_RISE
  c_SIDES : Cst K mg "SIDES" k_SIDES
  c_BACK_END : Cst K mg "BACK_END" k_BACK_END
  c_ROUND_CURVES : Cst K mg "ROUND_CURVES" k_ROUND_CURVES
  c_ITEM_WORDS : Cst K mg "ITEM_WORDS" k_ITEM_WORDS
section
variable {P : Program} {w : World} {K : PySem.W.Frag} {mg : Str → Option Value} {base : Heap}
theorem sc_spot_sum : FnScope N_spot_sum ["one", "other"] (defScope s_spot_sum) := ⟨rfl, rfl, rfl, by decide +kernel, rfl, by decide +kernel, by decide +kernel⟩
theorem ok_spot_sum (T : Txt K mg) : FnOk P w K mg base (L2.CX P w) 1 T.f_spot_sum T.d_spot_sum ["one", "other"] (spV K mg 2 m_spot_sum) := by
  refine fn_frz (g := runB 2 g_spot_sum) ?_
  refine fn_vl T.F_spot_sum sc_spot_sum rfl fun cdv A outer s H E hr => ?_
  have hu := hu65 hr
  have nd := sc_spot_sum.nd
  have tk := takes_of (X := cxOf (L2.CX P w) P w K mg base N_spot_sum "spot_sum" (defScope s_spot_sum) T.f_spot_sum cdv A outer s H E) rfl rfl rfl rfl
  have hp := passes_of (X := cxOf (L2.CX P w) P w K mg base N_spot_sum "spot_sum" (defScope s_spot_sum) T.f_spot_sum cdv A outer s H E) rfl
  exact (vss_one (vs_ret (vo_x (vxF (vtup_ (van_cons (vadd_ (vidx_ (vv 0) vint) (vidx_ (vv 1) vint)) (van_cons (vadd_ (vidx_ (vv 0) vint) (vidx_ (vv 1) vint)) (van_cons (vadd_ (vidx_ (vv 0) vint) (vidx_ (vv 1) vint)) (van_cons (vadd_ (vidx_ (vv 0) vint) (vidx_ (vv 1) vint)) van_nil)))))))))
theorem sc_eighth_turned : FnScope N_eighth_turned ["spot"] (defScope s_eighth_turned) := ⟨rfl, rfl, rfl, by decide +kernel, rfl, by decide +kernel, by decide +kernel⟩
theorem ok_eighth_turned (T : Txt K mg) : FnOk P w K mg base (L2.CX P w) 1 T.f_eighth_turned T.d_eighth_turned ["spot"] (spV K mg 1 m_eighth_turned) := by
  refine fn_frz (g := runB 1 g_eighth_turned) ?_
  refine fn_vl T.F_eighth_turned sc_eighth_turned rfl fun cdv A outer s H E hr => ?_
  have hu := hu65 hr
  have nd := sc_eighth_turned.nd
  have tk := takes_of (X := cxOf (L2.CX P w) P w K mg base N_eighth_turned "eighth_turned" (defScope s_eighth_turned) T.f_eighth_turned cdv A outer s H E) rfl rfl rfl rfl
  have hp := passes_of (X := cxOf (L2.CX P w) P w K mg base N_eighth_turned "eighth_turned" (defScope s_eighth_turned) T.f_eighth_turned cdv A outer s H E) rfl
  exact (vss_one (vs_ret (vo_x (vxF (vtup_ (van_cons (vneg_ (vidx_ (vv 0) vint)) (van_cons (vidx_ (vv 0) vint) (van_cons (vidx_ (vv 0) vint) (van_cons (vidx_ (vv 0) vint) van_nil)))))))))
theorem sc_spot_turned : FnScope N_spot_turned ["spot", "direction"] (defScope s_spot_turned) := ⟨rfl, rfl, rfl, by decide +kernel, rfl, by decide +kernel, by decide +kernel⟩
theorem ok_spot_turned (T : Txt K mg) : FnOk P w K mg base (L2.CX P w) 2 T.f_spot_turned T.d_spot_turned ["spot", "direction"] (spV K mg 2 m_spot_turned) := by
  refine fn_frz (g := runB 4 g_spot_turned) ?_
  refine fn_vl T.F_spot_turned sc_spot_turned rfl fun cdv A outer s H E hr => ?_
  have hu := hu65 hr
  have nd := sc_spot_turned.nd
  have tk := takes_of (X := cxOf (L2.CX P w) P w K mg base N_spot_turned "spot_turned" (defScope s_spot_turned) T.f_spot_turned cdv A outer s H E) rfl rfl rfl rfl
  have hp := passes_of (X := cxOf (L2.CX P w) P w K mg base N_spot_turned "spot_turned" (defScope s_spot_turned) T.f_spot_turned cdv A outer s H E) rfl
  exact (qs_cons (vs_set 2 nd (vo_x (vxF (vtuple_ T.b_tuple (VAn.va (van_cons (vv 0) van_nil))))))
      (qs_t (envT_kill _ [0]) (qs_cons (vs_forK hp rfl (vix_range1 T.b_range (vxF (vmod_ (vint_ T.b_int (VAn.va (van_cons (vv 1) van_nil))) (vglobT T.c_DIRECTIONS)))) (vg 3 nd) (rs_kill _ [1]) (envT_kill _ [3])
      (vss_one (vs_set 2 nd (vo_x (vxF (vcall (ok_eighth_turned T) (hr.mono (by decide)) T.g_eighth_turned T.F_eighth_turned.kp T.B_eighth_turned tk (van_cons (vv 2) van_nil)))))))
      (qs_t (envT_kill _ [3]) (vss_one (vs_ret (vo_x (vxF (vv 2)))))))))
theorem sc_ray : FnScope N_ray ["units", "direction"] (defScope s_ray) := ⟨rfl, rfl, rfl, by decide +kernel, rfl, by decide +kernel, by decide +kernel⟩
theorem ok_ray (T : Txt K mg) : FnOk P w K mg base (L2.CX P w) 3 T.f_ray T.d_ray ["units", "direction"] (spV K mg 2 m_ray) := by
  refine fn_frz (g := runB 2 g_ray) ?_
  refine fn_vl T.F_ray sc_ray rfl fun cdv A outer s H E hr => ?_
  have hu := hu65 hr
  have nd := sc_ray.nd
  have tk := takes_of (X := cxOf (L2.CX P w) P w K mg base N_ray "ray" (defScope s_ray) T.f_ray cdv A outer s H E) rfl rfl rfl rfl
  have hp := passes_of (X := cxOf (L2.CX P w) P w K mg base N_ray "ray" (defScope s_ray) T.f_ray cdv A outer s H E) rfl
  exact (vss_one (vs_ret (vo_x (vxF (vcall (ok_spot_turned T) (hr.mono (by decide)) T.g_spot_turned T.F_spot_turned.kp T.B_spot_turned tk (van_cons (vtup_ (van_cons (vv 0) (van_cons vint (van_cons vint (van_cons vint van_nil))))) (van_cons (vv 1) van_nil)))))))
theorem sc_pose_product : FnScope N_pose_product ["one", "other"] (defScope s_pose_product) := ⟨rfl, rfl, rfl, by decide +kernel, rfl, by decide +kernel, by decide +kernel⟩
theorem ok_pose_product (T : Txt K mg) : FnOk P w K mg base (L2.CX P w) 3 T.f_pose_product T.d_pose_product ["one", "other"] (spV K mg 2 m_pose_product) := by
  refine fn_frz (g := runB 3 g_pose_product) ?_
  refine fn_vl T.F_pose_product sc_pose_product rfl fun cdv A outer s H E hr => ?_
  have hu := hu65 hr
  have nd := sc_pose_product.nd
  have tk := takes_of (X := cxOf (L2.CX P w) P w K mg base N_pose_product "pose_product" (defScope s_pose_product) T.f_pose_product cdv A outer s H E) rfl rfl rfl rfl
  have hp := passes_of (X := cxOf (L2.CX P w) P w K mg base N_pose_product "pose_product" (defScope s_pose_product) T.f_pose_product cdv A outer s H E) rfl
  exact (qs_cons (vs_set 2 nd (vo_x (vxF (vcall (ok_spot_sum T) (hr.mono (by decide)) T.g_spot_sum T.F_spot_sum.kp T.B_spot_sum tk (van_cons (vidx_ (vv 0) vint) (van_cons (vcall (ok_spot_turned T) (hr.mono (by decide)) T.g_spot_turned T.F_spot_turned.kp T.B_spot_turned tk (van_cons (vidx_ (vv 1) vint) (van_cons (vidx_ (vv 0) vint) van_nil))) van_nil))))))
      (vss_one (vs_ret (vo_x (vxF (vtup_ (van_cons (vv 2) (van_cons (vmod_ (vint_ T.b_int (VAn.va (van_cons (vadd_ (vidx_ (vv 0) vint) (vidx_ (vv 1) vint)) van_nil))) (vglobT T.c_DIRECTIONS)) van_nil))))))))
theorem sc_is_whole : FnScope N_is_whole ["value"] (defScope s_is_whole) := ⟨rfl, rfl, rfl, by decide +kernel, rfl, by decide +kernel, by decide +kernel⟩
theorem ok_is_whole (T : Txt K mg) : FnOk P w K mg base (L2.CX P w) 1 T.f_is_whole T.d_is_whole ["value"] (spV K mg 1 m_is_whole) := by
  refine fn_frz (g := runB 1 g_is_whole) ?_
  refine fn_vl T.F_is_whole sc_is_whole rfl fun cdv A outer s H E hr => ?_
  have hu := hu65 hr
  have nd := sc_is_whole.nd
  have tk := takes_of (X := cxOf (L2.CX P w) P w K mg base N_is_whole "is_whole" (defScope s_is_whole) T.f_is_whole cdv A outer s H E) rfl rfl rfl rfl
  have hp := passes_of (X := cxOf (L2.CX P w) P w K mg base N_is_whole "is_whole" (defScope s_is_whole) T.f_is_whole cdv A outer s H E) rfl
  exact (vss_one (vs_ret (vo_x (vxF (vand_ (visi_ ty_int T.b_isinstance T.b_int (by decide +kernel) (vv 0)) (vone (vnot_ (visi_ ty_bool T.b_isinstance T.b_bool (by decide +kernel) (vv 0)))))))))
theorem sc_is_length : FnScope N_is_length ["value"] (defScope s_is_length) := ⟨rfl, rfl, rfl, by decide +kernel, rfl, by decide +kernel, by decide +kernel⟩
theorem ok_is_length (T : Txt K mg) : FnOk P w K mg base (L2.CX P w) 2 T.f_is_length T.d_is_length ["value"] (spV K mg 1 m_is_length) := by
  refine fn_frz (g := runB 1 g_is_length) ?_
  refine fn_vl T.F_is_length sc_is_length rfl fun cdv A outer s H E hr => ?_
  have hu := hu65 hr
  have nd := sc_is_length.nd
  have tk := takes_of (X := cxOf (L2.CX P w) P w K mg base N_is_length "is_length" (defScope s_is_length) T.f_is_length cdv A outer s H E) rfl rfl rfl rfl
  have hp := passes_of (X := cxOf (L2.CX P w) P w K mg base N_is_length "is_length" (defScope s_is_length) T.f_is_length cdv A outer s H E) rfl
  exact (vss_one (vs_ret (vo_x (vxF (vand_ (vcall (ok_is_whole T) (hr.mono (by decide)) T.g_is_whole T.F_is_whole.kp T.B_is_whole tk (van_cons (vv 0) van_nil)) (vone (vchain_ ic_le ic_le vint (vv 0) (vglobT T.c_MOST_LENGTH))))))))
theorem sc_is_rise : FnScope N_is_rise ["value"] (defScope s_is_rise) := ⟨rfl, rfl, rfl, by decide +kernel, rfl, by decide +kernel, by decide +kernel⟩
theorem ok_is_rise (T : Txt K mg) : FnOk P w K mg base (L2.CX P w) 2 T.f_is_rise T.d_is_rise ["value"] (spV K mg 1 m_is_rise) := by
  refine fn_frz (g := runB 1 g_is_rise) ?_
  refine fn_vl T.F_is_rise sc_is_rise rfl fun cdv A outer s H E hr => ?_
  have hu := hu65 hr
  have nd := sc_is_rise.nd
  have tk := takes_of (X := cxOf (L2.CX P w) P w K mg base N_is_rise "is_rise" (defScope s_is_rise) T.f_is_rise cdv A outer s H E) rfl rfl rfl rfl
  have hp := passes_of (X := cxOf (L2.CX P w) P w K mg base N_is_rise "is_rise" (defScope s_is_rise) T.f_is_rise cdv A outer s H E) rfl
  exact (vss_one (vs_ret (vo_x (vxF (vand_ (vcall (ok_is_whole T) (hr.mono (by decide)) T.g_is_whole T.F_is_whole.kp T.B_is_whole tk (van_cons (vv 0) van_nil)) (vand_ (vne_ hu (vv 0) vint) (vone (vchain_ ic_le ic_le (vneg_ (vglobT T.c_MOST_RISE)) (vv 0) (vglobT T.c_MOST_RISE)))))))))
theorem sc_is_curve : FnScope N_is_curve ["values"] (defScope s_is_curve) := ⟨rfl, rfl, rfl, by decide +kernel, rfl, by decide +kernel, by decide +kernel⟩
theorem ok_is_curve (T : Txt K mg) : FnOk P w K mg base (L2.CX P w) 3 T.f_is_curve T.d_is_curve ["values"] (spV K mg 1 m_is_curve) := by
  refine fn_frz (g := runB 1 g_is_curve) ?_
  refine fn_vl T.F_is_curve sc_is_curve rfl fun cdv A outer s H E hr => ?_
  have hu := hu65 hr
  have nd := sc_is_curve.nd
  have tk := takes_of (X := cxOf (L2.CX P w) P w K mg base N_is_curve "is_curve" (defScope s_is_curve) T.f_is_curve cdv A outer s H E) rfl rfl rfl rfl
  have hp := passes_of (X := cxOf (L2.CX P w) P w K mg base N_is_curve "is_curve" (defScope s_is_curve) T.f_is_curve cdv A outer s H E) rfl
  exact (vss_one (vs_ret (vo_x (vxF (vand_ (veq_ hu (vlen_ T.b_len (VAn.va (van_cons (vv 0) van_nil))) vint) (vand_ (vcall (ok_is_length T) (hr.mono (by decide)) T.g_is_length T.F_is_length.kp T.B_is_length tk (van_cons (vidx_ (vv 0) vint) van_nil)) (vone (winT hu (vidx_ (vv 0) vint) (vglobT T.c_SIDES)))))))))
theorem sc_is_points : FnScope N_is_points ["values"] (defScope s_is_points) := ⟨rfl, rfl, rfl, by decide +kernel, rfl, by decide +kernel, by decide +kernel⟩
theorem ok_is_points (T : Txt K mg) : FnOk P w K mg base (L2.CX P w) 4 T.f_is_points T.d_is_points ["values"] (spV K mg 1 m_is_points) := by
  refine fn_frz (g := runB 1 g_is_points) ?_
  refine fn_vl T.F_is_points sc_is_points rfl fun cdv A outer s H E hr => ?_
  have hu := hu65 hr
  have nd := sc_is_points.nd
  have tk := takes_of (X := cxOf (L2.CX P w) P w K mg base N_is_points "is_points" (defScope s_is_points) T.f_is_points cdv A outer s H E) rfl rfl rfl rfl
  have hp := passes_of (X := cxOf (L2.CX P w) P w K mg base N_is_points "is_points" (defScope s_is_points) T.f_is_points cdv A outer s H E) rfl
  exact (vss_one (vs_ret (vo_x (vxF (vand_ (veq_ hu (vlen_ T.b_len (VAn.va (van_cons (vv 0) van_nil))) vint) (vand_ (vcall (ok_is_length T) (hr.mono (by decide)) T.g_is_length T.F_is_length.kp T.B_is_length tk (van_cons (vidx_ (vv 0) vint) van_nil)) (vone (vcall (ok_is_curve T) (hr.mono (by decide)) T.g_is_curve T.F_is_curve.kp T.B_is_curve tk (van_cons (vslice_ (vv 0) (qo_some vint) qo_none) van_nil)))))))))
theorem sc_is_cross : FnScope N_is_cross ["values"] (defScope s_is_cross) := ⟨rfl, rfl, rfl, by decide +kernel, rfl, by decide +kernel, by decide +kernel⟩
theorem ok_is_cross (T : Txt K mg) : FnOk P w K mg base (L2.CX P w) 3 T.f_is_cross T.d_is_cross ["values"] (spV K mg 1 m_is_cross) := by
  refine fn_frz (g := runB 1 g_is_cross) ?_
  refine fn_vl T.F_is_cross sc_is_cross rfl fun cdv A outer s H E hr => ?_
  have hu := hu65 hr
  have nd := sc_is_cross.nd
  have tk := takes_of (X := cxOf (L2.CX P w) P w K mg base N_is_cross "is_cross" (defScope s_is_cross) T.f_is_cross cdv A outer s H E) rfl rfl rfl rfl
  have hp := passes_of (X := cxOf (L2.CX P w) P w K mg base N_is_cross "is_cross" (defScope s_is_cross) T.f_is_cross cdv A outer s H E) rfl
  exact (qs_cons (vs_if (qx_T (VW.vt (vw_or (qne hu (vlen_ T.b_len (VAn.va (van_cons (vv 0) van_nil))) vint) (vw_or (vt_not (qtruth (vcall (ok_is_length T) (hr.mono (by decide)) T.g_is_length T.F_is_length.kp T.B_is_length tk (van_cons (vidx_ (vv 0) vint) van_nil)))) (vw_or1 (vt_not (qtruth (vcall (ok_is_whole T) (hr.mono (by decide)) T.g_is_whole T.F_is_whole.kp T.B_is_whole tk (van_cons (vidx_ (vv 0) vint) van_nil)))))))))
      (vss_one (vs_ret (vo_x (vxF vbool))))
      qs_nil)
      (vss_one (vs_ret (vo_x (vxF (vand_ (veq_ hu (vmod_ (vidx_ (vv 0) vint) vint) vint) (vone (vchain_ ic_le ic_le vint (vidx_ (vv 0) vint) vint))))))))
theorem sc_is_ramp : FnScope N_is_ramp ["values"] (defScope s_is_ramp) := ⟨rfl, rfl, rfl, by decide +kernel, rfl, by decide +kernel, by decide +kernel⟩
theorem ok_is_ramp (T : Txt K mg) : FnOk P w K mg base (L2.CX P w) 3 T.f_is_ramp T.d_is_ramp ["values"] (spV K mg 1 m_is_ramp) := by
  refine fn_frz (g := runB 1 g_is_ramp) ?_
  refine fn_vl T.F_is_ramp sc_is_ramp rfl fun cdv A outer s H E hr => ?_
  have hu := hu65 hr
  have nd := sc_is_ramp.nd
  have tk := takes_of (X := cxOf (L2.CX P w) P w K mg base N_is_ramp "is_ramp" (defScope s_is_ramp) T.f_is_ramp cdv A outer s H E) rfl rfl rfl rfl
  have hp := passes_of (X := cxOf (L2.CX P w) P w K mg base N_is_ramp "is_ramp" (defScope s_is_ramp) T.f_is_ramp cdv A outer s H E) rfl
  exact (vss_one (vs_ret (vo_x (vxF (vand_ (veq_ hu (vlen_ T.b_len (VAn.va (van_cons (vv 0) van_nil))) vint) (vand_ (vcall (ok_is_length T) (hr.mono (by decide)) T.g_is_length T.F_is_length.kp T.B_is_length tk (van_cons (vidx_ (vv 0) vint) van_nil)) (vone (vcall (ok_is_rise T) (hr.mono (by decide)) T.g_is_rise T.F_is_rise.kp T.B_is_rise tk (van_cons (vidx_ (vv 0) vint) van_nil)))))))))
theorem sc_is_plain : FnScope N_is_plain ["values"] (defScope s_is_plain) := ⟨rfl, rfl, rfl, by decide +kernel, rfl, by decide +kernel, by decide +kernel⟩
theorem ok_is_plain (T : Txt K mg) : FnOk P w K mg base (L2.CX P w) 3 T.f_is_plain T.d_is_plain ["values"] (spV K mg 1 m_is_plain) := by
  refine fn_frz (g := runB 1 g_is_plain) ?_
  refine fn_vl T.F_is_plain sc_is_plain rfl fun cdv A outer s H E hr => ?_
  have hu := hu65 hr
  have nd := sc_is_plain.nd
  have tk := takes_of (X := cxOf (L2.CX P w) P w K mg base N_is_plain "is_plain" (defScope s_is_plain) T.f_is_plain cdv A outer s H E) rfl rfl rfl rfl
  have hp := passes_of (X := cxOf (L2.CX P w) P w K mg base N_is_plain "is_plain" (defScope s_is_plain) T.f_is_plain cdv A outer s H E) rfl
  exact (vss_one (vs_ret (vo_x (vxF (vand_ (veq_ hu (vlen_ T.b_len (VAn.va (van_cons (vv 0) van_nil))) vint) (vone (vcall (ok_is_length T) (hr.mono (by decide)) T.g_is_length T.F_is_length.kp T.B_is_length tk (van_cons (vidx_ (vv 0) vint) van_nil))))))))
theorem sc_is_piece : FnScope N_is_piece ["piece"] (defScope s_is_piece) := ⟨rfl, rfl, rfl, by decide +kernel, rfl, by decide +kernel, by decide +kernel⟩
theorem ok_is_piece (T : Txt K mg) : FnOk P w K mg base (L2.CX P w) 5 T.f_is_piece T.d_is_piece ["piece"] (spV K mg 1 m_is_piece) := by
  refine fn_frz (g := runB 2 g_is_piece) ?_
  refine fn_vl T.F_is_piece sc_is_piece rfl fun cdv A outer s H E hr => ?_
  have hu := hu65 hr
  have nd := sc_is_piece.nd
  have tk := takes_of (X := cxOf (L2.CX P w) P w K mg base N_is_piece "is_piece" (defScope s_is_piece) T.f_is_piece cdv A outer s H E) rfl rfl rfl rfl
  have hp := passes_of (X := cxOf (L2.CX P w) P w K mg base N_is_piece "is_piece" (defScope s_is_piece) T.f_is_piece cdv A outer s H E) rfl
  exact (qs_cons (vs_if (qx_T (VW.vt (vw_or (vt_not (qtruth (visi_ ty_tuple T.b_isinstance T.b_tuple (by decide +kernel) (vv 0)))) (vw_or1 (qeq hu (vlen_ T.b_len (VAn.va (van_cons (vv 0) van_nil))) vint)))))
      (vss_one (vs_ret (vo_x (vxF vbool))))
      qs_nil)
      (qs_cons (vs_set 1 nd (vo_x (vxF (vidx_ (vv 0) vint))))
      (qs_cons (vs_if (qx_T (qinT hu (vv 1) (vtup_ (van_cons vstr (van_cons vstr (van_cons vstr van_nil))))))
      (vss_one (vs_ret (vo_x (vxF (vcall (ok_is_plain T) (hr.mono (by decide)) T.g_is_plain T.F_is_plain.kp T.B_is_plain tk (van_cons (vslice_ (vv 0) (qo_some vint) qo_none) van_nil))))))
      qs_nil)
      (qs_cons (vs_if (qx_T (qeq hu (vv 1) vstr))
      (vss_one (vs_ret (vo_x (vxF (vcall (ok_is_curve T) (hr.mono (by decide)) T.g_is_curve T.F_is_curve.kp T.B_is_curve tk (van_cons (vslice_ (vv 0) (qo_some vint) qo_none) van_nil))))))
      qs_nil)
      (qs_cons (vs_if (qx_T (qeq hu (vv 1) vstr))
      (vss_one (vs_ret (vo_x (vxF (vcall (ok_is_points T) (hr.mono (by decide)) T.g_is_points T.F_is_points.kp T.B_is_points tk (van_cons (vslice_ (vv 0) (qo_some vint) qo_none) van_nil))))))
      qs_nil)
      (qs_cons (vs_if (qx_T (qeq hu (vv 1) vstr))
      (vss_one (vs_ret (vo_x (vxF (vcall (ok_is_cross T) (hr.mono (by decide)) T.g_is_cross T.F_is_cross.kp T.B_is_cross tk (van_cons (vslice_ (vv 0) (qo_some vint) qo_none) van_nil))))))
      qs_nil)
      (vss_one (vs_ret (vo_x (vxF (vand_ (veq_ hu (vv 1) vstr) (vone (vcall (ok_is_ramp T) (hr.mono (by decide)) T.g_is_ramp T.F_is_ramp.kp T.B_is_ramp tk (van_cons (vslice_ (vv 0) (qo_some vint) qo_none) van_nil))))))))))))))
theorem sc_check_piece : FnScope N_check_piece ["piece"] (defScope s_check_piece) := ⟨rfl, rfl, rfl, by decide +kernel, rfl, by decide +kernel, by decide +kernel⟩
theorem ok_check_piece (T : Txt K mg) : FnOk P w K mg base (L2.CX P w) 6 T.f_check_piece T.d_check_piece ["piece"] (spV K mg 1 m_check_piece) := by
  refine fn_frz (g := runB 1 g_check_piece) ?_
  refine fn_vl T.F_check_piece sc_check_piece rfl fun cdv A outer s H E hr => ?_
  have hu := hu65 hr
  have nd := sc_check_piece.nd
  have tk := takes_of (X := cxOf (L2.CX P w) P w K mg base N_check_piece "check_piece" (defScope s_check_piece) T.f_check_piece cdv A outer s H E) rfl rfl rfl rfl
  have hp := passes_of (X := cxOf (L2.CX P w) P w K mg base N_check_piece "check_piece" (defScope s_check_piece) T.f_check_piece cdv A outer s H E) rfl
  exact (vss_one (vs_if (qx_T (vt_not (qtruth (vcall (ok_is_piece T) (hr.mono (by decide)) T.g_is_piece T.F_is_piece.kp T.B_is_piece tk (van_cons (vv 0) van_nil)))))
      (vss_one (vs_raise rfl tk T.E_InvalidPiece))
      (qs_t (envT_kill _ [0]) qs_nil)))
theorem sc_end_count : FnScope N_end_count ["piece"] (defScope s_end_count) := ⟨rfl, rfl, rfl, by decide +kernel, rfl, by decide +kernel, by decide +kernel⟩
theorem ok_end_count (T : Txt K mg) : FnOk P w K mg base (L2.CX P w) 1 T.f_end_count T.d_end_count ["piece"] (spV K mg 1 m_end_count) := by
  refine fn_frz (g := runB 1 g_end_count) ?_
  refine fn_vl T.F_end_count sc_end_count rfl fun cdv A outer s H E hr => ?_
  have hu := hu65 hr
  have nd := sc_end_count.nd
  have tk := takes_of (X := cxOf (L2.CX P w) P w K mg base N_end_count "end_count" (defScope s_end_count) T.f_end_count cdv A outer s H E) rfl rfl rfl rfl
  have hp := passes_of (X := cxOf (L2.CX P w) P w K mg base N_end_count "end_count" (defScope s_end_count) T.f_end_count cdv A outer s H E) rfl
  exact (qs_cons (vs_if (qx_T (qeq hu (vidx_ (vv 0) vint) vstr))
      (vss_one (vs_ret (vo_x (vxF vint))))
      qs_nil)
      (qs_cons (vs_if (qx_T (qeq hu (vidx_ (vv 0) vint) vstr))
      (vss_one (vs_ret (vo_x (vxF vint))))
      qs_nil)
      (qs_cons (vs_if (qx_T (qeq hu (vidx_ (vv 0) vint) vstr))
      (vss_one (vs_ret (vo_x (vxF vint))))
      (qs_t (envT_kill _ [0]) qs_nil))
      (vss_one (vs_ret (vo_x (vxF vint)))))))
theorem sc_check_end : FnScope N_check_end ["piece", "end"] (defScope s_check_end) := ⟨rfl, rfl, rfl, by decide +kernel, rfl, by decide +kernel, by decide +kernel⟩
theorem ok_check_end (T : Txt K mg) : FnOk P w K mg base (L2.CX P w) 2 T.f_check_end T.d_check_end ["piece", "end"] (spV K mg 2 m_check_end) := by
  refine fn_frz (g := runB 2 g_check_end) ?_
  refine fn_vl T.F_check_end sc_check_end rfl fun cdv A outer s H E hr => ?_
  have hu := hu65 hr
  have nd := sc_check_end.nd
  have tk := takes_of (X := cxOf (L2.CX P w) P w K mg base N_check_end "check_end" (defScope s_check_end) T.f_check_end cdv A outer s H E) rfl rfl rfl rfl
  have hp := passes_of (X := cxOf (L2.CX P w) P w K mg base N_check_end "check_end" (defScope s_check_end) T.f_check_end cdv A outer s H E) rfl
  exact (vss_one (vs_if (qx_T (vt_not (qchain ic_le ic_lt vint (vv 1) (vcall (ok_end_count T) (hr.mono (by decide)) T.g_end_count T.F_end_count.kp T.B_end_count tk (van_cons (vv 0) van_nil)))))
      (vss_one (vs_raise rfl tk T.E_NoSuchEnd))
      (qs_t (envT_kill _ [0, 1]) qs_nil)))
theorem sc_curved_end : FnScope N_curved_end ["radius", "side"] (defScope s_curved_end) := ⟨rfl, rfl, rfl, by decide +kernel, rfl, by decide +kernel, by decide +kernel⟩
theorem ok_curved_end (T : Txt K mg) : FnOk P w K mg base (L2.CX P w) 4 T.f_curved_end T.d_curved_end ["radius", "side"] (spV K mg 2 m_curved_end) := by
  refine fn_frz (g := runB 2 g_curved_end) ?_
  refine fn_vl T.F_curved_end sc_curved_end rfl fun cdv A outer s H E hr => ?_
  have hu := hu65 hr
  have nd := sc_curved_end.nd
  have tk := takes_of (X := cxOf (L2.CX P w) P w K mg base N_curved_end "curved_end" (defScope s_curved_end) T.f_curved_end cdv A outer s H E) rfl rfl rfl rfl
  have hp := passes_of (X := cxOf (L2.CX P w) P w K mg base N_curved_end "curved_end" (defScope s_curved_end) T.f_curved_end cdv A outer s H E) rfl
  exact (qs_cons (vs_if (qx_T (qeq hu (vv 1) vstr))
      (vss_one (vs_ret (vo_x (vxF (vtup_ (van_cons (vcall (ok_spot_sum T) (hr.mono (by decide)) T.g_spot_sum T.F_spot_sum.kp T.B_spot_sum tk (van_cons (vcall (ok_ray T) (hr.mono (by decide)) T.g_ray T.F_ray.kp T.B_ray tk (van_cons (vv 0) (van_cons vint van_nil))) (van_cons (vcall (ok_ray T) (hr.mono (by decide)) T.g_ray T.F_ray.kp T.B_ray tk (van_cons (vv 0) (van_cons vint van_nil))) van_nil))) (van_cons vint van_nil)))))))
      (qs_t (envT_kill _ [1]) qs_nil))
      (vss_one (vs_ret (vo_x (vxF (vtup_ (van_cons (vcall (ok_spot_sum T) (hr.mono (by decide)) T.g_spot_sum T.F_spot_sum.kp T.B_spot_sum tk (van_cons (vcall (ok_ray T) (hr.mono (by decide)) T.g_ray T.F_ray.kp T.B_ray tk (van_cons (vv 0) (van_cons vint van_nil))) (van_cons (vcall (ok_ray T) (hr.mono (by decide)) T.g_ray T.F_ray.kp T.B_ray tk (van_cons (vv 0) (van_cons vint van_nil))) van_nil))) (van_cons vint van_nil))))))))
theorem sc_straight_end : FnScope N_straight_end ["length"] (defScope s_straight_end) := ⟨rfl, rfl, rfl, by decide +kernel, rfl, by decide +kernel, by decide +kernel⟩
theorem ok_straight_end (T : Txt K mg) : FnOk P w K mg base (L2.CX P w) 4 T.f_straight_end T.d_straight_end ["length"] (spV K mg 1 m_straight_end) := by
  refine fn_frz (g := runB 1 g_straight_end) ?_
  refine fn_vl T.F_straight_end sc_straight_end rfl fun cdv A outer s H E hr => ?_
  have hu := hu65 hr
  have nd := sc_straight_end.nd
  have tk := takes_of (X := cxOf (L2.CX P w) P w K mg base N_straight_end "straight_end" (defScope s_straight_end) T.f_straight_end cdv A outer s H E) rfl rfl rfl rfl
  have hp := passes_of (X := cxOf (L2.CX P w) P w K mg base N_straight_end "straight_end" (defScope s_straight_end) T.f_straight_end cdv A outer s H E) rfl
  exact (vss_one (vs_ret (vo_x (vxF (vtup_ (van_cons (vcall (ok_ray T) (hr.mono (by decide)) T.g_ray T.F_ray.kp T.B_ray tk (van_cons (vv 0) (van_cons vint van_nil))) (van_cons vint van_nil)))))))
theorem sc_cross_end : FnScope N_cross_end ["length", "turn", "end"] (defScope s_cross_end) := ⟨rfl, rfl, rfl, by decide +kernel, rfl, by decide +kernel, by decide +kernel⟩
theorem ok_cross_end (T : Txt K mg) : FnOk P w K mg base (L2.CX P w) 4 T.f_cross_end T.d_cross_end ["length", "turn", "end"] (spV K mg 3 m_cross_end) := by
  refine fn_frz (g := runB 4 g_cross_end) ?_
  refine fn_vl T.F_cross_end sc_cross_end rfl fun cdv A outer s H E hr => ?_
  have hu := hu65 hr
  have nd := sc_cross_end.nd
  have tk := takes_of (X := cxOf (L2.CX P w) P w K mg base N_cross_end "cross_end" (defScope s_cross_end) T.f_cross_end cdv A outer s H E) rfl rfl rfl rfl
  have hp := passes_of (X := cxOf (L2.CX P w) P w K mg base N_cross_end "cross_end" (defScope s_cross_end) T.f_cross_end cdv A outer s H E) rfl
  exact (qs_cons (vs_set 3 nd (vo_x (vxF (vfdiv_ (vv 0) vint))))
      (qs_cons (vs_if (qx_T (qeq hu (vv 2) vint))
      (vss_one (vs_ret (vo_x (vxF (vtup_ (van_cons (vcall (ok_spot_sum T) (hr.mono (by decide)) T.g_spot_sum T.F_spot_sum.kp T.B_spot_sum tk (van_cons (vcall (ok_ray T) (hr.mono (by decide)) T.g_ray T.F_ray.kp T.B_ray tk (van_cons (vv 3) (van_cons vint van_nil))) (van_cons (vcall (ok_ray T) (hr.mono (by decide)) T.g_ray T.F_ray.kp T.B_ray tk (van_cons (vv 3) (van_cons (vadd_ (vv 1) vint) van_nil))) van_nil))) (van_cons (vadd_ (vv 1) vint) van_nil)))))))
      (qs_t (envT_kill _ [0, 2]) qs_nil))
      (vss_one (vs_ret (vo_x (vxF (vtup_ (van_cons (vcall (ok_spot_sum T) (hr.mono (by decide)) T.g_spot_sum T.F_spot_sum.kp T.B_spot_sum tk (van_cons (vcall (ok_ray T) (hr.mono (by decide)) T.g_ray T.F_ray.kp T.B_ray tk (van_cons (vv 3) (van_cons vint van_nil))) (van_cons (vcall (ok_ray T) (hr.mono (by decide)) T.g_ray T.F_ray.kp T.B_ray tk (van_cons (vv 3) (van_cons (vv 1) van_nil))) van_nil))) (van_cons (vv 1) van_nil)))))))))
theorem sc_end_pose : FnScope N_end_pose ["piece", "end"] (defScope s_end_pose) := ⟨rfl, rfl, rfl, by decide +kernel, rfl, by decide +kernel, by decide +kernel⟩
theorem ok_end_pose (T : Txt K mg) : FnOk P w K mg base (L2.CX P w) 5 T.f_end_pose T.d_end_pose ["piece", "end"] (spV K mg 2 m_end_pose) := by
  refine fn_frz (g := runB 2 g_end_pose) ?_
  refine fn_vl T.F_end_pose sc_end_pose rfl fun cdv A outer s H E hr => ?_
  have hu := hu65 hr
  have nd := sc_end_pose.nd
  have tk := takes_of (X := cxOf (L2.CX P w) P w K mg base N_end_pose "end_pose" (defScope s_end_pose) T.f_end_pose cdv A outer s H E) rfl rfl rfl rfl
  have hp := passes_of (X := cxOf (L2.CX P w) P w K mg base N_end_pose "end_pose" (defScope s_end_pose) T.f_end_pose cdv A outer s H E) rfl
  exact (qs_cons (vs_expr (vo_x (vxF (vcall (ok_check_end T) (hr.mono (by decide)) T.g_check_end T.F_check_end.kp T.B_check_end tk (van_cons (vv 0) (van_cons (vv 1) van_nil))))))
      (qs_cons (vs_if (qx_T (qeq hu (vv 1) vint))
      (vss_one (vs_ret (vo_x (vxF (vglobT T.c_BACK_END)))))
      qs_nil)
      (qs_cons (vs_if (qx_T (qeq hu (vidx_ (vv 0) vint) vstr))
      (vss_one (vs_ret (vo_x (vxF (vcall (ok_curved_end T) (hr.mono (by decide)) T.g_curved_end T.F_curved_end.kp T.B_curved_end tk (van_cons (vidx_ (vv 0) vint) (van_cons (vidx_ (vv 0) vint) van_nil)))))))
      qs_nil)
      (qs_cons (vs_if (qx_T (VW.vt (vw_and (qeq hu (vidx_ (vv 0) vint) vstr) (vw_and1 (qeq hu (vv 1) vint)))))
      (vss_one (vs_ret (vo_x (vxF (vcall (ok_curved_end T) (hr.mono (by decide)) T.g_curved_end T.F_curved_end.kp T.B_curved_end tk (van_cons (vidx_ (vv 0) vint) (van_cons (vidx_ (vv 0) vint) van_nil)))))))
      qs_nil)
      (qs_cons (vs_if (qx_T (VW.vt (vw_and (qeq hu (vidx_ (vv 0) vint) vstr) (vw_and1 (qge (vv 1) vint)))))
      (vss_one (vs_ret (vo_x (vxF (vcall (ok_cross_end T) (hr.mono (by decide)) T.g_cross_end T.F_cross_end.kp T.B_cross_end tk (van_cons (vidx_ (vv 0) vint) (van_cons (vidx_ (vv 0) vint) (van_cons (vv 1) van_nil))))))))
      (qs_t (envT_kill _ [1]) qs_nil))
      (vss_one (vs_ret (vo_x (vxF (vcall (ok_straight_end T) (hr.mono (by decide)) T.g_straight_end T.F_straight_end.kp T.B_straight_end tk (van_cons (vidx_ (vv 0) vint) van_nil)))))))))))
theorem sc_is_item : FnScope N_is_item ["item"] (defScope s_is_item) := ⟨rfl, rfl, rfl, by decide +kernel, rfl, by decide +kernel, by decide +kernel⟩
theorem ok_is_item (T : Txt K mg) : FnOk P w K mg base (L2.CX P w) 7 T.f_is_item T.d_is_item ["item"] (spV K mg 1 m_is_item) := by
  refine fn_frz (g := runB 1 g_is_item) ?_
  refine fn_vl T.F_is_item sc_is_item rfl fun cdv A outer s H E hr => ?_
  have hu := hu65 hr
  have nd := sc_is_item.nd
  have tk := takes_of (X := cxOf (L2.CX P w) P w K mg base N_is_item "is_item" (defScope s_is_item) T.f_is_item cdv A outer s H E) rfl rfl rfl rfl
  have hp := passes_of (X := cxOf (L2.CX P w) P w K mg base N_is_item "is_item" (defScope s_is_item) T.f_is_item cdv A outer s H E) rfl
  exact (qs_cons (vs_tryO rfl rfl tk T.h_InvalidPiece (fun W2 pn2 xe2 tk hp => (vss_one (vs_expr (vo_x (vxF (vcall (ok_check_piece T) (hr.mono (by decide)) T.g_check_piece T.F_check_piece.kp T.B_check_piece tk (van_cons (vv 0) van_nil)))))))
      (fun a oe pn => (qs_t (envT_kill _ [0]) (vss_one (vs_ret (vo_x (vxF vbool)))))))
      (vss_one (vs_ret (vo_x (vxF (winT hu (vidx_ (vv 0) vint) (vglobT T.c_ITEM_WORDS)))))))
theorem sc_circuit_sum : FnScope N_circuit_sum ["items"] (defScope s_circuit_sum) := ⟨rfl, rfl, rfl, by decide +kernel, rfl, by decide +kernel, by decide +kernel⟩
theorem ok_circuit_sum (T : Txt K mg) : FnOk P w K mg base (L2.CX P w) 6 T.f_circuit_sum T.d_circuit_sum ["items"] (spV K mg 1 m_circuit_sum) := by
  refine fn_frz (g := runB 3 g_circuit_sum) ?_
  refine fn_vl T.F_circuit_sum sc_circuit_sum rfl fun cdv A outer s H E hr => ?_
  have hu := hu65 hr
  have nd := sc_circuit_sum.nd
  have tk := takes_of (X := cxOf (L2.CX P w) P w K mg base N_circuit_sum "circuit_sum" (defScope s_circuit_sum) T.f_circuit_sum cdv A outer s H E) rfl rfl rfl rfl
  have hp := passes_of (X := cxOf (L2.CX P w) P w K mg base N_circuit_sum "circuit_sum" (defScope s_circuit_sum) T.f_circuit_sum cdv A outer s H E) rfl
  exact (qs_cons (vs_set 1 nd (vo_x (vxF (vglobT T.c_UNIT))))
      (qs_cons (vs_forK hp rfl (qix_F (vi_seq (vv 0))) (vg 2 nd) (rs_kill _ [0]) (envT_kill _ [2])
      (vss_one (vs_set 1 nd (vo_x (vxF (vcall (ok_pose_product T) (hr.mono (by decide)) T.g_pose_product T.F_pose_product.kp T.B_pose_product tk (van_cons (vv 1) (van_cons (vcall (ok_end_pose T) (hr.mono (by decide)) T.g_end_pose T.F_end_pose.kp T.B_end_pose tk (van_cons (vv 2) (van_cons vint van_nil))) van_nil))))))))
      (qs_t (envT_kill _ [2]) (vss_one (vs_ret (vo_x (vxF (vv 1))))))))
theorem sc_is_closed : FnScope N_is_closed ["items"] (defScope s_is_closed) := ⟨rfl, rfl, rfl, by decide +kernel, rfl, by decide +kernel, by decide +kernel⟩
theorem ok_is_closed (T : Txt K mg) : FnOk P w K mg base (L2.CX P w) 7 T.f_is_closed T.d_is_closed ["items"] (spV K mg 1 m_is_closed) := by
  refine fn_frz (g := runB 1 g_is_closed) ?_
  refine fn_vl T.F_is_closed sc_is_closed rfl fun cdv A outer s H E hr => ?_
  have hu := hu65 hr
  have nd := sc_is_closed.nd
  have tk := takes_of (X := cxOf (L2.CX P w) P w K mg base N_is_closed "is_closed" (defScope s_is_closed) T.f_is_closed cdv A outer s H E) rfl rfl rfl rfl
  have hp := passes_of (X := cxOf (L2.CX P w) P w K mg base N_is_closed "is_closed" (defScope s_is_closed) T.f_is_closed cdv A outer s H E) rfl
  exact (vss_one (vs_ret (vo_x (vxF (vand_ (vgt_ (vlen_ T.b_len (VAn.va (van_cons (vv 0) van_nil))) vint) (vone (veq_ hu (vcall (ok_circuit_sum T) (hr.mono (by decide)) T.g_circuit_sum T.F_circuit_sum.kp T.B_circuit_sum tk (van_cons (vv 0) van_nil)) (vglobT T.c_UNIT))))))))
theorem sc_straight_lengths : FnScope N_straight_lengths ["items"] (defScope s_straight_lengths) := ⟨rfl, rfl, rfl, by decide +kernel, rfl, by decide +kernel, by decide +kernel⟩
theorem ok_straight_lengths (T : Txt K mg) : FnOk P w K mg base (L2.CX P w) 1 T.f_straight_lengths T.d_straight_lengths ["items"] (spV K mg 1 m_straight_lengths) := by
  refine fn_frz (g := runB 2 g_straight_lengths) ?_
  refine fn_vl T.F_straight_lengths sc_straight_lengths rfl fun cdv A outer s H E hr => ?_
  have hu := hu65 hr
  have nd := sc_straight_lengths.nd
  have tk := takes_of (X := cxOf (L2.CX P w) P w K mg base N_straight_lengths "straight_lengths" (defScope s_straight_lengths) T.f_straight_lengths cdv A outer s H E) rfl rfl rfl rfl
  have hp := passes_of (X := cxOf (L2.CX P w) P w K mg base N_straight_lengths "straight_lengths" (defScope s_straight_lengths) T.f_straight_lengths cdv A outer s H E) rfl
  exact (vss_one (vs_ret (vo_x (vxF (VFr.ve (vsorted_f T.b_sorted (VFr.ve (qcomp rfl nd (vi_seq (vv 0)) (blkOk_by (own := [("item", 1)]) (N := N_straight_lengths) (sc := defScope s_straight_lengths) (by decide +kernel)) rfl (fun _ _ _ _ _ => (vg 1 nd)) (by decide) (fun _ _ _ _ _ => (vts_one (qeq hu (vidx_ (vv 1) vint) vstr))) (fun _ _ _ _ _ => (vidx_ (vv 1) vint))))))))))
theorem sc_curved_items : FnScope N_curved_items ["items"] (defScope s_curved_items) := ⟨rfl, rfl, rfl, by decide +kernel, rfl, by decide +kernel, by decide +kernel⟩
theorem ok_curved_items (T : Txt K mg) : FnOk P w K mg base (L2.CX P w) 1 T.f_curved_items T.d_curved_items ["items"] (spV K mg 1 m_curved_items) := by
  refine fn_frz (g := runB 2 g_curved_items) ?_
  refine fn_vl T.F_curved_items sc_curved_items rfl fun cdv A outer s H E hr => ?_
  have hu := hu65 hr
  have nd := sc_curved_items.nd
  have tk := takes_of (X := cxOf (L2.CX P w) P w K mg base N_curved_items "curved_items" (defScope s_curved_items) T.f_curved_items cdv A outer s H E) rfl rfl rfl rfl
  have hp := passes_of (X := cxOf (L2.CX P w) P w K mg base N_curved_items "curved_items" (defScope s_curved_items) T.f_curved_items cdv A outer s H E) rfl
  exact (vss_one (vs_ret (vo_x (vxF (VFr.ve (qcomp rfl nd (vi_seq (vv 0)) (blkOk_by (own := [("item", 1)]) (N := N_curved_items) (sc := defScope s_curved_items) (by decide +kernel)) rfl (fun _ _ _ _ _ => (vg 1 nd)) (by decide) (fun _ _ _ _ _ => (vts_one (qeq hu (vidx_ (vv 1) vint) vstr))) (fun _ _ _ _ _ => (vv 1))))))))
theorem sc_uses_up : FnScope N_uses_up ["box", "items"] (defScope s_uses_up) := ⟨rfl, rfl, rfl, by decide +kernel, rfl, by decide +kernel, by decide +kernel⟩
theorem ok_uses_up (T : Txt K mg) : FnOk P w K mg base (L2.CX P w) 2 T.f_uses_up T.d_uses_up ["box", "items"] (spV K mg 2 m_uses_up) := by
  refine fn_frz (g := runB 7 g_uses_up) ?_
  refine fn_vl T.F_uses_up sc_uses_up rfl fun cdv A outer s H E hr => ?_
  have hu := hu65 hr
  have nd := sc_uses_up.nd
  have tk := takes_of (X := cxOf (L2.CX P w) P w K mg base N_uses_up "uses_up" (defScope s_uses_up) T.f_uses_up cdv A outer s H E) rfl rfl rfl rfl
  have hp := passes_of (X := cxOf (L2.CX P w) P w K mg base N_uses_up "uses_up" (defScope s_uses_up) T.f_uses_up cdv A outer s H E) rfl
  exact (qs_cons (vs_tup (vg_tup rfl (vgs_cons (vg 2 nd) (vgs_cons (vg 3 nd) (vgs_cons (vg 4 nd) vgs_nil)))) (vxF (vv 0)))
      (qs_cons (vs_set 5 nd (vo_x (vxF (vcall (ok_curved_items T) (hr.mono (by decide)) T.g_curved_items T.F_curved_items.kp T.B_curved_items tk (van_cons (vv 1) van_nil)))))
      (qs_cons (vs_if (qx_T (VW.vt (vw_or (qne hu (vlen_ T.b_len (VAn.va (van_cons (vv 5) van_nil))) (vv 3)) (vw_or1 (vt_not (qtruth (vall_ rfl T.b_all (VAn.va (van_cons (VFr.ve (qcomp rfl nd (vi_seq (vv 5)) (blkOk_by (own := [("item", 6)]) (N := N_uses_up) (sc := defScope s_uses_up) (by decide +kernel)) rfl (fun _ _ _ _ _ => (vg 6 nd)) (by decide) (fun _ _ _ _ _ => vts_nil) (fun _ _ _ _ _ => (veq_ hu (vidx_ (vv 6) vint) (vv 4))))) van_nil)))))))))
      (vss_one (vs_ret (vo_x (vxF vbool))))
      (qs_t (envT_kill _ [0, 3, 4, 5]) qs_nil))
      (vss_one (vs_ret (vo_x (vxF (veq_ hu (vcall (ok_straight_lengths T) (hr.mono (by decide)) T.g_straight_lengths T.F_straight_lengths.kp T.B_straight_lengths tk (van_cons (vv 1) van_nil)) (VFr.ve (vsorted_f T.b_sorted (vv 2)))))))))))
theorem sc_is_halved : FnScope N_is_halved ["straights", "last"] (defScope s_is_halved) := ⟨rfl, rfl, rfl, by decide +kernel, rfl, by decide +kernel, by decide +kernel⟩
theorem ok_is_halved (T : Txt K mg) : FnOk P w K mg base (L2.CX P w) 1 T.f_is_halved T.d_is_halved ["straights", "last"] (spV K mg 2 m_is_halved) := by
  refine fn_frz (g := runB 3 g_is_halved) ?_
  refine fn_vl T.F_is_halved sc_is_halved rfl fun cdv A outer s H E hr => ?_
  have hu := hu65 hr
  have nd := sc_is_halved.nd
  have tk := takes_of (X := cxOf (L2.CX P w) P w K mg base N_is_halved "is_halved" (defScope s_is_halved) T.f_is_halved cdv A outer s H E) rfl rfl rfl rfl
  have hp := passes_of (X := cxOf (L2.CX P w) P w K mg base N_is_halved "is_halved" (defScope s_is_halved) T.f_is_halved cdv A outer s H E) rfl
  exact (qs_cons (vs_set 2 nd (vo_x (vxF (vsum_ rfl T.b_sum (VAn.va (van_cons (vv 0) van_nil))))))
      (vss_one (vs_ret (vo_x (vxF (vand_ (veq_ hu (vmod_ (vv 2) vint) vint) (vone (winX hu (vfdiv_ (vv 2) vint) (vv 1)))))))))
theorem sc_is_round : FnScope N_is_round ["box", "items"] (defScope s_is_round) := ⟨rfl, rfl, rfl, by decide +kernel, rfl, by decide +kernel, by decide +kernel⟩
theorem ok_is_round (T : Txt K mg) : FnOk P w K mg base (L2.CX P w) 8 T.f_is_round T.d_is_round ["box", "items"] (spV K mg 2 m_is_round) := by
  refine fn_frz (g := runB 3 g_is_round) ?_
  refine fn_vl T.F_is_round sc_is_round rfl fun cdv A outer s H E hr => ?_
  have hu := hu65 hr
  have nd := sc_is_round.nd
  have tk := takes_of (X := cxOf (L2.CX P w) P w K mg base N_is_round "is_round" (defScope s_is_round) T.f_is_round cdv A outer s H E) rfl rfl rfl rfl
  have hp := passes_of (X := cxOf (L2.CX P w) P w K mg base N_is_round "is_round" (defScope s_is_round) T.f_is_round cdv A outer s H E) rfl
  exact (qs_cons (vs_if (qx_T (vt_not (qtruth (vall_ rfl T.b_all (VAn.va (van_cons (VFr.ve (qcomp rfl nd (vi_seq (vv 1)) (blkOk_by (own := [("item", 2)]) (N := N_is_round) (sc := defScope s_is_round) (by decide +kernel)) rfl (fun _ _ _ _ _ => (vg 2 nd)) (by decide) (fun _ _ _ _ _ => vts_nil) (fun _ _ _ _ _ => (vcall (ok_is_item T) (hr.mono (by decide)) T.g_is_item T.F_is_item.kp T.B_is_item VL.takes0 (van_cons (vv 2) van_nil))))) van_nil))))))
      (vss_one (vs_ret (vo_x (vxF vbool))))
      qs_nil)
      (qs_cons (vs_if (qx_T (vt_not (qtruth (vall_ rfl T.b_all (VAn.va (van_cons (VFr.ve (qcomp rfl nd (vi_seq (vcall (ok_curved_items T) (hr.mono (by decide)) T.g_curved_items T.F_curved_items.kp T.B_curved_items tk (van_cons (vv 1) van_nil))) (blkOk_by (own := [("item", 2)]) (N := N_is_round) (sc := defScope s_is_round) (by decide +kernel)) rfl (fun _ _ _ _ _ => (vg 2 nd)) (by decide) (fun _ _ _ _ _ => vts_nil) (fun _ _ _ _ _ => (veq_ hu (vidx_ (vv 2) vint) vstr)))) van_nil))))))
      (vss_one (vs_ret (vo_x (vxF vbool))))
      qs_nil)
      (vss_one (vs_ret (vo_x (vxF (vand_ (vcall (ok_uses_up T) (hr.mono (by decide)) T.g_uses_up T.F_uses_up.kp T.B_uses_up tk (van_cons (vv 0) (van_cons (vv 1) van_nil))) (vone (vcall (ok_is_closed T) (hr.mono (by decide)) T.g_is_closed T.F_is_closed.kp T.B_is_closed tk (van_cons (vv 1) van_nil))))))))))
theorem sc_carries_on : FnScope N_carries_on ["sums", "after", "length"] (defScope s_carries_on) := ⟨rfl, rfl, rfl, by decide +kernel, rfl, by decide +kernel, by decide +kernel⟩
theorem ok_carries_on (T : Txt K mg) : FnOk P w K mg base (L2.CX P w) 1 T.f_carries_on T.d_carries_on ["sums", "after", "length"] (spV K mg 3 m_carries_on) := by
  refine fn_frz (g := runB 5 g_carries_on) ?_
  refine fn_vl T.F_carries_on sc_carries_on rfl fun cdv A outer s H E hr => ?_
  have hu := hu65 hr
  have nd := sc_carries_on.nd
  have tk := takes_of (X := cxOf (L2.CX P w) P w K mg base N_carries_on "carries_on" (defScope s_carries_on) T.f_carries_on cdv A outer s H E) rfl rfl rfl rfl
  have hp := passes_of (X := cxOf (L2.CX P w) P w K mg base N_carries_on "carries_on" (defScope s_carries_on) T.f_carries_on cdv A outer s H E) rfl
  exact (qs_cons (vs_set 3 nd (vo_x (vxF (vset_ rfl T.b_set (VAn.va (van_cons (vv 1) van_nil))))))
      (vss_one (vs_ret (vo_x (vxF (vall_ rfl T.b_all (VAn.va (van_cons (VFr.ve (qcomp rfl nd (vi_seq (vv 0)) (blkOk_by (own := [("value", 4)]) (N := N_carries_on) (sc := defScope s_carries_on) (by decide +kernel)) rfl (fun _ _ _ _ _ => (vg 4 nd)) (by decide) (fun _ _ _ _ _ => vts_nil) (fun _ _ _ _ _ => (vand_ (winS (vv 4) (vv 3)) (vone (winS (vadd_ (vv 4) (vv 2)) (vv 3))))))) van_nil))))))))
theorem sc_carries_all : FnScope N_carries_all ["straights", "sums"] (defScope s_carries_all) := ⟨rfl, rfl, rfl, by decide +kernel, rfl, by decide +kernel, by decide +kernel⟩
theorem ok_carries_all (T : Txt K mg) : FnOk P w K mg base (L2.CX P w) 2 T.f_carries_all T.d_carries_all ["straights", "sums"] (spV K mg 2 m_carries_all) := by
  refine fn_frz (g := runB 4 g_carries_all) ?_
  refine fn_vl T.F_carries_all sc_carries_all rfl fun cdv A outer s H E hr => ?_
  have hu := hu65 hr
  have nd := sc_carries_all.nd
  have tk := takes_of (X := cxOf (L2.CX P w) P w K mg base N_carries_all "carries_all" (defScope s_carries_all) T.f_carries_all cdv A outer s H E) rfl rfl rfl rfl
  have hp := passes_of (X := cxOf (L2.CX P w) P w K mg base N_carries_all "carries_all" (defScope s_carries_all) T.f_carries_all cdv A outer s H E) rfl
  exact (qs_cons (vs_if (qx_T (VW.vt (vw_or (qne hu (vlen_ T.b_len (VAn.va (van_cons (vv 1) van_nil))) (vadd_ (vlen_ T.b_len (VAn.va (van_cons (vv 0) van_nil))) vint)) (vw_or1 (qnotinX hu vint (vidx_ (vv 1) vint))))))
      (vss_one (vs_ret (vo_x (vxF vbool))))
      qs_nil)
      (vss_one (vs_ret (vo_x (vxF (vall_ rfl T.b_all (VAn.va (van_cons (VFr.ve (qcomp rfl nd (vi_enum T.b_enumerate (vv 0)) (blkOk_by (own := [("k", 2), ("length", 3)]) (N := N_carries_all) (sc := defScope s_carries_all) (by decide +kernel)) rfl (fun _ _ _ _ _ => (vg_tup rfl (vgs_cons (vg 2 nd) (vgs_cons (vg 3 nd) vgs_nil)))) (by decide) (fun _ _ _ _ _ => vts_nil) (fun _ _ _ _ _ => (vcall (ok_carries_on T) (hr.mono (by decide)) T.g_carries_on T.F_carries_on.kp T.B_carries_on VL.takes0 (van_cons (vix_ hu (vv 1) (vv 2)) (van_cons (vix_ hu (vv 1) (vadd_ (vv 2) vint)) (van_cons (vv 3) van_nil))))))) van_nil))))))))
theorem sc_shows_unequal : FnScope N_shows_unequal ["straights", "sums"] (defScope s_shows_unequal) := ⟨rfl, rfl, rfl, by decide +kernel, rfl, by decide +kernel, by decide +kernel⟩
theorem ok_shows_unequal (T : Txt K mg) : FnOk P w K mg base (L2.CX P w) 3 T.f_shows_unequal T.d_shows_unequal ["straights", "sums"] (spV K mg 2 m_shows_unequal) := by
  refine fn_frz (g := runB 2 g_shows_unequal) ?_
  refine fn_vl T.F_shows_unequal sc_shows_unequal rfl fun cdv A outer s H E hr => ?_
  have hu := hu65 hr
  have nd := sc_shows_unequal.nd
  have tk := takes_of (X := cxOf (L2.CX P w) P w K mg base N_shows_unequal "shows_unequal" (defScope s_shows_unequal) T.f_shows_unequal cdv A outer s H E) rfl rfl rfl rfl
  have hp := passes_of (X := cxOf (L2.CX P w) P w K mg base N_shows_unequal "shows_unequal" (defScope s_shows_unequal) T.f_shows_unequal cdv A outer s H E) rfl
  exact (vss_one (vs_ret (vo_x (vxF (vand_ (vcall (ok_carries_all T) (hr.mono (by decide)) T.g_carries_all T.F_carries_all.kp T.B_carries_all tk (van_cons (vv 0) (van_cons (vv 1) van_nil))) (vone (vnot_ (vcall (ok_is_halved T) (hr.mono (by decide)) T.g_is_halved T.F_is_halved.kp T.B_is_halved tk (van_cons (vv 0) (van_cons (vix_ hu (vv 1) (vneg_ vint)) van_nil))))))))))
theorem sc_judge_round : FnScope N_judge_round ["box", "verdict"] (defScope s_judge_round) := ⟨rfl, rfl, rfl, by decide +kernel, rfl, by decide +kernel, by decide +kernel⟩
theorem ok_judge_round (T : Txt K mg) : FnOk P w K mg base (L2.CX P w) 9 T.f_judge_round T.d_judge_round ["box", "verdict"] (spV K mg 2 m_judge_round) := by
  refine fn_frz (g := runB 4 g_judge_round) ?_
  refine fn_vl T.F_judge_round sc_judge_round rfl fun cdv A outer s H E hr => ?_
  have hu := hu65 hr
  have nd := sc_judge_round.nd
  have tk := takes_of (X := cxOf (L2.CX P w) P w K mg base N_judge_round "judge_round" (defScope s_judge_round) T.f_judge_round cdv A outer s H E) rfl rfl rfl rfl
  have hp := passes_of (X := cxOf (L2.CX P w) P w K mg base N_judge_round "judge_round" (defScope s_judge_round) T.f_judge_round cdv A outer s H E) rfl
  exact (qs_cons (vs_tup (vg_tup rfl (vgs_cons (vg 2 nd) (vgs_cons (vg 3 nd) vgs_nil))) (vxF (vv 1)))
      (qs_cons (vs_if (qx_T (qne hu (vidx_ (vv 0) vint) (vglobT T.c_ROUND_CURVES)))
      (vss_one (vs_ret (vo_x (vxF vbool))))
      (qs_t (envT_kill _ [1]) qs_nil))
      (qs_cons (vs_if (qx_T (qeq hu (vv 2) vstr))
      (vss_one (vs_ret (vo_x (vxF (vcall (ok_is_round T) (hr.mono (by decide)) T.g_is_round T.F_is_round.kp T.B_is_round tk (van_cons (vv 0) (van_cons (vv 3) van_nil)))))))
      qs_nil)
      (vss_one (vs_ret (vo_x (vxF (vand_ (veq_ hu (vv 2) vstr) (vone (vcall (ok_shows_unequal T) (hr.mono (by decide)) T.g_shows_unequal T.F_shows_unequal.kp T.B_shows_unequal tk (van_cons (vidx_ (vv 0) vint) (van_cons (vv 3) van_nil))))))))))))
theorem sc_law_cell : FnScope N_law_cell ["script", "k"] (defScope s_law_cell) := ⟨rfl, rfl, rfl, by decide +kernel, rfl, by decide +kernel, by decide +kernel⟩
theorem ok_law_cell (T : Txt K mg) : FnOk P w K mg base (L2.CX P w) 1 T.f__law_cell T.d__law_cell ["script", "k"] (spV K mg 2 m_law_cell) := by
  refine fn_frz (g := runB 2 g_law_cell) ?_
  refine fn_vl T.F__law_cell sc_law_cell rfl fun cdv A outer s H E hr => ?_
  have hu := hu65 hr
  have nd := sc_law_cell.nd
  have tk := takes_of (X := cxOf (L2.CX P w) P w K mg base N_law_cell "_law_cell" (defScope s_law_cell) T.f__law_cell cdv A outer s H E) rfl rfl rfl rfl
  have hp := passes_of (X := cxOf (L2.CX P w) P w K mg base N_law_cell "_law_cell" (defScope s_law_cell) T.f__law_cell cdv A outer s H E) rfl
  exact (qs_cons (vs_if (qx_T (qlt (vv 1) (vlen_ T.b_len (VAn.va (van_cons (vv 0) van_nil)))))
      (vss_one (vs_ret (vo_x (vxF (vint_ T.b_int (VAn.va (van_cons (vix_ hu (vv 0) (vv 1)) van_nil)))))))
      (qs_t (envT_kill _ [0, 1]) qs_nil))
      (vss_one (vs_ret (vo_x (vxF vint)))))
theorem sc_law_numbers : FnScope N_law_numbers ["cell", "count", "limit"] (defScope s_law_numbers) := ⟨rfl, rfl, rfl, by decide +kernel, rfl, by decide +kernel, by decide +kernel⟩
theorem ok_law_numbers (T : Txt K mg) : FnOk P w K mg base (L2.CX P w) 1 T.f__law_numbers T.d__law_numbers ["cell", "count", "limit"] (spV K mg 3 m_law_numbers) := by
  refine fn_frz (g := runB 6 g_law_numbers) ?_
  refine fn_vl T.F__law_numbers sc_law_numbers rfl fun cdv A outer s H E hr => ?_
  have hu := hu65 hr
  have nd := sc_law_numbers.nd
  have tk := takes_of (X := cxOf (L2.CX P w) P w K mg base N_law_numbers "_law_numbers" (defScope s_law_numbers) T.f__law_numbers cdv A outer s H E) rfl rfl rfl rfl
  have hp := passes_of (X := cxOf (L2.CX P w) P w K mg base N_law_numbers "_law_numbers" (defScope s_law_numbers) T.f__law_numbers cdv A outer s H E) rfl
  exact (qs_cons (vs_set 3 nd (vo_frF (vlst_f van_nil)))
      (qs_cons (vs_if (qx_T (qge (vv 0) (vpow_ vint vint)))
      (qs_cons (vs_forK hp rfl (vix_range1 T.b_range (vxF (vv 1))) (vg 4 nd) (rs_kill _ [1]) (envT_kill _ [4])
      (qs_cons (vs_app 3 (fun p => pe_bm PySem.F.plainAttrs_list PySem.F.slot_list_append PySem.F.type_list_append mt_append (pv 3) (pa_cons p pa_nil)) (vo_x (vxF (vmod_ (vint_ T.b_int (VAn.va (van_cons (vv 0) van_nil))) (vv 2)))))
      (vss_one (vs_set 0 nd (vo_x (vxF (vfdiv_ (vint_ T.b_int (VAn.va (van_cons (vv 0) van_nil))) (vv 2))))))))
      (qs_t (envT_kill _ [0, 2, 4]) (qs_t (envT_freeze _ [3]) (vss_one (vs_ret (vo_x (vxF (vv 3))))))))
      qs_nil)
      (qs_cons (vs_forK hp rfl (vix_range1 T.b_range (vxF (vv 1))) (vg 4 nd) (rs_kill _ [1]) (envT_kill _ [4, 5])
      (qs_cons (vs_set 5 nd (vo_x (vxF (vmod_ (vint_ T.b_int (VAn.va (van_cons (vadd_ (vadd_ (vmul_ (vv 0) vint) (vmul_ (vv 4) vint)) vint) van_nil))) vint))))
      (qs_cons (vs_set 5 nd (vo_x (vxF (vmod_ (vint_ T.b_int (VAn.va (van_cons (vadd_ (vadd_ (vadd_ (vmul_ (vv 5) (vv 5)) (vmul_ (vv 5) vint)) (vmul_ (vv 4) vint)) vint) van_nil))) vint))))
      (vss_one (vs_app 3 (fun p => pe_bm PySem.F.plainAttrs_list PySem.F.slot_list_append PySem.F.type_list_append mt_append (pv 3) (pa_cons p pa_nil)) (vo_x (vxF (vmod_ (vint_ T.b_int (VAn.va (van_cons (vfdiv_ (vv 5) vint) van_nil))) (vv 2)))))))))
      (qs_t (envT_kill _ [0, 2, 4, 5]) (qs_t (envT_freeze _ [3]) (vss_one (vs_ret (vo_x (vxF (vv 3))))))))))
theorem sc_law_size : FnScope N_law_size ["number"] (defScope s_law_size) := ⟨rfl, rfl, rfl, by decide +kernel, rfl, by decide +kernel, by decide +kernel⟩
theorem ok_law_size (T : Txt K mg) : FnOk P w K mg base (L2.CX P w) 1 T.f__law_size T.d__law_size ["number"] (spV K mg 1 m_law_size) := by
  refine fn_frz (g := runB 3 g_law_size) ?_
  refine fn_vl T.F__law_size sc_law_size rfl fun cdv A outer s H E hr => ?_
  have hu := hu65 hr
  have nd := sc_law_size.nd
  have tk := takes_of (X := cxOf (L2.CX P w) P w K mg base N_law_size "_law_size" (defScope s_law_size) T.f__law_size cdv A outer s H E) rfl rfl rfl rfl
  have hp := passes_of (X := cxOf (L2.CX P w) P w K mg base N_law_size "_law_size" (defScope s_law_size) T.f__law_size cdv A outer s H E) rfl
  exact (qs_cons (vs_set 1 nd (vo_x (vxF (vmod_ (vint_ T.b_int (VAn.va (van_cons (vv 0) van_nil))) vint))))
      (qs_cons (vs_set 2 nd (vo_x (vxF (vfdiv_ (vint_ T.b_int (VAn.va (van_cons (vv 0) van_nil))) vint))))
      (qs_cons (vs_if (qx_T (qeq hu (vv 1) vint))
      (vss_one (vs_ret (vo_x (vxF (vadd_ vint (vmod_ (vv 2) vint))))))
      (qs_t (envT_kill _ [0]) qs_nil))
      (qs_cons (vs_if (qx_T (qeq hu (vv 1) vint))
      (vss_one (vs_ret (vo_x (vxF (vadd_ vint (vmod_ (vv 2) vint))))))
      qs_nil)
      (qs_cons (vs_if (qx_T (qeq hu (vv 1) vint))
      (vss_one (vs_ret (vo_x (vxF (vsub_ vint (vmod_ (vv 2) vint))))))
      (qs_t (envT_kill _ [1]) qs_nil))
      (vss_one (vs_ret (vo_x (vxF (vadd_ vint (vmod_ (vv 2) vint)))))))))))
theorem sc_law_straights : FnScope N_law_straights ["cell", "other", "most"] (defScope s_law_straights) := ⟨rfl, rfl, rfl, by decide +kernel, rfl, by decide +kernel, by decide +kernel⟩
theorem ok_law_straights (T : Txt K mg) : FnOk P w K mg base (L2.CX P w) 2 T.f__law_straights T.d__law_straights ["cell", "other", "most"] (spV K mg 3 m_law_straights) := by
  refine fn_frz (g := runB 11 g_law_straights) ?_
  refine fn_vl T.F__law_straights sc_law_straights rfl fun cdv A outer s H E hr => ?_
  have hu := hu65 hr
  have nd := sc_law_straights.nd
  have tk := takes_of (X := cxOf (L2.CX P w) P w K mg base N_law_straights "_law_straights" (defScope s_law_straights) T.f__law_straights cdv A outer s H E) rfl rfl rfl rfl
  have hp := passes_of (X := cxOf (L2.CX P w) P w K mg base N_law_straights "_law_straights" (defScope s_law_straights) T.f__law_straights cdv A outer s H E) rfl
  exact (qs_cons (vs_set 3 nd (vo_x (vxF (vcall (ok_law_numbers T) (hr.mono (by decide)) T.g__law_numbers T.F__law_numbers.kp T.B__law_numbers tk (van_cons (vv 0) (van_cons vint (van_cons vint van_nil)))))))
      (qs_cons (vs_set 4 nd (vo_x (vxF (vmod_ (vidx_ (vv 3) vint) (vadd_ (vv 2) vint)))))
      (qs_cons (qsetLc 5 mode_F rfl nd rfl rfl (sw_true rfl rfl rfl (by decide +kernel)) (vi_seq (vcall (ok_law_numbers T) (hr.mono (by decide)) T.g__law_numbers T.F__law_numbers.kp T.B__law_numbers tk (van_cons (vv 1) (van_cons (vv 4) (van_cons vint van_nil))))) (blkOk_by (own := [("number", 10)]) (N := N_law_straights) (sc := defScope s_law_straights) (by decide +kernel)) rfl (fun _ _ _ _ _ => (vg 10 nd)) (by decide) (fun _ _ _ _ _ => vts_nil) (fun _ _ _ _ _ => (vcall (ok_law_size T) (hr.mono (by decide)) T.g__law_size T.F__law_size.kp T.B__law_size VL.takes0 (van_cons (vv 10) van_nil))))
      (qs_cons (vs_set 6 nd (vo_x (vxF (vmod_ (vidx_ (vv 3) vint) vint))))
      (qs_cons (vs_if (qx_T (qeq hu (vv 6) vint))
      (qs_t (envT_freeze _ [5]) (vss_one (vs_ret (vo_x (vxF (VFr.ve (qcomp rfl nd (vi_seq (vcall (ok_law_numbers T) (hr.mono (by decide)) T.g__law_numbers T.F__law_numbers.kp T.B__law_numbers tk (van_cons (vv 1) (van_cons (vv 4) (van_cons (vadd_ vint (vmod_ (vidx_ (vv 3) vint) vint)) van_nil))))) (blkOk_by (own := [("number", 10)]) (N := N_law_straights) (sc := defScope s_law_straights) (by decide +kernel)) rfl (fun _ _ _ _ _ => (vg 10 nd)) (by decide) (fun _ _ _ _ _ => vts_nil) (fun _ _ _ _ _ => (vadd_ vint (vv 10))))))))))
      (qs_t (envT_kill _ [0, 1]) qs_nil))
      (qs_cons (vs_if (qx_T (qeq hu (vv 6) vint))
      (qs_t (envT_freeze _ [5]) (qs_cons (vs_set 7 nd (vo_frF (vlst_f van_nil)))
      (qs_t (envT_kill _ [4, 6]) (qs_cons (vs_forK hp rfl (qix_F (vi_seq (vslice_ (vv 5) qo_none (qo_some (vfdiv_ (vv 2) vint))))) (vg 8 nd) (rs_kill _ [2, 5]) (envT_kill _ [8])
      (qs_cons (vs_insP (fun po q p => pe_bm PySem.F.plainAttrs_list PySem.F.slot_list_insert PySem.F.type_list_insert mt_insert po (pa_cons q (pa_cons p pa_nil))) (vpl_var 7 (pv 7)) (vxB (vmod_ (vidx_ (vv 3) vint) (vadd_ (vlen_ T.b_len (VAn.va (van_cons (vv 7) van_nil))) vint))) (von_x (vxF (vv 8))))
      (vss_one (vs_app 7 (fun p => pe_bm PySem.F.plainAttrs_list PySem.F.slot_list_append PySem.F.type_list_append mt_append (pv 7) (pa_cons p pa_nil)) (vo_x (vxF (vv 8)))))))
      (qs_t (envT_kill _ [3, 8]) (qs_t (envT_freeze _ [7]) (vss_one (vs_ret (vo_x (vxF (vv 7)))))))))))
      (qs_t (envT_kill _ [2]) qs_nil))
      (qs_cons (vs_if (qx_T (VW.vt (vw_and (qeq hu (vv 6) vint) (vw_and1 (qgt (vv 4) vint)))))
      (qs_cons (vs_expr (vo_pop 5 (pe_bm0 PySem.F.plainAttrs_list PySem.F.slot_list_pop PySem.F.type_list_pop mt_pop (pv 5))))
      (qs_cons (vs_set 9 nd (vo_x (vxF vint)))
      (qs_t (envT_kill _ [6]) (qs_cons (vs_forO 5 hp rfl (vg 8 nd) (rs_kill _ []) (envT_kill _ [8])
      (vss_one (vs_if (qx_T (qgt (vv 9) vint))
      (qs_cons (vs_set 9 nd (vo_x (vxF (vsub_ (vv 9) (vv 8)))))
      (qs_t (envT_kill _ [8]) qs_nil))
      (qs_cons (vs_set 9 nd (vo_x (vxF (vadd_ (vv 9) (vv 8)))))
      (qs_t (envT_kill _ [8]) qs_nil)))))
      (vss_one (vs_if (qx_T (qne hu (vv 9) vint))
      (qs_cons (vs_insP (fun po q p => pe_bm PySem.F.plainAttrs_list PySem.F.slot_list_insert PySem.F.type_list_insert mt_insert po (pa_cons q (pa_cons p pa_nil))) (vpl_var 5 (pv 5)) (vxF (vmod_ (vidx_ (vv 3) vint) (vv 4))) (von_x (vxF (vabs_ T.b_abs (VAn.va (van_cons (vv 9) van_nil))))))
      (qs_t (envT_freeze _ [5]) (qs_t (envT_kill _ [3, 4, 9]) qs_nil)))
      (qs_t (envT_freeze _ [5]) (qs_t (envT_kill _ [3, 4, 9]) qs_nil))))))))
      (qs_t (envT_freeze _ [5]) (qs_t (envT_kill _ [3, 4, 6]) qs_nil)))
      (vss_one (vs_ret (vo_x (vxF (vv 5))))))))))))
theorem sc_law_sums : FnScope N_law_sums ["straights"] (defScope s_law_sums) := ⟨rfl, rfl, rfl, by decide +kernel, rfl, by decide +kernel, by decide +kernel⟩
theorem ok_law_sums (T : Txt K mg) : FnOk P w K mg base (L2.CX P w) 1 T.f__law_sums T.d__law_sums ["straights"] (spV K mg 1 m_law_sums) := by
  refine fn_frz (g := runB 5 g_law_sums) ?_
  refine fn_vl T.F__law_sums sc_law_sums rfl fun cdv A outer s H E hr => ?_
  have hu := hu65 hr
  have nd := sc_law_sums.nd
  have tk := takes_of (X := cxOf (L2.CX P w) P w K mg base N_law_sums "_law_sums" (defScope s_law_sums) T.f__law_sums cdv A outer s H E) rfl rfl rfl rfl
  have hp := passes_of (X := cxOf (L2.CX P w) P w K mg base N_law_sums "_law_sums" (defScope s_law_sums) T.f__law_sums cdv A outer s H E) rfl
  exact (qs_cons (vs_set 1 nd (vo_frF (vlst_f (van_cons (VFr.ve (vlst_f (van_cons vint van_nil))) van_nil))))
      (qs_cons (vs_forK hp rfl (qix_F (vi_seq (vv 0))) (vg 2 nd) (rs_kill _ [0]) (envT_kill _ [2, 3, 4])
      (qs_cons (vs_set 3 nd (vo_dct false))
      (qs_t (envT_kill _ [0]) (qs_cons (vs_for hp rfl (vix_seqX (vx_fz (vpl_idx (vpl_var 1 (pv 1)) (vxB (vsub_ (vlen_ T.b_len (VAn.va (van_cons (vv 1) van_nil))) vint))))) (vg 4 nd) (envT_kill _ [4])
      (qs_cons (vs_setX T.kno hu (fun p po q => ps_asg p (pg_sub po q set_list)) (vpl_var 3 (pv 3)) (vxF (vv 4)) (vo_x (vxF vbool)))
      (vss_one (vs_setX T.kno hu (fun p po q => ps_asg p (pg_sub po q set_list)) (vpl_var 3 (pv 3)) (vxF (vadd_ (vv 4) (vv 2))) (vo_x (vxF vbool))))))
      (qs_t (envT_kill _ [2, 4]) (qs_t (envT_freeze _ [3]) (vss_one (vs_app 1 (fun p => pe_bm PySem.F.plainAttrs_list PySem.F.slot_list_append PySem.F.type_list_append mt_append (pv 1) (pa_cons p pa_nil)) (vo_x (vxF (VFr.ve (vsorted_f T.b_sorted (VFr.ve (vkeys_f rfl T.b_list (vv 3)))))))))))))))
      (qs_t (envT_kill _ [3]) (qs_t (envT_freeze _ [1]) (vss_one (vs_ret (vo_x (vxF (vv 1)))))))))
theorem sc_law_accepted : FnScope N_law_accepted ["box", "sums"] (defScope s_law_accepted) := ⟨rfl, rfl, rfl, by decide +kernel, rfl, by decide +kernel, by decide +kernel⟩
theorem ok_law_accepted (T : Txt K mg) : FnOk P w K mg base (L2.CX P w) 1 T.f__law_accepted T.d__law_accepted ["box", "sums"] (spV K mg 2 m_law_accepted) := by
  refine fn_frz (g := runB 7 g_law_accepted) ?_
  refine fn_vl T.F__law_accepted sc_law_accepted rfl fun cdv A outer s H E hr => ?_
  have hu := hu65 hr
  have nd := sc_law_accepted.nd
  have tk := takes_of (X := cxOf (L2.CX P w) P w K mg base N_law_accepted "_law_accepted" (defScope s_law_accepted) T.f__law_accepted cdv A outer s H E) rfl rfl rfl rfl
  have hp := passes_of (X := cxOf (L2.CX P w) P w K mg base N_law_accepted "_law_accepted" (defScope s_law_accepted) T.f__law_accepted cdv A outer s H E) rfl
  exact (qs_cons (vs_set 2 nd (vo_x (vxF (vidx_ (vv 0) vint))))
      (qs_cons (vs_if (qx_T (VW.vt (vw_or (qne hu (vidx_ (vv 0) vint) vint) (vw_or (qne hu (vlen_ T.b_len (VAn.va (van_cons (vv 1) van_nil))) (vadd_ (vlen_ T.b_len (VAn.va (van_cons (vv 2) van_nil))) vint)) (vw_or1 (qnotinX hu vint (vidx_ (vv 1) vint)))))))
      (vss_one (vs_ret (vo_x (vxF vbool))))
      (qs_t (envT_kill _ [0]) qs_nil))
      (qs_cons (vs_for hp rfl (vix_range1 T.b_range (vxF (vlen_ T.b_len (VAn.va (van_cons (vv 2) van_nil))))) (vg 3 nd) (envT_kill _ [3, 4, 5])
      (qs_cons (vs_set 4 nd (vo_dct false))
      (qs_cons (vs_for hp rfl (qix_F (vi_seq (vix_ hu (vv 1) (vadd_ (vv 3) vint)))) (vg 5 nd) (envT_kill _ [5])
      (vss_one (vs_setX T.kno hu (fun p po q => ps_asg p (pg_sub po q set_list)) (vpl_var 4 (pv 4)) (vxF (vv 5)) (vo_x (vxF vbool)))))
      (qs_t (envT_kill _ [5]) (qs_t (envT_freeze _ [4]) (vss_one (vs_for hp rfl (qix_F (vi_seq (vix_ hu (vv 1) (vv 3)))) (vg 5 nd) (envT_kill _ [5])
      (vss_one (vs_if (qx_T (VW.vt (vw_or (qnotinX hu (vv 5) (vv 4)) (vw_or1 (qnotinX hu (vadd_ (vv 5) (vix_ hu (vv 2) (vv 3))) (vv 4))))))
      (vss_one (vs_ret (vo_x (vxF vbool))))
      (qs_t (envT_kill _ [5]) qs_nil))))))))))
      (qs_t (envT_kill _ [3, 4]) (qs_cons (vs_set 6 nd (vo_x (vxF (vsum_ rfl T.b_sum (VAn.va (van_cons (vv 2) van_nil))))))
      (vss_one (vs_ret (vo_x (vxF (vor_ (veq_ hu (vmod_ (vv 6) vint) vint) (vone (wnotinX hu (vfdiv_ (vv 6) vint) (vix_ hu (vv 1) (vlen_ T.b_len (VAn.va (van_cons (vv 2) van_nil))))))))))))))))
theorem sc_law_carried : FnScope N_law_carried ["lengths", "sums", "at", "number"] (defScope s_law_carried) := ⟨rfl, rfl, rfl, by decide +kernel, rfl, by decide +kernel, by decide +kernel⟩
theorem ok_law_carried (T : Txt K mg) : FnOk P w K mg base (L2.CX P w) 1 T.f__law_carried T.d__law_carried ["lengths", "sums", "at", "number"] (spV K mg 4 m_law_carried) := by
  refine fn_frz (g := runB 9 g_law_carried) ?_
  refine fn_vl T.F__law_carried sc_law_carried rfl fun cdv A outer s H E hr => ?_
  have hu := hu65 hr
  have nd := sc_law_carried.nd
  have tk := takes_of (X := cxOf (L2.CX P w) P w K mg base N_law_carried "_law_carried" (defScope s_law_carried) T.f__law_carried cdv A outer s H E) rfl rfl rfl rfl
  have hp := passes_of (X := cxOf (L2.CX P w) P w K mg base N_law_carried "_law_carried" (defScope s_law_carried) T.f__law_carried cdv A outer s H E) rfl
  exact (qs_cons (qsetLc 4 mode_F rfl nd rfl rfl (sw_true rfl rfl rfl (by decide +kernel)) (vi_seq (vv 1)) (blkOk_by (own := [("row", 7)]) (N := N_law_carried) (sc := defScope s_law_carried) (by decide +kernel)) rfl (fun _ _ _ _ _ => (vg 7 nd)) (by decide) (fun _ _ _ _ _ => vts_nil) (fun _ _ _ _ _ => (VFr.ve (vlist_f T.b_list (vv 7)))))
      (qs_cons (vs_set 5 nd (vo_x (vxF (VFr.ve (vlst_f (van_cons (vv 3) van_nil))))))
      (qs_t (envT_kill _ [3]) (qs_cons (vs_forK hp rfl (vix_range2 T.b_range (vxF (vv 2)) (vxF (vlen_ T.b_len (VAn.va (van_cons (vv 1) van_nil))))) (vg 6 nd) (rs_kill _ [1, 2]) (envT_kill _ [6])
      (qs_cons (vs_setX T.kno hu (fun p po q => ps_asg p (pg_sub po q set_list)) (vpl_var 4 (pv 4)) (vxF (vv 6)) (vo_x (vx_add (vx_fz (vpl_idx (vpl_var 4 (pv 4)) (vxF (vv 6)))) (vxF (vv 5)))))
      (vss_one (vs_if (qx_T (qlt (vv 6) (vlen_ T.b_len (VAn.va (van_cons (vv 0) van_nil)))))
      (qs_cons (vs_set 5 nd (vo_x (vxF (vadd_ (vv 5) (VFr.ve (qcomp rfl nd (vi_seq (vv 5)) (blkOk_by (own := [("value", 8)]) (N := N_law_carried) (sc := defScope s_law_carried) (by decide +kernel)) rfl (fun _ _ _ _ _ => (vg 8 nd)) (by decide) (fun _ _ _ _ _ => vts_nil) (fun _ _ _ _ _ => (vadd_ (vv 8) (vix_ hu (vv 0) (vv 6))))))))))
      (qs_t (envT_kill _ [1, 2, 6]) qs_nil))
      (qs_t (envT_kill _ [1, 2, 6]) qs_nil)))))
      (qs_t (envT_kill _ [0, 5]) (qs_t (envT_freeze _ [4]) (vss_one (vs_ret (vo_x (vxF (vv 4)))))))))))
theorem sc_law_with : FnScope N_law_with ["sums", "at", "row"] (defScope s_law_with) := ⟨rfl, rfl, rfl, by decide +kernel, rfl, by decide +kernel, by decide +kernel⟩
theorem ok_law_with (T : Txt K mg) : FnOk P w K mg base (L2.CX P w) 1 T.f__law_with T.d__law_with ["sums", "at", "row"] (spV K mg 3 m_law_with) := by
  refine fn_frz (g := runB 4 g_law_with) ?_
  refine fn_vl T.F__law_with sc_law_with rfl fun cdv A outer s H E hr => ?_
  have hu := hu65 hr
  have nd := sc_law_with.nd
  have tk := takes_of (X := cxOf (L2.CX P w) P w K mg base N_law_with "_law_with" (defScope s_law_with) T.f__law_with cdv A outer s H E) rfl rfl rfl rfl
  have hp := passes_of (X := cxOf (L2.CX P w) P w K mg base N_law_with "_law_with" (defScope s_law_with) T.f__law_with cdv A outer s H E) rfl
  exact (vss_one (vs_ret (vo_x (vxF (vadd_ (vadd_ (VFr.ve (qcomp rfl nd (vi_seq (vslice_ (vv 0) qo_none (qo_some (vv 1)))) (blkOk_by (own := [("one", 3)]) (N := N_law_with) (sc := defScope s_law_with) (by decide +kernel)) rfl (fun _ _ _ _ _ => (vg 3 nd)) (by decide) (fun _ _ _ _ _ => vts_nil) (fun _ _ _ _ _ => (VFr.ve (vlist_f T.b_list (vv 3)))))) (VFr.ve (vlst_f (van_cons (VFr.ve (vlist_f T.b_list (vv 2))) van_nil)))) (VFr.ve (qcomp rfl nd (vi_seq (vslice_ (vv 0) (qo_some (vadd_ (vv 1) vint)) qo_none)) (blkOk_by (own := [("one", 3)]) (N := N_law_with) (sc := defScope s_law_with) (by decide +kernel)) rfl (fun _ _ _ _ _ => (vg 3 nd)) (by decide) (fun _ _ _ _ _ => vts_nil) (fun _ _ _ _ _ => (VFr.ve (vlist_f T.b_list (vv 3)))))))))))
theorem sc_law_variants : FnScope N_law_variants ["lengths", "sums", "draws"] (defScope s_law_variants) := ⟨rfl, rfl, rfl, by decide +kernel, rfl, by decide +kernel, by decide +kernel⟩
theorem ok_law_variants (T : Txt K mg) : FnOk P w K mg base (L2.CX P w) 2 T.f__law_variants T.d__law_variants ["lengths", "sums", "draws"] (spV K mg 3 m_law_variants) := by
  refine fn_frz (g := runB 12 g_law_variants) ?_
  refine fn_vl T.F__law_variants sc_law_variants rfl fun cdv A outer s H E hr => ?_
  have hu := hu65 hr
  have nd := sc_law_variants.nd
  have tk := takes_of (X := cxOf (L2.CX P w) P w K mg base N_law_variants "_law_variants" (defScope s_law_variants) T.f__law_variants cdv A outer s H E) rfl rfl rfl rfl
  have hp := passes_of (X := cxOf (L2.CX P w) P w K mg base N_law_variants "_law_variants" (defScope s_law_variants) T.f__law_variants cdv A outer s H E) rfl
  exact (qs_cons (vs_set 3 nd (vo_x (vxF (vmod_ (vidx_ (vv 2) vint) (vlen_ T.b_len (VAn.va (van_cons (vv 1) van_nil)))))))
      (qs_cons (vs_set 4 nd (vo_x (vxF (vix_ hu (vv 1) (vv 3)))))
      (qs_cons (vs_set 5 nd (vo_x (vxF (vmod_ (vidx_ (vv 2) vint) (vlen_ T.b_len (VAn.va (van_cons (vv 4) van_nil)))))))
      (qs_cons (vs_set 6 nd (vo_x (vxF (vfdiv_ (vsum_ rfl T.b_sum (VAn.va (van_cons (vv 0) van_nil))) vint))))
      (qs_cons (vs_set 7 nd (vo_x (vxF (vadd_ (vsub_ (vmod_ (vidx_ (vv 2) vint) vint) vint) (vmul_ (vv 6) (vmod_ (vidx_ (vv 2) vint) vint))))))
      (qs_cons (vs_set 8 nd (vo_frF (vlst_f (van_cons (vv 1) (van_cons (VFr.ve (qcomp rfl nd (vi_seq (vv 1)) (blkOk_by (own := [("one", 10)]) (N := N_law_variants) (sc := defScope s_law_variants) (by decide +kernel)) rfl (fun _ _ _ _ _ => (vg 10 nd)) (by decide) (fun _ _ _ _ _ => vts_nil) (fun _ _ _ _ _ => (VFr.ve (vlrev_f rfl T.b_list T.b_reversed (vv 10)))))) (van_cons (VFr.ve (qcomp rfl nd (vi_seq (vv 1)) (blkOk_by (own := [("one", 10)]) (N := N_law_variants) (sc := defScope s_law_variants) (by decide +kernel)) rfl (fun _ _ _ _ _ => (vg 10 nd)) (by decide) (fun _ _ _ _ _ => vts_nil) (fun _ _ _ _ _ => (vadd_ (vv 10) (vslice_ (vv 10) qo_none (qo_some vint)))))) van_nil))))))
      (qs_cons (vs_app 8 (fun p => pe_bm PySem.F.plainAttrs_list PySem.F.slot_list_append PySem.F.type_list_append mt_append (pv 8) (pa_cons p pa_nil)) (vo_x (vxF (vcall (ok_law_carried T) (hr.mono (by decide)) T.g__law_carried T.F__law_carried.kp T.B__law_carried tk (van_cons (vv 0) (van_cons (vv 1) (van_cons (vv 3) (van_cons (vv 7) van_nil))))))))
      (qs_cons (vs_app 8 (fun p => pe_bm PySem.F.plainAttrs_list PySem.F.slot_list_append PySem.F.type_list_append mt_append (pv 8) (pa_cons p pa_nil)) (vo_x (vxF (vcall (ok_law_carried T) (hr.mono (by decide)) T.g__law_carried T.F__law_carried.kp T.B__law_carried tk (van_cons (vv 0) (van_cons (vv 1) (van_cons vint (van_cons (vsub_ (vidx_ (vv 2) vint) vint) van_nil))))))))
      (qs_cons (vs_app 8 (fun p => pe_bm PySem.F.plainAttrs_list PySem.F.slot_list_append PySem.F.type_list_append mt_append (pv 8) (pa_cons p pa_nil)) (vo_x (vxF (vcall (ok_law_with T) (hr.mono (by decide)) T.g__law_with T.F__law_with.kp T.B__law_with tk (van_cons (vv 1) (van_cons (vv 3) (van_cons (vadd_ (vv 4) (VFr.ve (vlst_f (van_cons (vv 7) van_nil)))) van_nil)))))))
      (qs_cons (vs_app 8 (fun p => pe_bm PySem.F.plainAttrs_list PySem.F.slot_list_append PySem.F.type_list_append mt_append (pv 8) (pa_cons p pa_nil)) (vo_x (vxF (vcall (ok_law_with T) (hr.mono (by decide)) T.g__law_with T.F__law_with.kp T.B__law_with tk (van_cons (vv 1) (van_cons (vv 3) (van_cons (vadd_ (vslice_ (vv 4) qo_none (qo_some (vv 5))) (vslice_ (vv 4) (qo_some (vadd_ (vv 5) vint)) qo_none)) van_nil)))))))
      (qs_cons (vs_app 8 (fun p => pe_bm PySem.F.plainAttrs_list PySem.F.slot_list_append PySem.F.type_list_append mt_append (pv 8) (pa_cons p pa_nil)) (vo_x (vxF (vcall (ok_law_with T) (hr.mono (by decide)) T.g__law_with T.F__law_with.kp T.B__law_with tk (van_cons (vv 1) (van_cons (vv 3) (van_cons (vadd_ (vadd_ (vslice_ (vv 4) qo_none (qo_some (vv 5))) (VFr.ve (vlst_f (van_cons (vadd_ (vix_ hu (vv 4) (vv 5)) vint) van_nil)))) (vslice_ (vv 4) (qo_some (vadd_ (vv 5) vint)) qo_none)) van_nil)))))))
      (qs_cons (vs_app 8 (fun p => pe_bm PySem.F.plainAttrs_list PySem.F.slot_list_append PySem.F.type_list_append mt_append (pv 8) (pa_cons p pa_nil)) (vo_x (vxF (vcall (ok_law_with T) (hr.mono (by decide)) T.g__law_with T.F__law_with.kp T.B__law_with tk (van_cons (vv 1) (van_cons (vv 3) (van_cons (VFr.ve (vlst_f van_nil)) van_nil)))))))
      (qs_cons (vs_set 9 nd (vo_x (vxF (vsub_ (vlen_ T.b_len (VAn.va (van_cons (vv 1) van_nil))) vint))))
      (qs_cons (vs_app 8 (fun p => pe_bm PySem.F.plainAttrs_list PySem.F.slot_list_append PySem.F.type_list_append mt_append (pv 8) (pa_cons p pa_nil)) (vo_x (vxF (vcall (ok_law_with T) (hr.mono (by decide)) T.g__law_with T.F__law_with.kp T.B__law_with tk (van_cons (vv 1) (van_cons (vv 9) (van_cons (vadd_ (vix_ hu (vv 1) (vv 9)) (VFr.ve (vlst_f (van_cons (vv 6) van_nil)))) van_nil)))))))
      (qs_cons (vs_app 8 (fun p => pe_bm PySem.F.plainAttrs_list PySem.F.slot_list_append PySem.F.type_list_append mt_append (pv 8) (pa_cons p pa_nil)) (vo_x (vxF (vcall (ok_law_with T) (hr.mono (by decide)) T.g__law_with T.F__law_with.kp T.B__law_with tk (van_cons (vv 1) (van_cons (vv 9) (van_cons (VFr.ve (qcomp rfl nd (vi_seq (vix_ hu (vv 1) (vv 9))) (blkOk_by (own := [("value", 11)]) (N := N_law_variants) (sc := defScope s_law_variants) (by decide +kernel)) rfl (fun _ _ _ _ _ => (vg 11 nd)) (by decide) (fun _ _ _ _ _ => (vts_one (qne hu (vv 11) (vv 6)))) (fun _ _ _ _ _ => (vv 11)))) van_nil)))))))
      (qs_cons (vs_app 8 (fun p => pe_bm PySem.F.plainAttrs_list PySem.F.slot_list_append PySem.F.type_list_append mt_append (pv 8) (pa_cons p pa_nil)) (vo_x (vxF (vcall (ok_law_with T) (hr.mono (by decide)) T.g__law_with T.F__law_with.kp T.B__law_with tk (van_cons (vv 1) (van_cons (vv 9) (van_cons (VFr.ve (qlist_rg1 rfl T.b_list T.b_range (vadd_ (vmod_ (vsum_ rfl T.b_sum (VAn.va (van_cons (vv 0) van_nil))) vint) vint))) van_nil)))))))
      (qs_cons (vs_app 8 (fun p => pe_bm PySem.F.plainAttrs_list PySem.F.slot_list_append PySem.F.type_list_append mt_append (pv 8) (pa_cons p pa_nil)) (vo_x (vxF (vcall (ok_law_with T) (hr.mono (by decide)) T.g__law_with T.F__law_with.kp T.B__law_with tk (van_cons (vv 1) (van_cons vint (van_cons (VFr.ve (vlst_f (van_cons vint van_nil))) van_nil)))))))
      (qs_t (envT_freeze _ [8]) (qs_cons (vs_set 8 nd (vo_x (vxF (vadd_ (vv 8) (VFr.ve (vlst_f (van_cons (vslice_ (vv 1) qo_none (qo_some (vneg_ vint))) (van_cons (vslice_ (vv 1) (qo_some vint) qo_none) (van_cons (vadd_ (VFr.ve (vlst_f (van_cons (VFr.ve (vlst_f (van_cons vint van_nil))) van_nil))) (vv 1)) (van_cons (vadd_ (vv 1) (VFr.ve (vlst_f (van_cons (vix_ hu (vv 1) (vv 9)) van_nil)))) (van_cons (vadd_ (vv 1) (VFr.ve (vlst_f (van_cons (VFr.ve (vlst_f van_nil)) van_nil)))) (van_cons (VFr.ve (vlst_f van_nil)) van_nil))))))))))))
      (vss_one (vs_ret (vo_x (vxF (vv 8))))))))))))))))))))))))
theorem sc_law : FnScope N_law ["script"] (defScope s_law) := ⟨rfl, rfl, rfl, by decide +kernel, rfl, by decide +kernel, by decide +kernel⟩
theorem ok_law (T : Txt K mg) : FnOk P w K mg base (L2.CX P w) 10 T.f_law T.d_law ["script"] (spV K mg 1 m_law) := by
  refine fn_frz (g := runB 15 g_law) ?_
  refine fn_vl T.F_law sc_law rfl fun cdv A outer s H E hr => ?_
  have hu := hu65 hr
  have nd := sc_law.nd
  have tk := takes_of (X := cxOf (L2.CX P w) P w K mg base N_law "law" (defScope s_law) T.f_law cdv A outer s H E) rfl rfl rfl rfl
  have hp := passes_of (X := cxOf (L2.CX P w) P w K mg base N_law "law" (defScope s_law) T.f_law cdv A outer s H E) rfl
  exact (qs_cons (vs_set 1 nd (vo_x (vxF (vcall (ok_law_numbers T) (hr.mono (by decide)) T.g__law_numbers T.F__law_numbers.kp T.B__law_numbers tk (van_cons (vcall (ok_law_cell T) (hr.mono (by decide)) T.g__law_cell T.F__law_cell.kp T.B__law_cell tk (van_cons (vv 0) (van_cons vint van_nil))) (van_cons vint (van_cons vint van_nil)))))))
      (qs_cons (vs_set 2 nd (vo_x (vxF (vcall (ok_law_straights T) (hr.mono (by decide)) T.g__law_straights T.F__law_straights.kp T.B__law_straights tk (van_cons (vcall (ok_law_cell T) (hr.mono (by decide)) T.g__law_cell T.F__law_cell.kp T.B__law_cell tk (van_cons (vv 0) (van_cons vint van_nil))) (van_cons (vcall (ok_law_cell T) (hr.mono (by decide)) T.g__law_cell T.F__law_cell.kp T.B__law_cell tk (van_cons (vv 0) (van_cons vint van_nil))) (van_cons vint van_nil)))))))
      (qs_cons (vs_set 3 nd (vo_x (vxF (vcall (ok_law_size T) (hr.mono (by decide)) T.g__law_size T.F__law_size.kp T.B__law_size tk (van_cons (vidx_ (vv 1) vint) van_nil)))))
      (qs_cons (vs_set 4 nd (vo_x (vxF (vcall (ok_law_sums T) (hr.mono (by decide)) T.g__law_sums T.F__law_sums.kp T.B__law_sums tk (van_cons (vv 2) van_nil)))))
      (qs_cons (qsetLc 5 mode_Z rfl nd rfl rfl (sw_true rfl rfl rfl (by decide +kernel)) (vi_seq (vv 4)) (blkOk_by (own := [("row", 14)]) (N := N_law) (sc := defScope s_law) (by decide +kernel)) rfl (fun _ _ _ _ _ => (vg 14 nd)) (by decide) (fun _ _ _ _ _ => vts_nil) (fun _ _ _ _ _ => (VFr.ve (vlist_f T.b_list (vv 14)))))
      (qs_cons (vs_if (qx_T (VW.vt (vw_and (qtruth (vcall (ok_law_accepted T) (hr.mono (by decide)) T.g__law_accepted T.F__law_accepted.kp T.B__law_accepted tk (van_cons (vtup_ (van_cons (vv 2) (van_cons vint van_nil))) (van_cons (vv 4) van_nil)))) (vw_and1 (qisn (vcall (ok_judge_round T) (hr.mono (by decide)) T.g_judge_round T.F_judge_round.kp T.B_judge_round tk (van_cons (vtup_ (van_cons (VFr.ve (vlist_f T.b_list (vv 2))) (van_cons vint (van_cons (vv 3) van_nil)))) (van_cons (vtup_ (van_cons vstr (van_cons (vv 5) van_nil))) van_nil))) vbool)))))
      (vss_one (vs_ret (vo_x (vxF vbool))))
      (qs_t (envT_kill _ [0]) qs_nil))
      (qs_cons (vs_set 6 nd (vo_x (vxF (VFr.ve (vlst_f (van_cons (vtup_ (van_cons (vv 2) (van_cons vint van_nil))) (van_cons (vtup_ (van_cons (vv 2) (van_cons (vmod_ (vidx_ (vv 1) vint) vint) van_nil))) (van_cons (vtup_ (van_cons (vv 2) (van_cons vint van_nil))) (van_cons (vtup_ (van_cons (VFr.ve (vlrev_f rfl T.b_list T.b_reversed (vv 2))) (van_cons vint van_nil))) (van_cons (vtup_ (van_cons (vadd_ (vv 2) (VFr.ve (vlst_f (van_cons vint van_nil)))) (van_cons vint van_nil))) van_nil))))))))))
      (qs_cons (vs_forK hp rfl (qix_F (vi_seq (vcall (ok_law_variants T) (hr.mono (by decide)) T.g__law_variants T.F__law_variants.kp T.B__law_variants tk (van_cons (vv 2) (van_cons (vv 4) (van_cons (vv 1) van_nil)))))) (vg 7 nd) (rs_kill _ [1, 4]) (envT_kill _ [7, 8, 9, 10, 11, 12])
      (qs_t (envT_kill _ [1, 4]) (vss_one (vs_for hp rfl (qix_F (vi_seq (vv 6))) (vg_tup rfl (vgs_cons (vg 8 nd) (vgs_cons (vg 9 nd) vgs_nil))) (envT_kill _ [8, 9, 10, 11, 12])
      (qs_cons (vs_set 10 nd (vo_x (vxF (VFr.ve (vlist_f T.b_list (vv 8))))))
      (qs_cons (qsetLc 11 mode_Z rfl nd rfl rfl (sw_true rfl rfl rfl (by decide +kernel)) (vi_seq (vv 7)) (blkOk_by (own := [("row", 14)]) (N := N_law) (sc := defScope s_law) (by decide +kernel)) rfl (fun _ _ _ _ _ => (vg 14 nd)) (by decide) (fun _ _ _ _ _ => vts_nil) (fun _ _ _ _ _ => (VFr.ve (vlist_f T.b_list (vv 14)))))
      (qs_cons (vs_set 12 nd (vo_x (vxF (vcall (ok_judge_round T) (hr.mono (by decide)) T.g_judge_round T.F_judge_round.kp T.B_judge_round tk (van_cons (vtup_ (van_cons (vv 10) (van_cons (vv 9) (van_cons (vv 3) van_nil)))) (van_cons (vtup_ (van_cons vstr (van_cons (vv 11) van_nil))) van_nil))))))
      (qs_cons (vs_if (qx_T (VW.vt (vw_or (vt_not (qtruth (visi_ ty_bool T.b_isinstance T.b_bool (by decide +kernel) (vv 12)))) (vw_or1 (qne hu (vv 12) (vcall (ok_law_accepted T) (hr.mono (by decide)) T.g__law_accepted T.F__law_accepted.kp T.B__law_accepted tk (van_cons (vtup_ (van_cons (vv 8) (van_cons (vv 9) van_nil))) (van_cons (vv 7) van_nil))))))))
      (vss_one (vs_ret (vo_x (vxF vbool))))
      (qs_t (envT_kill _ [9, 12]) qs_nil))
      (vss_one (vs_if (qx_T (VW.vt (vw_or (qne hu (vv 10) (vv 8)) (vw_or1 (qne hu (vv 11) (vv 7))))))
      (vss_one (vs_ret (vo_x (vxF vbool))))
      (qs_t (envT_kill _ [8, 10, 11]) qs_nil)))))))))))
      (qs_t (envT_kill _ [6, 7]) (qs_cons (vs_for hp rfl (qix_F (vi_seq (VFr.ve (vlst_f (van_cons vstr (van_cons vstr (van_cons vstr (van_cons vstr van_nil)))))))) (vg 13 nd) (envT_kill _ [13])
      (vss_one (vs_if (qx_T (qisn (vcall (ok_judge_round T) (hr.mono (by decide)) T.g_judge_round T.F_judge_round.kp T.B_judge_round tk (van_cons (vtup_ (van_cons (VFr.ve (vlist_f T.b_list (vv 2))) (van_cons vint (van_cons (vv 3) van_nil)))) (van_cons (vtup_ (van_cons (vv 13) (van_cons (vv 5) van_nil))) van_nil))) vbool))
      (vss_one (vs_ret (vo_x (vxF vbool))))
      (qs_t (envT_kill _ [13]) qs_nil))))
      (qs_t (envT_kill _ [2, 3, 5]) (vss_one (vs_ret (vo_x (vxF vbool)))))))))))))))
end
end LW
namespace LW
open PySem PySem.Spec PyProof.Rows VL
noncomputable section
abbrev kt_ROUND_CURVES : Int := 8
abbrev kt_ORIGIN : (T4 Int Int Int Int) := ⟨0, 0, 0, 0⟩
abbrev kt_UNIT : ((T4 Int Int Int Int) × Int) := ⟨kt_ORIGIN, 0⟩
abbrev kt_ITEM_WORDS : (Tup Str) := ⟨["straight", "curve"]⟩
abbrev kt_BACK_END : ((T4 Int Int Int Int) × Int) := ⟨⟨0, 0, 0, 0⟩, 4⟩
abbrev kt_SIDES : (Tup Str) := ⟨["left", "right"]⟩
abbrev kt_DIRECTIONS : Int := 8
abbrev kt_MOST_RISE : Int := 99
abbrev kt_MOST_LENGTH : Int := 9999
def t_spot_sum (one : (Tup Int)) (other : (Tup Int)) : R (T4 Int Int Int Int) := TR.fn (l := Empty) (σ := Unit) ((b4 mk4 (b2 taddI (b2 tidxV (R.ok one) (R.ok (0 : Int))) (b2 tidxV (R.ok other) (R.ok (0 : Int)))) (b2 taddI (b2 tidxV (R.ok one) (R.ok (1 : Int))) (b2 tidxV (R.ok other) (R.ok (1 : Int)))) (b2 taddI (b2 tidxV (R.ok one) (R.ok (2 : Int))) (b2 tidxV (R.ok other) (R.ok (2 : Int)))) (b2 taddI (b2 tidxV (R.ok one) (R.ok (3 : Int))) (b2 tidxV (R.ok other) (R.ok (3 : Int))))).tr fun r_ => TR.rt r_) (fun _ => .stuck)
def t_eighth_turned (spot : (Tup Int)) : R (T4 Int Int Int Int) := TR.fn (l := Empty) (σ := Unit) ((b4 mk4 (b1 tnegI (b2 tidxV (R.ok spot) (R.ok (3 : Int)))) (b2 tidxV (R.ok spot) (R.ok (0 : Int))) (b2 tidxV (R.ok spot) (R.ok (1 : Int))) (b2 tidxV (R.ok spot) (R.ok (2 : Int)))).tr fun r_ => TR.rt r_) (fun _ => .stuck)
def t_spot_turned_1 (u_ : Int) (found : (Tup Int)) : TR (Tup Int) (Tup Int) (Tup Int) := ((b1 t_eighth_turned (R.ok found)).tr fun found => (TR.nx (⟨[(found).1, (found).2, (found).3, (found).4]⟩ : (Tup Int))))
abbrev E_spot_turned_1 : (Tup Int) → OEnv := fun s_ => match s_ with | found => [none, none, some (oF found), none]
def t_spot_turned (spot : (Tup Int)) (direction : Int) : R (Tup Int) := TR.fn (l := Empty) (σ := Unit) ((b1 tid (R.ok spot)).tr fun found => ((b1 trange1 (b2 tmodI (b1 tint (R.ok direction)) (R.ok kt_DIRECTIONS))).tr fun xs_ => (forT (fun u_ found => t_spot_turned_1 u_ found) xs_ found).bind fun found => ((R.ok found).tr fun r_ => TR.rt r_))) (fun _ => .stuck)
def t_ray (units : Int) (direction : Int) : R (Tup Int) := TR.fn (l := Empty) (σ := Unit) ((b2 t_spot_turned (b1 c4V (b4 mk4 (R.ok units) (R.ok (0 : Int)) (R.ok (0 : Int)) (R.ok (0 : Int)))) (R.ok direction)).tr fun r_ => TR.rt r_) (fun _ => .stuck)
def t_pose_product (one : ((T4 Int Int Int Int) × Int)) (other : ((Tup Int) × Int)) : R ((T4 Int Int Int Int) × Int) := TR.fn (l := Empty) (σ := Unit) ((b2 t_spot_sum (b1 c4V (b1 (pj Prod.fst) (R.ok one))) (b2 t_spot_turned (b1 (pj Prod.fst) (R.ok other)) (b1 (pj Prod.snd) (R.ok one)))).tr fun spot => ((b2 mk2 (R.ok spot) (b2 tmodI (b1 tint (b2 taddI (b1 (pj Prod.snd) (R.ok one)) (b1 (pj Prod.snd) (R.ok other)))) (R.ok kt_DIRECTIONS))).tr fun r_ => TR.rt r_)) (fun _ => .stuck)
def t_is_whole (value : Int) : R Bool := TR.fn (l := Empty) (σ := Unit) ((tandB (b1 (tK true) (R.ok value)) (b1 tnotB (b1 (tK false) (R.ok value)))).tr fun r_ => TR.rt r_) (fun _ => .stuck)
def t_is_length (value : Int) : R Bool := TR.fn (l := Empty) (σ := Unit) ((tandB (b1 t_is_whole (R.ok value)) (tchain tleI tleI (R.ok (1 : Int)) (R.ok value) (R.ok kt_MOST_LENGTH))).tr fun r_ => TR.rt r_) (fun _ => .stuck)
def t_is_rise (value : Int) : R Bool := TR.fn (l := Empty) (σ := Unit) ((tandB (b1 t_is_whole (R.ok value)) (tandB (b2 tne (R.ok value) (R.ok (0 : Int))) (tchain tleI tleI (b1 tnegI (R.ok kt_MOST_RISE)) (R.ok value) (R.ok kt_MOST_RISE)))).tr fun r_ => TR.rt r_) (fun _ => .stuck)
def t_is_curve (values : (List Int)) : R Bool := TR.fn (l := Empty) (σ := Unit) ((tandB (b2 teq (b1 tlen (R.ok values)) (R.ok (2 : Int))) (tandB (b1 t_is_length (b2 tidx (R.ok values) (R.ok (0 : Int)))) (b2 (dB vInT) (b1 cUp (b2 tidx (R.ok values) (R.ok (1 : Int)))) (b1 cUp (R.ok kt_SIDES))))).tr fun r_ => TR.rt r_) (fun _ => .stuck)
def t_is_points (values : (List Int)) : R Bool := TR.fn (l := Empty) (σ := Unit) ((tandB (b2 teq (b1 tlen (R.ok values)) (R.ok (3 : Int))) (tandB (b1 t_is_length (b2 tidx (R.ok values) (R.ok (0 : Int)))) (b1 t_is_curve (b3 tcut (R.ok values) (b1 tpart (R.ok (1 : Int))) (R.ok none))))).tr fun r_ => TR.rt r_) (fun _ => .stuck)
def t_is_cross (values : (List Int)) : R Bool := TR.fn (l := Empty) (σ := Unit) (tite (torB (b2 tne (b1 tlen (R.ok values)) (R.ok (2 : Int))) (torB (b1 tnotB (b1 tid (b1 t_is_length (b2 tidx (R.ok values) (R.ok (0 : Int)))))) (b1 tnotB (b1 tid (b1 t_is_whole (b2 tidx (R.ok values) (R.ok (1 : Int)))))))) ((R.ok false).tr fun r_ => TR.rt r_) ((tandB (b2 teq (b2 tmodI (b2 tidx (R.ok values) (R.ok (0 : Int))) (R.ok (2 : Int))) (R.ok (0 : Int))) (tchain tleI tleI (R.ok (1 : Int)) (b2 tidx (R.ok values) (R.ok (1 : Int))) (R.ok (3 : Int)))).tr fun r_ => TR.rt r_)) (fun _ => .stuck)
def t_is_ramp (values : (List Int)) : R Bool := TR.fn (l := Empty) (σ := Unit) ((tandB (b2 teq (b1 tlen (R.ok values)) (R.ok (2 : Int))) (tandB (b1 t_is_length (b2 tidx (R.ok values) (R.ok (0 : Int)))) (b1 t_is_rise (b2 tidx (R.ok values) (R.ok (1 : Int)))))).tr fun r_ => TR.rt r_) (fun _ => .stuck)
def t_is_plain (values : (List Int)) : R Bool := TR.fn (l := Empty) (σ := Unit) ((tandB (b2 teq (b1 tlen (R.ok values)) (R.ok (1 : Int))) (b1 t_is_length (b2 tidx (R.ok values) (R.ok (0 : Int))))).tr fun r_ => TR.rt r_) (fun _ => .stuck)
def t_is_piece (piece : (List Int)) : R Bool := TR.fn (l := Empty) (σ := Unit) (tite (torB (b1 tnotB (b1 tid (b1 (tK false) (R.ok piece)))) (b2 teq (b1 tlen (R.ok piece)) (R.ok (0 : Int)))) ((R.ok false).tr fun r_ => TR.rt r_) ((b2 tidx (R.ok piece) (R.ok (0 : Int))).tr fun word => (tite (b2 (dB vInT) (b1 cUp (R.ok word)) (b1 cUp (b1 mkV (tcons (R.ok ("straight" : Str)) (tcons (R.ok ("gap" : Str)) (tcons (R.ok ("stop" : Str)) (R.ok ([] : List Str)))))))) ((b1 t_is_plain (b3 tcut (R.ok piece) (b1 tpart (R.ok (1 : Int))) (R.ok none))).tr fun r_ => TR.rt r_) (tite (b2 (dB veq) (b1 cUp (R.ok word)) (b1 cUp (R.ok ("curve" : Str)))) ((b1 t_is_curve (b3 tcut (R.ok piece) (b1 tpart (R.ok (1 : Int))) (R.ok none))).tr fun r_ => TR.rt r_) (tite (b2 (dB veq) (b1 cUp (R.ok word)) (b1 cUp (R.ok ("points" : Str)))) ((b1 t_is_points (b3 tcut (R.ok piece) (b1 tpart (R.ok (1 : Int))) (R.ok none))).tr fun r_ => TR.rt r_) (tite (b2 (dB veq) (b1 cUp (R.ok word)) (b1 cUp (R.ok ("cross" : Str)))) ((b1 t_is_cross (b3 tcut (R.ok piece) (b1 tpart (R.ok (1 : Int))) (R.ok none))).tr fun r_ => TR.rt r_) ((tandB (b2 (dB veq) (b1 cUp (R.ok word)) (b1 cUp (R.ok ("ramp" : Str)))) (b1 t_is_ramp (b3 tcut (R.ok piece) (b1 tpart (R.ok (1 : Int))) (R.ok none)))).tr fun r_ => TR.rt r_))))))) (fun _ => .stuck)
def t_check_piece (piece : (List Int)) : R Unit := TR.fn (l := Empty) (σ := Unit) (tite (b1 tnotB (b1 tid (b1 t_is_piece (R.ok piece)))) (TR.err "InvalidPiece") (TR.nx ())) (fun _ => R.ok ())
def t_end_count (piece : (List Int)) : R Int := TR.fn (l := Empty) (σ := Unit) (tite (b2 (dB veq) (b1 cUp (b2 tidx (R.ok piece) (R.ok (0 : Int)))) (b1 cUp (R.ok ("stop" : Str)))) ((R.ok (1 : Int)).tr fun r_ => TR.rt r_) (tite (b2 (dB veq) (b1 cUp (b2 tidx (R.ok piece) (R.ok (0 : Int)))) (b1 cUp (R.ok ("points" : Str)))) ((R.ok (3 : Int)).tr fun r_ => TR.rt r_) (tite (b2 (dB veq) (b1 cUp (b2 tidx (R.ok piece) (R.ok (0 : Int)))) (b1 cUp (R.ok ("cross" : Str)))) ((R.ok (4 : Int)).tr fun r_ => TR.rt r_) ((R.ok (2 : Int)).tr fun r_ => TR.rt r_)))) (fun _ => .stuck)
def t_check_end (piece : (List Int)) (end_ : Int) : R Unit := TR.fn (l := Empty) (σ := Unit) (tite (b1 tnotB (tchain tleI tltI (R.ok (0 : Int)) (R.ok end_) (b1 t_end_count (R.ok piece)))) (TR.err "NoSuchEnd") (TR.nx ())) (fun _ => R.ok ())
def t_curved_end (radius : Int) (side : Int) : R ((T4 Int Int Int Int) × Int) := TR.fn (l := Empty) (σ := Unit) (tite (b2 (dB veq) (b1 cUp (R.ok side)) (b1 cUp (R.ok ("left" : Str)))) ((b2 mk2 (b2 t_spot_sum (b2 t_ray (R.ok radius) (R.ok (2 : Int))) (b2 t_ray (R.ok radius) (R.ok (7 : Int)))) (R.ok (1 : Int))).tr fun r_ => TR.rt r_) ((b2 mk2 (b2 t_spot_sum (b2 t_ray (R.ok radius) (R.ok (6 : Int))) (b2 t_ray (R.ok radius) (R.ok (1 : Int)))) (R.ok (7 : Int))).tr fun r_ => TR.rt r_)) (fun _ => .stuck)
def t_straight_end (length : Int) : R ((Tup Int) × Int) := TR.fn (l := Empty) (σ := Unit) ((b2 mk2 (b2 t_ray (R.ok length) (R.ok (0 : Int))) (R.ok (0 : Int))).tr fun r_ => TR.rt r_) (fun _ => .stuck)
def t_cross_end (length : Int) (turn : Int) (end_ : Int) : R ((T4 Int Int Int Int) × Int) := TR.fn (l := Empty) (σ := Unit) ((b2 tfdivI (R.ok length) (R.ok (2 : Int))).tr fun half => (tite (b2 teq (R.ok end_) (R.ok (2 : Int))) ((b2 mk2 (b2 t_spot_sum (b2 t_ray (R.ok half) (R.ok (0 : Int))) (b2 t_ray (R.ok half) (b2 taddI (R.ok turn) (R.ok (4 : Int))))) (b2 taddI (R.ok turn) (R.ok (4 : Int)))).tr fun r_ => TR.rt r_) ((b2 mk2 (b2 t_spot_sum (b2 t_ray (R.ok half) (R.ok (0 : Int))) (b2 t_ray (R.ok half) (R.ok turn))) (R.ok turn)).tr fun r_ => TR.rt r_))) (fun _ => .stuck)
def t_end_pose (piece : (List Int)) (end_ : Int) : R ((Tup Int) × Int) := TR.fn (l := Empty) (σ := Unit) ((b2 t_check_end (R.ok piece) (R.ok end_)).tr fun _ => (tite (b2 teq (R.ok end_) (R.ok (0 : Int))) ((R.ok kt_BACK_END).tr fun r_ => TR.rt ⟨(⟨[((r_).1).1, ((r_).1).2, ((r_).1).3, ((r_).1).4]⟩ : (Tup Int)), (r_).2⟩) (tite (b2 (dB veq) (b1 cUp (b2 tidx (R.ok piece) (R.ok (0 : Int)))) (b1 cUp (R.ok ("curve" : Str)))) ((b2 t_curved_end (b2 tidx (R.ok piece) (R.ok (1 : Int))) (b2 tidx (R.ok piece) (R.ok (2 : Int)))).tr fun r_ => TR.rt ⟨(⟨[((r_).1).1, ((r_).1).2, ((r_).1).3, ((r_).1).4]⟩ : (Tup Int)), (r_).2⟩) (tite (tandB (b2 (dB veq) (b1 cUp (b2 tidx (R.ok piece) (R.ok (0 : Int)))) (b1 cUp (R.ok ("points" : Str)))) (b2 teq (R.ok end_) (R.ok (2 : Int)))) ((b2 t_curved_end (b2 tidx (R.ok piece) (R.ok (2 : Int))) (b2 tidx (R.ok piece) (R.ok (3 : Int)))).tr fun r_ => TR.rt ⟨(⟨[((r_).1).1, ((r_).1).2, ((r_).1).3, ((r_).1).4]⟩ : (Tup Int)), (r_).2⟩) (tite (tandB (b2 (dB veq) (b1 cUp (b2 tidx (R.ok piece) (R.ok (0 : Int)))) (b1 cUp (R.ok ("cross" : Str)))) (b2 tgeI (R.ok end_) (R.ok (2 : Int)))) ((b3 t_cross_end (b2 tidx (R.ok piece) (R.ok (1 : Int))) (b2 tidx (R.ok piece) (R.ok (2 : Int))) (R.ok end_)).tr fun r_ => TR.rt ⟨(⟨[((r_).1).1, ((r_).1).2, ((r_).1).3, ((r_).1).4]⟩ : (Tup Int)), (r_).2⟩) ((b1 t_straight_end (b2 tidx (R.ok piece) (R.ok (1 : Int)))).tr fun r_ => TR.rt r_)))))) (fun _ => .stuck)
def t_is_item (item : (List Int)) : R Bool := TR.fn (l := Empty) (σ := Unit) (TR.bind (σ := Unit) (ttry ((b1 t_check_piece (R.ok item)).tr fun _ => (TR.nx ())) tb_InvalidPiece ((R.ok false).tr fun r_ => TR.rt r_)) fun _ => ((b2 (dB vInT) (b1 cUp (b2 tidx (R.ok item) (R.ok (0 : Int)))) (b1 cUp (R.ok kt_ITEM_WORDS))).tr fun r_ => TR.rt r_)) (fun _ => .stuck)
def t_circuit_sum_1 (item : (List Int)) (found : ((T4 Int Int Int Int) × Int)) : TR ((T4 Int Int Int Int) × Int) ((T4 Int Int Int Int) × Int) ((T4 Int Int Int Int) × Int) := ((b2 t_pose_product (R.ok found) (b2 t_end_pose (R.ok item) (R.ok (1 : Int)))).tr fun found => (TR.nx found))
abbrev E_circuit_sum_1 : ((T4 Int Int Int Int) × Int) → OEnv := fun s_ => match s_ with | found => [none, some (oF found), none]
def t_circuit_sum (items : (List (List Int))) : R ((T4 Int Int Int Int) × Int) := TR.fn (l := Empty) (σ := Unit) ((R.ok kt_UNIT).tr fun found => ((R.ok items).tr fun xs_ => (forT (fun item found => t_circuit_sum_1 item found) xs_ found).bind fun found => ((R.ok found).tr fun r_ => TR.rt r_))) (fun _ => .stuck)
def t_is_closed (items : (List (List Int))) : R Bool := TR.fn (l := Empty) (σ := Unit) ((tandB (b2 tgtI (b1 tlen (R.ok items)) (R.ok (0 : Int))) (b2 teq (b1 t_circuit_sum (R.ok items)) (R.ok kt_UNIT))).tr fun r_ => TR.rt r_) (fun _ => .stuck)
def t_straight_lengths (items : (List (List Int))) : R (List Int) := TR.fn (l := Empty) (σ := Unit) ((b1 tsort ((R.ok items).bind fun xs_ => (tcomp (fun item => (b2 (dB veq) (b1 cUp (b2 tidx (R.ok item) (R.ok (0 : Int)))) (b1 cUp (R.ok ("straight" : Str))))) (fun item => (b2 tidx (R.ok item) (R.ok (1 : Int)))) xs_).calm)).tr fun r_ => TR.rt r_) (fun _ => .stuck)
def t_curved_items (items : (List (List Int))) : R (List (List Int)) := TR.fn (l := Empty) (σ := Unit) (((R.ok items).bind fun xs_ => (tcomp (fun item => (b2 (dB veq) (b1 cUp (b2 tidx (R.ok item) (R.ok (0 : Int)))) (b1 cUp (R.ok ("curve" : Str))))) (fun item => (R.ok item)) xs_).calm).tr fun r_ => TR.rt r_) (fun _ => .stuck)
def t_uses_up (box : (T3 (List Int) Int Int)) (items : (List (List Int))) : R Bool := TR.fn (l := Empty) (σ := Unit) ((R.ok box).tr fun ⟨straights, curves, radius⟩ => ((b1 t_curved_items (R.ok items)).tr fun bent => (tite (torB (b2 tne (b1 tlen (R.ok bent)) (R.ok curves)) (b1 tnotB (b1 tid (b1 tallB ((R.ok bent).bind fun xs_ => (tmap (fun item => (b2 teq (b2 tidx (R.ok item) (R.ok (1 : Int))) (R.ok radius))) xs_).calm))))) ((R.ok false).tr fun r_ => TR.rt r_) ((b2 teq (b1 t_straight_lengths (R.ok items)) (b1 tsort (R.ok straights))).tr fun r_ => TR.rt r_)))) (fun _ => .stuck)
def t_is_halved (straights : (List Int)) (last : (List Int)) : R Bool := TR.fn (l := Empty) (σ := Unit) ((b1 tsum (R.ok straights)).tr fun total => ((tandB (b2 teq (b2 tmodI (R.ok total) (R.ok (2 : Int))) (R.ok (0 : Int))) (b2 tin (b2 tfdivI (R.ok total) (R.ok (2 : Int))) (R.ok last))).tr fun r_ => TR.rt r_)) (fun _ => .stuck)
def t_is_round (box : (T3 (List Int) Int Int)) (items : (List (List Int))) : R Bool := TR.fn (l := Empty) (σ := Unit) (tite (b1 tnotB (b1 tid (b1 tallB ((R.ok items).bind fun xs_ => (tmap (fun item => (b1 t_is_item (R.ok item))) xs_).calm)))) ((R.ok false).tr fun r_ => TR.rt r_) (tite (b1 tnotB (b1 tid (b1 tallB ((b1 t_curved_items (R.ok items)).bind fun xs_ => (tmap (fun item => (b2 (dB veq) (b1 cUp (b2 tidx (R.ok item) (R.ok (2 : Int)))) (b1 cUp (R.ok ("left" : Str))))) xs_).calm)))) ((R.ok false).tr fun r_ => TR.rt r_) ((tandB (b2 t_uses_up (R.ok box) (R.ok items)) (b1 t_is_closed (R.ok items))).tr fun r_ => TR.rt r_))) (fun _ => .stuck)
def t_carries_on (sums : (List Int)) (after : (List Int)) (length : Int) : R Bool := TR.fn (l := Empty) (σ := Unit) ((b1 tmkS (R.ok after)).tr fun known => ((b1 tallB ((R.ok sums).bind fun xs_ => (tmap (fun value => (tandB (b2 tinS (R.ok value) (R.ok known)) (b2 tinS (b2 taddI (R.ok value) (R.ok length)) (R.ok known)))) xs_).calm)).tr fun r_ => TR.rt r_)) (fun _ => .stuck)
def t_carries_all (straights : (List Int)) (sums : (List (List Int))) : R Bool := TR.fn (l := Empty) (σ := Unit) (tite (torB (b2 tne (b1 tlen (R.ok sums)) (b2 taddI (b1 tlen (R.ok straights)) (R.ok (1 : Int)))) (b2 tnin (R.ok (0 : Int)) (b2 tidx (R.ok sums) (R.ok (0 : Int))))) ((R.ok false).tr fun r_ => TR.rt r_) ((b1 tallB ((b1 tenum (R.ok straights)).bind fun xs_ => (tmap (fun ⟨k, length⟩ => (b3 t_carries_on (b2 tidx (R.ok sums) (R.ok k)) (b2 tidx (R.ok sums) (b2 taddI (R.ok k) (R.ok (1 : Int)))) (R.ok length))) xs_).calm)).tr fun r_ => TR.rt r_)) (fun _ => .stuck)
def t_shows_unequal (straights : (List Int)) (sums : (List (List Int))) : R Bool := TR.fn (l := Empty) (σ := Unit) ((tandB (b2 t_carries_all (R.ok straights) (R.ok sums)) (b1 tnotB (b2 t_is_halved (R.ok straights) (b2 tidx (R.ok sums) (b1 tnegI (R.ok (1 : Int))))))).tr fun r_ => TR.rt r_) (fun _ => .stuck)
def t_judge_round (box : (T3 (List Int) Int Int)) (verdict : (Str × (List (List Int)))) : R Bool := TR.fn (l := Empty) (σ := Unit) ((R.ok verdict).tr fun ⟨word, paper⟩ => (tite (b2 tne (b1 (pj T3.b) (R.ok box)) (R.ok kt_ROUND_CURVES)) ((R.ok false).tr fun r_ => TR.rt r_) (tite (b2 teq (R.ok word) (R.ok ("round" : Str))) ((b2 t_is_round (R.ok box) (R.ok paper)).tr fun r_ => TR.rt r_) ((tandB (b2 teq (R.ok word) (R.ok ("unequal" : Str))) (b2 t_shows_unequal (b1 (pj T3.a) (R.ok box)) (R.ok paper))).tr fun r_ => TR.rt r_)))) (fun _ => .stuck)
def t_law_cell (script : (List Int)) (k : Int) : R Int := TR.fn (l := Empty) (σ := Unit) (tite (b2 tltI (R.ok k) (b1 tlen (R.ok script))) ((b1 tint (b2 tidx (R.ok script) (R.ok k))).tr fun r_ => TR.rt r_) ((R.ok (0 : Int)).tr fun r_ => TR.rt r_)) (fun _ => .stuck)
def t_law_numbers_1 (limit : Int) (k : Int) (cell : Int) (found : (List Int)) : TR (List Int) (Int × (List Int)) (Int × (List Int)) := ((b2 tmodI (b1 tint (R.ok cell)) (R.ok limit)).tr fun a_ => (tapp found a_).tr fun found => ((b2 tfdivI (b1 tint (R.ok cell)) (R.ok limit)).tr fun cell => (TR.nx (cell, found))))
abbrev E_law_numbers_1 (limit : Int) : (Int × (List Int)) → OEnv := fun s_ => match s_ with | ⟨cell, found⟩ => [some (oF cell), none, some (oF limit), some ((oL oF) found), none, none]
def t_law_numbers_2 (cell : Int) (limit : Int) (k : Int) (found : (List Int)) : TR (List Int) (List Int) (List Int) := ((b2 tmodI (b1 tint (b2 taddI (b2 taddI (b2 tmulI (R.ok cell) (R.ok (48271 : Int))) (b2 tmulI (R.ok k) (R.ok (69621 : Int)))) (R.ok (7 : Int)))) (R.ok (2147483647 : Int))).tr fun mixed => ((b2 tmodI (b1 tint (b2 taddI (b2 taddI (b2 taddI (b2 tmulI (R.ok mixed) (R.ok mixed)) (b2 tmulI (R.ok mixed) (R.ok (40692 : Int)))) (b2 tmulI (R.ok k) (R.ok (16807 : Int)))) (R.ok (11 : Int)))) (R.ok (2147483399 : Int))).tr fun mixed => ((b2 tmodI (b1 tint (b2 tfdivI (R.ok mixed) (R.ok (32 : Int)))) (R.ok limit)).tr fun a_ => (tapp found a_).tr fun found => (TR.nx found))))
abbrev E_law_numbers_2 (cell : Int) (limit : Int) : (List Int) → OEnv := fun s_ => match s_ with | found => [some (oF cell), none, some (oF limit), some ((oL oF) found), none, none]
def t_law_numbers (cell : Int) (count : Int) (limit : Int) : R (List Int) := TR.fn (l := Empty) (σ := Unit) ((R.ok ([] : List Int)).tr fun found => (tite (b2 tgeI (R.ok cell) (b2 tpowI (R.ok (10 : Int)) (R.ok (18 : Int)))) ((b1 trange1 (R.ok count)).tr fun xs_ => (forT (fun k ⟨cell, found⟩ => t_law_numbers_1 limit k cell found) xs_ (cell, found)).bind fun ⟨cell, found⟩ => ((R.ok found).tr fun r_ => TR.rt r_)) ((b1 trange1 (R.ok count)).tr fun xs_ => (forT (fun k found => t_law_numbers_2 cell limit k found) xs_ found).bind fun found => ((R.ok found).tr fun r_ => TR.rt r_)))) (fun _ => .stuck)
def t_law_size (number : Int) : R Int := TR.fn (l := Empty) (σ := Unit) ((b2 tmodI (b1 tint (R.ok number)) (R.ok (4 : Int))).tr fun kind => ((b2 tfdivI (b1 tint (R.ok number)) (R.ok (4 : Int))).tr fun rest => (tite (b2 teq (R.ok kind) (R.ok (0 : Int))) ((b2 taddI (R.ok (1 : Int)) (b2 tmodI (R.ok rest) (R.ok (3 : Int)))).tr fun r_ => TR.rt r_) (tite (b2 teq (R.ok kind) (R.ok (1 : Int))) ((b2 taddI (R.ok (1 : Int)) (b2 tmodI (R.ok rest) (R.ok (12 : Int)))).tr fun r_ => TR.rt r_) (tite (b2 teq (R.ok kind) (R.ok (2 : Int))) ((b2 tsubI (R.ok (9999 : Int)) (b2 tmodI (R.ok rest) (R.ok (3 : Int)))).tr fun r_ => TR.rt r_) ((b2 taddI (R.ok (1 : Int)) (b2 tmodI (R.ok rest) (R.ok (9999 : Int)))).tr fun r_ => TR.rt r_)))))) (fun _ => .stuck)
def t_law_straights_3 (draws : (List Int)) (size : Int) (found : (List Int)) : TR (List Int) (List Int) (List Int) := ((R.ok ()).tr fun n_ => tfd ((fun (_ : Unit) (x_ : (List Int)) => some x_) n_ found) fun ys_ => (b2 tmodI (b2 tidx (R.ok draws) (R.ok (3 : Int))) (b2 taddI (b1 tlen (R.ok found)) (R.ok (1 : Int)))).tr fun j_ => (R.ok size).tr fun a_ => (tins ys_ j_ a_).tr fun zs_ => (fun (found : (List Int)) => ((R.ok size).tr fun a_ => (tapp found a_).tr fun found => (TR.nx found))) ((fun (_ : Unit) (_ : (List Int)) (zs : (List Int)) => zs) n_ found zs_))
abbrev E_law_straights_3 (draws : (List Int)) : (List Int) → OEnv := fun s_ => match s_ with | found => [none, none, none, some (oF draws), none, none, none, some ((oL oF) found), none, none, none]
def t_law_straights_4 (size : Int) (total : Int) : TR (List Int) Int Int := (tite (b2 tgtI (R.ok total) (R.ok (0 : Int))) ((b2 tsubI (R.ok total) (R.ok size)).tr fun total => (TR.nx total)) ((b2 taddI (R.ok total) (R.ok size)).tr fun total => (TR.nx total)))
abbrev E_law_straights_4 (draws : (List Int)) (count : Int) (sizes : Addr) : Int → OEnv := fun s_ => match s_ with | total => [none, none, none, some (oF draws), some (oF count), some (.fz (excA sizes)), none, none, none, some (oF total), none]
def t_law_straights (cell : Int) (other : Int) (most : Int) : R (List Int) := TR.fn (l := Empty) (σ := Unit) ((b3 t_law_numbers (R.ok cell) (R.ok (6 : Int)) (R.ok (5040 : Int))).tr fun draws => ((b2 tmodI (b2 tidx (R.ok draws) (R.ok (0 : Int))) (b2 taddI (R.ok most) (R.ok (1 : Int)))).tr fun count => (((b3 t_law_numbers (R.ok other) (R.ok count) (R.ok (39996 : Int))).bind fun xs_ => (tmap (fun number => (b1 t_law_size (R.ok number))) xs_).calm).tr fun sizes => ((b2 tmodI (b2 tidx (R.ok draws) (R.ok (1 : Int))) (R.ok (4 : Int))).tr fun kind => (tite (b2 teq (R.ok kind) (R.ok (0 : Int))) (((b3 t_law_numbers (R.ok other) (R.ok count) (b2 taddI (R.ok (1 : Int)) (b2 tmodI (b2 tidx (R.ok draws) (R.ok (2 : Int))) (R.ok (9 : Int))))).bind fun xs_ => (tmap (fun number => (b2 taddI (R.ok (1 : Int)) (R.ok number))) xs_).calm).tr fun r_ => TR.rt r_) (tite (b2 teq (R.ok kind) (R.ok (1 : Int))) ((R.ok ([] : List Int)).tr fun found => ((b3 tcut (R.ok sizes) (R.ok none) (b1 tpart (b2 tfdivI (R.ok most) (R.ok (2 : Int))))).tr fun xs_ => (forT (fun size found => t_law_straights_3 draws size found) xs_ found).bind fun found => ((R.ok found).tr fun r_ => TR.rt r_))) (TR.bind (σ := (List Int)) (tite (tandB (b2 teq (R.ok kind) (R.ok (2 : Int))) (b2 tgtI (R.ok count) (R.ok (0 : Int)))) ((tpop sizes).tr fun ⟨_, sizes⟩ => ((R.ok (0 : Int)).tr fun total => ((noRE (forT (fun size total => t_law_straights_4 size total) sizes total)).bind fun total => (tite (b2 tne (R.ok total) (R.ok (0 : Int))) ((R.ok ()).tr fun n_ => tfd ((fun (_ : Unit) (x_ : (List Int)) => some x_) n_ sizes) fun ys_ => (b2 tmodI (b2 tidx (R.ok draws) (R.ok (3 : Int))) (R.ok count)).tr fun j_ => (b1 tabs (R.ok total)).tr fun a_ => (tins ys_ j_ a_).tr fun zs_ => (fun (sizes : (List Int)) => (TR.nx sizes)) ((fun (_ : Unit) (_ : (List Int)) (zs : (List Int)) => zs) n_ sizes zs_)) (TR.nx sizes))))) (TR.nx sizes)) fun sizes => ((R.ok sizes).tr fun r_ => TR.rt r_)))))))) (fun _ => .stuck)
def t_law_sums_1 (length : Int) (value : Int) (known : (Dc Int Bool)) : TR (List (List Int)) (Dc Int Bool) (Dc Int Bool) := ((R.ok true).tr fun a_ => (R.ok value).tr fun j_ => (tdput known j_ a_).tr fun known => ((R.ok true).tr fun a_ => (b2 taddI (R.ok value) (R.ok length)).tr fun j_ => (tdput known j_ a_).tr fun known => (TR.nx known)))
abbrev E_law_sums_1 (found : (List (List Int))) (length : Int) : (Dc Int Bool) → OEnv := fun s_ => match s_ with | known => [none, some ((oL oF) found), some (oF length), some ((oM oF) known), none]
def t_law_sums_2 (length : Int) (found : (List (List Int))) : TR (List (List Int)) (List (List Int)) (List (List Int)) := ((R.ok (⟨[]⟩ : (Dc Int Bool))).tr fun known => ((b1 tid (R.bind (b2 tsubI (b1 tlen (R.ok found)) (R.ok (1 : Int))) fun j_ => tidx found j_)).tr fun xs_ => (forT (fun value known => t_law_sums_1 length value known) xs_ known).bind fun known => ((b1 tsort (b1 tkeysI (R.ok known))).tr fun a_ => (tapp found a_).tr fun found => (TR.nx found))))
abbrev E_law_sums_2 : (List (List Int)) → OEnv := fun s_ => match s_ with | found => [none, some ((oL oF) found), none, none, none]
def t_law_sums (straights : (List Int)) : R (List (List Int)) := TR.fn (l := Empty) (σ := Unit) ((tcons (tcons (R.ok (0 : Int)) (R.ok ([] : List Int))) (R.ok ([] : List (List Int)))).tr fun found => ((R.ok straights).tr fun xs_ => (forT (fun length found => t_law_sums_2 length found) xs_ found).bind fun found => ((R.ok found).tr fun r_ => TR.rt r_))) (fun _ => .stuck)
def t_law_accepted_1 (value : Int) (known : (Dc Int Bool)) : TR Bool (Dc Int Bool) (Dc Int Bool) := ((R.ok true).tr fun a_ => (R.ok value).tr fun j_ => (tdput known j_ a_).tr fun known => (TR.nx known))
abbrev E_law_accepted_1 (sums : (List (List Int))) (lengths : (List Int)) (k : Int) : (Dc Int Bool) → OEnv := fun s_ => match s_ with | known => [none, some (oF sums), some (oF lengths), some (oF k), some ((oM oF) known), none, none]
def t_law_accepted_2 (lengths : (List Int)) (k : Int) (known : (Dc Int Bool)) (value : Int) : TR Bool Unit Unit := (tite (torB (b2 tdnin (R.ok value) (R.ok known)) (b2 tdnin (b2 taddI (R.ok value) (b2 tidx (R.ok lengths) (R.ok k))) (R.ok known))) ((R.ok false).tr fun r_ => TR.rt r_) (TR.nx ()))
abbrev E_law_accepted_2 (sums : (List (List Int))) (lengths : (List Int)) (k : Int) (known : (Dc Int Bool)) : Unit → OEnv := fun s_ => match s_ with | _ => [none, some (oF sums), some (oF lengths), some (oF k), some (oF known), none, none]
def t_law_accepted_3 (sums : (List (List Int))) (lengths : (List Int)) (k : Int) : TR Bool Unit Unit := ((R.ok (⟨[]⟩ : (Dc Int Bool))).tr fun known => ((b2 tidx (R.ok sums) (b2 taddI (R.ok k) (R.ok (1 : Int)))).tr fun xs_ => (forT (fun value known => t_law_accepted_1 value known) xs_ known).bind fun known => ((b2 tidx (R.ok sums) (R.ok k)).tr fun xs_ => (forT (fun value _ => t_law_accepted_2 lengths k known value) xs_ ()).bind fun _ => (TR.nx ()))))
abbrev E_law_accepted_3 (sums : (List (List Int))) (lengths : (List Int)) : Unit → OEnv := fun s_ => match s_ with | _ => [none, some (oF sums), some (oF lengths), none, none, none, none]
def t_law_accepted (box : ((List Int) × Int)) (sums : (List (List Int))) : R Bool := TR.fn (l := Empty) (σ := Unit) ((b1 (pj Prod.fst) (R.ok box)).tr fun lengths => (tite (torB (b2 tne (b1 (pj Prod.snd) (R.ok box)) (R.ok (8 : Int))) (torB (b2 tne (b1 tlen (R.ok sums)) (b2 taddI (b1 tlen (R.ok lengths)) (R.ok (1 : Int)))) (b2 tnin (R.ok (0 : Int)) (b2 tidx (R.ok sums) (R.ok (0 : Int)))))) ((R.ok false).tr fun r_ => TR.rt r_) ((b1 trange1 (b1 tlen (R.ok lengths))).tr fun xs_ => (forT (fun k _ => t_law_accepted_3 sums lengths k) xs_ ()).bind fun _ => ((b1 tsum (R.ok lengths)).tr fun total => ((torB (b2 teq (b2 tmodI (R.ok total) (R.ok (2 : Int))) (R.ok (1 : Int))) (b2 tnin (b2 tfdivI (R.ok total) (R.ok (2 : Int))) (b2 tidx (R.ok sums) (b1 tlen (R.ok lengths))))).tr fun r_ => TR.rt r_))))) (fun _ => .stuck)
def t_law_carried_3 (lengths : (List Int)) (k : Int) (found : (List (List Int))) (rest : (List Int)) : TR (List (List Int)) ((List (List Int)) × (List Int)) ((List (List Int)) × (List Int)) := ((b2 taddL (R.bind (R.ok k) fun j_ => tidx found j_) (R.ok rest)).tr fun a_ => (R.ok ()).tr fun n_ => tfd ((fun (_ : Unit) (x_ : (List (List Int))) => some x_) n_ found) fun ys_ => (R.ok k).tr fun j_ => (tset ys_ j_ a_).tr fun zs_ => (fun (found : (List (List Int))) => (tite (b2 tltI (R.ok k) (b1 tlen (R.ok lengths))) ((b2 taddL (R.ok rest) ((R.ok rest).bind fun xs_ => (tmap (fun value => (b2 taddI (R.ok value) (b2 tidx (R.ok lengths) (R.ok k)))) xs_).calm)).tr fun rest => (TR.nx (found, rest))) (TR.nx (found, rest)))) ((fun (_ : Unit) (_ : (List (List Int))) (zs : (List (List Int))) => zs) n_ found zs_))
abbrev E_law_carried_3 (lengths : (List Int)) : ((List (List Int)) × (List Int)) → OEnv := fun s_ => match s_ with | ⟨found, rest⟩ => [some (oF lengths), none, none, none, some ((oL oF) found), some (oF rest), none, none, none]
def t_law_carried (lengths : (List Int)) (sums : (List (List Int))) (at_ : Int) (number : Int) : R (List (List Int)) := TR.fn (l := Empty) (σ := Unit) (((R.ok sums).bind fun xs_ => (tmap (fun row => (R.ok row)) xs_).calm).tr fun found => ((tcons (R.ok number) (R.ok ([] : List Int))).tr fun rest => ((b2 trange2 (R.ok at_) (b1 tlen (R.ok sums))).tr fun xs_ => (forT (fun k ⟨found, rest⟩ => t_law_carried_3 lengths k found rest) xs_ (found, rest)).bind fun ⟨found, rest⟩ => ((R.ok found).tr fun r_ => TR.rt r_)))) (fun _ => .stuck)
def t_law_with (sums : (List (List Int))) (at_ : Int) (row : (List Int)) : R (List (List Int)) := TR.fn (l := Empty) (σ := Unit) ((b2 taddL (b2 taddL ((b3 tcut (R.ok sums) (R.ok none) (b1 tpart (R.ok at_))).bind fun xs_ => (tmap (fun one => (R.ok one)) xs_).calm) (tcons (R.ok row) (R.ok ([] : List (List Int))))) ((b3 tcut (R.ok sums) (b1 tpart (b2 taddI (R.ok at_) (R.ok (1 : Int)))) (R.ok none)).bind fun xs_ => (tmap (fun one => (R.ok one)) xs_).calm)).tr fun r_ => TR.rt r_) (fun _ => .stuck)
def t_law_variants (lengths : (List Int)) (sums : (List (List Int))) (draws : (List Int)) : R (List (List (List Int))) := TR.fn (l := Empty) (σ := Unit) ((b2 tmodI (b2 tidx (R.ok draws) (R.ok (0 : Int))) (b1 tlen (R.ok sums))).tr fun at_ => ((b2 tidx (R.ok sums) (R.ok at_)).tr fun row => ((b2 tmodI (b2 tidx (R.ok draws) (R.ok (1 : Int))) (b1 tlen (R.ok row))).tr fun spot => ((b2 tfdivI (b1 tsum (R.ok lengths)) (R.ok (2 : Int))).tr fun half => ((b2 taddI (b2 tsubI (b2 tmodI (b2 tidx (R.ok draws) (R.ok (2 : Int))) (R.ok (5 : Int))) (R.ok (2 : Int))) (b2 tmulI (R.ok half) (b2 tmodI (b2 tidx (R.ok draws) (R.ok (3 : Int))) (R.ok (2 : Int))))).tr fun far => ((tcons (R.ok sums) (tcons ((R.ok sums).bind fun xs_ => (tmap (fun one => (b1 trev (R.ok one))) xs_).calm) (tcons ((R.ok sums).bind fun xs_ => (tmap (fun one => (b2 taddL (R.ok one) (b3 tcut (R.ok one) (R.ok none) (b1 tpart (R.ok (1 : Int)))))) xs_).calm) (R.ok ([] : List (List (List Int))))))).tr fun found => ((b4 t_law_carried (R.ok lengths) (R.ok sums) (R.ok at_) (R.ok far)).tr fun a_ => (tapp found a_).tr fun found => ((b4 t_law_carried (R.ok lengths) (R.ok sums) (R.ok (0 : Int)) (b2 tsubI (b2 tidx (R.ok draws) (R.ok (2 : Int))) (R.ok (20000 : Int)))).tr fun a_ => (tapp found a_).tr fun found => ((b3 t_law_with (R.ok sums) (R.ok at_) (b2 taddL (R.ok row) (tcons (R.ok far) (R.ok ([] : List Int))))).tr fun a_ => (tapp found a_).tr fun found => ((b3 t_law_with (R.ok sums) (R.ok at_) (b2 taddL (b3 tcut (R.ok row) (R.ok none) (b1 tpart (R.ok spot))) (b3 tcut (R.ok row) (b1 tpart (b2 taddI (R.ok spot) (R.ok (1 : Int)))) (R.ok none)))).tr fun a_ => (tapp found a_).tr fun found => ((b3 t_law_with (R.ok sums) (R.ok at_) (b2 taddL (b2 taddL (b3 tcut (R.ok row) (R.ok none) (b1 tpart (R.ok spot))) (tcons (b2 taddI (b2 tidx (R.ok row) (R.ok spot)) (R.ok (1 : Int))) (R.ok ([] : List Int)))) (b3 tcut (R.ok row) (b1 tpart (b2 taddI (R.ok spot) (R.ok (1 : Int)))) (R.ok none)))).tr fun a_ => (tapp found a_).tr fun found => ((b3 t_law_with (R.ok sums) (R.ok at_) (R.ok ([] : List Int))).tr fun a_ => (tapp found a_).tr fun found => ((b2 tsubI (b1 tlen (R.ok sums)) (R.ok (1 : Int))).tr fun last => ((b3 t_law_with (R.ok sums) (R.ok last) (b2 taddL (b2 tidx (R.ok sums) (R.ok last)) (tcons (R.ok half) (R.ok ([] : List Int))))).tr fun a_ => (tapp found a_).tr fun found => ((b3 t_law_with (R.ok sums) (R.ok last) ((b2 tidx (R.ok sums) (R.ok last)).bind fun xs_ => (tcomp (fun value => (b2 tne (R.ok value) (R.ok half))) (fun value => (R.ok value)) xs_).calm)).tr fun a_ => (tapp found a_).tr fun found => ((b3 t_law_with (R.ok sums) (R.ok last) (b1 trange1 (b2 taddI (b2 tmodI (b1 tsum (R.ok lengths)) (R.ok (300 : Int))) (R.ok (1 : Int))))).tr fun a_ => (tapp found a_).tr fun found => ((b3 t_law_with (R.ok sums) (R.ok (0 : Int)) (tcons (R.ok (1 : Int)) (R.ok ([] : List Int)))).tr fun a_ => (tapp found a_).tr fun found => ((b2 taddL (R.ok found) (tcons (b3 tcut (R.ok sums) (R.ok none) (b1 tpart (b1 tnegI (R.ok (1 : Int))))) (tcons (b3 tcut (R.ok sums) (b1 tpart (R.ok (1 : Int))) (R.ok none)) (tcons (b2 taddL (tcons (tcons (R.ok (0 : Int)) (R.ok ([] : List Int))) (R.ok ([] : List (List Int)))) (R.ok sums)) (tcons (b2 taddL (R.ok sums) (tcons (b2 tidx (R.ok sums) (R.ok last)) (R.ok ([] : List (List Int))))) (tcons (b2 taddL (R.ok sums) (b1 (tmap cNil) (tcons (R.ok ([] : List Empty)) (R.ok ([] : List (List Empty)))))) (tcons (R.ok ([] : List (List Int))) (R.ok ([] : List (List (List Int))))))))))).tr fun found => ((R.ok found).tr fun r_ => TR.rt r_))))))))))))))))))) (fun _ => .stuck)
def t_law_3 (radius : Int) (paper : (List (List Int))) (straights : (List Int)) (curves : Int) : TR Bool Unit Unit := ((R.ok straights).tr fun passed => (((R.ok paper).bind fun xs_ => (tmap (fun row => (R.ok row)) xs_).calm).tr fun handed => ((b2 t_judge_round (b3 mk3 (R.ok passed) (R.ok curves) (R.ok radius)) (b2 mk2 (R.ok ("unequal" : Str)) (R.ok handed))).tr fun told => (tite (torB (b1 tnotB (b1 tid (b1 (tK true) (R.ok told)))) (b2 tne (R.ok told) (b2 t_law_accepted (b2 mk2 (R.ok straights) (R.ok curves)) (R.ok paper)))) ((R.ok false).tr fun r_ => TR.rt r_) (tite (torB (b2 tne (R.ok passed) (R.ok straights)) (b2 tne (R.ok handed) (R.ok paper))) ((R.ok false).tr fun r_ => TR.rt r_) (TR.nx ()))))))
abbrev E_law_3 (lengths : (List Int)) (radius : Int) (right_ : (List (List Int))) (boxes : (List ((List Int) × Int))) (paper : (List (List Int))) : Unit → OEnv := fun s_ => match s_ with | _ => [none, none, some (oF lengths), some (oF radius), none, some (oF right_), some (oF boxes), some (oF paper), none, none, none, none, none, none, none]
def t_law_4 (radius : Int) (boxes : (List ((List Int) × Int))) (paper : (List (List Int))) : TR Bool Unit Unit := ((R.ok boxes).tr fun xs_ => (forT (fun ⟨straights, curves⟩ _ => t_law_3 radius paper straights curves) xs_ ()).bind fun _ => (TR.nx ()))
abbrev E_law_4 (lengths : (List Int)) (radius : Int) (right_ : (List (List Int))) (boxes : (List ((List Int) × Int))) : Unit → OEnv := fun s_ => match s_ with | _ => [none, none, some (oF lengths), some (oF radius), none, some (oF right_), some (oF boxes), none, none, none, none, none, none, none, none]
def t_law_5 (lengths : (List Int)) (radius : Int) (right_ : (List (List Int))) (word : Str) : TR Bool Unit Unit := (tite (b2 tisnB (b2 t_judge_round (b3 mk3 (R.ok lengths) (R.ok (8 : Int)) (R.ok radius)) (b2 mk2 (R.ok word) (R.ok right_))) (R.ok false)) ((R.ok false).tr fun r_ => TR.rt r_) (TR.nx ()))
abbrev E_law_5 (lengths : (List Int)) (radius : Int) (right_ : (List (List Int))) : Unit → OEnv := fun s_ => match s_ with | _ => [none, none, some (oF lengths), some (oF radius), none, some (oF right_), none, none, none, none, none, none, none, none, none]
def t_law (script : (List Int)) : R Bool := TR.fn (l := Empty) (σ := Unit) ((b3 t_law_numbers (b2 t_law_cell (R.ok script) (R.ok (2 : Int))) (R.ok (8 : Int)) (R.ok (39996 : Int))).tr fun draws => ((b3 t_law_straights (b2 t_law_cell (R.ok script) (R.ok (0 : Int))) (b2 t_law_cell (R.ok script) (R.ok (1 : Int))) (R.ok (6 : Int))).tr fun lengths => ((b1 t_law_size (b2 tidx (R.ok draws) (R.ok (4 : Int)))).tr fun radius => ((b1 t_law_sums (R.ok lengths)).tr fun sums => (((R.ok sums).bind fun xs_ => (tmap (fun row => (R.ok row)) xs_).calm).tr fun right_ => (tite (tandB (b1 tid (b2 t_law_accepted (b2 mk2 (R.ok lengths) (R.ok (8 : Int))) (R.ok sums))) (b2 tisnB (b2 t_judge_round (b3 mk3 (R.ok lengths) (R.ok (8 : Int)) (R.ok radius)) (b2 mk2 (R.ok ("unequal" : Str)) (R.ok right_))) (R.ok true))) ((R.ok false).tr fun r_ => TR.rt r_) ((tcons (b2 mk2 (R.ok lengths) (R.ok (8 : Int))) (tcons (b2 mk2 (R.ok lengths) (b2 tmodI (b2 tidx (R.ok draws) (R.ok (5 : Int))) (R.ok (31 : Int)))) (tcons (b2 mk2 (R.ok lengths) (R.ok (9 : Int))) (tcons (b2 mk2 (b1 trev (R.ok lengths)) (R.ok (8 : Int))) (tcons (b2 mk2 (b2 taddL (R.ok lengths) (tcons (R.ok (1 : Int)) (R.ok ([] : List Int)))) (R.ok (8 : Int))) (R.ok ([] : List ((List Int) × Int)))))))).tr fun boxes => ((b3 t_law_variants (R.ok lengths) (R.ok sums) (R.ok draws)).tr fun xs_ => (forT (fun paper _ => t_law_4 radius boxes paper) xs_ ()).bind fun _ => ((tcons (R.ok ("none" : Str)) (tcons (R.ok ("Unequal" : Str)) (tcons (R.ok ("equal" : Str)) (tcons (R.ok ("" : Str)) (R.ok ([] : List Str)))))).tr fun xs_ => (forT (fun word _ => t_law_5 lengths radius right_ word) xs_ ()).bind fun _ => ((R.ok true).tr fun r_ => TR.rt r_)))))))))) (fun _ => .stuck)
end
theorem ty_spot_sum (one : (Tup Int)) (other : (Tup Int)) : TEq (m_spot_sum [Enc.e one, Enc.e other]) (t_spot_sum one other) := by
  rw [r_spot_sum]
  unfold g_spot_sum t_spot_sum
  exact fn_T (E := fun _ _ => True) (L := fun _ _ => True) (q_end (q_ret (f := fun r_ => (r_ : (T4 Int Int Int Int))) (p_x (t_exF (t_tup4 (t_2 o_addI (t_2 o_idxV (t_var 0 one) (t_c (0 : Int))) (t_2 o_idxV (t_var 1 other) (t_c (0 : Int)))) (t_2 o_addI (t_2 o_idxV (t_var 0 one) (t_c (1 : Int))) (t_2 o_idxV (t_var 1 other) (t_c (1 : Int)))) (t_2 o_addI (t_2 o_idxV (t_var 0 one) (t_c (2 : Int))) (t_2 o_idxV (t_var 1 other) (t_c (2 : Int)))) (t_2 o_addI (t_2 o_idxV (t_var 0 one) (t_c (3 : Int))) (t_2 o_idxV (t_var 1 other) (t_c (3 : Int))))))) trivial (fun _ => dF _))) (fun _ => trivial)
theorem ty_eighth_turned (spot : (Tup Int)) : TEq (m_eighth_turned [Enc.e spot]) (t_eighth_turned spot) := by
  rw [r_eighth_turned]
  unfold g_eighth_turned t_eighth_turned
  exact fn_T (E := fun _ _ => True) (L := fun _ _ => True) (q_end (q_ret (f := fun r_ => (r_ : (T4 Int Int Int Int))) (p_x (t_exF (t_tup4 (t_1 o_negI (t_2 o_idxV (t_var 0 spot) (t_c (3 : Int)))) (t_2 o_idxV (t_var 0 spot) (t_c (0 : Int))) (t_2 o_idxV (t_var 0 spot) (t_c (1 : Int))) (t_2 o_idxV (t_var 0 spot) (t_c (2 : Int)))))) trivial (fun _ => dF _))) (fun _ => trivial)
theorem ty_spot_turned_1 (u_ : Int) (found : (Tup Int)) {Z : OEnv → Prop} : SQ (fun s ρ => kill [3] ρ = E_spot_turned_1 s) (fun s ρ => ρ = E_spot_turned_1 s) (fun o _ (b : (Tup Int)) => O.data o = Enc.e b) (fun _ => True) (b_spot_turned_1 [none, none, some (oF found), some (oF u_)]) (t_spot_turned_1 u_ found) := by
  unfold b_spot_turned_1 t_spot_turned_1
  exact (q_end (q_set (p_x (t_exF (t_call1 ty_eighth_turned (t_var 2 found)))) trivial fun found => (q_at (ρ' := [none, none, some (oF found), some (oF u_)]) rfl (q_nx (⟨[(found).1, (found).2, (found).3, (found).4]⟩ : (Tup Int)) rfl))))
theorem ty_spot_turned (spot : (Tup Int)) (direction : Int) : TEq (m_spot_turned [Enc.e spot, Enc.e direction]) (t_spot_turned spot direction) := by
  rw [r_spot_turned]
  unfold g_spot_turned t_spot_turned
  exact fn_T (E := fun _ _ => True) (L := fun _ _ => True) (q_set (p_x (t_exF (t_call1 o_tupV (t_var 0 spot)))) trivial fun found => (q_at (ρ' := [some (oF spot), some (oF direction), some (oF found), none]) rfl (q_pre0 (q_at (ρ' := [none, some (oF direction), some (oF found), none]) rfl (q_forK (E_spot_turned_1) (fun u_ => [(3, Enc.e u_)]) found (t_x1 o_range1 (t_exF (t_2 o_modI (t_call1 o_int (t_var 1 direction)) (t_c kt_DIRECTIONS)))) trivial rfl (fun u_ => rfl) (fun found => rfl) (fun u_ found => ty_spot_turned_1 u_ found (Z := fun _ => True)) fun found => (q_at (ρ' := [none, none, some (oF found), none]) rfl (q_pre0 (q_at (ρ' := [none, none, some (oF found), none]) rfl (q_end (q_ret (f := fun r_ => (r_ : (Tup Int))) (p_x (t_exF (t_var 2 found))) trivial (fun _ => dF _))))))))))) (fun _ => trivial)
theorem ty_ray (units : Int) (direction : Int) : TEq (m_ray [Enc.e units, Enc.e direction]) (t_ray units direction) := by
  rw [r_ray]
  unfold g_ray t_ray
  exact fn_T (E := fun _ _ => True) (L := fun _ _ => True) (q_end (q_ret (f := fun r_ => (r_ : (Tup Int))) (p_x (t_exF (t_call2 ty_spot_turned (t_co Co.t4 (t_tup4 (t_var 0 units) (t_c (0 : Int)) (t_c (0 : Int)) (t_c (0 : Int)))) (t_var 1 direction)))) trivial (fun _ => dF _))) (fun _ => trivial)
theorem ty_pose_product (one : ((T4 Int Int Int Int) × Int)) (other : ((Tup Int) × Int)) : TEq (m_pose_product [Enc.e one, Enc.e other]) (t_pose_product one other) := by
  rw [r_pose_product]
  unfold g_pose_product t_pose_product
  exact fn_T (E := fun _ _ => True) (L := fun _ _ => True) (q_set (p_x (t_exF (t_call2 ty_spot_sum (t_co Co.t4 (o_pj (p := Prod.fst) (ha := (t_var 0 one)))) (t_call2 ty_spot_turned (o_pj (p := Prod.fst) (ha := (t_var 1 other))) (o_pj (p := Prod.snd) (ha := (t_var 0 one))))))) trivial fun spot => (q_at (ρ' := [some (oF one), some (oF other), some (oF spot)]) rfl (q_end (q_ret (f := fun r_ => (r_ : ((T4 Int Int Int Int) × Int))) (p_x (t_exF (t_tup2 (t_var 2 spot) (t_2 o_modI (t_call1 o_int (t_2 o_addI (o_pj (p := Prod.snd) (ha := (t_var 0 one))) (o_pj (p := Prod.snd) (ha := (t_var 1 other))))) (t_c kt_DIRECTIONS))))) trivial (fun _ => dF _))))) (fun _ => trivial)
theorem ty_is_whole (value : Int) : TEq (m_is_whole [Enc.e value]) (t_is_whole value) := by
  rw [r_is_whole]
  unfold g_is_whole t_is_whole
  exact fn_T (E := fun _ _ => True) (L := fun _ _ => True) (q_end (q_ret (f := fun r_ => (r_ : Bool)) (p_x (t_exF (t_vand (t_1 o_K (t_var 0 value)) (t_vnot (t_1 o_K (t_var 0 value)))))) trivial (fun _ => dF _))) (fun _ => trivial)
theorem ty_is_length (value : Int) : TEq (m_is_length [Enc.e value]) (t_is_length value) := by
  rw [r_is_length]
  unfold g_is_length t_is_length
  exact fn_T (E := fun _ _ => True) (L := fun _ _ => True) (q_end (q_ret (f := fun r_ => (r_ : Bool)) (p_x (t_exF (t_vand (t_call1 ty_is_whole (t_var 0 value)) (t_vchain o_leI o_leI (t_c (1 : Int)) (t_var 0 value) (t_c kt_MOST_LENGTH))))) trivial (fun _ => dF _))) (fun _ => trivial)
theorem ty_is_rise (value : Int) : TEq (m_is_rise [Enc.e value]) (t_is_rise value) := by
  rw [r_is_rise]
  unfold g_is_rise t_is_rise
  exact fn_T (E := fun _ _ => True) (L := fun _ _ => True) (q_end (q_ret (f := fun r_ => (r_ : Bool)) (p_x (t_exF (t_vand (t_call1 ty_is_whole (t_var 0 value)) (t_vand (t_2 o_ne (t_var 0 value) (t_c (0 : Int))) (t_vchain o_leI o_leI (t_1 o_negI (t_c kt_MOST_RISE)) (t_var 0 value) (t_c kt_MOST_RISE)))))) trivial (fun _ => dF _))) (fun _ => trivial)
theorem ty_is_curve (values : (List Int)) : TEq (m_is_curve [Enc.e values]) (t_is_curve values) := by
  rw [r_is_curve]
  unfold g_is_curve t_is_curve
  exact fn_T (E := fun _ _ => True) (L := fun _ _ => True) (q_end (q_ret (f := fun r_ => (r_ : Bool)) (p_x (t_exF (t_vand (t_2 o_eq (t_call1 o_len (t_var 0 values)) (t_c (2 : Int))) (t_vand (t_call1 ty_is_length (t_2 o_idx (t_var 0 values) (t_c (0 : Int)))) (t_2 o_DB2 (t_co Co.up (t_2 o_idx (t_var 0 values) (t_c (1 : Int)))) (t_co Co.up (t_c kt_SIDES))))))) trivial (fun _ => dF _))) (fun _ => trivial)
theorem ty_is_points (values : (List Int)) : TEq (m_is_points [Enc.e values]) (t_is_points values) := by
  rw [r_is_points]
  unfold g_is_points t_is_points
  exact fn_T (E := fun _ _ => True) (L := fun _ _ => True) (q_end (q_ret (f := fun r_ => (r_ : Bool)) (p_x (t_exF (t_vand (t_2 o_eq (t_call1 o_len (t_var 0 values)) (t_c (3 : Int))) (t_vand (t_call1 ty_is_length (t_2 o_idx (t_var 0 values) (t_c (0 : Int)))) (t_call1 ty_is_curve (t_slice (t_var 0 values) (t_part (t_c (1 : Int))) t_nopart)))))) trivial (fun _ => dF _))) (fun _ => trivial)
theorem ty_is_cross (values : (List Int)) : TEq (m_is_cross [Enc.e values]) (t_is_cross values) := by
  rw [r_is_cross]
  unfold g_is_cross t_is_cross
  exact fn_T (E := fun _ _ => True) (L := fun _ _ => True) (q_if (t_tor (t_tst (t_2 o_ne (t_call1 o_len (t_varO 0 oF values dF)) (t_c (2 : Int)))) (t_tor (t_tnot (t_ttr o_truB (t_call1 ty_is_length (t_2 o_idx (t_varO 0 oF values dF) (t_c (0 : Int)))))) (t_tnot (t_ttr o_truB (t_call1 ty_is_whole (t_2 o_idx (t_varO 0 oF values dF) (t_c (1 : Int)))))))) trivial (q_ret (f := fun r_ => (r_ : Bool)) (p_x (t_exF (t_c false))) trivial (fun _ => dF _)) (q_nxs (q_end (q_ret (f := fun r_ => (r_ : Bool)) (p_x (t_exF (t_vand (t_2 o_eq (t_2 o_modI (t_2 o_idx (t_var 0 values) (t_c (0 : Int))) (t_c (2 : Int))) (t_c (0 : Int))) (t_vchain o_leI o_leI (t_c (1 : Int)) (t_2 o_idx (t_var 0 values) (t_c (1 : Int))) (t_c (3 : Int)))))) trivial (fun _ => dF _))))) (fun _ => trivial)
theorem ty_is_ramp (values : (List Int)) : TEq (m_is_ramp [Enc.e values]) (t_is_ramp values) := by
  rw [r_is_ramp]
  unfold g_is_ramp t_is_ramp
  exact fn_T (E := fun _ _ => True) (L := fun _ _ => True) (q_end (q_ret (f := fun r_ => (r_ : Bool)) (p_x (t_exF (t_vand (t_2 o_eq (t_call1 o_len (t_var 0 values)) (t_c (2 : Int))) (t_vand (t_call1 ty_is_length (t_2 o_idx (t_var 0 values) (t_c (0 : Int)))) (t_call1 ty_is_rise (t_2 o_idx (t_var 0 values) (t_c (1 : Int)))))))) trivial (fun _ => dF _))) (fun _ => trivial)
theorem ty_is_plain (values : (List Int)) : TEq (m_is_plain [Enc.e values]) (t_is_plain values) := by
  rw [r_is_plain]
  unfold g_is_plain t_is_plain
  exact fn_T (E := fun _ _ => True) (L := fun _ _ => True) (q_end (q_ret (f := fun r_ => (r_ : Bool)) (p_x (t_exF (t_vand (t_2 o_eq (t_call1 o_len (t_var 0 values)) (t_c (1 : Int))) (t_call1 ty_is_length (t_2 o_idx (t_var 0 values) (t_c (0 : Int))))))) trivial (fun _ => dF _))) (fun _ => trivial)
theorem ty_is_piece (piece : (List Int)) : TEq (m_is_piece [Enc.e piece]) (t_is_piece piece) := by
  rw [r_is_piece]
  unfold g_is_piece t_is_piece
  exact fn_T (E := fun _ _ => True) (L := fun _ _ => True) (q_if (t_tor (t_tnot (t_ttr o_truB (t_1 o_K (t_varO 0 oF piece dF)))) (t_tst (t_2 o_eq (t_call1 o_len (t_varO 0 oF piece dF)) (t_c (0 : Int))))) trivial (q_ret (f := fun r_ => (r_ : Bool)) (p_x (t_exF (t_c false))) trivial (fun _ => dF _)) (q_nxs (q_set (p_x (t_exF (t_2 o_idx (t_var 0 piece) (t_c (0 : Int))))) trivial fun word => (q_at (ρ' := [some (oF piece), some (oF word)]) rfl (q_if (t_tst (t_2 o_DB2 (t_co Co.up (t_varO 1 oF word dF)) (t_co Co.up (t_tupV (t_cons (t_c ("straight" : Str)) (t_cons (t_c ("gap" : Str)) (t_cons (t_c ("stop" : Str)) (t_nil (α := Str))))))))) trivial (q_ret (f := fun r_ => (r_ : Bool)) (p_x (t_exF (t_call1 ty_is_plain (t_slice (t_var 0 piece) (t_part (t_c (1 : Int))) t_nopart)))) trivial (fun _ => dF _)) (q_nxs (q_if (t_tst (t_2 o_DB2 (t_co Co.up (t_varO 1 oF word dF)) (t_co Co.up (t_c ("curve" : Str))))) trivial (q_ret (f := fun r_ => (r_ : Bool)) (p_x (t_exF (t_call1 ty_is_curve (t_slice (t_var 0 piece) (t_part (t_c (1 : Int))) t_nopart)))) trivial (fun _ => dF _)) (q_nxs (q_if (t_tst (t_2 o_DB2 (t_co Co.up (t_varO 1 oF word dF)) (t_co Co.up (t_c ("points" : Str))))) trivial (q_ret (f := fun r_ => (r_ : Bool)) (p_x (t_exF (t_call1 ty_is_points (t_slice (t_var 0 piece) (t_part (t_c (1 : Int))) t_nopart)))) trivial (fun _ => dF _)) (q_nxs (q_if (t_tst (t_2 o_DB2 (t_co Co.up (t_varO 1 oF word dF)) (t_co Co.up (t_c ("cross" : Str))))) trivial (q_ret (f := fun r_ => (r_ : Bool)) (p_x (t_exF (t_call1 ty_is_cross (t_slice (t_var 0 piece) (t_part (t_c (1 : Int))) t_nopart)))) trivial (fun _ => dF _)) (q_nxs (q_end (q_ret (f := fun r_ => (r_ : Bool)) (p_x (t_exF (t_vand (t_2 o_DB2 (t_co Co.up (t_var 1 word)) (t_co Co.up (t_c ("ramp" : Str)))) (t_call1 ty_is_ramp (t_slice (t_var 0 piece) (t_part (t_c (1 : Int))) t_nopart))))) trivial (fun _ => dF _))))))))))))))) (fun _ => trivial)
theorem ty_check_piece (piece : (List Int)) : TEq (m_check_piece [Enc.e piece]) (t_check_piece piece) := by
  rw [r_check_piece]
  unfold g_check_piece t_check_piece
  exact fn_T (E := fun _ _ => True) (L := fun _ _ => True) (q_end (q_if (t_tnot (t_ttr o_truB (t_call1 ty_is_piece (t_varO 0 oF piece dF)))) trivial (q_raise trivial) (q_pre (q_at (ρ' := [none]) rfl (q_nxs (q_nx () trivial)))))) (fun _ => rfl)
theorem ty_end_count (piece : (List Int)) : TEq (m_end_count [Enc.e piece]) (t_end_count piece) := by
  rw [r_end_count]
  unfold g_end_count t_end_count
  exact fn_T (E := fun _ _ => True) (L := fun _ _ => True) (q_if (t_tst (t_2 o_DB2 (t_co Co.up (t_2 o_idx (t_varO 0 oF piece dF) (t_c (0 : Int)))) (t_co Co.up (t_c ("stop" : Str))))) trivial (q_ret (f := fun r_ => (r_ : Int)) (p_x (t_exF (t_c (1 : Int)))) trivial (fun _ => dF _)) (q_nxs (q_if (t_tst (t_2 o_DB2 (t_co Co.up (t_2 o_idx (t_varO 0 oF piece dF) (t_c (0 : Int)))) (t_co Co.up (t_c ("points" : Str))))) trivial (q_ret (f := fun r_ => (r_ : Int)) (p_x (t_exF (t_c (3 : Int)))) trivial (fun _ => dF _)) (q_nxs (q_if (t_tst (t_2 o_DB2 (t_co Co.up (t_2 o_idx (t_varO 0 oF piece dF) (t_c (0 : Int)))) (t_co Co.up (t_c ("cross" : Str))))) trivial (q_ret (f := fun r_ => (r_ : Int)) (p_x (t_exF (t_c (4 : Int)))) trivial (fun _ => dF _)) (q_pre (q_at (ρ' := [none]) rfl (q_nxs (q_end (q_ret (f := fun r_ => (r_ : Int)) (p_x (t_exF (t_c (2 : Int)))) trivial (fun _ => dF _))))))))))) (fun _ => trivial)
theorem ty_check_end (piece : (List Int)) (end_ : Int) : TEq (m_check_end [Enc.e piece, Enc.e end_]) (t_check_end piece end_) := by
  rw [r_check_end]
  unfold g_check_end t_check_end
  exact fn_T (E := fun _ _ => True) (L := fun _ _ => True) (q_end (q_if (t_tnot (t_tst (t_vchain o_leI o_ltI (t_c (0 : Int)) (t_varO 1 oF end_ dF) (t_call1 ty_end_count (t_varO 0 oF piece dF))))) trivial (q_raise trivial) (q_pre (q_at (ρ' := [none, none]) rfl (q_nxs (q_nx () trivial)))))) (fun _ => rfl)
theorem ty_curved_end (radius : Int) (side : Int) : TEq (m_curved_end [Enc.e radius, Enc.e side]) (t_curved_end radius side) := by
  rw [r_curved_end]
  unfold g_curved_end t_curved_end
  exact fn_T (E := fun _ _ => True) (L := fun _ _ => True) (q_if (t_tst (t_2 o_DB2 (t_co Co.up (t_varO 1 oF side dF)) (t_co Co.up (t_c ("left" : Str))))) trivial (q_ret (f := fun r_ => (r_ : ((T4 Int Int Int Int) × Int))) (p_x (t_exF (t_tup2 (t_call2 ty_spot_sum (t_call2 ty_ray (t_var 0 radius) (t_c (2 : Int))) (t_call2 ty_ray (t_var 0 radius) (t_c (7 : Int)))) (t_c (1 : Int))))) trivial (fun _ => dF _)) (q_pre (q_at (ρ' := [some (oF radius), none]) rfl (q_nxs (q_end (q_ret (f := fun r_ => (r_ : ((T4 Int Int Int Int) × Int))) (p_x (t_exF (t_tup2 (t_call2 ty_spot_sum (t_call2 ty_ray (t_var 0 radius) (t_c (6 : Int))) (t_call2 ty_ray (t_var 0 radius) (t_c (1 : Int)))) (t_c (7 : Int))))) trivial (fun _ => dF _))))))) (fun _ => trivial)
theorem ty_straight_end (length : Int) : TEq (m_straight_end [Enc.e length]) (t_straight_end length) := by
  rw [r_straight_end]
  unfold g_straight_end t_straight_end
  exact fn_T (E := fun _ _ => True) (L := fun _ _ => True) (q_end (q_ret (f := fun r_ => (r_ : ((Tup Int) × Int))) (p_x (t_exF (t_tup2 (t_call2 ty_ray (t_var 0 length) (t_c (0 : Int))) (t_c (0 : Int))))) trivial (fun _ => dF _))) (fun _ => trivial)
theorem ty_cross_end (length : Int) (turn : Int) (end_ : Int) : TEq (m_cross_end [Enc.e length, Enc.e turn, Enc.e end_]) (t_cross_end length turn end_) := by
  rw [r_cross_end]
  unfold g_cross_end t_cross_end
  exact fn_T (E := fun _ _ => True) (L := fun _ _ => True) (q_set (p_x (t_exF (t_2 o_fdivI (t_var 0 length) (t_c (2 : Int))))) trivial fun half => (q_at (ρ' := [some (oF length), some (oF turn), some (oF end_), some (oF half)]) rfl (q_if (t_tst (t_2 o_eq (t_varO 2 oF end_ dF) (t_c (2 : Int)))) trivial (q_ret (f := fun r_ => (r_ : ((T4 Int Int Int Int) × Int))) (p_x (t_exF (t_tup2 (t_call2 ty_spot_sum (t_call2 ty_ray (t_var 3 half) (t_c (0 : Int))) (t_call2 ty_ray (t_var 3 half) (t_2 o_addI (t_var 1 turn) (t_c (4 : Int))))) (t_2 o_addI (t_var 1 turn) (t_c (4 : Int)))))) trivial (fun _ => dF _)) (q_pre (q_at (ρ' := [none, some (oF turn), none, some (oF half)]) rfl (q_nxs (q_end (q_ret (f := fun r_ => (r_ : ((T4 Int Int Int Int) × Int))) (p_x (t_exF (t_tup2 (t_call2 ty_spot_sum (t_call2 ty_ray (t_var 3 half) (t_c (0 : Int))) (t_call2 ty_ray (t_var 3 half) (t_var 1 turn))) (t_var 1 turn)))) trivial (fun _ => dF _))))))))) (fun _ => trivial)
theorem ty_end_pose (piece : (List Int)) (end_ : Int) : TEq (m_end_pose [Enc.e piece, Enc.e end_]) (t_end_pose piece end_) := by
  rw [r_end_pose]
  unfold g_end_pose t_end_pose
  exact fn_T (E := fun _ _ => True) (L := fun _ _ => True) (q_expr (p_x (t_exF (t_call2 ty_check_end (t_var 0 piece) (t_var 1 end_)))) trivial fun _ => (q_at (ρ' := [some (oF piece), some (oF end_)]) rfl (q_if (t_tst (t_2 o_eq (t_varO 1 oF end_ dF) (t_c (0 : Int)))) trivial (q_ret (f := fun r_ => (⟨(⟨[((r_).1).1, ((r_).1).2, ((r_).1).3, ((r_).1).4]⟩ : (Tup Int)), (r_).2⟩ : ((Tup Int) × Int))) (p_x (t_exF (t_c kt_BACK_END))) trivial (fun _ => dF _)) (q_nxs (q_if (t_tst (t_2 o_DB2 (t_co Co.up (t_2 o_idx (t_varO 0 oF piece dF) (t_c (0 : Int)))) (t_co Co.up (t_c ("curve" : Str))))) trivial (q_ret (f := fun r_ => (⟨(⟨[((r_).1).1, ((r_).1).2, ((r_).1).3, ((r_).1).4]⟩ : (Tup Int)), (r_).2⟩ : ((Tup Int) × Int))) (p_x (t_exF (t_call2 ty_curved_end (t_2 o_idx (t_var 0 piece) (t_c (1 : Int))) (t_2 o_idx (t_var 0 piece) (t_c (2 : Int)))))) trivial (fun _ => dF _)) (q_nxs (q_if (t_tand (t_tst (t_2 o_DB2 (t_co Co.up (t_2 o_idx (t_varO 0 oF piece dF) (t_c (0 : Int)))) (t_co Co.up (t_c ("points" : Str))))) (t_tst (t_2 o_eq (t_varO 1 oF end_ dF) (t_c (2 : Int))))) trivial (q_ret (f := fun r_ => (⟨(⟨[((r_).1).1, ((r_).1).2, ((r_).1).3, ((r_).1).4]⟩ : (Tup Int)), (r_).2⟩ : ((Tup Int) × Int))) (p_x (t_exF (t_call2 ty_curved_end (t_2 o_idx (t_var 0 piece) (t_c (2 : Int))) (t_2 o_idx (t_var 0 piece) (t_c (3 : Int)))))) trivial (fun _ => dF _)) (q_nxs (q_if (t_tand (t_tst (t_2 o_DB2 (t_co Co.up (t_2 o_idx (t_varO 0 oF piece dF) (t_c (0 : Int)))) (t_co Co.up (t_c ("cross" : Str))))) (t_tst (t_2 o_geI (t_varO 1 oF end_ dF) (t_c (2 : Int))))) trivial (q_ret (f := fun r_ => (⟨(⟨[((r_).1).1, ((r_).1).2, ((r_).1).3, ((r_).1).4]⟩ : (Tup Int)), (r_).2⟩ : ((Tup Int) × Int))) (p_x (t_exF (t_call3 ty_cross_end (t_2 o_idx (t_var 0 piece) (t_c (1 : Int))) (t_2 o_idx (t_var 0 piece) (t_c (2 : Int))) (t_var 1 end_)))) trivial (fun _ => dF _)) (q_pre (q_at (ρ' := [some (oF piece), none]) rfl (q_nxs (q_end (q_ret (f := fun r_ => (r_ : ((Tup Int) × Int))) (p_x (t_exF (t_call1 ty_straight_end (t_2 o_idx (t_var 0 piece) (t_c (1 : Int)))))) trivial (fun _ => dF _))))))))))))))) (fun _ => trivial)
theorem ty_is_item (item : (List Int)) : TEq (m_is_item [Enc.e item]) (t_is_item item) := by
  rw [r_is_item]
  unfold g_is_item t_is_item
  exact fn_T (E := fun _ _ => True) (L := fun _ _ => True) (q_try (τ := Unit) (Es := (fun s_ => match s_ with | _ => [some (oF item)])) (Zb := (fun ρ_ => kill [0] ρ_ = [none])) (q_end (q_expr (p_x (t_exF (t_call1 ty_check_piece (t_var 0 item)))) rfl fun _ => (q_at (ρ' := [some (oF item)]) rfl (q_nx () rfl)))) (fun ρ_ hz_ => q_hand hz_ (q_end (q_ret (f := fun r_ => (r_ : Bool)) (p_x (t_exF (t_c false))) trivial (fun _ => dF _)))) (fun _ _ => trivial) fun _ => (q_at (ρ' := [some (oF item)]) rfl (q_end (q_ret (f := fun r_ => (r_ : Bool)) (p_x (t_exF (t_2 o_DB2 (t_co Co.up (t_2 o_idx (t_var 0 item) (t_c (0 : Int)))) (t_co Co.up (t_c kt_ITEM_WORDS))))) trivial (fun _ => dF _))))) (fun _ => trivial)
theorem ty_circuit_sum_1 (item : (List Int)) (found : ((T4 Int Int Int Int) × Int)) {Z : OEnv → Prop} : SQ (fun s ρ => kill [2] ρ = E_circuit_sum_1 s) (fun s ρ => ρ = E_circuit_sum_1 s) (fun o _ (b : ((T4 Int Int Int Int) × Int)) => O.data o = Enc.e b) (fun _ => True) (b_circuit_sum_1 [none, some (oF found), some (oF item)]) (t_circuit_sum_1 item found) := by
  unfold b_circuit_sum_1 t_circuit_sum_1
  exact (q_end (q_set (p_x (t_exF (t_call2 ty_pose_product (t_var 1 found) (t_call2 ty_end_pose (t_var 2 item) (t_c (1 : Int)))))) trivial fun found => (q_at (ρ' := [none, some (oF found), some (oF item)]) rfl (q_nx found rfl))))
theorem ty_circuit_sum (items : (List (List Int))) : TEq (m_circuit_sum [Enc.e items]) (t_circuit_sum items) := by
  rw [r_circuit_sum]
  unfold g_circuit_sum t_circuit_sum
  exact fn_T (E := fun _ _ => True) (L := fun _ _ => True) (q_set (p_x (t_exF (t_c kt_UNIT))) trivial fun found => (q_at (ρ' := [some (oF items), some (oF found), none]) rfl (q_forK (E_circuit_sum_1) (fun item => [(2, Enc.e item)]) found (t_isq (t_var 0 items)) trivial rfl (fun item => rfl) (fun found => rfl) (fun item found => ty_circuit_sum_1 item found (Z := fun _ => True)) fun found => (q_at (ρ' := [none, some (oF found), none]) rfl (q_pre0 (q_at (ρ' := [none, some (oF found), none]) rfl (q_end (q_ret (f := fun r_ => (r_ : ((T4 Int Int Int Int) × Int))) (p_x (t_exF (t_var 1 found))) trivial (fun _ => dF _))))))))) (fun _ => trivial)
theorem ty_is_closed (items : (List (List Int))) : TEq (m_is_closed [Enc.e items]) (t_is_closed items) := by
  rw [r_is_closed]
  unfold g_is_closed t_is_closed
  exact fn_T (E := fun _ _ => True) (L := fun _ _ => True) (q_end (q_ret (f := fun r_ => (r_ : Bool)) (p_x (t_exF (t_vand (t_2 o_gtI (t_call1 o_len (t_var 0 items)) (t_c (0 : Int))) (t_2 o_eq (t_call1 ty_circuit_sum (t_var 0 items)) (t_c kt_UNIT))))) trivial (fun _ => dF _))) (fun _ => trivial)
theorem ty_straight_lengths (items : (List (List Int))) : TEq (m_straight_lengths [Enc.e items]) (t_straight_lengths items) := by
  rw [r_straight_lengths]
  unfold g_straight_lengths t_straight_lengths
  exact fn_T (E := fun _ _ => True) (L := fun _ _ => True) (q_end (q_ret (f := fun r_ => (r_ : (List Int))) (p_x (t_exF (t_list (t_fsort (t_list (t_fil (fun item => [(1, Enc.e item)]) (t_isq (t_var 0 items)) (fun item => rfl) (fun item => (t_tst (t_2 o_DB2 (t_co Co.up (t_2 o_idx (t_var 1 item) (t_c (0 : Int)))) (t_co Co.up (t_c ("straight" : Str)))))) (fun item => (t_2 o_idx (t_var 1 item) (t_c (1 : Int)))))))))) trivial (fun _ => dF _))) (fun _ => trivial)
theorem ty_curved_items (items : (List (List Int))) : TEq (m_curved_items [Enc.e items]) (t_curved_items items) := by
  rw [r_curved_items]
  unfold g_curved_items t_curved_items
  exact fn_T (E := fun _ _ => True) (L := fun _ _ => True) (q_end (q_ret (f := fun r_ => (r_ : (List (List Int)))) (p_x (t_exF (t_list (t_fil (fun item => [(1, Enc.e item)]) (t_isq (t_var 0 items)) (fun item => rfl) (fun item => (t_tst (t_2 o_DB2 (t_co Co.up (t_2 o_idx (t_var 1 item) (t_c (0 : Int)))) (t_co Co.up (t_c ("curve" : Str)))))) (fun item => (t_var 1 item)))))) trivial (fun _ => dF _))) (fun _ => trivial)
theorem ty_uses_up (box : (T3 (List Int) Int Int)) (items : (List (List Int))) : TEq (m_uses_up [Enc.e box, Enc.e items]) (t_uses_up box items) := by
  rw [r_uses_up]
  unfold g_uses_up t_uses_up
  exact fn_T (E := fun _ _ => True) (L := fun _ _ => True) (q_tup0 (fun ⟨straights, curves, radius⟩ => [(2, Enc.e straights), (3, Enc.e curves), (4, Enc.e radius)]) (t_exF (t_var 0 box)) trivial (fun ⟨straights, curves, radius⟩ => rfl) fun ⟨straights, curves, radius⟩ => (q_at (ρ' := [some (oF box), some (oF items), some (oF straights), some (oF curves), some (oF radius), none, none]) rfl (q_set (p_x (t_exF (t_call1 ty_curved_items (t_var 1 items)))) trivial fun bent => (q_at (ρ' := [some (oF box), some (oF items), some (oF straights), some (oF curves), some (oF radius), some (oF bent), none]) rfl (q_if (t_tor (t_tst (t_2 o_ne (t_call1 o_len (t_varO 5 oF bent dF)) (t_varO 3 oF curves dF))) (t_tnot (t_ttr o_truB (t_call1 o_all (t_list (t_map (fun item => [(6, Enc.e item)]) (t_isq (t_varO 5 oF bent dF)) (fun item => rfl) (fun item => (t_2 o_eq (t_2 o_idx (t_var 6 item) (t_c (1 : Int))) (t_varO 4 oF radius dF))))))))) trivial (q_ret (f := fun r_ => (r_ : Bool)) (p_x (t_exF (t_c false))) trivial (fun _ => dF _)) (q_pre (q_at (ρ' := [none, some (oF items), some (oF straights), none, none, none, none]) rfl (q_nxs (q_end (q_ret (f := fun r_ => (r_ : Bool)) (p_x (t_exF (t_2 o_eq (t_call1 ty_straight_lengths (t_var 1 items)) (t_list (t_fsort (t_var 2 straights)))))) trivial (fun _ => dF _))))))))))) (fun _ => trivial)
theorem ty_is_halved (straights : (List Int)) (last : (List Int)) : TEq (m_is_halved [Enc.e straights, Enc.e last]) (t_is_halved straights last) := by
  rw [r_is_halved]
  unfold g_is_halved t_is_halved
  exact fn_T (E := fun _ _ => True) (L := fun _ _ => True) (q_set (p_x (t_exF (t_call1 o_sum (t_var 0 straights)))) trivial fun total => (q_at (ρ' := [some (oF straights), some (oF last), some (oF total)]) rfl (q_end (q_ret (f := fun r_ => (r_ : Bool)) (p_x (t_exF (t_vand (t_2 o_eq (t_2 o_modI (t_var 2 total) (t_c (2 : Int))) (t_c (0 : Int))) (t_2 o_inX (t_2 o_fdivI (t_var 2 total) (t_c (2 : Int))) (t_var 1 last))))) trivial (fun _ => dF _))))) (fun _ => trivial)
theorem ty_is_round (box : (T3 (List Int) Int Int)) (items : (List (List Int))) : TEq (m_is_round [Enc.e box, Enc.e items]) (t_is_round box items) := by
  rw [r_is_round]
  unfold g_is_round t_is_round
  exact fn_T (E := fun _ _ => True) (L := fun _ _ => True) (q_if (t_tnot (t_ttr o_truB (t_call1 o_all (t_list (t_map (fun item => [(2, Enc.e item)]) (t_isq (t_varO 1 oF items dF)) (fun item => rfl) (fun item => (t_call1 ty_is_item (t_var 2 item)))))))) trivial (q_ret (f := fun r_ => (r_ : Bool)) (p_x (t_exF (t_c false))) trivial (fun _ => dF _)) (q_nxs (q_if (t_tnot (t_ttr o_truB (t_call1 o_all (t_list (t_map (fun item => [(2, Enc.e item)]) (t_isq (t_call1 ty_curved_items (t_varO 1 oF items dF))) (fun item => rfl) (fun item => (t_2 o_DB2 (t_co Co.up (t_2 o_idx (t_var 2 item) (t_c (2 : Int)))) (t_co Co.up (t_c ("left" : Str)))))))))) trivial (q_ret (f := fun r_ => (r_ : Bool)) (p_x (t_exF (t_c false))) trivial (fun _ => dF _)) (q_nxs (q_end (q_ret (f := fun r_ => (r_ : Bool)) (p_x (t_exF (t_vand (t_call2 ty_uses_up (t_var 0 box) (t_var 1 items)) (t_call1 ty_is_closed (t_var 1 items))))) trivial (fun _ => dF _))))))) (fun _ => trivial)
theorem ty_carries_on (sums : (List Int)) (after : (List Int)) (length : Int) : TEq (m_carries_on [Enc.e sums, Enc.e after, Enc.e length]) (t_carries_on sums after length) := by
  rw [r_carries_on]
  unfold g_carries_on t_carries_on
  exact fn_T (E := fun _ _ => True) (L := fun _ _ => True) (q_set (p_x (t_exF (t_call1 o_mkS (t_var 1 after)))) trivial fun known => (q_at (ρ' := [some (oF sums), some (oF after), some (oF length), some (oF known), none]) rfl (q_end (q_ret (f := fun r_ => (r_ : Bool)) (p_x (t_exF (t_call1 o_all (t_list (t_map (fun value => [(4, Enc.e value)]) (t_isq (t_var 0 sums)) (fun value => rfl) (fun value => (t_vand (t_2 o_inS (t_var 4 value) (t_var 3 known)) (t_2 o_inS (t_2 o_addI (t_var 4 value) (t_var 2 length)) (t_var 3 known))))))))) trivial (fun _ => dF _))))) (fun _ => trivial)
theorem ty_carries_all (straights : (List Int)) (sums : (List (List Int))) : TEq (m_carries_all [Enc.e straights, Enc.e sums]) (t_carries_all straights sums) := by
  rw [r_carries_all]
  unfold g_carries_all t_carries_all
  exact fn_T (E := fun _ _ => True) (L := fun _ _ => True) (q_if (t_tor (t_tst (t_2 o_ne (t_call1 o_len (t_varO 1 oF sums dF)) (t_2 o_addI (t_call1 o_len (t_varO 0 oF straights dF)) (t_c (1 : Int))))) (t_tst (t_2 o_ninX (t_c (0 : Int)) (t_2 o_idx (t_varO 1 oF sums dF) (t_c (0 : Int)))))) trivial (q_ret (f := fun r_ => (r_ : Bool)) (p_x (t_exF (t_c false))) trivial (fun _ => dF _)) (q_nxs (q_end (q_ret (f := fun r_ => (r_ : Bool)) (p_x (t_exF (t_call1 o_all (t_list (t_map (fun ⟨k, length⟩ => [(2, Enc.e k), (3, Enc.e length)]) (t_i1 o_enum (t_var 0 straights)) (fun ⟨k, length⟩ => rfl) (fun ⟨k, length⟩ => (t_call3 ty_carries_on (t_2 o_vixL (t_var 1 sums) (t_var 2 k)) (t_2 o_vixL (t_var 1 sums) (t_2 o_addI (t_var 2 k) (t_c (1 : Int)))) (t_var 3 length)))))))) trivial (fun _ => dF _))))) (fun _ => trivial)
theorem ty_shows_unequal (straights : (List Int)) (sums : (List (List Int))) : TEq (m_shows_unequal [Enc.e straights, Enc.e sums]) (t_shows_unequal straights sums) := by
  rw [r_shows_unequal]
  unfold g_shows_unequal t_shows_unequal
  exact fn_T (E := fun _ _ => True) (L := fun _ _ => True) (q_end (q_ret (f := fun r_ => (r_ : Bool)) (p_x (t_exF (t_vand (t_call2 ty_carries_all (t_var 0 straights) (t_var 1 sums)) (t_vnot (t_call2 ty_is_halved (t_var 0 straights) (t_2 o_vixL (t_var 1 sums) (t_1 o_negI (t_c (1 : Int))))))))) trivial (fun _ => dF _))) (fun _ => trivial)
theorem ty_judge_round (box : (T3 (List Int) Int Int)) (verdict : (Str × (List (List Int)))) : TEq (m_judge_round [Enc.e box, Enc.e verdict]) (t_judge_round box verdict) := by
  rw [r_judge_round]
  unfold g_judge_round t_judge_round
  exact fn_T (E := fun _ _ => True) (L := fun _ _ => True) (q_tup0 (fun ⟨word, paper⟩ => [(2, Enc.e word), (3, Enc.e paper)]) (t_exF (t_var 1 verdict)) trivial (fun ⟨word, paper⟩ => rfl) fun ⟨word, paper⟩ => (q_at (ρ' := [some (oF box), some (oF verdict), some (oF word), some (oF paper)]) rfl (q_if (t_tst (t_2 o_ne (o_pj (p := T3.b) (ha := (t_varO 0 oF box dF))) (t_c kt_ROUND_CURVES))) trivial (q_ret (f := fun r_ => (r_ : Bool)) (p_x (t_exF (t_c false))) trivial (fun _ => dF _)) (q_pre (q_at (ρ' := [some (oF box), none, some (oF word), some (oF paper)]) rfl (q_nxs (q_if (t_tst (t_2 o_eq (t_varO 2 oF word dF) (t_c ("round" : Str)))) trivial (q_ret (f := fun r_ => (r_ : Bool)) (p_x (t_exF (t_call2 ty_is_round (t_var 0 box) (t_var 3 paper)))) trivial (fun _ => dF _)) (q_nxs (q_end (q_ret (f := fun r_ => (r_ : Bool)) (p_x (t_exF (t_vand (t_2 o_eq (t_var 2 word) (t_c ("unequal" : Str))) (t_call2 ty_shows_unequal (o_pj (p := T3.a) (ha := (t_var 0 box))) (t_var 3 paper))))) trivial (fun _ => dF _))))))))))) (fun _ => trivial)
theorem ty_law_cell (script : (List Int)) (k : Int) : TEq (m_law_cell [Enc.e script, Enc.e k]) (t_law_cell script k) := by
  rw [r_law_cell]
  unfold g_law_cell t_law_cell
  exact fn_T (E := fun _ _ => True) (L := fun _ _ => True) (q_if (t_tst (t_2 o_ltI (t_varO 1 oF k dF) (t_call1 o_len (t_varO 0 oF script dF)))) trivial (q_ret (f := fun r_ => (r_ : Int)) (p_x (t_exF (t_call1 o_int (t_2 o_vixL (t_var 0 script) (t_var 1 k))))) trivial (fun _ => dF _)) (q_pre (q_at (ρ' := [none, none]) rfl (q_nxs (q_end (q_ret (f := fun r_ => (r_ : Int)) (p_x (t_exF (t_c (0 : Int)))) trivial (fun _ => dF _))))))) (fun _ => trivial)
theorem ty_law_numbers_1 (limit : Int) (k : Int) (cell : Int) (found : (List Int)) {Z : OEnv → Prop} : SQ (fun s ρ => kill [4] ρ = E_law_numbers_1 limit s) (fun s ρ => ρ = E_law_numbers_1 limit s) (fun o _ (b : (List Int)) => O.data o = Enc.e b) (fun _ => True) (b_law_numbers_1 [some (oF cell), none, some (oF limit), some ((oL oF) found), some (oF k), none]) (t_law_numbers_1 limit k cell found) := by
  unfold b_law_numbers_1 t_law_numbers_1
  exact (q_app (ox := oF) 3 found (p_x (t_exF (t_2 o_modI (t_call1 o_int (t_var 0 cell)) (t_var 2 limit)))) trivial fun found => (q_at (ρ' := [some (oF cell), none, some (oF limit), some ((oL oF) found), some (oF k), none]) rfl (q_end (q_set (p_x (t_exF (t_2 o_fdivI (t_call1 o_int (t_var 0 cell)) (t_var 2 limit)))) trivial fun cell => (q_at (ρ' := [some (oF cell), none, some (oF limit), some ((oL oF) found), some (oF k), none]) rfl (q_nx (cell, found) rfl))))))
theorem ty_law_numbers_2 (cell : Int) (limit : Int) (k : Int) (found : (List Int)) {Z : OEnv → Prop} : SQ (fun s ρ => kill [4, 5] ρ = E_law_numbers_2 cell limit s) (fun s ρ => ρ = E_law_numbers_2 cell limit s) (fun o _ (b : (List Int)) => O.data o = Enc.e b) (fun _ => True) (b_law_numbers_2 [some (oF cell), none, some (oF limit), some ((oL oF) found), some (oF k), none]) (t_law_numbers_2 cell limit k found) := by
  unfold b_law_numbers_2 t_law_numbers_2
  exact (q_set (p_x (t_exF (t_2 o_modI (t_call1 o_int (t_2 o_addI (t_2 o_addI (t_2 o_mulI (t_var 0 cell) (t_c (48271 : Int))) (t_2 o_mulI (t_var 4 k) (t_c (69621 : Int)))) (t_c (7 : Int)))) (t_c (2147483647 : Int))))) trivial fun mixed => (q_at (ρ' := [some (oF cell), none, some (oF limit), some ((oL oF) found), some (oF k), some (oF mixed)]) rfl (q_set (p_x (t_exF (t_2 o_modI (t_call1 o_int (t_2 o_addI (t_2 o_addI (t_2 o_addI (t_2 o_mulI (t_var 5 mixed) (t_var 5 mixed)) (t_2 o_mulI (t_var 5 mixed) (t_c (40692 : Int)))) (t_2 o_mulI (t_var 4 k) (t_c (16807 : Int)))) (t_c (11 : Int)))) (t_c (2147483399 : Int))))) trivial fun mixed => (q_at (ρ' := [some (oF cell), none, some (oF limit), some ((oL oF) found), some (oF k), some (oF mixed)]) rfl (q_end (q_app (ox := oF) 3 found (p_x (t_exF (t_2 o_modI (t_call1 o_int (t_2 o_fdivI (t_var 5 mixed) (t_c (32 : Int)))) (t_var 2 limit)))) trivial fun found => (q_at (ρ' := [some (oF cell), none, some (oF limit), some ((oL oF) found), some (oF k), some (oF mixed)]) rfl (q_nx found rfl))))))))
theorem ty_law_numbers (cell : Int) (count : Int) (limit : Int) : TEq (m_law_numbers [Enc.e cell, Enc.e count, Enc.e limit]) (t_law_numbers cell count limit) := by
  rw [r_law_numbers]
  unfold g_law_numbers t_law_numbers
  exact fn_T (E := fun _ _ => True) (L := fun _ _ => True) (q_set (p_frF (t_nil (α := Int))) trivial fun found => (q_at (ρ' := [some (oF cell), some (oF count), some (oF limit), some ((oL oF) found), none, none]) rfl (q_if (t_tst (t_2 o_geI (t_varO 0 oF cell dF) (t_2 o_powI (t_c (10 : Int)) (t_c (18 : Int))))) trivial (q_assoc (q_forK (E_law_numbers_1 limit) (fun k => [(4, Enc.e k)]) (cell, found) (t_x1 o_range1 (t_exF (t_var 1 count))) trivial rfl (fun k => rfl) (fun ⟨cell, found⟩ => rfl) (fun k ⟨cell, found⟩ => ty_law_numbers_1 limit k cell found (Z := fun _ => True)) fun ⟨cell, found⟩ => (q_at (ρ' := [some (oF cell), none, some (oF limit), some ((oL oF) found), none, none]) rfl (q_pre (q_at (ρ' := [none, none, none, some ((oL oF) found), none, none]) rfl (q_pre (q_at (freeze1 (ox := (oL oF)) 3 found (dL dF)) (q_at (ρ' := [none, none, none, some (oF found), none, none]) rfl (q_ret (f := fun r_ => (r_ : (List Int))) (p_x (t_exF (t_var 3 found))) trivial (fun _ => dF _)))))))))) (q_nxs (q_forK (E_law_numbers_2 cell limit) (fun k => [(4, Enc.e k)]) found (t_x1 o_range1 (t_exF (t_var 1 count))) trivial rfl (fun k => rfl) (fun found => rfl) (fun k found => ty_law_numbers_2 cell limit k found (Z := fun _ => True)) fun found => (q_at (ρ' := [some (oF cell), none, some (oF limit), some ((oL oF) found), none, none]) rfl (q_pre0 (q_at (ρ' := [none, none, none, some ((oL oF) found), none, none]) rfl (q_pre0 (q_at (freeze1 (ox := (oL oF)) 3 found (dL dF)) (q_at (ρ' := [none, none, none, some (oF found), none, none]) rfl (q_end (q_ret (f := fun r_ => (r_ : (List Int))) (p_x (t_exF (t_var 3 found))) trivial (fun _ => dF _)))))))))))))) (fun _ => trivial)
theorem ty_law_size (number : Int) : TEq (m_law_size [Enc.e number]) (t_law_size number) := by
  rw [r_law_size]
  unfold g_law_size t_law_size
  exact fn_T (E := fun _ _ => True) (L := fun _ _ => True) (q_set (p_x (t_exF (t_2 o_modI (t_call1 o_int (t_var 0 number)) (t_c (4 : Int))))) trivial fun kind => (q_at (ρ' := [some (oF number), some (oF kind), none]) rfl (q_set (p_x (t_exF (t_2 o_fdivI (t_call1 o_int (t_var 0 number)) (t_c (4 : Int))))) trivial fun rest => (q_at (ρ' := [some (oF number), some (oF kind), some (oF rest)]) rfl (q_if (t_tst (t_2 o_eq (t_varO 1 oF kind dF) (t_c (0 : Int)))) trivial (q_ret (f := fun r_ => (r_ : Int)) (p_x (t_exF (t_2 o_addI (t_c (1 : Int)) (t_2 o_modI (t_var 2 rest) (t_c (3 : Int)))))) trivial (fun _ => dF _)) (q_pre (q_at (ρ' := [none, some (oF kind), some (oF rest)]) rfl (q_nxs (q_if (t_tst (t_2 o_eq (t_varO 1 oF kind dF) (t_c (1 : Int)))) trivial (q_ret (f := fun r_ => (r_ : Int)) (p_x (t_exF (t_2 o_addI (t_c (1 : Int)) (t_2 o_modI (t_var 2 rest) (t_c (12 : Int)))))) trivial (fun _ => dF _)) (q_nxs (q_if (t_tst (t_2 o_eq (t_varO 1 oF kind dF) (t_c (2 : Int)))) trivial (q_ret (f := fun r_ => (r_ : Int)) (p_x (t_exF (t_2 o_subI (t_c (9999 : Int)) (t_2 o_modI (t_var 2 rest) (t_c (3 : Int)))))) trivial (fun _ => dF _)) (q_pre (q_at (ρ' := [none, none, some (oF rest)]) rfl (q_nxs (q_end (q_ret (f := fun r_ => (r_ : Int)) (p_x (t_exF (t_2 o_addI (t_c (1 : Int)) (t_2 o_modI (t_var 2 rest) (t_c (9999 : Int)))))) trivial (fun _ => dF _))))))))))))))))) (fun _ => trivial)
theorem ty_law_straights_3 (draws : (List Int)) (size : Int) (found : (List Int)) {Z : OEnv → Prop} : SQ (fun s ρ => kill [8] ρ = E_law_straights_3 draws s) (fun s ρ => ρ = E_law_straights_3 draws s) (fun o _ (b : (List Int)) => O.data o = Enc.e b) (fun _ => True) (b_law_straights_3 [none, none, none, some (oF draws), none, none, none, some ((oL oF) found), some (oF size), none, none]) (t_law_straights_3 draws size found) := by
  unfold b_law_straights_3 t_law_straights_3
  exact (q_insP (ll := fun (found : (List Int)) => ((R.ok size).tr fun a_ => (tapp found a_).tr fun found => (TR.nx found))) 7 (get := (fun (_ : Unit) (x_ : (List Int)) => some x_)) (set := (fun (_ : Unit) (_ : (List Int)) (zs : (List Int)) => zs)) found (fun _ => lq_self) (l_var (ox := (oL oF)) 7 found) (t_exB (t_2 o_modI (t_2 o_idx (t_varO 3 oF draws dF) (t_c (3 : Int))) (t_2 o_addI (t_call1 o_len (t_varO 7 (oL oF) found (dL dF))) (t_c (1 : Int))))) (n_x (t_exF (t_var 8 size))) trivial fun found => (q_at (ρ' := [none, none, none, some (oF draws), none, none, none, some ((oL oF) found), some (oF size), none, none]) rfl (q_end (q_app (ox := oF) 7 found (p_x (t_exF (t_var 8 size))) trivial fun found => (q_at (ρ' := [none, none, none, some (oF draws), none, none, none, some ((oL oF) found), some (oF size), none, none]) rfl (q_nx found rfl))))))
theorem ty_law_straights_4 (draws : (List Int)) (count : Int) (sizes : Addr) (size : Int) (total : Int) {Z : OEnv → Prop} : SQ (fun s ρ => kill [8] ρ = E_law_straights_4 draws count sizes s) (fun s ρ => ρ = E_law_straights_4 draws count sizes s) (fun o _ (b : (List Int)) => O.data o = Enc.e b) (fun _ => True) (b_law_straights_4 [none, none, none, some (oF draws), some (oF count), some (.fz (excA sizes)), none, none, some (oF size), some (oF total), none]) (t_law_straights_4 size total) := by
  unfold b_law_straights_4 t_law_straights_4
  exact (q_end (q_if (t_tst (t_2 o_gtI (t_varO 9 oF total dF) (t_c (0 : Int)))) trivial (q_assoc (q_set (p_x (t_exF (t_2 o_subI (t_var 9 total) (t_var 8 size)))) trivial fun total => (q_at (ρ' := [none, none, none, some (oF draws), some (oF count), some (.fz (excA sizes)), none, none, some (oF size), some (oF total), none]) rfl (q_pre (q_at (ρ' := [none, none, none, some (oF draws), some (oF count), some (.fz (excA sizes)), none, none, none, some (oF total), none]) rfl (q_nxs (q_nx total rfl))))))) (q_assoc (q_set (p_x (t_exF (t_2 o_addI (t_var 9 total) (t_var 8 size)))) trivial fun total => (q_at (ρ' := [none, none, none, some (oF draws), some (oF count), some (.fz (excA sizes)), none, none, some (oF size), some (oF total), none]) rfl (q_pre (q_at (ρ' := [none, none, none, some (oF draws), some (oF count), some (.fz (excA sizes)), none, none, none, some (oF total), none]) rfl (q_nxs (q_nx total rfl)))))))))
theorem ty_law_straights (cell : Int) (other : Int) (most : Int) : TEq (m_law_straights [Enc.e cell, Enc.e other, Enc.e most]) (t_law_straights cell other most) := by
  rw [r_law_straights]
  unfold g_law_straights t_law_straights
  exact fn_T (E := fun _ _ => True) (L := fun _ _ => True) (q_set (p_x (t_exF (t_call3 ty_law_numbers (t_var 0 cell) (t_c (6 : Int)) (t_c (5040 : Int))))) trivial fun draws => (q_at (ρ' := [some (oF cell), some (oF other), some (oF most), some (oF draws), none, none, none, none, none, none, none]) rfl (q_set (p_x (t_exF (t_2 o_modI (t_2 o_idx (t_var 3 draws) (t_c (0 : Int))) (t_2 o_addI (t_var 2 most) (t_c (1 : Int)))))) trivial fun count => (q_at (ρ' := [some (oF cell), some (oF other), some (oF most), some (oF draws), some (oF count), none, none, none, none, none, none]) rfl (q_set (p_frF (t_map (fun number => [(10, Enc.e number)]) (t_isq (t_call3 ty_law_numbers (t_var 1 other) (t_var 4 count) (t_c (39996 : Int)))) (fun number => rfl) (fun number => (t_call1 ty_law_size (t_var 10 number))))) trivial fun sizes => (q_at (ρ' := [some (oF cell), some (oF other), some (oF most), some (oF draws), some (oF count), some ((oL oF) sizes), none, none, none, none, none]) rfl (q_set (p_x (t_exF (t_2 o_modI (t_2 o_idx (t_var 3 draws) (t_c (1 : Int))) (t_c (4 : Int))))) trivial fun kind => (q_at (ρ' := [some (oF cell), some (oF other), some (oF most), some (oF draws), some (oF count), some ((oL oF) sizes), some (oF kind), none, none, none, none]) rfl (q_if (t_tst (t_2 o_eq (t_varO 6 oF kind dF) (t_c (0 : Int)))) trivial (q_pre (q_at (freeze1 (ox := (oL oF)) 5 sizes (dL dF)) (q_at (ρ' := [some (oF cell), some (oF other), some (oF most), some (oF draws), some (oF count), some (oF sizes), some (oF kind), none, none, none, none]) rfl (q_ret (f := fun r_ => (r_ : (List Int))) (p_x (t_exF (t_list (t_map (fun number => [(10, Enc.e number)]) (t_isq (t_call3 ty_law_numbers (t_var 1 other) (t_var 4 count) (t_2 o_addI (t_c (1 : Int)) (t_2 o_modI (t_2 o_idx (t_var 3 draws) (t_c (2 : Int))) (t_c (9 : Int)))))) (fun number => rfl) (fun number => (t_2 o_addI (t_c (1 : Int)) (t_var 10 number))))))) trivial (fun _ => dF _))))) (q_pre (q_at (ρ' := [none, none, some (oF most), some (oF draws), some (oF count), some ((oL oF) sizes), some (oF kind), none, none, none, none]) rfl (q_nxs (q_if (t_tst (t_2 o_eq (t_varO 6 oF kind dF) (t_c (1 : Int)))) trivial (q_pre (q_at (freeze1 (ox := (oL oF)) 5 sizes (dL dF)) (q_at (ρ' := [none, none, some (oF most), some (oF draws), some (oF count), some (oF sizes), some (oF kind), none, none, none, none]) rfl (q_assoc (q_set (p_frF (t_nil (α := Int))) trivial fun found => (q_at (ρ' := [none, none, some (oF most), some (oF draws), some (oF count), some (oF sizes), some (oF kind), some ((oL oF) found), none, none, none]) rfl (q_pre (q_at (ρ' := [none, none, some (oF most), some (oF draws), none, some (oF sizes), none, some ((oL oF) found), none, none, none]) rfl (q_assoc (q_forK (E_law_straights_3 draws) (fun size => [(8, Enc.e size)]) found (t_isq (t_slice (t_var 5 sizes) t_nopart (t_part (t_2 o_fdivI (t_var 2 most) (t_c (2 : Int)))))) trivial rfl (fun size => rfl) (fun found => rfl) (fun size found => ty_law_straights_3 draws size found (Z := fun _ => True)) fun found => (q_at (ρ' := [none, none, none, some (oF draws), none, none, none, some ((oL oF) found), none, none, none]) rfl (q_pre (q_at (ρ' := [none, none, none, none, none, none, none, some ((oL oF) found), none, none, none]) rfl (q_pre (q_at (freeze1 (ox := (oL oF)) 7 found (dL dF)) (q_at (ρ' := [none, none, none, none, none, none, none, some (oF found), none, none, none]) rfl (q_ret (f := fun r_ => (r_ : (List Int))) (p_x (t_exF (t_var 7 found))) trivial (fun _ => dF _)))))))))))))))))) (q_pre (q_at (ρ' := [none, none, none, some (oF draws), some (oF count), some ((oL oF) sizes), some (oF kind), none, none, none, none]) rfl (q_nxs (q_join (τ := (List Int)) (Es := fun s_ => match s_ with | sizes => [none, none, none, none, none, some (oF sizes), none, none, none, none, none]) (q_end (q_if (t_tand (t_tst (t_2 o_eq (t_varO 6 oF kind dF) (t_c (2 : Int)))) (t_tst (t_2 o_gtI (t_varO 4 oF count dF) (t_c (0 : Int))))) trivial (q_asn (q_expr (p_pop (ox := oF) 5 sizes) trivial fun ⟨_, sizes⟩ => (q_at (ρ' := [none, none, none, some (oF draws), some (oF count), some ((oL oF) sizes), some (oF kind), none, none, none, none]) rfl (q_set (p_x (t_exF (t_c (0 : Int)))) trivial fun total => (q_at (ρ' := [none, none, none, some (oF draws), some (oF count), some ((oL oF) sizes), some (oF kind), none, none, some (oF total), none]) rfl (q_pre0 (q_at (ρ' := [none, none, none, some (oF draws), some (oF count), some ((oL oF) sizes), none, none, none, some (oF total), none]) rfl (q_forO (fun a_l => E_law_straights_4 draws count a_l) (fun s_ => match s_ with | total => [none, none, none, some (oF draws), some (oF count), some ((oL oF) sizes), none, none, none, some (oF total), none]) (fun size => [(8, Enc.e size)]) total rfl (fun _ => rfl) (fun _ total => rfl) (fun _ total => rfl) (fun size => rfl) (fun _ total => rfl) (fun a_l size total => ty_law_straights_4 draws count a_l size total (Z := fun _ => True)) fun total => (q_at (ρ' := [none, none, none, some (oF draws), some (oF count), some ((oL oF) sizes), none, none, none, some (oF total), none]) rfl (q_end (q_if (t_tst (t_2 o_ne (t_varO 9 oF total dF) (t_c (0 : Int)))) trivial (q_assoc (q_insP (ll := fun (sizes : (List Int)) => (TR.nx sizes)) 5 (get := (fun (_ : Unit) (x_ : (List Int)) => some x_)) (set := (fun (_ : Unit) (_ : (List Int)) (zs : (List Int)) => zs)) sizes (fun _ => lq_self) (l_var (ox := (oL oF)) 5 sizes) (t_exF (t_2 o_modI (t_2 o_idx (t_var 3 draws) (t_c (3 : Int))) (t_var 4 count))) (n_x (t_exF (t_call1 o_abs (t_var 9 total)))) trivial fun sizes => (q_at (ρ' := [none, none, none, some (oF draws), some (oF count), some ((oL oF) sizes), none, none, none, some (oF total), none]) rfl (q_pre (q_at (freeze1 (ox := (oL oF)) 5 sizes (dL dF)) (q_at (ρ' := [none, none, none, some (oF draws), some (oF count), some (oF sizes), none, none, none, some (oF total), none]) rfl (q_pre (q_at (ρ' := [none, none, none, none, none, some (oF sizes), none, none, none, none, none]) rfl (q_nxs (q_nx sizes rfl)))))))))) (q_pre (q_at (freeze1 (ox := (oL oF)) 5 sizes (dL dF)) (q_at (ρ' := [none, none, none, some (oF draws), some (oF count), some (oF sizes), none, none, none, some (oF total), none]) rfl (q_pre (q_at (ρ' := [none, none, none, none, none, some (oF sizes), none, none, none, none, none]) rfl (q_nxs (q_nx sizes rfl)))))))))))))))))) (q_asn (q_pre0 (q_at (freeze1 (ox := (oL oF)) 5 sizes (dL dF)) (q_at (ρ' := [none, none, none, some (oF draws), some (oF count), some (oF sizes), some (oF kind), none, none, none, none]) rfl (q_pre0 (q_at (ρ' := [none, none, none, none, none, some (oF sizes), none, none, none, none, none]) rfl (q_nx sizes rfl))))))))) fun sizes => (q_end (q_ret (f := fun r_ => (r_ : (List Int))) (p_x (t_exF (t_var 5 sizes))) trivial (fun _ => dF _)))))))))))))))))))) (fun _ => trivial)
theorem ty_law_sums_1 (found : (List (List Int))) (length : Int) (value : Int) (known : (Dc Int Bool)) {Z : OEnv → Prop} : SQ (fun s ρ => kill [4] ρ = E_law_sums_1 found length s) (fun s ρ => ρ = E_law_sums_1 found length s) (fun o _ (b : (List (List Int))) => O.data o = Enc.e b) (fun _ => True) (b_law_sums_1 [none, some ((oL oF) found), some (oF length), some ((oM oF) known), some (oF value)]) (t_law_sums_1 length value known) := by
  unfold b_law_sums_1 t_law_sums_1
  exact (q_dputV 3 known (p_x (t_exF (t_c true))) (t_exF (t_var 4 value)) trivial (fun known => (q_at (ρ' := [none, some ((oL oF) found), some (oF length), some ((oM oF) known), some (oF value)]) rfl (q_end (q_dputV 3 known (p_x (t_exF (t_c true))) (t_exF (t_2 o_addI (t_var 4 value) (t_var 2 length))) trivial (fun known => (q_at (ρ' := [none, some ((oL oF) found), some (oF length), some ((oM oF) known), some (oF value)]) rfl (q_nx known rfl))) (by intro x_ h_; exact Bool.noConfusion h_))))) (by intro x_ h_; exact Bool.noConfusion h_))
theorem ty_law_sums_2 (length : Int) (found : (List (List Int))) {Z : OEnv → Prop} : SQ (fun s ρ => kill [2, 3, 4] ρ = E_law_sums_2 s) (fun s ρ => ρ = E_law_sums_2 s) (fun o _ (b : (List (List Int))) => O.data o = Enc.e b) (fun _ => True) (b_law_sums_2 [none, some ((oL oF) found), some (oF length), none, none]) (t_law_sums_2 length found) := by
  unfold b_law_sums_2 t_law_sums_2
  exact (q_set (p_dnew (oe := oF) 203 rfl) trivial fun known => (q_at (ρ' := [none, some ((oL oF) found), some (oF length), some ((oM oF) known), none]) rfl (q_pre0 (q_at (ρ' := [none, some ((oL oF) found), some (oF length), some ((oM oF) known), none]) rfl (q_for (E_law_sums_1 found length) (fun value => [(4, Enc.e value)]) known (t_x1 o_seqL (t_exPI found (t_exB (t_2 o_subI (t_call1 o_len (t_varO 1 (oL oF) found (dL dF))) (t_c (1 : Int)))))) trivial rfl (fun value => rfl) (fun known => rfl) (fun value known => ty_law_sums_1 found length value known (Z := fun _ => True)) fun known => (q_at (ρ' := [none, some ((oL oF) found), some (oF length), some ((oM oF) known), none]) rfl (q_pre0 (q_at (ρ' := [none, some ((oL oF) found), none, some ((oM oF) known), none]) rfl (q_pre0 (q_at (freeze1 (ox := (oM oF)) 3 known (dM dF)) (q_at (ρ' := [none, some ((oL oF) found), none, some (oF known), none]) rfl (q_end (q_app (ox := oF) 1 found (p_x (t_exF (t_list (t_fsort (t_list (t_keysI (t_var 3 known))))))) trivial fun found => (q_at (ρ' := [none, some ((oL oF) found), none, some (oF known), none]) rfl (q_nx found rfl)))))))))))))))
theorem ty_law_sums (straights : (List Int)) : TEq (m_law_sums [Enc.e straights]) (t_law_sums straights) := by
  rw [r_law_sums]
  unfold g_law_sums t_law_sums
  exact fn_T (E := fun _ _ => True) (L := fun _ _ => True) (q_set (p_frF (t_cons (t_list (t_cons (t_c (0 : Int)) (t_nil (α := Int)))) (t_nil (α := (List Int))))) trivial fun found => (q_at (ρ' := [some (oF straights), some ((oL oF) found), none, none, none]) rfl (q_forK (E_law_sums_2) (fun length => [(2, Enc.e length)]) found (t_isq (t_var 0 straights)) trivial rfl (fun length => rfl) (fun found => rfl) (fun length found => ty_law_sums_2 length found (Z := fun _ => True)) fun found => (q_at (ρ' := [none, some ((oL oF) found), none, none, none]) rfl (q_pre0 (q_at (ρ' := [none, some ((oL oF) found), none, none, none]) rfl (q_pre0 (q_at (freeze1 (ox := (oL oF)) 1 found (dL dF)) (q_at (ρ' := [none, some (oF found), none, none, none]) rfl (q_end (q_ret (f := fun r_ => (r_ : (List (List Int)))) (p_x (t_exF (t_var 1 found))) trivial (fun _ => dF _)))))))))))) (fun _ => trivial)
theorem ty_law_accepted_1 (sums : (List (List Int))) (lengths : (List Int)) (k : Int) (value : Int) (known : (Dc Int Bool)) {Z : OEnv → Prop} : SQ (fun s ρ => kill [5] ρ = E_law_accepted_1 sums lengths k s) (fun s ρ => ρ = E_law_accepted_1 sums lengths k s) (fun o _ (b : Bool) => O.data o = Enc.e b) (fun _ => True) (b_law_accepted_1 [none, some (oF sums), some (oF lengths), some (oF k), some ((oM oF) known), some (oF value), none]) (t_law_accepted_1 value known) := by
  unfold b_law_accepted_1 t_law_accepted_1
  exact (q_end (q_dputV 4 known (p_x (t_exF (t_c true))) (t_exF (t_var 5 value)) trivial (fun known => (q_at (ρ' := [none, some (oF sums), some (oF lengths), some (oF k), some ((oM oF) known), some (oF value), none]) rfl (q_nx known rfl))) (by intro x_ h_; exact Bool.noConfusion h_)))
theorem ty_law_accepted_2 (sums : (List (List Int))) (lengths : (List Int)) (k : Int) (known : (Dc Int Bool)) (value : Int) {Z : OEnv → Prop} : SQ (fun s ρ => kill [5] ρ = E_law_accepted_2 sums lengths k known s) (fun s ρ => ρ = E_law_accepted_2 sums lengths k known s) (fun o _ (b : Bool) => O.data o = Enc.e b) (fun _ => True) (b_law_accepted_2 [none, some (oF sums), some (oF lengths), some (oF k), some (oF known), some (oF value), none]) (t_law_accepted_2 lengths k known value) := by
  unfold b_law_accepted_2 t_law_accepted_2
  exact (q_end (q_if (t_tor (t_tst (t_2 o_dnin (t_varO 5 oF value dF) (t_varO 4 oF known dF))) (t_tst (t_2 o_dnin (t_2 o_addI (t_varO 5 oF value dF) (t_2 o_vixL (t_varO 2 oF lengths dF) (t_varO 3 oF k dF))) (t_varO 4 oF known dF)))) trivial (q_ret (f := fun r_ => (r_ : Bool)) (p_x (t_exF (t_c false))) trivial (fun _ => dF _)) (q_pre (q_at (ρ' := [none, some (oF sums), some (oF lengths), some (oF k), some (oF known), none, none]) rfl (q_nxs (q_nx () rfl))))))
theorem ty_law_accepted_3 (sums : (List (List Int))) (lengths : (List Int)) (k : Int) {Z : OEnv → Prop} : SQ (fun s ρ => kill [3, 4, 5] ρ = E_law_accepted_3 sums lengths s) (fun s ρ => ρ = E_law_accepted_3 sums lengths s) (fun o _ (b : Bool) => O.data o = Enc.e b) (fun _ => True) (b_law_accepted_3 [none, some (oF sums), some (oF lengths), some (oF k), none, none, none]) (t_law_accepted_3 sums lengths k) := by
  unfold b_law_accepted_3 t_law_accepted_3
  exact (q_set (p_dnew (oe := oF) 214 rfl) trivial fun known => (q_at (ρ' := [none, some (oF sums), some (oF lengths), some (oF k), some ((oM oF) known), none, none]) rfl (q_for (E_law_accepted_1 sums lengths k) (fun value => [(5, Enc.e value)]) known (t_isq (t_2 o_vixL (t_var 1 sums) (t_2 o_addI (t_var 3 k) (t_c (1 : Int))))) trivial rfl (fun value => rfl) (fun known => rfl) (fun value known => ty_law_accepted_1 sums lengths k value known (Z := fun _ => True)) fun known => (q_at (ρ' := [none, some (oF sums), some (oF lengths), some (oF k), some ((oM oF) known), none, none]) rfl (q_pre0 (q_at (ρ' := [none, some (oF sums), some (oF lengths), some (oF k), some ((oM oF) known), none, none]) rfl (q_pre0 (q_at (freeze1 (ox := (oM oF)) 4 known (dM dF)) (q_at (ρ' := [none, some (oF sums), some (oF lengths), some (oF k), some (oF known), none, none]) rfl (q_end (q_for (E_law_accepted_2 sums lengths k known) (fun value => [(5, Enc.e value)]) () (t_isq (t_2 o_vixL (t_var 1 sums) (t_var 3 k))) trivial rfl (fun value => rfl) (fun _ => rfl) (fun value _ => ty_law_accepted_2 sums lengths k known value (Z := fun _ => True)) fun _ => (q_at (ρ' := [none, some (oF sums), some (oF lengths), some (oF k), some (oF known), none, none]) rfl (q_nx () rfl)))))))))))))
theorem ty_law_accepted (box : ((List Int) × Int)) (sums : (List (List Int))) : TEq (m_law_accepted [Enc.e box, Enc.e sums]) (t_law_accepted box sums) := by
  rw [r_law_accepted]
  unfold g_law_accepted t_law_accepted
  exact fn_T (E := fun _ _ => True) (L := fun _ _ => True) (q_set (p_x (t_exF (o_pj (p := Prod.fst) (ha := (t_var 0 box))))) trivial fun lengths => (q_at (ρ' := [some (oF box), some (oF sums), some (oF lengths), none, none, none, none]) rfl (q_if (t_tor (t_tst (t_2 o_ne (o_pj (p := Prod.snd) (ha := (t_varO 0 oF box dF))) (t_c (8 : Int)))) (t_tor (t_tst (t_2 o_ne (t_call1 o_len (t_varO 1 oF sums dF)) (t_2 o_addI (t_call1 o_len (t_varO 2 oF lengths dF)) (t_c (1 : Int))))) (t_tst (t_2 o_ninX (t_c (0 : Int)) (t_2 o_idx (t_varO 1 oF sums dF) (t_c (0 : Int))))))) trivial (q_ret (f := fun r_ => (r_ : Bool)) (p_x (t_exF (t_c false))) trivial (fun _ => dF _)) (q_pre (q_at (ρ' := [none, some (oF sums), some (oF lengths), none, none, none, none]) rfl (q_nxs (q_for (E_law_accepted_3 sums lengths) (fun k => [(3, Enc.e k)]) () (t_x1 o_range1 (t_exF (t_call1 o_len (t_var 2 lengths)))) trivial rfl (fun k => rfl) (fun _ => rfl) (fun k _ => ty_law_accepted_3 sums lengths k (Z := fun _ => True)) fun _ => (q_at (ρ' := [none, some (oF sums), some (oF lengths), none, none, none, none]) rfl (q_pre0 (q_at (ρ' := [none, some (oF sums), some (oF lengths), none, none, none, none]) rfl (q_set (p_x (t_exF (t_call1 o_sum (t_var 2 lengths)))) trivial fun total => (q_at (ρ' := [none, some (oF sums), some (oF lengths), none, none, none, some (oF total)]) rfl (q_end (q_ret (f := fun r_ => (r_ : Bool)) (p_x (t_exF (t_vor (t_2 o_eq (t_2 o_modI (t_var 6 total) (t_c (2 : Int))) (t_c (1 : Int))) (t_2 o_ninX (t_2 o_fdivI (t_var 6 total) (t_c (2 : Int))) (t_2 o_vixL (t_var 1 sums) (t_call1 o_len (t_var 2 lengths))))))) trivial (fun _ => dF _))))))))))))))) (fun _ => trivial)
theorem ty_law_carried_3 (lengths : (List Int)) (k : Int) (found : (List (List Int))) (rest : (List Int)) {Z : OEnv → Prop} : SQ (fun s ρ => kill [6] ρ = E_law_carried_3 lengths s) (fun s ρ => ρ = E_law_carried_3 lengths s) (fun o _ (b : (List (List Int))) => O.data o = Enc.e b) (fun _ => True) (b_law_carried_3 [some (oF lengths), none, none, none, some ((oL oF) found), some (oF rest), some (oF k), none, none]) (t_law_carried_3 lengths k found rest) := by
  unfold b_law_carried_3 t_law_carried_3
  exact (q_setX (ll := fun (found : (List (List Int))) => (tite (b2 tltI (R.ok k) (b1 tlen (R.ok lengths))) ((b2 taddL (R.ok rest) ((R.ok rest).bind fun xs_ => (tmap (fun value => (b2 taddI (R.ok value) (b2 tidx (R.ok lengths) (R.ok k)))) xs_).calm)).tr fun rest => (TR.nx (found, rest))) (TR.nx (found, rest)))) 4 (get := (fun (_ : Unit) (x_ : (List (List Int))) => some x_)) (set := (fun (_ : Unit) (_ : (List (List Int))) (zs : (List (List Int))) => zs)) found (fun _ => lq_self) (p_x (t_x2v o_addL (t_exPI found (t_exF (t_var 6 k))) (t_exF (t_var 5 rest)))) (l_var (ox := (oL oF)) 4 found) (t_exF (t_var 6 k)) trivial fun found => (q_at (ρ' := [some (oF lengths), none, none, none, some ((oL oF) found), some (oF rest), some (oF k), none, none]) rfl (q_end (q_if (t_tst (t_2 o_ltI (t_varO 6 oF k dF) (t_call1 o_len (t_varO 0 oF lengths dF)))) trivial (q_assoc (q_set (p_x (t_exF (t_2 o_addL (t_var 5 rest) (t_list (t_map (fun value => [(8, Enc.e value)]) (t_isq (t_var 5 rest)) (fun value => rfl) (fun value => (t_2 o_addI (t_var 8 value) (t_2 o_vixL (t_var 0 lengths) (t_var 6 k))))))))) trivial fun rest => (q_at (ρ' := [some (oF lengths), none, none, none, some ((oL oF) found), some (oF rest), some (oF k), none, none]) rfl (q_pre (q_at (ρ' := [some (oF lengths), none, none, none, some ((oL oF) found), some (oF rest), none, none, none]) rfl (q_nxs (q_nx (found, rest) rfl))))))) (q_pre (q_at (ρ' := [some (oF lengths), none, none, none, some ((oL oF) found), some (oF rest), none, none, none]) rfl (q_nxs (q_nx (found, rest) rfl))))))))
theorem ty_law_carried (lengths : (List Int)) (sums : (List (List Int))) (at_ : Int) (number : Int) : TEq (m_law_carried [Enc.e lengths, Enc.e sums, Enc.e at_, Enc.e number]) (t_law_carried lengths sums at_ number) := by
  rw [r_law_carried]
  unfold g_law_carried t_law_carried
  exact fn_T (E := fun _ _ => True) (L := fun _ _ => True) (q_set (p_frF (t_map (fun row => [(7, Enc.e row)]) (t_isq (t_var 1 sums)) (fun row => rfl) (fun row => (t_list (t_isq (t_var 7 row)))))) trivial fun found => (q_at (ρ' := [some (oF lengths), some (oF sums), some (oF at_), some (oF number), some ((oL oF) found), none, none, none, none]) rfl (q_set (p_x (t_exF (t_list (t_cons (t_var 3 number) (t_nil (α := Int)))))) trivial fun rest => (q_at (ρ' := [some (oF lengths), some (oF sums), some (oF at_), some (oF number), some ((oL oF) found), some (oF rest), none, none, none]) rfl (q_pre0 (q_at (ρ' := [some (oF lengths), some (oF sums), some (oF at_), none, some ((oL oF) found), some (oF rest), none, none, none]) rfl (q_forK (E_law_carried_3 lengths) (fun k => [(6, Enc.e k)]) (found, rest) (t_x2 o_range2 (t_exF (t_var 2 at_)) (t_exF (t_call1 o_len (t_var 1 sums)))) trivial rfl (fun k => rfl) (fun ⟨found, rest⟩ => rfl) (fun k ⟨found, rest⟩ => ty_law_carried_3 lengths k found rest (Z := fun _ => True)) fun ⟨found, rest⟩ => (q_at (ρ' := [some (oF lengths), none, none, none, some ((oL oF) found), some (oF rest), none, none, none]) rfl (q_pre0 (q_at (ρ' := [none, none, none, none, some ((oL oF) found), none, none, none, none]) rfl (q_pre0 (q_at (freeze1 (ox := (oL oF)) 4 found (dL dF)) (q_at (ρ' := [none, none, none, none, some (oF found), none, none, none, none]) rfl (q_end (q_ret (f := fun r_ => (r_ : (List (List Int)))) (p_x (t_exF (t_var 4 found))) trivial (fun _ => dF _)))))))))))))))) (fun _ => trivial)
theorem ty_law_with (sums : (List (List Int))) (at_ : Int) (row : (List Int)) : TEq (m_law_with [Enc.e sums, Enc.e at_, Enc.e row]) (t_law_with sums at_ row) := by
  rw [r_law_with]
  unfold g_law_with t_law_with
  exact fn_T (E := fun _ _ => True) (L := fun _ _ => True) (q_end (q_ret (f := fun r_ => (r_ : (List (List Int)))) (p_x (t_exF (t_2 o_addL (t_2 o_addL (t_list (t_map (fun one => [(3, Enc.e one)]) (t_isq (t_slice (t_var 0 sums) t_nopart (t_part (t_var 1 at_)))) (fun one => rfl) (fun one => (t_list (t_isq (t_var 3 one)))))) (t_list (t_cons (t_list (t_isq (t_var 2 row))) (t_nil (α := (List Int)))))) (t_list (t_map (fun one => [(3, Enc.e one)]) (t_isq (t_slice (t_var 0 sums) (t_part (t_2 o_addI (t_var 1 at_) (t_c (1 : Int)))) t_nopart)) (fun one => rfl) (fun one => (t_list (t_isq (t_var 3 one))))))))) trivial (fun _ => dF _))) (fun _ => trivial)
theorem ty_law_variants (lengths : (List Int)) (sums : (List (List Int))) (draws : (List Int)) : TEq (m_law_variants [Enc.e lengths, Enc.e sums, Enc.e draws]) (t_law_variants lengths sums draws) := by
  rw [r_law_variants]
  unfold g_law_variants t_law_variants
  exact fn_T (E := fun _ _ => True) (L := fun _ _ => True) (q_set (p_x (t_exF (t_2 o_modI (t_2 o_idx (t_var 2 draws) (t_c (0 : Int))) (t_call1 o_len (t_var 1 sums))))) trivial fun at_ => (q_at (ρ' := [some (oF lengths), some (oF sums), some (oF draws), some (oF at_), none, none, none, none, none, none, none, none]) rfl (q_set (p_x (t_exF (t_2 o_vixL (t_var 1 sums) (t_var 3 at_)))) trivial fun row => (q_at (ρ' := [some (oF lengths), some (oF sums), some (oF draws), some (oF at_), some (oF row), none, none, none, none, none, none, none]) rfl (q_set (p_x (t_exF (t_2 o_modI (t_2 o_idx (t_var 2 draws) (t_c (1 : Int))) (t_call1 o_len (t_var 4 row))))) trivial fun spot => (q_at (ρ' := [some (oF lengths), some (oF sums), some (oF draws), some (oF at_), some (oF row), some (oF spot), none, none, none, none, none, none]) rfl (q_set (p_x (t_exF (t_2 o_fdivI (t_call1 o_sum (t_var 0 lengths)) (t_c (2 : Int))))) trivial fun half => (q_at (ρ' := [some (oF lengths), some (oF sums), some (oF draws), some (oF at_), some (oF row), some (oF spot), some (oF half), none, none, none, none, none]) rfl (q_set (p_x (t_exF (t_2 o_addI (t_2 o_subI (t_2 o_modI (t_2 o_idx (t_var 2 draws) (t_c (2 : Int))) (t_c (5 : Int))) (t_c (2 : Int))) (t_2 o_mulI (t_var 6 half) (t_2 o_modI (t_2 o_idx (t_var 2 draws) (t_c (3 : Int))) (t_c (2 : Int))))))) trivial fun far => (q_at (ρ' := [some (oF lengths), some (oF sums), some (oF draws), some (oF at_), some (oF row), some (oF spot), some (oF half), some (oF far), none, none, none, none]) rfl (q_set (p_frF (t_cons (t_var 1 sums) (t_cons (t_list (t_map (fun one => [(10, Enc.e one)]) (t_isq (t_var 1 sums)) (fun one => rfl) (fun one => (t_list (t_frev (t_var 10 one)))))) (t_cons (t_list (t_map (fun one => [(10, Enc.e one)]) (t_isq (t_var 1 sums)) (fun one => rfl) (fun one => (t_2 o_addL (t_var 10 one) (t_slice (t_var 10 one) t_nopart (t_part (t_c (1 : Int)))))))) (t_nil (α := (List (List Int)))))))) trivial fun found => (q_at (ρ' := [some (oF lengths), some (oF sums), some (oF draws), some (oF at_), some (oF row), some (oF spot), some (oF half), some (oF far), some ((oL oF) found), none, none, none]) rfl (q_app (ox := oF) 8 found (p_x (t_exF (t_call4 ty_law_carried (t_var 0 lengths) (t_var 1 sums) (t_var 3 at_) (t_var 7 far)))) trivial fun found => (q_at (ρ' := [some (oF lengths), some (oF sums), some (oF draws), some (oF at_), some (oF row), some (oF spot), some (oF half), some (oF far), some ((oL oF) found), none, none, none]) rfl (q_app (ox := oF) 8 found (p_x (t_exF (t_call4 ty_law_carried (t_var 0 lengths) (t_var 1 sums) (t_c (0 : Int)) (t_2 o_subI (t_2 o_idx (t_var 2 draws) (t_c (2 : Int))) (t_c (20000 : Int)))))) trivial fun found => (q_at (ρ' := [some (oF lengths), some (oF sums), some (oF draws), some (oF at_), some (oF row), some (oF spot), some (oF half), some (oF far), some ((oL oF) found), none, none, none]) rfl (q_app (ox := oF) 8 found (p_x (t_exF (t_call3 ty_law_with (t_var 1 sums) (t_var 3 at_) (t_2 o_addL (t_var 4 row) (t_list (t_cons (t_var 7 far) (t_nil (α := Int)))))))) trivial fun found => (q_at (ρ' := [some (oF lengths), some (oF sums), some (oF draws), some (oF at_), some (oF row), some (oF spot), some (oF half), some (oF far), some ((oL oF) found), none, none, none]) rfl (q_app (ox := oF) 8 found (p_x (t_exF (t_call3 ty_law_with (t_var 1 sums) (t_var 3 at_) (t_2 o_addL (t_slice (t_var 4 row) t_nopart (t_part (t_var 5 spot))) (t_slice (t_var 4 row) (t_part (t_2 o_addI (t_var 5 spot) (t_c (1 : Int)))) t_nopart))))) trivial fun found => (q_at (ρ' := [some (oF lengths), some (oF sums), some (oF draws), some (oF at_), some (oF row), some (oF spot), some (oF half), some (oF far), some ((oL oF) found), none, none, none]) rfl (q_app (ox := oF) 8 found (p_x (t_exF (t_call3 ty_law_with (t_var 1 sums) (t_var 3 at_) (t_2 o_addL (t_2 o_addL (t_slice (t_var 4 row) t_nopart (t_part (t_var 5 spot))) (t_list (t_cons (t_2 o_addI (t_2 o_vixL (t_var 4 row) (t_var 5 spot)) (t_c (1 : Int))) (t_nil (α := Int))))) (t_slice (t_var 4 row) (t_part (t_2 o_addI (t_var 5 spot) (t_c (1 : Int)))) t_nopart))))) trivial fun found => (q_at (ρ' := [some (oF lengths), some (oF sums), some (oF draws), some (oF at_), some (oF row), some (oF spot), some (oF half), some (oF far), some ((oL oF) found), none, none, none]) rfl (q_app (ox := oF) 8 found (p_x (t_exF (t_call3 ty_law_with (t_var 1 sums) (t_var 3 at_) (t_list (t_nil (α := Int)))))) trivial fun found => (q_at (ρ' := [some (oF lengths), some (oF sums), some (oF draws), some (oF at_), some (oF row), some (oF spot), some (oF half), some (oF far), some ((oL oF) found), none, none, none]) rfl (q_set (p_x (t_exF (t_2 o_subI (t_call1 o_len (t_var 1 sums)) (t_c (1 : Int))))) trivial fun last => (q_at (ρ' := [some (oF lengths), some (oF sums), some (oF draws), some (oF at_), some (oF row), some (oF spot), some (oF half), some (oF far), some ((oL oF) found), some (oF last), none, none]) rfl (q_app (ox := oF) 8 found (p_x (t_exF (t_call3 ty_law_with (t_var 1 sums) (t_var 9 last) (t_2 o_addL (t_2 o_vixL (t_var 1 sums) (t_var 9 last)) (t_list (t_cons (t_var 6 half) (t_nil (α := Int)))))))) trivial fun found => (q_at (ρ' := [some (oF lengths), some (oF sums), some (oF draws), some (oF at_), some (oF row), some (oF spot), some (oF half), some (oF far), some ((oL oF) found), some (oF last), none, none]) rfl (q_app (ox := oF) 8 found (p_x (t_exF (t_call3 ty_law_with (t_var 1 sums) (t_var 9 last) (t_list (t_fil (fun value => [(11, Enc.e value)]) (t_isq (t_2 o_vixL (t_var 1 sums) (t_var 9 last))) (fun value => rfl) (fun value => (t_tst (t_2 o_ne (t_var 11 value) (t_var 6 half)))) (fun value => (t_var 11 value))))))) trivial fun found => (q_at (ρ' := [some (oF lengths), some (oF sums), some (oF draws), some (oF at_), some (oF row), some (oF spot), some (oF half), some (oF far), some ((oL oF) found), some (oF last), none, none]) rfl (q_app (ox := oF) 8 found (p_x (t_exF (t_call3 ty_law_with (t_var 1 sums) (t_var 9 last) (t_list (t_i1 o_range1 (t_2 o_addI (t_2 o_modI (t_call1 o_sum (t_var 0 lengths)) (t_c (300 : Int))) (t_c (1 : Int)))))))) trivial fun found => (q_at (ρ' := [some (oF lengths), some (oF sums), some (oF draws), some (oF at_), some (oF row), some (oF spot), some (oF half), some (oF far), some ((oL oF) found), some (oF last), none, none]) rfl (q_app (ox := oF) 8 found (p_x (t_exF (t_call3 ty_law_with (t_var 1 sums) (t_c (0 : Int)) (t_list (t_cons (t_c (1 : Int)) (t_nil (α := Int))))))) trivial fun found => (q_at (ρ' := [some (oF lengths), some (oF sums), some (oF draws), some (oF at_), some (oF row), some (oF spot), some (oF half), some (oF far), some ((oL oF) found), some (oF last), none, none]) rfl (q_pre0 (q_at (freeze1 (ox := (oL oF)) 8 found (dL dF)) (q_at (ρ' := [some (oF lengths), some (oF sums), some (oF draws), some (oF at_), some (oF row), some (oF spot), some (oF half), some (oF far), some (oF found), some (oF last), none, none]) rfl (q_set (p_x (t_exF (t_2 o_addL (t_var 8 found) (t_list (t_cons (t_slice (t_var 1 sums) t_nopart (t_part (t_1 o_negI (t_c (1 : Int))))) (t_cons (t_slice (t_var 1 sums) (t_part (t_c (1 : Int))) t_nopart) (t_cons (t_2 o_addL (t_list (t_cons (t_list (t_cons (t_c (0 : Int)) (t_nil (α := Int)))) (t_nil (α := (List Int))))) (t_var 1 sums)) (t_cons (t_2 o_addL (t_var 1 sums) (t_list (t_cons (t_2 o_vixL (t_var 1 sums) (t_var 9 last)) (t_nil (α := (List Int)))))) (t_cons (t_2 o_addL (t_var 1 sums) (t_co (Co.list Co.nil) (t_list (t_cons (t_list (t_nil (α := Empty))) (t_nil (α := (List Empty))))))) (t_cons (t_list (t_nil (α := (List Int)))) (t_nil (α := (List (List Int)))))))))))))) trivial fun found => (q_at (ρ' := [some (oF lengths), some (oF sums), some (oF draws), some (oF at_), some (oF row), some (oF spot), some (oF half), some (oF far), some (oF found), some (oF last), none, none]) rfl (q_end (q_ret (f := fun r_ => (r_ : (List (List (List Int))))) (p_x (t_exF (t_var 8 found))) trivial (fun _ => dF _)))))))))))))))))))))))))))))))))))))))))) (fun _ => trivial)
theorem ty_law_3 (lengths : (List Int)) (radius : Int) (right_ : (List (List Int))) (boxes : (List ((List Int) × Int))) (paper : (List (List Int))) (straights : (List Int)) (curves : Int) {Z : OEnv → Prop} : SQ (fun s ρ => kill [8, 9, 10, 11, 12] ρ = E_law_3 lengths radius right_ boxes paper s) (fun s ρ => ρ = E_law_3 lengths radius right_ boxes paper s) (fun o _ (b : Bool) => O.data o = Enc.e b) (fun _ => True) (b_law_3 [none, none, some (oF lengths), some (oF radius), none, some (oF right_), some (oF boxes), some (oF paper), some (oF straights), some (oF curves), none, none, none, none, none]) (t_law_3 radius paper straights curves) := by
  unfold b_law_3 t_law_3
  exact (q_set (p_x (t_exF (t_list (t_isq (t_var 8 straights))))) trivial fun passed => (q_at (ρ' := [none, none, some (oF lengths), some (oF radius), none, some (oF right_), some (oF boxes), some (oF paper), some (oF straights), some (oF curves), some (oF passed), none, none, none, none]) rfl (q_set (p_x (t_exF (t_list (t_map (fun row => [(14, Enc.e row)]) (t_isq (t_var 7 paper)) (fun row => rfl) (fun row => (t_list (t_isq (t_var 14 row)))))))) trivial fun handed => (q_at (ρ' := [none, none, some (oF lengths), some (oF radius), none, some (oF right_), some (oF boxes), some (oF paper), some (oF straights), some (oF curves), some (oF passed), some (oF handed), none, none, none]) rfl (q_set (p_x (t_exF (t_call2 ty_judge_round (t_tup3 (t_var 10 passed) (t_var 9 curves) (t_var 3 radius)) (t_tup2 (t_c ("unequal" : Str)) (t_var 11 handed))))) trivial fun told => (q_at (ρ' := [none, none, some (oF lengths), some (oF radius), none, some (oF right_), some (oF boxes), some (oF paper), some (oF straights), some (oF curves), some (oF passed), some (oF handed), some (oF told), none, none]) rfl (q_if (t_tor (t_tnot (t_ttr o_truB (t_1 o_K (t_varO 12 oF told dF)))) (t_tst (t_2 o_ne (t_varO 12 oF told dF) (t_call2 ty_law_accepted (t_tup2 (t_varO 8 oF straights dF) (t_varO 9 oF curves dF)) (t_varO 7 oF paper dF))))) trivial (q_ret (f := fun r_ => (r_ : Bool)) (p_x (t_exF (t_c false))) trivial (fun _ => dF _)) (q_pre (q_at (ρ' := [none, none, some (oF lengths), some (oF radius), none, some (oF right_), some (oF boxes), some (oF paper), some (oF straights), none, some (oF passed), some (oF handed), none, none, none]) rfl (q_nxs (q_end (q_if (t_tor (t_tst (t_2 o_ne (t_varO 10 oF passed dF) (t_varO 8 oF straights dF))) (t_tst (t_2 o_ne (t_varO 11 oF handed dF) (t_varO 7 oF paper dF)))) trivial (q_ret (f := fun r_ => (r_ : Bool)) (p_x (t_exF (t_c false))) trivial (fun _ => dF _)) (q_pre (q_at (ρ' := [none, none, some (oF lengths), some (oF radius), none, some (oF right_), some (oF boxes), some (oF paper), none, none, none, none, none, none, none]) rfl (q_nxs (q_nx () rfl))))))))))))))))
theorem ty_law_4 (lengths : (List Int)) (radius : Int) (right_ : (List (List Int))) (boxes : (List ((List Int) × Int))) (paper : (List (List Int))) {Z : OEnv → Prop} : SQ (fun s ρ => kill [7, 8, 9, 10, 11, 12] ρ = E_law_4 lengths radius right_ boxes s) (fun s ρ => ρ = E_law_4 lengths radius right_ boxes s) (fun o _ (b : Bool) => O.data o = Enc.e b) (fun _ => True) (b_law_4 [none, none, some (oF lengths), some (oF radius), none, some (oF right_), some (oF boxes), some (oF paper), none, none, none, none, none, none, none]) (t_law_4 radius boxes paper) := by
  unfold b_law_4 t_law_4
  exact (q_pre0 (q_at (ρ' := [none, none, some (oF lengths), some (oF radius), none, some (oF right_), some (oF boxes), some (oF paper), none, none, none, none, none, none, none]) rfl (q_end (q_for (E_law_3 lengths radius right_ boxes paper) (fun ⟨straights, curves⟩ => [(8, Enc.e straights), (9, Enc.e curves)]) () (t_isq (t_var 6 boxes)) trivial rfl (fun ⟨straights, curves⟩ => rfl) (fun _ => rfl) (fun ⟨straights, curves⟩ _ => ty_law_3 lengths radius right_ boxes paper straights curves (Z := fun _ => True)) fun _ => (q_at (ρ' := [none, none, some (oF lengths), some (oF radius), none, some (oF right_), some (oF boxes), some (oF paper), none, none, none, none, none, none, none]) rfl (q_nx () rfl))))))
theorem ty_law_5 (lengths : (List Int)) (radius : Int) (right_ : (List (List Int))) (word : Str) {Z : OEnv → Prop} : SQ (fun s ρ => kill [13] ρ = E_law_5 lengths radius right_ s) (fun s ρ => ρ = E_law_5 lengths radius right_ s) (fun o _ (b : Bool) => O.data o = Enc.e b) (fun _ => True) (b_law_5 [none, none, some (oF lengths), some (oF radius), none, some (oF right_), none, none, none, none, none, none, none, some (oF word), none]) (t_law_5 lengths radius right_ word) := by
  unfold b_law_5 t_law_5
  exact (q_end (q_if (t_tst (t_2 o_isnB (t_call2 ty_judge_round (t_tup3 (t_list (t_isq (t_varO 2 oF lengths dF))) (t_c (8 : Int)) (t_varO 3 oF radius dF)) (t_tup2 (t_varO 13 oF word dF) (t_varO 5 oF right_ dF))) (t_c false))) trivial (q_ret (f := fun r_ => (r_ : Bool)) (p_x (t_exF (t_c false))) trivial (fun _ => dF _)) (q_pre (q_at (ρ' := [none, none, some (oF lengths), some (oF radius), none, some (oF right_), none, none, none, none, none, none, none, none, none]) rfl (q_nxs (q_nx () rfl))))))
theorem ty_law (script : (List Int)) : TEq (m_law [Enc.e script]) (t_law script) := by
  rw [r_law]
  unfold g_law t_law
  exact fn_T (E := fun _ _ => True) (L := fun _ _ => True) (q_set (p_x (t_exF (t_call3 ty_law_numbers (t_call2 ty_law_cell (t_var 0 script) (t_c (2 : Int))) (t_c (8 : Int)) (t_c (39996 : Int))))) trivial fun draws => (q_at (ρ' := [some (oF script), some (oF draws), none, none, none, none, none, none, none, none, none, none, none, none, none]) rfl (q_set (p_x (t_exF (t_call3 ty_law_straights (t_call2 ty_law_cell (t_var 0 script) (t_c (0 : Int))) (t_call2 ty_law_cell (t_var 0 script) (t_c (1 : Int))) (t_c (6 : Int))))) trivial fun lengths => (q_at (ρ' := [some (oF script), some (oF draws), some (oF lengths), none, none, none, none, none, none, none, none, none, none, none, none]) rfl (q_set (p_x (t_exF (t_call1 ty_law_size (t_2 o_idx (t_var 1 draws) (t_c (4 : Int)))))) trivial fun radius => (q_at (ρ' := [some (oF script), some (oF draws), some (oF lengths), some (oF radius), none, none, none, none, none, none, none, none, none, none, none]) rfl (q_set (p_x (t_exF (t_call1 ty_law_sums (t_var 2 lengths)))) trivial fun sums => (q_at (ρ' := [some (oF script), some (oF draws), some (oF lengths), some (oF radius), some (oF sums), none, none, none, none, none, none, none, none, none, none]) rfl (q_set (p_x (t_exF (t_list (t_map (fun row => [(14, Enc.e row)]) (t_isq (t_var 4 sums)) (fun row => rfl) (fun row => (t_list (t_isq (t_var 14 row)))))))) trivial fun right_ => (q_at (ρ' := [some (oF script), some (oF draws), some (oF lengths), some (oF radius), some (oF sums), some (oF right_), none, none, none, none, none, none, none, none, none]) rfl (q_if (t_tand (t_ttr o_truB (t_call2 ty_law_accepted (t_tup2 (t_varO 2 oF lengths dF) (t_c (8 : Int))) (t_varO 4 oF sums dF))) (t_tst (t_2 o_isnB (t_call2 ty_judge_round (t_tup3 (t_list (t_isq (t_varO 2 oF lengths dF))) (t_c (8 : Int)) (t_varO 3 oF radius dF)) (t_tup2 (t_c ("unequal" : Str)) (t_varO 5 oF right_ dF))) (t_c true)))) trivial (q_ret (f := fun r_ => (r_ : Bool)) (p_x (t_exF (t_c false))) trivial (fun _ => dF _)) (q_pre (q_at (ρ' := [none, some (oF draws), some (oF lengths), some (oF radius), some (oF sums), some (oF right_), none, none, none, none, none, none, none, none, none]) rfl (q_nxs (q_set (p_x (t_exF (t_list (t_cons (t_tup2 (t_var 2 lengths) (t_c (8 : Int))) (t_cons (t_tup2 (t_var 2 lengths) (t_2 o_modI (t_2 o_idx (t_var 1 draws) (t_c (5 : Int))) (t_c (31 : Int)))) (t_cons (t_tup2 (t_var 2 lengths) (t_c (9 : Int))) (t_cons (t_tup2 (t_list (t_frev (t_var 2 lengths))) (t_c (8 : Int))) (t_cons (t_tup2 (t_2 o_addL (t_var 2 lengths) (t_list (t_cons (t_c (1 : Int)) (t_nil (α := Int))))) (t_c (8 : Int))) (t_nil (α := ((List Int) × Int))))))))))) trivial fun boxes => (q_at (ρ' := [none, some (oF draws), some (oF lengths), some (oF radius), some (oF sums), some (oF right_), some (oF boxes), none, none, none, none, none, none, none, none]) rfl (q_forK (E_law_4 lengths radius right_ boxes) (fun paper => [(7, Enc.e paper)]) () (t_isq (t_call3 ty_law_variants (t_var 2 lengths) (t_var 4 sums) (t_var 1 draws))) trivial rfl (fun paper => rfl) (fun _ => rfl) (fun paper _ => ty_law_4 lengths radius right_ boxes paper (Z := fun _ => True)) fun _ => (q_at (ρ' := [none, none, some (oF lengths), some (oF radius), none, some (oF right_), some (oF boxes), none, none, none, none, none, none, none, none]) rfl (q_pre0 (q_at (ρ' := [none, none, some (oF lengths), some (oF radius), none, some (oF right_), none, none, none, none, none, none, none, none, none]) rfl (q_for (E_law_5 lengths radius right_) (fun word => [(13, Enc.e word)]) () (t_isq (t_list (t_cons (t_c ("none" : Str)) (t_cons (t_c ("Unequal" : Str)) (t_cons (t_c ("equal" : Str)) (t_cons (t_c ("" : Str)) (t_nil (α := Str)))))))) trivial rfl (fun word => rfl) (fun _ => rfl) (fun word _ => ty_law_5 lengths radius right_ word (Z := fun _ => True)) fun _ => (q_at (ρ' := [none, none, some (oF lengths), some (oF radius), none, some (oF right_), none, none, none, none, none, none, none, none, none]) rfl (q_pre0 (q_at (ρ' := [none, none, none, none, none, none, none, none, none, none, none, none, none, none, none]) rfl (q_end (q_ret (f := fun r_ => (r_ : Bool)) (p_x (t_exF (t_c true))) trivial (fun _ => dF _))))))))))))))))))))))))))) (fun _ => trivial)
theorem law_T (h : ∀ ns : List Int, ns.length ≤ 63 → t_law ns = .ok true) : ∀ ns : List Int, ns.length ≤ 63 → m_law [.list (ns.map PyData.int)] = .ok (.bool true) := fun ns hl => (ty_law ns).ok (h ns hl)
theorem numbersT (c : Int) (n : Nat) (m lim : Int) (hm : m = (n : Int)) (hn : n ≤ 100000) (h0 : 0 < lim) (h1 : lim < 2 ^ 250) : ∃ ds, Dr n lim ds ∧ t_law_numbers c m lim = .ok ds := by
  subst hm
  have p1 : tpowI 10 18 = .ok (1000000000000000000 : Int) := tpowI_ok (by decide)
  have tr := trange1_nat (show n ≤ 16777216 by omega)
  by_cases hb : (1000000000000000000 : Int) ≤ c
  · obtain ⟨⟨c', ds⟩, e1, e2⟩ := forT_ix (l := Empty) (f := fun k (s : Int × List Int) => t_law_numbers_1 lim k s.1 s.2) (fun i s => Dr i lim s.2) (rangeI 0 n) 0 (c, []) ⟨rfl, fun _ h => nomatch h⟩ (fun i a s hi hs => by
      obtain ⟨c', ds⟩ := s
      have hi' := (rangeI_get hi).1
      have hl : ds.length < 16777216 := by have := hs.1; simp at this; omega
      refine ⟨(c' / lim, ds ++ [c' % lim]), .inl ?_, hs.snoc (Int.emod_nonneg _ (by omega)) (Int.emod_lt_of_pos _ h0)⟩
      simp [t_law_numbers_1, h0, tapp_ok hl, tfdivI_pos h0 h1])
    refine ⟨ds, by simpa using e2, ?_⟩
    simp [t_law_numbers, p1, hb, tr]
    erw [e1]
    rfl
  · obtain ⟨ds, e1, e2⟩ := forT_ix (l := Empty) (f := fun k s => t_law_numbers_2 c lim k s) (fun i s => Dr i lim s) (rangeI 0 n) 0 [] ⟨rfl, fun _ h => nomatch h⟩ (fun i a ds hi hs => by
      have hi' := (rangeI_get hi).1
      have hl : ds.length < 16777216 := by have := hs.1; omega
      have m0 : tmulI c 48271 = .ok (c * 48271) := tmulI_r .lit
      have m1 : tmulI a 69621 = .ok (a * 69621) := tmulI_r .lit
      have m2 : tmulI a 16807 = .ok (a * 16807) := tmulI_r .lit
      have m3 : ∀ x, tmulI (x % 2147483647) 40692 = .ok (x % 2147483647 * 40692) := fun x => tmulI_r .lit
      have m4 : ∀ x, tmulI (x % 2147483647) (x % 2147483647) = .ok (x % 2147483647 * (x % 2147483647)) := fun x => tmulI_r (sm_of (by
        have a1 := Int.emod_nonneg x (b := 2147483647) (by omega)
        have a2 := Int.emod_lt_of_pos x (b := 2147483647) (by omega)
        omega))
      have m5 : ∀ x, tfdivI x 32 = .ok (x / 32) := fun x => tfdivI_pos (by omega) (by decide)
      have st : ∃ x, t_law_numbers_2 c lim a ds = .nx (ds ++ [x % lim]) := ⟨_, by simp [t_law_numbers_2, h0, tapp_ok hl, m0, m1, m2, m3, m4, m5]; rfl⟩
      obtain ⟨x, st⟩ := st
      exact ⟨_, .inl st, hs.snoc (Int.emod_nonneg _ (by omega)) (Int.emod_lt_of_pos _ h0)⟩)
    refine ⟨ds, by simpa using e2, ?_⟩
    simp [t_law_numbers, p1, hb, tr, e1]

theorem cellT (ns : List Int) (k : Nat) : t_law_cell ns (k : Int) = .ok (ns.getD k 0) := by
  by_cases h1 : k < ns.length
  · simp [t_law_cell, h1, tidx_lt h1]
  · simp [t_law_cell, h1]

section
variable {κ β : Type}
theorem put_cons (j : κ) (w : β) (r : List (κ × β)) (k : κ) (v : β) : (Dc.put ⟨(j, w) :: r⟩ k v).l = @ite _ (j = k) (Classical.propDecidable _) ((k, v) :: r) ((j, w) :: (Dc.put ⟨r⟩ k v).l) := by
  unfold Dc.put
  simp only [List.findIdx?_cons]
  by_cases h : j = k
  · simp only [h, decide_true, if_true]
    rfl
  · simp only [h, decide_false, if_false, Bool.false_eq_true]
    cases r.findIdx? (fun p => @decide (p.1 = k) (Classical.propDecidable _)) with
    | none => simp
    | some n => simp
theorem go_put (k : κ) (v : β) (x : κ) : ∀ l : List (κ × β), Dc.get.go (Dc.put ⟨l⟩ k v).l x = @ite _ (k = x) (Classical.propDecidable _) (some v) (Dc.get.go l x)
  | [] => by
    show Dc.get.go [(k, v)] x = _
    unfold Dc.get.go
    rfl
  | (j, w) :: r => by
    have ih := go_put k v x r
    rw [put_cons]
    by_cases h : j = k
    · rw [if_pos h]
      subst h
      unfold Dc.get.go
      by_cases q : j = x
      · rw [if_pos q, if_pos q]
      · rw [if_neg q, if_neg q, if_neg q]
    · rw [if_neg h]
      unfold Dc.get.go
      by_cases q : j = x
      · rw [if_pos q, if_pos q]
        rw [if_neg (fun z => h (q.trans z.symm))]
      · rw [if_neg q, if_neg q, ih]
theorem get_put (d : Dc κ β) (k : κ) (v : β) (x : κ) : (d.put k v).get x = @ite _ (k = x) (Classical.propDecidable _) (some v) (d.get x) := by
  obtain ⟨l⟩ := d
  exact go_put k v x l
theorem put_len (d : Dc κ β) (k : κ) (v : β) : (d.put k v).l.length ≤ d.l.length + 1 := by
  unfold Dc.put
  split <;> simp
end

theorem ok_ints {A : List Int} (h : A.length ≤ 3000) : EqE.ok A := ⟨by omega, fun _ _ => trivial⟩
theorem tinI {A : List Int} (hA : A.length ≤ 3000) (w : Int) : tin w A = .ok (decide (w ∈ A)) := by
  unfold tin
  rw [if_pos ⟨trivial, ok_ints hA⟩]
  congr 1
  rw [Bool.eq_iff_iff, List.any_eq_true, decide_eq_true_iff]
  constructor
  · rintro ⟨x, hx, h⟩
    have h : x = w := by simpa using h
    rw [← h]; exact hx
  · intro h
    exact ⟨w, h, by simp⟩
theorem tninI {A : List Int} (hA : A.length ≤ 3000) (w : Int) : tnin w A = .ok (!decide (w ∈ A)) := tnin_ok trivial (ok_ints hA)
def G (l : List Int) (k : Nat) : Int := l.getD k 0
theorem G_get {l : List Int} {k : Nat} (h : k < l.length) : l[k]? = some (G l k) := by
  unfold G; rw [List.getD_eq_getElem?_getD, List.getElem?_eq_getElem h]; rfl
theorem tidxG {l : List Int} {k : Nat} (h : k < l.length) : tidx l (k : Int) = .ok (G l k) := tidx_nat (G_get h)
def Rw (l : List (List Int)) (k : Nat) : List Int := l.getD k []
theorem Rw_get {l : List (List Int)} {k : Nat} (h : k < l.length) : l[k]? = some (Rw l k) := by
  unfold Rw; rw [List.getD_eq_getElem?_getD, List.getElem?_eq_getElem h]; rfl
theorem tidxR {l : List (List Int)} {k : Nat} (h : k < l.length) : tidx l (k : Int) = .ok (Rw l k) := tidx_nat (Rw_get h)
theorem Rw_mem {l : List (List Int)} {k : Nat} (h : k < l.length) : Rw l k ∈ l := List.mem_of_getElem? (Rw_get h)
section
variable {ls : List Int} {rows : List (List Int)}
def cr (ls : List Int) (rows : List (List Int)) (k : Nat) : Prop := ∀ v ∈ Rw rows k, v ∈ Rw rows (k + 1) ∧ v + G ls k ∈ Rw rows (k + 1)
instance (ls : List Int) (rows : List (List Int)) (k : Nat) : Decidable (cr ls rows k) := by unfold cr; infer_instance
def Acc (ls : List Int) (c : Int) (rows : List (List Int)) : Prop := c = 8 ∧ rows.length = ls.length + 1 ∧ (0 : Int) ∈ Rw rows 0 ∧ (∀ k, k < ls.length → cr ls rows k) ∧ ¬ (ls.sum % 2 = 0 ∧ ls.sum / 2 ∈ Rw rows ls.length)
theorem carries_onT {s a : List Int} (ha : a.length ≤ 3000) (l : Int) : t_carries_on s a l = .ok (decide (∀ v ∈ s, v ∈ a ∧ v + l ∈ a)) := by
  have e1 : tmkS a = .ok ⟨a⟩ := if_pos (by omega)
  have tm := tmap_ok (f := fun value : Int => (tandB (b2 tinS (R.ok value) (R.ok (⟨a⟩ : Ist))) (b2 tinS (b2 taddI (R.ok value) (R.ok l)) (R.ok (⟨a⟩ : Ist))))) (fun v => decide (v ∈ a ∧ v + l ∈ a)) (xs := s) (fun v _ => by
    simp only [b2_ap, R.bind_ok, tinS_ap, taddI_ap, tandB_ap]
    by_cases c : v ∈ a
    · simp [c]
    · simp [c])
  have top : t_carries_on s a l = TR.fn (l := Empty) (σ := Unit) ((b1 tmkS (R.ok a)).tr fun known => ((b1 tallB ((R.ok s).bind fun xs_ => (tmap (fun value : Int => (tandB (b2 tinS (R.ok value) (R.ok known)) (b2 tinS (b2 taddI (R.ok value) (R.ok l)) (R.ok known)))) xs_).calm)).tr fun r_ => TR.rt r_)) (fun _ => .stuck) := rfl
  rw [top, show b1 tmkS (R.ok a) = .ok ⟨a⟩ from e1, R.tr_ok, R.bind_ok, tm, calm_okk]
  simp only [b1_ap, R.bind_ok, tallB_ap, R.tr_ok, TR.fn_rt]
  congr 1
  rw [Bool.eq_iff_iff, List.all_map, List.all_eq_true, decide_eq_true_iff]
  constructor
  · intro h v hv; exact of_decide_eq_true (h v hv)
  · intro h v hv; exact decide_eq_true (h v hv)
theorem carries_allT (hl : ls.length ≤ 100) (hr : rows.length ≤ 200) (hw : ∀ r ∈ rows, r.length ≤ 3000) : t_carries_all ls rows = .ok (decide (rows.length = ls.length + 1 ∧ (0 : Int) ∈ Rw rows 0 ∧ ∀ k, k < ls.length → cr ls rows k)) := by
  have top : t_carries_all ls rows = TR.fn (l := Empty) (σ := Unit) (tite (torB (b2 tne (b1 tlen (R.ok rows)) (b2 taddI (b1 tlen (R.ok ls)) (R.ok (1 : Int)))) (b2 tnin (R.ok (0 : Int)) (b2 tidx (R.ok rows) (R.ok (0 : Int))))) ((R.ok false).tr fun r_ => TR.rt r_) ((b1 tallB ((b1 tenum (R.ok ls)).bind fun xs_ => (tmap (fun (p : Int × Int) => (b3 t_carries_on (b2 tidx (R.ok rows) (R.ok p.1)) (b2 tidx (R.ok rows) (b2 taddI (R.ok p.1) (R.ok (1 : Int)))) (R.ok p.2))) xs_).calm)).tr fun r_ => TR.rt r_)) (fun _ => .stuck) := rfl
  rw [top]
  by_cases c1 : rows.length = ls.length + 1
  · have c1' : (rows.length : Int) = (ls.length : Int) + 1 := by omega
    have i0 : tidx rows (0 : Int) = .ok (Rw rows 0) := tidxR (k := 0) (by omega)
    have l0 := hw _ (Rw_mem (l := rows) (k := 0) (by omega))
    by_cases c2 : (0 : Int) ∈ Rw rows 0
    · rw [show torB (b2 tne (b1 tlen (R.ok rows)) (b2 taddI (b1 tlen (R.ok ls)) (R.ok (1 : Int)))) (b2 tnin (R.ok (0 : Int)) (b2 tidx (R.ok rows) (R.ok (0 : Int)))) = .ok false from by
        simp only [b1_ap, b2_ap, R.bind_ok, tlen_ap, taddI_ap, tne_int, decide_eq_true c1', Bool.not_true, torB_ap, Bool.false_eq_true, if_false, i0, tninI l0, decide_eq_true c2], tite_ap, R.tr_ok, if_neg (by decide)]
      have tm := tmap_ok (f := fun (p : Int × Int) => (b3 t_carries_on (b2 tidx (R.ok rows) (R.ok p.1)) (b2 tidx (R.ok rows) (b2 taddI (R.ok p.1) (R.ok (1 : Int)))) (R.ok p.2))) (fun p => decide (∀ v ∈ Rw rows p.1.toNat, v ∈ Rw rows (p.1.toNat + 1) ∧ v + p.2 ∈ Rw rows (p.1.toNat + 1))) (xs := ls.mapIdx fun i d => ((i : Int), d)) (fun p hp => by
        obtain ⟨i, hi, e⟩ := List.getElem_of_mem hp
        rw [List.getElem_mapIdx] at e
        subst e
        have hi : i < ls.length := by rw [List.length_mapIdx] at hi; exact hi
        have e1 : (i : Int) + 1 = ((i + 1 : Nat) : Int) := by omega
        simp only [b2_ap, b3_ap, R.bind_ok, taddI_ap, e1, tidxR (l := rows) (k := i) (by omega), tidxR (l := rows) (k := i + 1) (by omega), Int.toNat_natCast]
        exact carries_onT (hw _ (Rw_mem (by omega))) _)
      rw [show b1 tenum (R.ok ls) = .ok (ls.mapIdx fun i d => ((i : Int), d)) from rfl, R.bind_ok, tm, calm_okk]
      simp only [b1_ap, R.bind_ok, tallB_ap, R.tr_ok, TR.fn_rt]
      congr 1
      rw [Bool.eq_iff_iff, List.all_map, List.all_eq_true, decide_eq_true_iff]
      constructor
      · intro h
        refine ⟨c1, c2, fun k hk => ?_⟩
        have := of_decide_eq_true (h ((k : Int), G ls k) (List.mem_of_getElem? (i := k) (by rw [List.getElem?_mapIdx, G_get hk]; rfl)))
        unfold cr
        simpa using this
      · intro h p hp
        obtain ⟨i, hi, e⟩ := List.getElem_of_mem hp
        rw [List.getElem_mapIdx] at e
        subst e
        have hi : i < ls.length := by rw [List.length_mapIdx] at hi; exact hi
        have := h.2.2 i hi
        have eg : G ls i = ls[i] := by have := G_get hi; rw [List.getElem?_eq_getElem hi] at this; injection this with this; exact this.symm
        unfold cr at this
        rw [eg] at this
        exact decide_eq_true (by simpa using this)
    · rw [show torB (b2 tne (b1 tlen (R.ok rows)) (b2 taddI (b1 tlen (R.ok ls)) (R.ok (1 : Int)))) (b2 tnin (R.ok (0 : Int)) (b2 tidx (R.ok rows) (R.ok (0 : Int)))) = .ok true from by
        simp only [b1_ap, b2_ap, R.bind_ok, tlen_ap, taddI_ap, tne_int, decide_eq_true c1', Bool.not_true, torB_ap, Bool.false_eq_true, if_false, i0, tninI l0, decide_eq_false c2, Bool.not_false], tite_ap, R.tr_ok, if_pos rfl, R.tr_ok, TR.fn_rt]
      congr 1
      rw [eq_comm, decide_eq_false_iff_not]
      exact fun h => c2 h.2.1
  · have c1' : ¬ (rows.length : Int) = (ls.length : Int) + 1 := by omega
    rw [show torB (b2 tne (b1 tlen (R.ok rows)) (b2 taddI (b1 tlen (R.ok ls)) (R.ok (1 : Int)))) (b2 tnin (R.ok (0 : Int)) (b2 tidx (R.ok rows) (R.ok (0 : Int)))) = .ok true from by
      simp only [b1_ap, b2_ap, R.bind_ok, tlen_ap, taddI_ap, tne_int, decide_eq_false c1', Bool.not_false, torB_ap, if_true], tite_ap, R.tr_ok, if_pos rfl, R.tr_ok, TR.fn_rt]
    congr 1
    rw [eq_comm, decide_eq_false_iff_not]
    exact fun h => c1 h.1
theorem sk_u : PyData.strOk ("unequal" : Str) = true := by decide +kernel
theorem sk_ro : PyData.strOk ("round" : Str) = true := by decide +kernel
theorem dur : decide (("unequal" : Str) = "round") = false := by decide +kernel
theorem teqS {a b : Str} (ha : PyData.strOk a = true) (hb : PyData.strOk b = true) : teq a b = .ok (decide (a = b)) := teq_ok ha hb
theorem judgeT (hl : ls.length ≤ 100) (hr : rows.length ≤ 200) (hw : ∀ r ∈ rows, r.length ≤ 3000) (c radius : Int) : ∃ b, t_judge_round ⟨ls, c, radius⟩ ("unequal", rows) = .ok b ∧ (b = true ↔ Acc ls c rows) := by
  have top : t_judge_round ⟨ls, c, radius⟩ ("unequal", rows) = TR.fn (l := Empty) (σ := Unit) (tite (b2 tne (R.ok c) (R.ok (8 : Int))) ((R.ok false).tr fun r_ => TR.rt r_) (tite (b2 teq (R.ok ("unequal" : Str)) (R.ok ("round" : Str))) ((b2 t_is_round (R.ok ⟨ls, c, radius⟩) (R.ok rows)).tr fun r_ => TR.rt r_) ((tandB (b2 teq (R.ok ("unequal" : Str)) (R.ok ("unequal" : Str))) (b2 t_shows_unequal (R.ok ls) (R.ok rows))).tr fun r_ => TR.rt r_))) (fun _ => .stuck) := rfl
  rw [top]
  unfold Acc
  by_cases c0 : c = 8
  · have su : ∃ b, t_shows_unequal ls rows = .ok b ∧ (b = true ↔ (rows.length = ls.length + 1 ∧ (0 : Int) ∈ Rw rows 0 ∧ ∀ k, k < ls.length → cr ls rows k) ∧ ¬ (ls.sum % 2 = 0 ∧ ls.sum / 2 ∈ Rw rows ls.length)) := by
      simp only [t_shows_unequal, b1_ap, b2_ap, R.bind_ok, carries_allT hl hr hw, tandB_ap]
      by_cases d : rows.length = ls.length + 1 ∧ (0 : Int) ∈ Rw rows 0 ∧ ∀ k, k < ls.length → cr ls rows k
      · rw [if_pos (decide_eq_true d)]
        have il : tidx rows (-1 : Int) = .ok (Rw rows ls.length) := by
          refine tidx_last ?_
          rw [List.getLast?_eq_getElem?, show rows.length - 1 = ls.length by omega]
          exact Rw_get (by omega)
        have lr := hw _ (Rw_mem (l := rows) (k := ls.length) (by omega))
        have f2 : tfdivI ls.sum 2 = .ok (ls.sum / 2) := tfdivI_pos (by omega) (by decide)
        have ih : t_is_halved ls (Rw rows ls.length) = .ok (decide (ls.sum % 2 = 0 ∧ ls.sum / 2 ∈ Rw rows ls.length)) := by
          have s0 : tsum ls = .ok ls.sum := rfl
          simp only [t_is_halved, b1_ap, b2_ap, R.bind_ok, s0, R.tr_ok, tmodI_pos (show (0 : Int) < 2 by omega), teq_int, f2, tinI lr, tandB_ap, TR.fn_rt]
          by_cases q : ls.sum % 2 = 0
          · simp [q]
          · simp [q]
        refine ⟨!decide (ls.sum % 2 = 0 ∧ ls.sum / 2 ∈ Rw rows ls.length), ?_, ?_⟩
        · simp only [tnegI_ap, R.bind_ok, il, ih, tnotB_ap, R.tr_ok, TR.fn_rt]
        · rw [Bool.not_eq_true', decide_eq_false_iff_not]
          exact ⟨fun h => ⟨d, h⟩, fun h => h.2⟩
      · rw [if_neg (by rw [decide_eq_false d]; decide)]
        exact ⟨false, rfl, by simp, fun h => absurd h.1 d⟩
    obtain ⟨b, e1, e2⟩ := su
    refine ⟨b, ?_, e2.trans ⟨fun h => ⟨c0, h.1.1, h.1.2.1, h.1.2.2, h.2⟩, fun h => ⟨⟨h.2.1, h.2.2.1, h.2.2.2.1⟩, h.2.2.2.2⟩⟩⟩
    rw [show b2 tne (R.ok c) (R.ok (8 : Int)) = .ok false from by simp only [b2_ap, R.bind_ok, tne_int, decide_eq_true c0, Bool.not_true], tite_ap, R.tr_ok, if_neg (by decide)]
    rw [show b2 teq (R.ok ("unequal" : Str)) (R.ok ("round" : Str)) = .ok false from by simp only [b2_ap, R.bind_ok, teqS sk_u sk_ro, dur], tite_ap, R.tr_ok, if_neg (by decide)]
    simp only [b2_ap, R.bind_ok, teqS sk_u sk_u, decide_true, tandB_ap, if_true, e1, R.tr_ok, TR.fn_rt]
  · rw [show b2 tne (R.ok c) (R.ok (8 : Int)) = .ok true from by simp only [b2_ap, R.bind_ok, tne_int, decide_eq_false c0, Bool.not_false], tite_ap, R.tr_ok, if_pos rfl]
    exact ⟨false, rfl, by simp, fun h => absurd h.1 c0⟩
theorem put_all : ∀ (as : List Int) (d : Dc Int Bool), d.l.length + as.length ≤ 16000000 → ∃ d', (forT (fun value known => t_law_accepted_1 value known) as d : TR Bool Unit (Dc Int Bool)) = .nx d' ∧ ∀ x, (d'.get x).isSome = true ↔ (d.get x).isSome = true ∨ x ∈ as
  | [], d, _ => ⟨d, rfl, fun x => by simp⟩
  | a :: as, d, h => by
    rw [List.length_cons] at h
    have dp : tdput d a true = .ok (d.put a true) := if_pos (by omega)
    have st : t_law_accepted_1 a d = .nx (d.put a true) := by simp only [t_law_accepted_1, R.tr_ok, dp]
    have pl := put_len d a true
    obtain ⟨d', e1, e2⟩ := put_all as (d.put a true) (by omega)
    refine ⟨d', by rw [forT_nx st, e1], fun x => ?_⟩
    rw [e2, get_put]
    by_cases q : a = x
    · rw [if_pos q]; simp [q]
    · rw [if_neg q]
      have : x ≠ a := fun z => q z.symm
      simp [this]
theorem acceptsT (hl : ls.length ≤ 100) (hr : rows.length ≤ 200) (hw : ∀ r ∈ rows, r.length ≤ 3000) (c : Int) : ∃ b, t_law_accepted (ls, c) rows = .ok b ∧ (b = true ↔ Acc ls c rows) := by
  unfold Acc
  have top : t_law_accepted (ls, c) rows = TR.fn (l := Empty) (σ := Unit) (tite (torB (b2 tne (R.ok c) (R.ok (8 : Int))) (torB (b2 tne (b1 tlen (R.ok rows)) (b2 taddI (b1 tlen (R.ok ls)) (R.ok (1 : Int)))) (b2 tnin (R.ok (0 : Int)) (b2 tidx (R.ok rows) (R.ok (0 : Int)))))) ((R.ok false).tr fun r_ => TR.rt r_) ((b1 trange1 (b1 tlen (R.ok ls))).tr fun xs_ => (forT (fun k _ => t_law_accepted_3 rows ls k) xs_ ()).bind fun _ => ((b1 tsum (R.ok ls)).tr fun total => ((torB (b2 teq (b2 tmodI (R.ok total) (R.ok (2 : Int))) (R.ok (1 : Int))) (b2 tnin (b2 tfdivI (R.ok total) (R.ok (2 : Int))) (b2 tidx (R.ok rows) (b1 tlen (R.ok ls))))).tr fun r_ => TR.rt r_)))) (fun _ => .stuck) := rfl
  rw [top]
  by_cases c0 : c = 8
  · by_cases c1 : rows.length = ls.length + 1
    · have c1' : (rows.length : Int) = (ls.length : Int) + 1 := by omega
      have i0 : tidx rows (0 : Int) = .ok (Rw rows 0) := tidxR (k := 0) (by omega)
      have l0 := hw _ (Rw_mem (l := rows) (k := 0) (by omega))
      by_cases c2 : (0 : Int) ∈ Rw rows 0
      · rw [show torB (b2 tne (R.ok c) (R.ok (8 : Int))) (torB (b2 tne (b1 tlen (R.ok rows)) (b2 taddI (b1 tlen (R.ok ls)) (R.ok (1 : Int)))) (b2 tnin (R.ok (0 : Int)) (b2 tidx (R.ok rows) (R.ok (0 : Int))))) = .ok false from by
          simp only [b1_ap, b2_ap, R.bind_ok, tlen_ap, taddI_ap, tne_int, decide_eq_true c0, decide_eq_true c1', Bool.not_true, torB_ap, Bool.false_eq_true, if_false, i0, tninI l0, decide_eq_true c2], tite_ap, R.tr_ok, if_neg (by decide)]
        have tn : trange1 (ls.length : Int) = .ok (rangeI 0 ls.length) := trange1_nat (by omega)
        rw [show b1 trange1 (b1 tlen (R.ok ls)) = .ok (rangeI 0 ls.length) from by simp only [b1_ap, R.bind_ok, tlen_ap, tn], R.tr_ok]
        have f := forT_chk (l := Empty) (β := Bool) (f := fun (k : Int) (_ : Unit) => t_law_accepted_3 rows ls k) (fun k => !decide (∀ v ∈ Rw rows k.toNat, v ∈ Rw rows (k.toNat + 1) ∧ v + G ls k.toNat ∈ Rw rows (k.toNat + 1))) false (s := ()) (xs := rangeI 0 ls.length) (fun k hk => by
          obtain ⟨j, hj, rfl⟩ := rangeI_mem.mp hk
          rw [Int.zero_add, Int.toNat_natCast]
          have e1 : (j : Int) + 1 = ((j + 1 : Nat) : Int) := by omega
          have ln := hw _ (Rw_mem (l := rows) (k := j + 1) (by omega))
          obtain ⟨d', f1, f2⟩ := put_all (Rw rows (j + 1)) ⟨[]⟩ (by show 0 + _ ≤ _; omega)
          have f2 : ∀ x, (d'.get x).isSome = true ↔ x ∈ Rw rows (j + 1) := fun x => by
            have e : (Dc.get (⟨[]⟩ : Dc Int Bool) x) = none := rfl
            rw [f2 x, e]; simp
          have g := forT_chk (l := Unit) (β := Bool) (f := fun (v : Int) (_ : Unit) => t_law_accepted_2 ls (j : Int) d' v) (fun v => !decide (v ∈ Rw rows (j + 1) ∧ v + G ls j ∈ Rw rows (j + 1))) false (s := ()) (xs := Rw rows j) (fun v _ => by
            have n1 : tdnin v d' = .ok (!decide (v ∈ Rw rows (j + 1))) := by
              show R.ok _ = R.ok _
              congr 2
              rw [Bool.eq_iff_iff, decide_eq_true_iff]; exact f2 v
            have n2 : tdnin (v + G ls j) d' = .ok (!decide (v + G ls j ∈ Rw rows (j + 1))) := by
              show R.ok _ = R.ok _
              congr 2
              rw [Bool.eq_iff_iff, decide_eq_true_iff]; exact f2 _
            simp only [t_law_accepted_2, b2_ap, R.bind_ok, n1, tidxG (l := ls) (k := j) (by omega), taddI_ap, n2, torB_ap, tite_ap]
            by_cases q1 : v ∈ Rw rows (j + 1)
            · by_cases q2 : v + G ls j ∈ Rw rows (j + 1)
              · simp [q1, q2, TR.go]
              · simp [q1, q2]
            · simp [q1])
          have ev : t_law_accepted_3 rows ls (j : Int) = if (Rw rows j).any (fun v => !decide (v ∈ Rw rows (j + 1) ∧ v + G ls j ∈ Rw rows (j + 1))) = true then .rt false else .nx () := by
            simp only [t_law_accepted_3, b2_ap, R.tr_ok, R.bind_ok, taddI_ap, e1, tidxR (l := rows) (k := j + 1) (by omega), tidxR (l := rows) (k := j) (by omega)]
            rw [f1, TR.bind_nx, g]
            split <;> rfl
          rw [ev]
          have an : (Rw rows j).any (fun v => !decide (v ∈ Rw rows (j + 1) ∧ v + G ls j ∈ Rw rows (j + 1))) = !decide (∀ v ∈ Rw rows j, v ∈ Rw rows (j + 1) ∧ v + G ls j ∈ Rw rows (j + 1)) := by
            rw [Bool.eq_iff_iff, List.any_eq_true, Bool.not_eq_true', decide_eq_false_iff_not]
            constructor
            · rintro ⟨v, hv, h⟩ z
              simp at h
              exact h.elim (fun q => q (z v hv).1) fun q => q (z v hv).2
            · intro h
              refine Classical.byContradiction fun z => h fun v hv => Classical.byContradiction fun y => z ⟨v, hv, by rw [Bool.not_eq_true', decide_eq_false_iff_not]; exact y⟩
          rw [an]
          constructor
          · intro h; rw [if_pos h]
          · intro h; rw [if_neg (by rw [h]; decide)]; exact .inl rfl)
        rw [f]
        by_cases c3 : ∀ k, k < ls.length → cr ls rows k
        · have nb : (rangeI 0 ls.length).any (fun k => !decide (∀ v ∈ Rw rows k.toNat, v ∈ Rw rows (k.toNat + 1) ∧ v + G ls k.toNat ∈ Rw rows (k.toNat + 1))) = false := by
            rw [Bool.eq_false_iff]
            intro z
            obtain ⟨k, hk, h⟩ := List.any_eq_true.mp z
            obtain ⟨j, hj, rfl⟩ := rangeI_mem.mp hk
            rw [Int.zero_add, Int.toNat_natCast, Bool.not_eq_true', decide_eq_false_iff_not] at h
            exact h (c3 j hj)
          rw [nb, if_neg (by decide), TR.bind_nx]
          have s0 : tsum ls = .ok ls.sum := rfl
          have f2 : tfdivI ls.sum 2 = .ok (ls.sum / 2) := tfdivI_pos (by omega) (by decide)
          have il : tidx rows (ls.length : Int) = .ok (Rw rows ls.length) := tidxR (by omega)
          have lr := hw _ (Rw_mem (l := rows) (k := ls.length) (by omega))
          have m0 := Int.emod_nonneg ls.sum (b := 2) (by omega)
          have m1 := Int.emod_lt_of_pos ls.sum (b := 2) (by omega)
          refine ⟨!decide (ls.sum % 2 = 0 ∧ ls.sum / 2 ∈ Rw rows ls.length), ?_, ?_⟩
          · simp only [b1_ap, b2_ap, R.bind_ok, s0, R.tr_ok, tmodI_pos (show (0 : Int) < 2 by omega), teq_int, f2, tlen_ap, il, tninI lr, torB_ap]
            by_cases q : ls.sum % 2 = 1
            · have q' : ¬ ls.sum % 2 = 0 := by omega
              simp [q]
            · have q' : ls.sum % 2 = 0 := by omega
              simp [q']
          · rw [Bool.not_eq_true', decide_eq_false_iff_not]
            exact ⟨fun h => ⟨c0, c1, c2, c3, h⟩, fun h => h.2.2.2.2⟩
        · have yb : (rangeI 0 ls.length).any (fun k => !decide (∀ v ∈ Rw rows k.toNat, v ∈ Rw rows (k.toNat + 1) ∧ v + G ls k.toNat ∈ Rw rows (k.toNat + 1))) = true := by
            refine Classical.byContradiction fun z => c3 fun k hk => Classical.byContradiction fun y => z (List.any_eq_true.mpr ⟨(k : Int), rangeI_mem.mpr ⟨k, hk, by omega⟩, ?_⟩)
            rw [Int.toNat_natCast, Bool.not_eq_true', decide_eq_false_iff_not]
            exact y
          rw [yb, if_pos rfl]
          exact ⟨false, rfl, by simp, fun h => absurd h.2.2.2.1 c3⟩
      · rw [show torB (b2 tne (R.ok c) (R.ok (8 : Int))) (torB (b2 tne (b1 tlen (R.ok rows)) (b2 taddI (b1 tlen (R.ok ls)) (R.ok (1 : Int)))) (b2 tnin (R.ok (0 : Int)) (b2 tidx (R.ok rows) (R.ok (0 : Int))))) = .ok true from by
          simp only [b1_ap, b2_ap, R.bind_ok, tlen_ap, taddI_ap, tne_int, decide_eq_true c0, decide_eq_true c1', Bool.not_true, torB_ap, Bool.false_eq_true, if_false, i0, tninI l0, decide_eq_false c2, Bool.not_false], tite_ap, R.tr_ok, if_pos rfl]
        exact ⟨false, rfl, by simp, fun h => absurd h.2.2.1 c2⟩
    · have c1' : ¬ (rows.length : Int) = (ls.length : Int) + 1 := by omega
      rw [show torB (b2 tne (R.ok c) (R.ok (8 : Int))) (torB (b2 tne (b1 tlen (R.ok rows)) (b2 taddI (b1 tlen (R.ok ls)) (R.ok (1 : Int)))) (b2 tnin (R.ok (0 : Int)) (b2 tidx (R.ok rows) (R.ok (0 : Int))))) = .ok true from by
        simp only [b1_ap, b2_ap, R.bind_ok, tlen_ap, taddI_ap, tne_int, decide_eq_true c0, decide_eq_false c1', Bool.not_true, Bool.not_false, torB_ap, Bool.false_eq_true, if_false, if_true], tite_ap, R.tr_ok, if_pos rfl]
      exact ⟨false, rfl, by simp, fun h => absurd h.2.1 c1⟩
  · rw [show torB (b2 tne (R.ok c) (R.ok (8 : Int))) (torB (b2 tne (b1 tlen (R.ok rows)) (b2 taddI (b1 tlen (R.ok ls)) (R.ok (1 : Int)))) (b2 tnin (R.ok (0 : Int)) (b2 tidx (R.ok rows) (R.ok (0 : Int))))) = .ok true from by
      simp only [b2_ap, R.bind_ok, tne_int, decide_eq_false c0, Bool.not_false, torB_ap, if_true], tite_ap, R.tr_ok, if_pos rfl]
    exact ⟨false, rfl, by simp, fun h => absurd h.1 c0⟩
end

theorem sizeT (x : Int) : ∃ s, t_law_size x = .ok s ∧ 1 ≤ s ∧ s ≤ 9999 := by
  have f4 : tfdivI x 4 = .ok (x / 4) := tfdivI_pos (by omega) (by decide)
  have a0 := Int.emod_nonneg (x / 4) (b := 3) (by omega)
  have a1 := Int.emod_lt_of_pos (x / 4) (b := 3) (by omega)
  have b0 := Int.emod_nonneg (x / 4) (b := 12) (by omega)
  have b1' := Int.emod_lt_of_pos (x / 4) (b := 12) (by omega)
  have c0 := Int.emod_nonneg (x / 4) (b := 9999) (by omega)
  have c1 := Int.emod_lt_of_pos (x / 4) (b := 9999) (by omega)
  simp only [t_law_size, b1_ap, b2_ap, R.bind_ok, tint_ap, tmodI_pos (show (0 : Int) < 4 by omega), f4, R.tr_ok, teq_int, tite_ap, tmodI_pos (show (0 : Int) < 3 by omega), tmodI_pos (show (0 : Int) < 12 by omega), tmodI_pos (show (0 : Int) < 9999 by omega), taddI_ap, tsubI_ap]
  by_cases q0 : x % 4 = 0
  · rw [if_pos (decide_eq_true q0)]; exact ⟨_, rfl, by omega, by omega⟩
  rw [if_neg (by simpa using q0)]
  by_cases q1 : x % 4 = 1
  · rw [if_pos (decide_eq_true q1)]; exact ⟨_, rfl, by omega, by omega⟩
  rw [if_neg (by simpa using q1)]
  by_cases q2 : x % 4 = 2
  · rw [if_pos (decide_eq_true q2)]; exact ⟨_, rfl, by omega, by omega⟩
  rw [if_neg (by simpa using q2)]
  exact ⟨_, rfl, by omega, by omega⟩
def Bn (ls : List Int) : Prop := ∀ x ∈ ls, 0 ≤ x ∧ x ≤ 100000
theorem ins_len {xs : List Int} {n : Nat} {y : Int} : (insAt xs n y).length = xs.length + 1 := by
  unfold insAt
  simp
  omega
theorem ins_mem {xs : List Int} {n : Nat} {x y : Int} (h : x ∈ insAt xs n y) : x ∈ xs ∨ x = y := by
  unfold insAt at h
  rcases List.mem_append.mp h with h | h
  · rcases List.mem_append.mp h with h | h
    · exact .inl (List.mem_of_mem_take h)
    · exact .inr (List.mem_singleton.mp h)
  · exact .inl (List.mem_of_mem_drop h)
theorem insT {xs : List Int} {j y : Int} (h0 : 0 ≤ j) (h1 : j < 1000) (hl : xs.length ≤ 1000) : tins xs j y = .ok (insAt xs j.toNat y) := if_pos (by omega)
theorem straightsT (c o : Int) : ∃ ls, t_law_straights c o 6 = .ok ls ∧ ls.length ≤ 6 ∧ Bn ls := by
  obtain ⟨ds, hd, e0⟩ := numbersT c 6 6 5040 (by omega) (by omega) (by omega) (by decide)
  obtain ⟨d0, i0, z0, _⟩ := hd.ix 0
  obtain ⟨d1, i1, z1, _⟩ := hd.ix 1
  obtain ⟨d2, i2, z2, _⟩ := hd.ix 2
  obtain ⟨d3, i3, z3, _⟩ := hd.ix 3
  have i0 : tidx ds (0 : Int) = .ok d0 := i0
  have i1 : tidx ds (1 : Int) = .ok d1 := i1
  have i2 : tidx ds (2 : Int) = .ok d2 := i2
  have i3 : tidx ds (3 : Int) = .ok d3 := i3
  have q0 := Int.emod_nonneg d0 (b := 6 + 1) (by omega)
  have q1 := Int.emod_lt_of_pos d0 (b := 6 + 1) (by omega)
  obtain ⟨n, hn, n6⟩ : ∃ n : Nat, d0 % (6 + 1) = (n : Int) ∧ n ≤ 6 := ⟨(d0 % (6 + 1)).toNat, by omega, by omega⟩
  obtain ⟨ds2, hd2, e2⟩ := numbersT o n (n : Int) 39996 rfl (by omega) (by omega) (by decide)
  obtain ⟨ss, es, ls, hs⟩ := tmap_ex (f := fun number : Int => (b1 t_law_size (R.ok number))) (fun s => 1 ≤ s ∧ s ≤ 9999) (xs := ds2) (fun x _ => sizeT x)
  have ln : ss.length = n := by rw [ls, hd2.1]
  have w0 := Int.emod_nonneg d2 (b := 9) (by omega)
  have w1 := Int.emod_lt_of_pos d2 (b := 9) (by omega)
  obtain ⟨ds3, hd3, e3⟩ := numbersT o n (n : Int) (1 + d2 % 9) rfl (by omega) (by omega) (Int.lt_trans (show 1 + d2 % 9 < 100 by omega) (by decide))
  have t3 := tmap_ok (f := fun number : Int => (b2 taddI (R.ok (1 : Int)) (R.ok number))) (fun x => 1 + x) (xs := ds3) (fun _ _ => rfl)
  have f62 : tfdivI 6 2 = .ok (3 : Int) := tfdivI_pos (by omega) (by decide)
  have cut : cutG ss none (some (3 : Int)) = ss.take 3 := cutG_to ss 3
  have top : t_law_straights c o 6 = TR.fn (l := Empty) (σ := Unit) ((b2 tmodI (b2 tidx (R.ok ds) (R.ok (0 : Int))) (b2 taddI (R.ok (6 : Int)) (R.ok (1 : Int)))).tr fun count => (((b3 t_law_numbers (R.ok o) (R.ok count) (R.ok (39996 : Int))).bind fun xs_ => (tmap (fun number : Int => (b1 t_law_size (R.ok number))) xs_).calm).tr fun sizes => ((b2 tmodI (b2 tidx (R.ok ds) (R.ok (1 : Int))) (R.ok (4 : Int))).tr fun kind => (tite (b2 teq (R.ok kind) (R.ok (0 : Int))) (((b3 t_law_numbers (R.ok o) (R.ok count) (b2 taddI (R.ok (1 : Int)) (b2 tmodI (b2 tidx (R.ok ds) (R.ok (2 : Int))) (R.ok (9 : Int))))).bind fun xs_ => (tmap (fun number : Int => (b2 taddI (R.ok (1 : Int)) (R.ok number))) xs_).calm).tr fun r_ => TR.rt r_) (tite (b2 teq (R.ok kind) (R.ok (1 : Int))) ((R.ok ([] : List Int)).tr fun found => ((b3 tcut (R.ok sizes) (R.ok none) (b1 tpart (b2 tfdivI (R.ok (6 : Int)) (R.ok (2 : Int))))).tr fun xs_ => (forT (fun size found => t_law_straights_3 ds size found) xs_ found).bind fun found => ((R.ok found).tr fun r_ => TR.rt r_))) (TR.bind (σ := (List Int)) (tite (tandB (b2 teq (R.ok kind) (R.ok (2 : Int))) (b2 tgtI (R.ok count) (R.ok (0 : Int)))) ((tpop sizes).tr fun p => ((R.ok (0 : Int)).tr fun total => ((noRE (forT (fun size total => t_law_straights_4 size total) p.2 total)).bind fun total => (tite (b2 tne (R.ok total) (R.ok (0 : Int))) ((b2 tmodI (b2 tidx (R.ok ds) (R.ok (3 : Int))) (R.ok count)).tr fun j_ => (b1 tabs (R.ok total)).tr fun a_ => (tins p.2 j_ a_).tr fun zs_ => TR.nx zs_) (TR.nx p.2))))) (TR.nx sizes)) fun sizes => ((R.ok sizes).tr fun r_ => TR.rt r_))))))) (fun _ => .stuck) := by
    unfold t_law_straights
    rw [show b3 t_law_numbers (R.ok c) (R.ok (6 : Int)) (R.ok (5040 : Int)) = .ok ds from e0, R.tr_ok]
    rfl
  rw [top]
  rw [show b2 tmodI (b2 tidx (R.ok ds) (R.ok (0 : Int))) (b2 taddI (R.ok (6 : Int)) (R.ok (1 : Int))) = .ok (n : Int) from by simp only [b2_ap, R.bind_ok, i0, taddI_ap, tmodI_pos (show (0 : Int) < 6 + 1 by omega), hn], R.tr_ok]
  rw [show b3 t_law_numbers (R.ok o) (R.ok (n : Int)) (R.ok (39996 : Int)) = .ok ds2 from e2, R.bind_ok, es, calm_okk, R.tr_ok]
  rw [show b2 tmodI (b2 tidx (R.ok ds) (R.ok (1 : Int))) (R.ok (4 : Int)) = .ok (d1 % 4) from by simp only [b2_ap, R.bind_ok, i1, tmodI_pos (show (0 : Int) < 4 by omega)], R.tr_ok]
  have sb : Bn ss := fun x hx => by have := hs x hx; omega
  by_cases k0 : d1 % 4 = 0
  · rw [show b2 teq (R.ok (d1 % 4)) (R.ok (0 : Int)) = .ok true from by simp only [b2_ap, R.bind_ok, teq_int, decide_eq_true k0], tite_ap, R.tr_ok, if_pos rfl]
    rw [show b3 t_law_numbers (R.ok o) (R.ok (n : Int)) (b2 taddI (R.ok (1 : Int)) (b2 tmodI (b2 tidx (R.ok ds) (R.ok (2 : Int))) (R.ok (9 : Int)))) = .ok ds3 from by simp only [b2_ap, b3_ap, R.bind_ok, i2, tmodI_pos (show (0 : Int) < 9 by omega), taddI_ap, e3], R.bind_ok, t3, calm_okk, R.tr_ok, TR.fn_rt]
    refine ⟨_, rfl, by rw [List.length_map, hd3.1]; exact n6, fun x hx => ?_⟩
    obtain ⟨y, hy, rfl⟩ := List.mem_map.mp hx
    have := hd3.2 y hy
    omega
  rw [show b2 teq (R.ok (d1 % 4)) (R.ok (0 : Int)) = .ok false from by simp only [b2_ap, R.bind_ok, teq_int, decide_eq_false k0], tite_ap, R.tr_ok, if_neg (by decide)]
  by_cases k1 : d1 % 4 = 1
  · rw [show b2 teq (R.ok (d1 % 4)) (R.ok (1 : Int)) = .ok true from by simp only [b2_ap, R.bind_ok, teq_int, decide_eq_true k1], tite_ap, R.tr_ok, if_pos rfl, R.tr_ok]
    rw [show b3 tcut (R.ok ss) (R.ok none) (b1 tpart (b2 tfdivI (R.ok (6 : Int)) (R.ok (2 : Int)))) = .ok (ss.take 3) from by simp only [b1_ap, b2_ap, b3_ap, R.bind_ok, f62, tpart_ap, tcut_ap, cut], R.tr_ok]
    obtain ⟨z, f, e, eb⟩ := forT_ix (l := Empty) (β := List Int) (f := fun size found => t_law_straights_3 ds size found) (fun i z => z.length = 2 * i ∧ Bn z) (ss.take 3) 0 [] ⟨rfl, fun _ h => nomatch h⟩ (fun i x z ha hz => by
      rw [Nat.zero_add] at hz ⊢
      obtain ⟨zl, zb⟩ := hz
      have hi : i < 3 := by
        have := (List.getElem?_eq_some_iff.mp ha).1
        rw [List.length_take] at this; omega
      have xb := sb x (List.mem_of_mem_take (List.mem_of_getElem? ha))
      have m0 := Int.emod_nonneg d3 (b := (z.length : Int) + 1) (by omega)
      have m1 := Int.emod_lt_of_pos d3 (b := (z.length : Int) + 1) (by omega)
      refine ⟨insAt z (d3 % ((z.length : Int) + 1)).toNat x ++ [x], .inl ?_, by rw [List.length_append, ins_len]; simp; omega, fun y hy => ?_⟩
      · simp only [t_law_straights_3, b1_ap, b2_ap, R.tr_ok, R.bind_ok, tfd_some, i3, tlen_ap, taddI_ap, tmodI_pos (show (0 : Int) < (z.length : Int) + 1 by omega)]
        rw [insT m0 (by omega) (by omega), R.tr_ok, tapp_ok (by rw [ins_len]; omega), R.tr_ok]
      · rcases List.mem_append.mp hy with h | h
        · rcases ins_mem h with h | h
          · exact zb y h
          · rw [h]; exact xb
        · rw [List.mem_singleton.mp h]; exact xb)
    rw [f, TR.bind_nx, R.tr_ok, TR.fn_rt]
    exact ⟨z, rfl, by rw [e, List.length_take]; omega, eb⟩
  rw [show b2 teq (R.ok (d1 % 4)) (R.ok (1 : Int)) = .ok false from by simp only [b2_ap, R.bind_ok, teq_int, decide_eq_false k1], tite_ap, R.tr_ok, if_neg (by decide)]
  by_cases k2 : d1 % 4 = 2 ∧ 0 < n
  · have nz : (0 : Int) < (n : Int) := by omega
    rw [show tandB (b2 teq (R.ok (d1 % 4)) (R.ok (2 : Int))) (b2 tgtI (R.ok (n : Int)) (R.ok (0 : Int))) = .ok true from by simp only [b2_ap, R.bind_ok, teq_int, decide_eq_true k2.1, tandB_ap, if_true, tgtI_ap, decide_eq_true nz], tite_ap, R.tr_ok, if_pos rfl]
    have ne : ss ≠ [] := fun z => by rw [z] at ln; simp at ln; omega
    obtain ⟨x, ep⟩ : ∃ x, tpop ss = .ok (x, ss.dropLast) := by
      have lp : ss.length - 1 < ss.length := by omega
      refine ⟨ss[ss.length - 1], ?_⟩
      unfold tpop
      rw [List.getElem?_eq_getElem lp]
      show R.ok (_, ss.eraseIdx (ss.length - 1)) = _
      rw [List.eraseIdx_eq_take_drop_succ, List.drop_eq_nil_of_le (by omega), List.append_nil, ← List.dropLast_eq_take]
    rw [ep, R.tr_ok, R.tr_ok]
    have dl : ss.dropLast.length = n - 1 := by rw [List.length_dropLast, ln]
    obtain ⟨t, ft, tb⟩ := forT_ix (l := Empty) (β := List Int) (f := fun size total => t_law_straights_4 size total) (fun i t => -(9999 * (i : Int)) ≤ t ∧ t ≤ 9999 * (i : Int)) ss.dropLast 0 (0 : Int) (by omega) (fun i y t ha ht => by
      rw [Nat.zero_add] at ht ⊢
      have yb := hs y (List.dropLast_subset ss (List.mem_of_getElem? ha))
      by_cases q : 0 < t
      · refine ⟨t - y, .inl ?_, by omega⟩
        simp only [t_law_straights_4, b2_ap, R.bind_ok, tgtI_ap, decide_eq_true q, tite_ap, R.tr_ok, if_true, tsubI_ap]
      · refine ⟨t + y, .inl ?_, by omega⟩
        simp only [t_law_straights_4, b2_ap, R.bind_ok, tgtI_ap, decide_eq_false q, tite_ap, R.tr_ok, Bool.false_eq_true, if_false, taddI_ap])
    rw [Nat.zero_add, dl] at tb
    have ftt : (noRE (forT (fun size total => t_law_straights_4 size total) ss.dropLast (0 : Int)) : TR (List Int) Empty Int) = .nx t := by rw [ft]; rfl
    simp only
    rw [ftt, TR.bind_nx]
    by_cases q : t = 0
    · rw [show b2 tne (R.ok t) (R.ok (0 : Int)) = .ok false from by simp only [b2_ap, R.bind_ok, tne_int, decide_eq_true q, Bool.not_true], tite_ap, R.tr_ok, if_neg (by decide), TR.bind_nx, R.tr_ok, TR.fn_rt]
      exact ⟨_, rfl, by omega, fun y hy => sb y (List.dropLast_subset ss hy)⟩
    · rw [show b2 tne (R.ok t) (R.ok (0 : Int)) = .ok true from by simp only [b2_ap, R.bind_ok, tne_int, decide_eq_false q, Bool.not_false], tite_ap, R.tr_ok, if_pos rfl]
      have m0 := Int.emod_nonneg d3 (b := (n : Int)) (by omega)
      have m1 := Int.emod_lt_of_pos d3 nz
      rw [show b2 tmodI (b2 tidx (R.ok ds) (R.ok (3 : Int))) (R.ok (n : Int)) = .ok (d3 % (n : Int)) from by simp only [b2_ap, R.bind_ok, i3, tmodI_pos nz], R.tr_ok, b1_ap, R.bind_ok, tabs_ap, R.tr_ok, insT m0 (by omega) (by omega), R.tr_ok, TR.bind_nx, R.tr_ok, TR.fn_rt]
      refine ⟨_, rfl, by rw [ins_len]; omega, fun y hy => ?_⟩
      rcases ins_mem hy with h | h
      · exact sb y (List.dropLast_subset ss h)
      · rw [h]; split <;> omega
  · rw [show tandB (b2 teq (R.ok (d1 % 4)) (R.ok (2 : Int))) (b2 tgtI (R.ok (n : Int)) (R.ok (0 : Int))) = .ok false from by
      by_cases q : d1 % 4 = 2
      · have nz : ¬ (0 : Int) < (n : Int) := by omega
        simp only [b2_ap, R.bind_ok, teq_int, decide_eq_true q, tandB_ap, if_true, tgtI_ap, decide_eq_false nz]
      · simp only [b2_ap, R.bind_ok, teq_int, decide_eq_false q, tandB_ap, Bool.false_eq_true, if_false], tite_ap, R.tr_ok, if_neg (by decide), TR.bind_nx, R.tr_ok, TR.fn_rt]
    exact ⟨ss, rfl, by omega, sb⟩
def Sr (i : Nat) (rows : List (List Int)) : Prop := rows.length = i + 1 ∧ ∀ r ∈ rows, 1 ≤ r.length ∧ r.length ≤ 2 ^ i
theorem sums1T (x : Int) : ∀ (vs : List Int) (d : Dc Int Bool), d.l.length + 2 * vs.length ≤ 16000000 → ∃ d', (forT (fun value known => t_law_sums_1 x value known) vs d : TR (List (List Int)) (List (List Int)) (Dc Int Bool)) = .nx d' ∧ d'.l.length ≤ d.l.length + 2 * vs.length ∧ (d.l ≠ [] ∨ vs ≠ [] → d'.l ≠ [])
  | [], d, _ => ⟨d, rfl, by simp, fun h => h.elim id fun h => absurd rfl h⟩
  | v :: vs, d, h => by
    rw [List.length_cons] at h
    have p1 := put_len d v true
    have p2 := put_len (d.put v true) (v + x) true
    have d1 : tdput d v true = .ok (d.put v true) := if_pos (by omega)
    have d2 : tdput (d.put v true) (v + x) true = .ok ((d.put v true).put (v + x) true) := if_pos (by omega)
    have st : t_law_sums_1 x v d = .nx ((d.put v true).put (v + x) true) := by simp only [t_law_sums_1, b2_ap, R.bind_ok, R.tr_ok, d1, taddI_ap, d2]
    obtain ⟨d', e1, e2, e3⟩ := sums1T x vs ((d.put v true).put (v + x) true) (by omega)
    refine ⟨d', by rw [forT_nx st, e1], by rw [List.length_cons]; omega, fun _ => e3 (.inl fun z => ?_)⟩
    have : (((d.put v true).put (v + x) true).get (v + x)) = some true := by rw [get_put, if_pos rfl]
    have e : ((d.put v true).put (v + x) true) = ⟨[]⟩ := by
      cases h : (d.put v true).put (v + x) true with
      | mk l => rw [h] at z; simp only at z; rw [z]
    rw [e] at this
    cases this
theorem sumsT {ls : List Int} (hl : ls.length ≤ 6) : ∃ rows, t_law_sums ls = .ok rows ∧ rows.length = ls.length + 1 ∧ ∀ r ∈ rows, 1 ≤ r.length ∧ r.length ≤ 64 := by
  obtain ⟨z, f, e1, e2⟩ := forT_ix (l := Empty) (β := List (List Int)) (f := fun length found => t_law_sums_2 length found) Sr ls 0 [[0]] ⟨rfl, fun r hr => by rw [List.mem_singleton.mp hr]; exact ⟨by simp, by simp⟩⟩ (fun i x z ha hz => by
    rw [Nat.zero_add] at hz ⊢
    obtain ⟨zl, zb⟩ := hz
    have hi : i < 6 := by have := (List.getElem?_eq_some_iff.mp ha).1; omega
    have pw : 2 ^ i ≤ 2 ^ 6 := Nat.pow_le_pow_right (by decide) (by omega)
    have e : (z.length : Int) - 1 = ((z.length - 1 : Nat) : Int) := by omega
    have il := tidxR (l := z) (k := z.length - 1) (by omega)
    have lb := zb _ (Rw_mem (l := z) (k := z.length - 1) (by omega))
    obtain ⟨d', f1, f2, f3⟩ := sums1T x (Rw z (z.length - 1)) ⟨[]⟩ (by show 0 + _ ≤ _; omega)
    have f2 : d'.l.length ≤ 2 * (Rw z (z.length - 1)).length := by simpa using f2
    have f3 := f3 (.inr fun q => by rw [q] at lb; simp at lb)
    refine ⟨z ++ [srtI (d'.l.map Prod.fst)], .inl ?_, by rw [List.length_append, zl]; rfl, fun r hr => ?_⟩
    · have tk : tkeysI d' = .ok (d'.l.map Prod.fst) := rfl
      simp only [t_law_sums_2, b1_ap, b2_ap, R.tr_ok, R.bind_ok, tlen_ap, tsubI_ap, e, il, tid_ap]
      rw [f1]
      simp only [TR.bind_nx, tk, R.bind_ok, tsort_ap, R.tr_ok]
      rw [tapp_ok (by omega)]
      rfl
    · rw [Nat.pow_succ]
      rcases List.mem_append.mp hr with h | h
      · have := zb r h; omega
      · rw [List.mem_singleton.mp h, (srtI_perm _).length_eq, List.length_map]
        have : 0 < d'.l.length := List.length_pos_iff.mpr f3
        omega)
  rw [Nat.zero_add] at e1 e2
  have pw : 2 ^ ls.length ≤ 2 ^ 6 := Nat.pow_le_pow_right (by decide) hl
  refine ⟨z, ?_, e1, fun r hr => by have := e2 r hr; omega⟩
  simp only [t_law_sums, tcons_ap, R.bind_ok, R.tr_ok]
  rw [f]
  rfl

def PG (p : List (List Int)) : Prop := p.length ≤ 20 ∧ ∀ r ∈ p, r.length ≤ 1000
def Rg (rows : List (List Int)) : Prop := rows.length ≤ 7 ∧ ∀ r ∈ rows, 1 ≤ r.length ∧ r.length ≤ 64
theorem mapid {α : Type} (xs : List α) : tmap (fun row : α => (R.ok row : R α)) xs = .ok xs := by
  have := tmap_ok (f := fun row : α => (R.ok row : R α)) (fun r => r) (xs := xs) fun _ _ => rfl
  rwa [List.map_id'] at this
section
variable {ls : List Int} {rows : List (List Int)}
theorem withT (h : Rg rows) (t : Int) {row : List Int} (hr : row.length ≤ 1000) : ∃ o, t_law_with rows t row = .ok o ∧ PG o := by
  have l1 := cutG_len rows none (some t)
  have l2 := cutG_len rows (some (t + 1)) none
  have hl := h.1
  refine ⟨cutG rows none (some t) ++ [row] ++ cutG rows (some (t + 1)) none, ?_, by simp; omega, fun r m => ?_⟩
  · simp only [t_law_with, b1_ap, b2_ap, b3_ap, R.bind_ok, tpart_ap, tcut_ap, mapid, calm_okk, tcons_ap, taddI_ap]
    rw [taddL_ok (by simp; omega), R.bind_ok, taddL_ok (by simp; omega), R.tr_ok, TR.fn_rt]
  · rcases List.mem_append.mp m with m | m
    · rcases List.mem_append.mp m with m | m
      · have := h.2 r (cutG_mem m); omega
      · rw [List.mem_singleton.mp m]; exact hr
    · have := h.2 r (cutG_mem m); omega
theorem carriedT (h : Rg rows) {t : Nat} (ht : t ≤ rows.length) (x : Int) : ∃ o, t_law_carried ls rows (t : Int) x = .ok o ∧ PG o := by
  have hl := h.1
  have tr : trange2 (t : Int) (rows.length : Int) = .ok (rangeI t (rows.length - t)) := trange2_of (by omega) (by omega) (by omega) (by omega) (by omega) (by omega)
  obtain ⟨s, f, e1, e2, e3⟩ := forT_ix (l := Empty) (β := List (List Int)) (f := fun k (s : List (List Int) × List Int) => t_law_carried_3 ls k s.1 s.2) (fun i s => s.1.length = rows.length ∧ (∀ r ∈ s.1, r.length ≤ 64 + 2 ^ i) ∧ s.2.length ≤ 2 ^ i) (rangeI (t : Int) (rows.length - t)) 0 (rows, [x]) ⟨rfl, fun r m => by have := h.2 r m; omega, by simp⟩ (fun i a s ha hz => by
    obtain ⟨hi, rfl⟩ := rangeI_get ha
    obtain ⟨fd, rest⟩ := s
    rw [Nat.zero_add] at hz ⊢
    obtain ⟨z1, z2, z3⟩ := hz
    simp only at z1 z2 z3
    have ek : (t : Int) + (i : Int) = ((t + i : Nat) : Int) := by omega
    rw [ek]
    have kl : t + i < fd.length := by omega
    have pw : 2 ^ i ≤ 2 ^ 7 := Nat.pow_le_pow_right (by decide) (by omega)
    have lb := z2 _ (Rw_mem kl)
    have ad : taddL (Rw fd (t + i)) rest = .ok (Rw fd (t + i) ++ rest) := taddL_ok (by omega)
    have set : ∀ v, tset fd ((t + i : Nat) : Int) v = .ok (fd.set (t + i) v) := fun v => tset_ok kl
    have fin : ∀ (rest' : List Int), rest'.length ≤ 2 ^ (i + 1) → ((fd.set (t + i) (Rw fd (t + i) ++ rest), rest') : List (List Int) × List Int).1.length = rows.length ∧ (∀ r ∈ ((fd.set (t + i) (Rw fd (t + i) ++ rest), rest') : List (List Int) × List Int).1, r.length ≤ 64 + 2 ^ (i + 1)) ∧ ((fd.set (t + i) (Rw fd (t + i) ++ rest), rest') : List (List Int) × List Int).2.length ≤ 2 ^ (i + 1) := fun rest' hr => ⟨by rw [List.length_set]; exact z1, fun r m => by
      rw [Nat.pow_succ]
      rcases List.mem_or_eq_of_mem_set m with m | m
      · have := z2 r m; omega
      · rw [m, List.length_append]; omega, hr⟩
    by_cases c : t + i < ls.length
    · have cz : ((t + i : Nat) : Int) < (ls.length : Int) := by omega
      have tm := tmap_ok (f := fun value : Int => (b2 taddI (R.ok value) (b2 tidx (R.ok ls) (R.ok ((t + i : Nat) : Int))))) (fun v => v + G ls (t + i)) (xs := rest) (fun v _ => by simp only [b2_ap, R.bind_ok, tidxG c, taddI_ap])
      have ad2 : taddL rest (rest.map fun v => v + G ls (t + i)) = .ok (rest ++ rest.map fun v => v + G ls (t + i)) := taddL_ok (by rw [List.length_map]; omega)
      refine ⟨(fd.set (t + i) (Rw fd (t + i) ++ rest), rest ++ rest.map fun v => v + G ls (t + i)), .inl ?_, fin _ (by rw [List.length_append, List.length_map, Nat.pow_succ]; omega)⟩
      simp only [t_law_carried_3, b1_ap, R.bind_ok, tidxR kl, R.tr_ok, tfd_some]
      rw [b2_ap, R.bind_ok, R.bind_ok, ad, R.tr_ok, set, R.tr_ok]
      simp only [tlen_ap, R.bind_ok]
      rw [show b2 tltI (R.ok ((t + i : Nat) : Int)) (R.ok (ls.length : Int)) = .ok true from congrArg R.ok (decide_eq_true cz), tite_ap, R.tr_ok, if_pos rfl, tm, calm_okk, b2_ap, R.bind_ok, R.bind_ok, ad2, R.tr_ok]
    · have cz : ¬ ((t + i : Nat) : Int) < (ls.length : Int) := by omega
      refine ⟨(fd.set (t + i) (Rw fd (t + i) ++ rest), rest), .inl ?_, fin _ (by rw [Nat.pow_succ]; omega)⟩
      simp only [t_law_carried_3, b1_ap, R.bind_ok, tidxR kl, R.tr_ok, tfd_some]
      rw [b2_ap, R.bind_ok, R.bind_ok, ad, R.tr_ok, set, R.tr_ok]
      simp only [tlen_ap, R.bind_ok]
      rw [show b2 tltI (R.ok ((t + i : Nat) : Int)) (R.ok (ls.length : Int)) = .ok false from congrArg R.ok (decide_eq_false cz), tite_ap, R.tr_ok, if_neg (by decide)])
  have pw : 2 ^ (0 + (rangeI (t : Int) (rows.length - t)).length) ≤ 2 ^ 7 := Nat.pow_le_pow_right (by decide) (by rw [rangeI_len]; omega)
  refine ⟨s.1, ?_, by omega, fun r m => by have := e2 r m; omega⟩
  have top : t_law_carried ls rows (t : Int) x = TR.fn (l := Empty) (σ := Unit) (((R.ok rows).bind fun xs_ => (tmap (fun row : List Int => (R.ok row)) xs_).calm).tr fun found => ((tcons (R.ok x) (R.ok ([] : List Int))).tr fun rest => ((b2 trange2 (R.ok (t : Int)) (b1 tlen (R.ok rows))).tr fun xs_ => (forT (fun k (s : List (List Int) × List Int) => t_law_carried_3 ls k s.1 s.2) xs_ (found, rest)).bind fun s => ((R.ok s.1).tr fun r_ => TR.rt r_)))) (fun _ => .stuck) := rfl
  rw [top, R.bind_ok, mapid, calm_okk, R.tr_ok, show tcons (R.ok x) (R.ok ([] : List Int)) = .ok [x] from rfl, R.tr_ok, show b2 trange2 (R.ok (t : Int)) (b1 tlen (R.ok rows)) = .ok (rangeI t (rows.length - t)) from tr, R.tr_ok, f]
  rfl
theorem variantsT (h : Rg rows) (h1 : 1 ≤ rows.length) (hb : Bn ls) {ds : List Int} (hd : Dr 8 39996 ds) : ∃ ps, t_law_variants ls rows ds = .ok ps ∧ ∀ p ∈ ps, PG p := by
  have hl := h.1
  obtain ⟨d0, i0, _⟩ := hd.ix 0
  obtain ⟨d1, i1, _⟩ := hd.ix 1
  obtain ⟨d2, i2, _⟩ := hd.ix 2
  obtain ⟨d3, i3, _⟩ := hd.ix 3
  have i0 : tidx ds (0 : Int) = .ok d0 := i0
  have i1 : tidx ds (1 : Int) = .ok d1 := i1
  have i2 : tidx ds (2 : Int) = .ok d2 := i2
  have i3 : tidx ds (3 : Int) = .ok d3 := i3
  have rz : (0 : Int) < (rows.length : Int) := by omega
  obtain ⟨t, ht⟩ : ∃ t : Nat, d0 % (rows.length : Int) = (t : Int) := ⟨(d0 % (rows.length : Int)).toNat, by have := Int.emod_nonneg d0 (show (rows.length : Int) ≠ 0 by omega); omega⟩
  have tlt : t < rows.length := by have := Int.emod_lt_of_pos d0 rz; omega
  have rb := h.2 _ (Rw_mem tlt)
  generalize hrow : Rw rows t = row at rb
  have ir : tidx rows (t : Int) = .ok row := by rw [← hrow]; exact tidxR tlt
  have wz : (0 : Int) < (row.length : Int) := by omega
  obtain ⟨sp, hs⟩ : ∃ t : Nat, d1 % (row.length : Int) = (t : Int) := ⟨(d1 % (row.length : Int)).toNat, by have := Int.emod_nonneg d1 (show (row.length : Int) ≠ 0 by omega); omega⟩
  have slt : sp < row.length := by have := Int.emod_lt_of_pos d1 wz; omega
  have s0 : tsum ls = .ok ls.sum := rfl
  have f2 : tfdivI ls.sum 2 = .ok (ls.sum / 2) := tfdivI_pos (by omega) (by decide)
  generalize ls.sum / 2 = half at f2
  have m0 := Int.emod_nonneg d3 (b := 2) (by omega)
  have m1 := Int.emod_lt_of_pos d3 (b := 2) (by omega)
  have mu : tmulI half (d3 % 2) = .ok (half * (d3 % 2)) := tmulI_r (show (d3 % 2).natAbs < 2 ^ 64 by omega)
  generalize hfar : d2 % 5 - 2 + half * (d3 % 2) = far
  have er := tmap_ok (f := fun one : List Int => (b1 trev (R.ok one))) List.reverse (xs := rows) (fun _ _ => rfl)
  have ed := tmap_ok (f := fun one : List Int => (b2 taddL (R.ok one) (b3 tcut (R.ok one) (R.ok none) (b1 tpart (R.ok (1 : Int)))))) (fun o => o ++ cutG o none (some (1 : Int))) (xs := rows) (fun o ho => by
    have a := h.2 o ho
    have b := cutG_len o none (some (1 : Int))
    simp only [b1_ap, b2_ap, b3_ap, R.bind_ok, tpart_ap, tcut_ap]
    exact taddL_ok (by omega))
  obtain ⟨o1, c1, g1⟩ := carriedT (ls := ls) h (t := t) (by omega) far
  obtain ⟨o2, c2, g2⟩ := carriedT (ls := ls) h (t := 0) (by omega) (d2 - 20000)
  have c2 : t_law_carried ls rows (0 : Int) (d2 - 20000) = .ok o2 := c2
  have ll : rows.length - 1 < rows.length := by omega
  have el : (rows.length : Int) - 1 = ((rows.length - 1 : Nat) : Int) := by omega
  have lb := h.2 _ (Rw_mem ll)
  generalize hlast : Rw rows (rows.length - 1) = last at lb
  have il : tidx rows ((rows.length - 1 : Nat) : Int) = .ok last := by rw [← hlast]; exact tidxR ll
  have k1 := cutG_len row none (some (sp : Int))
  have k2 := cutG_len row (some ((sp : Int) + 1)) none
  have a1 : taddL row [far] = .ok (row ++ [far]) := taddL_ok (by simp; omega)
  have a2 : taddL (cutG row none (some (sp : Int))) (cutG row (some ((sp : Int) + 1)) none) = .ok (cutG row none (some (sp : Int)) ++ cutG row (some ((sp : Int) + 1)) none) := taddL_ok (by omega)
  have a3 : taddL (cutG row none (some (sp : Int))) [G row sp + 1] = .ok (cutG row none (some (sp : Int)) ++ [G row sp + 1]) := taddL_ok (by simp; omega)
  have a4 : taddL (cutG row none (some (sp : Int)) ++ [G row sp + 1]) (cutG row (some ((sp : Int) + 1)) none) = .ok (cutG row none (some (sp : Int)) ++ [G row sp + 1] ++ cutG row (some ((sp : Int) + 1)) none) := taddL_ok (by simp; omega)
  have a5 : taddL last [half] = .ok (last ++ [half]) := taddL_ok (by simp; omega)
  have iw : tidx row (sp : Int) = .ok (G row sp) := tidxG slt
  have fl : (last.filter fun v => !decide (v = half)).length ≤ 64 := Nat.le_trans (List.length_filter_le _ _) lb.2
  have tc := tcomp_ok (c := fun value : Int => (b2 tne (R.ok value) (R.ok half))) (f := fun value : Int => R.ok value) (fun v => !decide (v = half)) (fun v => v) (xs := last) (fun v _ => ⟨by simp only [b2_ap, R.bind_ok, tne_int], fun _ => rfl⟩)
  rw [List.map_id'] at tc
  have n0 := Int.emod_nonneg ls.sum (b := 300) (by omega)
  have n1 := Int.emod_lt_of_pos ls.sum (b := 300) (by omega)
  obtain ⟨m, hm, m3⟩ : ∃ m : Nat, ls.sum % 300 + 1 = (m : Int) ∧ m ≤ 300 := ⟨(ls.sum % 300 + 1).toNat, by omega, by omega⟩
  have tm : trange1 (m : Int) = .ok (rangeI 0 m) := trange1_nat (by omega)
  obtain ⟨v1, w1, p1⟩ := withT h (t : Int) (row := row ++ [far]) (by simp; omega)
  obtain ⟨v2, w2, p2⟩ := withT h (t : Int) (row := cutG row none (some (sp : Int)) ++ cutG row (some ((sp : Int) + 1)) none) (by simp; omega)
  obtain ⟨v3, w3, p3⟩ := withT h (t : Int) (row := cutG row none (some (sp : Int)) ++ [G row sp + 1] ++ cutG row (some ((sp : Int) + 1)) none) (by simp; omega)
  obtain ⟨v4, w4, p4⟩ := withT h (t : Int) (row := []) (by simp)
  obtain ⟨v5, w5, p5⟩ := withT h ((rows.length - 1 : Nat) : Int) (row := last ++ [half]) (by simp; omega)
  obtain ⟨v6, w6, p6⟩ := withT h ((rows.length - 1 : Nat) : Int) (row := last.filter fun v => !decide (v = half)) (by omega)
  obtain ⟨v7, w7, p7⟩ := withT h ((rows.length - 1 : Nat) : Int) (row := rangeI 0 m) (by rw [rangeI_len]; omega)
  obtain ⟨v8, w8, p8⟩ := withT h (0 : Int) (row := [1]) (by simp)
  have b1' : taddL [[(0 : Int)]] rows = .ok ([[0]] ++ rows) := taddL_ok (by simp; omega)
  have b2' : taddL rows [last] = .ok (rows ++ [last]) := taddL_ok (by simp; omega)
  have b3' : taddL rows [([] : List Int)] = .ok (rows ++ [[]]) := taddL_ok (by simp; omega)
  have eN : (tmap cNil [([] : List Empty)] : R (List (List Int))) = .ok [[]] := rfl
  have l1 := cutG_len rows none (some (-1 : Int))
  have l2 := cutG_len rows (some (1 : Int)) none
  have pr : PG rows := ⟨by omega, fun r m => by have := h.2 r m; omega⟩
  refine ⟨[rows, rows.map List.reverse, rows.map fun o => o ++ cutG o none (some (1 : Int))] ++ [o1] ++ [o2] ++ [v1] ++ [v2] ++ [v3] ++ [v4] ++ [v5] ++ [v6] ++ [v7] ++ [v8] ++ [cutG rows none (some (-1 : Int)), cutG rows (some (1 : Int)) none, [[0]] ++ rows, rows ++ [last], rows ++ [[]], []], ?_, fun p hp => ?_⟩
  · simp only [t_law_variants, b1_ap, b2_ap, b3_ap, b4_ap, R.bind_ok, R.tr_ok, i0, i1, i2, i3, tlen_ap, tmodI_pos rz, ht, ir, tmodI_pos wz, hs, s0, f2, tmodI_pos (show (0 : Int) < 5 by omega), tmodI_pos (show (0 : Int) < 2 by omega), tsubI_ap, mu, taddI_ap, hfar]
    simp only [b1_ap, b2_ap, b3_ap, R.bind_ok] at ed
    simp only [b1_ap, R.bind_ok] at er
    rw [er, ed]
    simp only [calm_okk, tcons_ap, R.bind_ok, R.tr_ok, c1, c2]
    rw [tapp_ok (by simp), R.tr_ok, tapp_ok (by simp), R.tr_ok]
    simp only [a1, R.bind_ok, w1, R.tr_ok, tpart_ap, tcut_ap, a2, w2, iw, taddI_ap, tcons_ap, a3, a4, w3, w4]
    rw [tapp_ok (by simp), R.tr_ok, tapp_ok (by simp), R.tr_ok, tapp_ok (by simp), R.tr_ok, tapp_ok (by simp), R.tr_ok]
    simp only [el, R.tr_ok, il, R.bind_ok, tcons_ap, a5, w5]
    rw [tapp_ok (by simp), R.tr_ok]
    simp only [b2_ap, R.bind_ok] at tc
    rw [tc]
    simp only [calm_okk, R.bind_ok, w6, R.tr_ok, tmodI_pos (show (0 : Int) < 300 by omega), taddI_ap, hm, tm, w7, tcons_ap, w8]
    rw [tapp_ok (by simp), R.tr_ok, tapp_ok (by simp), R.tr_ok, tapp_ok (by simp), R.tr_ok]
    simp only [tnegI_ap, R.bind_ok, tpart_ap, tcut_ap, tcons_ap, b1', b2', eN, b3']
    rw [taddL_ok (by simp), R.tr_ok]
    rfl
  · have ap : ∀ x : List Int, x.length ≤ 1000 → PG (rows ++ [x]) := fun x hx => ⟨by simp; omega, fun r m => by
      rcases List.mem_append.mp m with m | m
      · have := h.2 r m; omega
      · rw [List.mem_singleton.mp m]; exact hx⟩
    simp only [List.mem_append, List.mem_cons, List.not_mem_nil, or_false, or_assoc] at hp
    rcases hp with rfl | rfl | rfl | rfl | rfl | rfl | rfl | rfl | rfl | rfl | rfl | rfl | rfl | rfl | rfl | rfl | rfl | rfl | rfl
    · exact pr
    · exact ⟨by rw [List.length_map]; omega, fun r m => by
        obtain ⟨o, ho, rfl⟩ := List.mem_map.mp m
        have := h.2 o ho
        rw [List.length_reverse]; omega⟩
    · exact ⟨by rw [List.length_map]; omega, fun r m => by
        obtain ⟨o, ho, rfl⟩ := List.mem_map.mp m
        have := h.2 o ho
        have := cutG_len o none (some (1 : Int))
        rw [List.length_append]; omega⟩
    · exact g1
    · exact g2
    · exact p1
    · exact p2
    · exact p3
    · exact p4
    · exact p5
    · exact p6
    · exact p7
    · exact p8
    · exact ⟨by omega, fun r m => by have := h.2 r (cutG_mem m); omega⟩
    · exact ⟨by omega, fun r m => by have := h.2 r (cutG_mem m); omega⟩
    · exact ⟨by simp; omega, fun r m => by
        rcases List.mem_append.mp m with m | m
        · rw [List.mem_singleton.mp m]; simp
        · have := h.2 r m; omega⟩
    · exact ap _ (by omega)
    · exact ap _ (by simp)
    · exact ⟨by simp, fun r m => nomatch m⟩
theorem same_judge (hl : ls.length ≤ 100) {p : List (List Int)} (hp : PG p) (c radius : Int) : ∃ b, t_judge_round ⟨ls, c, radius⟩ ("unequal", p) = .ok b ∧ t_law_accepted (ls, c) p = .ok b := by
  have hw : ∀ r ∈ p, r.length ≤ 3000 := fun r m => by have := hp.2 r m; omega
  have hr : p.length ≤ 200 := by have := hp.1; omega
  obtain ⟨b, e1, e2⟩ := judgeT hl hr hw c radius
  obtain ⟨b', e3, e4⟩ := acceptsT hl hr hw c
  exact ⟨b, e1, by rw [e3, show b' = b from Bool.eq_iff_iff.mpr (e4.trans e2.symm)]⟩
theorem law3T {p : List (List Int)} (hp : PG p) (hl : ls.length ≤ 100) (c radius : Int) : t_law_3 radius p ls c = .nx () := by
  obtain ⟨b, e1, e2⟩ := same_judge hl hp c radius
  have n1 : tne b b = .ok false := tne_rfl trivial
  have n2 : tne ls ls = .ok false := tne_rfl (ok_ints (by omega))
  have n3 : tne p p = .ok false := tne_rfl ⟨by have := hp.1; omega, fun r m => ok_ints (by have := hp.2 r m; omega)⟩
  simp only [t_law_3, R.tr_ok, R.bind_ok, mapid, calm_okk, b1_ap, b2_ap, b3_ap, mk3_ap, mk2_ap, e1, e2, tK_ap, tid_ap, tnotB_ap, Bool.not_true, torB_ap, n1, Bool.false_eq_true, if_false, tite_ap, n2, n3]
theorem law5T (hl : ls.length ≤ 100) (radius : Int) (p : List (List Int)) {w : Str} (hs : PyData.strOk w = true) (h1 : decide (w = "round") = false) (h2 : decide (w = "unequal") = false) : t_law_5 ls radius p w = .nx () := by
  have jt : t_judge_round ⟨ls, 8, radius⟩ (w, p) = .ok false := by
    have top : t_judge_round ⟨ls, 8, radius⟩ (w, p) = TR.fn (l := Empty) (σ := Unit) (tite (b2 tne (R.ok (8 : Int)) (R.ok (8 : Int))) ((R.ok false).tr fun r_ => TR.rt r_) (tite (b2 teq (R.ok w) (R.ok ("round" : Str))) ((b2 t_is_round (R.ok ⟨ls, 8, radius⟩) (R.ok p)).tr fun r_ => TR.rt r_) ((tandB (b2 teq (R.ok w) (R.ok ("unequal" : Str))) (b2 t_shows_unequal (R.ok ls) (R.ok p))).tr fun r_ => TR.rt r_))) (fun _ => .stuck) := rfl
    rw [top, show b2 tne (R.ok (8 : Int)) (R.ok (8 : Int)) = .ok false from by simp only [b2_ap, R.bind_ok, tne_int]; rfl, tite_ap, R.tr_ok, if_neg (by decide)]
    rw [show b2 teq (R.ok w) (R.ok ("round" : Str)) = .ok false from by simp only [b2_ap, R.bind_ok, teqS hs sk_ro, h1], tite_ap, R.tr_ok, if_neg (by decide)]
    rw [show b2 teq (R.ok w) (R.ok ("unequal" : Str)) = .ok false from by simp only [b2_ap, R.bind_ok, teqS hs sk_u, h2], tandB_ap]
    rfl
  simp only [t_law_5, b2_ap, b3_ap, R.bind_ok, mk3_ap, mk2_ap, jt, tisnB_ap, decide_true, Bool.not_true, tite_ap, R.tr_ok, Bool.false_eq_true, if_false]
end
theorem mathT : ∀ ns : List Int, ns.length ≤ 63 → t_law ns = .ok true := fun ns _ => by
  have ec : ∀ k : Nat, t_law_cell ns (k : Int) = .ok (ns.getD k 0) := cellT ns
  generalize h0 : ns.getD 0 0 = c0
  generalize h1 : ns.getD 1 0 = c1
  generalize h2 : ns.getD 2 0 = c2
  have ec0 : t_law_cell ns (0 : Int) = .ok c0 := by rw [← h0]; exact ec 0
  have ec1 : t_law_cell ns (1 : Int) = .ok c1 := by rw [← h1]; exact ec 1
  have ec2 : t_law_cell ns (2 : Int) = .ok c2 := by rw [← h2]; exact ec 2
  obtain ⟨ds, hd, ed⟩ := numbersT c2 8 8 39996 (by omega) (by omega) (by omega) (by decide)
  obtain ⟨ls, el, ll, lb⟩ := straightsT c0 c1
  obtain ⟨d4, i4, _⟩ := hd.ix 4
  obtain ⟨d5, i5, _⟩ := hd.ix 5
  have i4 : tidx ds (4 : Int) = .ok d4 := i4
  have i5 : tidx ds (5 : Int) = .ok d5 := i5
  obtain ⟨radius, er, _⟩ := sizeT d4
  obtain ⟨rows, es, rl, rb⟩ := sumsT ll
  have rg : Rg rows := ⟨by omega, rb⟩
  have pr : PG rows := ⟨by omega, fun r m => by have := rb r m; omega⟩
  obtain ⟨b, e1, e2⟩ := same_judge (ls := ls) (by omega) pr 8 radius
  obtain ⟨ps, ev, pg⟩ := variantsT (ls := ls) rg (by omega) lb hd
  have ad : taddL ls [(1 : Int)] = .ok (ls ++ [1]) := taddL_ok (by simp; omega)
  have f4 := forT_pass (l := Empty) (β := Bool) (f := fun paper (_ : Unit) => t_law_4 radius [(ls, 8), (ls, d5 % 31), (ls, 9), (ls.reverse, 8), (ls ++ [1], 8)] paper) (s := ()) (xs := ps) (fun p hp => .inl (by
    have g := forT_pass (l := Unit) (β := Bool) (f := fun (q : List Int × Int) (_ : Unit) => t_law_3 radius p q.1 q.2) (s := ()) (xs := [(ls, 8), (ls, d5 % 31), (ls, 9), (ls.reverse, 8), (ls ++ [1], 8)]) (fun q hq => by
      have lq : q.1.length ≤ 100 := by
        simp only [List.mem_cons, List.not_mem_nil, or_false] at hq
        rcases hq with rfl | rfl | rfl | rfl | rfl <;> simp <;> omega
      exact .inl (law3T (pg p hp) lq q.2 radius))
    have top : t_law_4 radius [(ls, 8), (ls, d5 % 31), (ls, 9), (ls.reverse, 8), (ls ++ [1], 8)] p = ((R.ok [(ls, (8 : Int)), (ls, d5 % 31), (ls, 9), (ls.reverse, 8), (ls ++ [1], 8)]).tr fun xs_ => (forT (fun (q : List Int × Int) (_ : Unit) => t_law_3 radius p q.1 q.2) xs_ ()).bind fun _ => (TR.nx ()) : TR Bool Unit Unit) := rfl
    rw [top, R.tr_ok, g]
    rfl))
  have f5 := forT_pass (l := Empty) (β := Bool) (f := fun word (_ : Unit) => t_law_5 ls radius rows word) (s := ()) (xs := [("none" : Str), "Unequal", "equal", ""]) (fun w hw => by
    simp only [List.mem_cons, List.not_mem_nil, or_false] at hw
    rcases hw with rfl | rfl | rfl | rfl
    · exact .inl (law5T (by omega) radius rows (by decide +kernel) (by decide +kernel) (by decide +kernel))
    · exact .inl (law5T (by omega) radius rows (by decide +kernel) (by decide +kernel) (by decide +kernel))
    · exact .inl (law5T (by omega) radius rows (by decide +kernel) (by decide +kernel) (by decide +kernel))
    · exact .inl (law5T (by omega) radius rows (by decide +kernel) (by decide +kernel) (by decide +kernel)))
  have chk : tandB (b1 tid (b2 t_law_accepted (b2 mk2 (R.ok ls) (R.ok (8 : Int))) (R.ok rows))) (b2 tisnB (b2 t_judge_round (b3 mk3 (R.ok ls) (R.ok (8 : Int)) (R.ok radius)) (b2 mk2 (R.ok ("unequal" : Str)) (R.ok rows))) (R.ok true)) = .ok false := by
    simp only [b1_ap, b2_ap, b3_ap, R.bind_ok, mk2_ap, mk3_ap, e1, e2, tid_ap, tandB_ap, tisnB_ap]
    cases b <;> rfl
  have top : t_law ns = TR.fn (l := Empty) (σ := Unit) ((R.ok rows).tr fun sums => (((R.ok sums).bind fun xs_ => (tmap (fun row : List Int => (R.ok row)) xs_).calm).tr fun right_ => (tite (tandB (b1 tid (b2 t_law_accepted (b2 mk2 (R.ok ls) (R.ok (8 : Int))) (R.ok sums))) (b2 tisnB (b2 t_judge_round (b3 mk3 (R.ok ls) (R.ok (8 : Int)) (R.ok radius)) (b2 mk2 (R.ok ("unequal" : Str)) (R.ok right_))) (R.ok true))) ((R.ok false).tr fun r_ => TR.rt r_) ((tcons (b2 mk2 (R.ok ls) (R.ok (8 : Int))) (tcons (b2 mk2 (R.ok ls) (b2 tmodI (b2 tidx (R.ok ds) (R.ok (5 : Int))) (R.ok (31 : Int)))) (tcons (b2 mk2 (R.ok ls) (R.ok (9 : Int))) (tcons (b2 mk2 (b1 trev (R.ok ls)) (R.ok (8 : Int))) (tcons (b2 mk2 (b2 taddL (R.ok ls) (tcons (R.ok (1 : Int)) (R.ok ([] : List Int)))) (R.ok (8 : Int))) (R.ok ([] : List ((List Int) × Int)))))))).tr fun boxes => ((b3 t_law_variants (R.ok ls) (R.ok sums) (R.ok ds)).tr fun xs_ => (forT (fun paper _ => t_law_4 radius boxes paper) xs_ ()).bind fun _ => ((tcons (R.ok ("none" : Str)) (tcons (R.ok ("Unequal" : Str)) (tcons (R.ok ("equal" : Str)) (tcons (R.ok ("" : Str)) (R.ok ([] : List Str)))))).tr fun xs_ => (forT (fun word _ => t_law_5 ls radius right_ word) xs_ ()).bind fun _ => ((R.ok true).tr fun r_ => TR.rt r_))))))) (fun _ => .stuck) := by
    unfold t_law
    rw [show b3 t_law_numbers (b2 t_law_cell (R.ok ns) (R.ok (2 : Int))) (R.ok (8 : Int)) (R.ok (39996 : Int)) = .ok ds from by simp only [b2_ap, b3_ap, R.bind_ok, ec2, ed], R.tr_ok]
    rw [show b3 t_law_straights (b2 t_law_cell (R.ok ns) (R.ok (0 : Int))) (b2 t_law_cell (R.ok ns) (R.ok (1 : Int))) (R.ok (6 : Int)) = .ok ls from by simp only [b2_ap, b3_ap, R.bind_ok, ec0, ec1, el], R.tr_ok]
    rw [show b1 t_law_size (b2 tidx (R.ok ds) (R.ok (4 : Int))) = .ok radius from by simp only [b1_ap, b2_ap, R.bind_ok, i4, er], R.tr_ok]
    rw [show b1 t_law_sums (R.ok ls) = .ok rows from es]
  rw [top, R.tr_ok, R.bind_ok, mapid, calm_okk, R.tr_ok, chk, tite_ap, R.tr_ok, if_neg (by decide)]
  rw [show (tcons (b2 mk2 (R.ok ls) (R.ok (8 : Int))) (tcons (b2 mk2 (R.ok ls) (b2 tmodI (b2 tidx (R.ok ds) (R.ok (5 : Int))) (R.ok (31 : Int)))) (tcons (b2 mk2 (R.ok ls) (R.ok (9 : Int))) (tcons (b2 mk2 (b1 trev (R.ok ls)) (R.ok (8 : Int))) (tcons (b2 mk2 (b2 taddL (R.ok ls) (tcons (R.ok (1 : Int)) (R.ok ([] : List Int)))) (R.ok (8 : Int))) (R.ok ([] : List ((List Int) × Int)))))))) = .ok [(ls, 8), (ls, d5 % 31), (ls, 9), (ls.reverse, 8), (ls ++ [1], 8)] from by
    simp only [b1_ap, b2_ap, R.bind_ok, mk2_ap, i5, tmodI_pos (show (0 : Int) < 31 by omega), trev_ap, tcons_ap, ad], R.tr_ok]
  rw [show b3 t_law_variants (R.ok ls) (R.ok rows) (R.ok ds) = .ok ps from ev, R.tr_ok, f4, TR.bind_nx]
  simp only [tcons_ap, R.bind_ok, R.tr_ok]
  rw [f5]
  rfl

theorem math : ∀ ns : List Int, ns.length ≤ 63 → m_law [.list (ns.map PyData.int)] = .ok (.bool true) := law_T mathT
end LW
namespace LW
open PySem PySem.Spec PyProof.Rows L2 VL
theorem txt_mk {K : PySem.W.Frag} {h : Heap} {mg : Str → Option Value} (X : K.In h) (G : h.Ns mainGlobals mg)
    {tk1 : Tok}
    {tk3 : Tok}
    {tk4 : Tok}
    {tk5 : Tok}
    {tk6 : Tok}
    {q2 : Addr} {dd2 : Option Addr} {nn2 : Nat} {ss2 : Array (Option Value)}
    {tk8 : Tok}
    {q7 : Addr} {dd7 : Option Addr} {nn7 : Nat} {ss7 : Array (Option Value)}
    {tk9 : Tok}
    {tk10 : Tok}
    {tk12 : Tok}
    {tk13 : Tok}
    {q11 : Addr} {dd11 : Option Addr} {nn11 : Nat} {ss11 : Array (Option Value)}
    {tk16 : Tok}
    {tk17 : Tok}
    {tk18 : Tok}
    {tk19 : Tok}
    {q15 : Addr} {dd15 : Option Addr} {nn15 : Nat} {ss15 : Array (Option Value)}
    {tk20 : Tok}
    {q14 : Addr} {dd14 : Option Addr} {nn14 : Nat} {ss14 : Array (Option Value)}
    {tk21 : Tok}
    {tk23 : Tok}
    {tk24 : Tok}
    {q22 : Addr} {dd22 : Option Addr} {nn22 : Nat} {ss22 : Array (Option Value)}
    {f1 : Addr} {od1 an1 : Option Addr} {sl1 : Array (Option Value)} {oc1 kV1 dc1 pm1 cd1 ct1 : Value}
    (a1 : PySem.W.nsIn K mainGlobals "spot_sum" = some (some (.ref f1)))
    (l1 : K.lookup f1 = some ⟨oc1, od1, .func (PySem.W.fnOf "spot_sum" "spot_sum" (defArgs s_spot_sum) (defBody s_spot_sum) (defScope s_spot_sum) .none kV1 dc1 pm1 an1 cd1 ct1), sl1⟩) (c1 : PySem.W.codeIn K cd1 "spot_sum" = true) (k1 : PySem.W.keepIn K (.ref f1) = true)
    {f2 : Addr} {od2 an2 : Option Addr} {sl2 : Array (Option Value)} {oc2 kV2 dc2 pm2 cd2 ct2 : Value}
    (a2 : PySem.W.nsIn K mainGlobals "eighth_turned" = some (some (.ref f2)))
    (l2 : K.lookup f2 = some ⟨oc2, od2, .func (PySem.W.fnOf "eighth_turned" "eighth_turned" (defArgs s_eighth_turned) (defBody s_eighth_turned) (defScope s_eighth_turned) .none kV2 dc2 pm2 an2 cd2 ct2), sl2⟩) (c2 : PySem.W.codeIn K cd2 "eighth_turned" = true) (k2 : PySem.W.keepIn K (.ref f2) = true)
    {f3 : Addr} {od3 an3 : Option Addr} {sl3 : Array (Option Value)} {oc3 kV3 dc3 pm3 cd3 ct3 : Value}
    (a3 : PySem.W.nsIn K mainGlobals "spot_turned" = some (some (.ref f3)))
    (l3 : K.lookup f3 = some ⟨oc3, od3, .func (PySem.W.fnOf "spot_turned" "spot_turned" (defArgs s_spot_turned) (defBody s_spot_turned) (defScope s_spot_turned) .none kV3 dc3 pm3 an3 cd3 ct3), sl3⟩) (c3 : PySem.W.codeIn K cd3 "spot_turned" = true) (k3 : PySem.W.keepIn K (.ref f3) = true)
    {f4 : Addr} {od4 an4 : Option Addr} {sl4 : Array (Option Value)} {oc4 kV4 dc4 pm4 cd4 ct4 : Value}
    (a4 : PySem.W.nsIn K mainGlobals "ray" = some (some (.ref f4)))
    (l4 : K.lookup f4 = some ⟨oc4, od4, .func (PySem.W.fnOf "ray" "ray" (defArgs s_ray) (defBody s_ray) (defScope s_ray) .none kV4 dc4 pm4 an4 cd4 ct4), sl4⟩) (c4 : PySem.W.codeIn K cd4 "ray" = true) (k4 : PySem.W.keepIn K (.ref f4) = true)
    {f5 : Addr} {od5 an5 : Option Addr} {sl5 : Array (Option Value)} {oc5 kV5 dc5 pm5 cd5 ct5 : Value}
    (a5 : PySem.W.nsIn K mainGlobals "pose_product" = some (some (.ref f5)))
    (l5 : K.lookup f5 = some ⟨oc5, od5, .func (PySem.W.fnOf "pose_product" "pose_product" (defArgs s_pose_product) (defBody s_pose_product) (defScope s_pose_product) .none kV5 dc5 pm5 an5 cd5 ct5), sl5⟩) (c5 : PySem.W.codeIn K cd5 "pose_product" = true) (k5 : PySem.W.keepIn K (.ref f5) = true)
    {f6 : Addr} {od6 an6 : Option Addr} {sl6 : Array (Option Value)} {oc6 kV6 dc6 pm6 cd6 ct6 : Value}
    (a6 : PySem.W.nsIn K mainGlobals "is_whole" = some (some (.ref f6)))
    (l6 : K.lookup f6 = some ⟨oc6, od6, .func (PySem.W.fnOf "is_whole" "is_whole" (defArgs s_is_whole) (defBody s_is_whole) (defScope s_is_whole) .none kV6 dc6 pm6 an6 cd6 ct6), sl6⟩) (c6 : PySem.W.codeIn K cd6 "is_whole" = true) (k6 : PySem.W.keepIn K (.ref f6) = true)
    {f7 : Addr} {od7 an7 : Option Addr} {sl7 : Array (Option Value)} {oc7 kV7 dc7 pm7 cd7 ct7 : Value}
    (a7 : PySem.W.nsIn K mainGlobals "is_length" = some (some (.ref f7)))
    (l7 : K.lookup f7 = some ⟨oc7, od7, .func (PySem.W.fnOf "is_length" "is_length" (defArgs s_is_length) (defBody s_is_length) (defScope s_is_length) .none kV7 dc7 pm7 an7 cd7 ct7), sl7⟩) (c7 : PySem.W.codeIn K cd7 "is_length" = true) (k7 : PySem.W.keepIn K (.ref f7) = true)
    {f8 : Addr} {od8 an8 : Option Addr} {sl8 : Array (Option Value)} {oc8 kV8 dc8 pm8 cd8 ct8 : Value}
    (a8 : PySem.W.nsIn K mainGlobals "is_rise" = some (some (.ref f8)))
    (l8 : K.lookup f8 = some ⟨oc8, od8, .func (PySem.W.fnOf "is_rise" "is_rise" (defArgs s_is_rise) (defBody s_is_rise) (defScope s_is_rise) .none kV8 dc8 pm8 an8 cd8 ct8), sl8⟩) (c8 : PySem.W.codeIn K cd8 "is_rise" = true) (k8 : PySem.W.keepIn K (.ref f8) = true)
    {f9 : Addr} {od9 an9 : Option Addr} {sl9 : Array (Option Value)} {oc9 kV9 dc9 pm9 cd9 ct9 : Value}
    (a9 : PySem.W.nsIn K mainGlobals "is_curve" = some (some (.ref f9)))
    (l9 : K.lookup f9 = some ⟨oc9, od9, .func (PySem.W.fnOf "is_curve" "is_curve" (defArgs s_is_curve) (defBody s_is_curve) (defScope s_is_curve) .none kV9 dc9 pm9 an9 cd9 ct9), sl9⟩) (c9 : PySem.W.codeIn K cd9 "is_curve" = true) (k9 : PySem.W.keepIn K (.ref f9) = true)
    {f10 : Addr} {od10 an10 : Option Addr} {sl10 : Array (Option Value)} {oc10 kV10 dc10 pm10 cd10 ct10 : Value}
    (a10 : PySem.W.nsIn K mainGlobals "is_points" = some (some (.ref f10)))
    (l10 : K.lookup f10 = some ⟨oc10, od10, .func (PySem.W.fnOf "is_points" "is_points" (defArgs s_is_points) (defBody s_is_points) (defScope s_is_points) .none kV10 dc10 pm10 an10 cd10 ct10), sl10⟩) (c10 : PySem.W.codeIn K cd10 "is_points" = true) (k10 : PySem.W.keepIn K (.ref f10) = true)
    {f11 : Addr} {od11 an11 : Option Addr} {sl11 : Array (Option Value)} {oc11 kV11 dc11 pm11 cd11 ct11 : Value}
    (a11 : PySem.W.nsIn K mainGlobals "is_cross" = some (some (.ref f11)))
    (l11 : K.lookup f11 = some ⟨oc11, od11, .func (PySem.W.fnOf "is_cross" "is_cross" (defArgs s_is_cross) (defBody s_is_cross) (defScope s_is_cross) .none kV11 dc11 pm11 an11 cd11 ct11), sl11⟩) (c11 : PySem.W.codeIn K cd11 "is_cross" = true) (k11 : PySem.W.keepIn K (.ref f11) = true)
    {f12 : Addr} {od12 an12 : Option Addr} {sl12 : Array (Option Value)} {oc12 kV12 dc12 pm12 cd12 ct12 : Value}
    (a12 : PySem.W.nsIn K mainGlobals "is_ramp" = some (some (.ref f12)))
    (l12 : K.lookup f12 = some ⟨oc12, od12, .func (PySem.W.fnOf "is_ramp" "is_ramp" (defArgs s_is_ramp) (defBody s_is_ramp) (defScope s_is_ramp) .none kV12 dc12 pm12 an12 cd12 ct12), sl12⟩) (c12 : PySem.W.codeIn K cd12 "is_ramp" = true) (k12 : PySem.W.keepIn K (.ref f12) = true)
    {f13 : Addr} {od13 an13 : Option Addr} {sl13 : Array (Option Value)} {oc13 kV13 dc13 pm13 cd13 ct13 : Value}
    (a13 : PySem.W.nsIn K mainGlobals "is_plain" = some (some (.ref f13)))
    (l13 : K.lookup f13 = some ⟨oc13, od13, .func (PySem.W.fnOf "is_plain" "is_plain" (defArgs s_is_plain) (defBody s_is_plain) (defScope s_is_plain) .none kV13 dc13 pm13 an13 cd13 ct13), sl13⟩) (c13 : PySem.W.codeIn K cd13 "is_plain" = true) (k13 : PySem.W.keepIn K (.ref f13) = true)
    {f14 : Addr} {od14 an14 : Option Addr} {sl14 : Array (Option Value)} {oc14 kV14 dc14 pm14 cd14 ct14 : Value}
    (a14 : PySem.W.nsIn K mainGlobals "is_piece" = some (some (.ref f14)))
    (l14 : K.lookup f14 = some ⟨oc14, od14, .func (PySem.W.fnOf "is_piece" "is_piece" (defArgs s_is_piece) (defBody s_is_piece) (defScope s_is_piece) .none kV14 dc14 pm14 an14 cd14 ct14), sl14⟩) (c14 : PySem.W.codeIn K cd14 "is_piece" = true) (k14 : PySem.W.keepIn K (.ref f14) = true)
    {f15 : Addr} {od15 an15 : Option Addr} {sl15 : Array (Option Value)} {oc15 kV15 dc15 pm15 cd15 ct15 : Value}
    (a15 : PySem.W.nsIn K mainGlobals "check_piece" = some (some (.ref f15)))
    (l15 : K.lookup f15 = some ⟨oc15, od15, .func (PySem.W.fnOf "check_piece" "check_piece" (defArgs s_check_piece) (defBody s_check_piece) (defScope s_check_piece) .none kV15 dc15 pm15 an15 cd15 ct15), sl15⟩) (c15 : PySem.W.codeIn K cd15 "check_piece" = true) (k15 : PySem.W.keepIn K (.ref f15) = true)
    {f16 : Addr} {od16 an16 : Option Addr} {sl16 : Array (Option Value)} {oc16 kV16 dc16 pm16 cd16 ct16 : Value}
    (a16 : PySem.W.nsIn K mainGlobals "end_count" = some (some (.ref f16)))
    (l16 : K.lookup f16 = some ⟨oc16, od16, .func (PySem.W.fnOf "end_count" "end_count" (defArgs s_end_count) (defBody s_end_count) (defScope s_end_count) .none kV16 dc16 pm16 an16 cd16 ct16), sl16⟩) (c16 : PySem.W.codeIn K cd16 "end_count" = true) (k16 : PySem.W.keepIn K (.ref f16) = true)
    {f17 : Addr} {od17 an17 : Option Addr} {sl17 : Array (Option Value)} {oc17 kV17 dc17 pm17 cd17 ct17 : Value}
    (a17 : PySem.W.nsIn K mainGlobals "check_end" = some (some (.ref f17)))
    (l17 : K.lookup f17 = some ⟨oc17, od17, .func (PySem.W.fnOf "check_end" "check_end" (defArgs s_check_end) (defBody s_check_end) (defScope s_check_end) .none kV17 dc17 pm17 an17 cd17 ct17), sl17⟩) (c17 : PySem.W.codeIn K cd17 "check_end" = true) (k17 : PySem.W.keepIn K (.ref f17) = true)
    {f18 : Addr} {od18 an18 : Option Addr} {sl18 : Array (Option Value)} {oc18 kV18 dc18 pm18 cd18 ct18 : Value}
    (a18 : PySem.W.nsIn K mainGlobals "curved_end" = some (some (.ref f18)))
    (l18 : K.lookup f18 = some ⟨oc18, od18, .func (PySem.W.fnOf "curved_end" "curved_end" (defArgs s_curved_end) (defBody s_curved_end) (defScope s_curved_end) .none kV18 dc18 pm18 an18 cd18 ct18), sl18⟩) (c18 : PySem.W.codeIn K cd18 "curved_end" = true) (k18 : PySem.W.keepIn K (.ref f18) = true)
    {f19 : Addr} {od19 an19 : Option Addr} {sl19 : Array (Option Value)} {oc19 kV19 dc19 pm19 cd19 ct19 : Value}
    (a19 : PySem.W.nsIn K mainGlobals "straight_end" = some (some (.ref f19)))
    (l19 : K.lookup f19 = some ⟨oc19, od19, .func (PySem.W.fnOf "straight_end" "straight_end" (defArgs s_straight_end) (defBody s_straight_end) (defScope s_straight_end) .none kV19 dc19 pm19 an19 cd19 ct19), sl19⟩) (c19 : PySem.W.codeIn K cd19 "straight_end" = true) (k19 : PySem.W.keepIn K (.ref f19) = true)
    {f20 : Addr} {od20 an20 : Option Addr} {sl20 : Array (Option Value)} {oc20 kV20 dc20 pm20 cd20 ct20 : Value}
    (a20 : PySem.W.nsIn K mainGlobals "cross_end" = some (some (.ref f20)))
    (l20 : K.lookup f20 = some ⟨oc20, od20, .func (PySem.W.fnOf "cross_end" "cross_end" (defArgs s_cross_end) (defBody s_cross_end) (defScope s_cross_end) .none kV20 dc20 pm20 an20 cd20 ct20), sl20⟩) (c20 : PySem.W.codeIn K cd20 "cross_end" = true) (k20 : PySem.W.keepIn K (.ref f20) = true)
    {f21 : Addr} {od21 an21 : Option Addr} {sl21 : Array (Option Value)} {oc21 kV21 dc21 pm21 cd21 ct21 : Value}
    (a21 : PySem.W.nsIn K mainGlobals "end_pose" = some (some (.ref f21)))
    (l21 : K.lookup f21 = some ⟨oc21, od21, .func (PySem.W.fnOf "end_pose" "end_pose" (defArgs s_end_pose) (defBody s_end_pose) (defScope s_end_pose) .none kV21 dc21 pm21 an21 cd21 ct21), sl21⟩) (c21 : PySem.W.codeIn K cd21 "end_pose" = true) (k21 : PySem.W.keepIn K (.ref f21) = true)
    {f22 : Addr} {od22 an22 : Option Addr} {sl22 : Array (Option Value)} {oc22 kV22 dc22 pm22 cd22 ct22 : Value}
    (a22 : PySem.W.nsIn K mainGlobals "is_item" = some (some (.ref f22)))
    (l22 : K.lookup f22 = some ⟨oc22, od22, .func (PySem.W.fnOf "is_item" "is_item" (defArgs s_is_item) (defBody s_is_item) (defScope s_is_item) .none kV22 dc22 pm22 an22 cd22 ct22), sl22⟩) (c22 : PySem.W.codeIn K cd22 "is_item" = true) (k22 : PySem.W.keepIn K (.ref f22) = true)
    {f23 : Addr} {od23 an23 : Option Addr} {sl23 : Array (Option Value)} {oc23 kV23 dc23 pm23 cd23 ct23 : Value}
    (a23 : PySem.W.nsIn K mainGlobals "circuit_sum" = some (some (.ref f23)))
    (l23 : K.lookup f23 = some ⟨oc23, od23, .func (PySem.W.fnOf "circuit_sum" "circuit_sum" (defArgs s_circuit_sum) (defBody s_circuit_sum) (defScope s_circuit_sum) .none kV23 dc23 pm23 an23 cd23 ct23), sl23⟩) (c23 : PySem.W.codeIn K cd23 "circuit_sum" = true) (k23 : PySem.W.keepIn K (.ref f23) = true)
    {f24 : Addr} {od24 an24 : Option Addr} {sl24 : Array (Option Value)} {oc24 kV24 dc24 pm24 cd24 ct24 : Value}
    (a24 : PySem.W.nsIn K mainGlobals "is_closed" = some (some (.ref f24)))
    (l24 : K.lookup f24 = some ⟨oc24, od24, .func (PySem.W.fnOf "is_closed" "is_closed" (defArgs s_is_closed) (defBody s_is_closed) (defScope s_is_closed) .none kV24 dc24 pm24 an24 cd24 ct24), sl24⟩) (c24 : PySem.W.codeIn K cd24 "is_closed" = true) (k24 : PySem.W.keepIn K (.ref f24) = true)
    {f25 : Addr} {od25 an25 : Option Addr} {sl25 : Array (Option Value)} {oc25 kV25 dc25 pm25 cd25 ct25 : Value}
    (a25 : PySem.W.nsIn K mainGlobals "straight_lengths" = some (some (.ref f25)))
    (l25 : K.lookup f25 = some ⟨oc25, od25, .func (PySem.W.fnOf "straight_lengths" "straight_lengths" (defArgs s_straight_lengths) (defBody s_straight_lengths) (defScope s_straight_lengths) .none kV25 dc25 pm25 an25 cd25 ct25), sl25⟩) (c25 : PySem.W.codeIn K cd25 "straight_lengths" = true) (k25 : PySem.W.keepIn K (.ref f25) = true)
    {f26 : Addr} {od26 an26 : Option Addr} {sl26 : Array (Option Value)} {oc26 kV26 dc26 pm26 cd26 ct26 : Value}
    (a26 : PySem.W.nsIn K mainGlobals "curved_items" = some (some (.ref f26)))
    (l26 : K.lookup f26 = some ⟨oc26, od26, .func (PySem.W.fnOf "curved_items" "curved_items" (defArgs s_curved_items) (defBody s_curved_items) (defScope s_curved_items) .none kV26 dc26 pm26 an26 cd26 ct26), sl26⟩) (c26 : PySem.W.codeIn K cd26 "curved_items" = true) (k26 : PySem.W.keepIn K (.ref f26) = true)
    {f27 : Addr} {od27 an27 : Option Addr} {sl27 : Array (Option Value)} {oc27 kV27 dc27 pm27 cd27 ct27 : Value}
    (a27 : PySem.W.nsIn K mainGlobals "uses_up" = some (some (.ref f27)))
    (l27 : K.lookup f27 = some ⟨oc27, od27, .func (PySem.W.fnOf "uses_up" "uses_up" (defArgs s_uses_up) (defBody s_uses_up) (defScope s_uses_up) .none kV27 dc27 pm27 an27 cd27 ct27), sl27⟩) (c27 : PySem.W.codeIn K cd27 "uses_up" = true) (k27 : PySem.W.keepIn K (.ref f27) = true)
    {f28 : Addr} {od28 an28 : Option Addr} {sl28 : Array (Option Value)} {oc28 kV28 dc28 pm28 cd28 ct28 : Value}
    (a28 : PySem.W.nsIn K mainGlobals "is_halved" = some (some (.ref f28)))
    (l28 : K.lookup f28 = some ⟨oc28, od28, .func (PySem.W.fnOf "is_halved" "is_halved" (defArgs s_is_halved) (defBody s_is_halved) (defScope s_is_halved) .none kV28 dc28 pm28 an28 cd28 ct28), sl28⟩) (c28 : PySem.W.codeIn K cd28 "is_halved" = true) (k28 : PySem.W.keepIn K (.ref f28) = true)
    {f29 : Addr} {od29 an29 : Option Addr} {sl29 : Array (Option Value)} {oc29 kV29 dc29 pm29 cd29 ct29 : Value}
    (a29 : PySem.W.nsIn K mainGlobals "is_round" = some (some (.ref f29)))
    (l29 : K.lookup f29 = some ⟨oc29, od29, .func (PySem.W.fnOf "is_round" "is_round" (defArgs s_is_round) (defBody s_is_round) (defScope s_is_round) .none kV29 dc29 pm29 an29 cd29 ct29), sl29⟩) (c29 : PySem.W.codeIn K cd29 "is_round" = true) (k29 : PySem.W.keepIn K (.ref f29) = true)
    {f30 : Addr} {od30 an30 : Option Addr} {sl30 : Array (Option Value)} {oc30 kV30 dc30 pm30 cd30 ct30 : Value}
    (a30 : PySem.W.nsIn K mainGlobals "carries_on" = some (some (.ref f30)))
    (l30 : K.lookup f30 = some ⟨oc30, od30, .func (PySem.W.fnOf "carries_on" "carries_on" (defArgs s_carries_on) (defBody s_carries_on) (defScope s_carries_on) .none kV30 dc30 pm30 an30 cd30 ct30), sl30⟩) (c30 : PySem.W.codeIn K cd30 "carries_on" = true) (k30 : PySem.W.keepIn K (.ref f30) = true)
    {f31 : Addr} {od31 an31 : Option Addr} {sl31 : Array (Option Value)} {oc31 kV31 dc31 pm31 cd31 ct31 : Value}
    (a31 : PySem.W.nsIn K mainGlobals "carries_all" = some (some (.ref f31)))
    (l31 : K.lookup f31 = some ⟨oc31, od31, .func (PySem.W.fnOf "carries_all" "carries_all" (defArgs s_carries_all) (defBody s_carries_all) (defScope s_carries_all) .none kV31 dc31 pm31 an31 cd31 ct31), sl31⟩) (c31 : PySem.W.codeIn K cd31 "carries_all" = true) (k31 : PySem.W.keepIn K (.ref f31) = true)
    {f32 : Addr} {od32 an32 : Option Addr} {sl32 : Array (Option Value)} {oc32 kV32 dc32 pm32 cd32 ct32 : Value}
    (a32 : PySem.W.nsIn K mainGlobals "shows_unequal" = some (some (.ref f32)))
    (l32 : K.lookup f32 = some ⟨oc32, od32, .func (PySem.W.fnOf "shows_unequal" "shows_unequal" (defArgs s_shows_unequal) (defBody s_shows_unequal) (defScope s_shows_unequal) .none kV32 dc32 pm32 an32 cd32 ct32), sl32⟩) (c32 : PySem.W.codeIn K cd32 "shows_unequal" = true) (k32 : PySem.W.keepIn K (.ref f32) = true)
    {f33 : Addr} {od33 an33 : Option Addr} {sl33 : Array (Option Value)} {oc33 kV33 dc33 pm33 cd33 ct33 : Value}
    (a33 : PySem.W.nsIn K mainGlobals "judge_round" = some (some (.ref f33)))
    (l33 : K.lookup f33 = some ⟨oc33, od33, .func (PySem.W.fnOf "judge_round" "judge_round" (defArgs s_judge_round) (defBody s_judge_round) (defScope s_judge_round) .none kV33 dc33 pm33 an33 cd33 ct33), sl33⟩) (c33 : PySem.W.codeIn K cd33 "judge_round" = true) (k33 : PySem.W.keepIn K (.ref f33) = true)
    {f34 : Addr} {od34 an34 : Option Addr} {sl34 : Array (Option Value)} {oc34 kV34 dc34 pm34 cd34 ct34 : Value}
    (a34 : PySem.W.nsIn K mainGlobals "_law_cell" = some (some (.ref f34)))
    (l34 : K.lookup f34 = some ⟨oc34, od34, .func (PySem.W.fnOf "_law_cell" "_law_cell" (defArgs s_law_cell) (defBody s_law_cell) (defScope s_law_cell) .none kV34 dc34 pm34 an34 cd34 ct34), sl34⟩) (c34 : PySem.W.codeIn K cd34 "_law_cell" = true) (k34 : PySem.W.keepIn K (.ref f34) = true)
    {f35 : Addr} {od35 an35 : Option Addr} {sl35 : Array (Option Value)} {oc35 kV35 dc35 pm35 cd35 ct35 : Value}
    (a35 : PySem.W.nsIn K mainGlobals "_law_numbers" = some (some (.ref f35)))
    (l35 : K.lookup f35 = some ⟨oc35, od35, .func (PySem.W.fnOf "_law_numbers" "_law_numbers" (defArgs s_law_numbers) (defBody s_law_numbers) (defScope s_law_numbers) .none kV35 dc35 pm35 an35 cd35 ct35), sl35⟩) (c35 : PySem.W.codeIn K cd35 "_law_numbers" = true) (k35 : PySem.W.keepIn K (.ref f35) = true)
    {f36 : Addr} {od36 an36 : Option Addr} {sl36 : Array (Option Value)} {oc36 kV36 dc36 pm36 cd36 ct36 : Value}
    (a36 : PySem.W.nsIn K mainGlobals "_law_size" = some (some (.ref f36)))
    (l36 : K.lookup f36 = some ⟨oc36, od36, .func (PySem.W.fnOf "_law_size" "_law_size" (defArgs s_law_size) (defBody s_law_size) (defScope s_law_size) .none kV36 dc36 pm36 an36 cd36 ct36), sl36⟩) (c36 : PySem.W.codeIn K cd36 "_law_size" = true) (k36 : PySem.W.keepIn K (.ref f36) = true)
    {f37 : Addr} {od37 an37 : Option Addr} {sl37 : Array (Option Value)} {oc37 kV37 dc37 pm37 cd37 ct37 : Value}
    (a37 : PySem.W.nsIn K mainGlobals "_law_straights" = some (some (.ref f37)))
    (l37 : K.lookup f37 = some ⟨oc37, od37, .func (PySem.W.fnOf "_law_straights" "_law_straights" (defArgs s_law_straights) (defBody s_law_straights) (defScope s_law_straights) .none kV37 dc37 pm37 an37 cd37 ct37), sl37⟩) (c37 : PySem.W.codeIn K cd37 "_law_straights" = true) (k37 : PySem.W.keepIn K (.ref f37) = true)
    {f38 : Addr} {od38 an38 : Option Addr} {sl38 : Array (Option Value)} {oc38 kV38 dc38 pm38 cd38 ct38 : Value}
    (a38 : PySem.W.nsIn K mainGlobals "_law_sums" = some (some (.ref f38)))
    (l38 : K.lookup f38 = some ⟨oc38, od38, .func (PySem.W.fnOf "_law_sums" "_law_sums" (defArgs s_law_sums) (defBody s_law_sums) (defScope s_law_sums) .none kV38 dc38 pm38 an38 cd38 ct38), sl38⟩) (c38 : PySem.W.codeIn K cd38 "_law_sums" = true) (k38 : PySem.W.keepIn K (.ref f38) = true)
    {f39 : Addr} {od39 an39 : Option Addr} {sl39 : Array (Option Value)} {oc39 kV39 dc39 pm39 cd39 ct39 : Value}
    (a39 : PySem.W.nsIn K mainGlobals "_law_accepted" = some (some (.ref f39)))
    (l39 : K.lookup f39 = some ⟨oc39, od39, .func (PySem.W.fnOf "_law_accepted" "_law_accepted" (defArgs s_law_accepted) (defBody s_law_accepted) (defScope s_law_accepted) .none kV39 dc39 pm39 an39 cd39 ct39), sl39⟩) (c39 : PySem.W.codeIn K cd39 "_law_accepted" = true) (k39 : PySem.W.keepIn K (.ref f39) = true)
    {f40 : Addr} {od40 an40 : Option Addr} {sl40 : Array (Option Value)} {oc40 kV40 dc40 pm40 cd40 ct40 : Value}
    (a40 : PySem.W.nsIn K mainGlobals "_law_carried" = some (some (.ref f40)))
    (l40 : K.lookup f40 = some ⟨oc40, od40, .func (PySem.W.fnOf "_law_carried" "_law_carried" (defArgs s_law_carried) (defBody s_law_carried) (defScope s_law_carried) .none kV40 dc40 pm40 an40 cd40 ct40), sl40⟩) (c40 : PySem.W.codeIn K cd40 "_law_carried" = true) (k40 : PySem.W.keepIn K (.ref f40) = true)
    {f41 : Addr} {od41 an41 : Option Addr} {sl41 : Array (Option Value)} {oc41 kV41 dc41 pm41 cd41 ct41 : Value}
    (a41 : PySem.W.nsIn K mainGlobals "_law_with" = some (some (.ref f41)))
    (l41 : K.lookup f41 = some ⟨oc41, od41, .func (PySem.W.fnOf "_law_with" "_law_with" (defArgs s_law_with) (defBody s_law_with) (defScope s_law_with) .none kV41 dc41 pm41 an41 cd41 ct41), sl41⟩) (c41 : PySem.W.codeIn K cd41 "_law_with" = true) (k41 : PySem.W.keepIn K (.ref f41) = true)
    {f42 : Addr} {od42 an42 : Option Addr} {sl42 : Array (Option Value)} {oc42 kV42 dc42 pm42 cd42 ct42 : Value}
    (a42 : PySem.W.nsIn K mainGlobals "_law_variants" = some (some (.ref f42)))
    (l42 : K.lookup f42 = some ⟨oc42, od42, .func (PySem.W.fnOf "_law_variants" "_law_variants" (defArgs s_law_variants) (defBody s_law_variants) (defScope s_law_variants) .none kV42 dc42 pm42 an42 cd42 ct42), sl42⟩) (c42 : PySem.W.codeIn K cd42 "_law_variants" = true) (k42 : PySem.W.keepIn K (.ref f42) = true)
    {f43 : Addr} {od43 an43 : Option Addr} {sl43 : Array (Option Value)} {oc43 kV43 dc43 pm43 cd43 ct43 : Value}
    (a43 : PySem.W.nsIn K mainGlobals "law" = some (some (.ref f43)))
    (l43 : K.lookup f43 = some ⟨oc43, od43, .func (PySem.W.fnOf "law" "law" (defArgs s_law) (defBody s_law) (defScope s_law) .none kV43 dc43 pm43 an43 cd43 ct43), sl43⟩) (c43 : PySem.W.codeIn K cd43 "law" = true) (k43 : PySem.W.keepIn K (.ref f43) = true)
    (z_abs : PySem.W.nsIn K mainGlobals "abs" = some none)
    (z_all : PySem.W.nsIn K mainGlobals "all" = some none)
    (z_bool : PySem.W.nsIn K mainGlobals "bool" = some none)
    (z_enumerate : PySem.W.nsIn K mainGlobals "enumerate" = some none)
    (z_int : PySem.W.nsIn K mainGlobals "int" = some none)
    (z_isinstance : PySem.W.nsIn K mainGlobals "isinstance" = some none)
    (z_len : PySem.W.nsIn K mainGlobals "len" = some none)
    (z_list : PySem.W.nsIn K mainGlobals "list" = some none)
    (z_range : PySem.W.nsIn K mainGlobals "range" = some none)
    (z_reversed : PySem.W.nsIn K mainGlobals "reversed" = some none)
    (z_set : PySem.W.nsIn K mainGlobals "set" = some none)
    (z_sorted : PySem.W.nsIn K mainGlobals "sorted" = some none)
    (z_sum : PySem.W.nsIn K mainGlobals "sum" = some none)
    (z_tuple : PySem.W.nsIn K mainGlobals "tuple" = some none)
    {x_InvalidPiece : Addr} (ax_InvalidPiece : PySem.W.nsIn K mainGlobals "InvalidPiece" = some (some (.ref x_InvalidPiece)))
    (xx_InvalidPiece : PySem.W.excIn K x_InvalidPiece [.type "ValueError", .type "Exception", .type "BaseException", .type "object"] "ValueError.__new__" = true) (xk_InvalidPiece : PySem.W.keepIn K (.ref x_InvalidPiece) = true) (xb_InvalidPiece : PySem.W.subIn K (.ref x_InvalidPiece) (.type "BaseException") = some true) (xt_InvalidPiece : PySem.W.typeIn K (.ref x_InvalidPiece) = some (.type "type"))
    {x_NoSuchEnd : Addr} (ax_NoSuchEnd : PySem.W.nsIn K mainGlobals "NoSuchEnd" = some (some (.ref x_NoSuchEnd)))
    (xx_NoSuchEnd : PySem.W.excIn K x_NoSuchEnd [.type "ValueError", .type "Exception", .type "BaseException", .type "object"] "ValueError.__new__" = true) (xk_NoSuchEnd : PySem.W.keepIn K (.ref x_NoSuchEnd) = true) (xb_NoSuchEnd : PySem.W.subIn K (.ref x_NoSuchEnd) (.type "BaseException") = some true) (xt_NoSuchEnd : PySem.W.typeIn K (.ref x_NoSuchEnd) = some (.type "type"))
    (xc_InvalidPiece : ExcC K x_InvalidPiece)
    (xc_NoSuchEnd : ExcC K x_NoSuchEnd)
    (xd_InvalidPiece : PySem.W.hasDictIn K x_InvalidPiece = true)
    (xs_InvalidPiece_InvalidPiece : PySem.W.subIn K (.ref x_InvalidPiece) (.ref x_InvalidPiece) = some true)
    (xs_InvalidPiece_NoSuchEnd : PySem.W.subIn K (.ref x_NoSuchEnd) (.ref x_InvalidPiece) = some false)
    (v_DIRECTIONS : PySem.W.nsIn K mainGlobals "DIRECTIONS" = some (some (.int (8) tk1)))
    (v_ORIGIN : PySem.W.nsIn K mainGlobals "ORIGIN" = some (some (.ref q2)))
    (t2 : K.lookup q2 = some ⟨.type "tuple", dd2, .seq #[(.int (0) tk3), (.int (0) tk4), (.int (0) tk5), (.int (0) tk6)] nn2, ss2⟩)
    (v_UNIT : PySem.W.nsIn K mainGlobals "UNIT" = some (some (.ref q7)))
    (t7 : K.lookup q7 = some ⟨.type "tuple", dd7, .seq #[(.ref q2), (.int (0) tk8)] nn7, ss7⟩)
    (v_MOST_LENGTH : PySem.W.nsIn K mainGlobals "MOST_LENGTH" = some (some (.int (9999) tk9)))
    (v_MOST_RISE : PySem.W.nsIn K mainGlobals "MOST_RISE" = some (some (.int (99) tk10)))
    (v_SIDES : PySem.W.nsIn K mainGlobals "SIDES" = some (some (.ref q11)))
    (t11 : K.lookup q11 = some ⟨.type "tuple", dd11, .seq #[(.str "left" tk12), (.str "right" tk13)] nn11, ss11⟩)
    (v_BACK_END : PySem.W.nsIn K mainGlobals "BACK_END" = some (some (.ref q14)))
    (t14 : K.lookup q14 = some ⟨.type "tuple", dd14, .seq #[(.ref q15), (.int (4) tk20)] nn14, ss14⟩)
    (t15 : K.lookup q15 = some ⟨.type "tuple", dd15, .seq #[(.int (0) tk16), (.int (0) tk17), (.int (0) tk18), (.int (0) tk19)] nn15, ss15⟩)
    (v_ROUND_CURVES : PySem.W.nsIn K mainGlobals "ROUND_CURVES" = some (some (.int (8) tk21)))
    (v_ITEM_WORDS : PySem.W.nsIn K mainGlobals "ITEM_WORDS" = some (some (.ref q22)))
    (t22 : K.lookup q22 = some ⟨.type "tuple", dd22, .seq #[(.str "straight" tk23), (.str "curve" tk24)] nn22, ss22⟩)
    (hkn : kTups K csK = true) : ∃ T : Txt K mg, T.f_law = f43 ∧ ∀ (s : Shared) (v : Value), BindsTo s T.d_law ⟨[v], []⟩ [("script", v)] :=
  ⟨{ f_spot_sum := f1, d_spot_sum := _, F_spot_sum := fun_mk (st := s_spot_sum) l1 c1 k1, g_spot_sum := PySem.W.mg_of X G a1, B_spot_sum := ((fun_mk (st := s_spot_sum) l1 c1 k1).binds fun _ _ _ _ _ _ us hl => match us, hl with | [_, _], _ => rfl),
        f_eighth_turned := f2, d_eighth_turned := _, F_eighth_turned := fun_mk (st := s_eighth_turned) l2 c2 k2, g_eighth_turned := PySem.W.mg_of X G a2, B_eighth_turned := ((fun_mk (st := s_eighth_turned) l2 c2 k2).binds fun _ _ _ _ _ _ us hl => match us, hl with | [_], _ => rfl),
        f_spot_turned := f3, d_spot_turned := _, F_spot_turned := fun_mk (st := s_spot_turned) l3 c3 k3, g_spot_turned := PySem.W.mg_of X G a3, B_spot_turned := ((fun_mk (st := s_spot_turned) l3 c3 k3).binds fun _ _ _ _ _ _ us hl => match us, hl with | [_, _], _ => rfl),
        f_ray := f4, d_ray := _, F_ray := fun_mk (st := s_ray) l4 c4 k4, g_ray := PySem.W.mg_of X G a4, B_ray := ((fun_mk (st := s_ray) l4 c4 k4).binds fun _ _ _ _ _ _ us hl => match us, hl with | [_, _], _ => rfl),
        f_pose_product := f5, d_pose_product := _, F_pose_product := fun_mk (st := s_pose_product) l5 c5 k5, g_pose_product := PySem.W.mg_of X G a5, B_pose_product := ((fun_mk (st := s_pose_product) l5 c5 k5).binds fun _ _ _ _ _ _ us hl => match us, hl with | [_, _], _ => rfl),
        f_is_whole := f6, d_is_whole := _, F_is_whole := fun_mk (st := s_is_whole) l6 c6 k6, g_is_whole := PySem.W.mg_of X G a6, B_is_whole := ((fun_mk (st := s_is_whole) l6 c6 k6).binds fun _ _ _ _ _ _ us hl => match us, hl with | [_], _ => rfl),
        f_is_length := f7, d_is_length := _, F_is_length := fun_mk (st := s_is_length) l7 c7 k7, g_is_length := PySem.W.mg_of X G a7, B_is_length := ((fun_mk (st := s_is_length) l7 c7 k7).binds fun _ _ _ _ _ _ us hl => match us, hl with | [_], _ => rfl),
        f_is_rise := f8, d_is_rise := _, F_is_rise := fun_mk (st := s_is_rise) l8 c8 k8, g_is_rise := PySem.W.mg_of X G a8, B_is_rise := ((fun_mk (st := s_is_rise) l8 c8 k8).binds fun _ _ _ _ _ _ us hl => match us, hl with | [_], _ => rfl),
        f_is_curve := f9, d_is_curve := _, F_is_curve := fun_mk (st := s_is_curve) l9 c9 k9, g_is_curve := PySem.W.mg_of X G a9, B_is_curve := ((fun_mk (st := s_is_curve) l9 c9 k9).binds fun _ _ _ _ _ _ us hl => match us, hl with | [_], _ => rfl),
        f_is_points := f10, d_is_points := _, F_is_points := fun_mk (st := s_is_points) l10 c10 k10, g_is_points := PySem.W.mg_of X G a10, B_is_points := ((fun_mk (st := s_is_points) l10 c10 k10).binds fun _ _ _ _ _ _ us hl => match us, hl with | [_], _ => rfl),
        f_is_cross := f11, d_is_cross := _, F_is_cross := fun_mk (st := s_is_cross) l11 c11 k11, g_is_cross := PySem.W.mg_of X G a11, B_is_cross := ((fun_mk (st := s_is_cross) l11 c11 k11).binds fun _ _ _ _ _ _ us hl => match us, hl with | [_], _ => rfl),
        f_is_ramp := f12, d_is_ramp := _, F_is_ramp := fun_mk (st := s_is_ramp) l12 c12 k12, g_is_ramp := PySem.W.mg_of X G a12, B_is_ramp := ((fun_mk (st := s_is_ramp) l12 c12 k12).binds fun _ _ _ _ _ _ us hl => match us, hl with | [_], _ => rfl),
        f_is_plain := f13, d_is_plain := _, F_is_plain := fun_mk (st := s_is_plain) l13 c13 k13, g_is_plain := PySem.W.mg_of X G a13, B_is_plain := ((fun_mk (st := s_is_plain) l13 c13 k13).binds fun _ _ _ _ _ _ us hl => match us, hl with | [_], _ => rfl),
        f_is_piece := f14, d_is_piece := _, F_is_piece := fun_mk (st := s_is_piece) l14 c14 k14, g_is_piece := PySem.W.mg_of X G a14, B_is_piece := ((fun_mk (st := s_is_piece) l14 c14 k14).binds fun _ _ _ _ _ _ us hl => match us, hl with | [_], _ => rfl),
        f_check_piece := f15, d_check_piece := _, F_check_piece := fun_mk (st := s_check_piece) l15 c15 k15, g_check_piece := PySem.W.mg_of X G a15, B_check_piece := ((fun_mk (st := s_check_piece) l15 c15 k15).binds fun _ _ _ _ _ _ us hl => match us, hl with | [_], _ => rfl),
        f_end_count := f16, d_end_count := _, F_end_count := fun_mk (st := s_end_count) l16 c16 k16, g_end_count := PySem.W.mg_of X G a16, B_end_count := ((fun_mk (st := s_end_count) l16 c16 k16).binds fun _ _ _ _ _ _ us hl => match us, hl with | [_], _ => rfl),
        f_check_end := f17, d_check_end := _, F_check_end := fun_mk (st := s_check_end) l17 c17 k17, g_check_end := PySem.W.mg_of X G a17, B_check_end := ((fun_mk (st := s_check_end) l17 c17 k17).binds fun _ _ _ _ _ _ us hl => match us, hl with | [_, _], _ => rfl),
        f_curved_end := f18, d_curved_end := _, F_curved_end := fun_mk (st := s_curved_end) l18 c18 k18, g_curved_end := PySem.W.mg_of X G a18, B_curved_end := ((fun_mk (st := s_curved_end) l18 c18 k18).binds fun _ _ _ _ _ _ us hl => match us, hl with | [_, _], _ => rfl),
        f_straight_end := f19, d_straight_end := _, F_straight_end := fun_mk (st := s_straight_end) l19 c19 k19, g_straight_end := PySem.W.mg_of X G a19, B_straight_end := ((fun_mk (st := s_straight_end) l19 c19 k19).binds fun _ _ _ _ _ _ us hl => match us, hl with | [_], _ => rfl),
        f_cross_end := f20, d_cross_end := _, F_cross_end := fun_mk (st := s_cross_end) l20 c20 k20, g_cross_end := PySem.W.mg_of X G a20, B_cross_end := ((fun_mk (st := s_cross_end) l20 c20 k20).binds fun _ _ _ _ _ _ us hl => match us, hl with | [_, _, _], _ => rfl),
        f_end_pose := f21, d_end_pose := _, F_end_pose := fun_mk (st := s_end_pose) l21 c21 k21, g_end_pose := PySem.W.mg_of X G a21, B_end_pose := ((fun_mk (st := s_end_pose) l21 c21 k21).binds fun _ _ _ _ _ _ us hl => match us, hl with | [_, _], _ => rfl),
        f_is_item := f22, d_is_item := _, F_is_item := fun_mk (st := s_is_item) l22 c22 k22, g_is_item := PySem.W.mg_of X G a22, B_is_item := ((fun_mk (st := s_is_item) l22 c22 k22).binds fun _ _ _ _ _ _ us hl => match us, hl with | [_], _ => rfl),
        f_circuit_sum := f23, d_circuit_sum := _, F_circuit_sum := fun_mk (st := s_circuit_sum) l23 c23 k23, g_circuit_sum := PySem.W.mg_of X G a23, B_circuit_sum := ((fun_mk (st := s_circuit_sum) l23 c23 k23).binds fun _ _ _ _ _ _ us hl => match us, hl with | [_], _ => rfl),
        f_is_closed := f24, d_is_closed := _, F_is_closed := fun_mk (st := s_is_closed) l24 c24 k24, g_is_closed := PySem.W.mg_of X G a24, B_is_closed := ((fun_mk (st := s_is_closed) l24 c24 k24).binds fun _ _ _ _ _ _ us hl => match us, hl with | [_], _ => rfl),
        f_straight_lengths := f25, d_straight_lengths := _, F_straight_lengths := fun_mk (st := s_straight_lengths) l25 c25 k25, g_straight_lengths := PySem.W.mg_of X G a25, B_straight_lengths := ((fun_mk (st := s_straight_lengths) l25 c25 k25).binds fun _ _ _ _ _ _ us hl => match us, hl with | [_], _ => rfl),
        f_curved_items := f26, d_curved_items := _, F_curved_items := fun_mk (st := s_curved_items) l26 c26 k26, g_curved_items := PySem.W.mg_of X G a26, B_curved_items := ((fun_mk (st := s_curved_items) l26 c26 k26).binds fun _ _ _ _ _ _ us hl => match us, hl with | [_], _ => rfl),
        f_uses_up := f27, d_uses_up := _, F_uses_up := fun_mk (st := s_uses_up) l27 c27 k27, g_uses_up := PySem.W.mg_of X G a27, B_uses_up := ((fun_mk (st := s_uses_up) l27 c27 k27).binds fun _ _ _ _ _ _ us hl => match us, hl with | [_, _], _ => rfl),
        f_is_halved := f28, d_is_halved := _, F_is_halved := fun_mk (st := s_is_halved) l28 c28 k28, g_is_halved := PySem.W.mg_of X G a28, B_is_halved := ((fun_mk (st := s_is_halved) l28 c28 k28).binds fun _ _ _ _ _ _ us hl => match us, hl with | [_, _], _ => rfl),
        f_is_round := f29, d_is_round := _, F_is_round := fun_mk (st := s_is_round) l29 c29 k29, g_is_round := PySem.W.mg_of X G a29, B_is_round := ((fun_mk (st := s_is_round) l29 c29 k29).binds fun _ _ _ _ _ _ us hl => match us, hl with | [_, _], _ => rfl),
        f_carries_on := f30, d_carries_on := _, F_carries_on := fun_mk (st := s_carries_on) l30 c30 k30, g_carries_on := PySem.W.mg_of X G a30, B_carries_on := ((fun_mk (st := s_carries_on) l30 c30 k30).binds fun _ _ _ _ _ _ us hl => match us, hl with | [_, _, _], _ => rfl),
        f_carries_all := f31, d_carries_all := _, F_carries_all := fun_mk (st := s_carries_all) l31 c31 k31, g_carries_all := PySem.W.mg_of X G a31, B_carries_all := ((fun_mk (st := s_carries_all) l31 c31 k31).binds fun _ _ _ _ _ _ us hl => match us, hl with | [_, _], _ => rfl),
        f_shows_unequal := f32, d_shows_unequal := _, F_shows_unequal := fun_mk (st := s_shows_unequal) l32 c32 k32, g_shows_unequal := PySem.W.mg_of X G a32, B_shows_unequal := ((fun_mk (st := s_shows_unequal) l32 c32 k32).binds fun _ _ _ _ _ _ us hl => match us, hl with | [_, _], _ => rfl),
        f_judge_round := f33, d_judge_round := _, F_judge_round := fun_mk (st := s_judge_round) l33 c33 k33, g_judge_round := PySem.W.mg_of X G a33, B_judge_round := ((fun_mk (st := s_judge_round) l33 c33 k33).binds fun _ _ _ _ _ _ us hl => match us, hl with | [_, _], _ => rfl),
        f__law_cell := f34, d__law_cell := _, F__law_cell := fun_mk (st := s_law_cell) l34 c34 k34, g__law_cell := PySem.W.mg_of X G a34, B__law_cell := ((fun_mk (st := s_law_cell) l34 c34 k34).binds fun _ _ _ _ _ _ us hl => match us, hl with | [_, _], _ => rfl),
        f__law_numbers := f35, d__law_numbers := _, F__law_numbers := fun_mk (st := s_law_numbers) l35 c35 k35, g__law_numbers := PySem.W.mg_of X G a35, B__law_numbers := ((fun_mk (st := s_law_numbers) l35 c35 k35).binds fun _ _ _ _ _ _ us hl => match us, hl with | [_, _, _], _ => rfl),
        f__law_size := f36, d__law_size := _, F__law_size := fun_mk (st := s_law_size) l36 c36 k36, g__law_size := PySem.W.mg_of X G a36, B__law_size := ((fun_mk (st := s_law_size) l36 c36 k36).binds fun _ _ _ _ _ _ us hl => match us, hl with | [_], _ => rfl),
        f__law_straights := f37, d__law_straights := _, F__law_straights := fun_mk (st := s_law_straights) l37 c37 k37, g__law_straights := PySem.W.mg_of X G a37, B__law_straights := ((fun_mk (st := s_law_straights) l37 c37 k37).binds fun _ _ _ _ _ _ us hl => match us, hl with | [_, _, _], _ => rfl),
        f__law_sums := f38, d__law_sums := _, F__law_sums := fun_mk (st := s_law_sums) l38 c38 k38, g__law_sums := PySem.W.mg_of X G a38, B__law_sums := ((fun_mk (st := s_law_sums) l38 c38 k38).binds fun _ _ _ _ _ _ us hl => match us, hl with | [_], _ => rfl),
        f__law_accepted := f39, d__law_accepted := _, F__law_accepted := fun_mk (st := s_law_accepted) l39 c39 k39, g__law_accepted := PySem.W.mg_of X G a39, B__law_accepted := ((fun_mk (st := s_law_accepted) l39 c39 k39).binds fun _ _ _ _ _ _ us hl => match us, hl with | [_, _], _ => rfl),
        f__law_carried := f40, d__law_carried := _, F__law_carried := fun_mk (st := s_law_carried) l40 c40 k40, g__law_carried := PySem.W.mg_of X G a40, B__law_carried := ((fun_mk (st := s_law_carried) l40 c40 k40).binds fun _ _ _ _ _ _ us hl => match us, hl with | [_, _, _, _], _ => rfl),
        f__law_with := f41, d__law_with := _, F__law_with := fun_mk (st := s_law_with) l41 c41 k41, g__law_with := PySem.W.mg_of X G a41, B__law_with := ((fun_mk (st := s_law_with) l41 c41 k41).binds fun _ _ _ _ _ _ us hl => match us, hl with | [_, _, _], _ => rfl),
        f__law_variants := f42, d__law_variants := _, F__law_variants := fun_mk (st := s_law_variants) l42 c42 k42, g__law_variants := PySem.W.mg_of X G a42, B__law_variants := ((fun_mk (st := s_law_variants) l42 c42 k42).binds fun _ _ _ _ _ _ us hl => match us, hl with | [_, _, _], _ => rfl),
        f_law := f43, d_law := _, F_law := fun_mk (st := s_law) l43 c43 k43, g_law := PySem.W.mg_of X G a43, B_law := ((fun_mk (st := s_law) l43 c43 k43).binds fun _ _ _ _ _ _ us hl => match us, hl with | [_], _ => rfl),
        b_abs := PySem.W.mg_none_of X G z_abs,
        b_all := PySem.W.mg_none_of X G z_all,
        b_bool := PySem.W.mg_none_of X G z_bool,
        b_enumerate := PySem.W.mg_none_of X G z_enumerate,
        b_int := PySem.W.mg_none_of X G z_int,
        b_isinstance := PySem.W.mg_none_of X G z_isinstance,
        b_len := PySem.W.mg_none_of X G z_len,
        b_list := PySem.W.mg_none_of X G z_list,
        b_range := PySem.W.mg_none_of X G z_range,
        b_reversed := PySem.W.mg_none_of X G z_reversed,
        b_set := PySem.W.mg_none_of X G z_set,
        b_sorted := PySem.W.mg_none_of X G z_sorted,
        b_sum := PySem.W.mg_none_of X G z_sum,
        b_tuple := PySem.W.mg_none_of X G z_tuple,
        x_InvalidPiece := x_InvalidPiece, E_InvalidPiece := ⟨xx_InvalidPiece, PySem.W.mg_of X G ax_InvalidPiece, xk_InvalidPiece, xb_InvalidPiece, xt_InvalidPiece⟩,
        x_NoSuchEnd := x_NoSuchEnd, E_NoSuchEnd := ⟨xx_NoSuchEnd, PySem.W.mg_of X G ax_NoSuchEnd, xk_NoSuchEnd, xb_NoSuchEnd, xt_NoSuchEnd⟩,
        h_InvalidPiece := ⟨⟨.ref x_InvalidPiece, PySem.W.mg_of X G ax_InvalidPiece, tab_of (P := fun cn b => ∃ C, mg cn = some (.ref C) ∧ PySem.W.exmOne K (.ref C) (.ref x_InvalidPiece) = some b) (List.forall_mem_cons.mpr ⟨⟨x_InvalidPiece, PySem.W.mg_of X G ax_InvalidPiece, PySem.W.exm_ref xb_InvalidPiece xd_InvalidPiece xt_InvalidPiece xs_InvalidPiece_InvalidPiece⟩, (List.forall_mem_cons.mpr ⟨⟨x_NoSuchEnd, PySem.W.mg_of X G ax_NoSuchEnd, PySem.W.exm_ref xb_InvalidPiece xd_InvalidPiece xt_InvalidPiece xs_InvalidPiece_NoSuchEnd⟩, (fun _ h => absurd h List.not_mem_nil)⟩)⟩)⟩⟩,
        c_DIRECTIONS := ⟨_, (V.int (8)), PySem.W.mg_of X G v_DIRECTIONS, ⟨_, rfl⟩, (fun _ => .int _)⟩,
        c_UNIT := ⟨_, (V.ref q7), PySem.W.mg_of X G v_UNIT, rfl, (is_ktup (vs := [(V.ref q2), (V.int (0))]) t7 (Nat.le_of_ble_eq_true rfl) (.cons rfl (.cons ⟨_, rfl⟩ .nil)) (fun H => (.cons ((is_ktup (vs := [(V.int (0)), (V.int (0)), (V.int (0)), (V.int (0))]) t2 (Nat.le_of_ble_eq_true rfl) (.cons ⟨_, rfl⟩ (.cons ⟨_, rfl⟩ (.cons ⟨_, rfl⟩ (.cons ⟨_, rfl⟩ .nil)))) (fun H => (.cons ((fun _ => .int _) H) (.cons ((fun _ => .int _) H) (.cons ((fun _ => .int _) H) (.cons ((fun _ => .int _) H) .nil)))))) H) (.cons ((fun _ => .int _) H) .nil))))⟩,
        c_MOST_LENGTH := ⟨_, (V.int (9999)), PySem.W.mg_of X G v_MOST_LENGTH, ⟨_, rfl⟩, (fun _ => .int _)⟩,
        c_MOST_RISE := ⟨_, (V.int (99)), PySem.W.mg_of X G v_MOST_RISE, ⟨_, rfl⟩, (fun _ => .int _)⟩,
        c_SIDES := ⟨_, (V.ref q11), PySem.W.mg_of X G v_SIDES, rfl, (is_ktup (vs := [(V.str "left"), (V.str "right")]) t11 (Nat.le_of_ble_eq_true rfl) (.cons ⟨_, rfl⟩ (.cons ⟨_, rfl⟩ .nil)) (fun H => (.cons ((fun _ => .str _) H) (.cons ((fun _ => .str _) H) .nil))))⟩,
        c_BACK_END := ⟨_, (V.ref q14), PySem.W.mg_of X G v_BACK_END, rfl, (is_ktup (vs := [(V.ref q15), (V.int (4))]) t14 (Nat.le_of_ble_eq_true rfl) (.cons rfl (.cons ⟨_, rfl⟩ .nil)) (fun H => (.cons ((is_ktup (vs := [(V.int (0)), (V.int (0)), (V.int (0)), (V.int (0))]) t15 (Nat.le_of_ble_eq_true rfl) (.cons ⟨_, rfl⟩ (.cons ⟨_, rfl⟩ (.cons ⟨_, rfl⟩ (.cons ⟨_, rfl⟩ .nil)))) (fun H => (.cons ((fun _ => .int _) H) (.cons ((fun _ => .int _) H) (.cons ((fun _ => .int _) H) (.cons ((fun _ => .int _) H) .nil)))))) H) (.cons ((fun _ => .int _) H) .nil))))⟩,
        c_ROUND_CURVES := ⟨_, (V.int (8)), PySem.W.mg_of X G v_ROUND_CURVES, ⟨_, rfl⟩, (fun _ => .int _)⟩,
        c_ITEM_WORDS := ⟨_, (V.ref q22), PySem.W.mg_of X G v_ITEM_WORDS, rfl, (is_ktup (vs := [(V.str "straight"), (V.str "curve")]) t22 (Nat.le_of_ble_eq_true rfl) (.cons ⟨_, rfl⟩ (.cons ⟨_, rfl⟩ .nil)) (fun H => (.cons ((fun _ => .str _) H) (.cons ((fun _ => .str _) H) .nil))))⟩,
        kno := kno_of hkn }, rfl, fun s v => .of_eq rfl⟩
theorem law_ok {P : Program} {w : World} {K : PySem.W.Frag} {mg : Str → Option Value} {base : Heap} (T : Txt K mg) (math : ∀ ns : List Int, ns.length ≤ 63 → m_law [.list (ns.map PyData.int)] = .ok (.bool true)) : FnOk P w K mg base (L2.CX P w) 10 T.f_law T.d_law ["script"] spL := fn_law (ok_law T) math
end LW
open PySem PySem.W PyProof.Rows
set_option maxHeartbeats 0 in
theorem PySem.Challenge.cw_trackswhole_k31_judge_of_unequal_halves_holds : PySem.Challenge.rw_trackswhole_k31_judge_of_unequal_halves.Holds := by
  w_on; o_law; k_head; (case hw => w_witness2)
  k_fill
  refine L2.walk_of (l := PySem.Challenge.rw_trackswhole_k31_judge_of_unequal_halves) (n := 63) (k := 10) (x := "script") (CX := fun w => L2.CX PySem.Challenge.rw_trackswhole_k31_judge_of_unequal_halves.prog w) (sp := fun _ => VL.spL) rfl (by decide) rfl ⟨rfl, by decide, by decide⟩ (fun w h Y => PySem.W.kIn_of Y) ?F ?S (fun _ _ _ _ _ h => VL.cx_false h)
  case S =>
    intro w H a ns hl hO hS
    exact VL.spL_of hl hS (by kernel_rfl)
  case F =>
    intro w mg fa h KX G hmg
    obtain ⟨T, e, hb⟩ := LW.txt_mk KX G (a1 := by k_is) (l1 := by k_is) (c1 := by k_is) (k1 := by k_is) (a2 := by k_is) (l2 := by k_is) (c2 := by k_is) (k2 := by k_is) (a3 := by k_is) (l3 := by k_is) (c3 := by k_is) (k3 := by k_is) (a4 := by k_is) (l4 := by k_is) (c4 := by k_is) (k4 := by k_is) (a5 := by k_is) (l5 := by k_is) (c5 := by k_is) (k5 := by k_is) (a6 := by k_is) (l6 := by k_is) (c6 := by k_is) (k6 := by k_is) (a7 := by k_is) (l7 := by k_is) (c7 := by k_is) (k7 := by k_is) (a8 := by k_is) (l8 := by k_is) (c8 := by k_is) (k8 := by k_is) (a9 := by k_is) (l9 := by k_is) (c9 := by k_is) (k9 := by k_is) (a10 := by k_is) (l10 := by k_is) (c10 := by k_is) (k10 := by k_is) (a11 := by k_is) (l11 := by k_is) (c11 := by k_is) (k11 := by k_is) (a12 := by k_is) (l12 := by k_is) (c12 := by k_is) (k12 := by k_is) (a13 := by k_is) (l13 := by k_is) (c13 := by k_is) (k13 := by k_is) (a14 := by k_is) (l14 := by k_is) (c14 := by k_is) (k14 := by k_is) (a15 := by k_is) (l15 := by k_is) (c15 := by k_is) (k15 := by k_is) (a16 := by k_is) (l16 := by k_is) (c16 := by k_is) (k16 := by k_is) (a17 := by k_is) (l17 := by k_is) (c17 := by k_is) (k17 := by k_is) (a18 := by k_is) (l18 := by k_is) (c18 := by k_is) (k18 := by k_is) (a19 := by k_is) (l19 := by k_is) (c19 := by k_is) (k19 := by k_is) (a20 := by k_is) (l20 := by k_is) (c20 := by k_is) (k20 := by k_is) (a21 := by k_is) (l21 := by k_is) (c21 := by k_is) (k21 := by k_is) (a22 := by k_is) (l22 := by k_is) (c22 := by k_is) (k22 := by k_is) (a23 := by k_is) (l23 := by k_is) (c23 := by k_is) (k23 := by k_is) (a24 := by k_is) (l24 := by k_is) (c24 := by k_is) (k24 := by k_is) (a25 := by k_is) (l25 := by k_is) (c25 := by k_is) (k25 := by k_is) (a26 := by k_is) (l26 := by k_is) (c26 := by k_is) (k26 := by k_is) (a27 := by k_is) (l27 := by k_is) (c27 := by k_is) (k27 := by k_is) (a28 := by k_is) (l28 := by k_is) (c28 := by k_is) (k28 := by k_is) (a29 := by k_is) (l29 := by k_is) (c29 := by k_is) (k29 := by k_is) (a30 := by k_is) (l30 := by k_is) (c30 := by k_is) (k30 := by k_is) (a31 := by k_is) (l31 := by k_is) (c31 := by k_is) (k31 := by k_is) (a32 := by k_is) (l32 := by k_is) (c32 := by k_is) (k32 := by k_is) (a33 := by k_is) (l33 := by k_is) (c33 := by k_is) (k33 := by k_is) (a34 := by k_is) (l34 := by k_is) (c34 := by k_is) (k34 := by k_is) (a35 := by k_is) (l35 := by k_is) (c35 := by k_is) (k35 := by k_is) (a36 := by k_is) (l36 := by k_is) (c36 := by k_is) (k36 := by k_is) (a37 := by k_is) (l37 := by k_is) (c37 := by k_is) (k37 := by k_is) (a38 := by k_is) (l38 := by k_is) (c38 := by k_is) (k38 := by k_is) (a39 := by k_is) (l39 := by k_is) (c39 := by k_is) (k39 := by k_is) (a40 := by k_is) (l40 := by k_is) (c40 := by k_is) (k40 := by k_is) (a41 := by k_is) (l41 := by k_is) (c41 := by k_is) (k41 := by k_is) (a42 := by k_is) (l42 := by k_is) (c42 := by k_is) (k42 := by k_is) (a43 := by k_is) (l43 := by k_is) (c43 := by k_is) (k43 := by k_is) (z_abs := by k_is) (z_all := by k_is) (z_bool := by k_is) (z_enumerate := by k_is) (z_int := by k_is) (z_isinstance := by k_is) (z_len := by k_is) (z_list := by k_is) (z_range := by k_is) (z_reversed := by k_is) (z_set := by k_is) (z_sorted := by k_is) (z_sum := by k_is) (z_tuple := by k_is) (ax_InvalidPiece := by k_is) (xx_InvalidPiece := by k_exc) (xk_InvalidPiece := by k_is) (xb_InvalidPiece := by k_is) (xt_InvalidPiece := by k_is) (ax_NoSuchEnd := by k_is) (xx_NoSuchEnd := by k_exc) (xk_NoSuchEnd := by k_is) (xb_NoSuchEnd := by k_is) (xt_NoSuchEnd := by k_is) (xc_InvalidPiece := by exact ⟨by k_is, by k_is, by k_is, by k_is, by k_is, by k_is, by k_is, by k_is⟩) (xc_NoSuchEnd := by exact ⟨by k_is, by k_is, by k_is, by k_is, by k_is, by k_is, by k_is, by k_is⟩) (xd_InvalidPiece := by k_is) (xs_InvalidPiece_InvalidPiece := by k_is) (xs_InvalidPiece_NoSuchEnd := by k_is) (v_DIRECTIONS := by k_is) (v_ORIGIN := by k_is) (t2 := by k_is) (v_UNIT := by k_is) (t7 := by k_is) (v_MOST_LENGTH := by k_is) (v_MOST_RISE := by k_is) (v_SIDES := by k_is) (t11 := by k_is) (v_BACK_END := by k_is) (t14 := by k_is) (t15 := by k_is) (v_ROUND_CURVES := by k_is) (v_ITEM_WORDS := by k_is) (t22 := by k_is) (hkn := by kernel_rfl)
    have e2 := hmg.symm.trans T.g_law
    cases e2
    exact ⟨T.d_law, hb, fun base _ _ => LW.law_ok T LW.math⟩
