import PyProof.Rows.All
import HandS.ForMost
import HandS.Deep
import HandS.Exc
import HandS.ExcOwn
import HandS.TryOnly
import HandS.CallSlots
import HandS.WordsExc
import HandS.TupAny
import HandS.Wide
import HandS.IsInst
import HandS.Flow
import HandS.Conv
import HandS.Ends
import HandS.ExcIs
import HandS.Flt
import HandS.SetFor
import HandS.SortInts
import HandS.Style
import Open.Row
import PySem.Challenge.RW_trackswhole_k85_judge_of_boosters
set_option Elab.async false
set_option linter.all false
set_option maxRecDepth 100000
set_option maxHeartbeats 1000000
namespace VL
open PySem PySem.Spec PyProof.Rows L2

/-! ### results -/
inductive R (α : Type) where
  | stuck
  | err (c : Str)
  | ok (a : α)
def R.bind {α β : Type} (x : R α) (f : α → R β) : R β := match x with
  | .stuck => .stuck
  | .err c => .err c
  | .ok a => f a
instance : Monad R where
  pure := R.ok
  bind := R.bind
@[simp] theorem R.bind_ok {α β : Type} (a : α) (f : α → R β) : R.bind (.ok a) f = f a := rfl
@[simp] theorem R.bind_err {α β : Type} (c : Str) (f : α → R β) : R.bind (.err c) f = .err c := rfl
@[simp] theorem R.bind_stuck {α β : Type} (f : α → R β) : R.bind .stuck f = .stuck := rfl
abbrev D := PyData

mutual
/- the value v is the data d, its lists and tuples in the heap F -/
inductive Is (K : PySem.W.Frag) (F : Hp) : V → D → Prop
  | non : Is K F .non .none
  | bl (b : Bool) : Is K F (.bl b) (.bool b)
  | int (i : Int) : Is K F (.int i) (.int i)
  | str (x : Str) : Is K F (.str x) (.str x)
  | lst {a : Addr} {xs : List V} {ds : List D} : Rd F a (.lst xs) → IsAll K F xs ds → Is K F (.ref a) (.list ds)
  | tup {a : Addr} {xs : List V} {ds : List D} : SqT K F a xs → IsAll K F xs ds → Is K F (.ref a) (.tuple ds)
  /- a caught exception at a, of the class that stands under the name c -/
  | exc (a : Addr) (c : Str) : Is K F (.ref a) (.dict [(.int (a : Int), .str c)])
inductive IsAll (K : PySem.W.Frag) (F : Hp) : List V → List D → Prop
  | nil : IsAll K F [] []
  | cons {v : V} {vs : List V} {d : D} {ds : List D} : Is K F v d → IsAll K F vs ds → IsAll K F (v :: vs) (d :: ds)
end
mutual
theorem Is.dp {K : PySem.W.Frag} {F : Hp} : ∀ {d : D} {v : V}, d.canLay0 = true → Is K F v d → Dp K F v d
  | .none, _, _, h => by cases h; exact .non
  | .bool b, _, _, h => by cases h; exact .bl b
  | .int i, _, _, h => by cases h; exact .int i
  | .str x, _, _, h => by cases h; exact .str x
  | .list ds, _, l, h => by cases h with | lst hs ha => exact .lst (.inl hs) (IsAll.dp (by simpa only [PyData.canLay0] using l) ha)
  | .tuple ds, _, l, h => by cases h with | tup hs ha => exact .tup hs (IsAll.dp (by simpa only [PyData.canLay0] using l) ha)
  | .dict _, _, l, h => by simp [PyData.canLay0] at l
theorem IsAll.dp {K : PySem.W.Frag} {F : Hp} : ∀ {ds : List D} {vs : List V}, PyData.canLayAll0 ds = true → IsAll K F vs ds → DpAll K F vs ds
  | [], _, _, h => by cases h; exact .nil
  | d :: ds, _, l, h => by
    cases h with
    | cons h1 h2 =>
      simp only [PyData.canLayAll0, Bool.and_eq_true] at l
      exact .cons (Is.dp l.1 h1) (IsAll.dp l.2 h2)
end
theorem Rd.mono {H H' : Hp} {a : Addr} {o : HO} (e : Same H H') (h : Rd H a o) : Rd H' a o := by
  rcases h with h | ⟨u, h⟩
  · exact .inl (e _ _ h)
  · exact .inr ⟨u, e _ _ h⟩
/-! ### heaps that grow -/
theorem Same.tupl {K : PySem.W.Frag} {H H' : Hp} {a : Addr} {xs : List V} (e : Same H H') (h : SqT K H a xs) : SqT K H' a xs := by
  rcases h with (z | ⟨u, z⟩) | z
  · exact .inl (.inl (e _ _ z))
  · exact .inl (.inr ⟨u, e _ _ z⟩)
  · exact .inr z
mutual
theorem Is.mono {K : PySem.W.Frag} {F F' : Hp} (e : Same F F') : ∀ {d : D} {v : V}, Is K F v d → Is K F' v d
  | .none, _, h => by cases h; exact .non
  | .bool b, _, h => by cases h; exact .bl b
  | .int i, _, h => by cases h; exact .int i
  | .str x, _, h => by cases h; exact .str x
  | .list ds, _, h => by cases h with | lst hs ha => exact .lst (Rd.mono e hs) (IsAll.mono e ha)
  | .tuple ds, _, h => by cases h with | tup hs ha => exact .tup (Same.tupl e hs) (IsAll.mono e ha)
  | .dict _, _, h => by cases h; exact .exc _ _
theorem IsAll.mono {K : PySem.W.Frag} {F F' : Hp} (e : Same F F') : ∀ {ds : List D} {vs : List V}, IsAll K F vs ds → IsAll K F' vs ds
  | [], _, h => by cases h; exact .nil
  | d :: ds, _, h => by cases h with | cons h1 h2 => exact .cons (Is.mono e h1) (IsAll.mono e h2)
end
theorem IsAll.len {K : PySem.W.Frag} {F : Hp} : ∀ {ds : List D} {vs : List V}, IsAll K F vs ds → vs.length = ds.length
  | [], _, h => by cases h; rfl
  | d :: ds, _, h => by
    cases h with
    | cons h1 h2 => rw [List.length_cons, List.length_cons, IsAll.len h2]
theorem IsAll.get {K : PySem.W.Frag} {F : Hp} : ∀ {ds : List D} {vs : List V} {i : Nat} {v : V}, IsAll K F vs ds → vs[i]? = some v → ∃ d, ds[i]? = some d ∧ Is K F v d
  | [], _, i, v, h, e => by cases h; simp at e
  | d :: ds, _, 0, v, h, e => by
    cases h with
    | cons h1 h2 => simp at e; subst e; exact ⟨d, rfl, h1⟩
  | d :: ds, _, i + 1, v, h, e => by
    cases h with
    | cons h1 h2 =>
      obtain ⟨x, h3, h4⟩ := IsAll.get (i := i) h2 (by simpa using e)
      exact ⟨x, by simpa using h3, h4⟩
theorem IsAll.get' {K : PySem.W.Frag} {F : Hp} : ∀ {ds : List D} {vs : List V} {i : Nat} {d : D}, IsAll K F vs ds → ds[i]? = some d → ∃ v, vs[i]? = some v ∧ Is K F v d
  | [], _, i, v, h, e => by simp at e
  | d :: ds, _, 0, v, h, e => by
    cases h with
    | cons h1 h2 => simp at e; subst e; exact ⟨_, rfl, h1⟩
  | d :: ds, _, i + 1, v, h, e => by
    cases h with
    | cons h1 h2 =>
      obtain ⟨x, h3, h4⟩ := IsAll.get' (i := i) h2 (by simpa using e)
      exact ⟨x, by simpa using h3, h4⟩
theorem IsAll.append {K : PySem.W.Frag} {F : Hp} : ∀ {ds es : List D} {vs us : List V}, IsAll K F vs ds → IsAll K F us es → IsAll K F (vs ++ us) (ds ++ es)
  | [], _, _, _, h, g => by cases h; exact g
  | d :: ds, es, _, us, h, g => by
    cases h with
    | cons h1 h2 => exact .cons h1 (IsAll.append h2 g)
theorem IsAll.take {K : PySem.W.Frag} {F : Hp} : ∀ (n : Nat) {ds : List D} {vs : List V}, IsAll K F vs ds → IsAll K F (vs.take n) (ds.take n)
  | 0, _, _, h => by simp; exact .nil
  | n + 1, [], _, h => by cases h; simp; exact .nil
  | n + 1, d :: ds, _, h => by
    cases h with
    | cons h1 h2 => exact .cons h1 (IsAll.take n h2)
theorem IsAll.drop {K : PySem.W.Frag} {F : Hp} : ∀ (n : Nat) {ds : List D} {vs : List V}, IsAll K F vs ds → IsAll K F (vs.drop n) (ds.drop n)
  | 0, _, _, h => by simpa using h
  | n + 1, [], _, h => by cases h; simp; exact .nil
  | n + 1, d :: ds, _, h => by
    cases h with
    | cons h1 h2 => simpa using IsAll.drop n h2
theorem IsAll.set {K : PySem.W.Frag} {F : Hp} {x : D} {u : V} (hx : Is K F u x) : ∀ (n : Nat) {ds : List D} {vs : List V}, IsAll K F vs ds → IsAll K F (vs.set n u) (ds.set n x)
  | _, [], _, h => by cases h; simp; exact .nil
  | 0, d :: ds, _, h => by
    cases h with
    | cons h1 h2 => exact .cons hx h2
  | n + 1, d :: ds, _, h => by
    cases h with
    | cons h1 h2 => exact .cons h1 (IsAll.set hx n h2)
theorem IsAll.reverse {K : PySem.W.Frag} {F : Hp} : ∀ {ds : List D} {vs : List V}, IsAll K F vs ds → IsAll K F vs.reverse ds.reverse
  | [], _, h => by cases h; exact .nil
  | d :: ds, _, h => by
    cases h with
    | cons h1 h2 =>
      rw [List.reverse_cons, List.reverse_cons]
      exact IsAll.append (IsAll.reverse h2) (.cons h1 .nil)
/- data without lists -/
mutual
def lf : D → Bool
  | .list _ => false
  | .dict _ => false
  | .tuple xs => lfs xs
  | _ => true
def lfs : List D → Bool
  | [] => true
  | x :: xs => lf x && lfs xs
end
@[simp] theorem lf_int (i : Int) : lf (.int i) = true := by simp [lf]
@[simp] theorem lf_bool (i : Bool) : lf (.bool i) = true := by simp [lf]
@[simp] theorem lf_str (i : Str) : lf (.str i) = true := by simp [lf]
@[simp] theorem lf_none : lf .none = true := by simp [lf]
@[simp] theorem lf_tuple (xs : List D) : lf (.tuple xs) = lfs xs := by simp [lf]
@[simp] theorem lf_list (xs : List D) : lf (.list xs) = false := by simp [lf]
@[simp] theorem lfs_nil : lfs [] = true := by simp [lfs]
@[simp] theorem lfs_cons (x : D) (xs : List D) : lfs (x :: xs) = (lf x && lfs xs) := by simp [lfs]
theorem rd_keep {F F' : Hp} {a : Addr} {xs : List V} (e : ∀ b, (∃ ys, Rd F b (.tup ys)) → F' b = F b) (h : Rd F a (.tup xs)) : Rd F' a (.tup xs) := by
  have := e a ⟨xs, h⟩
  rcases h with h | ⟨o, h⟩
  · exact .inl (by rw [this]; exact h)
  · exact .inr ⟨o, by rw [this]; exact h⟩
mutual
theorem Is.lfree {K : PySem.W.Frag} {F F' : Hp} (e : ∀ b, (∃ ys, Rd F b (.tup ys)) → F' b = F b) : ∀ {d : D} {v : V}, lf d = true → Is K F v d → Is K F' v d
  | .none, _, _, h => by cases h; exact .non
  | .bool b, _, _, h => by cases h; exact .bl b
  | .int i, _, _, h => by cases h; exact .int i
  | .str x, _, _, h => by cases h; exact .str x
  | .list ds, _, l, h => by simp at l
  | .tuple ds, _, l, h => by
    cases h with
    | tup hs ha =>
      refine .tup ?_ (IsAll.lfree e (by simpa using l) ha)
      rcases hs with hs | hs
      · exact .inl (rd_keep e hs)
      · exact .inr hs
  | .dict _, _, l, h => by simp [lf] at l
theorem IsAll.lfree {K : PySem.W.Frag} {F F' : Hp} (e : ∀ b, (∃ ys, Rd F b (.tup ys)) → F' b = F b) : ∀ {ds : List D} {vs : List V}, lfs ds = true → IsAll K F vs ds → IsAll K F' vs ds
  | [], _, _, h => by cases h; exact .nil
  | d :: ds, _, l, h => by
    cases h with
    | cons h1 h2 =>
      simp at l
      exact .cons (Is.lfree e l.1 h1) (IsAll.lfree e l.2 h2)
end

/-- the heap has grown, and so has its frozen part; what is newly frozen is new -/
structure Ext (B H B' H' : Hp) : Prop where
  hh : Same H H'
  bb : Same B B'
  bh : Same B' H'
  nw : ∀ a, B a = none → B' a ≠ none → H a = none
theorem Ext.refl {B H : Hp} (h : Same B H) : Ext B H B H := ⟨Same.refl H, Same.refl B, h, fun a x y => absurd x y⟩
theorem Ext.trans {B H B1 H1 B2 H2 : Hp} (a : Ext B H B1 H1) (b : Ext B1 H1 B2 H2) : Ext B H B2 H2 :=
  ⟨a.hh.trans b.hh, a.bb.trans b.bb, b.bh, fun x h1 h2 => by
    cases e : B1 x with
    | none => exact Same.free a.hh (b.nw x e h2)
    | some o => exact a.nw x h1 (by rw [e]; exact fun z => nomatch z)⟩
theorem same_upd {H : Hp} {p : Addr} {o : HO} (h : H p = none) : Same H (upd H p o) := fun b u e => by
  rw [upd_ne (ne_of_none e h)]
  exact e
/-- a new object, frozen at once -/
theorem Ext.new {B H : Hp} {p : Addr} {o : HO} (h : Same B H) (n : H p = none) : Ext B H (upd B p o) (upd H p o) := by
  refine ⟨same_upd n, same_upd (Same.free h n), fun b x e => ?_, fun a h1 h2 => ?_⟩
  · by_cases hb : b = p
    · subst hb; rw [upd_same] at e ⊢; exact e
    · rw [upd_ne hb] at e ⊢; exact h _ _ e
  · by_cases hb : a = p
    · subst hb; exact n
    · rw [upd_ne hb] at h2; exact absurd h1 h2
/-- a new object that stays one's own -/
theorem Ext.own {B H : Hp} {p : Addr} {o : HO} (h : Same B H) (n : H p = none) : Ext B H B (upd H p o) :=
  ⟨same_upd n, Same.refl B, h.trans (same_upd n), fun a x y => absurd x y⟩

/-! ### sizes that every state knows -/
def Small (K : PySem.W.Frag) (H : Hp) : Prop := ∀ a xs, SqL K H a xs ∨ SqT K H a xs → xs.length ≤ sizeLine
theorem Inv.small {X : Cx} {pins : List (Addr × Obj)} {σ : L2.St} {H : Hp} {s : Shared} (I : Inv X pins σ H s) : Small X.K H := fun a xs h => by
  rcases h with h | h
  · obtain ⟨_, _, _, z⟩ := I.list h; exact z
  · obtain ⟨_, _, _, z⟩ := I.tuple h; exact z
theorem pe_small {X : Cx} {e : Expr} {t : TE} (h : PE X e t) : PE X e (fun σ H Q => t σ H fun v H' => Small X.K H' → Q v H') := ⟨fun pins s σ H Q I hw =>
  thn (h.run pins s σ H _ I hw) fun u s' ⟨v, H', I', r, q⟩ => ⟨v, H', I', r, q (Inv.small I')⟩⟩
theorem pi_small {X : Cx} {tg it : Expr} {t : TI} (h : PI X tg it t) : PI X tg it (fun σ H Q => t σ H fun J H' => Small X.K H' → Q J H') := ⟨fun pins s σ H R I hw =>
  thn (h.run pins s σ H _ I hw) fun v s1 h1 => thn h1 fun itv s2 ⟨it, fp, tn, J, H', e1, I2, T, st, fo, q⟩ => ⟨it, fp, tn, J, H', e1, I2, T, st, fo, q (Inv.small I2)⟩⟩
theorem Small.list {K : PySem.W.Frag} {B H : Hp} {v : V} {ds : List D} (s : Small K H) (e : Same B H) (h : Is K B v (.list ds)) : ds.length ≤ sizeLine := by
  cases h with
  | lst hs ha => rw [← IsAll.len ha]; exact s _ _ (.inl (.inl (Rd.mono e hs)))
theorem Small.tuple {K : PySem.W.Frag} {B H : Hp} {v : V} {ds : List D} (s : Small K H) (e : Same B H) (h : Is K B v (.tuple ds)) : ds.length ≤ sizeLine := by
  cases h with
  | tup hs ha => rw [← IsAll.len ha]; exact s _ _ (.inr (Same.tupl e hs))

/-! ### pure expressions -/
abbrev PEnv := List (Option D)
structure RF (K : PySem.W.Frag) (B : Hp) (σ : L2.St) (ρ : PEnv) : Prop where
  len : σ.length = ρ.length
  at_ : ∀ (i : Nat) (d : D), ρ[i]? = some (some d) → ∃ v, σ[i]? = some (some v) ∧ Is K B v d
theorem RF.mono {K : PySem.W.Frag} {B B' : Hp} {σ : L2.St} {ρ : PEnv} (h : RF K B σ ρ) (e : Same B B') : RF K B' σ ρ := ⟨h.len, fun i d x => by
  obtain ⟨v, h1, h2⟩ := h.at_ i d x
  exact ⟨v, h1, Is.mono e h2⟩⟩
/-- an error of the class that stands under the name c -/
def ErrAt (X : Cx) (W : WX) (c : Str) (σ : L2.St) (H : Hp) : Prop := ∃ C, X.mg c = some (.ref C) ∧ W (.ref C) none σ H
def Pst {α : Type} (X : Cx) (W : WX) (σ : L2.St) (H : Hp) (k : α → Prop) : R α → Prop
  | .stuck => False
  | .err c => ∀ H', Same H H' → ErrAt X W c σ H'
  | .ok a => k a
theorem Pst.imp {α : Type} {X : Cx} {W : WX} {σ : L2.St} {H : Hp} {k k' : α → Prop} (h : ∀ a, k a → k' a) : ∀ {r : R α}, Pst X W σ H k r → Pst X W σ H k' r
  | .stuck, x => x
  | .err _, x => x
  | .ok a, x => h a x
/-- the wanted end for a pure value -/
def KV1 (X : Cx) (B H : Hp) (Q : VK) (d : D) : Prop := ∀ v H' B', Ext B H B' H' → Small X.K H' → Is X.K B' v d → Q v H'
structure VE (X : Cx) (W : WX) (e : Expr) (f : PEnv → R D) : Prop where
  ex : ∃ t, PE X e t ∧ ∀ σ H B ρ Q, Same B H → RF X.K B σ ρ → Pst X W σ H (KV1 X B H Q) (f ρ) → t σ H Q
def KB1 (B H : Hp) (Q : Bool → Hp → Prop) (b : Bool) : Prop := ∀ H' B', Ext B H B' H' → Q b H'
structure VT (X : Cx) (W : WX) (e : Expr) (f : PEnv → R Bool) : Prop where
  ex : ∃ t, PT X e t ∧ ∀ σ H B ρ Q, Same B H → RF X.K B σ ρ → Pst X W σ H (KB1 B H Q) (f ρ) → t σ H Q
def KA1 (X : Cx) (B H : Hp) (Q : List V → Hp → Prop) (ds : List D) : Prop := ∀ vs H' B', Ext B H B' H' → IsAll X.K B' vs ds → Q vs H'
structure VA (X : Cx) (W : WX) (es : List Expr) (f : PEnv → R (List D)) : Prop where
  ex : ∃ t, PA X es t ∧ ∀ σ H B ρ Q, Same B H → RF X.K B σ ρ → Pst X W σ H (KA1 X B H Q) (f ρ) → t σ H Q

section
variable {X : Cx} {W : WX} {a b c : Expr} {es : List Expr} {pos : Pos} {fa fb fc : PEnv → R D}
/-- a rule for VE from a PE; the small sizes come by themselves -/
theorem VE.mk' {e : Expr} {f : PEnv → R D} {t : TE} (h : PE X e t)
    (q : ∀ σ H B ρ Q, Same B H → RF X.K B σ ρ → Pst X W σ H (fun d => ∀ v H' B', Ext B H B' H' → Is X.K B' v d → Q v H') (f ρ) → t σ H Q) : VE X W e f :=
  ⟨_, pe_small h, fun σ H B ρ Q s r p => q σ H B ρ _ s r (Pst.imp (fun d k v H' B' e dp sm => k v H' B' e sm dp) p)⟩

def vVar (i : Nat) : PEnv → R D := fun ρ => match ρ[i]? with
  | some (some d) => .ok d
  | _ => .stuck
def vC (d : D) : PEnv → R D := fun _ => .ok d
theorem vv (i : Nat) {x : Str} (hN : X.N[i]? = some x := by rfl) (hv : Vis X.env.scope x := by first | exact Or.inl rfl | exact Or.inr (Or.inl rfl) | exact Or.inr (Or.inr rfl)) (hd : (x == ("__debug__" : Str)) = false := by decide)
    (hcd : (x == ("__classdict__" : Str)) = false := by decide) : VE X W (.Name x pos) (vVar i) := by
  refine VE.mk' (pe_var hN hv hd hcd) fun σ H B ρ Q s r p => ?_
  unfold vVar at p
  split at p
  · rename_i d e
    obtain ⟨v, e1, dp⟩ := r.at_ i d e
    exact ⟨v, e1, p v H B (.refl s) dp⟩
  · exact p.elim
theorem vint {i j} : VE X W (.Constant (.int i) j pos) (vC (.int i)) := VE.mk' pe_int fun σ H B ρ Q s r p => p _ H B (.refl s) (.int i)
theorem vbool {i j} : VE X W (.Constant (.bool i) j pos) (vC (.bool i)) := VE.mk' pe_bl fun σ H B ρ Q s r p => p _ H B (.refl s) (.bl i)
theorem vnone {j} : VE X W (.Constant .none j pos) (vC .none) := VE.mk' pe_non fun σ H B ρ Q s r p => p _ H B (.refl s) .non
theorem vstr {i j} : VE X W (.Constant (.str i) j pos) (vC (.str i)) := VE.mk' pe_str fun σ H B ρ Q s r p => p _ H B (.refl s) (.str i)
/-- a constant of the module: a value that stands by itself in the written part -/
theorem vglob {x : Str} {v : V} {u : Value} {d : D} (hg : Gl X x) (hm : X.mg x = some u) (r : RelV v u) (hd : ∀ H, Is X.K H v d) (hdb : (x == ("__debug__" : Str)) = false := by decide) : VE X W (.Name x pos) (vC d) :=
  VE.mk' (pe_glob hg hm r hdb) fun σ H B ρ Q s _ p => p v H B (.refl s) (hd B)

/-! two values -/
def v2 (g : D → D → R D) (fa fb : PEnv → R D) : PEnv → R D := fun ρ => (fa ρ).bind fun d => (fb ρ).bind fun e => g d e
def v1 (g : D → R D) (fa : PEnv → R D) : PEnv → R D := fun ρ => (fa ρ).bind g
/-- from the state, two values one after another -/
theorem two {ta tb : TE} (ha : ∀ σ H B ρ Q, Same B H → RF X.K B σ ρ → Pst X W σ H (KV1 X B H Q) (fa ρ) → ta σ H Q) (hb : ∀ σ H B ρ Q, Same B H → RF X.K B σ ρ → Pst X W σ H (KV1 X B H Q) (fb ρ) → tb σ H Q)
    {α : Type} {σ : L2.St} {H B : Hp} {ρ : PEnv} {g : D → D → R α} {K : α → Prop} {Q : V → V → Hp → Prop} (s : Same B H) (r : RF X.K B σ ρ)
    (p : Pst X W σ H K ((fa ρ).bind fun d => (fb ρ).bind fun e => g d e))
    (q : ∀ d e x y H' B', Ext B H B' H' → Small X.K H' → Is X.K B' x d → Is X.K B' y e → Pst X W σ H' K (g d e) → Q x y H') : ta σ H fun x H1 => tb σ H1 fun y H2 => Q x y H2 := by
  refine ha σ H B ρ _ s r ?_
  generalize hfa : fa ρ = ra at p ⊢
  cases ra with
  | stuck => exact p
  | err c => exact p
  | ok d =>
    intro x H1 B1 e1 sm1 d1
    refine hb σ H1 B1 ρ _ e1.bh (r.mono e1.bb) ?_
    simp only [R.bind_ok] at p
    generalize hfb : fb ρ = rb at p ⊢
    cases rb with
    | stuck => exact p
    | err c => exact fun H' z => p H' (e1.hh.trans z)
    | ok e =>
      intro y H2 B2 e2 sm2 d2
      refine q d e x y H2 B2 (e1.trans e2) sm2 (Is.mono e2.bb d1) d2 ?_
      simp only [R.bind_ok] at p
      generalize g d e = rg at p ⊢
      cases rg with
      | stuck => exact p
      | err c => exact fun H' z => p H' ((e1.trans e2).hh.trans z)
      | ok z => exact p
theorem one {ta : TE} (ha : ∀ σ H B ρ Q, Same B H → RF X.K B σ ρ → Pst X W σ H (KV1 X B H Q) (fa ρ) → ta σ H Q)
    {α : Type} {σ : L2.St} {H B : Hp} {ρ : PEnv} {g : D → R α} {K : α → Prop} {Q : V → Hp → Prop} (s : Same B H) (r : RF X.K B σ ρ)
    (p : Pst X W σ H K ((fa ρ).bind g))
    (q : ∀ d x H' B', Ext B H B' H' → Small X.K H' → Is X.K B' x d → Pst X W σ H' K (g d) → Q x H') : ta σ H Q := by
  refine ha σ H B ρ _ s r ?_
  generalize hfa : fa ρ = ra at p ⊢
  cases ra with
  | stuck => exact p
  | err c => exact p
  | ok d =>
    intro x H1 B1 e1 sm1 d1
    refine q d x H1 B1 e1 sm1 d1 ?_
    simp only [R.bind_ok] at p
    generalize g d = rg at p ⊢
    cases rg with
    | stuck => exact p
    | err c => exact fun H' z => p H' (e1.hh.trans z)
    | ok z => exact p
/-- what a two-place rule asks is given by g -/
def Rule2 (X : Cx) (W : WX) (r : R2) (g : D → D → R D) : Prop := ∀ d e x y σ H B Q, Same B H → Small X.K H → Is X.K B x d → Is X.K B y e → Pst X W σ H (fun d' => ∀ v H' B', Ext B H B' H' → Is X.K B' v d' → Q v H') (g d e) → r x y H Q
def Rule1 (X : Cx) (W : WX) (r : V → Hp → VK → Prop) (g : D → R D) : Prop := ∀ d x σ H B Q, Same B H → Small X.K H → Is X.K B x d → Pst X W σ H (fun d' => ∀ v H' B', Ext B H B' H' → Is X.K B' v d' → Q v H') (g d) → r x H Q
theorem kv_ext {B H B1 H1 : Hp} {Q : VK} {d : D} (e : Ext B H B1 H1) (p : ∀ v H' B', Ext B H B' H' → Is X.K B' v d → Q v H') : ∀ v H' B', Ext B1 H1 B' H' → Is X.K B' v d → Q v H' := fun v H' B' e' dp => p v H' B' (e.trans e') dp
theorem ve2 {e : Expr} {r : R2} {g : D → D → R D} (mk : ∀ {ta tb : TE}, PE X a ta → PE X b tb → PE X e (tOp r ta tb)) (hr : Rule2 X W r g) (ha : VE X W a fa) (hb : VE X W b fb) : VE X W e (v2 g fa fb) := by
  obtain ⟨ta, pa, qa⟩ := ha.ex
  obtain ⟨tb, pb, qb⟩ := hb.ex
  refine VE.mk' (mk pa pb) fun σ H B ρ Q s rf p => ?_
  exact two qa qb s rf p fun d e x y H' B' ex sm dx dy pg => hr d e x y σ H' B' Q ex.bh sm dx dy (Pst.imp (fun a k => kv_ext ex k) pg)
theorem ve1 {e : Expr} {r : V → Hp → VK → Prop} {g : D → R D} (mk : ∀ {ta : TE}, PE X a ta → PE X e (tUn r ta)) (hr : Rule1 X W r g) (ha : VE X W a fa) : VE X W e (v1 g fa) := by
  obtain ⟨ta, pa, qa⟩ := ha.ex
  refine VE.mk' (mk pa) fun σ H B ρ Q s rf p => ?_
  exact one qa s rf p fun d x H' B' ex sm dx pg => hr d x σ H' B' Q ex.bh sm dx (Pst.imp (fun a k => kv_ext ex k) pg)
end
end VL

namespace VL
open PySem PySem.Spec PyProof.Rows L2

noncomputable instance (a b : Int) : Decidable (IntMulOk a b) := Classical.propDecidable _

/-! ### what the operators give on data -/
def vadd : D → D → R D
  | .int i, .int j => .ok (.int (i + j))
  | .str x, .str y => if x.length + y.length ≤ sizeLine then .ok (.str (x ++ y)) else .stuck
  | .list xs, .list ys => if xs.length + ys.length ≤ sizeLine then .ok (.list (xs ++ ys)) else .stuck
  | .tuple xs, .tuple ys => if xs.length + ys.length ≤ sizeLine then .ok (.tuple (xs ++ ys)) else .stuck
  | _, _ => .stuck
def vsub : D → D → R D
  | .int i, .int j => .ok (.int (i - j))
  | _, _ => .stuck
noncomputable def vmul : D → D → R D
  | .int i, .int j => if IntMulOk i j then .ok (.int (i * j)) else .stuck
  | _, _ => .stuck
noncomputable def vfdiv : D → D → R D
  | .int i, .int j => @ite _ (0 < j ∧ j < 2 ^ 250) (Classical.propDecidable _) (.ok (.int (i / j))) .stuck
  | _, _ => .stuck
def vmod : D → D → R D
  | .int i, .int j => if 0 < j then .ok (.int (i % j)) else .stuck
  | _, _ => .stuck
noncomputable def vpow : D → D → R D
  | .int i, .int j => @ite _ (0 ≤ j ∧ j ≤ 1000 ∧ i.natAbs < 2 ^ 64) (Classical.propDecidable _) (.ok (.int (i ^ j.toNat))) .stuck
  | _, _ => .stuck
def vneg : D → R D
  | .int i => .ok (.int (-i))
  | _ => .stuck
def vlt : D → D → R D
  | .int i, .int j => .ok (.bool (decide (i < j)))
  | _, _ => .stuck
def vle : D → D → R D
  | .int i, .int j => .ok (.bool (decide (i ≤ j)))
  | _, _ => .stuck
def vgt : D → D → R D
  | .int i, .int j => .ok (.bool (decide (j < i)))
  | _, _ => .stuck
def vge : D → D → R D
  | .int i, .int j => .ok (.bool (decide (j ≤ i)))
  | _, _ => .stuck
/-- == -/
def vEq (d e : D) : R Bool := if SeqAt.shaped d = true ∧ SeqAt.shaped e = true then .ok (PyData.eqv d e) else .stuck
def veq (d e : D) : R D := (vEq d e).bind fun b => .ok (.bool b)
def vne (d e : D) : R D := (vEq d e).bind fun b => .ok (.bool (!b))
def visnone : D → R D := fun d => .ok (.bool (match d with | .none => true | _ => false))
def vidx : D → D → R D
  | .list xs, .int i => match atI xs i with | some d => .ok d | none => .stuck
  | .tuple xs, .int i => match atI xs i with | some d => .ok d | none => .stuck
  | .str z, .int i => match atI z.cps.toList i with | some c => if z.length ≤ sizeLine then .ok (.str ⟨#[c]⟩) else .stuck | none => .stuck
  | _, _ => .stuck
def vin (d : D) : D → R Bool
  | .list ds => if SeqAt.shaped d = true ∧ SeqAt.shaped (.list ds) = true then .ok (ds.any fun z => PyData.eqv z d) else .stuck
  | _ => .stuck

section
variable {X : Cx} {W : WX} {a b c : Expr} {es : List Expr} {pos : Pos} {fa fb fc : PEnv → R D} {k : Nat}

theorem atI_all {K : PySem.W.Frag} {F : Hp} {vs : List V} {ds : List D} {i : Int} {d : D} (h : IsAll K F vs ds) (e : atI ds i = some d) : ∃ v, atI vs i = some v ∧ Is K F v d := by
  unfold atI at e ⊢
  rw [IsAll.len h]
  cases q : ixN ds.length i with
  | none => rw [q] at e; simp at e
  | some j =>
    rw [q] at e
    simp only [Option.bind_some] at e ⊢
    exact IsAll.get' h e

theorem r_int {K : Int → Int → Prop} {g : Int → Int → V} {G : D → D → R D} {T : Int → Int → D} (hG : ∀ d e, G d e ≠ .stuck → ∃ i j, d = .int i ∧ e = .int j ∧ K i j ∧ G d e = .ok (T i j)) (hg : ∀ i j F, Is X.K F (g i j) (T i j)) : Rule2 X W (rI K g) G := by
  intro d e x y σ H B Q s sm dx dy p
  have h0 : G d e ≠ .stuck := fun z => by rw [z] at p; exact p
  obtain ⟨i, j, rfl, rfl, hk, eG⟩ := hG d e h0
  rw [eG] at p
  cases dx
  cases dy
  exact ⟨i, j, rfl, rfl, hk, p _ H B (.refl s) (hg i j B)⟩
theorem r_int0 {g : Int → Int → V} {G : D → D → R D} {T : Int → Int → D} (hG : ∀ d e, G d e ≠ .stuck → ∃ i j, d = .int i ∧ e = .int j ∧ G d e = .ok (T i j)) (hg : ∀ i j F, Is X.K F (g i j) (T i j)) : Rule2 X W (rI0 g) G := by
  intro d e x y σ H B Q s sm dx dy p
  have h0 : G d e ≠ .stuck := fun z => by rw [z] at p; exact p
  obtain ⟨i, j, rfl, rfl, eG⟩ := hG d e h0
  rw [eG] at p
  cases dx
  cases dy
  exact ⟨i, j, rfl, rfl, p _ H B (.refl s) (hg i j B)⟩

theorem vsub_ (ha : VE X W a fa) (hb : VE X W b fb) : VE X W (.BinOp a .Sub b pos) (v2 vsub fa fb) :=
  ve2 (fun p q => pe_op op_sub p q) (r_int0 (T := fun i j => .int (i - j)) (fun d e h => by cases d <;> first | exact absurd rfl h | (cases e <;> first | exact absurd rfl h | exact ⟨_, _, rfl, rfl, rfl⟩)) fun _ _ _ => .int _) ha hb
theorem vmul_ (ha : VE X W a fa) (hb : VE X W b fb) : VE X W (.BinOp a .Mult b pos) (v2 vmul fa fb) :=
  ve2 (fun p q => pe_op (r := rI IntMulOk fun i j => .int (i * j)) (opI fun _ _ _ _ _ _ _ hc q => mul_int q hc) p q) (r_int (T := fun i j => .int (i * j)) (fun d e h => by
    cases d <;> first | exact absurd rfl h | (cases e <;> first | exact absurd rfl h | skip)
    simp only [vmul] at h ⊢
    split at h
    · rename_i hm; exact ⟨_, _, rfl, rfl, hm, if_pos hm⟩
    · exact absurd rfl h) fun _ _ _ => .int _) ha hb
theorem log2_250 {j : Int} (h0 : 0 < j) (h : j < 2 ^ 250) : CDivW 0 j := wide_div h0 (b := 250) (by omega) (by omega) (by omega)
theorem vfdiv_ (ha : VE X W a fa) (hb : VE X W b fb) : VE X W (.BinOp a .FloorDiv b pos) (v2 vfdiv fa fb) :=
  ve2 (fun p q => pe_op op_fdivW p q) (r_int (K := CDivW) (T := fun i j => .int (i / j)) (fun d e h => by
    cases d <;> first | exact absurd rfl h | (cases e <;> first | exact absurd rfl h | skip)
    simp only [vfdiv] at h ⊢
    split at h
    · rename_i hm; exact ⟨_, _, rfl, rfl, log2_250 hm.1 hm.2, if_pos hm⟩
    · exact absurd rfl h) fun _ _ _ => .int _) ha hb
theorem vmod_ (ha : VE X W a fa) (hb : VE X W b fb) : VE X W (.BinOp a .Mod b pos) (v2 vmod fa fb) :=
  ve2 (fun p q => pe_op op_mod p q) (r_int (T := fun i j => .int (i % j)) (fun d e h => by
    cases d <;> first | exact absurd rfl h | (cases e <;> first | exact absurd rfl h | skip)
    simp only [vmod] at h ⊢
    split at h
    · rename_i hm; exact ⟨_, _, rfl, rfl, hm, if_pos hm⟩
    · exact absurd rfl h) fun _ _ _ => .int _) ha hb
theorem vpow_ (ha : VE X W a fa) (hb : VE X W b fb) : VE X W (.BinOp a .Pow b pos) (v2 vpow fa fb) :=
  ve2 (fun p q => pe_op op_pow p q) (r_int (T := fun i j => .int (i ^ j.toNat)) (fun d e h => by
    cases d <;> first | exact absurd rfl h | (cases e <;> first | exact absurd rfl h | skip)
    simp only [vpow] at h ⊢
    split at h
    · rename_i hm; exact ⟨_, _, rfl, rfl, ⟨hm.1, by omega, hm.2.2⟩, if_pos hm⟩
    · exact absurd rfl h) fun _ _ _ => .int _) ha hb
theorem vneg_ (ha : VE X W a fa) : VE X W (.UnaryOp .USub a pos) (v1 vneg fa) :=
  ve1 (fun p => pe_un un_neg p) (fun d x σ H B Q s sm dx p => by
    cases dx <;> first | exact p.elim | exact ⟨_, rfl, p _ H B (.refl s) (.int _)⟩) ha
/-- comparisons of ints -/
theorem vlt_ (ha : VE X W a fa) (hb : VE X W b fb) : VE X W (.Compare a [.Lt] [b] pos) (v2 vlt fa fb) :=
  ve2 (fun p q => pe_cmpR op_lt p q (nomark _)) (r_int0 (T := fun i j => .bool (decide (i < j))) (fun d e h => by cases d <;> first | exact absurd rfl h | (cases e <;> first | exact absurd rfl h | exact ⟨_, _, rfl, rfl, rfl⟩)) fun _ _ _ => .bl _) ha hb
theorem vle_ (ha : VE X W a fa) (hb : VE X W b fb) : VE X W (.Compare a [.LtE] [b] pos) (v2 vle fa fb) :=
  ve2 (fun p q => pe_cmpR op_le p q (nomark _)) (r_int0 (T := fun i j => .bool (decide (i ≤ j))) (fun d e h => by cases d <;> first | exact absurd rfl h | (cases e <;> first | exact absurd rfl h | exact ⟨_, _, rfl, rfl, rfl⟩)) fun _ _ _ => .bl _) ha hb
theorem vgt_ (ha : VE X W a fa) (hb : VE X W b fb) : VE X W (.Compare a [.Gt] [b] pos) (v2 vgt fa fb) :=
  ve2 (fun p q => pe_cmpR op_gt p q (nomark _)) (r_int0 (T := fun i j => .bool (decide (j < i))) (fun d e h => by cases d <;> first | exact absurd rfl h | (cases e <;> first | exact absurd rfl h | exact ⟨_, _, rfl, rfl, rfl⟩)) fun _ _ _ => .bl _) ha hb
theorem vge_ (ha : VE X W a fa) (hb : VE X W b fb) : VE X W (.Compare a [.GtE] [b] pos) (v2 vge fa fb) :=
  ve2 (fun p q => pe_cmpR op_ge p q (nomark _)) (r_int0 (T := fun i j => .bool (decide (j ≤ i))) (fun d e h => by cases d <;> first | exact absurd rfl h | (cases e <;> first | exact absurd rfl h | exact ⟨_, _, rfl, rfl, rfl⟩)) fun _ _ _ => .bl _) ha hb
theorem rule_eq : Rule2 X W (rEqD X.K) veq := fun d e x y σ H B Q s sm dx dy p => by
  unfold veq vEq at p
  split at p
  · rename_i h
    exact ⟨d, e, (Is.mono s dx).dp (SeqAt.canLay_of_shaped h.1), (Is.mono s dy).dp (SeqAt.canLay_of_shaped h.2), h.1, h.2, p _ H B (.refl s) (.bl _)⟩
  · exact p.elim
theorem rule_ne : Rule2 X W (rNeD X.K) vne := fun d e x y σ H B Q s sm dx dy p => by
  unfold vne vEq at p
  split at p
  · rename_i h
    exact ⟨d, e, (Is.mono s dx).dp (SeqAt.canLay_of_shaped h.1), (Is.mono s dy).dp (SeqAt.canLay_of_shaped h.2), h.1, h.2, p _ H B (.refl s) (.bl _)⟩
  · exact p.elim
theorem veq_ (hr : Room k X.A) (ha : VE X W a fa) (hb : VE X W b fb) : VE X W (.Compare a [.Eq] [b] pos) (v2 veq fa fb) := ve2 (fun p q => pe_cmpR (op_eqD hr.units) p q (nomark _)) rule_eq ha hb
theorem vne_ (hr : Room k X.A) (ha : VE X W a fa) (hb : VE X W b fb) : VE X W (.Compare a [.NotEq] [b] pos) (v2 vne fa fb) := ve2 (fun p q => pe_cmpR (op_neD hr.units) p q (nomark _)) rule_ne ha hb
theorem hu65 (hr : Room k X.A) : X.A.units + 65 < cLine := by have := hr.un; omega
theorem vin_ (hr : Room k X.A) (ha : VE X W a fa) (hb : VE X W b fb) (hm : behindInMarks .In b = false := by with_unfolding_all rfl) : VE X W (.Compare a [.In] [b] pos) (v2 (fun d e => (vin d e).bind fun b => .ok (.bool b)) fa fb) :=
  ve2 (fun p q => pe_cmpR (op_inD (hu65 hr)) p q hm) (fun d e x y σ H B Q s sm dx dy p => by
    unfold vin at p
    cases e <;> first | exact p.elim | skip
    dsimp only at p
    split at p
    · rename_i h
      exact ⟨_, _, (Is.mono s dx).dp (SeqAt.canLay_of_shaped h.1), (Is.mono s dy).dp (SeqAt.canLay_of_shaped h.2), h.1, h.2, p _ H B (.refl s) (.bl _)⟩
    · exact p.elim) ha hb
theorem vnotin_ (hr : Room k X.A) (ha : VE X W a fa) (hb : VE X W b fb) (hm : behindInMarks .NotIn b = false := by with_unfolding_all rfl) : VE X W (.Compare a [.NotIn] [b] pos) (v2 (fun d e => (vin d e).bind fun b => .ok (.bool (!b))) fa fb) :=
  ve2 (fun p q => pe_cmpR (op_notInD (hu65 hr)) p q hm) (fun d e x y σ H B Q s sm dx dy p => by
    unfold vin at p
    cases e <;> first | exact p.elim | skip
    dsimp only at p
    split at p
    · rename_i h
      exact ⟨_, _, (Is.mono s dx).dp (SeqAt.canLay_of_shaped h.1), (Is.mono s dy).dp (SeqAt.canLay_of_shaped h.2), h.1, h.2, p _ H B (.refl s) (.bl _)⟩
    · exact p.elim) ha hb
theorem visnone_ {j pos'} (ha : VE X W a fa) : VE X W (.Compare a [.Is] [.Constant .none j pos'] pos) (v1 visnone fa) := by
  obtain ⟨ta, pa, qa⟩ := ha.ex
  refine VE.mk' (pe_cmp (pc_isN pa) rfl) fun σ H B ρ Q s rf p => ?_
  refine one qa s rf p fun d x H' B' ex sm dx pg => ?_
  unfold visnone at pg
  cases dx <;> exact pg _ H' B' ex (.bl _)
theorem vnotnone_ {j pos'} (ha : VE X W a fa) : VE X W (.Compare a [.IsNot] [.Constant .none j pos'] pos) (v1 (fun d => (visnone d).bind fun b => match b with | .bool b => .ok (.bool (!b)) | _ => .stuck) fa) := by
  obtain ⟨ta, pa, qa⟩ := ha.ex
  refine VE.mk' (pe_cmp (pc_notN pa) rfl) fun σ H B ρ Q s rf p => ?_
  refine one qa s rf p fun d x H' B' ex sm dx pg => ?_
  unfold visnone at pg
  cases dx <;> exact pg _ H' B' ex (.bl _)

/-! a + b of ints, texts, lists, tuples -/
def rCatL : R2 := fun x y H Q => ∃ l b xs zs, x = .ref l ∧ y = .ref b ∧ Rd H l (.lst xs) ∧ Rd H b (.lst zs) ∧ xs.length + zs.length ≤ sizeLine ∧ ∀ p, H p = none → Q (.ref p) (upd H p (.lst (xs ++ zs)))
theorem op_catL : OpR X (binaryOp .Add) rCatL := by
  intro pins t σ G x y vv uu Q J rX rY hh
  obtain ⟨a, b, xs, zs, rfl, rfl, hH, hB, hz, q⟩ := hh
  cases rX
  cases rY
  obtain ⟨z, us, n, r, e1⟩ : xs.length ≤ sizeLine ∧ ∃ (us : List Value) (n : Nat), Vals xs us ∧ t.heap.get? a = some { cls := .type "list", data := .seq us.toArray n } := hH.ok J.hok
  obtain ⟨z2, us2, n2, r2, e2⟩ : zs.length ≤ sizeLine ∧ ∃ (us : List Value) (n : Nat), Vals zs us ∧ t.heap.get? b = some { cls := .type "list", data := .seq us.toArray n } := hB.ok J.hok
  have hl := r.length
  have hl2 := r2.length
  refine PySem.P.add_list e1 e2 ?_ (by rw [List.size_toArray, List.size_toArray]; omega)
  have eu : us.toArray ++ us2.toArray = (us ++ us2).toArray := by simp
  rw [eu]
  exact ⟨.ref _, _, J.lnew (t' := t.toks) (r.append r2) (by rw [List.length_append]; omega), rfl, q _ J.fresh⟩
theorem vadd_ (ha : VE X W a fa) (hb : VE X W b fb) : VE X W (.BinOp a .Add b pos) (v2 vadd fa fb) := by
  refine ve2 (fun p q => pe_op (L2.OpR.or op_add (L2.OpR.or op_add_str (L2.OpR.or op_catL op_catA))) p q) (fun d e x y σ H B Q s sm dx dy p => ?_) ha hb
  cases dx with
  | int i =>
    cases dy <;> first | exact p.elim | exact .inl ⟨_, _, rfl, rfl, p _ H B (.refl s) (.int _)⟩
  | str z =>
    cases dy <;> first | exact p.elim | skip
    simp only [vadd] at p
    split at p
    · rename_i hz
      exact .inr (.inl ⟨_, _, rfl, rfl, hz, p _ H B (.refl s) (.str _)⟩)
    · exact p.elim
  | lst h1 h2 =>
    cases dy <;> first | exact p.elim | skip
    rename_i h3 h4
    simp only [vadd] at p
    split at p
    · rename_i hz
      refine .inr (.inr (.inl ⟨_, _, _, _, rfl, rfl, Rd.mono s h1, Rd.mono s h3, by rw [IsAll.len h2, IsAll.len h4]; exact hz, fun q hq => ?_⟩))
      exact p _ _ _ (Ext.new s hq) (.lst (.inl upd_same) (IsAll.append (IsAll.mono (Ext.new s hq).bb h2) (IsAll.mono (Ext.new s hq).bb h4)))
    · exact p.elim
  | tup h1 h2 =>
    cases dy <;> first | exact p.elim | skip
    rename_i ds1 a2 xs2 ds2 h3 h4
    simp only [vadd] at p
    split at p
    · rename_i hz
      have l1 := IsAll.len h2
      have l2 := IsAll.len h4
      refine .inr (.inr (.inr ⟨_, _, _, _, rfl, rfl, Same.tupl s h1, Same.tupl s h3, by rw [l1, l2]; exact hz, fun e1 => ?_, fun _ e2 => ?_, fun _ _ q hq => ?_⟩))
      · subst e1
        have : ds1 = [] := List.eq_nil_of_length_eq_zero (by rw [← l1]; rfl)
        subst this
        exact p _ H B (.refl s) (.tup h3 h4)
      · subst e2
        have : ds2 = [] := List.eq_nil_of_length_eq_zero (by rw [← l2]; rfl)
        subst this
        rw [List.append_nil] at p
        exact p _ H B (.refl s) (.tup h1 h2)
      · exact p _ _ _ (Ext.new s hq) (.tup (.inl (.inl upd_same)) (IsAll.append (IsAll.mono (Ext.new s hq).bb h2) (IsAll.mono (Ext.new s hq).bb h4)))
    · exact p.elim
  | non => cases dy <;> exact p.elim
  | bl _ => cases dy <;> exact p.elim
  | exc _ _ => cases dy <;> exact p.elim

/-! a[i] -/
theorem vidx_ (ha : VE X W a fa) (hb : VE X W b fb) (hs : PlainIx b := by exact fun _ _ => rfl) : VE X W (.Subscript a b pos) (v2 vidx fa fb) := by
  refine ve2 (fun p q => pe_ix ix_seq p q hs) (fun d e x y σ H B Q s sm dx dy p => ?_) ha hb
  cases dx with
  | lst h1 h2 =>
    cases dy <;> first | exact p.elim | skip
    simp only [vidx] at p
    split at p
    · rename_i d' he
      obtain ⟨v, e1, dp⟩ := atI_all h2 he
      exact .inl ⟨_, _, _, v, rfl, rfl, .inl (Rd.mono s h1), e1, p v H B (.refl s) dp⟩
    · exact p.elim
  | tup h1 h2 =>
    cases dy <;> first | exact p.elim | skip
    simp only [vidx] at p
    split at p
    · rename_i d' he
      obtain ⟨v, e1, dp⟩ := atI_all h2 he
      exact .inr (.inl ⟨_, _, _, v, rfl, rfl, Same.tupl s h1, e1, p v H B (.refl s) dp⟩)
    · exact p.elim
  | str z =>
    cases dy <;> first | exact p.elim | skip
    simp only [vidx] at p
    split at p
    · rename_i c' he
      split at p
      · rename_i hz
        exact .inr (.inr ⟨_, _, _, rfl, rfl, hz, he, p _ H B (.refl s) (.str _)⟩)
      · exact p.elim
    · exact p.elim
  | int _ => cases dy <;> exact p.elim
  | non => cases dy <;> exact p.elim
  | bl _ => cases dy <;> exact p.elim
  | exc _ _ => cases dy <;> exact p.elim

/-! ### argument lists, displays -/
def aNil : PEnv → R (List D) := fun _ => .ok []
def aCons (f : PEnv → R D) (g : PEnv → R (List D)) : PEnv → R (List D) := fun ρ => (f ρ).bind fun d => (g ρ).bind fun ds => .ok (d :: ds)
theorem va_nil : VA X W [] aNil := ⟨tNil, pa_nil, fun σ H B ρ Q s r p => p [] H B (.refl s) .nil⟩
theorem va_cons {e : Expr} {f : PEnv → R D} {g : PEnv → R (List D)} (h : VE X W e f) (t : VA X W es g) (hs : starEach (e :: es) X.env = (false, eval e X.env) :: starEach es X.env := by rfl) : VA X W (e :: es) (aCons f g) := by
  obtain ⟨ta, pa, qa⟩ := h.ex
  obtain ⟨tb, pb, qb⟩ := t.ex
  refine ⟨_, pa_cons pa pb hs, fun σ H B ρ Q s r p => ?_⟩
  refine qa σ H B ρ _ s r ?_
  unfold aCons at p
  generalize f ρ = rf at p ⊢
  cases rf with
  | stuck => exact p
  | err c => exact p
  | ok d =>
    intro x H1 B1 e1 sm1 d1
    refine qb σ H1 B1 ρ _ e1.bh (r.mono e1.bb) ?_
    simp only [R.bind_ok] at p
    generalize g ρ = rg at p ⊢
    cases rg with
    | stuck => exact p
    | err c => exact fun H' z => p H' (e1.hh.trans z)
    | ok ds =>
      intro xs H2 B2 e2 d2
      exact p _ _ _ (e1.trans e2) (.cons (Is.mono e2.bb d1) d2)
/-- from the state, the arguments, then something of them -/
theorem args {g : PEnv → R (List D)} {t : TA} (ht : ∀ σ H B ρ Q, Same B H → RF X.K B σ ρ → Pst X W σ H (KA1 X B H Q) (g ρ) → t σ H Q)
    {α : Type} {σ : L2.St} {H B : Hp} {ρ : PEnv} {G : List D → R α} {K : α → Prop} {Q : List V → Hp → Prop} (s : Same B H) (r : RF X.K B σ ρ)
    (p : Pst X W σ H K ((g ρ).bind G))
    (q : ∀ ds xs H' B', Ext B H B' H' → IsAll X.K B' xs ds → Pst X W σ H' K (G ds) → Q xs H') : t σ H Q := by
  refine ht σ H B ρ _ s r ?_
  generalize g ρ = rg at p ⊢
  cases rg with
  | stuck => exact p
  | err c => exact p
  | ok ds =>
    intro xs H1 B1 e1 d1
    refine q ds xs H1 B1 e1 d1 ?_
    simp only [R.bind_ok] at p
    generalize G ds = rr at p ⊢
    cases rr with
    | stuck => exact p
    | err c => exact fun H' z => p H' (e1.hh.trans z)
    | ok z => exact p
def vtup (g : PEnv → R (List D)) : PEnv → R D := fun ρ => (g ρ).bind fun ds => .ok (.tuple ds)
def vlst (g : PEnv → R (List D)) : PEnv → R D := fun ρ => (g ρ).bind fun ds => .ok (.list ds)
theorem es_len {es : List Expr} {t : TA} (hz : es.length ≤ 1000) : es.length ≤ sizeLine := Nat.le_trans hz (by decide)
/-- the number of the arguments -/
structure VAn (X : Cx) (W : WX) (n : Nat) (es : List Expr) (f : PEnv → R (List D)) : Prop where
  va : VA X W es f
  len : ∀ ρ ds, f ρ = .ok ds → ds.length = n
theorem van_nil : VAn X W 0 [] aNil := ⟨va_nil, fun ρ ds h => by cases h; rfl⟩
theorem van_cons {n : Nat} {e : Expr} {f : PEnv → R D} {g : PEnv → R (List D)} (h : VE X W e f) (t : VAn X W n es g) (hs : starEach (e :: es) X.env = (false, eval e X.env) :: starEach es X.env := by rfl) : VAn X W (n + 1) (e :: es) (aCons f g) :=
  ⟨va_cons h t.va hs, fun ρ ds q => by
    unfold aCons at q
    generalize f ρ = rf at q
    cases rf with
    | stuck => cases q
    | err c => cases q
    | ok d =>
      simp only [R.bind_ok] at q
      generalize hg : g ρ = rg at q
      cases rg with
      | stuck => cases q
      | err c => cases q
      | ok es' =>
        cases q
        rw [List.length_cons, t.len ρ es' hg]⟩
theorem vtup_ {n : Nat} {x1} {g : PEnv → R (List D)} (h : VAn X W n es g) (hz : n ≤ 1000 := by decide) : VE X W (.Tuple es x1 pos) (vtup g) := by
  obtain ⟨t, pt, qt⟩ := h.va.ex
  refine VE.mk' (pe_tup pt) fun σ H B ρ Q s r p => ?_
  cases hg : g ρ with
  | stuck => unfold vtup at p; rw [hg] at p; exact p.elim
  | err c => unfold vtup at p; rw [hg] at p; exact qt σ H B ρ _ s r (by rw [hg]; exact p)
  | ok ds =>
    unfold vtup at p
    rw [hg] at p
    refine qt σ H B ρ _ s r ?_
    rw [hg]
    intro xs H1 B1 e1 d1
    refine ⟨by rw [IsAll.len d1, h.len ρ ds hg]; exact Nat.le_trans hz (by decide), fun q hq => ?_⟩
    have E := Ext.new (o := HO.tup xs) e1.bh hq
    exact p _ _ _ (e1.trans E) (.tup (.inl (.inl upd_same)) (IsAll.mono E.bb d1))
theorem vlst_ {n : Nat} {g : PEnv → R (List D)} (h : VAn X W n es g) (hz : n ≤ 1000 := by decide) : VE X W (.List es pos) (vlst g) := by
  obtain ⟨t, pt, qt⟩ := h.va.ex
  refine VE.mk' (pe_lst pt) fun σ H B ρ Q s r p => ?_
  cases hg : g ρ with
  | stuck => unfold vlst at p; rw [hg] at p; exact p.elim
  | err c => unfold vlst at p; rw [hg] at p; exact qt σ H B ρ _ s r (by rw [hg]; exact p)
  | ok ds =>
    unfold vlst at p
    rw [hg] at p
    refine qt σ H B ρ _ s r ?_
    rw [hg]
    intro xs H1 B1 e1 d1
    refine ⟨by rw [IsAll.len d1, h.len ρ ds hg]; exact Nat.le_trans hz (by decide), fun q hq => ?_⟩
    have E := Ext.new (o := HO.lst xs) e1.bh hq
    exact p _ _ _ (e1.trans E) (.lst (.inl upd_same) (IsAll.mono E.bb d1))
end
end VL

namespace VL
open PySem PySem.Spec PyProof.Rows L2

/-! ### tests -/
def tbool : D → R Bool
  | .bool b => .ok b
  | _ => .stuck
def vtruth : D → R Bool
  | .none => .ok false
  | .bool b => .ok b
  | .int i => .ok (i != 0)
  | .str y => if y.length ≤ sizeLine then .ok ((y.length : Int) != 0) else .stuck
  | .list xs => .ok (!xs.isEmpty)
  | .tuple xs => .ok (!xs.isEmpty)
  | .dict _ => .stuck
section
variable {X : Cx} {W : WX} {a b c : Expr} {es : List Expr} {pos : Pos} {fa fb fc : PEnv → R D} {ft fu : PEnv → R Bool} {k : Nat}

/-- a test that is a comparison -/
theorem vt2 {e : Expr} {r : R2} {g : D → D → R D} (mk : ∀ {ta tb : TE}, PE X a ta → PE X b tb → PT X e (tTest (tOp r ta tb))) (hr : Rule2 X W r g) (hg : ∀ d e z, g d e = .ok z → ∃ k, z = .bool k) (ha : VE X W a fa) (hb : VE X W b fb) :
    VT X W e (fun ρ => (v2 g fa fb ρ).bind tbool) := by
  obtain ⟨ta, pa, qa⟩ := ha.ex
  obtain ⟨tb, pb, qb⟩ := hb.ex
  refine ⟨_, mk pa pb, fun σ H B ρ Q s rf p => ?_⟩
  have p' : Pst X W σ H (KB1 B H Q) ((fa ρ).bind fun d => (fb ρ).bind fun e => (g d e).bind tbool) := by
    unfold v2 at p
    generalize fa ρ = ra at p ⊢
    cases ra with
    | stuck => exact p
    | err c => exact p
    | ok d =>
      simp only [R.bind_ok] at p ⊢
      generalize fb ρ = rb at p ⊢
      cases rb <;> exact p
  refine two qa qb s rf p' fun d e x y H' B' ex sm dx dy pg => ?_
  refine hr d e x y σ H' B' _ ex.bh sm dx dy ?_
  generalize hge : g d e = rg at pg ⊢
  cases rg with
  | stuck => exact pg
  | err c => exact pg
  | ok z =>
    obtain ⟨k, rfl⟩ := hg d e z hge
    intro v H2 B2 e2 dv
    cases dv
    exact ⟨k, rfl, pg H2 B2 (ex.trans e2)⟩
theorem vlt_t (ha : VE X W a fa) (hb : VE X W b fb) : VT X W (.Compare a [.Lt] [b] pos) (fun ρ => (v2 vlt fa fb ρ).bind tbool) :=
  vt2 (fun p q => pt_cmpR op_lt p q (nomark _)) (r_int0 (T := fun i j => .bool (decide (i < j))) (fun d e h => by cases d <;> first | exact absurd rfl h | (cases e <;> first | exact absurd rfl h | exact ⟨_, _, rfl, rfl, rfl⟩)) fun _ _ _ => .bl _) (fun d e z h => by cases d <;> first | (cases h; done) | (cases e <;> first | (cases h; done) | (cases h; exact ⟨_, rfl⟩))) ha hb
theorem vle_t (ha : VE X W a fa) (hb : VE X W b fb) : VT X W (.Compare a [.LtE] [b] pos) (fun ρ => (v2 vle fa fb ρ).bind tbool) :=
  vt2 (fun p q => pt_cmpR op_le p q (nomark _)) (r_int0 (T := fun i j => .bool (decide (i ≤ j))) (fun d e h => by cases d <;> first | exact absurd rfl h | (cases e <;> first | exact absurd rfl h | exact ⟨_, _, rfl, rfl, rfl⟩)) fun _ _ _ => .bl _) (fun d e z h => by cases d <;> first | (cases h; done) | (cases e <;> first | (cases h; done) | (cases h; exact ⟨_, rfl⟩))) ha hb
theorem vgt_t (ha : VE X W a fa) (hb : VE X W b fb) : VT X W (.Compare a [.Gt] [b] pos) (fun ρ => (v2 vgt fa fb ρ).bind tbool) :=
  vt2 (fun p q => pt_cmpR op_gt p q (nomark _)) (r_int0 (T := fun i j => .bool (decide (j < i))) (fun d e h => by cases d <;> first | exact absurd rfl h | (cases e <;> first | exact absurd rfl h | exact ⟨_, _, rfl, rfl, rfl⟩)) fun _ _ _ => .bl _) (fun d e z h => by cases d <;> first | (cases h; done) | (cases e <;> first | (cases h; done) | (cases h; exact ⟨_, rfl⟩))) ha hb
theorem vge_t (ha : VE X W a fa) (hb : VE X W b fb) : VT X W (.Compare a [.GtE] [b] pos) (fun ρ => (v2 vge fa fb ρ).bind tbool) :=
  vt2 (fun p q => pt_cmpR op_ge p q (nomark _)) (r_int0 (T := fun i j => .bool (decide (j ≤ i))) (fun d e h => by cases d <;> first | exact absurd rfl h | (cases e <;> first | exact absurd rfl h | exact ⟨_, _, rfl, rfl, rfl⟩)) fun _ _ _ => .bl _) (fun d e z h => by cases d <;> first | (cases h; done) | (cases e <;> first | (cases h; done) | (cases h; exact ⟨_, rfl⟩))) ha hb
theorem veq_t (hr : Room k X.A) (ha : VE X W a fa) (hb : VE X W b fb) : VT X W (.Compare a [.Eq] [b] pos) (fun ρ => (v2 veq fa fb ρ).bind tbool) :=
  vt2 (fun p q => pt_cmpR (op_eqD hr.units) p q (nomark _)) rule_eq (fun d e z h => by
    unfold veq at h
    generalize vEq d e = r at h
    cases r <;> first | (cases h; done) | (cases h; exact ⟨_, rfl⟩)) ha hb
theorem vne_t (hr : Room k X.A) (ha : VE X W a fa) (hb : VE X W b fb) : VT X W (.Compare a [.NotEq] [b] pos) (fun ρ => (v2 vne fa fb ρ).bind tbool) :=
  vt2 (fun p q => pt_cmpR (op_neD hr.units) p q (nomark _)) rule_ne (fun d e z h => by
    unfold vne at h
    generalize vEq d e = r at h
    cases r <;> first | (cases h; done) | (cases h; exact ⟨_, rfl⟩)) ha hb
def vIn (d e : D) : R D := (vin d e).bind fun b => .ok (.bool b)
def vNotIn (d e : D) : R D := (vin d e).bind fun b => .ok (.bool (!b))
theorem rule_in : Rule2 X W (rInD X.K) vIn := fun d e x y σ H B Q s sm dx dy p => by
  unfold vIn at p
  cases e <;> first | exact p.elim | skip
  simp only [vin] at p
  split at p
  · rename_i h
    exact ⟨_, _, (Is.mono s dx).dp (SeqAt.canLay_of_shaped h.1), (Is.mono s dy).dp (SeqAt.canLay_of_shaped h.2), h.1, h.2, p _ H B (.refl s) (.bl _)⟩
  · exact p.elim
theorem rule_notin : Rule2 X W (rNotInD X.K) vNotIn := fun d e x y σ H B Q s sm dx dy p => by
  unfold vNotIn at p
  cases e <;> first | exact p.elim | skip
  simp only [vin] at p
  split at p
  · rename_i h
    exact ⟨_, _, (Is.mono s dx).dp (SeqAt.canLay_of_shaped h.1), (Is.mono s dy).dp (SeqAt.canLay_of_shaped h.2), h.1, h.2, p _ H B (.refl s) (.bl _)⟩
  · exact p.elim
theorem vin_t (hr : Room k X.A) (ha : VE X W a fa) (hb : VE X W b fb) (hm : behindInMarks .In b = false := by with_unfolding_all rfl) : VT X W (.Compare a [.In] [b] pos) (fun ρ => (v2 vIn fa fb ρ).bind tbool) :=
  vt2 (fun p q => pt_cmpR (op_inD (hu65 hr)) p q hm) rule_in (fun d e z h => by
    unfold vIn at h
    generalize vin d e = r at h
    cases r <;> first | (cases h; done) | (cases h; exact ⟨_, rfl⟩)) ha hb
theorem vnotin_t (hr : Room k X.A) (ha : VE X W a fa) (hb : VE X W b fb) (hm : behindInMarks .NotIn b = false := by with_unfolding_all rfl) : VT X W (.Compare a [.NotIn] [b] pos) (fun ρ => (v2 vNotIn fa fb ρ).bind tbool) :=
  vt2 (fun p q => pt_cmpR (op_notInD (hu65 hr)) p q hm) rule_notin (fun d e z h => by
    unfold vNotIn at h
    generalize vin d e = r at h
    cases r <;> first | (cases h; done) | (cases h; exact ⟨_, rfl⟩)) ha hb
/-- any value, by its truth -/
theorem vt_truth (h : VE X W a fa) (he : ∀ whole, isTrue a X.env whole = (do let v ← whole; standAt a.pos; holding [v] (truthy v)) := by intro _; rfl) : VT X W a (fun ρ => (fa ρ).bind vtruth) := by
  obtain ⟨ta, pa, qa⟩ := h.ex
  refine ⟨_, pt_truth pa he, fun σ H B ρ Q s rf p => ?_⟩
  refine one qa s rf p fun d x H' B' ex sm dx pg => ?_
  cases dx with
  | non => exact ⟨_, rfl, pg H' B' ex⟩
  | exc _ _ => exact pg.elim
  | bl b => exact ⟨_, rfl, pg H' B' ex⟩
  | int i => exact ⟨_, rfl, pg H' B' ex⟩
  | str y =>
    simp only [vtruth] at pg
    split at pg
    · rename_i hz
      exact ⟨_, ⟨hz, rfl⟩, pg H' B' ex⟩
    · exact pg.elim
  | lst h1 h2 => 
    refine ⟨_, .inl ⟨_, .inl (Rd.mono ex.bh h1), rfl⟩, ?_⟩
    have e : ∀ {vs : List V} {ds : List D}, IsAll X.K B' vs ds → (!vs.isEmpty) = (!ds.isEmpty) := fun h => by cases h <;> rfl
    rw [e h2]
    exact pg H' B' ex
  | tup h1 h2 =>
    refine ⟨_, .inr (.inl ⟨_, Same.tupl ex.bh h1, rfl⟩), ?_⟩
    have e : ∀ {vs : List V} {ds : List D}, IsAll X.K B' vs ds → (!vs.isEmpty) = (!ds.isEmpty) := fun h => by cases h <;> rfl
    rw [e h2]
    exact pg H' B' ex
/-- x is None, x is not None as tests -/
theorem visnone_t {j pos'} (ha : VE X W a fa) : VT X W (.Compare a [.Is] [.Constant .none j pos'] pos) (fun ρ => (v1 visnone fa ρ).bind tbool) := by
  obtain ⟨ta, pa, qa⟩ := ha.ex
  refine ⟨_, pt_cmp (pc_isN pa) rfl, fun σ H B ρ Q s rf p => ?_⟩
  have p' : Pst X W σ H (KB1 B H Q) ((fa ρ).bind fun d => (visnone d).bind tbool) := by
    unfold v1 at p
    generalize fa ρ = ra at p ⊢
    cases ra <;> exact p
  refine one qa s rf p' fun d x H' B' ex sm dx pg => ?_
  unfold visnone at pg
  cases dx <;> exact ⟨_, rfl, pg H' B' ex⟩
theorem vnotnone_t {j pos'} (ha : VE X W a fa) : VT X W (.Compare a [.IsNot] [.Constant .none j pos'] pos) (fun ρ => (v1 visnone fa ρ).bind fun d => (tbool d).bind fun b => .ok (!b)) := by
  obtain ⟨ta, pa, qa⟩ := ha.ex
  refine ⟨_, pt_cmp (pc_notN pa) rfl, fun σ H B ρ Q s rf p => ?_⟩
  have p' : Pst X W σ H (KB1 B H Q) ((fa ρ).bind fun d => (visnone d).bind fun d => (tbool d).bind fun b => .ok (!b)) := by
    unfold v1 at p
    generalize fa ρ = ra at p ⊢
    cases ra <;> exact p
  refine one qa s rf p' fun d x H' B' ex sm dx pg => ?_
  unfold visnone at pg
  cases dx <;> exact ⟨_, rfl, pg H' B' ex⟩

/-! and, or, not -/
structure VW (X : Cx) (W : WX) (e : Expr) (f : PEnv → R Bool) : Prop where
  ex : ∃ t, PW X e t ∧ ∀ σ H B ρ Q, Same B H → RF X.K B σ ρ → Pst X W σ H (KB1 B H Q) (f ρ) → t σ H Q
theorem VW.vt {e : Expr} (h : VW X W e ft) : VT X W e ft := by
  obtain ⟨t, p, q⟩ := h.ex
  exact ⟨t, p.pt, q⟩
def tand (f g : PEnv → R Bool) : PEnv → R Bool := fun ρ => (f ρ).bind fun b => if b then g ρ else .ok false
def tor (f g : PEnv → R Bool) : PEnv → R Bool := fun ρ => (f ρ).bind fun b => if b then .ok true else g ρ
def tnot (f : PEnv → R Bool) : PEnv → R Bool := fun ρ => (f ρ).bind fun b => .ok (!b)
theorem oneT {ta : TT} (ha : ∀ σ H B ρ Q, Same B H → RF X.K B σ ρ → Pst X W σ H (KB1 B H Q) (ft ρ) → ta σ H Q)
    {α : Type} {σ : L2.St} {H B : Hp} {ρ : PEnv} {g : Bool → R α} {K : α → Prop} {Q : Bool → Hp → Prop} (s : Same B H) (r : RF X.K B σ ρ)
    (p : Pst X W σ H K ((ft ρ).bind g))
    (q : ∀ b H' B', Ext B H B' H' → Pst X W σ H' K (g b) → Q b H') : ta σ H Q := by
  refine ha σ H B ρ _ s r ?_
  generalize ft ρ = ra at p ⊢
  cases ra with
  | stuck => exact p
  | err c => exact p
  | ok d =>
    intro H1 B1 e1
    refine q d H1 B1 e1 ?_
    simp only [R.bind_ok] at p
    generalize g d = rg at p ⊢
    cases rg with
    | stuck => exact p
    | err c => exact fun H' z => p H' (e1.hh.trans z)
    | ok z => exact p
theorem kb_ext {B H B1 H1 : Hp} {Q : Bool → Hp → Prop} {d : Bool} (e : Ext B H B1 H1) (p : KB1 B H Q d) : KB1 B1 H1 Q d := fun H' B' e' => p H' B' (e.trans e')
theorem kv1_ext {B H B1 H1 : Hp} {Q : VK} {d : D} (e : Ext B H B1 H1) (p : KV1 X B H Q d) : KV1 X B1 H1 Q d := fun v H' B' e' sm dp => p v H' B' (e.trans e') sm dp
theorem vw_and1 (h : VT X W a ft) : VW X W (.BoolOp .And [a] pos) ft := by
  obtain ⟨t, p, q⟩ := h.ex
  exact ⟨t, pw_and1 p, q⟩
theorem vw_or1 (h : VT X W a ft) : VW X W (.BoolOp .Or [a] pos) ft := by
  obtain ⟨t, p, q⟩ := h.ex
  exact ⟨t, pw_or1 p, q⟩
theorem vw_and (h : VT X W a ft) (g : VW X W (.BoolOp .And (b :: es) pos) fu) : VW X W (.BoolOp .And (a :: b :: es) pos) (tand ft fu) := by
  obtain ⟨t, p, q⟩ := h.ex
  obtain ⟨t2, p2, q2⟩ := g.ex
  refine ⟨_, pw_and p p2, fun σ H B ρ Q s rf pr => ?_⟩
  refine oneT q s rf pr fun d H' B' ex pg => ?_
  cases d with
  | true => exact iteT (q2 σ H' B' ρ Q ex.bh (rf.mono ex.bb) (Pst.imp (fun a k => kb_ext ex k) pg))
  | false => exact iteF (pg H' B' ex)
theorem vw_or (h : VT X W a ft) (g : VW X W (.BoolOp .Or (b :: es) pos) fu) : VW X W (.BoolOp .Or (a :: b :: es) pos) (tor ft fu) := by
  obtain ⟨t, p, q⟩ := h.ex
  obtain ⟨t2, p2, q2⟩ := g.ex
  refine ⟨_, pw_or p p2, fun σ H B ρ Q s rf pr => ?_⟩
  refine oneT q s rf pr fun d H' B' ex pg => ?_
  cases d with
  | false => exact iteF (q2 σ H' B' ρ Q ex.bh (rf.mono ex.bb) (Pst.imp (fun a k => kb_ext ex k) pg))
  | true => exact iteT (pg H' B' ex)
theorem vt_not (h : VT X W a ft) : VT X W (.UnaryOp .Not a pos) (tnot ft) := by
  obtain ⟨t, p, q⟩ := h.ex
  refine ⟨_, pt_not p, fun σ H B ρ Q s rf pr => ?_⟩
  exact oneT q s rf pr fun d H' B' ex pg => pg H' B' ex
/-- a if t else b -/
def vif (t : PEnv → R Bool) (f g : PEnv → R D) : PEnv → R D := fun ρ => (t ρ).bind fun b => if b then f ρ else g ρ
theorem vif_ (h : VT X W c ft) (ha : VE X W a fa) (hb : VE X W b fb) : VE X W (.IfExp c a b pos) (vif ft fa fb) := by
  obtain ⟨t, p, q⟩ := h.ex
  obtain ⟨ta, pa, qa⟩ := ha.ex
  obtain ⟨tb, pb, qb⟩ := hb.ex
  refine ⟨_, pe_ifExp p pa pb, fun σ H B ρ Q s rf pr => ?_⟩
  refine oneT q s rf pr fun d H' B' ex pg => ?_
  cases d with
  | true => exact iteT (qa σ H' B' ρ Q ex.bh (rf.mono ex.bb) (Pst.imp (fun a k => kv1_ext ex k) pg))
  | false => exact iteF (qb σ H' B' ρ Q ex.bh (rf.mono ex.bb) (Pst.imp (fun a k => kv1_ext ex k) pg))
/-! .. as values -/
def vand (f g : PEnv → R D) : PEnv → R D := fun ρ => (f ρ).bind fun d => (tbool d).bind fun b => if b then g ρ else .ok (.bool false)
def vor (f g : PEnv → R D) : PEnv → R D := fun ρ => (f ρ).bind fun d => (tbool d).bind fun b => if b then .ok (.bool true) else g ρ
def vnot (f : PEnv → R D) : PEnv → R D := fun ρ => (f ρ).bind fun d => (tbool d).bind fun b => .ok (.bool (!b))
theorem vone {op} (h : VE X W a fa) : VE X W (.BoolOp op [a] pos) fa := by
  obtain ⟨t, p, q⟩ := h.ex
  exact ⟨t, pe_one p, q⟩
theorem vand_ (h : VE X W a fa) (g : VE X W (.BoolOp .And (b :: es) pos) fb) : VE X W (.BoolOp .And (a :: b :: es) pos) (vand fa fb) := by
  obtain ⟨t, p, q⟩ := h.ex
  obtain ⟨t2, p2, q2⟩ := g.ex
  refine ⟨_, pe_and p p2, fun σ H B ρ Q s rf pr => ?_⟩
  refine one q s rf pr fun d x H' B' ex sm dx pg => ?_
  cases dx <;> first | exact pg.elim | skip
  rename_i b
  refine ⟨b, rfl, ?_⟩
  cases b with
  | true => exact iteT (q2 σ H' B' ρ Q ex.bh (rf.mono ex.bb) (Pst.imp (fun a k => kv1_ext ex k) pg))
  | false => exact iteF (pg _ H' B' ex sm (.bl _))
theorem vor_ (h : VE X W a fa) (g : VE X W (.BoolOp .Or (b :: es) pos) fb) : VE X W (.BoolOp .Or (a :: b :: es) pos) (vor fa fb) := by
  obtain ⟨t, p, q⟩ := h.ex
  obtain ⟨t2, p2, q2⟩ := g.ex
  refine ⟨_, pe_or p p2, fun σ H B ρ Q s rf pr => ?_⟩
  refine one q s rf pr fun d x H' B' ex sm dx pg => ?_
  cases dx <;> first | exact pg.elim | skip
  rename_i b
  refine ⟨b, rfl, ?_⟩
  cases b with
  | false => exact iteF (q2 σ H' B' ρ Q ex.bh (rf.mono ex.bb) (Pst.imp (fun a k => kv1_ext ex k) pg))
  | true => exact iteT (pg _ H' B' ex sm (.bl _))
theorem vnot_ (h : VE X W a fa) : VE X W (.UnaryOp .Not a pos) (vnot fa) := by
  obtain ⟨t, p, q⟩ := h.ex
  refine VE.mk' (pe_not p) fun σ H B ρ Q s rf pr => ?_
  refine one q s rf pr fun d x H' B' ex sm dx pg => ?_
  cases dx <;> first | exact pg.elim | exact ⟨_, rfl, pg _ H' B' ex (.bl _)⟩
/-! a op b op' c, ints -/
def vchain (g g' : D → D → R D) (fa fb fc : PEnv → R D) : PEnv → R D := fun ρ => (fa ρ).bind fun d => (fb ρ).bind fun e => (g d e).bind fun z => (tbool z).bind fun k => if k then (fc ρ).bind fun f => g' e f else .ok (.bool false)
/-- what a comparison of ints asks and gives -/
structure IntCmp (X : Cx) (op : CmpOp) (p : Int → Int → Bool) (g : D → D → R D) : Prop where
  op : OpR X (compareOp op) (rI0 fun i j => .bl (p i j))
  g : ∀ d e, g d e ≠ .stuck → ∃ i j, d = .int i ∧ e = .int j ∧ g d e = .ok (.bool (p i j))
theorem ic_lt : IntCmp X .Lt (fun i j => decide (i < j)) vlt := ⟨op_lt, fun d e h => by cases d <;> first | exact absurd rfl h | (cases e <;> first | exact absurd rfl h | exact ⟨_, _, rfl, rfl, rfl⟩)⟩
theorem ic_le : IntCmp X .LtE (fun i j => decide (i ≤ j)) vle := ⟨op_le, fun d e h => by cases d <;> first | exact absurd rfl h | (cases e <;> first | exact absurd rfl h | exact ⟨_, _, rfl, rfl, rfl⟩)⟩
theorem ic_gt : IntCmp X .Gt (fun i j => decide (j < i)) vgt := ⟨op_gt, fun d e h => by cases d <;> first | exact absurd rfl h | (cases e <;> first | exact absurd rfl h | exact ⟨_, _, rfl, rfl, rfl⟩)⟩
theorem ic_ge : IntCmp X .GtE (fun i j => decide (j ≤ i)) vge := ⟨op_ge, fun d e h => by cases d <;> first | exact absurd rfl h | (cases e <;> first | exact absurd rfl h | exact ⟨_, _, rfl, rfl, rfl⟩)⟩
theorem chain_ok {op op' : CmpOp} {p p' : Int → Int → Bool} {g g' : D → D → R D} {ta tb tc : TE} (i1 : IntCmp X op p g) (i2 : IntCmp X op' p' g') (ha : ∀ σ H B ρ Q, Same B H → RF X.K B σ ρ → Pst X W σ H (KV1 X B H Q) (fa ρ) → ta σ H Q) (hb : ∀ σ H B ρ Q, Same B H → RF X.K B σ ρ → Pst X W σ H (KV1 X B H Q) (fb ρ) → tb σ H Q)
    (hc : ∀ σ H B ρ Q, Same B H → RF X.K B σ ρ → Pst X W σ H (KV1 X B H Q) (fc ρ) → tc σ H Q) {σ : L2.St} {H B : Hp} {ρ : PEnv} {Q : VK} (s : Same B H) (rf : RF X.K B σ ρ)
    (pr : Pst X W σ H (fun d => ∀ v H' B', Ext B H B' H' → Is X.K B' v d → Q v H') (vchain g g' fa fb fc ρ)) : tChain (rI0 fun i j => .bl (p i j)) (rI0 fun i j => .bl (p' i j)) ta tb tc σ H Q := by
  unfold vchain at pr
  refine two ha hb s rf pr fun d e x y H' B' ex sm dx dy pg => ?_
  have h0 : g d e ≠ .stuck := fun z => by rw [z] at pg; exact pg
  obtain ⟨i, j, rfl, rfl, eg⟩ := i1.g d e h0
  rw [eg] at pg
  cases dx
  cases dy
  refine ⟨i, j, rfl, rfl, p i j, rfl, ?_⟩
  simp only [R.bind_ok, tbool] at pg
  cases hp : p i j with
  | false =>
    rw [hp] at pg
    exact iteF (pg _ H' B' ex (.bl _))
  | true =>
    rw [hp] at pg
    refine iteT ?_
    simp only [if_true] at pg
    refine one hc ex.bh (rf.mono ex.bb) pg fun f z H2 B2 ex2 sm2 dz pg2 => ?_
    have h1 : g' (.int j) f ≠ .stuck := fun z => by rw [z] at pg2; exact pg2
    obtain ⟨j', m, ej, rfl, eg2⟩ := i2.g _ f h1
    cases ej
    rw [eg2] at pg2
    cases dz
    exact ⟨_, m, rfl, rfl, pg2 _ H2 B2 (ex.trans ex2) (.bl _)⟩
theorem vchain_ {op op' : CmpOp} {p p' : Int → Int → Bool} {g g' : D → D → R D} (i1 : IntCmp X op p g) (i2 : IntCmp X op' p' g') (ha : VE X W a fa) (hb : VE X W b fb) (hc : VE X W c fc) (hm : lastMarks [op, op'] [b, c] = false := by with_unfolding_all rfl) :
    VE X W (.Compare a [op, op'] [b, c] pos) (vchain g g' fa fb fc) := by
  obtain ⟨ta, pa, qa⟩ := ha.ex
  obtain ⟨tb, pb, qb⟩ := hb.ex
  obtain ⟨tc, pc, qc⟩ := hc.ex
  exact VE.mk' (pe_chain i1.op i2.op pa pb pc hm) fun σ H B ρ Q s rf pr => chain_ok i1 i2 qa qb qc s rf pr
theorem vchain_t {op op' : CmpOp} {p p' : Int → Int → Bool} {g g' : D → D → R D} (i1 : IntCmp X op p g) (i2 : IntCmp X op' p' g') (ha : VE X W a fa) (hb : VE X W b fb) (hc : VE X W c fc) (hm : lastMarks [op, op'] [b, c] = false := by with_unfolding_all rfl) :
    VT X W (.Compare a [op, op'] [b, c] pos) (fun ρ => (vchain g g' fa fb fc ρ).bind tbool) := by
  obtain ⟨ta, pa, qa⟩ := ha.ex
  obtain ⟨tb, pb, qb⟩ := hb.ex
  obtain ⟨tc, pc, qc⟩ := hc.ex
  refine ⟨_, pt_chain i1.op i2.op pa pb pc hm, fun σ H B ρ Q s rf pr => ?_⟩
  refine chain_ok i1 i2 qa qb qc s rf ?_
  generalize vchain g g' fa fb fc ρ = r at pr ⊢
  cases r with
  | stuck => exact pr
  | err c => exact pr
  | ok z =>
    intro v H' B' ex dz
    simp only [R.bind_ok] at pr
    cases dz <;> first | exact pr.elim | exact ⟨_, rfl, pr H' B' ex⟩

/-! ### calls -/
/-- what a built-in's rule asks is given by g -/
def RuleC (X : Cx) (W : WX) (r : List V → Hp → VK → Prop) (g : List D → R D) : Prop := ∀ ds vs σ H B Q, Same B H → IsAll X.K B vs ds → Pst X W σ H (fun d' => ∀ v H' B', Ext B H B' H' → Is X.K B' v d' → Q v H') (g ds) → r vs H Q
def vapp (g : List D → R D) (f : PEnv → R (List D)) : PEnv → R D := fun ρ => (f ρ).bind g
theorem vcB {x : Str} {id : String} {r : List V → Hp → VK → Prop} {g : List D → R D} {f : PEnv → R (List D)} {p : Pos} {e : Expr} (hc : CallR X (.builtin id) r) (hr : RuleC X W r g) (hm : X.mg x = none) (hv : bootBuiltins x = some (.builtin id)) (ha : VA X W (e :: es) f)
    (hg : Gl X x := by rfl) (hn : x ≠ "__name__" := by decide) (hdb : (x == ("__debug__" : Str)) = false := by decide)
    (he : starEach (e :: es) X.env = (false, eval e X.env) :: starEach es X.env := by rfl) (hpl : (backTo pos (starEach es X.env)).any (·.1) = false := by rfl) : VE X W (.Call (.Name x p) (e :: es) [] pos) (vapp g f) := by
  obtain ⟨t, pt, qt⟩ := ha.ex
  refine VE.mk' (pe_callB hc hg hm hv pt hn hdb he hpl) fun σ H B ρ Q s rf pr => ?_
  exact args qt s rf pr fun ds xs H' B' ex dx pg => hr ds xs σ H' B' Q ex.bh dx (Pst.imp (fun a k => kv_ext ex k) pg)
theorem vcT {x : Str} {T : String} {r : List V → Hp → VK → Prop} {g : List D → R D} {f : PEnv → R (List D)} {p : Pos} {e : Expr} (hc : CallR X (.type T) r) (hr : RuleC X W r g) (hm : X.mg x = none) (hv : bootBuiltins x = some (.type T)) (ha : VA X W (e :: es) f)
    (hg : Gl X x := by rfl) (hn : x ≠ "__name__" := by decide) (hdb : (x == ("__debug__" : Str)) = false := by decide)
    (he : starEach (e :: es) X.env = (false, eval e X.env) :: starEach es X.env := by rfl) (hpl : (backTo pos (starEach es X.env)).any (·.1) = false := by rfl) : VE X W (.Call (.Name x p) (e :: es) [] pos) (vapp g f) := by
  obtain ⟨t, pt, qt⟩ := ha.ex
  refine VE.mk' (pe_callTy hc hg hm hv pt hn hdb he hpl) fun σ H B ρ Q s rf pr => ?_
  exact args qt s rf pr fun ds xs H' B' ex dx pg => hr ds xs σ H' B' Q ex.bh dx (Pst.imp (fun a k => kv_ext ex k) pg)
/-- what a def promises: its n arguments are data, its answer is g of them -/
def spV (K : PySem.W.Frag) (mg : Str → Option Value) (n : Nat) (g : List D → R D) : Sp := fun vs H Q E => vs.length = n ∧ ∃ ds B, Same B H ∧ IsAll K B vs ds ∧
  match g ds with
  | .stuck => False
  | .err c => ∀ H', Same H H' → ∃ C, mg c = some (.ref C) ∧ E (.ref C) none H'
  | .ok d => ∀ v H' B', Ext B H B' H' → Is K B' v d → Q v H'
theorem vcall {x : Str} {f : Addr} {fd : FuncData} {ps : List Str} {n : Nat} {g : List D → R D} {fa : PEnv → R (List D)} {p : Pos} {e : Expr} (F : FnOk X.prog X.w X.K X.mg X.base (L2.CX X.prog X.w) k f fd ps (spV X.K X.mg n g)) (hr : Room k X.A) (hm : X.mg x = some (.ref f)) (hk : PySem.W.keepIn X.K (.ref f) = true) (hb : Binds X.K fd ps [])
    (tk : Takes X W) (ha : VAn X W n (e :: es) fa) (hg : Gl X x := by rfl) (hdb : (x == ("__debug__" : Str)) = false := by decide) (he : starEach (e :: es) X.env = (false, eval e X.env) :: starEach es X.env := by rfl) (hpl : (backTo pos (starEach es X.env)).any (·.1) = false := by rfl) :
    VE X W (.Call (.Name x p) (e :: es) [] pos) (vapp g fa) := by
  obtain ⟨t, pt, qt⟩ := ha.va.ex
  refine VE.mk' (pe_callS F hr hg hm hk hb (fun σ => passAt tk σ) pt hdb he hpl) fun σ H B ρ Q s rf pr => ?_
  have hl := ha.len ρ
  unfold vapp at pr
  generalize hfa : fa ρ = rr at pr hl
  cases rr with
  | stuck => exact pr.elim
  | err c => exact qt σ H B ρ _ s rf (by rw [hfa]; exact pr)
  | ok ds =>
    refine qt σ H B ρ _ s rf ?_
    rw [hfa]
    intro xs H1 B1 e1 dx
    refine ⟨by rw [IsAll.len dx]; exact hl ds rfl, ds, B1, e1.bh, dx, ?_⟩
    simp only [R.bind_ok] at pr
    generalize g ds = rg at pr ⊢
    cases rg with
    | stuck => exact pr
    | err c => exact fun H' z => pr H' (e1.hh.trans z)
    | ok d => exact fun v H' B' e' dv => pr v H' B' (e1.trans e') dv
theorem vcall0 {x : Str} {f : Addr} {fd : FuncData} {ps : List Str} {g : List D → R D} {p : Pos} (F : FnOk X.prog X.w X.K X.mg X.base (L2.CX X.prog X.w) k f fd ps (spV X.K X.mg 0 g)) (hr : Room k X.A) (hm : X.mg x = some (.ref f)) (hk : PySem.W.keepIn X.K (.ref f) = true) (hb : Binds X.K fd ps [])
    (tk : Takes X W) (hg : Gl X x := by rfl) (hdb : (x == ("__debug__" : Str)) = false := by decide) : VE X W (.Call (.Name x p) [] [] pos) (fun _ => g []) := by
  have mk : PE X (.Call (.Name x p) [] [] pos) (tCallS (spV X.K X.mg 0 g) (WE W) tNil) := by
    refine ⟨fun pins s σ H Q J hh => wpAny_Call_Name_kw (ld_glob J hg hm ?_ hdb)⟩
    exact PySem.W.callWith_K0 J.kIn hk (run_fnS (us := []) (E := WE W) F hr hb (passAt tk σ) J .nil hh)
  refine VE.mk' mk fun σ H B ρ Q s rf pr => ?_
  refine ⟨rfl, [], B, s, .nil, ?_⟩
  generalize g [] = rg at pr ⊢
  cases rg <;> exact pr
end
end VL

namespace VL
open PySem PySem.Spec PyProof.Rows L2

/-! ### built-ins on data -/
def vlen : List D → R D
  | [.list xs] => .ok (.int xs.length)
  | [.tuple xs] => .ok (.int xs.length)
  | [.str z] => if z.length ≤ sizeLine then .ok (.int z.length) else .stuck
  | _ => .stuck
def vint1 : List D → R D
  | [.int i] => .ok (.int i)
  | [.bool k] => .ok (.int (if k then 1 else 0))
  | _ => .stuck
def vabs : List D → R D
  | [.int i] => .ok (.int (if i < 0 then -i else i))
  | _ => .stuck
def vtuple1 : List D → R D
  | [.list xs] => .ok (.tuple xs)
  | [.tuple xs] => .ok (.tuple xs)
  | _ => .stuck
def vlist1 : List D → R D
  | [.list xs] => .ok (.list xs)
  | [.tuple xs] => .ok (.list xs)
  | _ => .stuck
/-- the ints of a list of data -/
def intsOf : List D → Option (List Int)
  | [] => some []
  | .int i :: r => (intsOf r).map (i :: ·)
  | _ :: _ => none
def boolsOf : List D → Option (List Bool)
  | [] => some []
  | .bool i :: r => (boolsOf r).map (i :: ·)
  | _ :: _ => none
def vsum : List D → R D
  | [.list xs] => match intsOf xs with | some ns => .ok (.int ns.sum) | none => .stuck
  | _ => .stuck
def vmax1 (ns : List Int) : R D := match ns.max? with | some m => .ok (.int m) | none => .stuck
def vmin1 (ns : List Int) : R D := match ns.min? with | some m => .ok (.int m) | none => .stuck
def vmax : List D → R D
  | [.list xs] => match intsOf xs with | some ns => vmax1 ns | none => .stuck
  | [.int i, .int j] => .ok (.int (if j > i then j else i))
  | _ => .stuck
def vmin : List D → R D
  | [.list xs] => match intsOf xs with | some ns => vmin1 ns | none => .stuck
  | [.int i, .int j] => .ok (.int (if j < i then j else i))
  | _ => .stuck
def vall : List D → R D
  | [.list xs] => match boolsOf xs with | some bs => .ok (.bool (bs.all id)) | none => .stuck
  | _ => .stuck
def vany : List D → R D
  | [.list xs] => match boolsOf xs with | some bs => .ok (.bool (bs.any id)) | none => .stuck
  | _ => .stuck
theorem intsOf_some : ∀ {ds : List D} {ns : List Int}, intsOf ds = some ns → ds = ns.map PyData.int
  | [], ns, h => by cases h; rfl
  | .int i :: r, ns, h => by
    simp only [intsOf] at h
    cases q : intsOf r with
    | none => rw [q] at h; cases h
    | some ms =>
      rw [q] at h
      cases h
      rw [List.map_cons, intsOf_some q]
  | .none :: _, _, h => by cases h
  | .bool _ :: _, _, h => by cases h
  | .str _ :: _, _, h => by cases h
  | .list _ :: _, _, h => by cases h
  | .tuple _ :: _, _, h => by cases h
  | .dict _ :: _, _, h => by cases h
theorem boolsOf_some : ∀ {ds : List D} {ns : List Bool}, boolsOf ds = some ns → ds = ns.map PyData.bool
  | [], ns, h => by cases h; rfl
  | .bool i :: r, ns, h => by
    simp only [boolsOf] at h
    cases q : boolsOf r with
    | none => rw [q] at h; cases h
    | some ms =>
      rw [q] at h
      cases h
      rw [List.map_cons, boolsOf_some q]
  | .none :: _, _, h => by cases h
  | .int _ :: _, _, h => by cases h
  | .str _ :: _, _, h => by cases h
  | .list _ :: _, _, h => by cases h
  | .tuple _ :: _, _, h => by cases h
  | .dict _ :: _, _, h => by cases h
theorem intsOf_map (ns : List Int) : intsOf (ns.map PyData.int) = some ns := by
  induction ns with
  | nil => rfl
  | cons n r ih => rw [List.map_cons]; simp only [intsOf, ih]; rfl
theorem boolsOf_map (ns : List Bool) : boolsOf (ns.map PyData.bool) = some ns := by
  induction ns with
  | nil => rfl
  | cons n r ih => rw [List.map_cons]; simp only [boolsOf, ih]; rfl
theorem is_ints {K : PySem.W.Frag} {F : Hp} : ∀ {ns : List Int} {vs : List V}, IsAll K F vs (ns.map PyData.int) → vs = ns.map V.int
  | [], _, h => by cases h; rfl
  | n :: r, _, h => by
    rw [List.map_cons] at h
    cases h with
    | cons h1 h2 => cases h1; rw [is_ints h2, List.map_cons]
theorem is_bools {K : PySem.W.Frag} {F : Hp} : ∀ {ns : List Bool} {vs : List V}, IsAll K F vs (ns.map PyData.bool) → vs = ns.map V.bl
  | [], _, h => by cases h; rfl
  | n :: r, _, h => by
    rw [List.map_cons] at h
    cases h with
    | cons h1 h2 => cases h1; rw [is_bools h2, List.map_cons]
theorem CallR.or {X : Cx} {f : Value} {r r' : List V → Hp → VK → Prop} (h : CallR X f r) (h' : CallR X f r') : CallR X f (fun xs H Q => r xs H Q ∨ r' xs H Q) := L2.CallR.or h h'

section
variable {X : Cx} {W : WX} {a b c : Expr} {es : List Expr} {pos : Pos} {fa fb fc : PEnv → R D} {ft fu : PEnv → R Bool} {k : Nat}

theorem rc_len : RuleC X W (fun xs H Q => (∃ p ys, xs = [.ref p] ∧ (SqL X.K H p ys ∨ SqT X.K H p ys) ∧ Q (.int ys.length) H) ∨ ∃ z, xs = [.str z] ∧ z.length ≤ sizeLine ∧ Q (.int z.length) H) vlen := fun ds vs σ H B Q s dx p => by
  cases dx with
  | nil => exact p.elim
  | cons h1 h2 =>
    cases h2 with
    | cons _ _ => cases h1 <;> exact p.elim
    | nil =>
      cases h1 <;> first | exact p.elim | skip
      · simp only [vlen] at p
        split at p
        · rename_i hz
          exact .inr ⟨_, rfl, hz, p _ H B (.refl s) (.int _)⟩
        · exact p.elim
      · rename_i h3 h4
        refine .inl ⟨_, _, rfl, .inl (.inl (Rd.mono s h3)), ?_⟩
        rw [IsAll.len h4]
        exact p _ H B (.refl s) (.int _)
      · rename_i h3 h4
        refine .inl ⟨_, _, rfl, .inr (Same.tupl s h3), ?_⟩
        rw [IsAll.len h4]
        exact p _ H B (.refl s) (.int _)
theorem vlen_ {f : PEnv → R (List D)} {p : Pos} {e : Expr} (hm : X.mg "len" = none) (ha : VA X W [e] f) (hg : Gl X "len" := by rfl) (he : starEach [e] X.env = (false, eval e X.env) :: starEach [] X.env := by rfl) (hpl : (backTo pos (starEach [] X.env)).any (·.1) = false := by rfl) :
    VE X W (.Call (.Name "len" p) [e] [] pos) (vapp vlen f) := vcB (L2.CallR.or call_len_seq call_len_str) rc_len hm boot_len ha hg (by decide) (by decide) he hpl
theorem rc_int : RuleC X W (fun xs H Q => (∃ i, xs = [.int i] ∧ Q (.int i) H) ∨ ∃ k, xs = [.bl k] ∧ Q (.int (if k then 1 else 0)) H) vint1 := fun ds vs σ H B Q s dx p => by
  cases dx with
  | nil => exact p.elim
  | cons h1 h2 =>
    cases h2 with
    | cons _ _ => cases h1 <;> exact p.elim
    | nil =>
      cases h1 <;> first | exact p.elim | skip
      · exact .inr ⟨_, rfl, p _ H B (.refl s) (.int _)⟩
      · exact .inl ⟨_, rfl, p _ H B (.refl s) (.int _)⟩
theorem vint_ {f : PEnv → R (List D)} {p : Pos} {e : Expr} (hm : X.mg "int" = none) (ha : VA X W [e] f) (hg : Gl X "int" := by rfl) (he : starEach [e] X.env = (false, eval e X.env) :: starEach [] X.env := by rfl) (hpl : (backTo pos (starEach [] X.env)).any (·.1) = false := by rfl) :
    VE X W (.Call (.Name "int" p) [e] [] pos) (vapp vint1 f) := vcT call_int1 rc_int hm boot_int ha hg (by decide) (by decide) he hpl
theorem rc_abs : RuleC X W (fun xs H Q => ∃ i, xs = [.int i] ∧ Q (.int (if i < 0 then -i else i)) H) vabs := fun ds vs σ H B Q s dx p => by
  cases dx with
  | nil => exact p.elim
  | cons h1 h2 =>
    cases h2 with
    | cons _ _ => cases h1 <;> exact p.elim
    | nil =>
      cases h1 <;> first | exact p.elim | exact ⟨_, rfl, p _ H B (.refl s) (.int _)⟩
theorem vabs_ {f : PEnv → R (List D)} {p : Pos} {e : Expr} (hm : X.mg "abs" = none) (ha : VA X W [e] f) (hg : Gl X "abs" := by rfl) (he : starEach [e] X.env = (false, eval e X.env) :: starEach [] X.env := by rfl) (hpl : (backTo pos (starEach [] X.env)).any (·.1) = false := by rfl) :
    VE X W (.Call (.Name "abs" p) [e] [] pos) (vapp vabs f) := vcB call_abs rc_abs hm (by decide +kernel) ha hg (by decide) (by decide) he hpl
def rTup1 (K : PySem.W.Frag) : List V → Hp → VK → Prop := fun xs H Q => ∃ p ys, xs = [.ref p] ∧ ((SqL K H p ys ∧ ∀ l, H l = none → Q (.ref l) (upd H l (.tup ys))) ∨ (SqT K H p ys ∧ Q (.ref p) H))
theorem rc_tuple : RuleC X W (rTup1 X.K) vtuple1 := fun ds vs σ H B Q s dx p => by
  cases dx with
  | nil => exact p.elim
  | cons h1 h2 =>
    cases h2 with
    | cons _ _ => cases h1 <;> exact p.elim
    | nil =>
      cases h1 <;> first | exact p.elim | skip
      · rename_i h3 h4
        exact ⟨_, _, rfl, .inl ⟨.inl (Rd.mono s h3), fun l hl => p _ _ _ (Ext.new s hl) (.tup (.inl (.inl upd_same)) (IsAll.mono (Ext.new s hl).bb h4))⟩⟩
      · rename_i h3 h4
        exact ⟨_, _, rfl, .inr ⟨Same.tupl s h3, p _ H B (.refl s) (.tup h3 h4)⟩⟩
theorem vtuple_ {f : PEnv → R (List D)} {p : Pos} {e : Expr} (hm : X.mg "tuple" = none) (ha : VA X W [e] f) (hg : Gl X "tuple" := by rfl) (he : starEach [e] X.env = (false, eval e X.env) :: starEach [] X.env := by rfl) (hpl : (backTo pos (starEach [] X.env)).any (·.1) = false := by rfl) :
    VE X W (.Call (.Name "tuple" p) [e] [] pos) (vapp vtuple1 f) := vcT call_tuple_of rc_tuple hm (by decide +kernel) ha hg (by decide) (by decide) he hpl
def rList1 (K : PySem.W.Frag) : List V → Hp → VK → Prop := fun xs H Q => ∃ p ys, xs = [.ref p] ∧ (SqL K H p ys ∨ SqT K H p ys) ∧ ∀ l, H l = none → Q (.ref l) (upd H l (.lst ys))
theorem rc_list : RuleC X W (rList1 X.K) vlist1 := fun ds vs σ H B Q s dx p => by
  cases dx with
  | nil => exact p.elim
  | cons h1 h2 =>
    cases h2 with
    | cons _ _ => cases h1 <;> exact p.elim
    | nil =>
      cases h1 <;> first | exact p.elim | skip
      · rename_i h3 h4
        exact ⟨_, _, rfl, .inl (.inl (Rd.mono s h3)), fun l hl => p _ _ _ (Ext.new s hl) (.lst (.inl upd_same) (IsAll.mono (Ext.new s hl).bb h4))⟩
      · rename_i h3 h4
        exact ⟨_, _, rfl, .inr (Same.tupl s h3), fun l hl => p _ _ _ (Ext.new s hl) (.lst (.inl upd_same) (IsAll.mono (Ext.new s hl).bb h4))⟩
theorem vlist_ {f : PEnv → R (List D)} {p : Pos} {e : Expr} (hm : X.mg "list" = none) (ha : VA X W [e] f) (hg : Gl X "list" := by rfl) (he : starEach [e] X.env = (false, eval e X.env) :: starEach [] X.env := by rfl) (hpl : (backTo pos (starEach [] X.env)).any (·.1) = false := by rfl) :
    VE X W (.Call (.Name "list" p) [e] [] pos) (vapp vlist1 f) := vcT call_list_of rc_list hm (by decide +kernel) ha hg (by decide) (by decide) he hpl
/-- one list of ints -/
theorem one_list {r : List V → Hp → VK → Prop} {g : List D → R D} {h : List Int → R D} (hg : ∀ ds, g ds ≠ .stuck → ∃ xs ns, ds = [.list xs] ∧ intsOf xs = some ns ∧ g ds = h ns)
    (hr : ∀ a ns σ H B Q, Same B H → SqL X.K H a (ns.map V.int) → Pst X W σ H (fun d' => ∀ v H' B', Ext B H B' H' → Is X.K B' v d' → Q v H') (h ns) → r [.ref a] H Q) : RuleC X W r g := fun ds vs σ H B Q s dx p => by
  have h0 : g ds ≠ .stuck := fun z => by rw [z] at p; exact p
  obtain ⟨xs, ns, rfl, hi, eg⟩ := hg ds h0
  rw [eg] at p
  cases dx with
  | cons h1 h2 =>
    cases h2
    cases h1 with
    | lst h3 h4 =>
      rw [intsOf_some hi] at h4
      have e := is_ints h4
      subst e
      exact hr _ ns σ H B Q s (.inl (Rd.mono s h3)) p
theorem list_case {g : List D → R D} {h : List Int → R D} {g' : List D → R D} (e1 : ∀ xs, g [.list xs] = match intsOf xs with | some ns => h ns | none => .stuck) (ds : List D) (h0 : g ds ≠ .stuck) (hd : ∃ xs, ds = [.list xs]) : ∃ xs ns, ds = [.list xs] ∧ intsOf xs = some ns ∧ g ds = h ns := by
  obtain ⟨xs, rfl⟩ := hd
  rw [e1] at h0 ⊢
  cases q : intsOf xs with
  | none => rw [q] at h0; exact absurd rfl h0
  | some ns => exact ⟨xs, ns, rfl, q, rfl⟩
theorem rc_sum : RuleC X W (rSum X.K) vsum := one_list (h := fun ns => .ok (.int ns.sum)) (fun ds h0 => list_case (g' := vsum) (fun xs => rfl) ds h0 (by
    cases ds with
    | nil => exact absurd rfl h0
    | cons d r => cases r with
      | nil => cases d <;> first | exact absurd rfl h0 | exact ⟨_, rfl⟩
      | cons _ _ => cases d <;> exact absurd rfl h0))
  fun a ns σ H B Q s h p => ⟨a, ns, rfl, h, p _ H B (.refl s) (.int _)⟩
theorem vsum_ {f : PEnv → R (List D)} {p : Pos} {e : Expr} (hc : X.calm = true) (hm : X.mg "sum" = none) (ha : VA X W [e] f) (hg : Gl X "sum" := by rfl) (he : starEach [e] X.env = (false, eval e X.env) :: starEach [] X.env := by rfl) (hpl : (backTo pos (starEach [] X.env)).any (·.1) = false := by rfl) :
    VE X W (.Call (.Name "sum" p) [e] [] pos) (vapp vsum f) := vcB (cr_sum hc) rc_sum hm (by decide +kernel) ha hg (by decide) (by decide) he hpl
theorem max_eq {ns : List Int} {m : Int} (h : m ∈ ns) (hl : ∀ y, y ∈ ns → y ≤ m) : ns.max? = some m := (List.max?_eq_some_iff).mpr ⟨h, hl⟩
theorem min_eq {ns : List Int} {m : Int} (h : m ∈ ns) (hl : ∀ y, y ∈ ns → m ≤ y) : ns.min? = some m := (List.min?_eq_some_iff).mpr ⟨h, hl⟩
theorem rc_max : RuleC X W (fun xs H Q => rMax X.K xs H Q ∨ ∃ i j, xs = [.int i, .int j] ∧ Q (.int (if j > i then j else i)) H) vmax := fun ds vs σ H B Q s dx p => by
  cases dx with
  | nil => exact p.elim
  | cons h1 h2 =>
    cases h2 with
    | cons h3 h4 =>
      cases h4 with
      | nil => cases h1 <;> first | exact p.elim | (cases h3 <;> first | exact p.elim | exact .inr ⟨_, _, rfl, p _ H B (.refl s) (.int _)⟩)
      | cons _ _ => cases h1 <;> first | exact p.elim | (cases h3 <;> exact p.elim)
    | nil =>
      cases h1 <;> first | exact p.elim | skip
      rename_i h3 h4
      simp only [vmax] at p
      split at p
      · rename_i ns hi
        rw [intsOf_some hi] at h4
        have e := is_ints h4
        subst e
        refine .inl ⟨_, ns, rfl, .inl (Rd.mono s h3), ?_, fun m hm hl => ?_⟩
        · cases ns with
          | nil => exact p.elim
          | cons _ _ => simp
        · unfold vmax1 at p
          rw [max_eq hm hl] at p
          exact p _ H B (.refl s) (.int _)
      · exact p.elim
theorem rc_min : RuleC X W (fun xs H Q => rMin X.K xs H Q ∨ ∃ i j, xs = [.int i, .int j] ∧ Q (.int (if j < i then j else i)) H) vmin := fun ds vs σ H B Q s dx p => by
  cases dx with
  | nil => exact p.elim
  | cons h1 h2 =>
    cases h2 with
    | cons h3 h4 =>
      cases h4 with
      | nil => cases h1 <;> first | exact p.elim | (cases h3 <;> first | exact p.elim | exact .inr ⟨_, _, rfl, p _ H B (.refl s) (.int _)⟩)
      | cons _ _ => cases h1 <;> first | exact p.elim | (cases h3 <;> exact p.elim)
    | nil =>
      cases h1 <;> first | exact p.elim | skip
      rename_i h3 h4
      simp only [vmin] at p
      split at p
      · rename_i ns hi
        rw [intsOf_some hi] at h4
        have e := is_ints h4
        subst e
        refine .inl ⟨_, ns, rfl, .inl (Rd.mono s h3), ?_, fun m hm hl => ?_⟩
        · cases ns with
          | nil => exact p.elim
          | cons _ _ => simp
        · unfold vmin1 at p
          rw [min_eq hm hl] at p
          exact p _ H B (.refl s) (.int _)
      · exact p.elim
theorem vmax_ {f : PEnv → R (List D)} {p : Pos} {e : Expr} (hc : X.calm = true) (hm : X.mg "max" = none) (ha : VA X W (e :: es) f) (hg : Gl X "max" := by rfl) (he : starEach (e :: es) X.env = (false, eval e X.env) :: starEach es X.env := by rfl) (hpl : (backTo pos (starEach es X.env)).any (·.1) = false := by rfl) :
    VE X W (.Call (.Name "max" p) (e :: es) [] pos) (vapp vmax f) := vcB (L2.CallR.or (cr_max hc) (call_max2 hc)) rc_max hm (by decide +kernel) ha hg (by decide) (by decide) he hpl
theorem vmin_ {f : PEnv → R (List D)} {p : Pos} {e : Expr} (hc : X.calm = true) (hm : X.mg "min" = none) (ha : VA X W (e :: es) f) (hg : Gl X "min" := by rfl) (he : starEach (e :: es) X.env = (false, eval e X.env) :: starEach es X.env := by rfl) (hpl : (backTo pos (starEach es X.env)).any (·.1) = false := by rfl) :
    VE X W (.Call (.Name "min" p) (e :: es) [] pos) (vapp vmin f) := vcB (L2.CallR.or (cr_min hc) (call_min2 hc)) rc_min hm (by decide +kernel) ha hg (by decide) (by decide) he hpl
theorem rc_all : RuleC X W (rAll X.K) vall := fun ds vs σ H B Q s dx p => by
  cases dx with
  | nil => exact p.elim
  | cons h1 h2 =>
    cases h2 with
    | cons _ _ => cases h1 <;> exact p.elim
    | nil =>
      cases h1 <;> first | exact p.elim | skip
      rename_i h3 h4
      simp only [vall] at p
      split at p
      · rename_i ns hi
        rw [boolsOf_some hi] at h4
        have e := is_bools h4
        subst e
        exact ⟨_, ns, rfl, .inl (Rd.mono s h3), p _ H B (.refl s) (.bl _)⟩
      · exact p.elim
theorem rc_any : RuleC X W (rAny X.K) vany := fun ds vs σ H B Q s dx p => by
  cases dx with
  | nil => exact p.elim
  | cons h1 h2 =>
    cases h2 with
    | cons _ _ => cases h1 <;> exact p.elim
    | nil =>
      cases h1 <;> first | exact p.elim | skip
      rename_i h3 h4
      simp only [vany] at p
      split at p
      · rename_i ns hi
        rw [boolsOf_some hi] at h4
        have e := is_bools h4
        subst e
        exact ⟨_, ns, rfl, .inl (Rd.mono s h3), p _ H B (.refl s) (.bl _)⟩
      · exact p.elim
theorem vall_ {f : PEnv → R (List D)} {p : Pos} {e : Expr} (hc : X.calm = true) (hm : X.mg "all" = none) (ha : VA X W [e] f) (hg : Gl X "all" := by rfl) (he : starEach [e] X.env = (false, eval e X.env) :: starEach [] X.env := by rfl) (hpl : (backTo pos (starEach [] X.env)).any (·.1) = false := by rfl) :
    VE X W (.Call (.Name "all" p) [e] [] pos) (vapp vall f) := vcB (cr_all hc) rc_all hm (by decide +kernel) ha hg (by decide) (by decide) he hpl
theorem vany_ {f : PEnv → R (List D)} {p : Pos} {e : Expr} (hc : X.calm = true) (hm : X.mg "any" = none) (ha : VA X W [e] f) (hg : Gl X "any" := by rfl) (he : starEach [e] X.env = (false, eval e X.env) :: starEach [] X.env := by rfl) (hpl : (backTo pos (starEach [] X.env)).any (·.1) = false := by rfl) :
    VE X W (.Call (.Name "any" p) [e] [] pos) (vapp vany f) := vcB (cr_any hc) rc_any hm (by decide +kernel) ha hg (by decide) (by decide) he hpl

/-! isinstance of a built-in type -/
def tyName : D → String
  | .none => "NoneType"
  | .bool _ => "bool"
  | .int _ => "int"
  | .str _ => "str"
  | .list _ => "list"
  | .tuple _ => "tuple"
  | .dict _ => "dict"
def isiT (T : String) (n : String) : Bool := n == T || (n == "bool" && T == "int")
def visi (T : String) : D → R D
  | .dict _ => .stuck
  | d => .ok (.bool (isiT T (tyName d)))
/-- the type T is asked about -/
structure TyOk (T : String) : Prop where
  k : ∀ n ∈ ["NoneType", "bool", "int", "str", "list", "tuple"], kitB n T = some (isiT T n)
theorem ty_int : TyOk "int" := ⟨by decide +kernel⟩
theorem ty_bool : TyOk "bool" := ⟨by decide +kernel⟩
theorem ty_str : TyOk "str" := ⟨by decide +kernel⟩
theorem ty_list : TyOk "list" := ⟨by decide +kernel⟩
theorem ty_tuple : TyOk "tuple" := ⟨by decide +kernel⟩
theorem is_ty {K : PySem.W.Frag} {B H : Hp} (s : Same B H) {d : D} {v : V} (nd : ∀ k, d ≠ .dict k) (h : Is K B v d) : TyX K H v (.type (tyName d)) := by
  cases h with
  | non => exact .base .non
  | bl b => exact .base (.bl b)
  | int i => exact .base (.int i)
  | str z => exact .base (.str z)
  | lst h1 h2 =>
    rcases h1 with h | ⟨o, h⟩
    · exact .base (.lst (s _ _ h))
    · exact .base (.frz (s _ _ h))
  | exc _ _ => exact absurd rfl (nd _)
  | tup h1 h2 =>
    rcases h1 with (h | ⟨o, h⟩) | ⟨o, its, n, h, c, _⟩
    · exact .base (.tup (s _ _ h))
    · exact .fTuple (s _ _ h)
    · exact .kTuple h c
theorem visi_ {T : String} {p p2 : Pos} (hT : TyOk T) (hm : X.mg "isinstance" = none) {x : Str} (hx : X.mg x = none) (hv : bootBuiltins x = some (.type T)) (ha : VE X W a fa)
    (hg : Gl X "isinstance" := by rfl) (hgx : Gl X x := by rfl) (hn : x ≠ "__name__" := by decide) (hdb : (x == ("__debug__" : Str)) = false := by decide)
    (he : starEach [a, .Name x p2] X.env = (false, eval a X.env) :: starEach [.Name x p2] X.env := by rfl) (he2 : starEach [.Name x p2] X.env = (false, eval (.Name x p2) X.env) :: starEach [] X.env := by rfl) (hpl : (backTo pos (starEach [.Name x p2] X.env)).any (·.1) = false := by rfl) :
    VE X W (.Call (.Name "isinstance" p) [a, .Name x p2] [] pos) (v1 (visi T) fa) := by
  obtain ⟨ta, pa, qa⟩ := ha.ex
  have p2' : PE X (.Name x p2) (tC (.ty T)) := pe_bltn hgx hx hv rfl hn hdb
  refine VE.mk' (pe_callB call_isi hg hm (by decide +kernel) (pa_cons pa (pa_cons p2' pa_nil he2) he) (by decide) (by decide) he hpl) fun σ H B ρ Q s rf p => ?_
  refine one qa s rf p fun d v H' B' ex sm dx pg => ?_
  have nd : ∀ k, d ≠ .dict k := fun k e => by subst e; exact pg.elim
  have ev : visi T d = .ok (.bool (isiT T (tyName d))) := by
    cases d <;> first | rfl | exact absurd rfl (nd _)
  rw [ev] at pg
  refine ⟨v, .ty T, .type (tyName d), .type T, isiT T (tyName d), rfl, .ty T, is_ty ex.bh nd dx, kit_ty (hT.k _ ?_), pg _ H' B' ex (.bl _)⟩
  cases dx <;> first | exact absurd rfl (nd _) | simp [tyName]

/-! slices -/
def cutL (xs : List D) (lo hi : Option Int) : List D := (xs.drop (HT.sIx xs.length 0 lo)).take (HT.sIx xs.length xs.length hi - HT.sIx xs.length 0 lo)
theorem IsAll.cut {K : PySem.W.Frag} {F : Hp} {vs : List V} {ds : List D} (h : IsAll K F vs ds) (lo hi : Option Int) : IsAll K F (cutV vs lo hi) (cutL ds lo hi) := by
  unfold cutV cutL
  rw [IsAll.len h]
  exact IsAll.take _ (IsAll.drop _ h)
def vcut (lo hi : Option Int) : D → R D
  | .list xs => .ok (.list (cutL xs lo hi))
  | .tuple xs => .ok (.tuple (cutL xs lo hi))
  | _ => .stuck
structure VO1 (X : Cx) (W : WX) (e : Option Expr) (f : PEnv → R (Option Int)) : Prop where
  ex : ∃ t, PO X e t ∧ ∀ σ H B ρ Q, Same B H → RF X.K B σ ρ → Pst X W σ H (fun i => ∀ H' B', Ext B H B' H' → Q i H') (f ρ) → t σ H Q
def oInt : D → R (Option Int)
  | .int i => .ok (some i)
  | _ => .stuck
theorem vo_none : VO1 X W none (fun _ => .ok none) := ⟨_, po_none, fun σ H B ρ Q s rf p => p H B (.refl s)⟩
theorem vo_some (h : VE X W a fa) : VO1 X W (some a) (fun ρ => (fa ρ).bind oInt) := by
  obtain ⟨t, p, q⟩ := h.ex
  refine ⟨_, po_some p, fun σ H B ρ Q s rf pr => ?_⟩
  refine one q s rf pr fun d x H' B' ex sm dx pg => ?_
  cases dx <;> first | exact pg.elim | exact ⟨_, rfl, pg H' B' ex⟩
def vslice (f : PEnv → R D) (l u : PEnv → R (Option Int)) : PEnv → R D := fun ρ => (f ρ).bind fun d => (l ρ).bind fun lo => (u ρ).bind fun hi => vcut lo hi d
theorem whole_cut (xs : List D) (lo hi : Option Int) (h : HT.sIx xs.length 0 lo = 0 ∧ HT.sIx xs.length xs.length hi = xs.length) : cutL xs lo hi = xs := by
  unfold cutL
  rw [h.1, h.2]
  simp
theorem vslice_ {lo hi : Option Expr} {p2 : Pos} {fl fu : PEnv → R (Option Int)} (ha : VE X W a fa) (hl : VO1 X W lo fl) (hu : VO1 X W hi fu) : VE X W (.Subscript a (.Slice lo hi none p2) pos) (vslice fa fl fu) := by
  obtain ⟨ta, pa, qa⟩ := ha.ex
  obtain ⟨tl, pl, ql⟩ := hl.ex
  obtain ⟨tu, pu, qu⟩ := hu.ex
  refine VE.mk' (pe_slice (SlR.or sl_list sl_tupA) pa pl pu) fun σ H B ρ Q s rf p => ?_
  unfold vslice at p
  refine one qa s rf p fun d x H1 B1 e1 sm dx p1 => ?_
  refine ql σ H1 B1 ρ _ e1.bh (rf.mono e1.bb) ?_
  generalize fl ρ = rl at p1 ⊢
  cases rl with
  | stuck => exact p1
  | err c => exact p1
  | ok lo' =>
    intro H2 B2 e2
    refine qu σ H2 B2 ρ _ e2.bh (rf.mono (e1.trans e2).bb) ?_
    simp only [R.bind_ok] at p1
    generalize fu ρ = ru at p1 ⊢
    cases ru with
    | stuck => exact p1
    | err c => exact fun H' z => p1 H' (e2.hh.trans z)
    | ok hi' =>
      intro H3 B3 e3
      simp only [R.bind_ok] at p1
      have E := (e1.trans e2).trans e3
      have dx3 := Is.mono (e2.trans e3).bb dx
      cases dx3 <;> first | exact p1.elim | skip
      · rename_i h1 h2
        refine .inl ⟨_, _, rfl, .inl (Rd.mono e3.bh h1), fun q hq => ?_⟩
        exact p1 _ _ _ (E.trans (Ext.new e3.bh hq)) (.lst (.inl upd_same) (IsAll.cut (IsAll.mono (Ext.new e3.bh hq).bb h2) _ _))
      · rename_i h1 h2
        refine .inr ⟨_, _, rfl, Same.tupl e3.bh h1, fun hw => ?_, fun _ q hq => ?_⟩
        · rw [IsAll.len h2] at hw
          rw [show vcut lo' hi' (.tuple _) = .ok (.tuple (cutL _ lo' hi')) from rfl, whole_cut _ _ _ hw] at p1
          exact p1 _ H3 B3 E (.tup h1 h2)
        · exact p1 _ _ _ (E.trans (Ext.new e3.bh hq)) (.tup (.inl (.inl upd_same)) (IsAll.cut (IsAll.mono (Ext.new e3.bh hq).bb h2) _ _))
end
end VL

namespace VL
open PySem PySem.Spec PyProof.Rows L2

/-! ### what is walked -/
structure Walks (K : PySem.W.Frag) (J : It) (ds : List D) (B : Hp) : Prop where
  go : ∀ i H, Same B H → i < ds.length → J.go i H
  yld : ∀ i H x H' B1, Same B B1 → Same B1 H → i < ds.length → J.yld i H x H' → ∃ d B2, ds[i]? = some d ∧ Ext B1 H B2 H' ∧ Is K B2 x d
  stop : ∀ H, Same B H → J.stop ds.length H
  small : ds.length ≤ sizeLine
def KI1 (X : Cx) (B H : Hp) (Rr : It → Hp → Prop) (ds : List D) : Prop := ∀ J H' B', Ext B H B' H' → Walks X.K J ds B' → Rr J H'
structure VI (X : Cx) (W : WX) (tg iter : Expr) (f : PEnv → R (List D)) : Prop where
  ex : ∃ wi, PI X tg iter wi ∧ ∀ σ H B ρ Rr, Same B H → RF X.K B σ ρ → Pst X W σ H (KI1 X B H Rr) (f ρ) → wi σ H Rr
theorem walks_list {K : PySem.W.Frag} {B : Hp} {a : Addr} {vs : List V} {ds : List D} (h : Rd B a (.lst vs)) (hd : IsAll K B vs ds) (hz : ds.length ≤ sizeLine) : Walks K (Itl K a) ds B where
  go := fun i H s hi => by
    have hl := IsAll.len hd
    exact ⟨vs, vs[i]'(by omega), .inl (Rd.mono s h), by simp⟩
  yld := fun i H x H' B1 s1 s2 hi y => by
    obtain ⟨rfl, y⟩ := y
    have e := y vs (.inl (Rd.mono (s1.trans s2) h))
    obtain ⟨d, e2, e3⟩ := IsAll.get hd e
    exact ⟨d, B1, e2, .refl s2, Is.mono s1 e3⟩
  stop := fun H s => ⟨vs, .inl (Rd.mono s h), by rw [IsAll.len hd]; exact Nat.le_refl _⟩
  small := hz
theorem walks_tup {K : PySem.W.Frag} {B : Hp} {a : Addr} {vs : List V} {ds : List D} (h : SqT K B a vs) (hd : IsAll K B vs ds) (hz : ds.length ≤ sizeLine) : Walks K (Itt K a) ds B where
  go := fun i H s hi => by
    have hl := IsAll.len hd
    exact ⟨vs, vs[i]'(by omega), Same.tupl s h, by simp⟩
  yld := fun i H x H' B1 s1 s2 hi y => by
    obtain ⟨rfl, y⟩ := y
    have e := y vs (Same.tupl (s1.trans s2) h)
    obtain ⟨d, e2, e3⟩ := IsAll.get hd e
    exact ⟨d, B1, e2, .refl s2, Is.mono s1 e3⟩
  stop := fun H s => ⟨vs, Same.tupl s h, by rw [IsAll.len hd]; exact Nat.le_refl _⟩
  small := hz
def rangeD (lo : Int) (n : Nat) : List D := (List.range n).map fun (i : Nat) => PyData.int (lo + (i : Int))
theorem rangeD_len (lo : Int) (n : Nat) : (rangeD lo n).length = n := by unfold rangeD; simp
theorem rangeD_at {lo : Int} {n i : Nat} (h : i < n) : (rangeD lo n)[i]? = some (.int (lo + (i : Int))) := by
  unfold rangeD
  rw [List.getElem?_map, List.getElem?_range h]
  rfl
theorem walks_range {K : PySem.W.Frag} {B : Hp} {lo : Int} {n : Nat} (hz : n ≤ sizeLine) : Walks K (Itr lo n) (rangeD lo n) B where
  go := fun i H s hi => by rw [rangeD_len] at hi; exact hi
  yld := fun i H x H' B1 s1 s2 hi y => by
    obtain ⟨rfl, rfl⟩ := y
    rw [rangeD_len] at hi
    exact ⟨_, B1, rangeD_at hi, .refl s2, .int _⟩
  stop := fun H s => by rw [rangeD_len]; exact Nat.le_refl _
  small := by rw [rangeD_len]; exact hz
def rangeCD (lo c : Int) (n : Nat) : List D := (List.range n).map fun (i : Nat) => PyData.int (lo + (i : Int) * c)
theorem rangeCD_len (lo c : Int) (n : Nat) : (rangeCD lo c n).length = n := by unfold rangeCD; simp
theorem rangeCD_at {lo c : Int} {n i : Nat} (h : i < n) : (rangeCD lo c n)[i]? = some (.int (lo + (i : Int) * c)) := by
  unfold rangeCD
  rw [List.getElem?_map, List.getElem?_range h]
  rfl
theorem walks_rangeC {K : PySem.W.Frag} {B : Hp} {lo c : Int} {n : Nat} (hz : n ≤ sizeLine) : Walks K (Itc lo c n) (rangeCD lo c n) B where
  go := fun i H s hi => by rw [rangeCD_len] at hi; exact hi
  yld := fun i H x H' B1 s1 s2 hi y => by
    obtain ⟨rfl, rfl⟩ := y
    rw [rangeCD_len] at hi
    exact ⟨_, B1, rangeCD_at hi, .refl s2, .int _⟩
  stop := fun H s => by rw [rangeCD_len]; exact Nat.le_refl _
  small := by rw [rangeCD_len]; exact hz
theorem walks_rev {K : PySem.W.Frag} {B : Hp} {a : Addr} {vs : List V} {ds : List D} (h : Rd B a (.lst vs)) (hd : IsAll K B vs ds) (hz : ds.length ≤ sizeLine) : Walks K (Itv K a vs.length) ds.reverse B where
  go := fun i H s hi => by
    have hl := IsAll.len hd
    rw [List.length_reverse] at hi
    exact ⟨by omega, vs, vs[vs.length - 1 - i]'(by omega), .inl (Rd.mono s h), by simp⟩
  yld := fun i H x H' B1 s1 s2 hi y => by
    obtain ⟨rfl, y⟩ := y
    have hl := IsAll.len hd
    rw [List.length_reverse] at hi
    have e := y vs (.inl (Rd.mono (s1.trans s2) h))
    obtain ⟨d, e2, e3⟩ := IsAll.get hd e
    refine ⟨d, B1, ?_, .refl s2, Is.mono s1 e3⟩
    rw [List.getElem?_reverse hi, ← hl]
    exact e2
  stop := fun H s => by
    have hl := IsAll.len hd
    show vs.length ≤ ds.reverse.length
    rw [List.length_reverse]; omega
  small := by rw [List.length_reverse]; exact hz
def enumD (ds : List D) : List D := ds.mapIdx fun i d => PyData.tuple [.int (i : Int), d]
theorem enumD_len (ds : List D) : (enumD ds).length = ds.length := by unfold enumD; simp
theorem walks_enum {K : PySem.W.Frag} {B : Hp} {a : Addr} {vs : List V} {ds : List D} (h : Rd B a (.lst vs)) (hd : IsAll K B vs ds) (hz : ds.length ≤ sizeLine) : Walks K (Ite K a) (enumD ds) B where
  go := fun i H s hi => by
    have hl := IsAll.len hd
    rw [enumD_len] at hi
    exact ⟨vs, vs[i]'(by omega), .inl (Rd.mono s h), by simp⟩
  yld := fun i H x H' B1 s1 s2 hi y => by
    obtain ⟨T, x', rfl, nT, rfl, y⟩ := y
    have e := y vs (.inl (Rd.mono (s1.trans s2) h))
    obtain ⟨d, e2, e3⟩ := IsAll.get hd e
    refine ⟨.tuple [.int (i : Int), d], _, ?_, Ext.new s2 nT, .tup (.inl (.inl upd_same)) (.cons (.int _) (.cons (Is.mono (s1.trans (Ext.new s2 nT).bb) e3) .nil))⟩
    unfold enumD
    rw [List.getElem?_mapIdx, e2]
    rfl
  stop := fun H s => ⟨vs, .inl (Rd.mono s h), by rw [enumD_len, IsAll.len hd]; exact Nat.le_refl _⟩
  small := by rw [enumD_len]; exact hz
def zipD (ds es : List D) : List D := List.zipWith (fun d e => PyData.tuple [d, e]) ds es
theorem zipD_len (ds es : List D) : (zipD ds es).length = min ds.length es.length := by unfold zipD; simp
theorem walks_zip {K : PySem.W.Frag} {B : Hp} {a b : Addr} {vs us : List V} {ds es : List D} (h : Rd B a (.lst vs)) (hd : IsAll K B vs ds) (h' : Rd B b (.lst us)) (he : IsAll K B us es) (hz : ds.length ≤ sizeLine) : Walks K (Itz K a b) (zipD ds es) B where
  go := fun i H s hi => by
    have hl := IsAll.len hd
    have hl' := IsAll.len he
    rw [zipD_len] at hi
    exact ⟨vs, us, vs[i]'(by omega), us[i]'(by omega), .inl (Rd.mono s h), .inl (Rd.mono s h'), by simp, by simp⟩
  yld := fun i H x H' B1 s1 s2 hi y => by
    obtain ⟨T, x', y', rfl, nT, rfl, q1, q2⟩ := y
    have e := q1 vs (.inl (Rd.mono (s1.trans s2) h))
    have e' := q2 us (.inl (Rd.mono (s1.trans s2) h'))
    obtain ⟨d, e2, e3⟩ := IsAll.get hd e
    obtain ⟨d', e2', e3'⟩ := IsAll.get he e'
    refine ⟨.tuple [d, d'], _, ?_, Ext.new s2 nT, .tup (.inl (.inl upd_same)) (.cons (Is.mono (s1.trans (Ext.new s2 nT).bb) e3) (.cons (Is.mono (s1.trans (Ext.new s2 nT).bb) e3') .nil))⟩
    unfold zipD
    rw [List.getElem?_zipWith, e2, e2']
  stop := fun H s => ⟨vs, us, .inl (Rd.mono s h), .inl (Rd.mono s h'), by rw [zipD_len, IsAll.len hd, IsAll.len he]; omega⟩
  small := by rw [zipD_len]; omega

/-! sources -/
def seqD : D → R (List D)
  | .list xs => .ok xs
  | .tuple xs => .ok xs
  | _ => .stuck
def rngOk (i j : Int) : Prop := -16777216 ≤ i ∧ i ≤ 16777216 ∧ -16777216 ≤ j ∧ j ≤ 16777216 ∧ j - i ≤ 16777216
noncomputable instance (i j : Int) : Decidable (rngOk i j) := Classical.propDecidable _
noncomputable def vrange1 : D → R (List D)
  | .int j => if rngOk 0 j then .ok (rangeD 0 j.toNat) else .stuck
  | _ => .stuck
noncomputable def vrange2 : D → D → R (List D)
  | .int i, .int j => if rngOk i j then .ok (rangeD i (j - i).toNat) else .stuck
  | _, _ => .stuck
noncomputable def vrangeN : D → D → R (List D)
  | .int i, .int j => if rngOk i j ∧ i - j ≤ 16777216 then .ok (rangeCD i (-1) (i - j).toNat) else .stuck
  | _, _ => .stuck
def venum : D → R (List D)
  | .list xs => .ok (enumD xs)
  | _ => .stuck
def vzip : D → D → R (List D)
  | .list xs, .list ys => .ok (zipD xs ys)
  | _, _ => .stuck
def vrev : D → R (List D)
  | .list xs => .ok xs.reverse
  | _ => .stuck
/-! ### targets -/
def setsV (σ : L2.St) (bs : List (Nat × V)) : L2.St := bs.foldl (fun σ b => σ.set b.1 (some b.2)) σ
def setsD (ρ : PEnv) (bs : List (Nat × D)) : PEnv := bs.foldl (fun ρ b => ρ.set b.1 (some b.2)) ρ
abbrev Bds (K : PySem.W.Frag) (B : Hp) : List (Nat × V) → List (Nat × D) → Prop := Paired fun p q => p.1 = q.1 ∧ Is K B p.2 q.2
theorem RF.set {K : PySem.W.Frag} {B : Hp} {σ : L2.St} {ρ : PEnv} (h : RF K B σ ρ) (i : Nat) {v : V} {d : D} (hd : Is K B v d) : RF K B (σ.set i (some v)) (ρ.set i (some d)) := ⟨by rw [List.length_set, List.length_set]; exact h.len, fun j e x => by
  by_cases hj : j = i
  · subst hj
    have hl : j < ρ.length := by
      obtain ⟨q, _⟩ := List.getElem?_eq_some_iff.mp x
      rw [List.length_set] at q; exact q
    rw [List.getElem?_set_self hl] at x
    cases x
    rw [List.getElem?_set_self (by rw [h.len]; exact hl)]
    exact ⟨v, rfl, hd⟩
  · rw [List.getElem?_set_ne (Ne.symm hj)] at x
    obtain ⟨u, e1, e2⟩ := h.at_ j e x
    exact ⟨u, by rw [List.getElem?_set_ne (Ne.symm hj)]; exact e1, e2⟩⟩
theorem RF.sets {K : PySem.W.Frag} {B : Hp} : ∀ {bv : List (Nat × V)} {bd : List (Nat × D)} {σ : L2.St} {ρ : PEnv}, RF K B σ ρ → Bds K B bv bd → RF K B (setsV σ bv) (setsD ρ bd)
  | _, _, _, _, h, .nil => h
  | _, _, _, _, h, .cons (a := p) (b := q) r t => by
    obtain ⟨r1, r2⟩ := r
    unfold setsV setsD
    rw [List.foldl_cons, List.foldl_cons, r1]
    exact RF.sets (RF.set h q.1 r2) t
structure VG (X : Cx) (tg : Expr) (sl : List Nat) (k : D → R (List (Nat × D))) : Prop where
  ex : ∃ t, PG X tg t ∧ ∀ v σ H B d Q, Same B H → Is X.K B v d → (∃ bd, k d = .ok bd ∧ ∀ bv, Bds X.K B bv bd → Q (setsV σ bv) H) → t v σ H Q
  sl : ∀ d bs, k d = .ok bs → bs.map (·.1) = sl
structure VGs (X : Cx) (ts : List Expr) (sl : List Nat) (k : List D → R (List (Nat × D))) : Prop where
  ex : ∃ t, PGs X ts t ∧ ∀ vs σ H B ds Q, Same B H → IsAll X.K B vs ds → (∃ bd, k ds = .ok bd ∧ ∀ bv, Bds X.K B bv bd → Q (setsV σ bv) H) → t vs σ H Q
  sl : ∀ ds bs, k ds = .ok bs → bs.map (·.1) = sl ∧ ds.length = ts.length
def gN (i : Nat) : D → R (List (Nat × D)) := fun d => .ok [(i, d)]
def gC (g : D → R (List (Nat × D))) (h : List D → R (List (Nat × D))) : List D → R (List (Nat × D))
  | [] => .stuck
  | d :: ds => (g d).bind fun bs => (h ds).bind fun cs => .ok (bs ++ cs)
def gE : List D → R (List (Nat × D))
  | [] => .ok []
  | _ => .stuck
def gT (h : List D → R (List (Nat × D))) : D → R (List (Nat × D))
  | .tuple xs => h xs
  | .list xs => h xs
  | _ => .stuck
section
variable {X : Cx} {pos : Pos} {e : Expr} {es : List Expr} {g : D → R (List (Nat × D))} {h : List D → R (List (Nat × D))} {sl sl' : List Nat}
theorem vg (i : Nat) {x : Str} (hN : X.N.Nodup) (hi : X.N[i]? = some x := by rfl) (hx : Loc X.env.scope x := by first | exact Or.inl rfl | exact Or.inr rfl) (hf : X.fn x = true ∨ X.env.scope.names.lookup x = some .local := by first | exact .inl rfl | exact .inr rfl) : VG X (.Name x pos) [i] (gN i) :=
  ⟨⟨_, pg_name hN hi hx hf, fun v σ H B d Q s dv ⟨bd, e, q⟩ => by
    cases e
    exact q [(i, v)] (.cons ⟨rfl, dv⟩ .nil)⟩, fun d bs e => by cases e; rfl⟩
theorem vgs_nil : VGs X [] [] gE := ⟨⟨_, pgs_nil, fun vs σ H B ds Q s dv ⟨bd, e, q⟩ => by
  cases dv with
  | nil => cases e; exact ⟨rfl, q [] .nil⟩
  | cons _ _ => cases e⟩, fun ds bs e => by cases ds <;> first | (cases e; exact ⟨rfl, rfl⟩) | cases e⟩
theorem vgs_cons (h1 : VG X e sl g) (h2 : VGs X es sl' h) (hs : (assignEach (e :: es) X.env).map (·.2) = assign e X.env :: (assignEach es X.env).map (·.2) := by rfl) : VGs X (e :: es) (sl ++ sl') (gC g h) := by
  obtain ⟨t, p, q⟩ := h1.ex
  obtain ⟨t2, p2, q2⟩ := h2.ex
  refine ⟨⟨_, pgs_cons p p2 hs, fun vs σ H B ds Q s dv ⟨bd, eb, qq⟩ => ?_⟩, fun ds bs eb => ?_⟩
  · cases dv with
    | nil => cases eb
    | @cons v vs d ds d1 d2 =>
      refine ⟨v, vs, rfl, ?_⟩
      simp only [gC] at eb
      generalize hg : g d = rg at eb
      cases rg with
      | stuck => cases eb
      | err c => cases eb
      | ok b1 =>
        simp only [R.bind_ok] at eb
        generalize hh : h ds = rh at eb
        cases rh with
        | stuck => cases eb
        | err c => cases eb
        | ok b2 =>
          cases eb
          refine q v σ H B d _ s d1 ⟨b1, hg, fun bv1 hb1 => ?_⟩
          refine q2 vs _ H B ds _ s d2 ⟨b2, hh, fun bv2 hb2 => ?_⟩
          have z := qq (bv1 ++ bv2) (by
            have app : ∀ {l1 l2 l3 l4}, Bds X.K B l1 l2 → Bds X.K B l3 l4 → Bds X.K B (l1 ++ l3) (l2 ++ l4) := by
              intro l1 l2 l3 l4 a b
              induction a with
              | nil => exact b
              | cons r t ih => exact .cons r ih
            exact app hb1 hb2)
          unfold setsV at z
          rw [List.foldl_append] at z
          exact z
  · cases ds with
    | nil => cases eb
    | cons d ds =>
      simp only [gC] at eb
      generalize hg : g d = rg at eb
      cases rg with
      | stuck => cases eb
      | err c => cases eb
      | ok b1 =>
        simp only [R.bind_ok] at eb
        generalize hh : h ds = rh at eb
        cases rh with
        | stuck => cases eb
        | err c => cases eb
        | ok b2 =>
          cases eb
          obtain ⟨z1, z2⟩ := h2.sl ds b2 hh
          rw [List.map_append, h1.sl d b1 hg, z1, List.length_cons, List.length_cons, z2]
          exact ⟨rfl, rfl⟩
theorem pg_or {tg : Expr} {t1 t2 : TG} (h1 : PG X tg t1) (h2 : PG X tg t2) : PG X tg (fun v σ H Q => t1 v σ H Q ∨ t2 v σ H Q) :=
  ⟨fun pins s σ H v u Q I r hw => hw.elim (h1.run pins s σ H v u Q I r) (h2.run pins s σ H v u Q I r)⟩
theorem vg_tup {k : Nat} {n : Nat} (hc : X.calm = true) (hh : VGs X es sl h) (hn : (assignEach es X.env).length = n := by rfl) (hst : (assignEach es X.env).findIdx? (·.1) = none := by rfl) (hl : es.length = n := by rfl) : VG X (.Tuple es k pos) sl (gT h) := by
  obtain ⟨t, p, q⟩ := hh.ex
  refine ⟨⟨_, pg_or (pg_tup hc p hn hst) (pg_lst hc p hn hst), fun v σ H B d Q s dv ⟨bd, eb, qq⟩ => ?_⟩, fun d bs eb => ?_⟩
  · cases dv with
    | @tup a xs ds h1 h2 => exact .inl ⟨a, xs, rfl, Same.tupl s h1, by rw [IsAll.len h2, (hh.sl ds bd eb).2, hl], q xs σ H B ds Q s h2 ⟨bd, eb, qq⟩⟩
    | @lst a xs ds h1 h2 => exact .inr ⟨a, xs, rfl, .inl (Rd.mono s h1), by rw [IsAll.len h2, (hh.sl ds bd eb).2, hl], q xs σ H B ds Q s h2 ⟨bd, eb, qq⟩⟩
    | _ => cases eb
  · cases d <;> first | (cases eb; done) | exact (hh.sl _ bs eb).1
end
section
variable {X : Cx} {W : WX} {a b c : Expr} {es : List Expr} {pos : Pos} {fa fb fc : PEnv → R D} {ft fu : PEnv → R Bool} {k : Nat} {tg : Expr}
theorem pi_seq {l : Expr} {tl : TE} (hl : PE X l tl) : PI X tg l (fun σ H Rr => tl σ H fun x G1 => ∃ a, x = .ref a ∧ (((∃ xs, SqL X.K G1 a xs) ∧ Rr (Itl X.K a) G1) ∨ ((∃ xs, SqT X.K G1 a xs) ∧ Rr (Itt X.K a) G1))) := by
  refine ⟨fun pins s σ H R J hh => ?_⟩
  refine thn (hl.run pins s σ H _ J hh) fun v t1 ⟨x, G1, J1, rr, qq⟩ => ?_
  obtain ⟨a, ee, q⟩ := qq
  subst ee
  cases rr
  rcases q with ⟨⟨xs, hq⟩, q⟩ | ⟨⟨xs, hq⟩, q⟩
  · obtain ⟨its, rv, p, hz⟩ := J1.list hq
    refine wpAny_pyIter_list p.isList ?_
    refine ⟨t1.heap.objs.size, [t1.heap.objs.size], _, _, G1, rfl, J1.kept (t' := t1.toks) fun bb o ee => Heap.get?_push_of_some _ ee, turn_list a _, ⟨_, Heap.get?_push_size _ rfl, rfl, rfl⟩, fun bb hb => ?_, q⟩
    have ee : bb = t1.heap.objs.size := by simpa using hb
    subst ee
    exact J1.fpOk (Nat.le_refl _) (J1.hok.fresh (Nat.le_refl _))
  · obtain ⟨its, rv, p, hz⟩ := J1.tuple hq
    refine wpAny_pyIter_tuple (show t1.heap.IsTuple a its.toArray from p) ?_
    refine ⟨t1.heap.objs.size, [t1.heap.objs.size], _, _, G1, rfl, J1.kept (t' := t1.toks) fun bb o ee => Heap.get?_push_of_some _ ee, turn_tuple a _, ⟨_, Heap.get?_push_size _ rfl, rfl, rfl⟩, fun bb hb => ?_, q⟩
    have ee : bb = t1.heap.objs.size := by simpa using hb
    subst ee
    exact J1.fpOk (Nat.le_refl _) (J1.hok.fresh (Nat.le_refl _))
def isq (f : PEnv → R D) : PEnv → R (List D) := fun ρ => (f ρ).bind seqD
theorem vi_seq (h : VE X W a fa) : VI X W tg a (isq fa) := by
  obtain ⟨t, p, q⟩ := h.ex
  refine ⟨_, pi_seq p, fun σ H B ρ Rr s rf pr => ?_⟩
  refine one q s rf pr fun d x H' B' ex sm dx pg => ?_
  have dx0 := dx
  cases dx <;> first | exact pg.elim | skip
  · rename_i h1 h2
    exact ⟨_, rfl, .inl ⟨⟨_, .inl (Rd.mono ex.bh h1)⟩, pg _ H' B' ex (walks_list h1 h2 (Small.list sm ex.bh dx0))⟩⟩
  · rename_i h1 h2
    exact ⟨_, rfl, .inr ⟨⟨_, Same.tupl ex.bh h1⟩, pg _ H' B' ex (walks_tup h1 h2 (Small.tuple sm ex.bh dx0))⟩⟩
def i1 (g : D → R (List D)) (f : PEnv → R D) : PEnv → R (List D) := fun ρ => (f ρ).bind g
def i2 (g : D → D → R (List D)) (f f' : PEnv → R D) : PEnv → R (List D) := fun ρ => (f ρ).bind fun d => (f' ρ).bind fun e => g d e
theorem vi_range1 {p pos : Pos} (hm : X.mg "range" = none) (ha : VE X W a fa) (hg : Gl X "range" := by rfl) (hs : starEach [a] X.env = [(false, eval a X.env)] := by rfl) (he : starEach [a] X.env = (false, eval a X.env) :: starEach [] X.env := by rfl) : VI X W tg (.Call (.Name "range" p) [a] [] pos) (i1 vrange1 fa) := by
  obtain ⟨t, pt, qt⟩ := ha.ex
  refine ⟨_, pi_range1 hg hm (pa_cons pt pa_nil he) hs, fun σ H B ρ Rr s rf pr => ?_⟩
  refine one qt s rf pr fun d x H' B' ex sm dx pg => ?_
  cases dx <;> first | exact pg.elim | skip
  rename_i i
  simp only [vrange1] at pg
  split at pg
  · rename_i hz
    have hz' : -16777216 ≤ (0:Int) ∧ (0:Int) ≤ 16777216 ∧ -16777216 ≤ i ∧ i ≤ 16777216 ∧ i - 0 ≤ 16777216 := hz
    exact ⟨_, rfl, by omega, by omega, pg _ H' B' ex (walks_range (by have := sizeLine_eq; omega))⟩
  · exact pg.elim
theorem vi_range2 {p pos : Pos} (hm : X.mg "range" = none) (ha : VE X W a fa) (hb : VE X W b fb) (hg : Gl X "range" := by rfl) (hs : starEach [a, b] X.env = [(false, eval a X.env), (false, eval b X.env)] := by rfl) (hs2 : starEach [b] X.env = [(false, eval b X.env)] := by rfl)
    (he : starEach [a, b] X.env = (false, eval a X.env) :: starEach [b] X.env := by rfl) (he2 : starEach [b] X.env = (false, eval b X.env) :: starEach [] X.env := by rfl) : VI X W tg (.Call (.Name "range" p) [a, b] [] pos) (i2 vrange2 fa fb) := by
  obtain ⟨t, pt, qt⟩ := ha.ex
  obtain ⟨t2, pt2, qt2⟩ := hb.ex
  refine ⟨_, pi_range2 hg hm (pa_cons pt (pa_cons pt2 pa_nil he2) he) hs hs2, fun σ H B ρ Rr s rf pr => ?_⟩
  refine two qt qt2 s rf pr fun d e x y H' B' ex sm dx dy pg => ?_
  cases dx <;> first | (cases dy <;> exact pg.elim) | skip
  cases dy <;> first | exact pg.elim | skip
  rename_i i j
  simp only [vrange2] at pg
  split at pg
  · rename_i hz
    have hz' : -16777216 ≤ i ∧ i ≤ 16777216 ∧ -16777216 ≤ j ∧ j ≤ 16777216 ∧ j - i ≤ 16777216 := hz
    exact ⟨i, j, rfl, ⟨by omega, by omega, by omega, by omega⟩, pg _ H' B' ex (walks_range (by have := sizeLine_eq; omega))⟩
  · exact pg.elim
theorem vi_rangeN {p pos pos2 pos3 : Pos} {m : Nat} (hm : X.mg "range" = none) (ha : VE X W a fa) (hb : VE X W b fb) (hg : Gl X "range" := by rfl)
    (hs : starEach [a, b, .UnaryOp .USub (.Constant (.int 1) m pos3) pos2] X.env = (false, eval a X.env) :: starEach [b, .UnaryOp .USub (.Constant (.int 1) m pos3) pos2] X.env := by rfl)
    (hs2 : starEach [b, .UnaryOp .USub (.Constant (.int 1) m pos3) pos2] X.env = (false, eval b X.env) :: starEach [.UnaryOp .USub (.Constant (.int 1) m pos3) pos2] X.env := by rfl)
    (hpl : (backTo pos (starEach [b, .UnaryOp .USub (.Constant (.int 1) m pos3) pos2] X.env)).any (·.1) = false := by rfl) :
    VI X W tg (.Call (.Name "range" p) [a, b, .UnaryOp .USub (.Constant (.int 1) m pos3) pos2] [] pos) (i2 vrangeN fa fb) := by
  obtain ⟨t, pt, qt⟩ := ha.ex
  obtain ⟨t2, pt2, qt2⟩ := hb.ex
  have p3 : PE X (.UnaryOp .USub (.Constant (.int 1) m pos3) pos2) (tUn (rU fun i => .int (-i)) (tC (.int 1))) := pe_un un_neg pe_int
  refine ⟨_, pi_range3 hg hm (pa_cons pt (pa_cons pt2 (pa_cons p3 pa_nil) hs2) hs) (hs := hs) (hpl := hpl), fun σ H B ρ Rr s rf pr => ?_⟩
  refine two qt qt2 s rf pr fun d e x y H' B' ex sm dx dy pg => ?_
  cases dx <;> first | (cases dy <;> exact pg.elim) | skip
  cases dy <;> first | exact pg.elim | skip
  rename_i i j
  simp only [vrangeN] at pg
  split at pg
  · rename_i hz
    have hz' : (-16777216 ≤ i ∧ i ≤ 16777216 ∧ -16777216 ≤ j ∧ j ≤ 16777216 ∧ j - i ≤ 16777216) ∧ i - j ≤ 16777216 := hz
    exact ⟨1, rfl, i, j, -1, (i - j).toNat, rfl, RgC.neg (by omega) (by omega) (by omega) (by omega), pg _ H' B' ex (walks_rangeC (by have := sizeLine_eq; omega))⟩
  · exact pg.elim
theorem vi_enum {p pos tpos : Pos} {elts : List Expr} {kk : Nat} (hm : X.mg "enumerate" = none) (ha : VE X W a fa) (hg : Gl X "enumerate" := by rfl) (hs : starEach [a] X.env = [(false, eval a X.env)] := by rfl) (he : starEach [a] X.env = (false, eval a X.env) :: starEach [] X.env := by rfl) : VI X W (.Tuple elts kk tpos) (.Call (.Name "enumerate" p) [a] [] pos) (i1 venum fa) := by
  obtain ⟨t, pt, qt⟩ := ha.ex
  refine ⟨_, pi_enum hg hm (pa_cons pt pa_nil he) hs, fun σ H B ρ Rr s rf pr => ?_⟩
  refine one qt s rf pr fun d x H' B' ex sm dx pg => ?_
  have dx0 := dx
  cases dx <;> first | exact pg.elim | skip
  rename_i h1 h2
  exact ⟨_, _, rfl, .inl (Rd.mono ex.bh h1), pg _ H' B' ex (walks_enum h1 h2 (Small.list sm ex.bh dx0))⟩
theorem vi_zip {p pos tpos : Pos} {elts : List Expr} {kk : Nat} (hm : X.mg "zip" = none) (ha : VE X W a fa) (hb : VE X W b fb) (hg : Gl X "zip" := by rfl) (he : starEach [a, b] X.env = (false, eval a X.env) :: starEach [b] X.env := by rfl) (he2 : starEach [b] X.env = (false, eval b X.env) :: starEach [] X.env := by rfl) (hpl : (backTo pos (starEach [b] X.env)).any (·.1) = false := by rfl) :
    VI X W (.Tuple elts kk tpos) (.Call (.Name "zip" p) [a, b] [] pos) (i2 vzip fa fb) := by
  obtain ⟨t, pt, qt⟩ := ha.ex
  obtain ⟨t2, pt2, qt2⟩ := hb.ex
  refine ⟨_, pi_zip hg hm (pa_cons pt (pa_cons pt2 pa_nil he2) he) he hpl, fun σ H B ρ Rr s rf pr => ?_⟩
  refine two qt qt2 s rf pr fun d e x y H' B' ex sm dx dy pg => ?_
  have dx0 := dx
  cases dx <;> first | (cases dy <;> exact pg.elim) | skip
  cases dy <;> first | exact pg.elim | skip
  rename_i h1 h2 _ _ _ h3 h4
  exact ⟨_, _, _, _, rfl, .inl (Rd.mono ex.bh h1), .inl (Rd.mono ex.bh h3), pg _ H' B' ex (walks_zip h1 h2 h3 h4 (Small.list sm ex.bh dx0))⟩
theorem vi_rev {p pos : Pos} (hm : X.mg "reversed" = none) (ha : VE X W a fa) (hg : Gl X "reversed" := by rfl) (hs : starEach [a] X.env = [(false, eval a X.env)] := by rfl) (he : starEach [a] X.env = (false, eval a X.env) :: starEach [] X.env := by rfl) : VI X W tg (.Call (.Name "reversed" p) [a] [] pos) (i1 vrev fa) := by
  obtain ⟨t, pt, qt⟩ := ha.ex
  refine ⟨_, pi_reversed hg hm (pa_cons pt pa_nil he) hs, fun σ H B ρ Rr s rf pr => ?_⟩
  refine one qt s rf pr fun d x H' B' ex sm dx pg => ?_
  have dx0 := dx
  cases dx <;> first | exact pg.elim | skip
  rename_i h1 h2
  exact ⟨_, _, rfl, .inl (Rd.mono ex.bh h1), pg _ H' B' ex (walks_rev h1 h2 (Small.list sm ex.bh dx0))⟩

/-! ### comprehensions -/
def wipeD (ρ : PEnv) : List Nat → PEnv
  | [] => ρ
  | v :: vs => (wipeD ρ vs).set v none
theorem RF.wipe {K : PySem.W.Frag} {B : Hp} {σ : L2.St} {ρ : PEnv} (h : RF K B σ ρ) : ∀ vs : List Nat, RF K B (L2.wipe σ vs) (wipeD ρ vs)
  | [] => h
  | v :: vs => by
    have ih := RF.wipe h vs
    unfold L2.wipe wipeD
    refine ⟨by rw [List.length_set, List.length_set]; exact ih.len, fun j e x => ?_⟩
    by_cases hj : j = v
    · subst hj
      have hl : j < (wipeD ρ vs).length := by
        obtain ⟨q, _⟩ := List.getElem?_eq_some_iff.mp x
        rw [List.length_set] at q; exact q
      rw [List.getElem?_set_self hl] at x
      cases x
    · rw [List.getElem?_set_ne (Ne.symm hj)] at x
      obtain ⟨u, e1, e2⟩ := ih.at_ j e x
      exact ⟨u, by rw [List.getElem?_set_ne (Ne.symm hj)]; exact e1, e2⟩
theorem wipe_at {σ : L2.St} {i : Nat} : ∀ {vs : List Nat}, i ∈ vs → ∀ x, (L2.wipe σ vs)[i]? ≠ some (some x)
  | [], h, _ => by cases h
  | v :: vs, h, x => by
    unfold L2.wipe
    by_cases hv : v = i
    · subst hv
      intro q
      obtain ⟨q1, _⟩ := List.getElem?_eq_some_iff.mp q
      rw [List.getElem?_set_self (by rw [List.length_set] at q1; exact q1)] at q
      cases q
    · rw [List.getElem?_set_ne hv]
      rcases List.mem_cons.mp h with e | e
      · exact absurd e.symm hv
      · exact wipe_at e x
theorem wipe_set {σ : L2.St} {i : Nat} {x : Option V} : ∀ {vs : List Nat}, i ∈ vs → L2.wipe (σ.set i x) vs = L2.wipe σ vs
  | [], h => by cases h
  | v :: vs, h => by
    show (L2.wipe (σ.set i x) vs).set v none = (L2.wipe σ vs).set v none
    by_cases hm : i ∈ vs
    · rw [wipe_set hm]
    · have hv : i = v := by
        rcases List.mem_cons.mp h with e | e
        · exact e
        · exact absurd e hm
      subst hv
      have sw : ∀ ws : List Nat, i ∉ ws → L2.wipe (σ.set i x) ws = (L2.wipe σ ws).set i x := by
        intro ws
        induction ws with
        | nil => intro _; rfl
        | cons w ws ih =>
          intro hw
          have h1 : i ≠ w := fun e => hw (e ▸ List.mem_cons_self)
          show (L2.wipe (σ.set i x) ws).set w none = ((L2.wipe σ ws).set w none).set i x
          rw [ih (fun q => hw (List.mem_cons_of_mem _ q)), List.set_comm _ _ h1]
      rw [sw vs hm, List.set_set]
theorem wipe_idem {σ : L2.St} (vs : List Nat) : L2.wipe (L2.wipe σ vs) vs = L2.wipe σ vs := by
  have : ∀ ws, (∀ w ∈ ws, w ∈ vs) → L2.wipe (L2.wipe σ ws) vs = L2.wipe σ vs := by
    intro ws
    induction ws with
    | nil => intro _; rfl
    | cons w ws ih =>
      intro h
      show L2.wipe ((L2.wipe σ ws).set w none) vs = _
      rw [wipe_set (h w List.mem_cons_self), ih fun x hx => h x (List.mem_cons_of_mem _ hx)]
  exact this vs fun _ h => h
theorem wipe_sets {vs : List Nat} : ∀ {bs : List (Nat × V)} {σ : L2.St}, (∀ b ∈ bs, b.1 ∈ vs) → L2.wipe (setsV σ bs) vs = L2.wipe σ vs
  | [], _, _ => rfl
  | b :: bs, σ, h => by
    show L2.wipe (setsV (σ.set b.1 (some b.2)) bs) vs = _
    rw [wipe_sets fun x hx => h x (List.mem_cons_of_mem _ hx), wipe_set (h b List.mem_cons_self)]
/-- an error within a comprehension is not carried -/
def R.calm {α : Type} : R α → R α
  | .err _ => .stuck
  | r => r
def tyes : PEnv → R Bool := fun _ => .ok true
def compL (kt : D → R (List (Nat × D))) (ft : PEnv → R Bool) (fe : PEnv → R D) (ρ : PEnv) : List D → R (List D)
  | [] => .ok []
  | d :: ds => (kt d).bind fun bs => ((ft (setsD ρ bs)).calm).bind fun b => if b then ((fe (setsD ρ bs)).calm).bind fun y => (compL kt ft fe ρ ds).bind fun ys => .ok (y :: ys) else compL kt ft fe ρ ds
def vcomp (own : List Nat) (fi : PEnv → R (List D)) (kt : D → R (List (Nat × D))) (ft : PEnv → R Bool) (fe : PEnv → R D) : PEnv → R (List D) := fun ρ => (fi ρ).bind fun ds => (compL kt ft fe (wipeD ρ own) ds).calm
abbrev W0 : WX := fun _ _ _ _ => False
structure VTs (X : Cx) (W : WX) (ifs : List Expr) (f : PEnv → R Bool) : Prop where
  ex : ∃ t, PTs X ifs t ∧ ∀ σ H B ρ Q, Same B H → RF X.K B σ ρ → Pst X W σ H (KB1 B H Q) (f ρ) → t σ H Q
theorem vts_nil : VTs X W [] tyes := ⟨_, pts_nil, fun σ H B ρ Q s rf p => p H B (.refl s)⟩
theorem vts_one (h : VT X W c ft) : VTs X W [c] ft := by
  obtain ⟨t, p, q⟩ := h.ex
  exact ⟨t, pts_one p, q⟩
theorem calm_ok {α : Type} {r : R α} {a : α} (h : r.calm = .ok a) : r = .ok a := by
  cases r <;> first | exact h | cases h
theorem calm_ne {α : Type} {r : R α} {c : Str} : r.calm ≠ .err c := by cases r <;> exact fun h => nomatch h
theorem Pst.calm {α : Type} {X : Cx} {W : WX} {σ : L2.St} {H : Hp} {K : α → Prop} {r : R α} {a : α} (h : r.calm = .ok a) (k : K a) : Pst X W σ H K r := by
  rw [calm_ok h]; exact k
/-- the wanted end for a new list that nobody else holds -/
def KFr (X : Cx) (B H : Hp) (Q : VK) (ds : List PyData) : Prop := ∀ p vs H' B', Ext B H B' H' → H' p = some (.lst vs) → H p = none → B' p = none → IsAll X.K B' vs ds → Q (.ref p) H'
theorem kfr_of {B H : Hp} {Q : VK} {ds : List PyData} (h : ∀ v H' B', Ext B H B' H' → Is X.K B' v (.list ds) → Q v H') : KFr X B H Q ds := fun p vs H' B' e hp hn bn ia => by
  refine h _ H' (upd B' p (.lst vs)) ⟨e.hh, fun b u q => same_upd bn _ _ (e.bb _ _ q), fun b u q => ?_, fun a h1 h2 => ?_⟩ (.lst (.inl upd_same) (IsAll.mono (same_upd bn) ia))
  · by_cases hb : b = p
    · subst hb; rw [upd_same] at q; cases q; exact hp
    · rw [upd_ne hb] at q; exact e.bh _ _ q
  · by_cases hb : a = p
    · subst hb; exact hn
    · rw [upd_ne hb] at h2; exact e.nw a h1 h2
/-- an expression that makes a new list -/
structure VFr (X : Cx) (W : WX) (e : Expr) (f : PEnv → R (List PyData)) : Prop where
  ex : ∃ t, PE X e t ∧ ∀ σ H B ρ Q, Same B H → RF X.K B σ ρ → Pst X W σ H (KFr X B H Q) (f ρ) → t σ H Q
def vlistOf (f : PEnv → R (List PyData)) : PEnv → R PyData := fun ρ => (f ρ).bind fun ds => .ok (.list ds)
theorem VFr.ve {e : Expr} {f : PEnv → R (List PyData)} (h : VFr X W e f) : VE X W e (vlistOf f) := by
  obtain ⟨t, p, q⟩ := h.ex
  refine VE.mk' p fun σ H B ρ Q s rf pr => q σ H B ρ Q s rf ?_
  unfold vlistOf at pr
  generalize f ρ = r at pr ⊢
  cases r with
  | stuck => exact pr
  | err c => exact pr
  | ok ds => exact kfr_of pr
/-- the reading of a comprehension -/
theorem comp_read {wi : TI} {g : TG} {tt : TT} {te : TE} {own sl : List Nat} {fi : PEnv → R (List D)} {kt : D → R (List (Nat × D))} {ft : PEnv → R Bool} {fe : PEnv → R D} 
    (qi : ∀ σ H B ρ Rr, Same B H → RF X.K B σ ρ → Pst X W σ H (KI1 X B H Rr) (fi ρ) → wi σ H Rr)
    (qg : ∀ v σ H B d Q, Same B H → Is X.K B v d → (∃ bd, kt d = .ok bd ∧ ∀ bv, Bds X.K B bv bd → Q (setsV σ bv) H) → g v σ H Q) (hsl : ∀ d bs, kt d = .ok bs → bs.map (·.1) = sl) (hso : ∀ i ∈ sl, i ∈ own)
    (qt : ∀ σ H B ρ Q, Same B H → RF X.K B σ ρ → Pst X W0 σ H (KB1 B H Q) (ft ρ) → tt σ H Q)
    (qe : ∀ σ H B ρ Q, Same B H → RF X.K B σ ρ → Pst X W0 σ H (KV1 X B H Q) (fe ρ) → te σ H Q)
    {σ : L2.St} {H B : Hp} {ρ : PEnv} {Q : VK} (s : Same B H) (rf : RF X.K B σ ρ)
    (pr : Pst X W σ H (KFr X B H Q) (vcomp own fi kt ft fe ρ)) : tLc wi g tt te own σ H Q := by
  unfold vcomp at pr
  refine qi σ H B ρ _ s rf ?_
  generalize fi ρ = ri at pr ⊢
  cases ri with
  | stuck => exact pr
  | err c => exact pr
  | ok ds =>
    simp only [R.bind_ok] at pr
    intro J H1 B1 e1 wk D hD
    generalize hc : (compL kt ft fe (wipeD ρ own) ds).calm = rc at pr
    cases rc with
    | stuck => exact pr.elim
    | err c => exact (calm_ne hc).elim
    | ok ys =>
      have hc := calm_ok hc
      have pr : KFr X B H Q ys := pr
      have hDH : H D = none := Same.free e1.hh hD
      have upo : ∀ {B' H' : Hp} {o : HO}, Ext B H B' H' → B' D = none → Ext B H B' (upd H' D o) := fun {B' H' o} x n =>
        ⟨fun b u q => by rw [upd_ne (ne_of_none q hDH)]; exact x.hh _ _ q, x.bb, fun b u q => by rw [upd_ne (ne_of_none q n)]; exact x.bh _ _ q, x.nw⟩
      have keepD : ∀ {Ba Ha B' H' : Hp} {o : HO}, Ext Ba Ha B' H' → Ba D = none → Ha D = some o → B' D = none := fun {Ba Ha B' H' o} x n q => by
        cases z : B' D with
        | none => rfl
        | some u =>
          have := x.nw D n (by rw [z]; exact fun w => nomatch w)
          rw [q] at this
          cases this
      refine ⟨fun i m Hi => m = ds.length - i ∧ i ≤ ds.length ∧ ∃ Bi acc yd rest, Ext B H Bi Hi ∧ Same B1 Bi ∧ Bi D = none ∧ Hi D = some (.lst acc) ∧ IsAll X.K Bi acc yd ∧ acc.length ≤ i ∧ compL kt ft fe (wipeD ρ own) (ds.drop i) = .ok rest ∧ yd ++ rest = ys,
        ⟨ds.length, by simp, Nat.zero_le _, B1, [], [], ys, upo e1 (Same.free e1.bh hD), Same.refl _, Same.free e1.bh hD, upd_same, .nil, Nat.le_refl _, by simpa using hc, rfl⟩, ?_⟩
      rintro i m Hi ⟨rfl, hi, Bi, acc, yd, rest, ex, b1, bD, hDi, ia, hl, hcr, hys⟩
      by_cases hlt : i < ds.length
      · refine .inr ⟨wk.go i Hi (b1.trans ex.bh) hlt, fun Hi => i + 1 ≤ ds.length ∧ ∃ Bi acc yd rest, Ext B H Bi Hi ∧ Same B1 Bi ∧ Bi D = none ∧ Hi D = some (.lst acc) ∧ IsAll X.K Bi acc yd ∧ acc.length ≤ i + 1 ∧ compL kt ft fe (wipeD ρ own) (ds.drop (i + 1)) = .ok rest ∧ yd ++ rest = ys,
          fun H' q => ⟨ds.length - (i + 1), by omega, rfl, q⟩, fun x H' y => ?_⟩
        obtain ⟨d, B2, e2, E2, dx⟩ := wk.yld i Hi x H' Bi b1 ex.bh hlt y
        have hdrop : ds.drop i = d :: ds.drop (i + 1) := by
          obtain ⟨q1, q2⟩ := List.getElem?_eq_some_iff.mp e2
          rw [List.drop_eq_getElem_cons q1, q2]
        rw [hdrop] at hcr
        simp only [compL] at hcr
        generalize hk : kt d = rk at hcr
        cases rk with
        | stuck => cases hcr
        | err c => cases hcr
        | ok bs =>
          simp only [R.bind_ok] at hcr
          generalize hft : (ft (setsD (wipeD ρ own) bs)).calm = rt at hcr
          cases rt with
          | stuck => cases hcr
          | err c => cases hcr
          | ok b =>
            simp only [R.bind_ok] at hcr
            refine qg x (L2.wipe σ own) H' B2 d _ E2.bh dx ⟨bs, hk, fun bv hb => ?_⟩
            have RF2 : RF X.K B2 (setsV (L2.wipe σ own) bv) (setsD (wipeD ρ own) bs) := RF.sets ((RF.wipe rf own).mono (ex.bb.trans E2.bb)) hb
            have hw : L2.wipe (setsV (L2.wipe σ own) bv) own = L2.wipe σ own := by
              rw [wipe_sets, wipe_idem]
              intro p hp
              refine hso _ ?_
              rw [← hsl d bs hk]
              have fst : ∀ {l1 : List (Nat × V)} {l2 : List (Nat × PyData)}, Bds X.K B2 l1 l2 → l1.map (·.1) = l2.map (·.1) := by
                intro l1 l2 h
                induction h with
                | nil => rfl
                | cons r t ih => rw [List.map_cons, List.map_cons, r.1, ih]
              rw [← fst hb]
              exact List.mem_map_of_mem hp
            refine ⟨hw, ?_⟩
            refine qt _ H' B2 _ _ E2.bh RF2 (Pst.calm hft fun H3 B3 E3 => ?_)
            have hD2 := E2.hh _ _ hDi
            have bD2 := keepD E2 bD hDi
            cases b with
            | true =>
              simp only [if_true] at hcr
              generalize hfe : (fe (setsD (wipeD ρ own) bs)).calm = re at hcr
              cases re with
              | stuck => cases hcr
              | err c => cases hcr
              | ok yv =>
                simp only [R.bind_ok] at hcr
                generalize hrest : compL kt ft fe (wipeD ρ own) (ds.drop (i + 1)) = rr at hcr
                cases rr with
                | stuck => cases hcr
                | err c => cases hcr
                | ok rest' =>
                  cases hcr
                  refine iteT (qe _ H3 B3 _ _ E3.bh (RF2.mono E3.bb) (Pst.calm hfe fun v H4 B4 E4 sm dv => ?_))
                  have E24 := (E2.trans E3).trans E4
                  have bD4 := keepD E24 bD hDi
                  refine ⟨acc, E24.hh _ _ hDi, by have := wk.small; omega, hlt, B4, acc ++ [v], yd ++ [yv], rest', upo (ex.trans E24) bD4, b1.trans E24.bb, bD4, upd_same, IsAll.append (IsAll.mono E24.bb ia) (.cons dv .nil), by rw [List.length_append, List.length_singleton]; omega, rfl, ?_⟩
                  rw [List.append_assoc]; exact hys
            | false =>
              simp only [Bool.false_eq_true, if_false] at hcr
              have E23 := E2.trans E3
              exact iteF ⟨hlt, B3, acc, yd, rest, ex.trans E23, b1.trans E23.bb, keepD E23 bD hDi, E23.hh _ _ hDi, IsAll.mono E23.bb ia, by omega, hcr, hys⟩
      · have e : i = ds.length := by omega
        subst e
        refine .inl ⟨wk.stop Hi (b1.trans ex.bh), ?_⟩
        rw [List.drop_length] at hcr
        cases hcr
        rw [List.append_nil] at hys
        subst hys
        exact pr D acc Hi Bi ex hDi hDH bD ia
/-! the reading that a function on data is -/
def tV (X : Cx) (W : WX) (f : PEnv → R PyData) : TE := fun σ H Q => ∃ B ρ, Same B H ∧ RF X.K B σ ρ ∧ Pst X W σ H (KV1 X B H Q) (f ρ)
def tVT (X : Cx) (W : WX) (f : PEnv → R Bool) : TT := fun σ H Q => ∃ B ρ, Same B H ∧ RF X.K B σ ρ ∧ Pst X W σ H (KB1 B H Q) (f ρ)
def tVG (X : Cx) (k : PyData → R (List (Nat × PyData))) : TG := fun v σ H Q => ∃ B d, Same B H ∧ Is X.K B v d ∧ ∃ bd, k d = .ok bd ∧ ∀ bv, Bds X.K B bv bd → Q (setsV σ bv) H
theorem VE.pe {e : Expr} {f : PEnv → R PyData} (h : VE X W e f) : PE X e (tV X W f) := by
  obtain ⟨t, p, q⟩ := h.ex
  exact ⟨fun pins s σ H Q I ⟨B, ρ, s1, r, hp⟩ => p.run pins s σ H Q I (q σ H B ρ Q s1 r hp)⟩
theorem VTs.pt {e : List Expr} {f : PEnv → R Bool} (h : VTs X W e f) : PTs X e (tVT X W f) := by
  obtain ⟨t, p, q⟩ := h.ex
  exact ⟨fun pins s σ H Q I ⟨B, ρ, s1, r, hp⟩ => p.run pins s σ H Q I (q σ H B ρ Q s1 r hp)⟩
theorem VT.pt {e : Expr} {f : PEnv → R Bool} (h : VT X W e f) : PT X e (tVT X W f) := by
  obtain ⟨t, p, q⟩ := h.ex
  exact ⟨fun pins s σ H Q I ⟨B, ρ, s1, r, hp⟩ => p.run pins s σ H Q I (q σ H B ρ Q s1 r hp)⟩
theorem VG.pg {e : Expr} {sl : List Nat} {k : PyData → R (List (Nat × PyData))} (h : VG X e sl k) : PG X e (tVG X k) := by
  obtain ⟨t, p, q⟩ := h.ex
  exact ⟨fun pins s σ H v u Q I r ⟨B, d, s1, dv, hp⟩ => p.run pins s σ H v u Q I r (q v σ H B d Q s1 dv hp)⟩
/-- [e for t in it if ..] -/
theorem vcomp_ {elt tg iter : Expr} {ifs : List Expr} {scope : Scope} {own : List (Str × Nat)} {sl : List Nat} {fi : PEnv → R (List D)} {kt : D → R (List (Nat × D))} {ft : PEnv → R Bool} {fe : PEnv → R D} (hc : X.calm = true) (hN : X.N.Nodup) (hi : VI X W tg iter fi) (ok : BlkOk X.N X.env.scope scope own)
    (hg : ∀ (s : Shared) (H : Hp) (C : Addr) (cl : List (Str × Addr)) (fp : List Addr), VG (X.blk s H scope (compEnvC scope cl C X.env) fp) tg sl kt)
    (hso : ∀ i ∈ sl, i ∈ own.map (·.2))
    (ht : ∀ (s : Shared) (H : Hp) (C : Addr) (cl : List (Str × Addr)) (fp : List Addr), VTs (X.blk s H scope (compEnvC scope cl C X.env) fp) W0 ifs ft)
    (he : ∀ (s : Shared) (H : Hp) (C : Addr) (cl : List (Str × Addr)) (fp : List Addr), VE (X.blk s H scope (compEnvC scope cl C X.env) fp) W0 elt fe) (hs : ∀ x, foldedSetIterable iter X.env x = pure x := by intro _; rfl) :
    VFr X W (.ListComp elt [⟨tg, iter, ifs, 0⟩] scope pos) (vcomp (own.map (·.2)) fi kt ft fe) := by
  obtain ⟨wi, pi, qi⟩ := hi.ex
  have h1 : ∀ (s : Shared) (H : Hp) (C : Addr) (cl : List (Str × Addr)) (fp : List Addr), PG (X.blk s H scope (compEnvC scope cl C X.env) fp) tg (tVG X kt) := fun s H C cl fp => (hg s H C cl fp).pg
  have h2 : ∀ (s : Shared) (H : Hp) (C : Addr) (cl : List (Str × Addr)) (fp : List Addr), PTs (X.blk s H scope (compEnvC scope cl C X.env) fp) ifs (tVT X W0 ft) := fun s H C cl fp => (ht s H C cl fp).pt
  have h3 : ∀ (s : Shared) (H : Hp) (C : Addr) (cl : List (Str × Addr)) (fp : List Addr), PE (X.blk s H scope (compEnvC scope cl C X.env) fp) elt (tV X W0 fe) := fun s H C cl fp => (he s H C cl fp).pe
  refine ⟨_, pe_lc hc hN pi ok h1 h2 h3 hs, fun σ H B ρ Q s rf pr => ?_⟩
  have hsl : ∀ d bs, kt d = .ok bs → bs.map (·.1) = sl := (hg {} (fun _ => none) 0 [] []).sl
  exact comp_read qi (fun v σ H B d Q s dv q => ⟨B, d, s, dv, q⟩) hsl hso (fun σ H B ρ Q s r p => ⟨B, ρ, s, r, p⟩) (fun σ H B ρ Q s r p => ⟨B, ρ, s, r, p⟩) s rf pr
/-! other new lists -/
theorem vlst_f {n : Nat} {g : PEnv → R (List PyData)} (h : VAn X W n es g) (hz : n ≤ 1000 := by decide) : VFr X W (.List es pos) g := by
  obtain ⟨t, pt, qt⟩ := h.va.ex
  refine ⟨_, pe_lst pt, fun σ H B ρ Q s r p => ?_⟩
  cases hg : g ρ with
  | stuck => rw [hg] at p; exact p.elim
  | err c => rw [hg] at p; exact qt σ H B ρ _ s r (by rw [hg]; exact p)
  | ok ds =>
    rw [hg] at p
    refine qt σ H B ρ _ s r ?_
    rw [hg]
    intro xs H1 B1 e1 d1
    refine ⟨by rw [IsAll.len d1, h.len ρ ds hg]; exact Nat.le_trans hz (by decide), fun q hq => ?_⟩
    exact p q xs _ B1 (e1.trans (Ext.own e1.bh hq)) upd_same (Same.free e1.hh hq) (Same.free e1.bh hq) d1
def lseqD : PyData → R (List PyData) := seqD
theorem vlist_f {p : Pos} {e : Expr} {f : PEnv → R PyData} (hm : X.mg "list" = none) (ha : VE X W e f) (hg : Gl X "list" := by rfl) (he : starEach [e] X.env = (false, eval e X.env) :: starEach [] X.env := by rfl) (hpl : (backTo pos (starEach [] X.env)).any (·.1) = false := by rfl) :
    VFr X W (.Call (.Name "list" p) [e] [] pos) (isq f) := by
  obtain ⟨t, pt, qt⟩ := ha.ex
  refine ⟨_, pe_callTy call_list_of hg hm (by decide +kernel) (pa_cons pt pa_nil he) (by decide) (by decide) he hpl, fun σ H B ρ Q s rf pr => ?_⟩
  refine one qt s rf pr fun d x H' B' ex sm dx pg => ?_
  cases dx <;> first | exact pg.elim | skip
  · rename_i h1 h2
    exact ⟨_, _, rfl, .inl (.inl (Rd.mono ex.bh h1)), fun l hl => pg l _ _ B' (ex.trans (Ext.own ex.bh hl)) upd_same (Same.free ex.hh hl) (Same.free ex.bh hl) h2⟩
  · rename_i h1 h2
    exact ⟨_, _, rfl, .inr (Same.tupl ex.bh h1), fun l hl => pg l _ _ B' (ex.trans (Ext.own ex.bh hl)) upd_same (Same.free ex.hh hl) (Same.free ex.bh hl) h2⟩
/-- list(range(..)) -/
theorem vlist_range2 {p p2 pos2 : Pos} (hc : X.calm = true) (hm : X.mg "list" = none) (hm2 : X.mg "range" = none) (ha : VE X W a fa) (hb : VE X W b fb) (hg : Gl X "list" := by rfl) (hg2 : Gl X "range" := by rfl)
    (n1 : starEach [a, b] X.env = (false, eval a X.env) :: starEach [b] X.env := by rfl) (n2 : starEach [b] X.env = (false, eval b X.env) :: starEach [] X.env := by rfl)
    (n3 : starEach [.Call (.Name "range" p2) [a, b] [] pos2] X.env = (false, eval (.Call (.Name "range" p2) [a, b] [] pos2) X.env) :: starEach [] X.env := by rfl) : True := trivial
end
end VL

namespace VL
open PySem PySem.Spec PyProof.Rows L2

/-! ### what is one's own: trees of lists that nobody else holds -/
inductive O where
  | fz (d : PyData)
  | tup (xs : List O)
  | lst (xs : List O)
mutual
def O.data : O → PyData
  | .fz d => d
  | .tup xs => .tuple (O.datas xs)
  | .lst xs => .list (O.datas xs)
def O.datas : List O → List PyData
  | [] => []
  | x :: xs => O.data x :: O.datas xs
end
theorem O.datas_map : ∀ xs : List O, O.datas xs = xs.map O.data
  | [] => by simp [O.datas]
  | x :: xs => by simp [O.datas, O.datas_map xs]
@[simp] theorem O.data_fz (d : PyData) : O.data (.fz d) = d := by simp [O.data]
@[simp] theorem O.data_lst (xs : List O) : O.data (.lst xs) = .list (xs.map O.data) := by simp [O.data, O.datas_map]
@[simp] theorem O.data_tup (xs : List O) : O.data (.tup xs) = .tuple (xs.map O.data) := by simp [O.data, O.datas_map]
mutual
inductive Own (K : PySem.W.Frag) (F H : Hp) : V → O → List Addr → Prop
  | fz {v : V} {d : PyData} : Is K F v d → Own K F H v (.fz d) []
  | tup {a : Addr} {vs : List V} {os : List O} {fp : List Addr} : SqT K F a vs → OwnL K F H vs os fp → Own K F H (.ref a) (.tup os) fp
  | lst {a : Addr} {vs : List V} {os : List O} {fp : List Addr} : H a = some (.lst vs) → OwnL K F H vs os fp → Own K F H (.ref a) (.lst os) (a :: fp)
inductive OwnL (K : PySem.W.Frag) (F H : Hp) : List V → List O → List Addr → Prop
  | nil : OwnL K F H [] [] []
  | cons {v : V} {vs : List V} {o : O} {os : List O} {fp fps : List Addr} : Own K F H v o fp → OwnL K F H vs os fps → OwnL K F H (v :: vs) (o :: os) (fp ++ fps)
end
mutual
theorem Own.keep {K : PySem.W.Frag} {F F' H H' : Hp} (e : Same F F') : ∀ {o : O} {v : V} {fp : List Addr}, Own K F H v o fp → (∀ a ∈ fp, H' a = H a) → Own K F' H' v o fp
  | .fz d, _, _, h, _ => by cases h with | fz h => exact .fz (Is.mono e h)
  | .tup os, _, _, h, k => by cases h with | tup h1 h2 => exact .tup (Same.tupl e h1) (OwnL.keep e h2 k)
  | .lst os, _, _, h, k => by
    cases h with
    | lst h1 h2 => exact .lst ((k _ List.mem_cons_self).trans h1) (OwnL.keep e h2 fun a ha => k a (List.mem_cons_of_mem _ ha))
theorem OwnL.keep {K : PySem.W.Frag} {F F' H H' : Hp} (e : Same F F') : ∀ {os : List O} {vs : List V} {fp : List Addr}, OwnL K F H vs os fp → (∀ a ∈ fp, H' a = H a) → OwnL K F' H' vs os fp
  | [], _, _, h, _ => by cases h; exact .nil
  | o :: os, _, _, h, k => by
    cases h with
    | cons h1 h2 => exact .cons (Own.keep e h1 fun a ha => k a (List.mem_append_left _ ha)) (OwnL.keep e h2 fun a ha => k a (List.mem_append_right _ ha))
end
mutual
/- seen as data, in a heap that holds the frozen part and the footprint -/
theorem Own.is {K : PySem.W.Frag} {F H B : Hp} (e : Same F B) : ∀ {o : O} {v : V} {fp : List Addr}, Own K F H v o fp → (∀ a ∈ fp, B a = H a) → Is K B v o.data
  | .fz d, _, _, h, _ => by cases h with | fz h => rw [O.data_fz]; exact Is.mono e h
  | .tup os, _, _, h, k => by cases h with | tup h1 h2 => rw [O.data]; exact .tup (Same.tupl e h1) (OwnL.is e h2 k)
  | .lst os, _, _, h, k => by
    cases h with
    | lst h1 h2 => rw [O.data]; exact .lst (.inl ((k _ List.mem_cons_self).trans h1)) (OwnL.is e h2 fun a ha => k a (List.mem_cons_of_mem _ ha))
theorem OwnL.is {K : PySem.W.Frag} {F H B : Hp} (e : Same F B) : ∀ {os : List O} {vs : List V} {fp : List Addr}, OwnL K F H vs os fp → (∀ a ∈ fp, B a = H a) → IsAll K B vs (O.datas os)
  | [], _, _, h, _ => by cases h; rw [O.datas]; exact .nil
  | o :: os, _, _, h, k => by
    cases h with
    | cons h1 h2 => rw [O.datas]; exact .cons (Own.is e h1 fun a ha => k a (List.mem_append_left _ ha)) (OwnL.is e h2 fun a ha => k a (List.mem_append_right _ ha))
end
mutual
theorem Own.lstAt {K : PySem.W.Frag} {F H : Hp} : ∀ {o : O} {v : V} {fp : List Addr}, Own K F H v o fp → ∀ a ∈ fp, ∃ vs, H a = some (.lst vs)
  | .fz d, _, _, h, a, ha => by cases h with | fz h => cases ha
  | .tup os, _, _, h, a, ha => by cases h with | tup h1 h2 => exact OwnL.lstAt h2 a ha
  | .lst os, _, _, h, a, ha => by
    cases h with
    | lst h1 h2 =>
      rcases List.mem_cons.mp ha with e | e
      · subst e; exact ⟨_, h1⟩
      · exact OwnL.lstAt h2 a e
theorem OwnL.lstAt {K : PySem.W.Frag} {F H : Hp} : ∀ {os : List O} {vs : List V} {fp : List Addr}, OwnL K F H vs os fp → ∀ a ∈ fp, ∃ vs, H a = some (.lst vs)
  | [], _, _, h, a, ha => by cases h; cases ha
  | o :: os, _, _, h, a, ha => by
    cases h with
    | cons h1 h2 =>
      rcases List.mem_append.mp ha with e | e
      · exact Own.lstAt h1 a e
      · exact OwnL.lstAt h2 a e
end
theorem OwnL.len {K : PySem.W.Frag} {F H : Hp} : ∀ {os : List O} {vs : List V} {fp : List Addr}, OwnL K F H vs os fp → vs.length = os.length
  | [], _, _, h => by cases h; rfl
  | o :: os, _, _, h => by
    cases h with
    | cons h1 h2 => rw [List.length_cons, List.length_cons, OwnL.len h2]
theorem OwnL.append {K : PySem.W.Frag} {F H : Hp} : ∀ {os ps : List O} {vs us : List V} {f g : List Addr}, OwnL K F H vs os f → OwnL K F H us ps g → OwnL K F H (vs ++ us) (os ++ ps) (f ++ g)
  | [], _, _, _, _, _, h, q => by cases h; exact q
  | o :: os, _, _, _, _, _, h, q => by
    cases h with
    | cons h1 h2 => rw [List.append_assoc]; exact .cons h1 (OwnL.append h2 q)
/-- frozen items -/
theorem OwnL.fzs {K : PySem.W.Frag} {F H : Hp} : ∀ {ds : List PyData} {vs : List V}, IsAll K F vs ds → OwnL K F H vs (ds.map O.fz) []
  | [], _, h => by cases h; exact .nil
  | d :: ds, _, h => by
    cases h with
    | cons h1 h2 => exact .cons (.fz h1) (OwnL.fzs h2)

/-! ### the slots -/
abbrev OEnv := List (Option O)
inductive Slots (K : PySem.W.Frag) (F H : Hp) : L2.St → OEnv → List Addr → Prop
  | nil : Slots K F H [] [] []
  | un {s : Option V} {σ : L2.St} {ρ : OEnv} {fps : List Addr} : Slots K F H σ ρ fps → Slots K F H (s :: σ) (none :: ρ) fps
  | ow {v : V} {o : O} {fp : List Addr} {σ : L2.St} {ρ : OEnv} {fps : List Addr} : Own K F H v o fp → Slots K F H σ ρ fps → Slots K F H (some v :: σ) (some o :: ρ) (fp ++ fps)
section
variable {K : PySem.W.Frag} {F F' H H' B : Hp} {σ : L2.St} {ρ : OEnv} {fps : List Addr}
theorem Slots.len (h : Slots K F H σ ρ fps) : σ.length = ρ.length := by
  induction h with
  | nil => rfl
  | un _ ih => rw [List.length_cons, List.length_cons, ih]
  | ow _ _ ih => rw [List.length_cons, List.length_cons, ih]
theorem Slots.keep (h : Slots K F H σ ρ fps) (e : Same F F') (k : ∀ a ∈ fps, H' a = H a) : Slots K F' H' σ ρ fps := by
  induction h with
  | nil => exact .nil
  | un _ ih => exact .un (ih k)
  | ow h1 _ ih => exact .ow (h1.keep e fun a ha => k a (List.mem_append_left _ ha)) (ih fun a ha => k a (List.mem_append_right _ ha))
theorem Slots.lstAt (h : Slots K F H σ ρ fps) : ∀ a ∈ fps, ∃ vs, H a = some (.lst vs) := by
  induction h with
  | nil => intro a ha; cases ha
  | un _ ih => exact ih
  | ow h1 _ ih =>
    intro a ha
    rcases List.mem_append.mp ha with e | e
    · exact h1.lstAt a e
    · exact ih a e
/-- slot i out of the slots, and something else into it -/
theorem Slots.split (h : Slots K F H σ ρ fps) : ∀ {i : Nat} {o : O}, ρ[i]? = some (some o) → ∃ v fp fpr, σ[i]? = some (some v) ∧ Own K F H v o fp ∧ fps.Perm (fp ++ fpr) ∧
    (∀ s, Slots K F H (σ.set i s) (ρ.set i none) fpr) ∧ ∀ F' H' v' o' fp', Own K F' H' v' o' fp' → Same F F' → (∀ a ∈ fpr, H' a = H a) → ∃ fps', Slots K F' H' (σ.set i (some v')) (ρ.set i (some o')) fps' ∧ fps'.Perm (fp' ++ fpr) := by
  induction h with
  | nil => intro i o e; simp at e
  | @un s σ ρ fps h ih =>
    intro i o e
    cases i with
    | zero => simp at e
    | succ i =>
      obtain ⟨v, fp, fpr, e1, e2, e3, e4, e5⟩ := ih (i := i) (by simpa using e)
      refine ⟨v, fp, fpr, by simpa using e1, e2, e3, fun s => .un (e4 s), fun F' H' v' o' fp' q1 q2 q3 => ?_⟩
      obtain ⟨fps', z1, z2⟩ := e5 F' H' v' o' fp' q1 q2 q3
      exact ⟨fps', .un z1, z2⟩
  | @ow v o' fp σ ρ fps h1 h ih =>
    intro i o e
    cases i with
    | zero =>
      simp at e
      subst e
      exact ⟨v, fp, fps, rfl, h1, .refl _, fun s => .un h, fun F' H' v' o' fp' q1 q2 q3 => ⟨fp' ++ fps, .ow q1 (h.keep q2 q3), .refl _⟩⟩
    | succ i =>
      obtain ⟨v2, fp2, fpr, e1, e2, e3, e4, e5⟩ := ih (i := i) (by simpa using e)
      refine ⟨v2, fp2, fp ++ fpr, by simpa using e1, e2, ?_, fun s => .ow h1 (e4 s), fun F' H' v' o'' fp' q1 q2 q3 => ?_⟩
      · refine (List.Perm.append_left fp e3).trans ?_
        rw [← List.append_assoc, ← List.append_assoc]
        exact List.Perm.append_right _ List.perm_append_comm
      · obtain ⟨fps', z1, z2⟩ := e5 F' H' v' o'' fp' q1 q2 fun a ha => q3 a (List.mem_append_right _ ha)
        refine ⟨fp ++ fps', .ow (h1.keep q2 fun a ha => q3 a (List.mem_append_left _ ha)) z1, ?_⟩
        refine (List.Perm.append_left fp z2).trans ?_
        rw [← List.append_assoc, ← List.append_assoc]
        exact List.Perm.append_right _ List.perm_append_comm
/-- slot i is forgotten -/
theorem Slots.drop (h : Slots K F H σ ρ fps) : ∀ (i : Nat) (s : Option V), ∃ fpr, Slots K F H (σ.set i s) (ρ.set i none) fpr ∧ fpr.Sublist fps := by
  induction h with
  | nil => intro i s; exact ⟨[], by simp; exact .nil, .refl _⟩
  | @un s' σ ρ fps h ih =>
    intro i s
    cases i with
    | zero => exact ⟨fps, .un h, .refl _⟩
    | succ i => obtain ⟨f, z1, z2⟩ := ih i s; exact ⟨f, .un z1, z2⟩
  | @ow v o' fp σ ρ fps h1 h ih =>
    intro i s
    cases i with
    | zero => exact ⟨fps, .un h, List.sublist_append_right _ _⟩
    | succ i => obtain ⟨f, z1, z2⟩ := ih i s; exact ⟨fp ++ f, .ow h1 z1, List.Sublist.append_left z2 _⟩
/-- a value comes into slot i -/
theorem Slots.put (h : Slots K F H σ ρ fps) {v : V} {o : O} {fp : List Addr} (ho : Own K F H v o fp) : ∀ (i : Nat), i < ρ.length → ∃ fps', Slots K F H (σ.set i (some v)) (ρ.set i (some o)) fps' ∧ ∃ fpr, fps'.Perm (fp ++ fpr) ∧ fpr.Sublist fps := by
  induction h with
  | nil => intro i hi; simp at hi
  | @un s' σ ρ fps h ih =>
    intro i hi
    cases i with
    | zero => exact ⟨fp ++ fps, .ow ho h, fps, .refl _, .refl _⟩
    | succ i => obtain ⟨f, z1, g, z2, z3⟩ := ih i (by simpa using hi); exact ⟨f, .un z1, g, z2, z3⟩
  | @ow v' o' fp' σ ρ fps h1 h ih =>
    intro i hi
    cases i with
    | zero => exact ⟨fp ++ fps, .ow ho h, fps, .refl _, List.sublist_append_right _ _⟩
    | succ i =>
      obtain ⟨f, z1, g, z2, z3⟩ := ih i (by simpa using hi)
      refine ⟨fp' ++ f, .ow h1 z1, fp' ++ g, ?_, List.Sublist.append_left z3 _⟩
      refine (List.Perm.append_left fp' z2).trans ?_
      rw [← List.append_assoc, ← List.append_assoc]
      exact List.Perm.append_right _ List.perm_append_comm
end
/-- the slots seen as data -/
def viewB (ρ : OEnv) : PEnv := ρ.map (Option.map O.data)
def fzOf : Option O → Option PyData
  | some (.fz d) => some d
  | _ => none
def viewF (ρ : OEnv) : PEnv := ρ.map fzOf
theorem Slots.rfB {K : PySem.W.Frag} {F H B : Hp} {σ : L2.St} {ρ : OEnv} {fps : List Addr} (e : Same F B) (h : Slots K F H σ ρ fps) (k : ∀ a ∈ fps, B a = H a) : RF K B σ (viewB ρ) := by
  refine ⟨by unfold viewB; rw [List.length_map]; exact h.len, ?_⟩
  induction h with
  | nil => intro i d x; simp [viewB] at x
  | un _ ih =>
    intro i d x
    cases i with
    | zero => simp [viewB] at x
    | succ i => obtain ⟨v, z1, z2⟩ := ih k i d (by simpa [viewB] using x); exact ⟨v, by simpa using z1, z2⟩
  | @ow v o fp σ ρ fps h1 _ ih =>
    intro i d x
    cases i with
    | zero =>
      simp [viewB] at x
      subst x
      exact ⟨v, rfl, h1.is e fun a ha => k a (List.mem_append_left _ ha)⟩
    | succ i => obtain ⟨v, z1, z2⟩ := ih (fun a ha => k a (List.mem_append_right _ ha)) i d (by simpa [viewB] using x); exact ⟨v, by simpa using z1, z2⟩
theorem Slots.rfF {K : PySem.W.Frag} {F H : Hp} {σ : L2.St} {ρ : OEnv} {fps : List Addr} (h : Slots K F H σ ρ fps) : RF K F σ (viewF ρ) := by
  refine ⟨by unfold viewF; rw [List.length_map]; exact h.len, ?_⟩
  induction h with
  | nil => intro i d x; simp [viewF] at x
  | un _ ih =>
    intro i d x
    cases i with
    | zero => simp [viewF, fzOf] at x
    | succ i => obtain ⟨v, z1, z2⟩ := ih i d (by simpa [viewF] using x); exact ⟨v, by simpa using z1, z2⟩
  | @ow v o fp σ ρ fps h1 _ ih =>
    intro i d x
    cases i with
    | zero =>
      cases o with
      | fz d' =>
        simp [viewF, fzOf] at x
        subst x
        cases h1 with | fz h1 => exact ⟨v, rfl, h1⟩
      | tup _ => simp [viewF, fzOf] at x
      | lst _ => simp [viewF, fzOf] at x
    | succ i => obtain ⟨v, z1, z2⟩ := ih i d (by simpa [viewF] using x); exact ⟨v, by simpa using z1, z2⟩

/-! ### the state of a def's body: F0, H0 the frozen part and the heap at its entry -/
structure Hs (F0 H0 F H : Hp) (fps : List Addr) : Prop where
  nd : fps.Nodup
  ow : ∀ a ∈ fps, F a = none ∧ H0 a = none
  fh : Same F H
  f0 : Same F0 F
  h0 : Same H0 H
  nw : ∀ a, F0 a = none → F a ≠ none → H0 a = none
theorem Hs.perm {F0 H0 F H : Hp} {fps fps' : List Addr} (h : Hs F0 H0 F H fps) (p : fps.Perm fps') : Hs F0 H0 F H fps' := ⟨p.nodup_iff.mp h.nd, fun a ha => h.ow a (p.mem_iff.mpr ha), h.fh, h.f0, h.h0, h.nw⟩
theorem Hs.sub {F0 H0 F H : Hp} {fps fps' : List Addr} (h : Hs F0 H0 F H fps) (p : fps'.Sublist fps) : Hs F0 H0 F H fps' := ⟨h.nd.sublist p, fun a ha => h.ow a (p.subset ha), h.fh, h.f0, h.h0, h.nw⟩
/-- the heap grows -/
theorem Hs.ext {F0 H0 F H F' H' : Hp} {fps : List Addr} (h : Hs F0 H0 F H fps) (e : Ext F H F' H') (l : ∀ a ∈ fps, ∃ vs, H a = some (.lst vs)) : Hs F0 H0 F' H' fps :=
  ⟨h.nd, fun a ha => ⟨(by
    cases q : F' a with
    | none => rfl
    | some o =>
      obtain ⟨vs, z⟩ := l a ha
      have := e.nw a (h.ow a ha).1 (by rw [q]; exact fun w => nomatch w)
      rw [z] at this
      cases this), (h.ow a ha).2⟩, e.bh, h.f0.trans e.bb, h.h0.trans e.hh, fun a h1 h2 => by
    cases q : F a with
    | some o => exact h.nw a h1 (by rw [q]; exact fun w => nomatch w)
    | none => exact Same.free h.h0 (e.nw a q h2)⟩
structure RS (K : PySem.W.Frag) (F0 H0 F H : Hp) (σ : L2.St) (ρ : OEnv) : Prop where
  ex : ∃ fps, Slots K F H σ ρ fps ∧ Hs F0 H0 F H fps
theorem RS.ext {K : PySem.W.Frag} {F0 H0 F H F' H' : Hp} {σ : L2.St} {ρ : OEnv} (h : RS K F0 H0 F H σ ρ) (e : Ext F H F' H') : RS K F0 H0 F' H' σ ρ := by
  obtain ⟨fps, s, hs⟩ := h.ex
  exact ⟨fps, s.keep e.bb fun a ha => by
    obtain ⟨vs, z⟩ := s.lstAt a ha
    rw [z]; exact e.hh _ _ z, hs.ext e s.lstAt⟩
theorem RS.grow {K : PySem.W.Frag} {F0 H0 F H H' : Hp} {σ : L2.St} {ρ : OEnv} (h : RS K F0 H0 F H σ ρ) (e : Same H H') : RS K F0 H0 F H' σ ρ := by
  obtain ⟨fps, s, hs⟩ := id h.ex
  exact h.ext ⟨e, Same.refl F, hs.fh.trans e, fun a x y => absurd x y⟩
/-- the heap in which everything is seen as data -/
def bor (F H : Hp) (fps : List Addr) : Hp := fun a => if a ∈ fps then H a else F a
theorem bor_own {F H : Hp} {fps : List Addr} {a : Addr} (h : a ∈ fps) : bor F H fps a = H a := if_pos h
theorem bor_not {F H : Hp} {fps : List Addr} {a : Addr} (h : a ∉ fps) : bor F H fps a = F a := if_neg h
theorem Hs.bor {F0 H0 F H : Hp} {fps : List Addr} (h : Hs F0 H0 F H fps) : Same F (bor F H fps) ∧ Same (VL.bor F H fps) H := by
  refine ⟨fun a o e => ?_, fun a o e => ?_⟩
  · rw [bor_not (fun ha => by rw [(h.ow a ha).1] at e; cases e)]; exact e
  · by_cases ha : a ∈ fps
    · rw [bor_own ha] at e; exact e
    · rw [bor_not ha] at e; exact h.fh _ _ e
/-- behind an expression that saw everything: what is new is frozen -/
theorem Hs.unbor {F0 H0 F H B' H' : Hp} {fps : List Addr} (h : Hs F0 H0 F H fps) (l : ∀ a ∈ fps, ∃ vs, H a = some (.lst vs)) (e : Ext (VL.bor F H fps) H B' H') :
    ∃ F', Ext F H F' H' ∧ (∀ b, (∃ ys, Rd B' b (.tup ys)) → F' b = B' b) ∧ Same F' B' := by
  obtain ⟨b1, b2⟩ := h.bor
  refine ⟨fun a => if a ∈ fps then none else B' a, ⟨e.hh, fun a o q => ?_, fun a o q => ?_, fun a h1 h2 => ?_⟩, fun b ⟨ys, hb⟩ => ?_, fun a o q => ?_⟩
  · show (if a ∈ fps then none else B' a) = some o
    rw [if_neg (fun ha => by rw [(h.ow a ha).1] at q; cases q)]
    exact e.bb _ _ (b1 _ _ q)
  · by_cases ha : a ∈ fps
    · rw [if_pos ha] at q; cases q
    · rw [if_neg ha] at q; exact e.bh _ _ q
  · by_cases ha : a ∈ fps
    · exact absurd (if_pos ha) h2
    · have h2 : B' a ≠ none := fun z => h2 ((if_neg ha).trans z)
      exact e.nw a (by rw [bor_not ha]; exact h1) h2
  · refine if_neg fun ha => ?_
    obtain ⟨vs, z⟩ := l b ha
    have q := e.bb b _ ((bor_own ha).trans z)
    rcases hb with hb | ⟨o, hb⟩ <;> (rw [q] at hb; cases hb)
  · have q : (if a ∈ fps then none else B' a) = some o := q
    by_cases ha : a ∈ fps
    · rw [if_pos ha] at q; cases q
    · rw [if_neg ha] at q; exact q
end VL

namespace VL
open PySem PySem.Spec PyProof.Rows L2

/-! ### expressions in a def's body -/
def lfok (d : PyData) : R PyData := if lf d then .ok d else .stuck
def exF (f : PEnv → R PyData) : OEnv → R PyData := fun ρ => f (viewF ρ)
def exB (f : PEnv → R PyData) : OEnv → R PyData := fun ρ => (f (viewB ρ)).bind lfok
def KX (X : Cx) (F H : Hp) (Q : VK) (d : PyData) : Prop := ∀ v H' F', Ext F H F' H' → Is X.K F' v d → Q v H'
structure VX (X : Cx) (W : WX) (e : Expr) (h : OEnv → R PyData) : Prop where
  ex : ∃ t, PE X e t ∧ ∀ σ H F0 H0 F ρ Q, RS X.K F0 H0 F H σ ρ → Pst X W σ H (KX X F H Q) (h ρ) → t σ H Q
def KXT (F H : Hp) (Q : Bool → Hp → Prop) (b : Bool) : Prop := ∀ H' F', Ext F H F' H' → Q b H'
structure VXT (X : Cx) (W : WX) (e : Expr) (h : OEnv → R Bool) : Prop where
  ex : ∃ t, PT X e t ∧ ∀ σ H F0 H0 F ρ Q, RS X.K F0 H0 F H σ ρ → Pst X W σ H (KXT F H Q) (h ρ) → t σ H Q
section
variable {X : Cx} {W : WX} {a b c e : Expr} {es : List Expr} {pos : Pos} {fa fb fc f : PEnv → R PyData} {ft fu : PEnv → R Bool} {k : Nat}
theorem vxF (h : VE X W e f) : VX X W e (exF f) := by
  obtain ⟨t, p, q⟩ := h.ex
  refine ⟨t, p, fun σ H F0 H0 F ρ Q r pr => ?_⟩
  obtain ⟨fps, s, hs⟩ := r.ex
  exact q σ H F _ Q hs.fh s.rfF (Pst.imp (fun d kx v H' B' ex sm dv => kx v H' B' ex dv) pr)
theorem vxB (h : VE X W e f) : VX X W e (exB f) := by
  obtain ⟨t, p, q⟩ := h.ex
  refine ⟨t, p, fun σ H F0 H0 F ρ Q r pr => ?_⟩
  obtain ⟨fps, s, hs⟩ := r.ex
  obtain ⟨b1, b2⟩ := hs.bor
  refine q σ H (bor F H fps) _ Q b2 (s.rfB b1 fun a ha => bor_own ha) ?_
  unfold exB at pr
  generalize f (viewB ρ) = rr at pr ⊢
  cases rr with
  | stuck => exact pr
  | err c => exact pr
  | ok d =>
    simp only [R.bind_ok, lfok] at pr
    split at pr
    · rename_i hl
      intro v H' B' ex sm dv
      obtain ⟨F', e1, e2, e3⟩ := hs.unbor s.lstAt ex
      exact pr v H' F' e1 (Is.lfree e2 hl dv)
    · exact pr.elim
theorem vxT (h : VT X W e ft) : VXT X W e (fun ρ => ft (viewB ρ)) := by
  obtain ⟨t, p, q⟩ := h.ex
  refine ⟨t, p, fun σ H F0 H0 F ρ Q r pr => ?_⟩
  obtain ⟨fps, s, hs⟩ := r.ex
  obtain ⟨b1, b2⟩ := hs.bor
  refine q σ H (bor F H fps) _ Q b2 (s.rfB b1 fun a ha => bor_own ha) (Pst.imp (fun d kx H' B' ex => ?_) pr)
  obtain ⟨F', e1, e2, e3⟩ := hs.unbor s.lstAt ex
  exact kx H' F' e1
end

/-! ### expressions that hand on what is one's own -/
def KO (X : Cx) (F0 H0 : Hp) (σ : L2.St) (Q : VK) (o : O × OEnv) : Prop := ∀ v H' F', RS X.K F0 H0 F' H' (some v :: σ) (some o.1 :: o.2) → Q v H'
structure VO (X : Cx) (W : WX) (e : Expr) (h : OEnv → R (O × OEnv)) : Prop where
  ex : ∃ t, PE X e t ∧ ∀ σ H F0 H0 F ρ Q, RS X.K F0 H0 F H σ ρ → Pst X W σ H (KO X F0 H0 σ Q) (h ρ) → t σ H Q
def oX (h : OEnv → R PyData) : OEnv → R (O × OEnv) := fun ρ => (h ρ).bind fun d => .ok (.fz d, ρ)
def oMv (i : Nat) : OEnv → R (O × OEnv) := fun ρ => match ρ[i]? with
  | some (some o) => .ok (o, ρ.set i none)
  | _ => .stuck
def oFrF (f : PEnv → R (List PyData)) : OEnv → R (O × OEnv) := fun ρ => (f (viewF ρ)).bind fun ds => .ok (.lst (ds.map O.fz), ρ)
def oFrB (f : PEnv → R (List PyData)) : OEnv → R (O × OEnv) := fun ρ => (f (viewB ρ)).bind fun ds => if lfs ds then .ok (.lst (ds.map O.fz), ρ) else .stuck
section
variable {X : Cx} {W : WX} {a b c e : Expr} {es : List Expr} {pos : Pos} {h : OEnv → R PyData} {f : PEnv → R (List PyData)} {k : Nat}
theorem vo_x (g : VX X W e h) : VO X W e (oX h) := by
  obtain ⟨t, p, q⟩ := g.ex
  refine ⟨t, p, fun σ H F0 H0 F ρ Q r pr => ?_⟩
  refine q σ H F0 H0 F ρ Q r ?_
  unfold oX at pr
  generalize h ρ = rr at pr ⊢
  cases rr with
  | stuck => exact pr
  | err c => exact pr
  | ok d =>
    intro v H' F' ex dv
    obtain ⟨fps, s, hs⟩ := (r.ext ex).ex
    exact pr v H' F' ⟨fps, .ow (.fz dv) s, hs⟩
theorem vo_mv (i : Nat) {x : Str} (hN : X.N[i]? = some x := by rfl) (hv : Vis X.env.scope x := by first | exact Or.inl rfl | exact Or.inr (Or.inl rfl) | exact Or.inr (Or.inr rfl)) (hd : (x == ("__debug__" : Str)) = false := by decide)
    (hcd : (x == ("__classdict__" : Str)) = false := by decide) : VO X W (.Name x pos) (oMv i) := by
  refine ⟨_, pe_var hN hv hd hcd, fun σ H F0 H0 F ρ Q r pr => ?_⟩
  obtain ⟨fps, s, hs⟩ := r.ex
  unfold oMv at pr
  split at pr
  · rename_i o e
    obtain ⟨v, fp, fpr, e1, e2, e3, e4, e5⟩ := s.split e
    refine ⟨v, e1, pr v H F ⟨fp ++ fpr, .ow e2 ?_, hs.perm e3⟩⟩
    have z := e4 (some v)
    have q : σ.set i (some v) = σ := by
      refine List.ext_getElem? fun j => ?_
      by_cases hj : j = i
      · subst hj
        obtain ⟨q1, q2⟩ := List.getElem?_eq_some_iff.mp e1
        rw [List.getElem?_set_self q1, e1]
      · rw [List.getElem?_set_ne (Ne.symm hj)]
    rw [q] at z
    exact z
  · exact pr.elim
theorem vo_frF (g : VFr X W e f) : VO X W e (oFrF f) := by
  obtain ⟨t, p, q⟩ := g.ex
  refine ⟨t, p, fun σ H F0 H0 F ρ Q r pr => ?_⟩
  obtain ⟨fps, s, hs⟩ := r.ex
  refine q σ H F _ Q hs.fh s.rfF ?_
  unfold oFrF at pr
  generalize f (viewF ρ) = rr at pr ⊢
  cases rr with
  | stuck => exact pr
  | err c => exact pr
  | ok ds =>
    intro pa vs H' B' ex hp hn bn ia
    have hs' := hs.ext ex s.lstAt
    have s' : Slots X.K B' H' σ ρ fps := s.keep ex.bb fun a ha => by
      obtain ⟨us, z⟩ := s.lstAt a ha
      rw [z]; exact ex.hh _ _ z
    refine pr (.ref pa) H' B' ⟨[pa] ++ fps, .ow (.lst hp (OwnL.fzs ia)) s', ?_, ?_, hs'.fh, hs'.f0, hs'.h0, hs'.nw⟩
    · refine List.nodup_cons.mpr ⟨fun hm => ?_, hs'.nd⟩
      obtain ⟨us, z⟩ := s.lstAt pa hm
      rw [hn] at z; cases z
    · intro a ha
      rcases List.mem_cons.mp ha with e | e
      · subst e; exact ⟨bn, Same.free hs.h0 hn⟩
      · exact hs'.ow a e
theorem vo_frB (g : VFr X W e f) : VO X W e (oFrB f) := by
  obtain ⟨t, p, q⟩ := g.ex
  refine ⟨t, p, fun σ H F0 H0 F ρ Q r pr => ?_⟩
  obtain ⟨fps, s, hs⟩ := r.ex
  obtain ⟨b1, b2⟩ := hs.bor
  refine q σ H (bor F H fps) _ Q b2 (s.rfB b1 fun a ha => bor_own ha) ?_
  unfold oFrB at pr
  generalize f (viewB ρ) = rr at pr ⊢
  cases rr with
  | stuck => exact pr
  | err c => exact pr
  | ok ds =>
    simp only [R.bind_ok] at pr
    split at pr
    · rename_i hl
      intro pa vs H' B' ex hp hn bn ia
      obtain ⟨F', e1, e2, e3⟩ := hs.unbor s.lstAt ex
      have hs' := hs.ext e1 s.lstAt
      have s' : Slots X.K F' H' σ ρ fps := s.keep e1.bb fun a ha => by
        obtain ⟨us, z⟩ := s.lstAt a ha
        rw [z]; exact e1.hh _ _ z
      have hpa : pa ∉ fps := fun hm => by
        obtain ⟨us, z⟩ := s.lstAt pa hm
        rw [hn] at z; cases z
      have fn : F' pa = none := by
        cases z : F' pa with
        | none => rfl
        | some o => have w := e3 _ _ z; rw [bn] at w; cases w
      refine pr (.ref pa) H' F' ⟨[pa] ++ fps, .ow (.lst hp (OwnL.fzs (IsAll.lfree e2 hl ia))) s', ?_, ?_, hs'.fh, hs'.f0, hs'.h0, hs'.nw⟩
      · exact List.nodup_cons.mpr ⟨hpa, hs'.nd⟩
      · intro a ha
        rcases List.mem_cons.mp ha with e | e
        · subst e; exact ⟨fn, Same.free hs.h0 hn⟩
        · exact hs'.ow a e
    · exact pr.elim
end

/-! ### statements -/
inductive SR where
  | stuck
  | err (c : Str) (ρ : OEnv)
  | nx (ρ : OEnv)
  | rt (o : O)
  | bk (ρ : OEnv)
  | ct (ρ : OEnv)
def RV (K : PySem.W.Frag) (F0 H0 F H : Hp) (v : V) (o : O) : Prop := ∃ fp, Own K F H v o fp ∧ Hs F0 H0 F H fp
def SPst (X : Cx) (W : WX) (F0 H0 : Hp) (D : Ends) : SR → Prop
  | .stuck => False
  | .err c ρ => ∀ σ' H' F', RS X.K F0 H0 F' H' σ' ρ → ErrAt X W c σ' H'
  | .nx ρ => ∀ σ' H' F', RS X.K F0 H0 F' H' σ' ρ → D.nx σ' H'
  | .bk ρ => ∀ σ' H' F', RS X.K F0 H0 F' H' σ' ρ → D.bk σ' H'
  | .ct ρ => ∀ σ' H' F', RS X.K F0 H0 F' H' σ' ρ → D.ct σ' H'
  | .rt o => ∀ v H' F', RV X.K F0 H0 F' H' v o → D.rt v H'
structure VS (X : Cx) (W : WX) (st : Stmt) (g : OEnv → SR) : Prop where
  ex : ∃ t, PS X st t ∧ ∀ D σ H F0 H0 F ρ, RS X.K F0 H0 F H σ ρ → SPst X W F0 H0 D (g ρ) → t D σ H
structure VSs (X : Cx) (W : WX) (sts : List Stmt) (g : OEnv → SR) : Prop where
  ex : ∃ t, PSs X sts t ∧ ∀ D σ H F0 H0 F ρ, RS X.K F0 H0 F H σ ρ → SPst X W F0 H0 D (g ρ) → t D σ H
def SR.seq (r : SR) (g : OEnv → SR) : SR := match r with
  | .nx ρ => g ρ
  | r => r
/-- what an expression gives goes on; what it raises leaves with the slots as they were -/
def R.sr {α : Type} (x : R α) (ρ : OEnv) (f : α → SR) : SR := match x with
  | .stuck => .stuck
  | .err c => .err c ρ
  | .ok a => f a
@[simp] theorem R.sr_ok {α : Type} (a : α) (ρ : OEnv) (f : α → SR) : R.sr (.ok a) ρ f = f a := rfl
@[simp] theorem R.sr_err {α : Type} (c : Str) (ρ : OEnv) (f : α → SR) : R.sr (.err c : R α) ρ f = .err c ρ := rfl
@[simp] theorem R.sr_stuck {α : Type} (ρ : OEnv) (f : α → SR) : R.sr (.stuck : R α) ρ f = .stuck := rfl
@[simp] theorem SR.seq_nx (ρ : OEnv) (g : OEnv → SR) : SR.seq (.nx ρ) g = g ρ := rfl
@[simp] theorem SR.seq_rt (o : O) (g : OEnv → SR) : SR.seq (.rt o) g = .rt o := rfl
@[simp] theorem SR.seq_err (c : Str) (ρ : OEnv) (g : OEnv → SR) : SR.seq (.err c ρ) g = .err c ρ := rfl
@[simp] theorem SR.seq_bk (ρ : OEnv) (g : OEnv → SR) : SR.seq (.bk ρ) g = .bk ρ := rfl
@[simp] theorem SR.seq_ct (ρ : OEnv) (g : OEnv → SR) : SR.seq (.ct ρ) g = .ct ρ := rfl
theorem sr_pst {α : Type} {X : Cx} {W : WX} {F0 H0 F H : Hp} {D : Ends} {σ : L2.St} {ρ : OEnv} {x : R α} {f : α → SR} {K : α → Prop} (r : RS X.K F0 H0 F H σ ρ) (p : SPst X W F0 H0 D (x.sr ρ f)) (h : ∀ a, SPst X W F0 H0 D (f a) → K a) : Pst X W σ H K x := by
  cases x with
  | stuck => exact p
  | err c => exact fun H' e => p σ H' F (r.grow e)
  | ok a => exact h a p
section
variable {X : Cx} {W : WX} {a b c e : Expr} {st : Stmt} {sts rest : List Stmt} {pos : Pos} {g h : OEnv → SR} {hx : OEnv → R PyData} {ho : OEnv → R (O × OEnv)} {k : Nat}
theorem vss_nil : VSs X W [] (fun ρ => .nx ρ) := ⟨_, pss_nil, fun D σ H F0 H0 F ρ r p => p σ H F r⟩
theorem vss_cons (h1 : VS X W st g) (h2 : VSs X W rest h) : VSs X W (st :: rest) (fun ρ => (g ρ).seq h) := by
  obtain ⟨t, p, q⟩ := h1.ex
  obtain ⟨t2, p2, q2⟩ := h2.ex
  refine ⟨_, pss_cons p p2, fun D σ H F0 H0 F ρ r pr => ?_⟩
  refine q _ σ H F0 H0 F ρ r ?_
  generalize g ρ = rr at pr ⊢
  cases rr with
  | nx ρ' => exact fun σ' H' F' r' => q2 D σ' H' F0 H0 F' ρ' r' pr
  | stuck => exact pr
  | err c ρ' => exact pr
  | rt o => exact pr
  | bk ρ' => exact pr
  | ct ρ' => exact pr
theorem vss_one (h1 : VS X W st g) : VSs X W [st] g := by
  obtain ⟨t, p, q⟩ := h1.ex
  exact ⟨_, pss_one p, q⟩
/-- knowledge that is let go, or changed, between two statements -/
def EnvT (K : PySem.W.Frag) (T : OEnv → OEnv) : Prop := ∀ F0 H0 F H σ ρ, RS K F0 H0 F H σ ρ → ∃ F', RS K F0 H0 F' H σ (T ρ)
theorem vss_t {T : OEnv → OEnv} (hT : EnvT X.K T) (h1 : VSs X W sts g) : VSs X W sts (fun ρ => g (T ρ)) := by
  obtain ⟨t, p, q⟩ := h1.ex
  refine ⟨t, p, fun D σ H F0 H0 F ρ r pr => ?_⟩
  obtain ⟨F', r'⟩ := hT F0 H0 F H σ ρ r
  exact q D σ H F0 H0 F' (T ρ) r' pr
def kill (is : List Nat) (ρ : OEnv) : OEnv := is.foldl (fun ρ i => ρ.set i none) ρ
def freezeAt (ρ : OEnv) (i : Nat) : OEnv := match ρ[i]? with
  | some (some o) => ρ.set i (some (.fz o.data))
  | _ => ρ
def freeze (is : List Nat) (ρ : OEnv) : OEnv := is.foldl freezeAt ρ
theorem RS.drop {K : PySem.W.Frag} {F0 H0 F H : Hp} {σ : L2.St} {ρ : OEnv} (r : RS K F0 H0 F H σ ρ) (i : Nat) : RS K F0 H0 F H σ (ρ.set i none) := by
  obtain ⟨fps, s, hs⟩ := r.ex
  by_cases hi : i < σ.length
  · obtain ⟨fpr, z1, z2⟩ := s.drop i σ[i]
    rw [List.set_getElem_self] at z1
    exact ⟨fpr, z1, hs.sub z2⟩
  · rw [List.set_eq_of_length_le (by rw [← s.len]; omega)]
    exact ⟨fps, s, hs⟩
theorem envT_kill (K : PySem.W.Frag) : ∀ is : List Nat, EnvT K (kill is)
  | [], F0, H0, F, H, σ, ρ, r => ⟨F, r⟩
  | i :: is, F0, H0, F, H, σ, ρ, r => envT_kill K is F0 H0 F H σ (ρ.set i none) (r.drop i)
theorem set_same {σ : L2.St} {i : Nat} {v : V} (e : σ[i]? = some (some v)) : σ.set i (some v) = σ := by
  refine List.ext_getElem? fun j => ?_
  by_cases hj : j = i
  · subst hj
    obtain ⟨q1, q2⟩ := List.getElem?_eq_some_iff.mp e
    rw [List.getElem?_set_self q1, e]
  · rw [List.getElem?_set_ne (Ne.symm hj)]
theorem RS.freeze {K : PySem.W.Frag} {F0 H0 F H : Hp} {σ : L2.St} {ρ : OEnv} (r : RS K F0 H0 F H σ ρ) (i : Nat) : ∃ F', RS K F0 H0 F' H σ (freezeAt ρ i) := by
  unfold freezeAt
  split
  · rename_i o eo
    obtain ⟨fps, s, hs⟩ := r.ex
    obtain ⟨v, fp, fpr, e1, e2, e3, e4, e5⟩ := s.split eo
    have hp := hs.perm e3
    have nd := List.nodup_append.mp hp.nd
    have own : ∀ a ∈ fp, F a = none ∧ H0 a = none := fun a ha => hp.ow a (List.mem_append_left _ ha)
    refine ⟨bor F H fp, ?_⟩
    have b1 : Same F (bor F H fp) := fun a u q => by
      rw [bor_not (fun ha => by rw [(own a ha).1] at q; cases q)]; exact q
    obtain ⟨fps', z1, z2⟩ := e5 (bor F H fp) H v (.fz o.data) [] (.fz (e2.is b1 fun a ha => bor_own ha)) b1 (fun _ _ => rfl)
    rw [set_same e1] at z1
    refine ⟨fps', z1, (Hs.perm ⟨?_, fun a ha => ⟨?_, ?_⟩, fun a u q => ?_, hs.f0.trans b1, hs.h0, fun a h1 h2 => ?_⟩ z2.symm)⟩
    · exact nd.2.1
    · have ha : a ∈ fpr := ha
      rw [bor_not (fun hm => nd.2.2 a hm a ha rfl)]
      exact (hp.ow a (List.mem_append_right _ ha)).1
    · exact (hp.ow a (List.mem_append_right _ ha)).2
    · by_cases ha : a ∈ fp
      · rw [bor_own ha] at q; exact q
      · rw [bor_not ha] at q; exact hs.fh _ _ q
    · by_cases ha : a ∈ fp
      · exact (own a ha).2
      · rw [bor_not ha] at h2; exact hs.nw a h1 h2
  · exact ⟨F, r⟩
theorem envT_freeze (K : PySem.W.Frag) : ∀ is : List Nat, EnvT K (freeze is)
  | [], F0, H0, F, H, σ, ρ, r => ⟨F, r⟩
  | i :: is, F0, H0, F, H, σ, ρ, r => by
    obtain ⟨F', r'⟩ := r.freeze i
    exact envT_freeze K is F0 H0 F' H σ _ r'

/-! simple statements -/
theorem vs_pass : VS X W (.Pass pos) (fun ρ => .nx ρ) := ⟨_, ps_pass, fun D σ H F0 H0 F ρ r p => p σ H F r⟩
theorem vs_break : VS X W (.Break pos) (fun ρ => .bk ρ) := ⟨_, ps_break, fun D σ H F0 H0 F ρ r p => p σ H F r⟩
theorem vs_continue : VS X W (.Continue pos) (fun ρ => .ct ρ) := ⟨_, ps_continue, fun D σ H F0 H0 F ρ r p => p σ H F r⟩
theorem RS.put {K : PySem.W.Frag} {F0 H0 F H : Hp} {σ : L2.St} {ρ : OEnv} {v : V} {o : O} (r : RS K F0 H0 F H (some v :: σ) (some o :: ρ)) (i : Nat) : RS K F0 H0 F H (σ.set i (some v)) (ρ.set i (some o)) := by
  obtain ⟨fps, s, hs⟩ := r.ex
  cases s with
  | @ow v o fp σ ρ fps h1 s =>
    by_cases hi : i < ρ.length
    · obtain ⟨fps', z1, g, z2, z3⟩ := s.put h1 i hi
      exact ⟨fps', z1, (hs.sub (List.Sublist.append_left z3 fp)).perm z2.symm⟩
    · have l := s.len
      rw [List.set_eq_of_length_le (show σ.length ≤ i by omega), List.set_eq_of_length_le (show ρ.length ≤ i by omega)]
      exact ⟨fps, s, hs.sub (List.sublist_append_right _ _)⟩
/-- x = e -/
def sSet (i : Nat) (h : OEnv → R (O × OEnv)) : OEnv → SR := fun ρ => (h ρ).sr ρ fun p => .nx (p.2.set i (some p.1))
theorem vs_set (i : Nat) {x : Str} {pos' : Pos} (hN : X.N.Nodup) (he : VO X W e ho) (hi : X.N[i]? = some x := by rfl) (hxl : Loc X.env.scope x := by first | exact Or.inl rfl | exact Or.inr rfl) (hs : swapsWith e (some (.Name x pos')) pos.line X.env = pure false := by rfl) (hf : X.fn x = true ∨ X.env.scope.names.lookup x = some .local := by first | exact .inl rfl | exact .inr rfl) :
    VS X W (.Assign [.Name x pos'] e pos) (sSet i ho) := by
  obtain ⟨t, p, q⟩ := he.ex
  refine ⟨_, ps_set hN hi hxl p hs hf, fun D σ H F0 H0 F ρ r pr => ?_⟩
  refine q σ H F0 H0 F ρ _ r (sr_pst r pr fun o po v H' F' r' => ?_)
  exact po _ _ _ (r'.put i)
/-- x = [e for t in it if ..] on one line, x a local -/
theorem vs_setLc (i : Nat) {x : Str} {py : Pos} {elt tg iter : Expr} {ifs : List Expr} {scope : Scope} {own : List (Str × Nat)} {sl : List Nat} {fi : PEnv → R (List PyData)} {kt : PyData → R (List (Nat × PyData))} {ft : PEnv → R Bool} {fe : PEnv → R PyData} {cpos : Pos}
    {hh : OEnv → R (O × OEnv)} (mode : ∀ {t : TE}, (∀ σ H B ρ Q, Same B H → RF X.K B σ ρ → Pst X W σ H (KFr X B H Q) (vcomp (own.map (·.2)) fi kt ft fe ρ) → t σ H Q) → ∀ σ H F0 H0 F ρ Q, RS X.K F0 H0 F H σ ρ → Pst X W σ H (KO X F0 H0 σ Q) (hh ρ) → t σ H Q)
    (hc : X.calm = true) (hN : X.N.Nodup) (hy : X.N[i]? = some x) (hyl : X.env.scope.names.lookup x = some .local) (hsw : swapsWith (.ListComp elt [⟨tg, iter, ifs, 0⟩] scope cpos) (some (.Name x py)) pos.line X.env = pure true)
    (hi : VI X W tg iter fi) (ok : BlkOk X.N X.env.scope scope own)
    (hg : ∀ (s : Shared) (H : Hp) (C : Addr) (cl : List (Str × Addr)) (fp : List Addr), VG (X.blk s H scope (compEnvC scope cl C X.env) fp) tg sl kt)
    (hso : ∀ i ∈ sl, i ∈ own.map (·.2))
    (ht : ∀ (s : Shared) (H : Hp) (C : Addr) (cl : List (Str × Addr)) (fp : List Addr), VTs (X.blk s H scope (compEnvC scope cl C X.env) fp) W0 ifs ft)
    (hee : ∀ (s : Shared) (H : Hp) (C : Addr) (cl : List (Str × Addr)) (fp : List Addr), VE (X.blk s H scope (compEnvC scope cl C X.env) fp) W0 elt fe) (hs : ∀ x, foldedSetIterable iter X.env x = pure x := by intro _; rfl) :
    VS X W (.Assign [.Name x py] (.ListComp elt [⟨tg, iter, ifs, 0⟩] scope cpos) pos) (sSet i hh) := by
  obtain ⟨wi, pi, qi⟩ := hi.ex
  have h1 : ∀ (s : Shared) (H : Hp) (C : Addr) (cl : List (Str × Addr)) (fp : List Addr), PG (X.blk s H scope (compEnvC scope cl C X.env) fp) tg (tVG X kt) := fun s H C cl fp => (hg s H C cl fp).pg
  have h2 : ∀ (s : Shared) (H : Hp) (C : Addr) (cl : List (Str × Addr)) (fp : List Addr), PTs (X.blk s H scope (compEnvC scope cl C X.env) fp) ifs (tVT X W0 ft) := fun s H C cl fp => (ht s H C cl fp).pt
  have h3 : ∀ (s : Shared) (H : Hp) (C : Addr) (cl : List (Str × Addr)) (fp : List Addr), PE (X.blk s H scope (compEnvC scope cl C X.env) fp) elt (tV X W0 fe) := fun s H C cl fp => (hee s H C cl fp).pe
  have hsl : ∀ d bs, kt d = .ok bs → bs.map (·.1) = sl := (hg {} (fun _ => none) 0 [] []).sl
  refine ⟨_, ps_setLc hc hN hy hyl hsw pi ok h1 h2 h3 hs, fun D σ H F0 H0 F ρ r pr => ?_⟩
  refine mode (fun σ H B ρ Q s rf pr => comp_read qi (fun v σ H B d Q s dv q => ⟨B, d, s, dv, q⟩) hsl hso (fun σ H B ρ Q s r p => ⟨B, ρ, s, r, p⟩) (fun σ H B ρ Q s r p => ⟨B, ρ, s, r, p⟩) s rf pr) σ H F0 H0 F ρ _ r (sr_pst r pr fun o po v H' F' r' => ?_)
  exact po _ _ _ (r'.put i)
def sRet (h : OEnv → R (O × OEnv)) : OEnv → SR := fun ρ => (h ρ).sr ρ fun p => .rt p.1
theorem vs_ret (he : VO X W e ho) : VS X W (.Return (some e) pos) (sRet ho) := by
  obtain ⟨t, p, q⟩ := he.ex
  refine ⟨_, ps_ret p, fun D σ H F0 H0 F ρ r pr => ?_⟩
  refine q σ H F0 H0 F ρ _ r (sr_pst r pr fun o po v H' F' r' => ?_)
  obtain ⟨fps, s, hs⟩ := r'.ex
  cases s with
  | ow h1 s => exact po v H' F' ⟨_, h1, hs.sub (List.sublist_append_left _ _)⟩
theorem vs_retN : VS X W (.Return none pos) (fun ρ => .rt (.fz .none)) := by
  refine ⟨_, ps_retN, fun D σ H F0 H0 F ρ r pr => ?_⟩
  obtain ⟨fps, s, hs⟩ := r.ex
  exact pr .non H F ⟨[], .fz .non, hs.sub (List.nil_sublist _)⟩
def sExpr (h : OEnv → R (O × OEnv)) : OEnv → SR := fun ρ => (h ρ).sr ρ fun p => .nx p.2
theorem vs_expr (he : VO X W e ho) (hs : swapsWith e none pos.line X.env = pure false := by rfl) : VS X W (.Expr e pos) (sExpr ho) := by
  obtain ⟨t, p, q⟩ := he.ex
  refine ⟨_, ps_expr p hs, fun D σ H F0 H0 F ρ r pr => ?_⟩
  refine q σ H F0 H0 F ρ _ r (sr_pst r pr fun o po v H' F' r' => ?_)
  obtain ⟨fps, s, hs⟩ := r'.ex
  cases s with
  | ow h1 s => exact po σ H' F' ⟨_, s, hs.sub (List.sublist_append_right _ _)⟩
def sIf (t : OEnv → R Bool) (g h : OEnv → SR) : OEnv → SR := fun ρ => (t ρ).sr ρ fun b => if b then g ρ else h ρ
theorem vs_if {ts us : List Stmt} {ht : OEnv → R Bool} (h0 : VXT X W c ht) (h1 : VSs X W ts g) (h2 : VSs X W us h) : VS X W (.If c ts us pos) (sIf ht g h) := by
  obtain ⟨t, p, q⟩ := h0.ex
  obtain ⟨t1, p1, q1⟩ := h1.ex
  obtain ⟨t2, p2, q2⟩ := h2.ex
  refine ⟨_, ps_if p p1 p2, fun D σ H F0 H0 F ρ r pr => ?_⟩
  refine q σ H F0 H0 F ρ _ r (sr_pst r pr fun b pb H' F' ex => ?_)
  cases b with
  | true => exact iteT (q1 D σ H' F0 H0 F' ρ (r.ext ex) pb)
  | false => exact iteF (q2 D σ H' F0 H0 F' ρ (r.ext ex) pb)
end
end VL

namespace VL
open PySem PySem.Spec PyProof.Rows L2

theorem Hs.rebase {F0 H0 F1 F H : Hp} {fps : List Addr} (h : Hs F1 H0 F H fps) (s : Same F0 F1) (n : ∀ a, F0 a = none → F1 a ≠ none → H0 a = none) : Hs F0 H0 F H fps :=
  ⟨h.nd, h.ow, h.fh, s.trans h.f0, h.h0, fun a h1 h2 => by
    cases q : F1 a with
    | none => exact h.nw a q h2
    | some o => exact n a h1 (by rw [q]; exact fun w => nomatch w)⟩
theorem RS.self {K : PySem.W.Frag} {F0 H0 F H : Hp} {σ : L2.St} {ρ : OEnv} (r : RS K F0 H0 F H σ ρ) : RS K F H0 F H σ ρ ∧ Same F0 F ∧ ∀ a, F0 a = none → F a ≠ none → H0 a = none := by
  obtain ⟨fps, s, hs⟩ := r.ex
  exact ⟨⟨fps, s, hs.nd, hs.ow, hs.fh, Same.refl F, hs.h0, fun a x y => absurd x y⟩, hs.f0, hs.nw⟩
theorem RS.rebase {K : PySem.W.Frag} {F0 H0 F1 F H : Hp} {σ : L2.St} {ρ : OEnv} (r : RS K F1 H0 F H σ ρ) (s : Same F0 F1) (n : ∀ a, F0 a = none → F1 a ≠ none → H0 a = none) : RS K F0 H0 F H σ ρ := by
  obtain ⟨fps, sl, hs⟩ := r.ex
  exact ⟨fps, sl, hs.rebase s n⟩
theorem RV.rebase {K : PySem.W.Frag} {F0 H0 F1 F H : Hp} {v : V} {o : O} (r : RV K F1 H0 F H v o) (s : Same F0 F1) (n : ∀ a, F0 a = none → F1 a ≠ none → H0 a = none) : RV K F0 H0 F H v o := by
  obtain ⟨fps, sl, hs⟩ := r
  exact ⟨fps, sl, hs.rebase s n⟩
theorem RS.tail {K : PySem.W.Frag} {F0 H0 F H : Hp} {σ : L2.St} {ρ : OEnv} {s : Option V} {o : Option O} (r : RS K F0 H0 F H (s :: σ) (o :: ρ)) : RS K F0 H0 F H σ ρ := by
  obtain ⟨fps, sl, hs⟩ := r.ex
  cases sl with
  | un s => exact ⟨_, s, hs⟩
  | ow h1 s => exact ⟨_, s, hs.sub (List.sublist_append_right _ _)⟩
theorem RS.consFz {K : PySem.W.Frag} {F0 H0 F H : Hp} {σ : L2.St} {ρ : OEnv} {v : V} {d : PyData} (r : RS K F0 H0 F H σ ρ) (h : Is K F v d) : RS K F0 H0 F H (some v :: σ) (some (.fz d) :: ρ) := by
  obtain ⟨fps, sl, hs⟩ := r.ex
  exact ⟨_, .ow (.fz h) sl, hs⟩
def setsO (ρ : OEnv) (bs : List (Nat × PyData)) : OEnv := bs.foldl (fun ρ b => ρ.set b.1 (some (.fz b.2))) ρ
theorem RS.sets {K : PySem.W.Frag} {F0 H0 F H : Hp} : ∀ {bv : List (Nat × V)} {bd : List (Nat × PyData)} {σ : L2.St} {ρ : OEnv}, RS K F0 H0 F H σ ρ → Bds K F bv bd → RS K F0 H0 F H (setsV σ bv) (setsO ρ bd)
  | _, _, _, _, r, .nil => r
  | _, _, _, _, r, .cons (a := p) (b := q) h t => by
    obtain ⟨r1, r2⟩ := h
    unfold setsV setsO
    rw [List.foldl_cons, List.foldl_cons, r1]
    exact RS.sets ((r.consFz r2).put q.1) t

/-! a list of one's own is changed -/
theorem OwnL.setAt {K : PySem.W.Frag} {F H : Hp} {y : V} {o : O} {fpo : List Addr} (ho : Own K F H y o fpo) : ∀ {os : List O} {vs : List V} {fp : List Addr} (j : Nat), OwnL K F H vs os fp → ∃ fp', OwnL K F H (vs.set j y) (os.set j o) fp' ∧ ∃ fp'', fp'.Perm fp'' ∧ fp''.Sublist (fp ++ fpo)
  | [], _, _, j, h => by cases h; exact ⟨[], by simp; exact .nil, [], .refl _, List.nil_sublist _⟩
  | p :: os, _, _, 0, h => by
    cases h with
    | @cons v vs _ _ f1 f2 h1 h2 =>
      refine ⟨fpo ++ f2, .cons ho h2, f2 ++ fpo, List.perm_append_comm, ?_⟩
      rw [List.append_assoc]
      exact List.sublist_append_right _ _
  | p :: os, _, _, j + 1, h => by
    cases h with
    | @cons v vs _ _ f1 f2 h1 h2 =>
      obtain ⟨f3, z1, f4, z2, z3⟩ := OwnL.setAt ho j h2
      refine ⟨f1 ++ f3, .cons h1 z1, f1 ++ f4, List.Perm.append_left f1 z2, ?_⟩
      rw [List.append_assoc]
      exact List.Sublist.append_left z3 f1
/-- a change of a list's items by one value -/
structure Chg (tv : List V → V → List V) (to : List O → O → List O) : Prop where
  own : ∀ {K : PySem.W.Frag} {F H : Hp} {vs : List V} {os : List O} {y : V} {o : O} {fp fpo : List Addr}, OwnL K F H vs os fp → Own K F H y o fpo → ∃ fp', OwnL K F H (tv vs y) (to os o) fp' ∧ ∃ fp'', fp'.Perm fp'' ∧ fp''.Sublist (fp ++ fpo)
theorem chg_app : Chg (fun vs y => vs ++ [y]) (fun os o => os ++ [o]) := ⟨fun {K F H vs os y o fp fpo} h1 h2 => by
  refine ⟨fp ++ fpo, ?_, fp ++ fpo, .refl _, .refl _⟩
  have z := OwnL.append h1 (.cons h2 .nil)
  rw [List.append_nil] at z
  exact z⟩
theorem chg_set (j : Nat) : Chg (fun vs y => vs.set j y) (fun os o => os.set j o) := ⟨fun h1 h2 => OwnL.setAt h2 j h1⟩
theorem RS.mut {K : PySem.W.Frag} {F0 H0 F H : Hp} {σ : L2.St} {ρ : OEnv} {y : V} {o : O} {i : Nat} {os : List O} {tv : List V → V → List V} {to : List O → O → List O} (c : Chg tv to) (r : RS K F0 H0 F H (some y :: σ) (some o :: ρ)) (ei : ρ[i]? = some (some (.lst os))) :
    ∃ a vs, σ[i]? = some (some (.ref a)) ∧ H a = some (.lst vs) ∧ vs.length = os.length ∧ RS K F0 H0 F (upd H a (.lst (tv vs y))) σ (ρ.set i (some (.lst (to os o)))) := by
  obtain ⟨fps, sl, hs⟩ := r.ex
  cases sl with
  | @ow _ _ fpo _ _ fpt h1 s =>
    obtain ⟨v, fp, fpr, e1, e2, e3, e4, e5⟩ := s.split ei
    cases e2 with
    | @lst a vs _ fpi ha hl =>
      refine ⟨a, vs, e1, ha, hl.len, ?_⟩
      have hp : Hs F0 H0 F H (fpo ++ ((a :: fpi) ++ fpr)) := hs.perm (List.Perm.append_left fpo e3)
      have nd := List.nodup_append.mp hp.nd
      have nd2 := List.nodup_append.mp nd.2.1
      have na_o : a ∉ fpo := fun m => nd.2.2 a m a (List.mem_append_left _ List.mem_cons_self) rfl
      have na_i : a ∉ fpi := (List.nodup_cons.mp nd2.1).1
      have na_r : a ∉ fpr := fun m => nd2.2.2 a List.mem_cons_self a m rfl
      have hk : ∀ b, b ≠ a → upd H a (.lst (tv vs y)) b = H b := fun b hb => upd_ne hb
      have o1 : Own K F (upd H a (.lst (tv vs y))) y o fpo := h1.keep (Same.refl F) fun b hb => hk b fun e => na_o (e ▸ hb)
      have l1 : OwnL K F (upd H a (.lst (tv vs y))) vs os fpi := hl.keep (Same.refl F) fun b hb => hk b fun e => na_i (e ▸ hb)
      obtain ⟨fp', z1, fp'', z2, z3⟩ := c.own l1 o1
      obtain ⟨fps', w1, w2⟩ := e5 F (upd H a (.lst (tv vs y))) (.ref a) (.lst (to os o)) (a :: fp') (.lst upd_same z1) (Same.refl F) fun b hb => hk b fun e => na_r (e ▸ hb)
      rw [set_same e1] at w1
      have an : F a = none ∧ H0 a = none := hp.ow a (List.mem_append_right _ (List.mem_append_left _ List.mem_cons_self))
      have base : Hs F0 H0 F (upd H a (.lst (tv vs y))) (fpo ++ ((a :: fpi) ++ fpr)) := ⟨hp.nd, hp.ow, fun b u q => by
        rw [hk b (fun e => by rw [e, an.1] at q; cases q)]; exact hp.fh _ _ q, hp.f0, fun b u q => by
        rw [hk b (fun e => by rw [e, an.2] at q; cases q)]; exact hp.h0 _ _ q, hp.nw⟩
      have p1 : (fpo ++ ((a :: fpi) ++ fpr)).Perm (a :: ((fpi ++ fpo) ++ fpr)) := by
        have : (fpo ++ ((a :: fpi) ++ fpr)).Perm (((a :: fpi) ++ fpo) ++ fpr) := by
          rw [← List.append_assoc]
          exact List.Perm.append_right _ List.perm_append_comm
        simpa using this
      have p2 : Hs F0 H0 F (upd H a (.lst (tv vs y))) (a :: (fp'' ++ fpr)) := (base.perm p1).sub (List.Sublist.cons_cons a (List.Sublist.append_right z3 fpr))
      refine ⟨fps', w1, (p2.perm ?_).perm w2.symm⟩
      exact List.Perm.cons a (List.Perm.append_right fpr z2.symm)

section
variable {X : Cx} {W : WX} {a b c e : Expr} {st : Stmt} {sts rest : List Stmt} {pos : Pos} {g h : OEnv → SR} {hx hx' : OEnv → R PyData} {ho : OEnv → R (O × OEnv)} {k : Nat}
/-- x.append(e) -/
def sApp (i : Nat) (h : OEnv → R (O × OEnv)) : OEnv → SR := fun ρ => match ρ[i]? with
  | some (some (.lst _)) => (h ρ).sr ρ fun p => match p.2[i]? with
    | some (some (.lst os)) => if os.length < sizeLine then .nx (p.2.set i (some (.lst (os ++ [p.1])))) else .stuck
    | _ => .stuck
  | _ => .stuck
theorem vs_app (i : Nat) {x : Str} {p1 p2 p3 : Pos} (mk : ∀ {t : TE}, PE X e t → PE X (.Call (.Attribute (.Name x p1) "append" p2) [e] [] p3) (tBM X.K "list" rAppend (tVar i) (tCons t tNil))) (he : VO X W e ho)
    (hs : swapsWith (.Call (.Attribute (.Name x p1) "append" p2) [e] [] p3) none pos.line X.env = pure false := by rfl) :
    VS X W (.Expr (.Call (.Attribute (.Name x p1) "append" p2) [e] [] p3) pos) (sApp i ho) := by
  obtain ⟨t, p, q⟩ := he.ex
  refine ⟨_, ps_expr (mk p) hs, fun D σ H F0 H0 F ρ r pr => ?_⟩
  unfold sApp at pr
  split at pr
  · rename_i os0 e0
    obtain ⟨fps, sl, hss⟩ := r.ex
    obtain ⟨v, fp, fpr, e1, e2, e3, e4, e5⟩ := sl.split e0
    cases e2 with
    | @lst ad vs _ fpi ha hl =>
      refine ⟨.ref ad, e1, .inl ⟨rfl, _, .inl (.inl ha)⟩, ?_⟩
      refine q σ H F0 H0 F ρ _ r (sr_pst r pr fun o po y H' F' r' => ?_)
      split at po
      · rename_i os eo
        split at po
        · rename_i hz
          obtain ⟨ad', vs', e6, e7, e8, r2⟩ := r'.mut chg_app eo
          rw [e1] at e6
          cases e6
          exact ⟨ad, vs', y, rfl, rfl, e7, by rw [e8]; exact hz, po _ _ _ r2⟩
        · exact po.elim
      · exact po.elim
  · exact pr.elim
/-- x[k] = e -/
def sSetI (i : Nat) (hk : OEnv → R PyData) (h : OEnv → R (O × OEnv)) : OEnv → SR := fun ρ => (h ρ).sr ρ fun p => match p.2[i]? with
  | some (some (.lst os)) => (hk p.2).sr p.2 fun d => match d with
    | .int j => (match ixN os.length j with
      | some n => .nx (p.2.set i (some (.lst (os.set n p.1))))
      | none => .stuck)
    | _ => .stuck
  | _ => .stuck
theorem vs_setI (i : Nat) {x : Str} {p1 p2 : Pos} (mk : ∀ {te tk : TE}, PE X e te → PE X b tk → PS X (.Assign [.Subscript (.Name x p1) b p2] e pos) (tAsg te (gSub (tVar i) tk rSetL))) (hk : VX X W b hx) (he : VO X W e ho) :
    VS X W (.Assign [.Subscript (.Name x p1) b p2] e pos) (sSetI i hx ho) := by
  obtain ⟨t, p, q⟩ := he.ex
  obtain ⟨tk, pk, qk⟩ := hk.ex
  refine ⟨_, mk p pk, fun D σ H F0 H0 F ρ r pr => ?_⟩
  unfold sSetI at pr
  refine q σ H F0 H0 F ρ _ r (sr_pst r pr fun o po y H' F' r' => ?_)
  have rt := r'.tail
  split at po
  · rename_i os eo
    obtain ⟨fps, sl, hss⟩ := rt.ex
    obtain ⟨v, fp, fpr, e1, e2, e3, e4, e5⟩ := sl.split eo
    refine ⟨v, e1, ?_⟩
    refine qk σ H' F0 H0 F' o.2 _ rt (sr_pst rt po fun d pd => ?_)
    intro iv H2 F2 ex di
    cases di <;> first | exact pd.elim | skip
    rename_i j
    simp only at pd
    split at pd
    · rename_i n en
      obtain ⟨ad, vs, e6, e7, e8, r2⟩ := (r'.ext ex).mut (chg_set n) eo
      rw [e1] at e6
      cases e6
      exact ⟨ad, vs, j, n, rfl, rfl, e7, by rw [e8]; exact en, pd _ _ _ r2⟩
    · exact pd.elim
  · exact po.elim
/-- x += e, x -= e of ints -/
def sAug (f : Int → Int → Int) (i : Nat) (h : OEnv → R PyData) : OEnv → SR := fun ρ => match ρ[i]? with
  | some (some (.fz (.int a))) => (h ρ).sr ρ fun d => match d with
    | .int b => .nx (ρ.set i (some (.fz (.int (f a b)))))
    | _ => .stuck
  | _ => .stuck
theorem vs_aug {f : Int → Int → Int} {op : Operator} (hop : PIp X op (ipI f)) (i : Nat) {x : Str} {p1 : Pos} (hN : X.N.Nodup) (he : VX X W e hx) (hi : X.N[i]? = some x := by rfl) (hxl : Loc X.env.scope x := by first | exact Or.inl rfl | exact Or.inr rfl) (hf : X.fn x = true ∨ X.env.scope.names.lookup x = some .local := by first | exact .inl rfl | exact .inr rfl) :
    VS X W (.AugAssign (.Name x p1) op e pos) (sAug f i hx) := by
  obtain ⟨t, p, q⟩ := he.ex
  refine ⟨_, ps_aug hN hi hxl p hop hf, fun D σ H F0 H0 F ρ r pr => ?_⟩
  unfold sAug at pr
  split at pr
  · rename_i n en
    obtain ⟨fps, sl, hss⟩ := r.ex
    obtain ⟨v, fp, fpr, e1, e2, e3, e4, e5⟩ := sl.split en
    cases e2 with
    | fz hv =>
      cases hv
      refine ⟨_, e1, ?_⟩
      refine q σ H F0 H0 F ρ _ r (sr_pst r pr fun d pd y H' F' ex dy => ?_)
      cases dy <;> first | exact pd.elim | skip
      rename_i m
      exact ⟨n, m, rfl, rfl, pd _ H' F' (((r.ext ex).consFz (.int (f n m))).put i)⟩
  · exact pr.elim
/-- a, b = e: a tuple of data -/
def sTup (k : PyData → R (List (Nat × PyData))) (h : OEnv → R PyData) : OEnv → SR := fun ρ => (h ρ).sr ρ fun d => match k d with | .ok bd => .nx (setsO ρ bd) | _ => .stuck
theorem vs_tup {tg : Expr} {sl : List Nat} {k : PyData → R (List (Nat × PyData))} (hg : VG X tg sl k) (he : VX X W e hx) (h1 : swapsWithSole [tg] e pos.line X.env = pure false := by rfl) (h2 : swappedStores [tg] e X.env = pure none := by rfl) (h3 : (assignEach [tg] X.env).map (·.2) = [assign tg X.env] := by rfl) :
    VS X W (.Assign [tg] e pos) (sTup k hx) := by
  obtain ⟨t, p, q⟩ := he.ex
  obtain ⟨tg', pg, qg⟩ := hg.ex
  refine ⟨_, ps_asg p pg h1 h2 h3, fun D σ H F0 H0 F ρ r pr => ?_⟩
  unfold sTup at pr
  refine q σ H F0 H0 F ρ _ r (sr_pst r pr fun d pd v H' F' ex dv => ?_)
  have r' := r.ext ex
  obtain ⟨fps, sl', hss⟩ := r'.ex
  generalize hk : k d = rk at pd
  cases rk with
  | stuck => exact pd.elim
  | err c => exact pd.elim
  | ok bd => exact qg v σ H' F' d _ hss.fh dv ⟨bd, hk, fun bv hb => pd _ H' F' (RS.sets r' hb)⟩
end
end VL

namespace VL
open PySem PySem.Spec PyProof.Rows L2

/-! ### sources of a for in a def's body -/
def KIX (X : Cx) (F H : Hp) (Rr : It → Hp → Prop) (ds : List PyData) : Prop := ∀ J H' F', Ext F H F' H' → Walks X.K J ds F' → Rr J H'
structure VIX (X : Cx) (W : WX) (tg iter : Expr) (h : OEnv → R (List PyData)) : Prop where
  ex : ∃ wi, PI X tg iter wi ∧ ∀ σ H F0 H0 F ρ Rr, RS X.K F0 H0 F H σ ρ → Pst X W σ H (KIX X F H Rr) (h ρ) → wi σ H Rr
section
variable {X : Cx} {W : WX} {a b c e tg iter : Expr} {st : Stmt} {sts rest : List Stmt} {pos : Pos} {g h : OEnv → SR} {hx hx' ha hb : OEnv → R PyData} {ho : OEnv → R (O × OEnv)} {k : Nat}
theorem vix_F {f : PEnv → R (List PyData)} (h : VI X W tg iter f) : VIX X W tg iter (fun ρ => f (viewF ρ)) := by
  obtain ⟨wi, p, q⟩ := h.ex
  refine ⟨wi, p, fun σ H F0 H0 F ρ Rr r pr => ?_⟩
  obtain ⟨fps, s, hs⟩ := r.ex
  exact q σ H F _ Rr hs.fh s.rfF pr
def x1 (g : PyData → R (List PyData)) (h : OEnv → R PyData) : OEnv → R (List PyData) := fun ρ => (h ρ).bind g
def x2 (g : PyData → PyData → R (List PyData)) (h h' : OEnv → R PyData) : OEnv → R (List PyData) := fun ρ => (h ρ).bind fun d => (h' ρ).bind fun e => g d e
theorem oneX {ta : TE} (hq : ∀ σ H F0 H0 F ρ Q, RS X.K F0 H0 F H σ ρ → Pst X W σ H (KX X F H Q) (hx ρ) → ta σ H Q)
    {α : Type} {σ : L2.St} {F0 H0 H F : Hp} {ρ : OEnv} {g : PyData → R α} {K : α → Prop} {Q : V → Hp → Prop} (r : RS X.K F0 H0 F H σ ρ)
    (p : Pst X W σ H K ((hx ρ).bind g))
    (q : ∀ d x H' F', Ext F H F' H' → Is X.K F' x d → Pst X W σ H' K (g d) → Q x H') : ta σ H Q := by
  refine hq σ H F0 H0 F ρ _ r ?_
  generalize hx ρ = ra at p ⊢
  cases ra with
  | stuck => exact p
  | err c => exact p
  | ok d =>
    intro x H1 F1 e1 d1
    refine q d x H1 F1 e1 d1 ?_
    simp only [R.bind_ok] at p
    generalize g d = rg at p ⊢
    cases rg with
    | stuck => exact p
    | err c => exact fun H' z => p H' (e1.hh.trans z)
    | ok z => exact p
theorem vix_range1 {p pos : Pos} (hm : X.mg "range" = none) (h1 : VX X W a ha) (hg : Gl X "range" := by rfl) (hs : starEach [a] X.env = [(false, eval a X.env)] := by rfl) (he : starEach [a] X.env = (false, eval a X.env) :: starEach [] X.env := by rfl) : VIX X W tg (.Call (.Name "range" p) [a] [] pos) (x1 vrange1 ha) := by
  obtain ⟨t, pt, qt⟩ := h1.ex
  refine ⟨_, pi_range1 hg hm (pa_cons pt pa_nil he) hs, fun σ H F0 H0 F ρ Rr r pr => ?_⟩
  refine oneX qt r pr fun d x H' F' ex dx pg => ?_
  cases dx <;> first | exact pg.elim | skip
  rename_i i
  simp only [vrange1] at pg
  split at pg
  · rename_i hz
    have hz' : -16777216 ≤ (0:Int) ∧ (0:Int) ≤ 16777216 ∧ -16777216 ≤ i ∧ i ≤ 16777216 ∧ i - 0 ≤ 16777216 := hz
    exact ⟨_, rfl, by omega, by omega, pg _ H' F' ex (walks_range (by have := sizeLine_eq; omega))⟩
  · exact pg.elim
theorem vix_range2 {p pos : Pos} (hm : X.mg "range" = none) (h1 : VX X W a ha) (h2 : VX X W b hb) (hg : Gl X "range" := by rfl) (hs : starEach [a, b] X.env = [(false, eval a X.env), (false, eval b X.env)] := by rfl) (hs2 : starEach [b] X.env = [(false, eval b X.env)] := by rfl)
    (he : starEach [a, b] X.env = (false, eval a X.env) :: starEach [b] X.env := by rfl) (he2 : starEach [b] X.env = (false, eval b X.env) :: starEach [] X.env := by rfl) : VIX X W tg (.Call (.Name "range" p) [a, b] [] pos) (x2 vrange2 ha hb) := by
  obtain ⟨t, pt, qt⟩ := h1.ex
  obtain ⟨t2, pt2, qt2⟩ := h2.ex
  refine ⟨_, pi_range2 hg hm (pa_cons pt (pa_cons pt2 pa_nil he2) he) hs hs2, fun σ H F0 H0 F ρ Rr r pr => ?_⟩
  refine oneX qt r pr fun d x H1 F1 ex1 dx p1 => ?_
  refine oneX qt2 (r.ext ex1) p1 fun e y H' F' ex dy pg => ?_
  cases dx <;> first | (cases dy <;> exact pg.elim) | skip
  cases dy <;> first | exact pg.elim | skip
  rename_i i j
  simp only [vrange2] at pg
  split at pg
  · rename_i hz
    have hz' : -16777216 ≤ i ∧ i ≤ 16777216 ∧ -16777216 ≤ j ∧ j ≤ 16777216 ∧ j - i ≤ 16777216 := hz
    exact ⟨i, j, rfl, ⟨by omega, by omega, by omega, by omega⟩, pg _ H' F' (ex1.trans ex) (walks_range (by have := sizeLine_eq; omega))⟩
  · exact pg.elim

/-! ### for -/
def forL (kt : PyData → R (List (Nat × PyData))) (kl : OEnv → OEnv) (gb : OEnv → SR) : List PyData → OEnv → SR
  | [], ρ => .nx ρ
  | d :: ds, ρ => match kt d with
    | .ok bs => (match gb (setsO ρ bs) with
      | .nx ρ' => forL kt kl gb ds (kl ρ')
      | .ct ρ' => forL kt kl gb ds (kl ρ')
      | .bk ρ' => .nx ρ'
      | r => r)
    | _ => .stuck
def sFor (hi : OEnv → R (List PyData)) (kt : PyData → R (List (Nat × PyData))) (kl : OEnv → OEnv) (gb : OEnv → SR) : OEnv → SR := fun ρ => (hi ρ).sr ρ fun ds => forL kt kl gb ds ρ
theorem SPst.rebase {F0 H0 F1 : Hp} {D D' : Ends} (s : Same F0 F1) (n : ∀ a, F0 a = none → F1 a ≠ none → H0 a = none) {r : SR} (hn : ∀ ρ, (r = .nx ρ → ∀ σ' H' F', RS X.K F1 H0 F' H' σ' ρ → D'.nx σ' H') ∧ (r = .bk ρ → ∀ σ' H' F', RS X.K F1 H0 F' H' σ' ρ → D'.bk σ' H') ∧ (r = .ct ρ → ∀ σ' H' F', RS X.K F1 H0 F' H' σ' ρ → D'.ct σ' H'))
    (hrt : D'.rt = D.rt) (p : ∀ ρ, r ≠ .nx ρ → r ≠ .bk ρ → r ≠ .ct ρ → SPst X W F0 H0 D r) (hs : r ≠ .stuck) : SPst X W F1 H0 D' r := by
  cases r with
  | stuck => exact absurd rfl hs
  | err c ρ => exact fun σ' H' F' x => p ρ (fun z => nomatch z) (fun z => nomatch z) (fun z => nomatch z) σ' H' F' (x.rebase s n)
  | nx ρ => exact (hn ρ).1 rfl
  | bk ρ => exact (hn ρ).2.1 rfl
  | ct ρ => exact (hn ρ).2.2 rfl
  | rt o => exact fun v H' F' x => by rw [hrt]; exact p [] (fun z => nomatch z) (fun z => nomatch z) (fun z => nomatch z) v H' F' (x.rebase s n)
theorem vs_for {body : List Stmt} {sl : List Nat} {kt : PyData → R (List (Nat × PyData))} {hi : OEnv → R (List PyData)} {kl : OEnv → OEnv} {gb : OEnv → SR} (hp : PassesOwn (model X.prog X.w) X.A X.env X.xe) (hc : X.calm = true) (h1 : VIX X W tg iter hi) (h2 : VG X tg sl kt) (hk : EnvT X.K kl) (h3 : VSs X W body gb)
    (hs : ∀ x, foldedSetIterable iter X.env x = pure x := by intro _; rfl) : VS X W (.For tg iter body [] pos) (sFor hi kt kl gb) := by
  obtain ⟨wi, pi, qi⟩ := h1.ex
  obtain ⟨tg', pg, qg⟩ := h2.ex
  obtain ⟨tb, pb, qb⟩ := h3.ex
  refine ⟨_, ps_for hp hc pi pg pb hs, fun D σ H F0 H0 F ρ r pr => ?_⟩
  refine qi σ H F0 H0 F ρ _ r (sr_pst r pr fun ds pd J H1 F1 ex wk => ?_)
  have r1 := r.ext ex
  refine ⟨fun i m σ H => m = ds.length - i ∧ i ≤ ds.length ∧ ∃ F' ρ', RS X.K F0 H0 F' H σ ρ' ∧ Same F1 F' ∧ SPst X W F0 H0 D (forL kt kl gb (ds.drop i) ρ'), ⟨ds.length, by simp, Nat.zero_le _, F1, ρ, r1, Same.refl _, by simpa using pd⟩, ?_⟩
  rintro i m σ' Hi ⟨rfl, hi', F', ρ', r', s1, pd'⟩
  obtain ⟨rs, b1, b2⟩ := r'.self
  have fh : Same F' Hi := by obtain ⟨_, _, hs⟩ := rs.ex; exact hs.fh
  by_cases hlt : i < ds.length
  · refine .inr ⟨wk.go i Hi (s1.trans fh) hlt, fun σ' H => i + 1 ≤ ds.length ∧ ∃ F' ρ', RS X.K F0 H0 F' H σ' ρ' ∧ Same F1 F' ∧ SPst X W F0 H0 D (forL kt kl gb (ds.drop (i + 1)) ρ'), fun σ'' H'' q => ⟨ds.length - (i + 1), by omega, rfl, q⟩, fun x H' y => ?_⟩
    obtain ⟨d, F2, e2, E2, dx⟩ := wk.yld i Hi x H' F' s1 fh hlt y
    have hdrop : ds.drop i = d :: ds.drop (i + 1) := by
      obtain ⟨q1, q2⟩ := List.getElem?_eq_some_iff.mp e2
      rw [List.drop_eq_getElem_cons q1, q2]
    rw [hdrop] at pd'
    simp only [forL] at pd'
    generalize hkd : kt d = rk at pd'
    cases rk with
    | stuck => exact pd'.elim
    | err c => exact pd'.elim
    | ok bs =>
      simp only at pd'
      refine qg x σ' H' F2 d _ E2.bh dx ⟨bs, hkd, fun bv hb => ?_⟩
      have r2 : RS X.K F' H0 F2 H' (setsV σ' bv) (setsO ρ' bs) := RS.sets (rs.ext E2) hb
      have again : ∀ {σ3 : L2.St} {H3 F3 : Hp} {ρ3 : OEnv}, RS X.K F' H0 F3 H3 σ3 ρ3 → SPst X W F0 H0 D (forL kt kl gb (ds.drop (i + 1)) (kl ρ3)) → i + 1 ≤ ds.length ∧ ∃ F' ρ', RS X.K F0 H0 F' H3 σ3 ρ' ∧ Same F1 F' ∧ SPst X W F0 H0 D (forL kt kl gb (ds.drop (i + 1)) ρ') := fun {σ3 H3 F3 ρ3} r3 p3 => by
        obtain ⟨F4, r4⟩ := hk F' H0 F3 H3 σ3 ρ3 r3
        refine ⟨hlt, F4, kl ρ3, r4.rebase b1 b2, s1.trans ?_, p3⟩
        obtain ⟨_, _, hs⟩ := r4.ex
        exact hs.f0
      refine qb _ (setsV σ' bv) H' F' H0 F2 (setsO ρ' bs) r2 ?_
      generalize hgb : gb (setsO ρ' bs) = rg at pd'
      cases rg with
      | stuck => exact pd'.elim
      | err c ρ3 => exact fun σ3 H3 F3 r3 => pd' σ3 H3 F3 (r3.rebase b1 b2)
      | nx ρ3 => exact fun σ3 H3 F3 r3 => again r3 pd'
      | ct ρ3 => exact fun σ3 H3 F3 r3 => again r3 pd'
      | bk ρ3 => exact fun σ3 H3 F3 r3 => pd' σ3 H3 F3 (r3.rebase b1 b2)
      | rt o => exact fun v H3 F3 r3 => pd' v H3 F3 (r3.rebase b1 b2)
  · have e : i = ds.length := by omega
    subst e
    refine .inl ⟨wk.stop Hi (s1.trans fh), ?_⟩
    rw [List.drop_length] at pd'
    exact pd' σ' Hi F' r'

def sForK (hi : OEnv → R (List PyData)) (T : OEnv → OEnv) (kt : PyData → R (List (Nat × PyData))) (kl : OEnv → OEnv) (gb : OEnv → SR) : OEnv → SR := fun ρ => (hi ρ).sr ρ fun ds => forL kt kl gb ds (T ρ)
/-- the same; what the source alone asked for is let go behind it -/
theorem vs_forK {body : List Stmt} {sl : List Nat} {kt : PyData → R (List (Nat × PyData))} {hi : OEnv → R (List PyData)} {T kl : OEnv → OEnv} {gb : OEnv → SR} (hp : PassesOwn (model X.prog X.w) X.A X.env X.xe) (hc : X.calm = true) (h1 : VIX X W tg iter hi) (h2 : VG X tg sl kt) (hT : ∀ F0 H0 F H σ ρ, RS X.K F0 H0 F H σ ρ → RS X.K F0 H0 F H σ (T ρ)) (hk : EnvT X.K kl) (h3 : VSs X W body gb)
    (hs : ∀ x, foldedSetIterable iter X.env x = pure x := by intro _; rfl) : VS X W (.For tg iter body [] pos) (sForK hi T kt kl gb) := by
  obtain ⟨wi, pi, qi⟩ := h1.ex
  obtain ⟨tg', pg, qg⟩ := h2.ex
  obtain ⟨tb, pb, qb⟩ := h3.ex
  refine ⟨_, ps_for hp hc pi pg pb hs, fun D σ H F0 H0 F ρ r pr => ?_⟩
  refine qi σ H F0 H0 F ρ _ r (sr_pst r pr fun ds pd J H1 F1 ex wk => ?_)
  have r1 := hT _ _ _ _ _ _ (r.ext ex)
  refine ⟨fun i m σ H => m = ds.length - i ∧ i ≤ ds.length ∧ ∃ F' ρ', RS X.K F0 H0 F' H σ ρ' ∧ Same F1 F' ∧ SPst X W F0 H0 D (forL kt kl gb (ds.drop i) ρ'), ⟨ds.length, by simp, Nat.zero_le _, F1, T ρ, r1, Same.refl _, by simpa using pd⟩, ?_⟩
  rintro i m σ' Hi ⟨rfl, hi', F', ρ', r', s1, pd'⟩
  obtain ⟨rs, b1, b2⟩ := r'.self
  have fh : Same F' Hi := by obtain ⟨_, _, hs⟩ := rs.ex; exact hs.fh
  by_cases hlt : i < ds.length
  · refine .inr ⟨wk.go i Hi (s1.trans fh) hlt, fun σ' H => i + 1 ≤ ds.length ∧ ∃ F' ρ', RS X.K F0 H0 F' H σ' ρ' ∧ Same F1 F' ∧ SPst X W F0 H0 D (forL kt kl gb (ds.drop (i + 1)) ρ'), fun σ'' H'' q => ⟨ds.length - (i + 1), by omega, rfl, q⟩, fun x H' y => ?_⟩
    obtain ⟨d, F2, e2, E2, dx⟩ := wk.yld i Hi x H' F' s1 fh hlt y
    have hdrop : ds.drop i = d :: ds.drop (i + 1) := by
      obtain ⟨q1, q2⟩ := List.getElem?_eq_some_iff.mp e2
      rw [List.drop_eq_getElem_cons q1, q2]
    rw [hdrop] at pd'
    simp only [forL] at pd'
    generalize hkd : kt d = rk at pd'
    cases rk with
    | stuck => exact pd'.elim
    | err c => exact pd'.elim
    | ok bs =>
      simp only at pd'
      refine qg x σ' H' F2 d _ E2.bh dx ⟨bs, hkd, fun bv hb => ?_⟩
      have r2 : RS X.K F' H0 F2 H' (setsV σ' bv) (setsO ρ' bs) := RS.sets (rs.ext E2) hb
      have again : ∀ {σ3 : L2.St} {H3 F3 : Hp} {ρ3 : OEnv}, RS X.K F' H0 F3 H3 σ3 ρ3 → SPst X W F0 H0 D (forL kt kl gb (ds.drop (i + 1)) (kl ρ3)) → i + 1 ≤ ds.length ∧ ∃ F' ρ', RS X.K F0 H0 F' H3 σ3 ρ' ∧ Same F1 F' ∧ SPst X W F0 H0 D (forL kt kl gb (ds.drop (i + 1)) ρ') := fun {σ3 H3 F3 ρ3} r3 p3 => by
        obtain ⟨F4, r4⟩ := hk F' H0 F3 H3 σ3 ρ3 r3
        refine ⟨hlt, F4, kl ρ3, r4.rebase b1 b2, s1.trans ?_, p3⟩
        obtain ⟨_, _, hs⟩ := r4.ex
        exact hs.f0
      refine qb _ (setsV σ' bv) H' F' H0 F2 (setsO ρ' bs) r2 ?_
      generalize hgb : gb (setsO ρ' bs) = rg at pd'
      cases rg with
      | stuck => exact pd'.elim
      | err c ρ3 => exact fun σ3 H3 F3 r3 => pd' σ3 H3 F3 (r3.rebase b1 b2)
      | nx ρ3 => exact fun σ3 H3 F3 r3 => again r3 pd'
      | ct ρ3 => exact fun σ3 H3 F3 r3 => again r3 pd'
      | bk ρ3 => exact fun σ3 H3 F3 r3 => pd' σ3 H3 F3 (r3.rebase b1 b2)
      | rt o => exact fun v H3 F3 r3 => pd' v H3 F3 (r3.rebase b1 b2)
  · have e : i = ds.length := by omega
    subst e
    refine .inl ⟨wk.stop Hi (s1.trans fh), ?_⟩
    rw [List.drop_length] at pd'
    exact pd' σ' Hi F' r'

theorem rs_kill (K : PySem.W.Frag) : ∀ (is : List Nat) F0 H0 F H σ ρ, RS K F0 H0 F H σ ρ → RS K F0 H0 F H σ (kill is ρ)
  | [], _, _, _, _, _, _, r => r
  | i :: is, F0, H0, F, H, σ, ρ, r => rs_kill K is F0 H0 F H σ (ρ.set i none) (r.drop i)

/-! ### while -/
def whileN (t : OEnv → R Bool) (kl : OEnv → OEnv) (gb : OEnv → SR) : Nat → OEnv → SR
  | 0, _ => .stuck
  | n + 1, ρ => (t ρ).sr ρ fun b => if b then (match gb ρ with
      | .nx ρ' => whileN t kl gb n (kl ρ')
      | .ct ρ' => whileN t kl gb n (kl ρ')
      | .bk ρ' => .nx ρ'
      | r => r) else .nx ρ
/-- what it comes to, if it comes to something -/
noncomputable def sWhile (t : OEnv → R Bool) (kl : OEnv → OEnv) (gb : OEnv → SR) : OEnv → SR := fun ρ =>
  open Classical in if h : ∃ n, whileN t kl gb n ρ ≠ .stuck then whileN t kl gb (Classical.choose h) ρ else .stuck
theorem whileN_mono (t : OEnv → R Bool) (kl : OEnv → OEnv) (gb : OEnv → SR) : ∀ (n m : Nat) (ρ : OEnv), n ≤ m → whileN t kl gb n ρ ≠ .stuck → whileN t kl gb m ρ = whileN t kl gb n ρ := by
  intro n
  induction n with
  | zero => intro m ρ _ h; exact absurd rfl h
  | succ n ih =>
    intro m ρ hm h
    cases m with
    | zero => omega
    | succ m =>
      simp only [whileN] at h ⊢
      generalize t ρ = rt at h ⊢
      cases rt with
      | stuck => rfl
      | err c => rfl
      | ok b =>
        simp only [R.sr_ok] at h ⊢
        cases b with
        | false => rfl
        | true =>
          simp only [if_true] at h ⊢
          generalize gb ρ = rg at h ⊢
          cases rg with
          | nx ρ' => exact ih m _ (by omega) h
          | ct ρ' => exact ih m _ (by omega) h
          | stuck => rfl
          | err c ρ' => rfl
          | bk ρ' => rfl
          | rt o => rfl
theorem sWhile_eq {t : OEnv → R Bool} {kl : OEnv → OEnv} {gb : OEnv → SR} {n : Nat} {ρ : OEnv} {r : SR} (h : whileN t kl gb n ρ = r) (hr : r ≠ .stuck) : sWhile t kl gb ρ = r := by
  unfold sWhile
  have ex : ∃ n, whileN t kl gb n ρ ≠ .stuck := ⟨n, by rw [h]; exact hr⟩
  rw [dif_pos ex]
  have hc := Classical.choose_spec ex
  have h2 : whileN t kl gb n ρ ≠ .stuck := by rw [h]; exact hr
  rw [← h]
  by_cases hle : Classical.choose ex ≤ n
  · exact (whileN_mono t kl gb _ _ ρ hle hc).symm
  · exact whileN_mono t kl gb _ _ ρ (by omega) h2
theorem vs_while {body : List Stmt} {t : OEnv → R Bool} {kl : OEnv → OEnv} {gb : OEnv → SR} (hp : PassesOwn (model X.prog X.w) X.A X.env X.xe) (h1 : VXT X W c t) (hk : EnvT X.K kl) (h3 : VSs X W body gb) : VS X W (.While c body [] pos) (sWhile t kl gb) := by
  obtain ⟨tc, pc, qc⟩ := h1.ex
  obtain ⟨tb, pb, qb⟩ := h3.ex
  refine ⟨_, ps_while hp pc pb, fun D σ H F0 H0 F ρ r pr => ?_⟩
  have ex : ∃ n, whileN t kl gb n ρ ≠ .stuck := by
    refine Classical.byContradiction fun z => ?_
    unfold sWhile at pr
    rw [dif_neg z] at pr
    exact pr
  obtain ⟨n, hn⟩ := ex
  rw [sWhile_eq rfl hn] at pr
  refine ⟨fun m σ H => ∃ F ρ, RS X.K F0 H0 F H σ ρ ∧ SPst X W F0 H0 D (whileN t kl gb m ρ), ⟨n, F, ρ, r, pr⟩, ?_⟩
  rintro m σ1 H1 ⟨F1, ρ1, r1, p1⟩
  cases m with
  | zero => exact p1.elim
  | succ m =>
    simp only [whileN] at p1
    refine qc σ1 H1 F0 H0 F1 ρ1 _ r1 (sr_pst r1 p1 fun b pb' H2 F2 E2 => ?_)
    have r2 := r1.ext E2
    cases b with
    | false => exact iteF (pb' σ1 H2 F2 r2)
    | true =>
      simp only [if_true] at pb'
      refine iteT ⟨fun σ H => ∃ F ρ, RS X.K F0 H0 F H σ ρ ∧ SPst X W F0 H0 D (whileN t kl gb m ρ), fun σ' H' q => ⟨m, Nat.lt_succ_self m, q⟩, ?_⟩
      refine qb _ σ1 H2 F0 H0 F2 ρ1 r2 ?_
      have again : ∀ {σ3 : L2.St} {H3 F3 : Hp} {ρ3 : OEnv}, RS X.K F0 H0 F3 H3 σ3 ρ3 → SPst X W F0 H0 D (whileN t kl gb m (kl ρ3)) → ∃ F ρ, RS X.K F0 H0 F H3 σ3 ρ ∧ SPst X W F0 H0 D (whileN t kl gb m ρ) := fun {σ3 H3 F3 ρ3} r3 p3 => by
        obtain ⟨F4, r4⟩ := hk F0 H0 F3 H3 σ3 ρ3 r3
        exact ⟨F4, kl ρ3, r4, p3⟩
      generalize hgb : gb ρ1 = rg at pb'
      cases rg with
      | stuck => exact pb'.elim
      | err c ρ3 => exact pb'
      | nx ρ3 => exact fun σ3 H3 F3 r3 => again r3 pb'
      | ct ρ3 => exact fun σ3 H3 F3 r3 => again r3 pb'
      | bk ρ3 => exact pb'
      | rt o => exact pb'

/-! ### a, b = x, y (names) -/
def sPar (i j : Nat) (h h' : OEnv → R PyData) : OEnv → SR := fun ρ => (h ρ).sr ρ fun d => (h' ρ).sr ρ fun e => .nx ((ρ.set i (some (.fz d))).set j (some (.fz e)))
theorem vs_par (i j : Nat) {x y : Str} {px py pt : Pos} {kt k2 pt2} (mk : ∀ {ta : TA}, PA X [a, b] ta → PS X (.Assign [.Tuple [.Name x px, .Name y py] kt pt] (.Tuple [a, b] k2 pt2) pos) (tPar i j ta)) (h1 : VX X W a hx) (h2 : VX X W b hx')
    (he : starEach [a, b] X.env = (false, eval a X.env) :: starEach [b] X.env := by rfl) (he2 : starEach [b] X.env = (false, eval b X.env) :: starEach [] X.env := by rfl) :
    VS X W (.Assign [.Tuple [.Name x px, .Name y py] kt pt] (.Tuple [a, b] k2 pt2) pos) (sPar i j hx hx') := by
  obtain ⟨t, p, q⟩ := h1.ex
  obtain ⟨t2, p2, q2⟩ := h2.ex
  refine ⟨_, mk (pa_cons p (pa_cons p2 pa_nil he2) he), fun D σ H F0 H0 F ρ r pr => ?_⟩
  unfold sPar at pr
  refine q σ H F0 H0 F ρ _ r (sr_pst r pr fun d pd v H1 F1 e1 dv => ?_)
  have r1 := r.ext e1
  refine q2 σ H1 F0 H0 F1 ρ _ r1 (sr_pst r1 pd fun e pe v2 H2 F2 e2 dv2 => ?_)
  have r2 := r1.ext e2
  exact ⟨v, v2, rfl, pe _ H2 F2 ((((r2.consFz (Is.mono e2.bb dv)).put i).consFz dv2).put j)⟩
end

/-! ### defs -/
/-- what a def promises: its n arguments are data, its answer is what g says -/
def spO (K : PySem.W.Frag) (mg : Str → Option Value) (n : Nat) (g : List PyData → R O) : Sp := fun vs H Q E => vs.length = n ∧ ∃ ds B, Same B H ∧ IsAll K B vs ds ∧
  match g ds with
  | .stuck => False
  | .err c => ∀ H', Same H H' → ∃ C, mg c = some (.ref C) ∧ E (.ref C) none H'
  | .ok o => ∀ v H' F', RV K B H F' H' v o → Q v H'
def startO (n : Nat) (ds : List PyData) : OEnv := ds.map (fun d => some (.fz d)) ++ List.replicate (n - ds.length) none
def runB (n : Nat) (g : OEnv → SR) (ds : List PyData) : R O := match g (startO n ds) with
  | .rt o => .ok o
  | .nx _ => .ok (.fz .none)
  | .err c _ => .err c
  | _ => .stuck
theorem slots_start {K : PySem.W.Frag} {B H : Hp} : ∀ {ds : List PyData} {vs : List V} (m : Nat), IsAll K B vs ds → Slots K B H (vs.map some ++ List.replicate m none) (ds.map (fun d => some (O.fz d)) ++ List.replicate m none) []
  | [], _, m, h => by
    cases h
    induction m with
    | zero => exact .nil
    | succ m ih => exact .un ih
  | d :: ds, _, m, h => by
    cases h with
    | cons h1 h2 => exact .ow (fp := []) (.fz h1) (slots_start m h2)
section
variable {P : Program} {w : World} {K : PySem.W.Frag} {mg : Str → Option Value} {base : Heap}
/-- THE RULE for a def -/
theorem fn_vl {x qual : Str} {st : Stmt} {f : Addr} {fd : FuncData} {N ps : List Str} {k n : Nat} {g : OEnv → SR} (F : Fun K x qual st f fd) (S : FnScope N ps (defScope st)) (hn : n = ps.length)
    (hb : ∀ (cdv : Value) (A : Around) (outer : List Env) (s : Shared) (H : Hp) (E : XK), Room k (A.deeper (envOfC qual (defScope st) s.heap.objs.size f cdv)) →
      VSs (cxOf (L2.CX P w) P w K mg base N qual (defScope st) f cdv A outer s H E) (fun cls d _ H => E cls d H) (defBody st) g) :
    FnOk P w K mg base (L2.CX P w) (k + 1) f fd ps (spO K mg n (runB N.length g)) := by
  refine F.okX S (fun vs H Q E h => by rw [h.1, hn]) (fun cdv A outer s H vs Q E hr h => ?_)
  obtain ⟨hl, ds, B, sb, ia, post⟩ := h
  obtain ⟨t, p, q⟩ := (hb cdv A outer s H E hr).ex
  refine ⟨t, p, q _ _ H B H B (startO N.length ds) ?_ ?_⟩
  · refine ⟨[], ?_, List.nodup_nil, fun a ha => (nomatch ha), sb, Same.refl _, Same.refl _, fun a x y => absurd x y⟩
    unfold L2.start startO
    rw [IsAll.len ia]
    exact slots_start _ ia
  · unfold runB at post
    generalize g (startO N.length ds) = r at post ⊢
    cases r with
    | stuck => exact post
    | err c ρ =>
      intro σ' H' F' x
      obtain ⟨_, _, hs⟩ := x.ex
      exact post H' hs.h0
    | nx ρ =>
      intro σ' H' F' x
      obtain ⟨fps, _, hs⟩ := x.ex
      exact post .non H' F' ⟨[], .fz .non, hs.sub (List.nil_sublist _)⟩
    | bk ρ => exact post.elim
    | ct ρ => exact post.elim
    | rt o => exact fun v H' F' x => post v H' F' x
/-- its answer frozen -/
def frz (g : List PyData → R O) : List PyData → R PyData := fun ds => (g ds).bind fun o => .ok o.data
theorem fn_frz {f : Addr} {fd : FuncData} {ps : List Str} {k n : Nat} {g : List PyData → R O} (F : FnOk P w K mg base (L2.CX P w) k f fd ps (spO K mg n g)) : FnOk P w K mg base (L2.CX P w) k f fd ps (spV K mg n (frz g)) := by
  refine F.imp fun vs H Q E h => ?_
  obtain ⟨hl, ds, B, sb, ia, post⟩ := h
  refine ⟨hl, ds, B, sb, ia, ?_⟩
  unfold frz at post
  generalize g ds = r at post ⊢
  cases r with
  | stuck => exact post
  | err c => exact post
  | ok o =>
    intro v H' F' rv
    obtain ⟨fp, ow, hs⟩ := rv
    obtain ⟨b1, b2⟩ := hs.bor
    refine post v H' (bor F' H' fp) ⟨hs.h0, hs.f0.trans b1, b2, fun a h1 h2 => ?_⟩ (ow.is b1 fun a ha => bor_own ha)
    by_cases ha : a ∈ fp
    · exact (hs.ow a ha).2
    · rw [bor_not ha] at h2; exact hs.nw a h1 h2
/-- a promise by another function that is the same -/
theorem fn_eq {f : Addr} {fd : FuncData} {ps : List Str} {k n : Nat} {g g' : List PyData → R PyData} (F : FnOk P w K mg base (L2.CX P w) k f fd ps (spV K mg n g)) (h : ∀ ds, g' ds ≠ .stuck → g ds = g' ds) : FnOk P w K mg base (L2.CX P w) k f fd ps (spV K mg n g') := by
  refine F.imp fun vs H Q E q => ?_
  obtain ⟨hl, ds, B, sb, ia, post⟩ := q
  refine ⟨hl, ds, B, sb, ia, ?_⟩
  have h0 : g' ds ≠ .stuck := fun z => by rw [z] at post; exact post
  rw [h ds h0]
  exact post
end
end VL

namespace VL
open PySem PySem.Spec PyProof.Rows L2

/-! ### the names that a derivation's meaning is written in -/
def tst (f : PEnv → R PyData) : PEnv → R Bool := fun ρ => (f ρ).bind tbool
def tnn (f : PEnv → R PyData) : PEnv → R Bool := fun ρ => (v1 visnone f ρ).bind fun d => (tbool d).bind fun b => .ok (!b)
def ttr (f : PEnv → R PyData) : PEnv → R Bool := fun ρ => (f ρ).bind vtruth
def vnn (f : PEnv → R PyData) : PEnv → R PyData := v1 (fun d => (visnone d).bind fun b => match b with | .bool b => .ok (.bool (!b)) | _ => .stuck) f
def vpart (f : PEnv → R PyData) : PEnv → R (Option Int) := fun ρ => (f ρ).bind oInt
def vnopart : PEnv → R (Option Int) := fun _ => .ok none
def seq (g h : OEnv → SR) : OEnv → SR := fun ρ => (g ρ).seq h
def pre (T : OEnv → OEnv) (g : OEnv → SR) : OEnv → SR := fun ρ => g (T ρ)
def tB (t : PEnv → R Bool) : OEnv → R Bool := fun ρ => t (viewB ρ)
def ixF (f : PEnv → R (List PyData)) : OEnv → R (List PyData) := fun ρ => f (viewF ρ)
def sNx : OEnv → SR := fun ρ => .nx ρ
def sBk : OEnv → SR := fun ρ => .bk ρ
def sCt : OEnv → SR := fun ρ => .ct ρ
def sRetN : OEnv → SR := fun _ => .rt (.fz .none)
/-! `in` a tuple -/
def vInT : PyData → PyData → R PyData
  | d, .tuple ds => if SeqAt.shaped d = true ∧ SeqAt.shaped (.tuple ds) = true then .ok (.bool (ds.any fun z => PyData.eqv z d)) else .stuck
  | _, _ => .stuck
def vNotInT : PyData → PyData → R PyData
  | d, .tuple ds => if SeqAt.shaped d = true ∧ SeqAt.shaped (.tuple ds) = true then .ok (.bool (!ds.any fun z => PyData.eqv z d)) else .stuck
  | _, _ => .stuck
def rInTD (K : PySem.W.Frag) (neg : Bool) : R2 := fun x y H Q => ∃ d ds, Dp K H x d ∧ Dp K H y (.tuple ds) ∧ SeqAt.shaped d = true ∧ SeqAt.shaped (.tuple ds) = true ∧ Q (.bl (if neg then !ds.any fun z => PyData.eqv z d else ds.any fun z => PyData.eqv z d)) H
theorem roomT {A : Around} {d : PyData} {ds : List PyData} (h : SeqAt.shaped d = true) (hu : A.units + 65 < cLine) : A.units + 1 + min (PyData.depthAll ds) d.depth < cLine := by
  have := SeqAt.depth_of_shaped h
  have := Nat.min_le_right (PyData.depthAll ds) d.depth
  omega
theorem op_inTD {X : Cx} (hu : X.A.units + 65 < cLine) : OpR X (compareOp .In) (rInTD X.K false) := by
  intro pins t σ G x y vv uu Q J rX rY hh
  obtain ⟨d, ds, hd, he, sd, se, q⟩ := hh
  obtain ⟨as, k1⟩ := Dp.reads J d x vv hd rX
  obtain ⟨bs, k2⟩ := Dp.reads J (.tuple ds) y uu he rY
  exact SeqAt.in_tuple_reads k2 k1 (SeqAt.canLay_of_shaped se) (SeqAt.canLay_of_shaped sd) (roomT sd hu) ⟨.bl _, G, J, rfl, q⟩
theorem op_notInTD {X : Cx} (hu : X.A.units + 65 < cLine) : OpR X (compareOp .NotIn) (rInTD X.K true) := by
  intro pins t σ G x y vv uu Q J rX rY hh
  obtain ⟨d, ds, hd, he, sd, se, q⟩ := hh
  obtain ⟨as, k1⟩ := Dp.reads J d x vv hd rX
  obtain ⟨bs, k2⟩ := Dp.reads J (.tuple ds) y uu he rY
  exact SeqAt.notIn_tuple_reads k2 k1 (SeqAt.canLay_of_shaped se) (SeqAt.canLay_of_shaped sd) (roomT sd hu) ⟨.bl _, G, J, rfl, q⟩
end VL

namespace VL
open PySem PySem.Spec PyProof.Rows L2
section
variable {X : Cx} {W : WX} {a b c e tg iter : Expr} {es : List Expr} {st : Stmt} {sts rest : List Stmt} {pos : Pos} {g h : OEnv → SR} {fa fb fc : PEnv → R PyData} {ft fu : PEnv → R Bool} {k : Nat}
/-! ### the rules under the names that a derivation's meaning is written in -/
theorem qs_nil : VSs X W [] sNx := vss_nil
theorem qs_cons (h1 : VS X W st g) (h2 : VSs X W rest h) : VSs X W (st :: rest) (seq g h) := vss_cons h1 h2
theorem qs_t {T : OEnv → OEnv} (hT : EnvT X.K T) (h1 : VSs X W sts g) : VSs X W sts (pre T g) := vss_t (g := g) (T := T) hT h1
theorem q_pass : VS X W (.Pass pos) sNx := vs_pass
theorem q_break : VS X W (.Break pos) sBk := vs_break
theorem q_continue : VS X W (.Continue pos) sCt := vs_continue
theorem q_retN : VS X W (.Return none pos) sRetN := vs_retN
theorem qx_T (h : VT X W e ft) : VXT X W e (tB ft) := vxT h
theorem qix_F {f : PEnv → R (List PyData)} (h : VI X W tg iter f) : VIX X W tg iter (ixF f) := vix_F h
theorem qlt (ha : VE X W a fa) (hb : VE X W b fb) : VT X W (.Compare a [.Lt] [b] pos) (tst (v2 vlt fa fb)) := vlt_t ha hb
theorem qle (ha : VE X W a fa) (hb : VE X W b fb) : VT X W (.Compare a [.LtE] [b] pos) (tst (v2 vle fa fb)) := vle_t ha hb
theorem qgt (ha : VE X W a fa) (hb : VE X W b fb) : VT X W (.Compare a [.Gt] [b] pos) (tst (v2 vgt fa fb)) := vgt_t ha hb
theorem qge (ha : VE X W a fa) (hb : VE X W b fb) : VT X W (.Compare a [.GtE] [b] pos) (tst (v2 vge fa fb)) := vge_t ha hb
theorem qeq (hr : Room k X.A) (ha : VE X W a fa) (hb : VE X W b fb) : VT X W (.Compare a [.Eq] [b] pos) (tst (v2 veq fa fb)) := veq_t hr ha hb
theorem qne (hr : Room k X.A) (ha : VE X W a fa) (hb : VE X W b fb) : VT X W (.Compare a [.NotEq] [b] pos) (tst (v2 vne fa fb)) := vne_t hr ha hb
theorem qin (hr : Room k X.A) (ha : VE X W a fa) (hb : VE X W b fb) (hm : behindInMarks .In b = false := by with_unfolding_all rfl) : VT X W (.Compare a [.In] [b] pos) (tst (v2 vIn fa fb)) := vin_t hr ha hb hm
theorem qnotin (hr : Room k X.A) (ha : VE X W a fa) (hb : VE X W b fb) (hm : behindInMarks .NotIn b = false := by with_unfolding_all rfl) : VT X W (.Compare a [.NotIn] [b] pos) (tst (v2 vNotIn fa fb)) := vnotin_t hr ha hb hm
theorem win (hr : Room k X.A) (ha : VE X W a fa) (hb : VE X W b fb) (hm : behindInMarks .In b = false := by with_unfolding_all rfl) : VE X W (.Compare a [.In] [b] pos) (v2 vIn fa fb) := vin_ hr ha hb hm
theorem wnotin (hr : Room k X.A) (ha : VE X W a fa) (hb : VE X W b fb) (hm : behindInMarks .NotIn b = false := by with_unfolding_all rfl) : VE X W (.Compare a [.NotIn] [b] pos) (v2 vNotIn fa fb) := vnotin_ hr ha hb hm
theorem qtruth (h : VE X W a fa) (he : ∀ whole, isTrue a X.env whole = (do let v ← whole; standAt a.pos; holding [v] (truthy v)) := by intro _; rfl) : VT X W a (ttr fa) := vt_truth h he
theorem qisnone {j pos'} (ha : VE X W a fa) : VT X W (.Compare a [.Is] [.Constant .none j pos'] pos) (tst (v1 visnone fa)) := visnone_t ha
theorem qnotnone {j pos'} (ha : VE X W a fa) : VT X W (.Compare a [.IsNot] [.Constant .none j pos'] pos) (tnn fa) := vnotnone_t ha
theorem wnotnone {j pos'} (ha : VE X W a fa) : VE X W (.Compare a [.IsNot] [.Constant .none j pos'] pos) (vnn fa) := vnotnone_ ha
theorem qchain {op op' : CmpOp} {p p' : Int → Int → Bool} {g g' : D → D → R D} (i1 : IntCmp X op p g) (i2 : IntCmp X op' p' g') (ha : VE X W a fa) (hb : VE X W b fb) (hc : VE X W c fc) (hm : lastMarks [op, op'] [b, c] = false := by with_unfolding_all rfl) :
    VT X W (.Compare a [op, op'] [b, c] pos) (tst (vchain g g' fa fb fc)) := vchain_t i1 i2 ha hb hc hm
theorem qo_some (h : VE X W a fa) : VO1 X W (some a) (vpart fa) := vo_some h
theorem qo_none : VO1 X W none vnopart := vo_none
/-! in a flat tuple -/
theorem rule_inT : Rule2 X W (rInTD X.K false) vInT := fun d e x y σ H B Q s sm dx dy p => by
  cases e <;> first | (cases d <;> exact p.elim) | skip
  simp only [vInT] at p
  split at p
  · rename_i hf
    exact ⟨_, _, (Is.mono s dx).dp (SeqAt.canLay_of_shaped hf.1), (Is.mono s dy).dp (SeqAt.canLay_of_shaped hf.2), hf.1, hf.2, p _ H B (.refl s) (.bl _)⟩
  · exact p.elim
theorem rule_notInT : Rule2 X W (rInTD X.K true) vNotInT := fun d e x y σ H B Q s sm dx dy p => by
  cases e <;> first | (cases d <;> exact p.elim) | skip
  simp only [vNotInT] at p
  split at p
  · rename_i hf
    exact ⟨_, _, (Is.mono s dx).dp (SeqAt.canLay_of_shaped hf.1), (Is.mono s dy).dp (SeqAt.canLay_of_shaped hf.2), hf.1, hf.2, p _ H B (.refl s) (.bl _)⟩
  · exact p.elim
theorem winT (hr : Room k X.A) (ha : VE X W a fa) (hb : VE X W b fb) (hm : behindInMarks .In b = false := by with_unfolding_all rfl) : VE X W (.Compare a [.In] [b] pos) (v2 vInT fa fb) := ve2 (fun p q => pe_cmpR (op_inTD (hu65 hr)) p q hm) rule_inT ha hb
theorem wnotinT (hr : Room k X.A) (ha : VE X W a fa) (hb : VE X W b fb) (hm : behindInMarks .NotIn b = false := by with_unfolding_all rfl) : VE X W (.Compare a [.NotIn] [b] pos) (v2 vNotInT fa fb) := ve2 (fun p q => pe_cmpR (op_notInTD (hu65 hr)) p q hm) rule_notInT ha hb
theorem inT_bool {d e z : PyData} (h : vInT d e = .ok z) : ∃ k, z = .bool k := by
  cases e <;> first | (cases d <;> (cases h; done)) | skip
  simp only [vInT] at h
  split at h <;> cases h
  exact ⟨_, rfl⟩
theorem notInT_bool {d e z : PyData} (h : vNotInT d e = .ok z) : ∃ k, z = .bool k := by
  cases e <;> first | (cases d <;> (cases h; done)) | skip
  simp only [vNotInT] at h
  split at h <;> cases h
  exact ⟨_, rfl⟩
theorem qinT (hr : Room k X.A) (ha : VE X W a fa) (hb : VE X W b fb) (hm : behindInMarks .In b = false := by with_unfolding_all rfl) : VT X W (.Compare a [.In] [b] pos) (tst (v2 vInT fa fb)) := vt2 (fun p q => pt_cmpR (op_inTD (hu65 hr)) p q hm) rule_inT (fun _ _ _ h => inT_bool h) ha hb
theorem qnotinT (hr : Room k X.A) (ha : VE X W a fa) (hb : VE X W b fb) (hm : behindInMarks .NotIn b = false := by with_unfolding_all rfl) : VT X W (.Compare a [.NotIn] [b] pos) (tst (v2 vNotInT fa fb)) := vt2 (fun p q => pt_cmpR (op_notInTD (hu65 hr)) p q hm) rule_notInT (fun _ _ _ h => notInT_bool h) ha hb
end
theorem takes0 {X : Cx} : Takes X W0 := fun u s' ⟨_, _, _, _, _, _, _, _, _, _, _, _, _, _, _, _, w⟩ => w.elim
/-! ### constants of the module -/
def Cst (K : PySem.W.Frag) (mg : Str → Option Value) (x : Str) (d : PyData) : Prop := ∃ (u : Value) (v : V), mg x = some u ∧ RelV v u ∧ ∀ H, Is K H v d
theorem vglobT {X : Cx} {W : WX} {pos : Pos} {x : Str} {d : PyData} (h : Cst X.K X.mg x d) (hg : Gl X x := by rfl) (hdb : (x == ("__debug__" : Str)) = false := by decide) : VE X W (.Name x pos) (vC d) := by
  obtain ⟨u, v, h1, h2, h3⟩ := h
  exact vglob hg h1 h2 h3 hdb
theorem is_ktup {K : PySem.W.Frag} {q : Addr} {dd : Option Addr} {ss : Array (Option Value)} {its : Array Value} {n : Nat} {vs : List V} {ds : List PyData} (h : K.lookup q = some ⟨.type "tuple", dd, .seq its n, ss⟩) (hz : its.size ≤ sizeLine) (hv : Vals vs its.toList) (hd : ∀ H, IsAll K H vs ds) : ∀ H, Is K H (.ref q) (.tuple ds) :=
  fun H => .tup (.inr ⟨_, its, n, h, rfl, rfl, hz, hv⟩) (hd H)

/-! ### where a new list comes to stand -/
section
variable {X : Cx} {W : WX} {f : PEnv → R (List PyData)} {t : TE}
theorem mode_F (q : ∀ σ H B ρ Q, Same B H → RF X.K B σ ρ → Pst X W σ H (KFr X B H Q) (f ρ) → t σ H Q) : ∀ σ H F0 H0 F ρ Q, RS X.K F0 H0 F H σ ρ → Pst X W σ H (KO X F0 H0 σ Q) (oFrF f ρ) → t σ H Q := fun σ H F0 H0 F ρ Q r pr => by
  obtain ⟨fps, s, hs⟩ := r.ex
  refine q σ H F _ Q hs.fh s.rfF ?_
  unfold oFrF at pr
  generalize f (viewF ρ) = rr at pr ⊢
  cases rr with
  | stuck => exact pr
  | err c => exact pr
  | ok ds =>
    intro pa vs H' B' ex hp hn bn ia
    have hs' := hs.ext ex s.lstAt
    have s' : Slots X.K B' H' σ ρ fps := s.keep ex.bb fun a ha => by
      obtain ⟨us, z⟩ := s.lstAt a ha
      rw [z]; exact ex.hh _ _ z
    refine pr (.ref pa) H' B' ⟨[pa] ++ fps, .ow (.lst hp (OwnL.fzs ia)) s', ?_, ?_, hs'.fh, hs'.f0, hs'.h0, hs'.nw⟩
    · refine List.nodup_cons.mpr ⟨fun hm => ?_, hs'.nd⟩
      obtain ⟨us, z⟩ := s.lstAt pa hm
      rw [hn] at z; cases z
    · intro a ha
      rcases List.mem_cons.mp ha with e | e
      · subst e; exact ⟨bn, Same.free hs.h0 hn⟩
      · exact hs'.ow a e
theorem mode_B (q : ∀ σ H B ρ Q, Same B H → RF X.K B σ ρ → Pst X W σ H (KFr X B H Q) (f ρ) → t σ H Q) : ∀ σ H F0 H0 F ρ Q, RS X.K F0 H0 F H σ ρ → Pst X W σ H (KO X F0 H0 σ Q) (oFrB f ρ) → t σ H Q := fun σ H F0 H0 F ρ Q r pr => by
  obtain ⟨fps, s, hs⟩ := r.ex
  obtain ⟨b1, b2⟩ := hs.bor
  refine q σ H (bor F H fps) _ Q b2 (s.rfB b1 fun a ha => bor_own ha) ?_
  unfold oFrB at pr
  generalize f (viewB ρ) = rr at pr ⊢
  cases rr with
  | stuck => exact pr
  | err c => exact pr
  | ok ds =>
    simp only [R.bind_ok] at pr
    split at pr
    · rename_i hl
      intro pa vs H' B' ex hp hn bn ia
      obtain ⟨F', e1, e2, e3⟩ := hs.unbor s.lstAt ex
      have hs' := hs.ext e1 s.lstAt
      have s' : Slots X.K F' H' σ ρ fps := s.keep e1.bb fun a ha => by
        obtain ⟨us, z⟩ := s.lstAt a ha
        rw [z]; exact e1.hh _ _ z
      have hpa : pa ∉ fps := fun hm => by
        obtain ⟨us, z⟩ := s.lstAt pa hm
        rw [hn] at z; cases z
      have fn : F' pa = none := by
        cases z : F' pa with
        | none => rfl
        | some o => have w := e3 _ _ z; rw [bn] at w; cases w
      refine pr (.ref pa) H' F' ⟨[pa] ++ fps, .ow (.lst hp (OwnL.fzs (IsAll.lfree e2 hl ia))) s', ?_, ?_, hs'.fh, hs'.f0, hs'.h0, hs'.nw⟩
      · exact List.nodup_cons.mpr ⟨hpa, hs'.nd⟩
      · intro a ha
        rcases List.mem_cons.mp ha with e | e
        · subst e; exact ⟨fn, Same.free hs.h0 hn⟩
        · exact hs'.ow a e
    · exact pr.elim
theorem mode_Z (q : ∀ σ H B ρ Q, Same B H → RF X.K B σ ρ → Pst X W σ H (KFr X B H Q) (f ρ) → t σ H Q) : ∀ σ H F0 H0 F ρ Q, RS X.K F0 H0 F H σ ρ → Pst X W σ H (KO X F0 H0 σ Q) (oX (exF (vlistOf f)) ρ) → t σ H Q := fun σ H F0 H0 F ρ Q r pr => by
  have r0 := r
  obtain ⟨fps, s, hs⟩ := r.ex
  refine q σ H F _ Q hs.fh s.rfF ?_
  unfold oX exF vlistOf at pr
  generalize f (viewF ρ) = rr at pr ⊢
  cases rr with
  | stuck => exact pr
  | err c => exact pr
  | ok ds =>
    refine kfr_of fun v H' F' ex dv => ?_
    obtain ⟨fps, s, hs⟩ := (r0.ext ex).ex
    exact pr v H' F' ⟨fps, .ow (.fz dv) s, hs⟩
end
section
variable {X : Cx} {W : WX} {a b c e tg iter elt : Expr} {ifs : List Expr} {pos : Pos} {scope : Scope} {own : List (Str × Nat)} {sl ownl : List Nat} {fi : PEnv → R (List D)} {kt : D → R (List (Nat × D))} {ft : PEnv → R Bool} {fe : PEnv → R D} {k : Nat}
theorem qcomp (hc : X.calm = true) (hN : X.N.Nodup) (hi : VI X W tg iter fi) (ok : BlkOk X.N X.env.scope scope own) (ho : own.map (·.2) = ownl)
    (hg : ∀ (s : Shared) (H : Hp) (C : Addr) (cl : List (Str × Addr)) (fp : List Addr), VG (X.blk s H scope (compEnvC scope cl C X.env) fp) tg sl kt)
    (hso : ∀ i ∈ sl, i ∈ ownl)
    (ht : ∀ (s : Shared) (H : Hp) (C : Addr) (cl : List (Str × Addr)) (fp : List Addr), VTs (X.blk s H scope (compEnvC scope cl C X.env) fp) W0 ifs ft)
    (he : ∀ (s : Shared) (H : Hp) (C : Addr) (cl : List (Str × Addr)) (fp : List Addr), VE (X.blk s H scope (compEnvC scope cl C X.env) fp) W0 elt fe) (hs : ∀ x, foldedSetIterable iter X.env x = pure x := by intro _; rfl) :
    VFr X W (.ListComp elt [⟨tg, iter, ifs, 0⟩] scope pos) (vcomp ownl fi kt ft fe) := by
  subst ho
  exact vcomp_ hc hN hi ok hg hso ht he hs
theorem qsetLc {cpos : Pos} {x : Str} {py : Pos} {hh : OEnv → R (O × OEnv)} (i : Nat) (mode : ∀ {t : TE}, (∀ σ H B ρ Q, Same B H → RF X.K B σ ρ → Pst X W σ H (KFr X B H Q) (vcomp ownl fi kt ft fe ρ) → t σ H Q) → ∀ σ H F0 H0 F ρ Q, RS X.K F0 H0 F H σ ρ → Pst X W σ H (KO X F0 H0 σ Q) (hh ρ) → t σ H Q)
    (hc : X.calm = true) (hN : X.N.Nodup) (hy : X.N[i]? = some x) (hyl : X.env.scope.names.lookup x = some .local) (hsw : swapsWith (.ListComp elt [⟨tg, iter, ifs, 0⟩] scope cpos) (some (.Name x py)) pos.line X.env = pure true)
    (hi : VI X W tg iter fi) (ok : BlkOk X.N X.env.scope scope own) (ho : own.map (·.2) = ownl)
    (hg : ∀ (s : Shared) (H : Hp) (C : Addr) (cl : List (Str × Addr)) (fp : List Addr), VG (X.blk s H scope (compEnvC scope cl C X.env) fp) tg sl kt)
    (hso : ∀ i ∈ sl, i ∈ ownl)
    (ht : ∀ (s : Shared) (H : Hp) (C : Addr) (cl : List (Str × Addr)) (fp : List Addr), VTs (X.blk s H scope (compEnvC scope cl C X.env) fp) W0 ifs ft)
    (hee : ∀ (s : Shared) (H : Hp) (C : Addr) (cl : List (Str × Addr)) (fp : List Addr), VE (X.blk s H scope (compEnvC scope cl C X.env) fp) W0 elt fe) (hs : ∀ x, foldedSetIterable iter X.env x = pure x := by intro _; rfl) :
    VS X W (.Assign [.Name x py] (.ListComp elt [⟨tg, iter, ifs, 0⟩] scope cpos) pos) (sSet i hh) := by
  subst ho
  exact vs_setLc i mode hc hN hy hyl hsw hi ok hg hso ht hee hs
/-! list(range(..)) -/
theorem ints_is {K : PySem.W.Frag} {F : Hp} : ∀ ns : List Int, IsAll K F (ns.map V.int) (ns.map PyData.int)
  | [] => .nil
  | n :: ns => .cons (.int n) (ints_is ns)
theorem rgV_is {K : PySem.W.Frag} {F : Hp} (i j : Int) : IsAll K F (rgV i j) (rangeD i (j - i).toNat) := by
  have := ints_is (K := K) (F := F) ((List.range (j - i).toNat).map fun n : Nat => i + (n : Int))
  unfold rgV rangeD
  rw [List.map_map, List.map_map] at this
  exact this
theorem rgOk_of {i j : Int} (h : rngOk i j) : RgOk i j := by
  obtain ⟨h1, h2, h3, h4, h5⟩ := h
  exact ⟨by omega, by omega, by omega, by omega, by omega⟩
theorem qlist_rg1 {p p2 pos2 : Pos} {fa : PEnv → R PyData} (hc : X.calm = true) (hm : X.mg "list" = none) (hm2 : X.mg "range" = none) (ha : VE X W a fa) (hg : Gl X "list" := by rfl) (hg2 : Gl X "range" := by rfl)
    (n1 : starEach [a] X.env = (false, eval a X.env) :: starEach [] X.env := by rfl)
    (n3 : starEach [.Call (.Name "range" p2) [a] [] pos2] X.env = (false, eval (.Call (.Name "range" p2) [a] [] pos2) X.env) :: starEach [] X.env := by rfl) : VFr X W (.Call (.Name "list" p) [.Call (.Name "range" p2) [a] [] pos2] [] pos) (i1 vrange1 fa) := by
  obtain ⟨t, pt, qt⟩ := ha.ex
  refine ⟨_, pe_listRg hc hg hm (prg_1 hg2 hm2 pt n1) n3, fun σ H B ρ Q s rf pr => ?_⟩
  refine one qt s rf pr fun d x H' B' ex sm dx pg => ?_
  cases dx <;> first | exact pg.elim | skip
  rename_i j
  simp only [vrange1] at pg
  split at pg
  · rename_i hz
    refine ⟨j, rfl, rgOk_of hz, fun q hq => ?_⟩
    have pg : KFr X B H Q (rangeD 0 j.toNat) := pg
    have e := rgV_is (K := X.K) (F := B') 0 j
    rw [Int.sub_zero] at e
    exact pg q _ _ B' (ex.trans (Ext.own ex.bh hq)) upd_same (Same.free ex.hh hq) (Same.free ex.bh hq) e
  · exact pg.elim
theorem qlist_rg2 {p p2 pos2 : Pos} {fa fb : PEnv → R PyData} (hc : X.calm = true) (hm : X.mg "list" = none) (hm2 : X.mg "range" = none) (ha : VE X W a fa) (hb : VE X W b fb) (hg : Gl X "list" := by rfl) (hg2 : Gl X "range" := by rfl)
    (n1 : starEach [a, b] X.env = (false, eval a X.env) :: starEach [b] X.env := by rfl) (n2 : starEach [b] X.env = (false, eval b X.env) :: starEach [] X.env := by rfl) (hp : (backTo pos2 (starEach [b] X.env)).any (·.1) = false := by rfl)
    (n3 : starEach [.Call (.Name "range" p2) [a, b] [] pos2] X.env = (false, eval (.Call (.Name "range" p2) [a, b] [] pos2) X.env) :: starEach [] X.env := by rfl) : VFr X W (.Call (.Name "list" p) [.Call (.Name "range" p2) [a, b] [] pos2] [] pos) (i2 vrange2 fa fb) := by
  obtain ⟨t, pt, qt⟩ := ha.ex
  obtain ⟨t2, pt2, qt2⟩ := hb.ex
  refine ⟨_, pe_listRg hc hg hm (prg_2 hg2 hm2 pt pt2 n1 n2 hp) n3, fun σ H B ρ Q s rf pr => ?_⟩
  refine two qt qt2 s rf pr fun d e x y H' B' ex sm dx dy pg => ?_
  cases dx <;> first | (cases dy <;> exact pg.elim) | skip
  cases dy <;> first | exact pg.elim | skip
  rename_i i j
  simp only [vrange2] at pg
  split at pg
  · rename_i hz
    refine ⟨i, j, rfl, rfl, rgOk_of hz, fun q hq => ?_⟩
    have pg : KFr X B H Q (rangeD i (j - i).toNat) := pg
    exact pg q _ _ B' (ex.trans (Ext.own ex.bh hq)) upd_same (Same.free ex.hh hq) (Same.free ex.bh hq) (rgV_is i j)
  · exact pg.elim
end
/-! ### the law's own end -/
/-- what `law` promises: of a list of at most 63 ints, True -/
def spL : Sp := fun vs H Q _ => ∃ (a : Addr) (ns : List Int), vs = [.ref a] ∧ ns.length ≤ 63 ∧ Rd H a (.lst (ns.map V.int)) ∧ ∀ H', Same H H' → Q (.bl true) H'
def noLst (K : PySem.W.Frag) : Bool := K.all fun p => match p.2.cls with | .type "list" => false | _ => true
theorem lookup_all {K : PySem.W.Frag} {p : Addr × Obj → Bool} : ∀ {K : List (Addr × Obj)} {a : Addr} {o : Obj}, K.all p = true → K.lookup a = some o → ∃ b, p (b, o) = true
  | [], a, o, _, e => by cases e
  | (b, u) :: K, a, o, h, e => by
    rw [List.all_cons, Bool.and_eq_true] at h
    rw [List.lookup_cons] at e
    split at e
    · cases e; exact ⟨b, h.1⟩
    · exact lookup_all (K := K) h.2 e
theorem spL_of {K : PySem.W.Frag} {H : Hp} {a : Addr} {ns : List Int} (hl : ns.length ≤ 63) (hS : SqL K H a (ns.map V.int)) (hK : noLst K = true) : spL [.ref a] H (fun v _ => v = .bl true) fun _ _ _ => False := by
  rcases hS with h | ⟨o, its, n, h1, h2, _⟩
  · exact ⟨a, ns, rfl, hl, h, fun _ _ => rfl⟩
  · obtain ⟨b, hb⟩ := lookup_all (K := K) (p := fun p => match p.2.cls with | .type "list" => false | _ => true) hK h1
    simp only [h2] at hb
    cases hb
theorem fn_law {P : Program} {w : World} {K : PySem.W.Frag} {mg : Str → Option Value} {base : Heap} {f : Addr} {fd : FuncData} {ps : List Str} {k : Nat} {g : List PyData → R PyData} (F : FnOk P w K mg base (L2.CX P w) k f fd ps (spV K mg 1 g))
    (math : ∀ ns : List Int, ns.length ≤ 63 → g [.list (ns.map PyData.int)] = .ok (.bool true)) : FnOk P w K mg base (L2.CX P w) k f fd ps spL := by
  refine F.imp fun vs H Q E q => ?_
  obtain ⟨a, ns, rfl, hl, hr, post⟩ := q
  refine ⟨rfl, [.list (ns.map PyData.int)], H, Same.refl H, .cons (.lst hr (ints_is ns)) .nil, ?_⟩
  rw [math ns hl]
  intro v H' B' ex dv
  cases dv
  exact post H' ex.hh
theorem cx_false {P : Program} {w : World} {H : Hp} {s : Shared} {e : Value} {s' : Shared} (h : L2.CX P w [] H s (fun _ _ _ => False) e s') : False := by
  obtain ⟨_, _, _, _, _, _, _, _, _, _, _, _, h⟩ := h
  exact h
end VL

namespace VL
open PySem PySem.Spec PyProof.Rows

/-! ### evaluation -/
def fin : SR → R PyData
  | .rt o => .ok o.data
  | .nx _ => .ok .none
  | .err c _ => .err c
  | _ => .stuck
@[simp] theorem fin_rt (o : O) : fin (.rt o) = .ok o.data := rfl
@[simp] theorem fin_nx (ρ : OEnv) : fin (.nx ρ) = .ok .none := rfl
@[simp] theorem fin_err (c : Str) (ρ : OEnv) : fin (.err c ρ) = .err c := rfl
theorem frz_fin (n : Nat) (g : OEnv → SR) (ds : List PyData) : frz (runB n g) ds = fin (g (startO n ds)) := by
  unfold frz runB
  cases g (startO n ds) <;> rfl
@[simp] theorem seq_ap (g h : OEnv → SR) (ρ : OEnv) : seq g h ρ = (g ρ).seq h := rfl
@[simp] theorem pre_ap (T : OEnv → OEnv) (g : OEnv → SR) (ρ : OEnv) : pre T g ρ = g (T ρ) := rfl
@[simp] theorem tB_ap (t : PEnv → R Bool) (ρ : OEnv) : tB t ρ = t (viewB ρ) := rfl
@[simp] theorem ixF_ap (t : PEnv → R (List PyData)) (ρ : OEnv) : ixF t ρ = t (viewF ρ) := rfl
@[simp] theorem sRet_ap (h : OEnv → R (O × OEnv)) (ρ : OEnv) : sRet h ρ = (h ρ).sr ρ fun p => .rt p.1 := rfl
@[simp] theorem sSet_ap (i : Nat) (h : OEnv → R (O × OEnv)) (ρ : OEnv) : sSet i h ρ = (h ρ).sr ρ fun p => .nx (p.2.set i (some p.1)) := rfl
@[simp] theorem sExpr_ap (h : OEnv → R (O × OEnv)) (ρ : OEnv) : sExpr h ρ = (h ρ).sr ρ fun p => .nx p.2 := rfl
@[simp] theorem sIf_ap (t : OEnv → R Bool) (g h : OEnv → SR) (ρ : OEnv) : sIf t g h ρ = (t ρ).sr ρ fun b => if b then g ρ else h ρ := rfl
@[simp] theorem sNx_ap (ρ : OEnv) : sNx ρ = .nx ρ := rfl
@[simp] theorem sBk_ap (ρ : OEnv) : sBk ρ = .bk ρ := rfl
@[simp] theorem sCt_ap (ρ : OEnv) : sCt ρ = .ct ρ := rfl
@[simp] theorem sRetN_ap (ρ : OEnv) : sRetN ρ = .rt (.fz .none) := rfl
@[simp] theorem oX_ap (h : OEnv → R PyData) (ρ : OEnv) : oX h ρ = (h ρ).bind fun d => .ok (.fz d, ρ) := rfl
@[simp] theorem exF_ap (f : PEnv → R PyData) (ρ : OEnv) : exF f ρ = f (viewF ρ) := rfl
@[simp] theorem exB_ap (f : PEnv → R PyData) (ρ : OEnv) : exB f ρ = (f (viewB ρ)).bind lfok := rfl
@[simp] theorem oFrF_ap (f : PEnv → R (List PyData)) (ρ : OEnv) : oFrF f ρ = (f (viewF ρ)).bind fun ds => .ok (.lst (ds.map O.fz), ρ) := rfl
@[simp] theorem oFrB_ap (f : PEnv → R (List PyData)) (ρ : OEnv) : oFrB f ρ = (f (viewB ρ)).bind fun ds => if lfs ds then .ok (.lst (ds.map O.fz), ρ) else .stuck := rfl
@[simp] theorem sPar_ap (i j : Nat) (h h' : OEnv → R PyData) (ρ : OEnv) : sPar i j h h' ρ = (h ρ).sr ρ fun d => (h' ρ).sr ρ fun e => .nx ((ρ.set i (some (.fz d))).set j (some (.fz e))) := rfl
@[simp] theorem sTup_ap (k : PyData → R (List (Nat × PyData))) (h : OEnv → R PyData) (ρ : OEnv) : sTup k h ρ = (h ρ).sr ρ fun d => match k d with | .ok bd => .nx (setsO ρ bd) | _ => .stuck := rfl
@[simp] theorem sFor_ap (hi : OEnv → R (List PyData)) (kt : PyData → R (List (Nat × PyData))) (kl : OEnv → OEnv) (gb : OEnv → SR) (ρ : OEnv) : sFor hi kt kl gb ρ = (hi ρ).sr ρ fun ds => forL kt kl gb ds ρ := rfl
@[simp] theorem sForK_ap (hi : OEnv → R (List PyData)) (T : OEnv → OEnv) (kt : PyData → R (List (Nat × PyData))) (kl : OEnv → OEnv) (gb : OEnv → SR) (ρ : OEnv) : sForK hi T kt kl gb ρ = (hi ρ).sr ρ fun ds => forL kt kl gb ds (T ρ) := rfl
@[simp] theorem lfok_ap (d : PyData) : lfok d = if lf d then .ok d else .stuck := rfl
@[simp] theorem kill_nil (ρ : OEnv) : kill [] ρ = ρ := rfl
@[simp] theorem kill_cons (i : Nat) (is : List Nat) (ρ : OEnv) : kill (i :: is) ρ = kill is (ρ.set i none) := rfl
@[simp] theorem freeze_nil (ρ : OEnv) : freeze [] ρ = ρ := rfl
@[simp] theorem freeze_cons (i : Nat) (is : List Nat) (ρ : OEnv) : freeze (i :: is) ρ = freeze is (freezeAt ρ i) := rfl
@[simp] theorem setsO_nil (ρ : OEnv) : setsO ρ [] = ρ := rfl
@[simp] theorem setsO_cons (b : Nat × PyData) (bs : List (Nat × PyData)) (ρ : OEnv) : setsO ρ (b :: bs) = setsO (ρ.set b.1 (some (.fz b.2))) bs := rfl
@[simp] theorem setsD_nil (ρ : PEnv) : setsD ρ [] = ρ := rfl
@[simp] theorem setsD_cons (b : Nat × PyData) (bs : List (Nat × PyData)) (ρ : PEnv) : setsD ρ (b :: bs) = setsD (ρ.set b.1 (some b.2)) bs := rfl
@[simp] theorem wipeD_nil (ρ : PEnv) : wipeD ρ [] = ρ := rfl
@[simp] theorem wipeD_cons (i : Nat) (is : List Nat) (ρ : PEnv) : wipeD ρ (i :: is) = (wipeD ρ is).set i none := rfl
@[simp] theorem viewF_nil : viewF [] = [] := rfl
@[simp] theorem viewF_none (ρ : OEnv) : viewF (none :: ρ) = none :: viewF ρ := rfl
@[simp] theorem viewF_fz (d : PyData) (ρ : OEnv) : viewF (some (.fz d) :: ρ) = some d :: viewF ρ := rfl
@[simp] theorem viewF_lst (xs : List O) (ρ : OEnv) : viewF (some (.lst xs) :: ρ) = none :: viewF ρ := rfl
@[simp] theorem viewB_nil : viewB [] = [] := rfl
@[simp] theorem viewB_none (ρ : OEnv) : viewB (none :: ρ) = none :: viewB ρ := rfl
@[simp] theorem viewB_some (o : O) (ρ : OEnv) : viewB (some o :: ρ) = some o.data :: viewB ρ := rfl
@[simp] theorem v2_ap (g : D → D → R D) (fa fb : PEnv → R D) (ρ : PEnv) : v2 g fa fb ρ = (fa ρ).bind fun d => (fb ρ).bind fun e => g d e := rfl
@[simp] theorem v1_ap (g : D → R D) (fa : PEnv → R D) (ρ : PEnv) : v1 g fa ρ = (fa ρ).bind g := rfl
@[simp] theorem vC_ap (d : D) (ρ : PEnv) : vC d ρ = .ok d := rfl
@[simp] theorem vnn_ap (f : PEnv → R PyData) (ρ : PEnv) : vnn f ρ = (f ρ).bind fun d => .ok (.bool (match d with | .none => false | _ => true)) := by
  unfold vnn v1 visnone
  generalize f ρ = r
  cases r with
  | stuck => rfl
  | err c => rfl
  | ok d => cases d <;> rfl
@[simp] theorem tnn_ap (f : PEnv → R PyData) (ρ : PEnv) : tnn f ρ = (f ρ).bind fun d => .ok (match d with | .none => false | _ => true) := by
  unfold tnn v1 visnone
  generalize f ρ = r
  cases r with
  | stuck => rfl
  | err c => rfl
  | ok d => cases d <;> rfl
@[simp] theorem tst_ap (f : PEnv → R PyData) (ρ : PEnv) : tst f ρ = (f ρ).bind tbool := rfl
@[simp] theorem ttr_ap (f : PEnv → R PyData) (ρ : PEnv) : ttr f ρ = (f ρ).bind vtruth := rfl
@[simp] theorem vpart_ap (f : PEnv → R PyData) (ρ : PEnv) : vpart f ρ = (f ρ).bind oInt := rfl
@[simp] theorem vnopart_ap (ρ : PEnv) : vnopart ρ = .ok none := rfl
@[simp] theorem oInt_int (i : Int) : oInt (.int i) = .ok (some i) := rfl
@[simp] theorem tbool_bool (b : Bool) : tbool (.bool b) = .ok b := rfl
@[simp] theorem tand_ap (f g : PEnv → R Bool) (ρ : PEnv) : tand f g ρ = (f ρ).bind fun b => if b then g ρ else .ok false := rfl
@[simp] theorem tor_ap (f g : PEnv → R Bool) (ρ : PEnv) : tor f g ρ = (f ρ).bind fun b => if b then .ok true else g ρ := rfl
@[simp] theorem tnot_ap (f : PEnv → R Bool) (ρ : PEnv) : tnot f ρ = (f ρ).bind fun b => .ok (!b) := rfl
@[simp] theorem tyes_ap (ρ : PEnv) : tyes ρ = .ok true := rfl
@[simp] theorem vif_ap (t : PEnv → R Bool) (f g : PEnv → R D) (ρ : PEnv) : vif t f g ρ = (t ρ).bind fun b => if b then f ρ else g ρ := rfl
@[simp] theorem vand_ap (f g : PEnv → R D) (ρ : PEnv) : vand f g ρ = (f ρ).bind fun d => (tbool d).bind fun b => if b then g ρ else .ok (.bool false) := rfl
@[simp] theorem vor_ap (f g : PEnv → R D) (ρ : PEnv) : vor f g ρ = (f ρ).bind fun d => (tbool d).bind fun b => if b then .ok (.bool true) else g ρ := rfl
@[simp] theorem vnot_ap (f : PEnv → R D) (ρ : PEnv) : vnot f ρ = (f ρ).bind fun d => (tbool d).bind fun b => .ok (.bool (!b)) := rfl
@[simp] theorem vchain_ap (g g' : D → D → R D) (fa fb fc : PEnv → R D) (ρ : PEnv) : vchain g g' fa fb fc ρ = (fa ρ).bind fun d => (fb ρ).bind fun e => (g d e).bind fun z => (tbool z).bind fun k => if k then (fc ρ).bind fun f => g' e f else .ok (.bool false) := rfl
@[simp] theorem aNil_ap (ρ : PEnv) : aNil ρ = .ok [] := rfl
@[simp] theorem aCons_ap (f : PEnv → R D) (g : PEnv → R (List D)) (ρ : PEnv) : aCons f g ρ = (f ρ).bind fun d => (g ρ).bind fun ds => .ok (d :: ds) := rfl
@[simp] theorem vtup_ap (g : PEnv → R (List D)) (ρ : PEnv) : vtup g ρ = (g ρ).bind fun ds => .ok (.tuple ds) := rfl
@[simp] theorem vlistOf_ap (g : PEnv → R (List D)) (ρ : PEnv) : vlistOf g ρ = (g ρ).bind fun ds => .ok (.list ds) := rfl
@[simp] theorem vapp_ap (g : List D → R D) (f : PEnv → R (List D)) (ρ : PEnv) : vapp g f ρ = (f ρ).bind g := rfl
@[simp] theorem vslice_ap (f : PEnv → R D) (l u : PEnv → R (Option Int)) (ρ : PEnv) : vslice f l u ρ = (f ρ).bind fun d => (l ρ).bind fun lo => (u ρ).bind fun hi => vcut lo hi d := rfl
@[simp] theorem x1_ap (g : PyData → R (List PyData)) (h : OEnv → R PyData) (ρ : OEnv) : x1 g h ρ = (h ρ).bind g := rfl
@[simp] theorem x2_ap (g : PyData → PyData → R (List PyData)) (h h' : OEnv → R PyData) (ρ : OEnv) : x2 g h h' ρ = (h ρ).bind fun d => (h' ρ).bind fun e => g d e := rfl
@[simp] theorem i1_ap (g : PyData → R (List PyData)) (h : PEnv → R PyData) (ρ : PEnv) : i1 g h ρ = (h ρ).bind g := rfl
@[simp] theorem i2_ap (g : PyData → PyData → R (List PyData)) (h h' : PEnv → R PyData) (ρ : PEnv) : i2 g h h' ρ = (h ρ).bind fun d => (h' ρ).bind fun e => g d e := rfl
@[simp] theorem isq_ap (h : PEnv → R PyData) (ρ : PEnv) : isq h ρ = (h ρ).bind seqD := rfl
@[simp] theorem seqD_list (xs : List PyData) : seqD (.list xs) = .ok xs := rfl
@[simp] theorem seqD_tuple (xs : List PyData) : seqD (.tuple xs) = .ok xs := rfl
@[simp] theorem gN_ap (i : Nat) (d : PyData) : gN i d = .ok [(i, d)] := rfl
@[simp] theorem calm_okk {α : Type} (a : α) : (R.ok a).calm = .ok a := rfl
@[simp] theorem calm_ite {α : Type} (p : Prop) [Decidable p] (a b : R α) : (if p then a else b).calm = if p then a.calm else b.calm := by split <;> rfl

@[simp] theorem vadd_int (a b : Int) : vadd (.int a) (.int b) = .ok (.int (a + b)) := rfl
@[simp] theorem vsub_int (a b : Int) : vsub (.int a) (.int b) = .ok (.int (a - b)) := rfl
@[simp] theorem vlt_int (a b : Int) : vlt (.int a) (.int b) = .ok (.bool (decide (a < b))) := rfl
@[simp] theorem vle_int (a b : Int) : vle (.int a) (.int b) = .ok (.bool (decide (a ≤ b))) := rfl
@[simp] theorem vgt_int (a b : Int) : vgt (.int a) (.int b) = .ok (.bool (decide (b < a))) := rfl
@[simp] theorem vge_int (a b : Int) : vge (.int a) (.int b) = .ok (.bool (decide (b ≤ a))) := rfl
@[simp] theorem vneg_int (a : Int) : vneg (.int a) = .ok (.int (-a)) := rfl
theorem vmul_int {a b : Int} (h : IntMulOk a b) : vmul (.int a) (.int b) = .ok (.int (a * b)) := if_pos h
@[simp] theorem vfdiv_int {a b : Int} (h : 0 < b ∧ b < 2 ^ 250) : vfdiv (.int a) (.int b) = .ok (.int (a / b)) := if_pos h
@[simp] theorem vmod_int (a b : Int) : vmod (.int a) (.int b) = if 0 < b then .ok (.int (a % b)) else .stuck := rfl
@[simp] theorem vpow_int {a b : Int} (h : 0 ≤ b ∧ b ≤ 1000 ∧ a.natAbs < 2 ^ 64) : vpow (.int a) (.int b) = .ok (.int (a ^ b.toNat)) := if_pos h
@[simp] theorem veq_int (a b : Int) : veq (.int a) (.int b) = .ok (.bool (decide (a = b))) := by
  unfold veq vEq; simp [SeqAt.shaped, PyData.canLay0, PyData.depth, PyData.eqv, Bool.beq_eq_decide_eq]
@[simp] theorem vne_int (a b : Int) : vne (.int a) (.int b) = .ok (.bool (!decide (a = b))) := by
  unfold vne vEq; simp [SeqAt.shaped, PyData.canLay0, PyData.depth, PyData.eqv, Bool.beq_eq_decide_eq]
theorem veq_str {a b : Str} (ha : PyData.strOk a = true) (hb : PyData.strOk b = true) : veq (.str a) (.str b) = .ok (.bool (decide (a = b))) := by
  unfold veq vEq; simp [SeqAt.shaped, PyData.canLay0, PyData.depth, PyData.eqv, ha, hb, Bool.beq_eq_decide_eq]
theorem vne_str {a b : Str} (ha : PyData.strOk a = true) (hb : PyData.strOk b = true) : vne (.str a) (.str b) = .ok (.bool (!decide (a = b))) := by
  unfold vne vEq; simp [SeqAt.shaped, PyData.canLay0, PyData.depth, PyData.eqv, ha, hb, Bool.beq_eq_decide_eq]
@[simp] theorem veq_bool (a b : Bool) : veq (.bool a) (.bool b) = .ok (.bool (decide (a = b))) := by
  unfold veq vEq; simp [SeqAt.shaped, PyData.canLay0, PyData.depth, PyData.eqv, Bool.beq_eq_decide_eq]
@[simp] theorem vne_bool (a b : Bool) : vne (.bool a) (.bool b) = .ok (.bool (!decide (a = b))) := by
  unfold vne vEq; simp [SeqAt.shaped, PyData.canLay0, PyData.depth, PyData.eqv, Bool.beq_eq_decide_eq]
@[simp] theorem vint1_int (a : Int) : vint1 [.int a] = .ok (.int a) := rfl
@[simp] theorem vint1_bool (a : Bool) : vint1 [.bool a] = .ok (.int (if a then 1 else 0)) := rfl
@[simp] theorem vabs_int (a : Int) : vabs [.int a] = .ok (.int (if a < 0 then -a else a)) := rfl
@[simp] theorem vlen_list (a : List PyData) : vlen [.list a] = .ok (.int a.length) := rfl
@[simp] theorem vlen_tuple (a : List PyData) : vlen [.tuple a] = .ok (.int a.length) := rfl
@[simp] theorem vtuple1_list (a : List PyData) : vtuple1 [.list a] = .ok (.tuple a) := rfl
@[simp] theorem vtuple1_tuple (a : List PyData) : vtuple1 [.tuple a] = .ok (.tuple a) := rfl
@[simp] theorem vlist1_list (a : List PyData) : vlist1 [.list a] = .ok (.list a) := rfl
@[simp] theorem vlist1_tuple (a : List PyData) : vlist1 [.tuple a] = .ok (.list a) := rfl
@[simp] theorem vmax_two (i j : Int) : vmax [.int i, .int j] = .ok (.int (if j > i then j else i)) := rfl
@[simp] theorem vmin_two (i j : Int) : vmin [.int i, .int j] = .ok (.int (if j < i then j else i)) := rfl
@[simp] theorem vtruth_int (i : Int) : vtruth (.int i) = .ok (i != 0) := rfl
@[simp] theorem vtruth_bool (i : Bool) : vtruth (.bool i) = .ok i := rfl
@[simp] theorem vtruth_none : vtruth .none = .ok false := rfl
@[simp] theorem vtruth_list (i : List PyData) : vtruth (.list i) = .ok (!i.isEmpty) := rfl
@[simp] theorem vtruth_tuple (i : List PyData) : vtruth (.tuple i) = .ok (!i.isEmpty) := rfl
@[simp] theorem visnone_none : visnone .none = .ok (.bool true) := rfl
@[simp] theorem visnone_bool (b : Bool) : visnone (.bool b) = .ok (.bool false) := rfl
@[simp] theorem visnone_int (b : Int) : visnone (.int b) = .ok (.bool false) := rfl
@[simp] theorem visnone_str (b : Str) : visnone (.str b) = .ok (.bool false) := rfl
@[simp] theorem visnone_list (b : List PyData) : visnone (.list b) = .ok (.bool false) := rfl
@[simp] theorem visnone_tuple (b : List PyData) : visnone (.tuple b) = .ok (.bool false) := rfl
@[simp] theorem vrange1_int (j : Int) : vrange1 (.int j) = if rngOk 0 j then .ok (rangeD 0 j.toNat) else .stuck := rfl
@[simp] theorem vrange2_int (i j : Int) : vrange2 (.int i) (.int j) = if rngOk i j then .ok (rangeD i (j - i).toNat) else .stuck := rfl
@[simp] theorem venum_list (xs : List PyData) : venum (.list xs) = .ok (enumD xs) := rfl
@[simp] theorem vzip_list (xs ys : List PyData) : vzip (.list xs) (.list ys) = .ok (zipD xs ys) := rfl
@[simp] theorem vrev_list (xs : List PyData) : vrev (.list xs) = .ok xs.reverse := rfl
@[simp] theorem visi_int_none  : visi "int" .none = .ok (.bool false) := rfl
@[simp] theorem visi_int_bool (b : Bool) : visi "int" (.bool b) = .ok (.bool true) := rfl
@[simp] theorem visi_int_int (b : Int) : visi "int" (.int b) = .ok (.bool true) := rfl
@[simp] theorem visi_int_str (b : Str) : visi "int" (.str b) = .ok (.bool false) := rfl
@[simp] theorem visi_int_list (b : List PyData) : visi "int" (.list b) = .ok (.bool false) := rfl
@[simp] theorem visi_int_tuple (b : List PyData) : visi "int" (.tuple b) = .ok (.bool false) := rfl
@[simp] theorem visi_bool_none  : visi "bool" .none = .ok (.bool false) := rfl
@[simp] theorem visi_bool_bool (b : Bool) : visi "bool" (.bool b) = .ok (.bool true) := rfl
@[simp] theorem visi_bool_int (b : Int) : visi "bool" (.int b) = .ok (.bool false) := rfl
@[simp] theorem visi_bool_str (b : Str) : visi "bool" (.str b) = .ok (.bool false) := rfl
@[simp] theorem visi_bool_list (b : List PyData) : visi "bool" (.list b) = .ok (.bool false) := rfl
@[simp] theorem visi_bool_tuple (b : List PyData) : visi "bool" (.tuple b) = .ok (.bool false) := rfl
@[simp] theorem visi_str_none  : visi "str" .none = .ok (.bool false) := rfl
@[simp] theorem visi_str_bool (b : Bool) : visi "str" (.bool b) = .ok (.bool false) := rfl
@[simp] theorem visi_str_int (b : Int) : visi "str" (.int b) = .ok (.bool false) := rfl
@[simp] theorem visi_str_str (b : Str) : visi "str" (.str b) = .ok (.bool true) := rfl
@[simp] theorem visi_str_list (b : List PyData) : visi "str" (.list b) = .ok (.bool false) := rfl
@[simp] theorem visi_str_tuple (b : List PyData) : visi "str" (.tuple b) = .ok (.bool false) := rfl
@[simp] theorem visi_list_none  : visi "list" .none = .ok (.bool false) := rfl
@[simp] theorem visi_list_bool (b : Bool) : visi "list" (.bool b) = .ok (.bool false) := rfl
@[simp] theorem visi_list_int (b : Int) : visi "list" (.int b) = .ok (.bool false) := rfl
@[simp] theorem visi_list_str (b : Str) : visi "list" (.str b) = .ok (.bool false) := rfl
@[simp] theorem visi_list_list (b : List PyData) : visi "list" (.list b) = .ok (.bool true) := rfl
@[simp] theorem visi_list_tuple (b : List PyData) : visi "list" (.tuple b) = .ok (.bool false) := rfl
@[simp] theorem visi_tuple_none  : visi "tuple" .none = .ok (.bool false) := rfl
@[simp] theorem visi_tuple_bool (b : Bool) : visi "tuple" (.bool b) = .ok (.bool false) := rfl
@[simp] theorem visi_tuple_int (b : Int) : visi "tuple" (.int b) = .ok (.bool false) := rfl
@[simp] theorem visi_tuple_str (b : Str) : visi "tuple" (.str b) = .ok (.bool false) := rfl
@[simp] theorem visi_tuple_list (b : List PyData) : visi "tuple" (.list b) = .ok (.bool false) := rfl
@[simp] theorem visi_tuple_tuple (b : List PyData) : visi "tuple" (.tuple b) = .ok (.bool true) := rfl
@[simp] theorem vVar_0 (d : PyData) (ρ : PEnv) : vVar 0 (some d :: ρ) = .ok d := rfl
@[simp] theorem vVar_1 (x0 : Option PyData) (d : PyData) (ρ : PEnv) : vVar 1 (x0 :: some d :: ρ) = .ok d := rfl
@[simp] theorem vVar_2 (x0 x1 : Option PyData) (d : PyData) (ρ : PEnv) : vVar 2 (x0 :: x1 :: some d :: ρ) = .ok d := rfl
@[simp] theorem vVar_3 (x0 x1 x2 : Option PyData) (d : PyData) (ρ : PEnv) : vVar 3 (x0 :: x1 :: x2 :: some d :: ρ) = .ok d := rfl
@[simp] theorem vVar_4 (x0 x1 x2 x3 : Option PyData) (d : PyData) (ρ : PEnv) : vVar 4 (x0 :: x1 :: x2 :: x3 :: some d :: ρ) = .ok d := rfl
@[simp] theorem vVar_5 (x0 x1 x2 x3 x4 : Option PyData) (d : PyData) (ρ : PEnv) : vVar 5 (x0 :: x1 :: x2 :: x3 :: x4 :: some d :: ρ) = .ok d := rfl
@[simp] theorem vVar_6 (x0 x1 x2 x3 x4 x5 : Option PyData) (d : PyData) (ρ : PEnv) : vVar 6 (x0 :: x1 :: x2 :: x3 :: x4 :: x5 :: some d :: ρ) = .ok d := rfl
@[simp] theorem vVar_7 (x0 x1 x2 x3 x4 x5 x6 : Option PyData) (d : PyData) (ρ : PEnv) : vVar 7 (x0 :: x1 :: x2 :: x3 :: x4 :: x5 :: x6 :: some d :: ρ) = .ok d := rfl
@[simp] theorem vVar_8 (x0 x1 x2 x3 x4 x5 x6 x7 : Option PyData) (d : PyData) (ρ : PEnv) : vVar 8 (x0 :: x1 :: x2 :: x3 :: x4 :: x5 :: x6 :: x7 :: some d :: ρ) = .ok d := rfl
@[simp] theorem vVar_9 (x0 x1 x2 x3 x4 x5 x6 x7 x8 : Option PyData) (d : PyData) (ρ : PEnv) : vVar 9 (x0 :: x1 :: x2 :: x3 :: x4 :: x5 :: x6 :: x7 :: x8 :: some d :: ρ) = .ok d := rfl
@[simp] theorem vVar_10 (x0 x1 x2 x3 x4 x5 x6 x7 x8 x9 : Option PyData) (d : PyData) (ρ : PEnv) : vVar 10 (x0 :: x1 :: x2 :: x3 :: x4 :: x5 :: x6 :: x7 :: x8 :: x9 :: some d :: ρ) = .ok d := rfl
@[simp] theorem vVar_11 (x0 x1 x2 x3 x4 x5 x6 x7 x8 x9 x10 : Option PyData) (d : PyData) (ρ : PEnv) : vVar 11 (x0 :: x1 :: x2 :: x3 :: x4 :: x5 :: x6 :: x7 :: x8 :: x9 :: x10 :: some d :: ρ) = .ok d := rfl
@[simp] theorem vVar_12 (x0 x1 x2 x3 x4 x5 x6 x7 x8 x9 x10 x11 : Option PyData) (d : PyData) (ρ : PEnv) : vVar 12 (x0 :: x1 :: x2 :: x3 :: x4 :: x5 :: x6 :: x7 :: x8 :: x9 :: x10 :: x11 :: some d :: ρ) = .ok d := rfl
@[simp] theorem vVar_13 (x0 x1 x2 x3 x4 x5 x6 x7 x8 x9 x10 x11 x12 : Option PyData) (d : PyData) (ρ : PEnv) : vVar 13 (x0 :: x1 :: x2 :: x3 :: x4 :: x5 :: x6 :: x7 :: x8 :: x9 :: x10 :: x11 :: x12 :: some d :: ρ) = .ok d := rfl
@[simp] theorem vVar_14 (x0 x1 x2 x3 x4 x5 x6 x7 x8 x9 x10 x11 x12 x13 : Option PyData) (d : PyData) (ρ : PEnv) : vVar 14 (x0 :: x1 :: x2 :: x3 :: x4 :: x5 :: x6 :: x7 :: x8 :: x9 :: x10 :: x11 :: x12 :: x13 :: some d :: ρ) = .ok d := rfl
@[simp] theorem vVar_15 (x0 x1 x2 x3 x4 x5 x6 x7 x8 x9 x10 x11 x12 x13 x14 : Option PyData) (d : PyData) (ρ : PEnv) : vVar 15 (x0 :: x1 :: x2 :: x3 :: x4 :: x5 :: x6 :: x7 :: x8 :: x9 :: x10 :: x11 :: x12 :: x13 :: x14 :: some d :: ρ) = .ok d := rfl
@[simp] theorem vVar_16 (x0 x1 x2 x3 x4 x5 x6 x7 x8 x9 x10 x11 x12 x13 x14 x15 : Option PyData) (d : PyData) (ρ : PEnv) : vVar 16 (x0 :: x1 :: x2 :: x3 :: x4 :: x5 :: x6 :: x7 :: x8 :: x9 :: x10 :: x11 :: x12 :: x13 :: x14 :: x15 :: some d :: ρ) = .ok d := rfl
@[simp] theorem vVar_17 (x0 x1 x2 x3 x4 x5 x6 x7 x8 x9 x10 x11 x12 x13 x14 x15 x16 : Option PyData) (d : PyData) (ρ : PEnv) : vVar 17 (x0 :: x1 :: x2 :: x3 :: x4 :: x5 :: x6 :: x7 :: x8 :: x9 :: x10 :: x11 :: x12 :: x13 :: x14 :: x15 :: x16 :: some d :: ρ) = .ok d := rfl
@[simp] theorem vVar_18 (x0 x1 x2 x3 x4 x5 x6 x7 x8 x9 x10 x11 x12 x13 x14 x15 x16 x17 : Option PyData) (d : PyData) (ρ : PEnv) : vVar 18 (x0 :: x1 :: x2 :: x3 :: x4 :: x5 :: x6 :: x7 :: x8 :: x9 :: x10 :: x11 :: x12 :: x13 :: x14 :: x15 :: x16 :: x17 :: some d :: ρ) = .ok d := rfl
@[simp] theorem vVar_19 (x0 x1 x2 x3 x4 x5 x6 x7 x8 x9 x10 x11 x12 x13 x14 x15 x16 x17 x18 : Option PyData) (d : PyData) (ρ : PEnv) : vVar 19 (x0 :: x1 :: x2 :: x3 :: x4 :: x5 :: x6 :: x7 :: x8 :: x9 :: x10 :: x11 :: x12 :: x13 :: x14 :: x15 :: x16 :: x17 :: x18 :: some d :: ρ) = .ok d := rfl
@[simp] theorem vVar_20 (x0 x1 x2 x3 x4 x5 x6 x7 x8 x9 x10 x11 x12 x13 x14 x15 x16 x17 x18 x19 : Option PyData) (d : PyData) (ρ : PEnv) : vVar 20 (x0 :: x1 :: x2 :: x3 :: x4 :: x5 :: x6 :: x7 :: x8 :: x9 :: x10 :: x11 :: x12 :: x13 :: x14 :: x15 :: x16 :: x17 :: x18 :: x19 :: some d :: ρ) = .ok d := rfl
@[simp] theorem vVar_21 (x0 x1 x2 x3 x4 x5 x6 x7 x8 x9 x10 x11 x12 x13 x14 x15 x16 x17 x18 x19 x20 : Option PyData) (d : PyData) (ρ : PEnv) : vVar 21 (x0 :: x1 :: x2 :: x3 :: x4 :: x5 :: x6 :: x7 :: x8 :: x9 :: x10 :: x11 :: x12 :: x13 :: x14 :: x15 :: x16 :: x17 :: x18 :: x19 :: x20 :: some d :: ρ) = .ok d := rfl
@[simp] theorem vVar_22 (x0 x1 x2 x3 x4 x5 x6 x7 x8 x9 x10 x11 x12 x13 x14 x15 x16 x17 x18 x19 x20 x21 : Option PyData) (d : PyData) (ρ : PEnv) : vVar 22 (x0 :: x1 :: x2 :: x3 :: x4 :: x5 :: x6 :: x7 :: x8 :: x9 :: x10 :: x11 :: x12 :: x13 :: x14 :: x15 :: x16 :: x17 :: x18 :: x19 :: x20 :: x21 :: some d :: ρ) = .ok d := rfl
@[simp] theorem vVar_23 (x0 x1 x2 x3 x4 x5 x6 x7 x8 x9 x10 x11 x12 x13 x14 x15 x16 x17 x18 x19 x20 x21 x22 : Option PyData) (d : PyData) (ρ : PEnv) : vVar 23 (x0 :: x1 :: x2 :: x3 :: x4 :: x5 :: x6 :: x7 :: x8 :: x9 :: x10 :: x11 :: x12 :: x13 :: x14 :: x15 :: x16 :: x17 :: x18 :: x19 :: x20 :: x21 :: x22 :: some d :: ρ) = .ok d := rfl
@[simp] theorem vVar_24 (x0 x1 x2 x3 x4 x5 x6 x7 x8 x9 x10 x11 x12 x13 x14 x15 x16 x17 x18 x19 x20 x21 x22 x23 : Option PyData) (d : PyData) (ρ : PEnv) : vVar 24 (x0 :: x1 :: x2 :: x3 :: x4 :: x5 :: x6 :: x7 :: x8 :: x9 :: x10 :: x11 :: x12 :: x13 :: x14 :: x15 :: x16 :: x17 :: x18 :: x19 :: x20 :: x21 :: x22 :: x23 :: some d :: ρ) = .ok d := rfl
@[simp] theorem vVar_25 (x0 x1 x2 x3 x4 x5 x6 x7 x8 x9 x10 x11 x12 x13 x14 x15 x16 x17 x18 x19 x20 x21 x22 x23 x24 : Option PyData) (d : PyData) (ρ : PEnv) : vVar 25 (x0 :: x1 :: x2 :: x3 :: x4 :: x5 :: x6 :: x7 :: x8 :: x9 :: x10 :: x11 :: x12 :: x13 :: x14 :: x15 :: x16 :: x17 :: x18 :: x19 :: x20 :: x21 :: x22 :: x23 :: x24 :: some d :: ρ) = .ok d := rfl
@[simp] theorem vVar_26 (x0 x1 x2 x3 x4 x5 x6 x7 x8 x9 x10 x11 x12 x13 x14 x15 x16 x17 x18 x19 x20 x21 x22 x23 x24 x25 : Option PyData) (d : PyData) (ρ : PEnv) : vVar 26 (x0 :: x1 :: x2 :: x3 :: x4 :: x5 :: x6 :: x7 :: x8 :: x9 :: x10 :: x11 :: x12 :: x13 :: x14 :: x15 :: x16 :: x17 :: x18 :: x19 :: x20 :: x21 :: x22 :: x23 :: x24 :: x25 :: some d :: ρ) = .ok d := rfl
@[simp] theorem vVar_27 (x0 x1 x2 x3 x4 x5 x6 x7 x8 x9 x10 x11 x12 x13 x14 x15 x16 x17 x18 x19 x20 x21 x22 x23 x24 x25 x26 : Option PyData) (d : PyData) (ρ : PEnv) : vVar 27 (x0 :: x1 :: x2 :: x3 :: x4 :: x5 :: x6 :: x7 :: x8 :: x9 :: x10 :: x11 :: x12 :: x13 :: x14 :: x15 :: x16 :: x17 :: x18 :: x19 :: x20 :: x21 :: x22 :: x23 :: x24 :: x25 :: x26 :: some d :: ρ) = .ok d := rfl
@[simp] theorem vVar_28 (x0 x1 x2 x3 x4 x5 x6 x7 x8 x9 x10 x11 x12 x13 x14 x15 x16 x17 x18 x19 x20 x21 x22 x23 x24 x25 x26 x27 : Option PyData) (d : PyData) (ρ : PEnv) : vVar 28 (x0 :: x1 :: x2 :: x3 :: x4 :: x5 :: x6 :: x7 :: x8 :: x9 :: x10 :: x11 :: x12 :: x13 :: x14 :: x15 :: x16 :: x17 :: x18 :: x19 :: x20 :: x21 :: x22 :: x23 :: x24 :: x25 :: x26 :: x27 :: some d :: ρ) = .ok d := rfl
@[simp] theorem vVar_29 (x0 x1 x2 x3 x4 x5 x6 x7 x8 x9 x10 x11 x12 x13 x14 x15 x16 x17 x18 x19 x20 x21 x22 x23 x24 x25 x26 x27 x28 : Option PyData) (d : PyData) (ρ : PEnv) : vVar 29 (x0 :: x1 :: x2 :: x3 :: x4 :: x5 :: x6 :: x7 :: x8 :: x9 :: x10 :: x11 :: x12 :: x13 :: x14 :: x15 :: x16 :: x17 :: x18 :: x19 :: x20 :: x21 :: x22 :: x23 :: x24 :: x25 :: x26 :: x27 :: x28 :: some d :: ρ) = .ok d := rfl
/-! ### sizes of ints -/
def Sm (n : Nat) (a : Int) : Prop := a.natAbs < 2 ^ n
theorem Sm.mono {m n : Nat} {a : Int} (h : Sm m a) (l : m ≤ n) : Sm n a := Nat.lt_of_lt_of_le h (Nat.pow_le_pow_right (by omega) l)
theorem Sm.neg {n : Nat} {a : Int} (h : Sm n a) : Sm n (-a) := by unfold Sm at *; rw [Int.natAbs_neg]; exact h
theorem Sm.add {m : Nat} {a b : Int} (h : Sm m a) (g : Sm m b) : Sm (m + 1) (a + b) := by
  unfold Sm at *
  rw [Nat.pow_succ]
  have := Int.natAbs_add_le a b
  omega
theorem Sm.sub {m : Nat} {a b : Int} (h : Sm m a) (g : Sm m b) : Sm (m + 1) (a - b) := by
  rw [Int.sub_eq_add_neg]; exact h.add g.neg
theorem Sm.mul {m n : Nat} {a b : Int} (h : Sm m a) (g : Sm n b) : Sm (m + n) (a * b) := by
  unfold Sm at *
  rw [Int.natAbs_mul, Nat.pow_add]
  exact Nat.mul_lt_mul'' h g
theorem Sm.bits {n : Nat} {a : Int} (h : Sm n a) : Builtin.Int.intBits a ≤ n := by
  unfold Builtin.Int.intBits
  split
  · omega
  · rename_i h0
    have h1 : a.natAbs ≠ 0 := fun z => h0 (by simp; omega)
    have := (Nat.log2_lt h1).mpr h
    omega
theorem Sm.mulOk {m n : Nat} {a b : Int} (h : Sm m a) (g : Sm n b) (l : m + n ≤ 134217728 := by decide) : IntMulOk a b := by
  have h1 := h.bits
  have h2 := g.bits
  unfold IntMulOk Builtin.Int.intTooBig
  intro z
  rw [Bool.and_eq_true] at z
  have z2 := of_decide_eq_true z.2
  have : (bitsLine : Int) = 134217728 := by unfold bitsLine; decide
  omega
theorem vmul_sm {m n : Nat} {a b : Int} (h : Sm m a) (g : Sm n b) (l : m + n ≤ 134217728 := by decide) : vmul (.int a) (.int b) = .ok (.int (a * b)) := vmul_int (h.mulOk g l)
end VL

namespace VL
open PySem PySem.Spec PyProof.Rows
/-! ### items -/
theorem atI_nat {α : Type} (xs : List α) (k : Nat) : L2.atI xs (k : Int) = xs[k]? := by
  unfold L2.atI L2.ixN
  by_cases h : k < xs.length
  · simp [h]
  · simp [h]
theorem vidx_list {xs : List PyData} {k : Nat} {d : PyData} (h : xs[k]? = some d) : vidx (.list xs) (.int (k : Int)) = .ok d := by
  simp only [vidx, atI_nat, h]
theorem vidx_tuple {xs : List PyData} {k : Nat} {d : PyData} (h : xs[k]? = some d) : vidx (.tuple xs) (.int (k : Int)) = .ok d := by
  simp only [vidx, atI_nat, h]
@[simp] theorem vidx_list_0 (a : PyData) (xs : List PyData) : vidx (.list (a :: xs)) (.int 0) = .ok a := vidx_list (k := 0) rfl
@[simp] theorem vidx_list_1 (a b : PyData) (xs : List PyData) : vidx (.list (a :: b :: xs)) (.int 1) = .ok b := vidx_list (k := 1) rfl
@[simp] theorem vidx_list_2 (a b c : PyData) (xs : List PyData) : vidx (.list (a :: b :: c :: xs)) (.int 2) = .ok c := vidx_list (k := 2) rfl
@[simp] theorem vidx_list_3 (a b c d : PyData) (xs : List PyData) : vidx (.list (a :: b :: c :: d :: xs)) (.int 3) = .ok d := vidx_list (k := 3) rfl
@[simp] theorem vidx_list_4 (a b c d e : PyData) (xs : List PyData) : vidx (.list (a :: b :: c :: d :: e :: xs)) (.int 4) = .ok e := vidx_list (k := 4) rfl
@[simp] theorem vidx_list_5 (a b c d e f : PyData) (xs : List PyData) : vidx (.list (a :: b :: c :: d :: e :: f :: xs)) (.int 5) = .ok f := vidx_list (k := 5) rfl
@[simp] theorem vidx_tuple_0 (a : PyData) (xs : List PyData) : vidx (.tuple (a :: xs)) (.int 0) = .ok a := vidx_tuple (k := 0) rfl
@[simp] theorem vidx_tuple_1 (a b : PyData) (xs : List PyData) : vidx (.tuple (a :: b :: xs)) (.int 1) = .ok b := vidx_tuple (k := 1) rfl
@[simp] theorem vidx_tuple_2 (a b c : PyData) (xs : List PyData) : vidx (.tuple (a :: b :: c :: xs)) (.int 2) = .ok c := vidx_tuple (k := 2) rfl
@[simp] theorem vidx_tuple_3 (a b c d : PyData) (xs : List PyData) : vidx (.tuple (a :: b :: c :: d :: xs)) (.int 3) = .ok d := vidx_tuple (k := 3) rfl
@[simp] theorem vidx_tuple_4 (a b c d e : PyData) (xs : List PyData) : vidx (.tuple (a :: b :: c :: d :: e :: xs)) (.int 4) = .ok e := vidx_tuple (k := 4) rfl
/-! ### loops -/
theorem forL_nx {kt : PyData → R (List (Nat × PyData))} {kl : OEnv → OEnv} {gb : OEnv → SR} (P : Nat → OEnv → Prop) : ∀ (ds : List PyData) (j : Nat) (ρ : OEnv), P j ρ →
    (∀ i d ρ, ds[i]? = some d → P (j + i) ρ → ∃ bs ρ', kt d = .ok bs ∧ (gb (setsO ρ bs) = .nx ρ' ∨ gb (setsO ρ bs) = .ct ρ') ∧ P (j + i + 1) (kl ρ')) → ∃ ρ', forL kt kl gb ds ρ = .nx ρ' ∧ P (j + ds.length) ρ'
  | [], j, ρ, h, _ => ⟨ρ, rfl, h⟩
  | d :: ds, j, ρ, h, hs => by
    obtain ⟨bs, ρ', h1, h2, h3⟩ := hs 0 d ρ rfl h
    obtain ⟨ρ2, h4, h5⟩ := forL_nx P ds (j + 1) (kl ρ') h3 fun i d' ρ' hd hp => by
      have := hs (i + 1) d' ρ' (by simpa using hd) (by rw [show j + (i + 1) = j + 1 + i by omega]; exact hp)
      rw [show j + (i + 1) = j + 1 + i by omega] at this
      exact this
    refine ⟨ρ2, ?_, by rw [List.length_cons, show j + (ds.length + 1) = j + 1 + ds.length by omega]; exact h5⟩
    unfold forL
    rw [h1]
    rcases h2 with h2 | h2 <;> (simp only [h2]; exact h4)
theorem rangeD_get {lo : Int} {n i : Nat} {d : PyData} (h : (rangeD lo n)[i]? = some d) : i < n ∧ d = .int (lo + (i : Int)) := by
  have hi : i < n := by
    obtain ⟨q, _⟩ := List.getElem?_eq_some_iff.mp h
    rw [rangeD_len] at q; exact q
  rw [rangeD_at hi] at h
  cases h
  exact ⟨hi, rfl⟩
theorem rngOk_nat {n : Nat} (h : n ≤ 16777216) : rngOk 0 (n : Int) := by unfold rngOk; omega
@[simp] theorem vrange1_nat {n : Nat} (h : n ≤ 16777216) : vrange1 (.int (n : Int)) = .ok (rangeD 0 n) := by
  rw [vrange1_int, if_pos (rngOk_nat h)]; simp
theorem vmul_r {a b : Int} (h : Sm 64 b) : vmul (.int a) (.int b) = .ok (.int (a * b)) := vmul_int (IntMulOk.of_right h.bits)
theorem vmul_l {a b : Int} (h : Sm 64 a) : vmul (.int a) (.int b) = .ok (.int (a * b)) := vmul_int (IntMulOk.of_left h.bits)
theorem sm_of {n : Nat} {a : Int} (h : -(2 ^ n : Int) < a ∧ a < 2 ^ n) : Sm n a := by
  unfold Sm
  have e : ((2 ^ n : Nat) : Int) = 2 ^ n := by simp
  omega
theorem Sm.lit {n : Nat} {a : Int} (h : a.natAbs < 2 ^ n := by decide) : Sm n a := h
theorem szL : sizeLine = 16777216 := by with_unfolding_all rfl
end VL

namespace VL
open PySem PySem.Spec PyProof.Rows
@[simp] theorem gT_ap (k : List PyData → R (List (Nat × PyData))) (xs : List PyData) : gT k (.tuple xs) = k xs := rfl
@[simp] theorem gT_apL (k : List PyData → R (List (Nat × PyData))) (xs : List PyData) : gT k (.list xs) = k xs := rfl
@[simp] theorem gC_ap (g : PyData → R (List (Nat × PyData))) (h : List PyData → R (List (Nat × PyData))) (d : PyData) (ds : List PyData) : gC g h (d :: ds) = (g d).bind fun bs => (h ds).bind fun cs => .ok (bs ++ cs) := rfl
@[simp] theorem gE_ap : gE [] = .ok [] := rfl
/-! ### bounds found by instances -/
class Bd (a : Int) (n : outParam Nat) : Prop where
  h : Sm n a
instance bd_add {a b : Int} {m n : Nat} [ha : Bd a m] [hb : Bd b n] : Bd (a + b) (max m n + 1) := ⟨(ha.h.mono (Nat.le_max_left m n)).add (hb.h.mono (Nat.le_max_right m n))⟩
instance bd_sub {a b : Int} {m n : Nat} [ha : Bd a m] [hb : Bd b n] : Bd (a - b) (max m n + 1) := ⟨(ha.h.mono (Nat.le_max_left m n)).sub (hb.h.mono (Nat.le_max_right m n))⟩
instance bd_mul {a b : Int} {m n : Nat} [ha : Bd a m] [hb : Bd b n] : Bd (a * b) (m + n) := ⟨ha.h.mul hb.h⟩
instance bd_neg {a : Int} {m : Nat} [ha : Bd a m] : Bd (-a) m := ⟨ha.h.neg⟩
instance bd_ite {p : Prop} [Decidable p] {a b : Int} {m n : Nat} [ha : Bd a m] [hb : Bd b n] : Bd (if p then a else b) (max m n) := ⟨by
  split
  · exact ha.h.mono (Nat.le_max_left m n)
  · exact hb.h.mono (Nat.le_max_right m n)⟩
theorem bd_modl {a k : Int} {n : Nat} (h0 : 0 < k) (h : k < 2 ^ n) : Bd (a % k) n := ⟨by
  have a1 := Int.emod_nonneg a (b := k) (by omega)
  have a2 := Int.emod_lt_of_pos a h0
  exact sm_of ⟨by omega, by omega⟩⟩
@[simp] theorem vmul_bd {a b : Int} {m n : Nat} [ha : Bd a m] [hb : Bd b n] (h : m + n ≤ 134217728) : vmul (.int a) (.int b) = .ok (.int (a * b)) := vmul_sm ha.h hb.h h
theorem pick3 (x : Int) (P : PyData → Prop) {a b c : PyData} (ha : P a) (hb : P b) (hc : P c) : ∃ d, P d ∧ vidx (.list [a, b, c]) (.int (x % 3)) = .ok d := by
  have h1 := Int.emod_nonneg x (b := 3) (by omega)
  have h2 := Int.emod_lt_of_pos x (b := 3) (by omega)
  generalize x % 3 = y at h1 h2
  obtain rfl | rfl | rfl : y = 0 ∨ y = 1 ∨ y = 2 := by omega
  · exact ⟨a, ha, by simp⟩
  · exact ⟨b, hb, by simp⟩
  · exact ⟨c, hc, by simp⟩
theorem pick4 (x : Int) (P : PyData → Prop) {a b c e : PyData} (ha : P a) (hb : P b) (hc : P c) (he : P e) : ∃ d, P d ∧ vidx (.list [a, b, c, e]) (.int (x % 4)) = .ok d := by
  have h1 := Int.emod_nonneg x (b := 4) (by omega)
  have h2 := Int.emod_lt_of_pos x (b := 4) (by omega)
  generalize x % 4 = y at h1 h2
  obtain rfl | rfl | rfl | rfl : y = 0 ∨ y = 1 ∨ y = 2 ∨ y = 3 := by omega
  · exact ⟨a, ha, by simp⟩
  · exact ⟨b, hb, by simp⟩
  · exact ⟨c, hc, by simp⟩
  · exact ⟨e, he, by simp⟩
end VL

namespace VL
open PySem PySem.Spec PyProof.Rows
/-- data of a depth: no dict, texts and lists of a size -/
def okS : Nat → PyData → Prop
  | 0, _ => False
  | _ + 1, .none => True
  | _ + 1, .bool _ => True
  | _ + 1, .int _ => True
  | _ + 1, .str s => PyData.strOk s = true
  | n + 1, .list xs => xs.length ≤ 16777216 ∧ ∀ x ∈ xs, okS n x
  | n + 1, .tuple xs => xs.length ≤ 16777216 ∧ ∀ x ∈ xs, okS n x
  | _ + 1, .dict _ => False
theorem all_lay {n : Nat} (ih : ∀ {d : PyData}, okS n d → d.canLay0 = true ∧ d.depth ≤ n ∧ PyData.eqv d d = true) : ∀ ys : List PyData, (∀ x ∈ ys, okS n x) → PyData.canLayAll0 ys = true ∧ PyData.depthAll ys ≤ n ∧ PyData.eqvAll ys ys = true
  | [], _ => by simp [PyData.canLayAll0, PyData.depthAll, PyData.eqvAll]
  | y :: ys, hy => by
    have h1 := ih (hy y List.mem_cons_self)
    have h2 := all_lay ih ys fun x hx => hy x (List.mem_cons_of_mem _ hx)
    simp only [PyData.canLayAll0, PyData.depthAll, PyData.eqvAll, Bool.and_eq_true]
    exact ⟨⟨h1.1, h2.1⟩, by omega, h1.2.2, h2.2.2⟩
theorem okS.lay : ∀ {n : Nat} {d : PyData}, okS n d → d.canLay0 = true ∧ d.depth ≤ n ∧ PyData.eqv d d = true
  | 0, _, h => h.elim
  | n + 1, .none, _ => by simp [PyData.canLay0, PyData.depth, PyData.eqv]
  | n + 1, .bool _, _ => by simp [PyData.canLay0, PyData.depth, PyData.eqv]
  | n + 1, .int _, _ => by simp [PyData.canLay0, PyData.depth, PyData.eqv]
  | n + 1, .str s, h => by simp only [PyData.canLay0, PyData.depth, PyData.eqv]; exact ⟨h, Nat.zero_le _, by simp⟩
  | n + 1, .list xs, h => by
    have := all_lay (fun {d} => okS.lay (n := n) (d := d)) xs h.2
    simp only [PyData.canLay0, PyData.depth, PyData.eqv]
    exact ⟨this.1, by omega, this.2.2⟩
  | n + 1, .tuple xs, h => by
    have := all_lay (fun {d} => okS.lay (n := n) (d := d)) xs h.2
    simp only [PyData.canLay0, PyData.depth, PyData.eqv]
    exact ⟨this.1, by omega, this.2.2⟩
theorem okS.shaped {n : Nat} {d : PyData} (h : okS n d) (hn : n ≤ 64 := by decide) : SeqAt.shaped d = true := by
  have := h.lay
  unfold SeqAt.shaped
  rw [this.1, decide_eq_true (show d.depth ≤ 64 by omega)]
  rfl
theorem vEq_ok {m n : Nat} {d e : PyData} (h : okS m d) (g : okS n e) (hm : m ≤ 64 := by decide) (hn : n ≤ 64 := by decide) : vEq d e = .ok (PyData.eqv d e) := if_pos ⟨h.shaped hm, g.shaped hn⟩
theorem veq_ok {m n : Nat} {d e : PyData} (h : okS m d) (g : okS n e) (hm : m ≤ 64 := by decide) (hn : n ≤ 64 := by decide) : veq d e = .ok (.bool (PyData.eqv d e)) := by
  unfold veq; rw [vEq_ok h g hm hn]; rfl
theorem vne_ok {m n : Nat} {d e : PyData} (h : okS m d) (g : okS n e) (hm : m ≤ 64 := by decide) (hn : n ≤ 64 := by decide) : vne d e = .ok (.bool (!PyData.eqv d e)) := by
  unfold vne; rw [vEq_ok h g hm hn]; rfl
theorem vne_refl {n : Nat} {d : PyData} (h : okS n d) (hn : n ≤ 64 := by decide) : vne d d = .ok (.bool false) := by
  rw [vne_ok h h hn hn, h.lay.2.2]; rfl
theorem veq_refl {n : Nat} {d : PyData} (h : okS n d) (hn : n ≤ 64 := by decide) : veq d d = .ok (.bool true) := by
  rw [veq_ok h h hn hn, h.lay.2.2]
theorem vidx_list' {xs : List PyData} {j : Int} {k : Nat} {d : PyData} (hj : j = (k : Int)) (h : xs[k]? = some d) : vidx (.list xs) (.int j) = .ok d := by rw [hj]; exact vidx_list h
theorem vidx_tuple' {xs : List PyData} {j : Int} {k : Nat} {d : PyData} (hj : j = (k : Int)) (h : xs[k]? = some d) : vidx (.tuple xs) (.int j) = .ok d := by rw [hj]; exact vidx_tuple h
theorem vfdiv_pos {a b : Int} (h : 0 < b) (h2 : b < 2 ^ 250) : vfdiv (.int a) (.int b) = .ok (.int (a / b)) := if_pos ⟨h, h2⟩
@[simp] theorem veq_strS {a b : Str} (ha : PyData.strOk a = true) (hb : PyData.strOk b = true) : veq (.str a) (.str b) = .ok (.bool (decide (a = b))) := veq_str ha hb
@[simp] theorem vne_strS {a b : Str} (ha : PyData.strOk a = true) (hb : PyData.strOk b = true) : vne (.str a) (.str b) = .ok (.bool (!decide (a = b))) := vne_str ha hb
theorem ixN_nat {n j : Nat} (h : j < n) : L2.ixN n (j : Int) = some j := by unfold L2.ixN; simp [h]
/-- a comprehension item by item -/
theorem compL_rel {kt : PyData → R (List (Nat × PyData))} {ft : PEnv → R Bool} {fe : PEnv → R PyData} {ρ : PEnv} (S : Nat → PyData → Prop) : ∀ (ds : List PyData) (j : Nat),
    (∀ i d, ds[i]? = some d → ∃ bs y, kt d = .ok bs ∧ ft (setsD ρ bs) = .ok true ∧ fe (setsD ρ bs) = .ok y ∧ S (j + i) y) → ∃ ys, compL kt ft fe ρ ds = .ok ys ∧ ys.length = ds.length ∧ ∀ i y, ys[i]? = some y → S (j + i) y
  | [], j, _ => ⟨[], rfl, rfl, fun i y h => by simp at h⟩
  | d :: ds, j, h => by
    obtain ⟨bs, y, h1, h2, h3, h4⟩ := h 0 d rfl
    obtain ⟨ys, h5, h6, h7⟩ := compL_rel S ds (j + 1) fun i d' hd => by
      have := h (i + 1) d' (by simpa using hd)
      rw [show j + (i + 1) = j + 1 + i by omega] at this
      exact this
    refine ⟨y :: ys, ?_, by simp [h6], fun i z hz => ?_⟩
    · simp only [compL, h1, R.bind_ok, h2, h3, calm_okk, h5, if_true]
    · cases i with
      | zero => simp at hz; subst hz; exact h4
      | succ i =>
        have := h7 i z (by simpa using hz)
        rw [show j + (i + 1) = j + 1 + i by omega]
        exact this
@[simp] theorem vcomp_ap (own : List Nat) (fi : PEnv → R (List PyData)) (kt : PyData → R (List (Nat × PyData))) (ft : PEnv → R Bool) (fe : PEnv → R PyData) (ρ : PEnv) : vcomp own fi kt ft fe ρ = (fi ρ).bind fun ds => (compL kt ft fe (wipeD ρ own) ds).calm := rfl
@[simp] theorem vadd_list {xs ys : List PyData} (h : xs.length + ys.length ≤ 16777216) : vadd (.list xs) (.list ys) = .ok (.list (xs ++ ys)) := if_pos (by rw [szL]; exact h)
@[simp] theorem vadd_tuple {xs ys : List PyData} (h : xs.length + ys.length ≤ 16777216) : vadd (.tuple xs) (.tuple ys) = .ok (.tuple (xs ++ ys)) := if_pos (by rw [szL]; exact h)
end VL

namespace VL
open PySem PySem.Spec PyProof.Rows L2
/-! ### raise of an own class over ValueError, with a text -/
structure ExcF (K : PySem.W.Frag) (mg : Str → Option Value) (x : Str) (C : Addr) : Prop where
  xF : PySem.W.excIn K C [.type "ValueError", .type "Exception", .type "BaseException", .type "object"] "ValueError.__new__" = true
  gF : mg x = some (.ref C)
  kF : PySem.W.keepIn K (.ref C) = true
  bF : PySem.W.subIn K (.ref C) (.type "BaseException") = some true
  tF : PySem.W.typeIn K (.ref C) = some (.type "type")
def sRaise (c : Str) : OEnv → SR := fun ρ => .err c ρ
@[simp] theorem sRaise_ap (c : Str) (ρ : OEnv) : sRaise c ρ = .err c ρ := rfl
theorem vs_raise {X : Cx} {W : WX} {x m : Str} {j : Nat} {p p2 pos pos2 : Pos} {C : Addr} (hc : X.calm = true) (tk : Takes X W) (E : ExcF X.K X.mg x C) (hg : Gl X x := by rfl) (hdb : (x == ("__debug__" : Str)) = false := by decide) :
    VS X W (.Raise (some (.Call (.Name x p) [.Constant (.str m) j p2] [] pos)) none pos2) (sRaise x) := by
  refine ⟨_, ps_raise hc tk (pmk_own PySem.F.excBase_ValueError E.xF E.gF E.kF (raises_own E.bF E.tF) hg hdb), fun D σ H F0 H0 F ρ r pr => ?_⟩
  obtain ⟨C', e, w⟩ := pr σ H F r
  rw [E.gF] at e
  cases e
  exact w
end VL

namespace VL
open PySem PySem.Spec PyProof.Rows L2
/-! ### try: body, except C as e: suite -/
def tVS (X : Cx) (W : WX) (g : OEnv → SR) : TS := fun D σ H => ∃ F0 H0 F ρ, RS X.K F0 H0 F H σ ρ ∧ SPst X W F0 H0 D (g ρ)
theorem VSs.pss {X : Cx} {W : WX} {sts : List Stmt} {g : OEnv → SR} (h : VSs X W sts g) : PSs X sts (tVS X W g) := by
  obtain ⟨t, p, q⟩ := h.ex
  exact ⟨fun pins s σ H D I ⟨F0, H0, F, ρ, r, z⟩ => p.run pins s σ H D I (q D σ H F0 H0 F ρ r z)⟩
/-- the caught exception as data -/
def excD (a : Addr) (c : Str) : PyData := .dict [(.int (a : Int), .str c)]
/-- what comes out alike wherever the exception stands -/
noncomputable def anyA (g : Addr → SR) : SR := open Classical in if h : ∃ r, ∀ a, g a = r then Classical.choose h else .stuck
theorem anyA_eq {g : Addr → SR} {r : SR} (h : ∀ a, g a = r) : anyA g = r := by
  unfold anyA
  have ex : ∃ r, ∀ a, g a = r := ⟨r, h⟩
  rw [dif_pos ex]
  exact (Classical.choose_spec ex 0).symm.trans (h 0)
theorem anyA_at {g : Addr → SR} (h : anyA g ≠ .stuck) (a : Addr) : g a = anyA g := by
  unfold anyA at h ⊢
  split at h
  · rename_i ex
    rw [dif_pos ex]
    exact Classical.choose_spec ex a
  · exact absurd rfl h
/-- the clause's name goes -/
def SR.unset (i : Nat) : SR → SR
  | .nx ρ => .nx (ρ.set i none)
  | .bk ρ => .bk (ρ.set i none)
  | .ct ρ => .ct (ρ.set i none)
  | .rt o => .rt o
  | _ => .stuck
@[simp] theorem unset_nx (i : Nat) (ρ : OEnv) : SR.unset i (.nx ρ) = .nx (ρ.set i none) := rfl
@[simp] theorem unset_bk (i : Nat) (ρ : OEnv) : SR.unset i (.bk ρ) = .bk (ρ.set i none) := rfl
@[simp] theorem unset_ct (i : Nat) (ρ : OEnv) : SR.unset i (.ct ρ) = .ct (ρ.set i none) := rfl
@[simp] theorem unset_rt (i : Nat) (o : O) : SR.unset i (.rt o) = .rt o := rfl
/-- what the body's exception comes to -/
noncomputable def catchA (tb : Str → Option Bool) (i : Nat) (gs : Addr → Str → OEnv → SR) : SR → SR
  | .err c ρ => match tb c with
    | some true => anyA fun a => (gs a c (ρ.set i (some (.fz (excD a c))))).unset i
    | some false => .err c ρ
    | none => .stuck
  | r => r
noncomputable def sTryAs (gb : OEnv → SR) (tb : Str → Option Bool) (i : Nat) (gs : Addr → Str → OEnv → SR) : OEnv → SR := fun ρ => catchA tb i gs (gb ρ)
@[simp] theorem sTryAs_ap (gb : OEnv → SR) (tb : Str → Option Bool) (i : Nat) (gs : Addr → Str → OEnv → SR) (ρ : OEnv) : sTryAs gb tb i gs ρ = catchA tb i gs (gb ρ) := rfl
@[simp] theorem catchA_nx (tb : Str → Option Bool) (i : Nat) (gs : Addr → Str → OEnv → SR) (ρ : OEnv) : catchA tb i gs (.nx ρ) = .nx ρ := rfl
@[simp] theorem catchA_rt (tb : Str → Option Bool) (i : Nat) (gs : Addr → Str → OEnv → SR) (o : O) : catchA tb i gs (.rt o) = .rt o := rfl
@[simp] theorem catchA_ct (tb : Str → Option Bool) (i : Nat) (gs : Addr → Str → OEnv → SR) (ρ : OEnv) : catchA tb i gs (.ct ρ) = .ct ρ := rfl
@[simp] theorem catchA_bk (tb : Str → Option Bool) (i : Nat) (gs : Addr → Str → OEnv → SR) (ρ : OEnv) : catchA tb i gs (.bk ρ) = .bk ρ := rfl
theorem catchA_hit {tb : Str → Option Bool} {i : Nat} {gs : Addr → Str → OEnv → SR} {c : Str} {ρ : OEnv} {r : SR} (h : tb c = some true) (e : ∀ a, (gs a c (ρ.set i (some (.fz (excD a c))))).unset i = r) : catchA tb i gs (.err c ρ) = r := by
  simp only [catchA, h]
  exact anyA_eq e
/-- a handler's class, and which classes it takes -/
structure HTab (K : PySem.W.Frag) (mg : Str → Option Value) (x : Str) (tb : Str → Option Bool) : Prop where
  ex : ∃ c, mg x = some c ∧ ∀ cn b, tb cn = some b → ∃ C, mg cn = some (.ref C) ∧ PySem.W.exmOne K (.ref C) c = some b
theorem RS.dropN {K : PySem.W.Frag} {F0 H0 F H : Hp} {σ : L2.St} {ρ : OEnv} (r : RS K F0 H0 F H σ ρ) (i : Nat) : RS K F0 H0 F H (σ.set i none) (ρ.set i none) := by
  obtain ⟨fps, s, hs⟩ := r.ex
  obtain ⟨fpr, z1, z2⟩ := s.drop i none
  exact ⟨fpr, z1, hs.sub z2⟩
section
variable {X : Cx} {W : WX} {body suite : List Stmt} {b₀ : Stmt} {np pos pos' : Pos} {x n : Str} {gb : OEnv → SR} {gs : Addr → Str → OEnv → SR} {tb : Str → Option Bool}
theorem vs_tryAs (i : Nat) (hs : X.stack = X.env :: X.outer) (hf : X.env.frame = some X.env.locals) (hN : X.N.Nodup) (tk : Takes X W) (T : HTab X.K X.mg x tb)
    (hb : ∀ (W' : WX) (pn : List (Addr × Obj)) (xe : Value → Shared → Prop), Takes (X.tr pn xe) W' → PassesOwn (model X.prog X.w) X.A X.env xe → VSs (X.tr pn xe) W' body gb)
    (hsu : ∀ (a : Addr) (oe : Obj) (cn : Str) (C : Addr) (pn : List (Addr × Obj)), X.mg cn = some (.ref C) → Zc (.ref C) none oe → (∃ vs, oe.data = .fields vs) → VSs (X.suite a ((a, oe) :: pn)) W0 (b₀ :: suite) (gs a cn))
    (hi : X.N[i]? = some n := by rfl) (hln : X.env.kindOf n = some .local := by rfl) (hg : Gl X x := by rfl) (hdb : (x == ("__debug__" : Str)) = false := by decide) :
    VS X W (.Try body [.ExceptHandler (some (.Name x np)) (some n) (b₀ :: suite) pos'] [] [] pos) (sTryAs gb tb i gs) := by
  obtain ⟨c, hm, tab⟩ := T.ex
  refine ⟨_, ps_try_as (c := c) (i := i) (tb := fun W' => tVS X W' gb) (ts := fun a cls d => fun D σ H => ∃ cn C, cls = .ref C ∧ d = none ∧ X.mg cn = some (.ref C) ∧ tVS X W0 (gs a cn) D σ H) (Wout := W) hs hf hN hi hln ⟨hg, hdb, .inl hm⟩ tk
    (fun W' pn xe tk' hp => (hb W' pn xe tk' hp).pss) (fun a oe cls d pn hz hfd => ⟨fun pins s σ H D I ⟨cn, C, e1, e2, hmc, h⟩ => by
      subst e1 e2
      exact (hsu a oe cn C pn hmc hz hfd).pss.run pins s σ H D I h⟩), fun D σ H F0 H0 F ρ r pr => ?_⟩
  refine ⟨F0, H0, F, ρ, r, ?_⟩
  unfold sTryAs at pr
  generalize gb ρ = rr at pr ⊢
  cases rr with
  | stuck => exact pr
  | nx ρ' => exact pr
  | bk ρ' => exact pr
  | ct ρ' => exact pr
  | rt o => exact pr
  | err cn ρ' =>
    intro σ' H' F' r'
    simp only [catchA] at pr
    cases ht : tb cn with
    | none => rw [ht] at pr; exact pr.elim
    | some b =>
      obtain ⟨C, hC, he⟩ := tab cn b ht
      rw [ht] at pr
      cases b with
      | false =>
        obtain ⟨C', hC', hw⟩ := pr σ' H' F' r'
        exact ⟨C', hC', false, by rw [hC] at hC'; cases hC'; exact he, fun z => (nomatch z), fun _ => hw⟩
      | true =>
        refine ⟨C, hC, true, he, fun _ a na => ⟨cn, C, rfl, rfl, hC, F0, H0, F', _, (r'.consFz (.exc a cn)).put i, ?_⟩, fun z => (nomatch z)⟩
        have ns : anyA (fun a => (gs a cn (ρ'.set i (some (.fz (excD a cn))))).unset i) ≠ .stuck := fun z => by
          simp only [] at pr
          rw [z] at pr
          exact pr
        have ea := anyA_at ns a
        simp only [] at pr
        rw [← ea] at pr
        simp only [excD] at pr
        generalize gs a cn (ρ'.set i (some (.fz (.dict [(.int (a : Int), .str cn)])))) = rs at pr ⊢
        cases rs with
        | stuck => exact pr.elim
        | err c ρ => exact pr.elim
        | nx ρ3 => exact fun σ3 H3 F3 r3 => pr _ _ _ (r3.dropN i)
        | bk ρ3 => exact fun σ3 H3 F3 r3 => pr _ _ _ (r3.dropN i)
        | ct ρ3 => exact fun σ3 H3 F3 r3 => pr _ _ _ (r3.dropN i)
        | rt o => exact pr
/-- try: body, except C: suite -/
noncomputable def catchO (tb : Str → Option Bool) (gs : OEnv → SR) : SR → SR
  | .err c ρ => match tb c with
    | some true => (match gs ρ with
      | .err _ _ => .stuck
      | r => r)
    | some false => .err c ρ
    | none => .stuck
  | r => r
noncomputable def sTryO (gb : OEnv → SR) (tb : Str → Option Bool) (gs : OEnv → SR) : OEnv → SR := fun ρ => catchO tb gs (gb ρ)
@[simp] theorem sTryO_ap (gb : OEnv → SR) (tb : Str → Option Bool) (gs : OEnv → SR) (ρ : OEnv) : sTryO gb tb gs ρ = catchO tb gs (gb ρ) := rfl
@[simp] theorem catchO_nx (tb : Str → Option Bool) (gs : OEnv → SR) (ρ : OEnv) : catchO tb gs (.nx ρ) = .nx ρ := rfl
@[simp] theorem catchO_rt (tb : Str → Option Bool) (gs : OEnv → SR) (o : O) : catchO tb gs (.rt o) = .rt o := rfl
@[simp] theorem catchO_ct (tb : Str → Option Bool) (gs : OEnv → SR) (ρ : OEnv) : catchO tb gs (.ct ρ) = .ct ρ := rfl
@[simp] theorem catchO_bk (tb : Str → Option Bool) (gs : OEnv → SR) (ρ : OEnv) : catchO tb gs (.bk ρ) = .bk ρ := rfl
theorem catchO_hit {tb : Str → Option Bool} {gs : OEnv → SR} {c : Str} {ρ : OEnv} (h : tb c = some true) : catchO tb gs (.err c ρ) = match gs ρ with | .err _ _ => .stuck | r => r := by
  simp only [catchO, h]
theorem vs_tryO {gs : OEnv → SR} (hs : X.stack = X.env :: X.outer) (hf : X.env.frame = some X.env.locals) (tk : Takes X W) (T : HTab X.K X.mg x tb)
    (hb : ∀ (W' : WX) (pn : List (Addr × Obj)) (xe : Value → Shared → Prop), Takes (X.tr pn xe) W' → PassesOwn (model X.prog X.w) X.A X.env xe → VSs (X.tr pn xe) W' body gb)
    (hsu : ∀ (a : Addr) (oe : Obj) (pn : List (Addr × Obj)), VSs (X.suite a ((a, oe) :: pn)) W0 (b₀ :: suite) gs)
    (hg : Gl X x := by rfl) (hdb : (x == ("__debug__" : Str)) = false := by decide) :
    VS X W (.Try body [.ExceptHandler (some (.Name x np)) none (b₀ :: suite) pos'] [] [] pos) (sTryO gb tb gs) := by
  obtain ⟨c, hm, tab⟩ := T.ex
  refine ⟨_, ps_try_only (c := c) (tb := fun W' => tVS X W' gb) (ts := fun a cls d => tVS X W0 gs) (Wout := W) hs hf ⟨hg, hdb, .inl hm⟩ tk
    (fun W' pn xe tk' hp => (hb W' pn xe tk' hp).pss) (fun a oe cls d pn hz hfd => (hsu a oe pn).pss), fun D σ H F0 H0 F ρ r pr => ?_⟩
  refine ⟨F0, H0, F, ρ, r, ?_⟩
  unfold sTryO at pr
  generalize gb ρ = rr at pr ⊢
  cases rr with
  | stuck => exact pr
  | nx ρ' => exact pr
  | bk ρ' => exact pr
  | ct ρ' => exact pr
  | rt o => exact pr
  | err cn ρ' =>
    intro σ' H' F' r'
    simp only [catchO] at pr
    cases ht : tb cn with
    | none => rw [ht] at pr; exact pr.elim
    | some b =>
      obtain ⟨C, hC, he⟩ := tab cn b ht
      rw [ht] at pr
      cases b with
      | false =>
        obtain ⟨C', hC', hw⟩ := pr σ' H' F' r'
        exact ⟨C', hC', false, by rw [hC] at hC'; cases hC'; exact he, fun z => (nomatch z), fun _ => hw⟩
      | true =>
        refine ⟨C, hC, true, he, fun _ a na => ⟨F0, H0, F', _, r', ?_⟩, fun z => (nomatch z)⟩
        simp only [] at pr
        generalize gs ρ' = rs at pr ⊢
        cases rs with
        | stuck => exact pr.elim
        | err c ρ => exact pr.elim
        | nx ρ3 => exact pr
        | bk ρ3 => exact pr
        | ct ρ3 => exact pr
        | rt o => exact pr
end
/-! ### isinstance of the caught exception -/
def vIsE (a : Addr) (cn : Str) (tb : Str → Option Bool) : PyData → R PyData
  | .dict [(.int a', .str c')] => if a' = (a : Int) ∧ c' = cn then (match tb cn with | some b => .ok (.bool b) | none => .stuck) else .stuck
  | _ => .stuck
@[simp] theorem vIsE_ap (a : Addr) (cn : Str) (tb : Str → Option Bool) : vIsE a cn tb (excD a cn) = match tb cn with | some b => .ok (.bool b) | none => .stuck := by
  simp [vIsE, excD]
/-- the answers of isinstance(e, x) for the classes that tb tells of -/
structure ITab (K : PySem.W.Frag) (mg : Str → Option Value) (x : Str) (cv : Value) (tb : Str → Option Bool) : Prop where
  kt : ∀ cn D b, mg cn = some (.ref D) → tb cn = some b → ExcC K D ∧ PySem.W.kitOne K (.ref D) cv = some b
theorem kit_ref {K : PySem.W.Frag} {t : Value} {C : Addr} {b : Bool} (hd : PySem.W.hasDictIn K C = true) (ht : PySem.W.typeIn K (.ref C) = some (.type "type")) (hs : PySem.W.subIn K t (.ref C) = some b) (hn : (t == .ref C) = false ∨ b = true) : PySem.W.kitOne K t (.ref C) = some b := by
  obtain ⟨cd, hc, _⟩ := PySem.W.any_some hd
  have e : ((PySem.W.clsIn K C).isSome && PySem.W.typeIn K (.ref C) == some (.type "type")) = true := by rw [hc, ht]; rfl
  have e2 : PySem.W.kitCls K t (.ref C) = some b := by
    show (if ((PySem.W.clsIn K C).isSome && PySem.W.typeIn K (.ref C) == some (.type "type")) = true then PySem.W.subIn K t (.ref C) else none) = some b
    rw [if_pos e]; exact hs
  unfold PySem.W.kitOne
  split
  · rename_i h
    rcases hn with hn | hn
    · rw [h] at hn; cases hn
    · rw [hn]
  · exact e2
theorem kit_type {K : PySem.W.Frag} {t : Value} {T : String} {b : Bool} (hm : PySem.W.kitMeta T = true) (hs : PySem.W.subIn K t (.type T) = some b) (hn : (t == .type T) = false) : PySem.W.kitOne K t (.type T) = some b := by
  unfold PySem.W.kitOne
  rw [hn]
  show (if PySem.W.kitMeta T = true then PySem.W.subIn K t (.type T) else none) = some b
  rw [if_pos hm]; exact hs
def orT (f g : Str → Option Bool) : Str → Option Bool := fun c => match f c with
  | some true => some true
  | some false => g c
  | none => none
theorem tab_of {P : Str → Bool → Prop} {l : List (Str × Bool)} (h : ∀ p ∈ l, P p.1 p.2) : ∀ cn b, l.lookup cn = some b → P cn b := by
  induction l with
  | nil => intro cn b e; cases e
  | cons p l ih =>
    intro cn b e
    rw [List.lookup_cons] at e
    split at e
    · rename_i hb
      cases e
      rw [show cn = p.1 from by simpa using hb]
      exact h p List.mem_cons_self
    · exact ih (fun q hq => h q (List.mem_cons_of_mem _ hq)) cn b e
section
variable {X : Cx} {W : WX} {a : Addr} {oe : Obj} {pn : List (Addr × Obj)} {C : Addr} {cn : Str} {ea : Expr} {fa : PEnv → R PyData}
theorem pe_never {X : Cx} {e : Expr} : PE X e (fun _ _ _ => False) := ⟨fun _ _ _ _ _ _ h => h.elim⟩
theorem is_excD {K : PySem.W.Frag} {F : Hp} {v : V} {d : PyData} {tb : Str → Option Bool} (h : Is K F v d) (hd : vIsE a cn tb d ≠ .stuck) : v = .ref a ∧ ∃ b, tb cn = some b ∧ vIsE a cn tb d = .ok (.bool b) := by
  cases h <;> first | exact absurd rfl hd | skip
  rename_i a' c'
  simp only [vIsE] at hd ⊢
  split at hd
  · rename_i hh
    obtain ⟨h1, rfl⟩ := hh
    have : a' = a := Int.ofNat_inj.mp h1
    subst this
    refine ⟨rfl, ?_⟩
    cases ht : tb c' with
    | none => rw [ht] at hd; exact absurd rfl hd
    | some b => exact ⟨b, rfl, by simp⟩
  · exact absurd rfl hd
/-- one class -/
theorem visE (i : Nat) {x : Str} {cv : Value} {vv : V} {tb : Str → Option Bool} {p p2 pos : Pos} (hmc : X.mg cn = some (.ref C)) (hz : Zc (.ref C) none oe) (hf : ∃ vs, oe.data = .fields vs) (T : ITab X.K X.mg x cv tb) (pc : ∀ {p2 : Pos}, PE (X.suite a ((a, oe) :: pn)) (.Name x p2) (tC vv)) (hv : ∀ u, RelV vv u → u = cv)
    (hm : X.mg "isinstance" = none) (ha : VE (X.suite a ((a, oe) :: pn)) W ea (vVar i)) (hg : Gl X "isinstance" := by rfl)
    (he : starEach [ea, .Name x p2] X.env = (false, eval ea X.env) :: starEach [.Name x p2] X.env := by rfl) (he2 : starEach [.Name x p2] X.env = (false, eval (.Name x p2) X.env) :: starEach [] X.env := by rfl) (hpl : (backTo pos (starEach [.Name x p2] X.env)).any (·.1) = false := by rfl) :
    VE (X.suite a ((a, oe) :: pn)) W (.Call (.Name "isinstance" p) [ea, .Name x p2] [] pos) (v1 (vIsE a cn tb) (vVar i)) := by
  obtain ⟨ta, pa, qa⟩ := ha.ex
  cases ht : tb cn with
  | none =>
    refine VE.mk' pe_never fun σ H B ρ Q s rf pr => ?_
    have e : v1 (vIsE a cn tb) (vVar i) ρ = .stuck := by
      unfold v1 vVar
      split
      · rename_i d _
        simp only [R.bind_ok]
        unfold vIsE
        split
        · simp [ht]
        · rfl
      · rfl
    rw [e] at pr
    exact pr
  | some b =>
    obtain ⟨ec, ek⟩ := T.kt cn C b hmc ht
    refine VE.mk' (pe_callB (X := X.suite a ((a, oe) :: pn)) (call_isE ec hz hf) hg hm (by decide +kernel) (pa_cons pa (pa_cons pc pa_nil he2) he) (by decide) (by decide) he hpl) fun σ H B ρ Q s rf pr => ?_
    refine one qa s rf pr fun d v H' B' ex sm dx pg => ?_
    have h0 : vIsE a cn tb d ≠ .stuck := fun z => by rw [z] at pg; exact pg
    obtain ⟨rfl, b', hb', e'⟩ := is_excD dx h0
    rw [ht] at hb'
    cases hb'
    rw [e'] at pg
    exact ⟨vv, cv, b, rfl, hv, ek, pg _ H' B' ex (.bl _)⟩
/-- an own class x at A -/
theorem visE_own (i : Nat) {x : Str} {A : Addr} {tb : Str → Option Bool} {p p2 pos : Pos} (hmc : X.mg cn = some (.ref C)) (hz : Zc (.ref C) none oe) (hf : ∃ vs, oe.data = .fields vs) (T : ITab X.K X.mg x (.ref A) tb) (hx : X.mg x = some (.ref A))
    (hm : X.mg "isinstance" = none) (ha : VE (X.suite a ((a, oe) :: pn)) W ea (vVar i)) (hg : Gl X "isinstance" := by rfl) (hgx : Gl X x := by rfl) (hdb : (x == ("__debug__" : Str)) = false := by decide)
    (he : starEach [ea, .Name x p2] X.env = (false, eval ea X.env) :: starEach [.Name x p2] X.env := by rfl) (he2 : starEach [.Name x p2] X.env = (false, eval (.Name x p2) X.env) :: starEach [] X.env := by rfl) (hpl : (backTo pos (starEach [.Name x p2] X.env)).any (·.1) = false := by rfl) :
    VE (X.suite a ((a, oe) :: pn)) W (.Call (.Name "isinstance" p) [ea, .Name x p2] [] pos) (v1 (vIsE a cn tb) (vVar i)) :=
  visE i hmc hz hf T (pe_glob (X := X.suite a ((a, oe) :: pn)) (v := .ref A) hgx hx rfl hdb) (fun u h => h) hm ha hg he he2 hpl
/-- a built-in class -/
theorem visE_blt (i : Nat) {x : Str} {A : String} {tb : Str → Option Bool} {p p2 pos : Pos} (hmc : X.mg cn = some (.ref C)) (hz : Zc (.ref C) none oe) (hf : ∃ vs, oe.data = .fields vs) (T : ITab X.K X.mg x (.type A) tb) (hx : X.mg x = none) (hv : bootBuiltins x = some (.type A))
    (hm : X.mg "isinstance" = none) (ha : VE (X.suite a ((a, oe) :: pn)) W ea (vVar i)) (hg : Gl X "isinstance" := by rfl) (hgx : Gl X x := by rfl) (hdb : (x == ("__debug__" : Str)) = false := by decide) (hn : x ≠ "__name__" := by decide)
    (he : starEach [ea, .Name x p2] X.env = (false, eval ea X.env) :: starEach [.Name x p2] X.env := by rfl) (he2 : starEach [.Name x p2] X.env = (false, eval (.Name x p2) X.env) :: starEach [] X.env := by rfl) (hpl : (backTo pos (starEach [.Name x p2] X.env)).any (·.1) = false := by rfl) :
    VE (X.suite a ((a, oe) :: pn)) W (.Call (.Name "isinstance" p) [ea, .Name x p2] [] pos) (v1 (vIsE a cn tb) (vVar i)) :=
  visE i hmc hz hf T (pe_bltn (X := X.suite a ((a, oe) :: pn)) (v := .ty A) hgx hx hv rfl hn hdb) (fun u h => h) hm ha hg he he2 hpl
/-- isinstance(e, (c1, c2, ..)) of the suite's exception -/
def rIsEs (K : PySem.W.Frag) (D a : Addr) : List V → Hp → VK → Prop := fun xs H Q => ∃ (tp : Addr) (cs : List V) (us : List Value) (b : Bool), xs = [.ref a, .ref tp] ∧ H tp = some (.tup cs) ∧ Paired ClsV cs us ∧ PySem.W.kitAny K (.ref D) us = some b ∧ Q (.bl b) H
theorem call_isEs {D : Addr} (E : ExcC X.K D) (hz : Zc (.ref D) none oe) (hf : ∃ vs, oe.data = .fields vs) : CallR (X.suite a ((a, oe) :: pn)) (.builtin "isinstance") (rIsEs X.K D a) := by
  intro pins s σ H xs us Q J rv hh
  obtain ⟨tp, cs, ws, b, rfl, hT, k, e, q⟩ := hh
  obtain ⟨u1, u2, rfl, r1, r2⟩ := vals2 rv
  cases (show u2 = Value.ref tp from r2)
  cases (show u1 = Value.ref a from r1)
  obtain ⟨hget, _⟩ := J.pin (a, oe) (List.mem_append.mpr (.inl List.mem_cons_self))
  obtain ⟨vs, hv⟩ := hf
  have Z : PySem.W.InstAt s.heap a oe D none := by
    obtain ⟨oc, od, oda, osl⟩ := oe
    obtain ⟨h1, h2⟩ := hz
    dsimp only at h1 h2 hv
    subst h1 h2 hv
    exact ⟨hget, rfl, rfl, trivial⟩
  obtain ⟨_, its, rv', o, h1, h2, n, h3⟩ := (show ObjOk X.prog X.w H s.heap tp (.tup cs) from J.hok tp _ hT)
  have e3 := ClsV.all k rv'
  subst e3
  obtain ⟨oc, od, dt, sl⟩ := o
  simp only at h2 h3
  subst h2 h3
  exact PySem.W.kia_tup (PySem.W.handS_kitx_exc E.hg E.hk E.hs E.hd E.ha E.hn E.ht E.hm) J.kIn Z h1 e (fun z => nomatch z) fun tk => ⟨.bl b, H, J.kept (t' := tk) fun _ _ z => z, rfl, q⟩
/-- two own classes -/
theorem visE_two (i : Nat) {x y : Str} {A1 A2 : Addr} {tb tb2 : Str → Option Bool} {p p1 p2 p3 pos : Pos} {k : Nat} (hmc : X.mg cn = some (.ref C)) (hz : Zc (.ref C) none oe) (hf : ∃ vs, oe.data = .fields vs) (T : ITab X.K X.mg x (.ref A1) tb) (hx : X.mg x = some (.ref A1)) (T2 : ITab X.K X.mg y (.ref A2) tb2) (hy : X.mg y = some (.ref A2))
    (hm : X.mg "isinstance" = none) (ha : VE (X.suite a ((a, oe) :: pn)) W ea (vVar i)) (hg : Gl X "isinstance" := by rfl) (hgx : Gl X x := by rfl) (hdb : (x == ("__debug__" : Str)) = false := by decide) (hgy : Gl X y := by rfl) (hdy : (y == ("__debug__" : Str)) = false := by decide)
    (he : starEach [ea, .Tuple [.Name x p1, .Name y p2] k p3] X.env = (false, eval ea X.env) :: starEach [.Tuple [.Name x p1, .Name y p2] k p3] X.env := by rfl) (he2 : starEach [.Tuple [.Name x p1, .Name y p2] k p3] X.env = (false, eval (.Tuple [.Name x p1, .Name y p2] k p3) X.env) :: starEach [] X.env := by rfl) (hpl : (backTo pos (starEach [.Tuple [.Name x p1, .Name y p2] k p3] X.env)).any (·.1) = false := by rfl)
    (s1 : starEach [.Name x p1, .Name y p2] X.env = (false, eval (.Name x p1) X.env) :: starEach [.Name y p2] X.env := by rfl) (s2 : starEach [.Name y p2] X.env = (false, eval (.Name y p2) X.env) :: starEach [] X.env := by rfl) :
    VE (X.suite a ((a, oe) :: pn)) W (.Call (.Name "isinstance" p) [ea, .Tuple [.Name x p1, .Name y p2] k p3] [] pos) (v1 (vIsE a cn (orT tb tb2)) (vVar i)) := by
  obtain ⟨ta, pa, qa⟩ := ha.ex
  have stk : orT tb tb2 cn = none → ∀ ρ, v1 (vIsE a cn (orT tb tb2)) (vVar i) ρ = .stuck := fun ht ρ => by
    unfold v1 vVar
    split
    · rename_i d _
      simp only [R.bind_ok]
      unfold vIsE
      split
      · simp [ht]
      · rfl
    · rfl
  cases ht : orT tb tb2 cn with
  | none =>
    refine VE.mk' pe_never fun σ H B ρ Q s rf pr => ?_
    rw [stk ht ρ] at pr
    exact pr
  | some b =>
    have key : ∃ ec : ExcC X.K C, PySem.W.kitAny X.K (.ref C) [.ref A1, .ref A2] = some b := by
      unfold orT at ht
      split at ht
      · rename_i h1
        obtain ⟨ec, ek⟩ := T.kt cn C true hmc h1
        cases ht
        exact ⟨ec, by simp only [PySem.W.kitAny, ek]⟩
      · rename_i h1
        obtain ⟨ec, ek⟩ := T.kt cn C false hmc h1
        obtain ⟨_, ek2⟩ := T2.kt cn C b hmc ht
        refine ⟨ec, ?_⟩
        cases b <;> simp only [PySem.W.kitAny, ek, ek2]
      · cases ht
    obtain ⟨ec, ek⟩ := key
    have p1' : PE (X.suite a ((a, oe) :: pn)) (.Name x p1) (tC (.ref A1)) := pe_glob (X := X.suite a ((a, oe) :: pn)) (v := .ref A1) hgx hx rfl hdb
    have p2' : PE (X.suite a ((a, oe) :: pn)) (.Name y p2) (tC (.ref A2)) := pe_glob (X := X.suite a ((a, oe) :: pn)) (v := .ref A2) hgy hy rfl hdy
    refine VE.mk' (pe_callB (X := X.suite a ((a, oe) :: pn)) (call_isEs ec hz hf) hg hm (by decide +kernel) (pa_cons pa (pa_cons (pe_tup (pa_cons p1' (pa_cons p2' pa_nil s2) s1)) pa_nil he2) he) (by decide) (by decide) he hpl) fun σ H B ρ Q s rf pr => ?_
    refine one qa s rf pr fun d v H' B' ex sm dx pg => ?_
    have h0 : vIsE a cn (orT tb tb2) d ≠ .stuck := fun z => by rw [z] at pg; exact pg
    obtain ⟨rfl, b', hb', e'⟩ := is_excD dx h0
    rw [ht] at hb'
    cases hb'
    rw [e'] at pg
    refine ⟨Nat.le_of_ble_eq_true rfl, fun q hq => ?_⟩
    exact ⟨q, [.ref A1, .ref A2], [.ref A1, .ref A2], b, rfl, upd_same, .cons (.own A1) (.cons (.own A2) .nil), ek, pg _ _ _ (ex.trans (Ext.new ex.bh hq)) (.bl _)⟩
end
end VL

namespace VL
open PySem PySem.Spec PyProof.Rows
theorem vInT_ok {m n : Nat} {d : PyData} {ds : List PyData} (h : okS m d) (g : okS n (.tuple ds)) (hm : m ≤ 64 := by decide) (hn : n ≤ 64 := by decide) : vInT d (.tuple ds) = .ok (.bool (ds.any fun z => PyData.eqv z d)) := if_pos ⟨h.shaped hm, g.shaped hn⟩
theorem vNotInT_ok {m n : Nat} {d : PyData} {ds : List PyData} (h : okS m d) (g : okS n (.tuple ds)) (hm : m ≤ 64 := by decide) (hn : n ≤ 64 := by decide) : vNotInT d (.tuple ds) = .ok (.bool (!ds.any fun z => PyData.eqv z d)) := if_pos ⟨h.shaped hm, g.shaped hn⟩
theorem vin_ok {m n : Nat} {d : PyData} {ds : List PyData} (h : okS m d) (g : okS n (.list ds)) (hm : m ≤ 64 := by decide) (hn : n ≤ 64 := by decide) : vin d (.list ds) = .ok (ds.any fun z => PyData.eqv z d) := if_pos ⟨h.shaped hm, g.shaped hn⟩
theorem vIn_ok {m n : Nat} {d : PyData} {ds : List PyData} (h : okS m d) (g : okS n (.list ds)) (hm : m ≤ 64 := by decide) (hn : n ≤ 64 := by decide) : vIn d (.list ds) = .ok (.bool (ds.any fun z => PyData.eqv z d)) := by
  unfold vIn; rw [vin_ok h g hm hn]; rfl
theorem vNotIn_ok {m n : Nat} {d : PyData} {ds : List PyData} (h : okS m d) (g : okS n (.list ds)) (hm : m ≤ 64 := by decide) (hn : n ≤ 64 := by decide) : vNotIn d (.list ds) = .ok (.bool (!ds.any fun z => PyData.eqv z d)) := by
  unfold vNotIn; rw [vin_ok h g hm hn]; rfl
@[simp] theorem vcut_list (lo hi : Option Int) (xs : List PyData) : vcut lo hi (.list xs) = .ok (.list (cutL xs lo hi)) := rfl
@[simp] theorem vcut_tuple (lo hi : Option Int) (xs : List PyData) : vcut lo hi (.tuple xs) = .ok (.tuple (cutL xs lo hi)) := rfl
theorem cut_from (xs : List PyData) (k : Nat) : cutL xs (some (k : Int)) none = xs.drop k := by
  unfold cutL
  rw [HT.sIx_nat, HT.sIx_none]
  by_cases h : k ≤ xs.length
  · rw [Nat.min_eq_left h, List.take_of_length_le (by rw [List.length_drop]; omega)]
  · rw [Nat.min_eq_right (by omega), List.drop_length, List.drop_of_length_le (by omega), List.take_nil]
theorem cut_to (xs : List PyData) (k : Nat) : cutL xs none (some (k : Int)) = xs.take k := by
  unfold cutL
  rw [HT.sIx_nat, HT.sIx_none, List.drop_zero, Nat.sub_zero]
  by_cases h : k ≤ xs.length
  · rw [Nat.min_eq_left h]
  · rw [Nat.min_eq_right (by omega), List.take_of_length_le (Nat.le_refl _), List.take_of_length_le (by omega)]
theorem cut_mid (xs : List PyData) (j k : Nat) : cutL xs (some (j : Int)) (some (k : Int)) = (xs.drop j).take (k - j) := by
  unfold cutL
  rw [HT.sIx_nat, HT.sIx_nat]
  by_cases h : j ≤ xs.length
  · rw [Nat.min_eq_left h]
    by_cases h2 : k ≤ xs.length
    · rw [Nat.min_eq_left h2]
    · rw [Nat.min_eq_right (by omega), List.take_of_length_le (by rw [List.length_drop]; omega), List.take_of_length_le (by rw [List.length_drop]; omega)]
  · rw [show min j xs.length = xs.length by omega, List.drop_length, List.drop_of_length_le (show xs.length ≤ j by omega), List.take_nil, List.take_nil]
theorem mem_cut {xs : List PyData} {lo hi : Option Int} {x : PyData} (h : x ∈ cutL xs lo hi) : x ∈ xs := List.mem_of_mem_drop (List.mem_of_mem_take h)
theorem len_cut (xs : List PyData) (lo hi : Option Int) : (cutL xs lo hi).length ≤ xs.length := by
  unfold cutL
  rw [List.length_take, List.length_drop]
  omega
@[simp] theorem cut_1 (x : PyData) (xs : List PyData) : cutL (x :: xs) (some 1) none = xs := cut_from (x :: xs) 1
theorem okS.mono : ∀ {m n : Nat} {d : PyData}, m ≤ n → okS m d → okS n d
  | 0, _, _, _, h => h.elim
  | _ + 1, 0, _, hl, _ => absurd hl (by omega)
  | m + 1, n + 1, .none, _, _ => trivial
  | m + 1, n + 1, .bool _, _, _ => trivial
  | m + 1, n + 1, .int _, _, _ => trivial
  | m + 1, n + 1, .str _, _, h => h
  | m + 1, n + 1, .list xs, hl, h => ⟨h.1, fun x hx => okS.mono (by omega) (h.2 x hx)⟩
  | m + 1, n + 1, .tuple xs, hl, h => ⟨h.1, fun x hx => okS.mono (by omega) (h.2 x hx)⟩
  | m + 1, n + 1, .dict _, _, h => h.elim
end VL

namespace VL
open PySem PySem.Spec PyProof.Rows L2
/-! ### x.extend(a new list of one's own), x.reverse() -/
theorem RS.glue {K : PySem.W.Frag} {F0 H0 F H : Hp} {σ : L2.St} {ρ : OEnv} {y : V} {i : Nat} {os os2 : List O} (r : RS K F0 H0 F H (some y :: σ) (some (.lst os2) :: ρ)) (ei : ρ[i]? = some (some (.lst os))) :
    ∃ a vs b zs, σ[i]? = some (some (.ref a)) ∧ H a = some (.lst vs) ∧ vs.length = os.length ∧ y = .ref b ∧ H b = some (.lst zs) ∧ zs.length = os2.length ∧ RS K F0 H0 F (upd H a (.lst (vs ++ zs))) σ (ρ.set i (some (.lst (os ++ os2)))) := by
  obtain ⟨fps, sl, hs⟩ := r.ex
  cases sl with
  | @ow _ _ fpo _ _ fpt h1 s =>
    obtain ⟨v, fp, fpr, e1, e2, e3, e4, e5⟩ := s.split ei
    cases h1 with
    | @lst b zs _ fpb hb hlb =>
    cases e2 with
    | @lst a vs _ fpi ha hl =>
      refine ⟨a, vs, b, zs, e1, ha, hl.len, rfl, hb, hlb.len, ?_⟩
      have hp : Hs F0 H0 F H ((b :: fpb) ++ ((a :: fpi) ++ fpr)) := hs.perm (List.Perm.append_left (b :: fpb) e3)
      have hp1 : Hs F0 H0 F H (fpb ++ ((a :: fpi) ++ fpr)) := hp.sub (List.sublist_cons_self b _)
      have nd := List.nodup_append.mp hp1.nd
      have nd2 := List.nodup_append.mp nd.2.1
      have na_b : a ∉ fpb := fun m => nd.2.2 a m a (List.mem_append_left _ List.mem_cons_self) rfl
      have na_i : a ∉ fpi := (List.nodup_cons.mp nd2.1).1
      have na_r : a ∉ fpr := fun m => nd2.2.2 a List.mem_cons_self a m rfl
      have hk : ∀ c, c ≠ a → upd H a (.lst (vs ++ zs)) c = H c := fun c hc => upd_ne hc
      have l1 : OwnL K F (upd H a (.lst (vs ++ zs))) vs os fpi := hl.keep (Same.refl F) fun c hc => hk c fun e => na_i (e ▸ hc)
      have l2 : OwnL K F (upd H a (.lst (vs ++ zs))) zs os2 fpb := hlb.keep (Same.refl F) fun c hc => hk c fun e => na_b (e ▸ hc)
      obtain ⟨fps', w1, w2⟩ := e5 F (upd H a (.lst (vs ++ zs))) (.ref a) (.lst (os ++ os2)) (a :: (fpi ++ fpb)) (.lst upd_same (OwnL.append l1 l2)) (Same.refl F) fun c hc => hk c fun e => na_r (e ▸ hc)
      rw [set_same e1] at w1
      have an : F a = none ∧ H0 a = none := hp1.ow a (List.mem_append_right _ (List.mem_append_left _ List.mem_cons_self))
      have base : Hs F0 H0 F (upd H a (.lst (vs ++ zs))) (fpb ++ ((a :: fpi) ++ fpr)) := ⟨hp1.nd, hp1.ow, fun c u q => by
        rw [hk c (fun e => by rw [e, an.1] at q; cases q)]; exact hp1.fh _ _ q, hp1.f0, fun c u q => by
        rw [hk c (fun e => by rw [e, an.2] at q; cases q)]; exact hp1.h0 _ _ q, hp1.nw⟩
      have p1 : (fpb ++ ((a :: fpi) ++ fpr)).Perm ((a :: (fpi ++ fpb)) ++ fpr) := by
        have : (fpb ++ ((a :: fpi) ++ fpr)).Perm (((a :: fpi) ++ fpb) ++ fpr) := by
          rw [← List.append_assoc]
          exact List.Perm.append_right _ List.perm_append_comm
        simpa using this
      exact ⟨fps', w1, (base.perm p1).perm w2.symm⟩
section
variable {X : Cx} {W : WX} {a b c e : Expr} {pos : Pos} {fa fb fc : PEnv → R PyData} {ho : OEnv → R (O × OEnv)} {k : Nat}
/-- x.extend(e) -/
def sExt (i : Nat) (h : OEnv → R (O × OEnv)) : OEnv → SR := fun ρ => match ρ[i]? with
  | some (some (.lst _)) => (h ρ).sr ρ fun p => match p.1, p.2[i]? with
    | .lst os2, some (some (.lst os)) => if os.length + os2.length ≤ sizeLine then .nx (p.2.set i (some (.lst (os ++ os2)))) else .stuck
    | _, _ => .stuck
  | _ => .stuck
theorem vs_ext (i : Nat) {x : Str} {p1 p2 p3 : Pos} (mk : ∀ {t : TE}, PE X e t → PE X (.Call (.Attribute (.Name x p1) "extend" p2) [e] [] p3) (tBM X.K "list" rExtend (tVar i) (tCons t tNil))) (he : VO X W e ho)
    (hs : swapsWith (.Call (.Attribute (.Name x p1) "extend" p2) [e] [] p3) none pos.line X.env = pure false := by rfl) :
    VS X W (.Expr (.Call (.Attribute (.Name x p1) "extend" p2) [e] [] p3) pos) (sExt i ho) := by
  obtain ⟨t, p, q⟩ := he.ex
  refine ⟨_, ps_expr (mk p) hs, fun D σ H F0 H0 F ρ r pr => ?_⟩
  unfold sExt at pr
  split at pr
  · rename_i os0 e0
    obtain ⟨fps, sl, hss⟩ := r.ex
    obtain ⟨v, fp, fpr, e1, e2, e3, e4, e5⟩ := sl.split e0
    cases e2 with
    | @lst ad vs _ fpi ha hl =>
      refine ⟨.ref ad, e1, .inl ⟨rfl, _, .inl (.inl ha)⟩, ?_⟩
      refine q σ H F0 H0 F ρ _ r (sr_pst r pr fun o po y H' F' r' => ?_)
      obtain ⟨o1, ρ1⟩ := o
      simp only at po r'
      split at po
      · rename_i os2 os e9 eo
        split at po
        · rename_i hz
          obtain ⟨ad', vs', b', zs, e6, e7, e8, rfl, e10, e11, r2⟩ := r'.glue eo
          rw [e1] at e6
          cases e6
          exact ⟨ad, b', vs', zs, rfl, rfl, e7, e10, by rw [e8, e11]; exact hz, po _ _ _ r2⟩
        · exact po.elim
      · exact po.elim
  · exact pr.elim
theorem OwnL.rev {K : PySem.W.Frag} {F H : Hp} : ∀ {os : List O} {vs : List V} {fp : List Addr}, OwnL K F H vs os fp → ∃ fp', OwnL K F H vs.reverse os.reverse fp' ∧ fp'.Perm fp
  | [], _, _, h => by cases h; exact ⟨[], .nil, .refl _⟩
  | o :: os, _, _, h => by
    cases h with
    | @cons v vs _ _ f1 f2 h1 h2 =>
      obtain ⟨f3, z1, z2⟩ := OwnL.rev h2
      rw [List.reverse_cons, List.reverse_cons]
      exact ⟨f3 ++ (f1 ++ []), OwnL.append z1 (.cons h1 .nil), by rw [List.append_nil]; exact (List.Perm.append_right f1 z2).trans List.perm_append_comm⟩
/-! ### max, min of three ints -/
def vmax3 : List PyData → R PyData
  | [.int i, .int j, .int k] => .ok (.int (max (max i j) k))
  | _ => .stuck
def vmin3 : List PyData → R PyData
  | [.int i, .int j, .int k] => .ok (.int (min (min i j) k))
  | _ => .stuck
theorem rc_max3 : RuleC X W (rNuC3 nuMax3) vmax3 := fun ds vs σ H B Q s dx p => by
  have h0 : vmax3 ds ≠ .stuck := fun z => by rw [z] at p; exact p
  match ds, h0 with
  | [.int i, .int j, .int k], _ =>
    cases dx with
    | cons h1 dx => cases dx with
      | cons h2 dx => cases dx with
        | cons h3 dx =>
          cases dx; cases h1; cases h2; cases h3
          refine ⟨.int i, .int j, .int k, .int (max (max i j) k), rfl, ?_, p _ H B (.refl s) (.int _)⟩
          have e : ∀ i j : Int, nuMax2 (.int i) (.int j) = some (.int (max i j)) := fun i j => by
            show some (if decide (i < j) = true then V.int j else V.int i) = _
            by_cases h : i < j
            · simp [h, show max i j = j by omega]
            · simp [h, show max i j = i by omega]
          unfold nuMax3
          rw [e, Option.bind_some, e]
theorem rc_min3 : RuleC X W (rNuC3 nuMin3) vmin3 := fun ds vs σ H B Q s dx p => by
  have h0 : vmin3 ds ≠ .stuck := fun z => by rw [z] at p; exact p
  match ds, h0 with
  | [.int i, .int j, .int k], _ =>
    cases dx with
    | cons h1 dx => cases dx with
      | cons h2 dx => cases dx with
        | cons h3 dx =>
          cases dx; cases h1; cases h2; cases h3
          refine ⟨.int i, .int j, .int k, .int (min (min i j) k), rfl, ?_, p _ H B (.refl s) (.int _)⟩
          have e : ∀ i j : Int, nuMin2 (.int i) (.int j) = some (.int (min i j)) := fun i j => by
            show some (if decide (j < i) = true then V.int j else V.int i) = _
            by_cases h : j < i
            · simp [h, show min i j = j by omega]
            · simp [h, show min i j = i by omega]
          unfold nuMin3
          rw [e, Option.bind_some, e]
theorem vmax3_ {f : PEnv → R (List D)} {p : Pos} {e : Expr} {es : List Expr} (hc : X.calm = true) (hm : X.mg "max" = none) (ha : VA X W (e :: es) f) (hg : Gl X "max" := by rfl) (he : starEach (e :: es) X.env = (false, eval e X.env) :: starEach es X.env := by rfl) (hpl : (backTo pos (starEach es X.env)).any (·.1) = false := by rfl) :
    VE X W (.Call (.Name "max" p) (e :: es) [] pos) (vapp vmax3 f) := vcB (call_max3Nu hc) rc_max3 hm (by decide +kernel) ha hg (by decide) (by decide) he hpl
theorem vmin3_ {f : PEnv → R (List D)} {p : Pos} {e : Expr} {es : List Expr} (hc : X.calm = true) (hm : X.mg "min" = none) (ha : VA X W (e :: es) f) (hg : Gl X "min" := by rfl) (he : starEach (e :: es) X.env = (false, eval e X.env) :: starEach es X.env := by rfl) (hpl : (backTo pos (starEach es X.env)).any (·.1) = false := by rfl) :
    VE X W (.Call (.Name "min" p) (e :: es) [] pos) (vapp vmin3 f) := vcB (call_min3Nu hc) rc_min3 hm (by decide +kernel) ha hg (by decide) (by decide) he hpl
@[simp] theorem vmax3_ap (i j k : Int) : vmax3 [.int i, .int j, .int k] = .ok (.int (max (max i j) k)) := rfl
@[simp] theorem vmin3_ap (i j k : Int) : vmin3 [.int i, .int j, .int k] = .ok (.int (min (min i j) k)) := rfl
/-! ### new lists: a + b, a[i:j] -/
def lcat : PyData → PyData → R (List PyData)
  | .list xs, .list ys => if xs.length + ys.length ≤ sizeLine then .ok (xs ++ ys) else .stuck
  | _, _ => .stuck
def fcat (f g : PEnv → R PyData) : PEnv → R (List PyData) := fun ρ => (f ρ).bind fun d => (g ρ).bind fun e => lcat d e
@[simp] theorem fcat_ap (f g : PEnv → R PyData) (ρ : PEnv) : fcat f g ρ = (f ρ).bind fun d => (g ρ).bind fun e => lcat d e := rfl
@[simp] theorem lcat_list {xs ys : List PyData} (h : xs.length + ys.length ≤ 16777216) : lcat (.list xs) (.list ys) = .ok (xs ++ ys) := if_pos (by rw [szL]; exact h)
theorem vcat_f (ha : VE X W a fa) (hb : VE X W b fb) : VFr X W (.BinOp a .Add b pos) (fcat fa fb) := by
  obtain ⟨ta, pa, qa⟩ := ha.ex
  obtain ⟨tb, pb, qb⟩ := hb.ex
  refine ⟨_, pe_op op_catL pa pb, fun σ H B ρ Q s rf p => ?_⟩
  refine two qa qb s rf p fun d e x y H' B' ex sm dx dy pg => ?_
  cases dx <;> first | exact pg.elim | skip
  cases dy <;> first | exact pg.elim | skip
  rename_i h1 h2 _ _ _ h3 h4
  simp only [lcat] at pg
  split at pg
  · rename_i hz
    refine ⟨_, _, _, _, rfl, rfl, Rd.mono ex.bh h1, Rd.mono ex.bh h3, by rw [IsAll.len h2, IsAll.len h4]; exact hz, fun q hq => ?_⟩
    exact pg q _ _ B' (ex.trans (Ext.own ex.bh hq)) upd_same (Same.free ex.hh hq) (Same.free ex.bh hq) (IsAll.append h2 h4)
  · exact pg.elim
def lcut (lo hi : Option Int) : PyData → R (List PyData)
  | .list xs => .ok (cutL xs lo hi)
  | _ => .stuck
def fslice (f : PEnv → R PyData) (l u : PEnv → R (Option Int)) : PEnv → R (List PyData) := fun ρ => (f ρ).bind fun d => (l ρ).bind fun lo => (u ρ).bind fun hi => lcut lo hi d
@[simp] theorem fslice_ap (f : PEnv → R PyData) (l u : PEnv → R (Option Int)) (ρ : PEnv) : fslice f l u ρ = (f ρ).bind fun d => (l ρ).bind fun lo => (u ρ).bind fun hi => lcut lo hi d := rfl
@[simp] theorem lcut_list (lo hi : Option Int) (xs : List PyData) : lcut lo hi (.list xs) = .ok (cutL xs lo hi) := rfl
theorem vslice_f {lo hi : Option Expr} {p2 : Pos} {fl fu : PEnv → R (Option Int)} (ha : VE X W a fa) (hl : VO1 X W lo fl) (hu : VO1 X W hi fu) : VFr X W (.Subscript a (.Slice lo hi none p2) pos) (fslice fa fl fu) := by
  obtain ⟨ta, pa, qa⟩ := ha.ex
  obtain ⟨tl, pl, ql⟩ := hl.ex
  obtain ⟨tu, pu, qu⟩ := hu.ex
  refine ⟨_, pe_slice (SlR.or sl_list sl_tupA) pa pl pu, fun σ H B ρ Q s rf p => ?_⟩
  unfold fslice at p
  refine one qa s rf p fun d x H1 B1 e1 sm dx p1 => ?_
  refine ql σ H1 B1 ρ _ e1.bh (rf.mono e1.bb) ?_
  generalize fl ρ = rl at p1 ⊢
  cases rl with
  | stuck => exact p1
  | err c => exact p1
  | ok lo' =>
    intro H2 B2 e2
    refine qu σ H2 B2 ρ _ e2.bh (rf.mono (e1.trans e2).bb) ?_
    simp only [R.bind_ok] at p1
    generalize fu ρ = ru at p1 ⊢
    cases ru with
    | stuck => exact p1
    | err c => exact fun H' z => p1 H' (e2.hh.trans z)
    | ok hi' =>
      intro H3 B3 e3
      simp only [R.bind_ok] at p1
      have E := (e1.trans e2).trans e3
      have dx3 := Is.mono (e2.trans e3).bb dx
      cases dx3 <;> first | exact p1.elim | skip
      rename_i h1 h2
      refine .inl ⟨_, _, rfl, .inl (Rd.mono e3.bh h1), fun q hq => ?_⟩
      exact p1 q _ _ B3 (E.trans (Ext.own e3.bh hq)) upd_same (Same.free E.hh hq) (Same.free e3.bh hq) (IsAll.cut h2 _ _)
end
end VL

namespace VL
open PySem PySem.Spec PyProof.Rows L2
/-! ### a call whose result is one's own -/
theorem RS.push {K : PySem.W.Frag} {F0 H0 F H F' H' : Hp} {σ : L2.St} {ρ : OEnv} {v : V} {o : O} (r : RS K F0 H0 F H σ ρ) (q : RV K F H F' H' v o) : RS K F0 H0 F' H' (some v :: σ) (some o :: ρ) := by
  obtain ⟨fps, s, hs⟩ := r.ex
  obtain ⟨fp, ow, h1⟩ := q
  have lst := s.lstAt
  refine ⟨fp ++ fps, .ow ow (s.keep h1.f0 fun a ha => ?_), ?_, fun a ha => ?_, h1.fh, hs.f0.trans h1.f0, hs.h0.trans h1.h0, fun a z1 z2 => ?_⟩
  · obtain ⟨vs, z⟩ := lst a ha
    rw [z]; exact h1.h0 _ _ z
  · refine List.nodup_append.mpr ⟨h1.nd, hs.nd, fun a ha b hb e => ?_⟩
    subst e
    obtain ⟨vs, z⟩ := lst a hb
    rw [(h1.ow a ha).2] at z
    cases z
  · rcases List.mem_append.mp ha with m | m
    · exact ⟨(h1.ow a m).1, Same.free hs.h0 (h1.ow a m).2⟩
    · refine ⟨?_, (hs.ow a m).2⟩
      obtain ⟨vs, z⟩ := lst a m
      cases q : F' a with
      | none => rfl
      | some u =>
        have := h1.nw a (hs.ow a m).1 (by rw [q]; exact fun w => nomatch w)
        rw [z] at this
        cases this
  · cases q : F a with
    | some u => exact hs.nw a z1 (by rw [q]; exact fun w => nomatch w)
    | none => exact Same.free hs.h0 (h1.nw a q z2)
section
variable {X : Cx} {W : WX} {a b c e : Expr} {es : List Expr} {pos : Pos} {hx : OEnv → R PyData} {k : Nat}
def oCall (g : List PyData → R O) (fa : PEnv → R (List PyData)) : OEnv → R (O × OEnv) := fun ρ => (fa (viewF ρ)).bind fun ds => (g ds).bind fun o => .ok (o, ρ)
@[simp] theorem oCall_ap (g : List PyData → R O) (fa : PEnv → R (List PyData)) (ρ : OEnv) : oCall g fa ρ = (fa (viewF ρ)).bind fun ds => (g ds).bind fun o => .ok (o, ρ) := rfl
theorem vo_call {x : Str} {f : Addr} {fd : FuncData} {ps : List Str} {n : Nat} {g : List PyData → R O} {fa : PEnv → R (List PyData)} {p : Pos} {e : Expr} (F : FnOk X.prog X.w X.K X.mg X.base (L2.CX X.prog X.w) k f fd ps (spO X.K X.mg n g)) (hr : Room k X.A) (hm : X.mg x = some (.ref f)) (hk : PySem.W.keepIn X.K (.ref f) = true) (hb : Binds X.K fd ps [])
    (tk : Takes X W) (ha : VAn X W n (e :: es) fa) (hg : Gl X x := by rfl) (hdb : (x == ("__debug__" : Str)) = false := by decide) (he : starEach (e :: es) X.env = (false, eval e X.env) :: starEach es X.env := by rfl) (hpl : (backTo pos (starEach es X.env)).any (·.1) = false := by rfl) :
    VO X W (.Call (.Name x p) (e :: es) [] pos) (oCall g fa) := by
  obtain ⟨t, pt, qt⟩ := ha.va.ex
  refine ⟨_, pe_callS F hr hg hm hk hb (fun σ => passAt tk σ) pt hdb he hpl, fun σ H F0 H0 Fz ρ Q r pr => ?_⟩
  obtain ⟨fps, s, hs⟩ := id r.ex
  have hl := ha.len (viewF ρ)
  unfold oCall at pr
  generalize hfa : fa (viewF ρ) = rr at pr hl
  cases rr with
  | stuck => exact pr.elim
  | err c => exact qt σ H Fz (viewF ρ) _ hs.fh s.rfF (by rw [hfa]; exact pr)
  | ok ds =>
    refine qt σ H Fz (viewF ρ) _ hs.fh s.rfF ?_
    rw [hfa]
    intro xs H1 F1 e1 dx
    refine ⟨by rw [IsAll.len dx]; exact hl ds rfl, ds, F1, e1.bh, dx, ?_⟩
    simp only [R.bind_ok] at pr
    generalize g ds = rg at pr ⊢
    cases rg with
    | stuck => exact pr
    | err c => exact fun H' z => pr H' (e1.hh.trans z)
    | ok o => exact fun v H' F' rv => pr v H' F' ((r.ext e1).push rv)
/-! ### x.pop(), x.pop(i) -/
theorem OwnL.pick {K : PySem.W.Frag} {F H : Hp} : ∀ {os : List O} {vs : List V} {fp : List Addr} {j : Nat} {o : O}, OwnL K F H vs os fp → os[j]? = some o → ∃ y f1 f2, vs[j]? = some y ∧ Own K F H y o f1 ∧ OwnL K F H (vs.eraseIdx j) (os.eraseIdx j) f2 ∧ fp.Perm (f1 ++ f2)
  | [], _, _, _, _, h, e => by simp at e
  | p :: os, _, _, 0, o, h, e => by
    cases h with
    | @cons v vs _ _ f1 f2 h1 h2 =>
      simp at e
      subst e
      exact ⟨v, f1, f2, rfl, h1, h2, .refl _⟩
  | p :: os, _, _, j + 1, o, h, e => by
    cases h with
    | @cons v vs _ _ f1 f2 h1 h2 =>
      obtain ⟨y, g1, g2, z1, z2, z3, z4⟩ := OwnL.pick (j := j) h2 (by simpa using e)
      refine ⟨y, g1, f1 ++ g2, by simpa using z1, z2, .cons h1 z3, ?_⟩
      refine (List.Perm.append_left f1 z4).trans ?_
      rw [← List.append_assoc, ← List.append_assoc]
      exact List.Perm.append_right _ List.perm_append_comm
theorem RS.take {K : PySem.W.Frag} {F0 H0 F H : Hp} {σ : L2.St} {ρ : OEnv} {i j : Nat} {os : List O} {o : O} (r : RS K F0 H0 F H σ ρ) (ei : ρ[i]? = some (some (.lst os))) (ej : os[j]? = some o) :
    ∃ a vs y, σ[i]? = some (some (.ref a)) ∧ H a = some (.lst vs) ∧ vs.length = os.length ∧ vs[j]? = some y ∧ RS K F0 H0 F (upd H a (.lst (vs.eraseIdx j))) (some y :: σ) (some o :: ρ.set i (some (.lst (os.eraseIdx j)))) := by
  obtain ⟨fps, s, hs⟩ := r.ex
  obtain ⟨v, fp, fpr, e1, e2, e3, e4, e5⟩ := s.split ei
  cases e2 with
  | @lst a vs _ fpi ha hl =>
    obtain ⟨y, g1, g2, z1, z2, z3, z4⟩ := hl.pick ej
    refine ⟨a, vs, y, e1, ha, hl.len, z1, ?_⟩
    have hp : Hs F0 H0 F H ((a :: (g1 ++ g2)) ++ fpr) := (hs.perm e3).perm (List.Perm.append_right fpr (List.Perm.cons a z4))
    have nd := List.nodup_append.mp hp.nd
    have na := List.nodup_cons.mp nd.1
    have na_r : a ∉ fpr := fun m => nd.2.2 a List.mem_cons_self a m rfl
    have hk : ∀ c, c ≠ a → upd H a (.lst (vs.eraseIdx j)) c = H c := fun c hc => upd_ne hc
    have l1 : Own K F (upd H a (.lst (vs.eraseIdx j))) y o g1 := z2.keep (Same.refl F) fun c hc => hk c fun e => na.1 (e ▸ List.mem_append_left _ hc)
    have l2 : OwnL K F (upd H a (.lst (vs.eraseIdx j))) (vs.eraseIdx j) (os.eraseIdx j) g2 := z3.keep (Same.refl F) fun c hc => hk c fun e => na.1 (e ▸ List.mem_append_right _ hc)
    obtain ⟨fps', w1, w2⟩ := e5 F (upd H a (.lst (vs.eraseIdx j))) (.ref a) (.lst (os.eraseIdx j)) (a :: g2) (.lst upd_same l2) (Same.refl F) fun c hc => hk c fun e => na_r (e ▸ hc)
    rw [set_same e1] at w1
    have an : F a = none ∧ H0 a = none := hp.ow a (List.mem_append_left _ List.mem_cons_self)
    have base : Hs F0 H0 F (upd H a (.lst (vs.eraseIdx j))) ((a :: (g1 ++ g2)) ++ fpr) := ⟨hp.nd, hp.ow, fun c u q => by
      rw [hk c (fun e => by rw [e, an.1] at q; cases q)]; exact hp.fh _ _ q, hp.f0, fun c u q => by
      rw [hk c (fun e => by rw [e, an.2] at q; cases q)]; exact hp.h0 _ _ q, hp.nw⟩
    refine ⟨g1 ++ fps', .ow l1 w1, base.perm ?_⟩
    have p1 : ((a :: (g1 ++ g2)) ++ fpr).Perm (g1 ++ ((a :: g2) ++ fpr)) := by
      have : ((a :: (g1 ++ g2)) ++ fpr).Perm ((g1 ++ (a :: g2)) ++ fpr) := List.Perm.append_right fpr List.perm_middle.symm
      rw [List.append_assoc] at this
      exact this
    exact p1.trans (List.Perm.append_left g1 w2.symm)
/-- x.pop() -/
def oPop (i : Nat) : OEnv → R (O × OEnv) := fun ρ => match ρ[i]? with
  | some (some (.lst os)) => (match os[os.length - 1]? with
    | some o => .ok (o, ρ.set i (some (.lst (os.eraseIdx (os.length - 1)))))
    | none => .stuck)
  | _ => .stuck
theorem vo_pop (i : Nat) {x : Str} {p1 p2 p3 : Pos} (mk : PE X (.Call (.Attribute (.Name x p1) "pop" p2) [] [] p3) (tBM0 X.K "list" rPop (tVar i))) :
    VO X W (.Call (.Attribute (.Name x p1) "pop" p2) [] [] p3) (oPop i) := by
  refine ⟨_, mk, fun σ H F0 H0 F ρ Q r pr => ?_⟩
  unfold oPop at pr
  split at pr
  · rename_i os e0
    split at pr
    · rename_i o eo
      obtain ⟨ad, vs, y, e1, e2, e3, e4, r2⟩ := r.take e0 eo
      refine ⟨.ref ad, e1, .inl ⟨rfl, _, .inl (.inl e2)⟩, ad, vs, y, rfl, rfl, e2, by rw [e3]; exact e4, ?_⟩
      have : vs.dropLast = vs.eraseIdx (os.length - 1) := by rw [← e3, List.eraseIdx_length_sub_one]
      rw [this]
      exact pr y _ F r2
    · exact pr.elim
  · exact pr.elim
/-- x.pop(k) -/
noncomputable def oPopAt (i : Nat) (hk : OEnv → R PyData) : OEnv → R (O × OEnv) := fun ρ => match ρ[i]? with
  | some (some (.lst os)) => (hk ρ).bind fun d => match d with
    | .int j => @ite _ (0 ≤ j ∧ j < 16777216) (Classical.propDecidable _) (match os[j.toNat]? with
      | some o => .ok (o, ρ.set i (some (.lst (os.eraseIdx j.toNat))))
      | none => .stuck) .stuck
    | _ => .stuck
  | _ => .stuck
theorem vo_popAt (i : Nat) {x : Str} {p1 p2 p3 : Pos} (mk : ∀ {t : TE}, PE X e t → PE X (.Call (.Attribute (.Name x p1) "pop" p2) [e] [] p3) (tBM X.K "list" rPopAt (tVar i) (tCons t tNil))) (he : VX X W e hx) :
    VO X W (.Call (.Attribute (.Name x p1) "pop" p2) [e] [] p3) (oPopAt i hx) := by
  obtain ⟨t, p, q⟩ := he.ex
  refine ⟨_, mk p, fun σ H F0 H0 F ρ Q r pr => ?_⟩
  unfold oPopAt at pr
  split at pr
  · rename_i os e0
    obtain ⟨fps, sl, hss⟩ := id r.ex
    obtain ⟨v, fp, fpr, e1, e2, e3, e4, e5⟩ := sl.split e0
    cases e2 with
    | @lst ad vs0 _ fpi ha hl =>
      refine ⟨.ref ad, e1, .inl ⟨rfl, _, .inl (.inl ha)⟩, ?_⟩
      refine q σ H F0 H0 F ρ _ r ?_
      generalize hx ρ = rk at pr ⊢
      cases rk with
      | stuck => exact pr
      | err c => exact pr
      | ok d =>
        intro y0 H' F' ex dx
        simp only [R.bind_ok] at pr
        cases dx <;> first | exact pr.elim | skip
        rename_i j
        simp only at pr
        split at pr
        · rename_i hj
          split at pr
          · rename_i o eo
            obtain ⟨ad', vs, y, w1, w2, w3, w4, r2⟩ := (r.ext ex).take e0 eo
            rw [e1] at w1
            cases w1
            obtain ⟨hjl, _⟩ := List.getElem?_eq_some_iff.mp eo
            refine ⟨ad, vs, j, j.toNat, y, rfl, rfl, w2, by omega, by omega, ?_, w4, pr y _ F' r2⟩
            unfold seqIndex?
            have hb : (decide (0 ≤ j) && decide (j < (os.length : Int))) = true := by
              rw [Bool.and_eq_true, decide_eq_true_eq, decide_eq_true_eq]; omega
            rw [w3, if_neg (show ¬ j < 0 by omega)]
            exact if_pos hb
          · exact pr.elim
        · exact pr.elim
  · exact pr.elim
theorem oPopAt_ok {i : Nat} {hk : OEnv → R PyData} {ρ : OEnv} {os : List O} {j : Nat} {o : O} (e : ρ[i]? = some (some (.lst os))) (hkv : hk ρ = .ok (.int (j : Int))) (hj : j < 16777216) (ho : os[j]? = some o) : oPopAt i hk ρ = .ok (o, ρ.set i (some (.lst (os.eraseIdx j)))) := by
  unfold oPopAt
  simp only [e, hkv, R.bind_ok]
  rw [if_pos (by omega)]
  simp only [Int.toNat_natCast, ho]
theorem erase_map {α β : Type} (f : α → β) : ∀ (l : List α) (m : Nat), (l.map f).eraseIdx m = (l.eraseIdx m).map f
  | [], _ => rfl
  | _ :: _, 0 => rfl
  | x :: l, m + 1 => by
    show f x :: (l.map f).eraseIdx m = f x :: (l.eraseIdx m).map f
    rw [erase_map f l m]
/-! ### x.reverse() -/
theorem RS.revAt {K : PySem.W.Frag} {F0 H0 F H : Hp} {σ : L2.St} {ρ : OEnv} {i : Nat} {os : List O} (r : RS K F0 H0 F H σ ρ) (ei : ρ[i]? = some (some (.lst os))) :
    ∃ a vs, σ[i]? = some (some (.ref a)) ∧ H a = some (.lst vs) ∧ RS K F0 H0 F (upd H a (.lst vs.reverse)) σ (ρ.set i (some (.lst os.reverse))) := by
  obtain ⟨fps, s, hs⟩ := r.ex
  obtain ⟨v, fp, fpr, e1, e2, e3, e4, e5⟩ := s.split ei
  cases e2 with
  | @lst a vs _ fpi ha hl =>
    obtain ⟨fp', z1, z2⟩ := hl.rev
    refine ⟨a, vs, e1, ha, ?_⟩
    have hp : Hs F0 H0 F H ((a :: fpi) ++ fpr) := hs.perm e3
    have nd := List.nodup_append.mp hp.nd
    have na := List.nodup_cons.mp nd.1
    have na_r : a ∉ fpr := fun m => nd.2.2 a List.mem_cons_self a m rfl
    have hk : ∀ c, c ≠ a → upd H a (.lst vs.reverse) c = H c := fun c hc => upd_ne hc
    have l2 : OwnL K F (upd H a (.lst vs.reverse)) vs.reverse os.reverse fp' := z1.keep (Same.refl F) fun c hc => hk c fun e => na.1 (z2.mem_iff.mp (e ▸ hc))
    obtain ⟨fps', w1, w2⟩ := e5 F (upd H a (.lst vs.reverse)) (.ref a) (.lst os.reverse) (a :: fp') (.lst upd_same l2) (Same.refl F) fun c hc => hk c fun e => na_r (e ▸ hc)
    rw [set_same e1] at w1
    have an : F a = none ∧ H0 a = none := hp.ow a (List.mem_append_left _ List.mem_cons_self)
    have base : Hs F0 H0 F (upd H a (.lst vs.reverse)) ((a :: fpi) ++ fpr) := ⟨hp.nd, hp.ow, fun c u q => by
      rw [hk c (fun e => by rw [e, an.1] at q; cases q)]; exact hp.fh _ _ q, hp.f0, fun c u q => by
      rw [hk c (fun e => by rw [e, an.2] at q; cases q)]; exact hp.h0 _ _ q, hp.nw⟩
    exact ⟨fps', w1, base.perm ((List.Perm.append_right fpr (List.Perm.cons a z2.symm)).trans w2.symm)⟩
def sRev (i : Nat) : OEnv → SR := fun ρ => match ρ[i]? with
  | some (some (.lst os)) => .nx (ρ.set i (some (.lst os.reverse)))
  | _ => .stuck
theorem vs_rev (i : Nat) {x : Str} {p1 p2 p3 : Pos} (mk : PE X (.Call (.Attribute (.Name x p1) "reverse" p2) [] [] p3) (tBM0 X.K "list" rReverse (tVar i))) (hs : swapsWith (.Call (.Attribute (.Name x p1) "reverse" p2) [] [] p3) none pos.line X.env = pure false := by rfl) :
    VS X W (.Expr (.Call (.Attribute (.Name x p1) "reverse" p2) [] [] p3) pos) (sRev i) := by
  refine ⟨_, ps_expr mk hs, fun D σ H F0 H0 F ρ r pr => ?_⟩
  unfold sRev at pr
  split at pr
  · rename_i os e0
    obtain ⟨ad, vs, e1, e2, r2⟩ := r.revAt e0
    exact ⟨.ref ad, e1, .inl ⟨rfl, _, .inl (.inl e2)⟩, ad, vs, rfl, rfl, e2, pr _ _ _ r2⟩
  · exact pr.elim
end
/-! ### evaluation -/
def finO : SR → R O
  | .rt o => .ok o
  | .nx _ => .ok (.fz .none)
  | .err c _ => .err c
  | _ => .stuck
@[simp] theorem finO_rt (o : O) : finO (.rt o) = .ok o := rfl
@[simp] theorem finO_nx (ρ : OEnv) : finO (.nx ρ) = .ok (.fz .none) := rfl
@[simp] theorem finO_err (c : Str) (ρ : OEnv) : finO (.err c ρ) = .err c := rfl
theorem runB_fin (n : Nat) (g : OEnv → SR) (ds : List PyData) : runB n g ds = finO (g (startO n ds)) := by
  unfold runB
  cases g (startO n ds) <;> rfl
theorem frz_of {n : Nat} {g : OEnv → SR} {ds : List PyData} {o : O} (h : runB n g ds = .ok o) : frz (runB n g) ds = .ok o.data := by
  unfold frz; rw [h]; rfl
end VL

namespace VL
open PySem PySem.Spec PyProof.Rows L2
/-! ### l.index(x), l.count(n) -/
def vindex : PyData → PyData → R PyData
  | .list ds, d => if SeqAt.shaped (.list ds) = true ∧ SeqAt.shaped d = true then (match ds.findIdx? (fun z => PyData.eqv z d) with
    | some j => .ok (.int (j : Nat))
    | none => .stuck) else .stuck
  | _, _ => .stuck
def isL : PyData → R PyData
  | .list ds => .ok (.list ds)
  | _ => .stuck
def vindexF (fa fb : PEnv → R PyData) : PEnv → R PyData := fun ρ => (fa ρ).bind fun d => (isL d).bind fun d => (fb ρ).bind fun e => vindex d e
@[simp] theorem vindexF_ap (fa fb : PEnv → R PyData) (ρ : PEnv) : vindexF fa fb ρ = (fa ρ).bind fun d => (isL d).bind fun d => (fb ρ).bind fun e => vindex d e := rfl
@[simp] theorem isL_list (ds : List PyData) : isL (.list ds) = .ok (.list ds) := rfl
section
variable {X : Cx} {W : WX} {a b : Expr} {fa fb : PEnv → R PyData} {k : Nat}
theorem vindex_ {p2 p3 : Pos} (hr : Room k X.A) (ha : VE X W a fa) (hb : VE X W b fb) (hs : starEach [b] X.env = (false, eval b X.env) :: starEach [] X.env := by rfl)
    (hbase : attributeBase a "index" X.env (eval a X.env) = eval a X.env := by rfl)
    (hfew : ((backTo p3 (starEach [b] X.env)).all (fun x => !x.1) && (backToKw p3 (keywordEach [] X.env)).all (fun x => x.1.isSome)
      && decide ([b].length + ([] : List Keyword).length + (if ([] : List Keyword).isEmpty then 0 else 1) < 30)) = true := by rfl)
    (hline : (p2.endLine == p3.line) = true := by rfl) (hplain : (backTo p3 (starEach [] X.env)).any (·.1) = false := by rfl) : VE X W (.Call (.Attribute a "index" p2) [b] [] p3) (vindexF fa fb) := by
  obtain ⟨ta, pa, qa⟩ := ha.ex
  obtain ⟨tb, pb, qb⟩ := hb.ex
  refine VE.mk' (pe_bm PySem.F.plainAttrs_list PySem.F.slot_list_index PySem.F.type_list_index (mt_indexD (hu65 hr)) pa (pa_cons pb pa_nil hs) hbase hfew hline hs hplain) fun σ H B ρ Q s rf pr => ?_
  unfold vindexF at pr
  refine qa σ H B ρ _ s rf ?_
  generalize fa ρ = ra at pr ⊢
  cases ra with
  | stuck => exact pr
  | err c => exact pr
  | ok d =>
    intro x H1 B1 e1 sm1 d1
    simp only [R.bind_ok] at pr
    have tv : (tyV X.K "list" x H1 ∧ isL d = .ok d) ∨ isL d = .stuck := by
      cases d1 with
      | lst h1 h2 => exact .inl ⟨.inl ⟨rfl, _, .inl (Rd.mono e1.bh h1)⟩, rfl⟩
      | _ => exact .inr rfl
    rcases tv with ⟨tv, el⟩ | no
    · refine ⟨tv, ?_⟩
      rw [el] at pr
      simp only [R.bind_ok] at pr
      refine qb σ H1 B1 ρ _ e1.bh (rf.mono e1.bb) ?_
      generalize fb ρ = rb at pr ⊢
      cases rb with
      | stuck => exact pr
      | err c => exact fun H' z => pr H' (e1.hh.trans z)
      | ok e =>
        intro y H2 B2 e2 sm2 d2
        simp only [R.bind_ok] at pr
        have E := e1.trans e2
        have d1' := Is.mono e2.bb d1
        cases d1' <;> first | exact pr.elim | skip
        rename_i h1 h2
        simp only [vindex] at pr
        split at pr
        · rename_i hsh
          split at pr
          · rename_i j hj
            obtain ⟨hj1, hj2, hj3⟩ := List.findIdx?_eq_some_iff_getElem.mp hj
            have dd : Is X.K B2 (.ref _) (.list _) := .lst h1 h2
            refine ⟨_, y, e, _, j, _, rfl, rfl, (Is.mono E.bh dd).dp (SeqAt.canLay_of_shaped hsh.1), (Is.mono E.bh d2).dp (SeqAt.canLay_of_shaped hsh.2), hsh.1, hsh.2, List.getElem?_eq_getElem hj1, hj2, fun m z' hm hz => ?_, pr _ H2 B2 E (.int _)⟩
            obtain ⟨q1, q2⟩ := List.getElem?_eq_some_iff.mp hz
            have := hj3 m hm
            rw [q2] at this
            simpa using this
          · exact pr.elim
        · exact pr.elim
    · rw [no] at pr; exact pr.elim
end
end VL

namespace VL
open PySem PySem.Spec PyProof.Rows L2
/-! ### l[::-1], sorted(ints) -/
def lrev : PyData → R (List PyData)
  | .list xs => .ok xs.reverse
  | _ => .stuck
def frev (f : PEnv → R PyData) : PEnv → R (List PyData) := fun ρ => (f ρ).bind lrev
@[simp] theorem frev_ap (f : PEnv → R PyData) (ρ : PEnv) : frev f ρ = (f ρ).bind lrev := rfl
@[simp] theorem lrev_list (xs : List PyData) : lrev (.list xs) = .ok xs.reverse := rfl
/-- ints in their order -/
def srtI (ns : List Int) : List Int := ns.mergeSort fun a b => decide (a ≤ b)
theorem srtI_perm (ns : List Int) : (srtI ns).Perm ns := List.mergeSort_perm ns _
theorem srtI_ord (ns : List Int) : (srtI ns).Pairwise (· ≤ ·) := by
  have := List.pairwise_mergeSort (le := fun a b : Int => decide (a ≤ b)) (fun a b c h1 h2 => by simp at *; omega) (fun a b => by simp; omega) ns
  exact this.imp fun h => by simpa using h
theorem srtI_eq {ns ms : List Int} (p : ms.Perm ns) (o : ms.Pairwise (· ≤ ·)) : ms = srtI ns :=
  List.Perm.eq_of_pairwise (fun a b _ _ h1 h2 => Int.le_antisymm h1 h2) o (srtI_ord ns) (p.trans (srtI_perm ns).symm)
def lsort : PyData → R (List PyData)
  | .list xs => (match intsOf xs with
    | some ns => .ok ((srtI ns).map .int)
    | none => .stuck)
  | _ => .stuck
def fsort (f : PEnv → R PyData) : PEnv → R (List PyData) := fun ρ => (f ρ).bind lsort
@[simp] theorem fsort_ap (f : PEnv → R PyData) (ρ : PEnv) : fsort f ρ = (f ρ).bind lsort := rfl
theorem lsort_ints (ns : List Int) : lsort (.list (ns.map .int)) = .ok ((srtI ns).map .int) := by simp only [lsort, intsOf_map]
section
variable {X : Cx} {W : WX} {a : Expr} {fa : PEnv → R PyData}
theorem vrev_f {k : Nat} {p1 p2 p3 pos : Pos} (ha : VE X W a fa) : VFr X W (.Subscript a (.Slice none none (some (.UnaryOp .USub (.Constant (.int 1) k p1) p2)) p3) pos) (frev fa) := by
  obtain ⟨ta, pa, qa⟩ := ha.ex
  refine ⟨_, pe_revL pa, fun σ H B ρ Q s rf p => ?_⟩
  refine one qa s rf p fun d x H' B' ex sm dx pg => ?_
  cases dx <;> first | exact pg.elim | skip
  rename_i h1 h2
  exact ⟨_, _, rfl, .inl (Rd.mono ex.bh h1), fun q hq => pg q _ _ B' (ex.trans (Ext.own ex.bh hq)) upd_same (Same.free ex.hh hq) (Same.free ex.bh hq) (IsAll.reverse h2)⟩
theorem vsorted_f {p pos : Pos} (hm : X.mg "sorted" = none) (ha : VE X W a fa) (hg : Gl X "sorted" := by rfl) (he : starEach [a] X.env = (false, eval a X.env) :: starEach [] X.env := by rfl) (hpl : (backTo pos (starEach [] X.env)).any (·.1) = false := by rfl) :
    VFr X W (.Call (.Name "sorted" p) [a] [] pos) (fsort fa) := by
  obtain ⟨ta, pa, qa⟩ := ha.ex
  refine ⟨_, pe_callB cr_sortedI hg hm (by decide +kernel) (pa_cons pa pa_nil he) (by decide) (by decide) he hpl, fun σ H B ρ Q s rf pr => ?_⟩
  refine one qa s rf pr fun d x H' B' ex sm dx pg => ?_
  cases dx <;> first | exact pg.elim | skip
  rename_i h1 h2
  simp only [lsort] at pg
  split at pg
  · rename_i ns hi
    rw [intsOf_some hi] at h2
    have e := is_ints h2
    subst e
    refine ⟨_, ns, rfl, .inl (Rd.mono ex.bh h1), fun ns' q hp ho hq => ?_⟩
    have e := srtI_eq hp ho
    subst e
    exact pg q _ _ B' (ex.trans (Ext.own ex.bh hq)) upd_same (Same.free ex.hh hq) (Same.free ex.bh hq) (ints_is _)
  · exact pg.elim
end
end VL

namespace VL
open PySem PySem.Spec PyProof.Rows
/-! ### more laws of loops and comprehensions -/
/-- a loop that leaves at the first bad item, and else keeps its state -/
theorem forL_chk {kt : PyData → R (List (Nat × PyData))} {kl : OEnv → OEnv} {gb : OEnv → SR} (E : OEnv) (bad : PyData → Bool) (r : O) : ∀ {ds : List PyData},
    (∀ d ∈ ds, (bad d = true → ∃ bs, kt d = .ok bs ∧ gb (setsO E bs) = .rt r) ∧ (bad d = false → ∃ bs ρ', kt d = .ok bs ∧ gb (setsO E bs) = .nx ρ' ∧ kl ρ' = E)) →
    forL kt kl gb ds E = if ds.any bad = true then .rt r else .nx E
  | [], _ => rfl
  | d :: ds, h => by
    have ih := forL_chk E bad r (ds := ds) fun x hx => h x (List.mem_cons_of_mem _ hx)
    obtain ⟨h1, h2⟩ := h d List.mem_cons_self
    cases hb : bad d with
    | true =>
      obtain ⟨bs, k1, k2⟩ := h1 hb
      simp only [forL, k1, k2, List.any_cons, hb, Bool.true_or, if_true]
    | false =>
      obtain ⟨bs, ρ', k1, k2, k3⟩ := h2 hb
      simp only [forL, k1, k2, k3, List.any_cons, hb, Bool.false_or, ih]
theorem compL_map {kt : PyData → R (List (Nat × PyData))} {ft : PEnv → R Bool} {fe : PEnv → R PyData} {ρ : PEnv} (f : PyData → PyData) : ∀ {ds : List PyData}, (∀ d ∈ ds, ∃ bs, kt d = .ok bs ∧ ft (setsD ρ bs) = .ok true ∧ fe (setsD ρ bs) = .ok (f d)) → compL kt ft fe ρ ds = .ok (ds.map f)
  | [], _ => rfl
  | d :: ds, h => by
    obtain ⟨bs, h1, h2, h3⟩ := h d List.mem_cons_self
    have ih := compL_map f (ds := ds) fun x hx => h x (List.mem_cons_of_mem _ hx)
    simp only [compL, h1, R.bind_ok, h2, h3, calm_okk, ih, if_true, List.map_cons]
theorem compL_sub {kt : PyData → R (List (Nat × PyData))} {ft : PEnv → R Bool} {fe : PEnv → R PyData} {ρ : PEnv} (S : PyData → Prop) : ∀ {ds : List PyData}, (∀ d ∈ ds, ∃ bs b y, kt d = .ok bs ∧ ft (setsD ρ bs) = .ok b ∧ fe (setsD ρ bs) = .ok y ∧ S y) → ∃ ys, compL kt ft fe ρ ds = .ok ys ∧ (∀ y ∈ ys, S y) ∧ ys.length ≤ ds.length
  | [], _ => ⟨[], rfl, fun _ h => (nomatch h), Nat.le_refl _⟩
  | d :: ds, h => by
    obtain ⟨bs, b, y, h1, h2, h3, h4⟩ := h d List.mem_cons_self
    obtain ⟨ys, e, hs, hl⟩ := compL_sub S (ds := ds) fun x hx => h x (List.mem_cons_of_mem _ hx)
    cases b with
    | true =>
      exact ⟨y :: ys, by simp only [compL, h1, R.bind_ok, h2, h3, calm_okk, e, if_true], fun z hz => by
        rcases List.mem_cons.mp hz with q | q
        · subst q; exact h4
        · exact hs z q, by simp; omega⟩
    | false => exact ⟨ys, by simp only [compL, h1, R.bind_ok, h2, calm_okk, e]; rfl, hs, by simp; omega⟩
/-- a comprehension over a range of numbers, tests as values -/
theorem compL_range {i : Nat} {ft : PEnv → R Bool} {fe : PEnv → R PyData} {ρ : PEnv} (f : Nat → PyData) {lo : Int} {n : Nat} (h : ∀ k, k < n → ft (ρ.set i (some (.int (lo + (k : Int))))) = .ok true ∧ fe (ρ.set i (some (.int (lo + (k : Int))))) = .ok (f k)) :
    compL (gN i) ft fe ρ (rangeD lo n) = .ok ((List.range n).map f) := by
  have e : rangeD lo n = (List.range n).map fun k : Nat => PyData.int (lo + (k : Int)) := rfl
  have gen : ∀ l : List Nat, (∀ k ∈ l, k < n) → compL (gN i) ft fe ρ (l.map fun k : Nat => PyData.int (lo + (k : Int))) = .ok (l.map f) := by
    intro l
    induction l with
    | nil => intro _; rfl
    | cons k l ih =>
      intro hl
      obtain ⟨h1, h2⟩ := h k (hl k List.mem_cons_self)
      have := ih fun x hx => hl x (List.mem_cons_of_mem _ hx)
      simp only [List.map_cons, compL, gN_ap, R.bind_ok, setsD_cons, setsD_nil, h1, h2, calm_okk, this, if_true]
  rw [e]
  exact gen _ fun k hk => List.mem_range.mp hk
theorem vall_bools (bs : List Bool) : vall [.list (bs.map .bool)] = .ok (.bool (bs.all id)) := by simp only [vall, boolsOf_map]
theorem vany_bools (bs : List Bool) : vany [.list (bs.map .bool)] = .ok (.bool (bs.any id)) := by simp only [vany, boolsOf_map]
theorem vsum_ints (ns : List Int) : vsum [.list (ns.map .int)] = .ok (.int ns.sum) := by simp only [vsum, intsOf_map]
theorem rangeD_succ (lo : Int) (n : Nat) : rangeD lo (n + 1) = .int lo :: rangeD (lo + 1) n := by
  unfold rangeD
  rw [List.range_succ_eq_map, List.map_cons, List.map_map]
  congr 1
  · simp
  · refine List.map_congr_left fun k _ => ?_
    simp only [Function.comp]
    congr 1
    omega
theorem rangeD_mem {lo : Int} {n : Nat} {d : PyData} (h : d ∈ rangeD lo n) : ∃ k : Nat, k < n ∧ d = .int (lo + (k : Int)) := by
  obtain ⟨i, hi⟩ := List.getElem?_of_mem h
  exact ⟨i, (rangeD_get hi).1, (rangeD_get hi).2⟩
theorem any_range {lo : Int} {n : Nat} {p : PyData → Bool} : (rangeD lo n).any p = (List.range n).any fun k => p (.int (lo + (k : Int))) := by
  unfold rangeD
  rw [List.any_map]
  rfl
end VL

namespace VL
open PySem PySem.Spec PyProof.Rows L2

/-! ### typed values -/
class Enc (α : Type) where
  e : α → PyData
open Enc (e)
structure Tup (α : Type) where
  l : List α
  deriving DecidableEq
structure T1 (α : Type) where
  a : α
  deriving DecidableEq
structure T3 (α β γ : Type) where
  a : α
  b : β
  c : γ
  deriving DecidableEq
structure T4 (α β γ δ : Type) where
  a : α
  b : β
  c : γ
  d : δ
  deriving DecidableEq
structure T5 (α β γ δ ε : Type) where
  a : α
  b : β
  c : γ
  d : δ
  x : ε
  deriving DecidableEq
structure T6 (α β γ δ ε ζ : Type) where
  a : α
  b : β
  c : γ
  d : δ
  x : ε
  y : ζ
  deriving DecidableEq
structure T7 (α β γ δ ε ζ η : Type) where
  a : α
  b : β
  c : γ
  d : δ
  x : ε
  y : ζ
  z : η
  deriving DecidableEq
instance : Enc Int := ⟨.int⟩
instance : Enc Bool := ⟨.bool⟩
instance : Enc Str := ⟨.str⟩
instance : Enc Unit := ⟨fun _ => .none⟩
instance : Enc PyData := ⟨fun d => d⟩
section
variable {α β γ δ ε ζ η θ ι : Type} [Enc α] [Enc β] [Enc γ] [Enc δ] [Enc ε] [Enc ζ] [Enc η] [Enc θ] [Enc ι]
instance : Enc (List α) := ⟨fun xs => .list (xs.map Enc.e)⟩
instance : Enc (Tup α) := ⟨fun xs => .tuple (xs.l.map Enc.e)⟩
instance : Enc (T1 α) := ⟨fun p => .tuple [e p.a]⟩
instance : Enc (α × β) := ⟨fun p => .tuple [e p.1, e p.2]⟩
instance : Enc (T3 α β γ) := ⟨fun p => .tuple [e p.a, e p.b, e p.c]⟩
instance : Enc (T4 α β γ δ) := ⟨fun p => .tuple [e p.a, e p.b, e p.c, e p.d]⟩
instance : Enc (T5 α β γ δ ε) := ⟨fun p => .tuple [e p.a, e p.b, e p.c, e p.d, e p.x]⟩
instance : Enc (T6 α β γ δ ε ζ) := ⟨fun p => .tuple [e p.a, e p.b, e p.c, e p.d, e p.x, e p.y]⟩
instance : Enc (T7 α β γ δ ε ζ η) := ⟨fun p => .tuple [e p.a, e p.b, e p.c, e p.d, e p.x, e p.y, e p.z]⟩
instance : Enc (Option α) := ⟨fun o => match o with | none => .none | some a => e a⟩
end

/-! ### what the typed side says of the untyped one -/
def TQ {α γ : Type} (f : α → γ) (x : R γ) (t : R α) : Prop := match t with
  | .ok a => x = .ok (f a)
  | .err c => x = .err c
  | .stuck => True
theorem TQ.ok {α γ : Type} {f : α → γ} {x : R γ} {t : R α} {a : α} (h : TQ f x t) (e : t = .ok a) : x = .ok (f a) := by subst e; exact h
theorem TQ.er {α γ : Type} {f : α → γ} {x : R γ} {t : R α} {c : Str} (h : TQ f x t) (e : t = .err c) : x = .err c := by subst e; exact h
theorem TQ.bind {α γ α' γ' : Type} {f : α → γ} {f' : α' → γ'} {x : R γ} {t : R α} {k : γ → R γ'} {l : α → R α'} (h : TQ f x t) (hk : ∀ a, TQ f' (k (f a)) (l a)) : TQ f' (x.bind k) (t.bind l) := by
  cases t with
  | stuck => trivial
  | err c => show TQ f' (x.bind k) (.err c); rw [show x = .err c from h]; rfl
  | ok a => rw [show x = .ok (f a) from h]; exact hk a
theorem TQ.cast {α γ : Type} {f : α → γ} {x y : R γ} {t : R α} (h : TQ f x t) (e : y = x) : TQ f y t := by rw [e]; exact h
abbrev TEq {α : Type} [Enc α] (x : R PyData) (t : R α) : Prop := TQ Enc.e x t
abbrev TL {α : Type} [Enc α] (x : R (List PyData)) (t : R (List α)) : Prop := TQ (List.map Enc.e) x t
abbrev TB (x t : R Bool) : Prop := TQ (fun b => b) x t
abbrev TO (x t : R (Option Int)) : Prop := TQ (fun b => b) x t
def b1 {α β : Type} (f : α → R β) (s : R α) : R β := s.bind f
def b2 {α β γ : Type} (f : α → β → R γ) (s : R α) (t : R β) : R γ := s.bind fun a => t.bind fun b => f a b
def b3 {α β γ δ : Type} (f : α → β → γ → R δ) (s : R α) (t : R β) (u : R γ) : R δ := s.bind fun a => t.bind fun b => u.bind fun c => f a b c
def b4 {α β γ δ ε : Type} (f : α → β → γ → δ → R ε) (s : R α) (t : R β) (u : R γ) (v : R δ) : R ε := s.bind fun a => t.bind fun b => u.bind fun c => v.bind fun d => f a b c d
def b5 {α β γ δ ε ζ : Type} (f : α → β → γ → δ → ε → R ζ) (s : R α) (t : R β) (u : R γ) (v : R δ) (w : R ε) : R ζ := s.bind fun a => t.bind fun b => u.bind fun c => v.bind fun d => w.bind fun x => f a b c d x
def b6 {α β γ δ ε ζ η : Type} (f : α → β → γ → δ → ε → ζ → R η) (s : R α) (t : R β) (u : R γ) (v : R δ) (w : R ε) (r : R ζ) : R η := s.bind fun a => t.bind fun b => u.bind fun c => v.bind fun d => w.bind fun x => r.bind fun y => f a b c d x y
def b7 {α β γ δ ε ζ η θ : Type} (f : α → β → γ → δ → ε → ζ → η → R θ) (s : R α) (t : R β) (u : R γ) (v : R δ) (w : R ε) (r : R ζ) (q : R η) : R θ := s.bind fun a => t.bind fun b => u.bind fun c => v.bind fun d => w.bind fun x => r.bind fun y => q.bind fun z => f a b c d x y z
def bite {α : Type} (c : R Bool) (s t : R α) : R α := c.bind fun b => if b then s else t
@[simp] theorem b1_ap {α β : Type} (f : α → R β) (s : R α) : b1 f s = s.bind f := rfl
@[simp] theorem b2_ap {α β γ : Type} (f : α → β → R γ) (s : R α) (t : R β) : b2 f s t = s.bind fun a => t.bind fun b => f a b := rfl
@[simp] theorem b3_ap {α β γ δ : Type} (f : α → β → γ → R δ) (s : R α) (t : R β) (u : R γ) : b3 f s t u = s.bind fun a => t.bind fun b => u.bind fun c => f a b c := rfl
@[simp] theorem b4_ap {α β γ δ ε : Type} (f : α → β → γ → δ → R ε) (s : R α) (t : R β) (u : R γ) (v : R δ) : b4 f s t u v = s.bind fun a => t.bind fun b => u.bind fun c => v.bind fun d => f a b c d := rfl
@[simp] theorem b5_ap {α β γ δ ε ζ : Type} (f : α → β → γ → δ → ε → R ζ) (s : R α) (t : R β) (u : R γ) (v : R δ) (w : R ε) : b5 f s t u v w = s.bind fun a => t.bind fun b => u.bind fun c => v.bind fun d => w.bind fun x => f a b c d x := rfl
@[simp] theorem b6_ap {α β γ δ ε ζ η : Type} (f : α → β → γ → δ → ε → ζ → R η) (s : R α) (t : R β) (u : R γ) (v : R δ) (w : R ε) (r : R ζ) : b6 f s t u v w r = s.bind fun a => t.bind fun b => u.bind fun c => v.bind fun d => w.bind fun x => r.bind fun y => f a b c d x y := rfl
@[simp] theorem b7_ap {α β γ δ ε ζ η θ : Type} (f : α → β → γ → δ → ε → ζ → η → R θ) (s : R α) (t : R β) (u : R γ) (v : R δ) (w : R ε) (r : R ζ) (q : R η) : b7 f s t u v w r q = s.bind fun a => t.bind fun b => u.bind fun c => v.bind fun d => w.bind fun x => r.bind fun y => q.bind fun z => f a b c d x y z := rfl
@[simp] theorem bite_ap {α : Type} (c : R Bool) (s t : R α) : bite c s t = c.bind fun b => if b then s else t := rfl
@[simp] theorem R.bind_assoc {α β γ : Type} (x : R α) (f : α → R β) (g : β → R γ) : (x.bind f).bind g = x.bind fun a => (f a).bind g := by cases x <;> rfl
theorem R.bind_ite {α β : Type} (p : Prop) [Decidable p] (x y : R α) (f : α → R β) : (if p then x else y).bind f = if p then x.bind f else y.bind f := by split <;> rfl

/-! ### typed operations -/
def taddI (a b : Int) : R Int := .ok (a + b)
def tsubI (a b : Int) : R Int := .ok (a - b)
noncomputable def tmulI (a b : Int) : R Int := open Classical in if IntMulOk a b then .ok (a * b) else .stuck
noncomputable def tfdivI (a b : Int) : R Int := @ite _ (0 < b ∧ b < 2 ^ 250) (Classical.propDecidable _) (.ok (a / b)) .stuck
def tmodI (a b : Int) : R Int := if 0 < b then .ok (a % b) else .stuck
noncomputable def tpowI (a b : Int) : R Int := @ite _ (0 ≤ b ∧ b ≤ 1000 ∧ a.natAbs < 2 ^ 64) (Classical.propDecidable _) (.ok (a ^ b.toNat)) .stuck
def tnegI (a : Int) : R Int := .ok (-a)
def tltI (a b : Int) : R Bool := .ok (decide (a < b))
def tleI (a b : Int) : R Bool := .ok (decide (a ≤ b))
def tgtI (a b : Int) : R Bool := .ok (decide (b < a))
def tgeI (a b : Int) : R Bool := .ok (decide (b ≤ a))
def taddL {α : Type} (a b : List α) : R (List α) := if a.length + b.length ≤ 16777216 then .ok (a ++ b) else .stuck
def taddV {α : Type} (a b : Tup α) : R (Tup α) := if a.l.length + b.l.length ≤ 16777216 then .ok ⟨a.l ++ b.l⟩ else .stuck
def taddS (a b : Str) : R Str := if a.length + b.length ≤ sizeLine then .ok (a ++ b) else .stuck
def tidx {α : Type} (xs : List α) (i : Int) : R α := match atI xs i with | some d => .ok d | none => .stuck
def tidxV {α : Type} (xs : Tup α) (i : Int) : R α := tidx xs.l i
def tlen {α : Type} (xs : List α) : R Int := .ok xs.length
def tlenV {α : Type} (xs : Tup α) : R Int := .ok xs.l.length
def tlenS (z : Str) : R Int := if z.length ≤ sizeLine then .ok z.length else .stuck
def tint (i : Int) : R Int := .ok i
def tintB (b : Bool) : R Int := .ok (if b then 1 else 0)
def tabs (i : Int) : R Int := .ok (if i < 0 then -i else i)
def ttupL {α : Type} (xs : List α) : R (Tup α) := .ok ⟨xs⟩
def tlistV {α : Type} (xs : Tup α) : R (List α) := .ok xs.l
def tid {α : Type} (x : α) : R α := .ok x
def tsum (xs : List Int) : R Int := .ok xs.sum
def tmaxL (xs : List Int) : R Int := match xs.max? with | some m => .ok m | none => .stuck
def tminL (xs : List Int) : R Int := match xs.min? with | some m => .ok m | none => .stuck
def tmax2 (i j : Int) : R Int := .ok (if j > i then j else i)
def tmin2 (i j : Int) : R Int := .ok (if j < i then j else i)
def tmax3 (i j k : Int) : R Int := .ok (max (max i j) k)
def tmin3 (i j k : Int) : R Int := .ok (min (min i j) k)
def tallB (xs : List Bool) : R Bool := .ok (xs.all id)
def tanyB (xs : List Bool) : R Bool := .ok (xs.any id)
def cutG {α : Type} (xs : List α) (lo hi : Option Int) : List α := (xs.drop (HT.sIx xs.length 0 lo)).take (HT.sIx xs.length xs.length hi - HT.sIx xs.length 0 lo)
def tcut {α : Type} (xs : List α) (lo hi : Option Int) : R (List α) := .ok (cutG xs lo hi)
def tcutV {α : Type} (xs : Tup α) (lo hi : Option Int) : R (Tup α) := .ok ⟨cutG xs.l lo hi⟩
def tpart (i : Int) : R (Option Int) := .ok (some i)
def rangeI (lo : Int) (n : Nat) : List Int := (List.range n).map fun i : Nat => lo + (i : Int)
def rangeCI (lo c : Int) (n : Nat) : List Int := (List.range n).map fun i : Nat => lo + (i : Int) * c
noncomputable def trange1 (j : Int) : R (List Int) := if rngOk 0 j then .ok (rangeI 0 j.toNat) else .stuck
noncomputable def trange2 (i j : Int) : R (List Int) := if rngOk i j then .ok (rangeI i (j - i).toNat) else .stuck
noncomputable def trangeN (i j : Int) : R (List Int) := if rngOk i j ∧ i - j ≤ 16777216 then .ok (rangeCI i (-1) (i - j).toNat) else .stuck
def tenum {α : Type} (xs : List α) : R (List (Int × α)) := .ok (xs.mapIdx fun i d => ((i : Int), d))
def tzip {α β : Type} (xs : List α) (ys : List β) : R (List (α × β)) := .ok (List.zipWith (fun a b => (a, b)) xs ys)
def trev {α : Type} (xs : List α) : R (List α) := .ok xs.reverse
def tsort (xs : List Int) : R (List Int) := .ok (srtI xs)
def tseqV {α : Type} (xs : Tup α) : R (List α) := .ok xs.l
def tnotB (b : Bool) : R Bool := .ok (!b)
def tandB (s t : R Bool) : R Bool := s.bind fun b => if b then t else .ok false
def torB (s t : R Bool) : R Bool := s.bind fun b => if b then .ok true else t
def tchain {α β γ : Type} (g : α → β → R Bool) (g' : β → γ → R Bool) (s : R α) (t : R β) (u : R γ) : R Bool := s.bind fun a => t.bind fun b => (g a b).bind fun k => if k then u.bind fun c => g' b c else .ok false
def ttruI (i : Int) : R Bool := .ok (i != 0)
def ttruL {α : Type} (xs : List α) : R Bool := .ok (!xs.isEmpty)
def ttruV {α : Type} (xs : Tup α) : R Bool := .ok (!xs.l.isEmpty)
def tisnoneD (d : PyData) : R Bool := .ok (match d with | .none => true | _ => false)
def tisnoneO {α : Type} (o : Option α) : R Bool := .ok o.isNone
def tcons {α : Type} (s : R α) (t : R (List α)) : R (List α) := s.bind fun a => t.bind fun as => .ok (a :: as)
def tcomp {α β : Type} (c : α → R Bool) (f : α → R β) : List α → R (List β)
  | [] => .ok []
  | a :: as => ((c a).calm).bind fun b => if b then ((f a).calm).bind fun y => (tcomp c f as).bind fun ys => .ok (y :: ys) else tcomp c f as
def tmap {α β : Type} (f : α → R β) : List α → R (List β)
  | [] => .ok []
  | a :: as => ((f a).calm).bind fun y => (tmap f as).bind fun ys => .ok (y :: ys)
def tpair {α β : Type} (s : R α) (t : R β) : R (α × β) := s.bind fun a => t.bind fun b => .ok (a, b)
@[simp] theorem taddI_ap (a b : Int) : taddI a b = .ok (a + b) := rfl
@[simp] theorem tsubI_ap (a b : Int) : tsubI a b = .ok (a - b) := rfl
@[simp] theorem tnegI_ap (a : Int) : tnegI a = .ok (-a) := rfl
@[simp] theorem tltI_ap (a b : Int) : tltI a b = .ok (decide (a < b)) := rfl
@[simp] theorem tleI_ap (a b : Int) : tleI a b = .ok (decide (a ≤ b)) := rfl
@[simp] theorem tgtI_ap (a b : Int) : tgtI a b = .ok (decide (b < a)) := rfl
@[simp] theorem tgeI_ap (a b : Int) : tgeI a b = .ok (decide (b ≤ a)) := rfl
@[simp] theorem tlen_ap {α : Type} (xs : List α) : tlen xs = .ok (xs.length : Int) := rfl
@[simp] theorem tlenV_ap {α : Type} (xs : Tup α) : tlenV xs = .ok (xs.l.length : Int) := rfl
@[simp] theorem tint_ap (i : Int) : tint i = .ok i := rfl
@[simp] theorem tintB_ap (b : Bool) : tintB b = .ok (if b then 1 else 0) := rfl
@[simp] theorem tabs_ap (i : Int) : tabs i = .ok (if i < 0 then -i else i) := rfl
@[simp] theorem ttupL_ap {α : Type} (xs : List α) : ttupL xs = .ok ⟨xs⟩ := rfl
@[simp] theorem tlistV_ap {α : Type} (xs : Tup α) : tlistV xs = .ok xs.l := rfl
@[simp] theorem tid_ap {α : Type} (x : α) : tid x = .ok x := rfl
@[simp] theorem tsum_ap (xs : List Int) : tsum xs = .ok xs.sum := rfl
@[simp] theorem tmax2_ap (i j : Int) : tmax2 i j = .ok (if j > i then j else i) := rfl
@[simp] theorem tmin2_ap (i j : Int) : tmin2 i j = .ok (if j < i then j else i) := rfl
@[simp] theorem tmax3_ap (i j k : Int) : tmax3 i j k = .ok (max (max i j) k) := rfl
@[simp] theorem tmin3_ap (i j k : Int) : tmin3 i j k = .ok (min (min i j) k) := rfl
@[simp] theorem tallB_ap (xs : List Bool) : tallB xs = .ok (xs.all id) := rfl
@[simp] theorem tanyB_ap (xs : List Bool) : tanyB xs = .ok (xs.any id) := rfl
@[simp] theorem tcut_ap {α : Type} (xs : List α) (lo hi : Option Int) : tcut xs lo hi = .ok (cutG xs lo hi) := rfl
@[simp] theorem tcutV_ap {α : Type} (xs : Tup α) (lo hi : Option Int) : tcutV xs lo hi = .ok ⟨cutG xs.l lo hi⟩ := rfl
@[simp] theorem tpart_ap (i : Int) : tpart i = .ok (some i) := rfl
@[simp] theorem tenum_ap {α : Type} (xs : List α) : tenum xs = .ok (xs.mapIdx fun i d => ((i : Int), d)) := rfl
@[simp] theorem tzip_ap {α β : Type} (xs : List α) (ys : List β) : tzip xs ys = .ok (List.zipWith (fun a b => (a, b)) xs ys) := rfl
@[simp] theorem trev_ap {α : Type} (xs : List α) : trev xs = .ok xs.reverse := rfl
@[simp] theorem tsort_ap (xs : List Int) : tsort xs = .ok (srtI xs) := rfl
@[simp] theorem tseqV_ap {α : Type} (xs : Tup α) : tseqV xs = .ok xs.l := rfl
@[simp] theorem tnotB_ap (b : Bool) : tnotB b = .ok (!b) := rfl
@[simp] theorem tandB_ap (s t : R Bool) : tandB s t = s.bind fun b => if b then t else .ok false := rfl
@[simp] theorem torB_ap (s t : R Bool) : torB s t = s.bind fun b => if b then .ok true else t := rfl
@[simp] theorem tchain_ap {α β γ : Type} (g : α → β → R Bool) (g' : β → γ → R Bool) (s : R α) (t : R β) (u : R γ) : tchain g g' s t u = s.bind fun a => t.bind fun b => (g a b).bind fun k => if k then u.bind fun c => g' b c else .ok false := rfl
@[simp] theorem ttruI_ap (i : Int) : ttruI i = .ok (i != 0) := rfl
@[simp] theorem ttruL_ap {α : Type} (xs : List α) : ttruL xs = .ok (!xs.isEmpty) := rfl
@[simp] theorem ttruV_ap {α : Type} (xs : Tup α) : ttruV xs = .ok (!xs.l.isEmpty) := rfl
@[simp] theorem tisnoneO_ap {α : Type} (o : Option α) : tisnoneO o = .ok o.isNone := rfl
@[simp] theorem tisnoneD_ap (d : PyData) : tisnoneD d = .ok (match d with | .none => true | _ => false) := rfl
@[simp] theorem tcons_ap {α : Type} (s : R α) (t : R (List α)) : tcons s t = s.bind fun a => t.bind fun as => .ok (a :: as) := rfl
@[simp] theorem tpair_ap {α β : Type} (s : R α) (t : R β) : tpair s t = s.bind fun a => t.bind fun b => .ok (a, b) := rfl
@[simp] theorem tidxV_ap {α : Type} (xs : Tup α) (i : Int) : tidxV xs i = tidx xs.l i := rfl

/-! ### equality -/
class EqE (α : Type) [Enc α] where
  dec : DecidableEq α
  ok : α → Prop
  dep : Nat
  lay : ∀ a, ok a → okS dep (e a)
  eqv : ∀ a b : α, ok a → ok b → PyData.eqv (e a) (e b) = @decide (a = b) (dec a b)
instance : EqE Int where
  dec := inferInstance
  ok := fun _ => True
  dep := 1
  lay := fun _ _ => trivial
  eqv := fun a b _ _ => by simp [Enc.e, PyData.eqv, Bool.beq_eq_decide_eq]
instance : EqE Bool where
  dec := inferInstance
  ok := fun _ => True
  dep := 1
  lay := fun _ _ => trivial
  eqv := fun a b _ _ => by simp [Enc.e, PyData.eqv, Bool.beq_eq_decide_eq]
instance : EqE Str where
  dec := inferInstance
  ok := fun s => PyData.strOk s = true
  dep := 1
  lay := fun _ h => h
  eqv := fun a b _ _ => by simp [Enc.e, PyData.eqv, Bool.beq_eq_decide_eq]
instance : EqE Unit where
  dec := inferInstance
  ok := fun _ => True
  dep := 1
  lay := fun _ _ => trivial
  eqv := fun a b _ _ => by simp [Enc.e, PyData.eqv]
section
variable {α β γ δ ε ζ η : Type} [Enc α] [Enc β] [Enc γ] [Enc δ] [Enc ε] [Enc ζ] [Enc η]
theorem eqvAll_map [q : EqE α] : ∀ xs ys : List α, (∀ x ∈ xs, EqE.ok x) → (∀ x ∈ ys, EqE.ok x) → PyData.eqvAll (xs.map e) (ys.map e) = (@List.hasDecEq α q.dec xs ys).decide
  | [], [], _, _ => by simp [PyData.eqvAll]
  | [], _ :: _, _, _ => by simp [PyData.eqvAll]
  | _ :: _, [], _, _ => by simp [PyData.eqvAll]
  | x :: xs, y :: ys, h, g => by
    have ih := eqvAll_map xs ys (fun z hz => h z (List.mem_cons_of_mem _ hz)) fun z hz => g z (List.mem_cons_of_mem _ hz)
    have ix := EqE.eqv x y (h x List.mem_cons_self) (g y List.mem_cons_self)
    simp only [List.map_cons, PyData.eqvAll, ix, ih]
    rw [Bool.eq_iff_iff]
    simp
instance [q : EqE α] : EqE (List α) where
  dec := @List.hasDecEq α q.dec
  ok := fun xs => xs.length ≤ 16777216 ∧ ∀ x ∈ xs, EqE.ok x
  dep := EqE.dep α + 1
  lay := fun xs h => ⟨by rw [List.length_map]; exact h.1, fun x hx => by
    obtain ⟨a, ha, rfl⟩ := List.mem_map.mp hx
    exact EqE.lay a (h.2 a ha)⟩
  eqv := fun xs ys h g => by
    show PyData.eqv (.list _) (.list _) = _
    simp only [PyData.eqv]
    exact eqvAll_map xs ys h.2 g.2
instance [q : EqE α] : EqE (Tup α) where
  dec := fun a b => @instDecidableEqTup.decEq α q.dec a b
  ok := fun xs => xs.l.length ≤ 16777216 ∧ ∀ x ∈ xs.l, EqE.ok x
  dep := EqE.dep α + 1
  lay := fun xs h => ⟨by rw [List.length_map]; exact h.1, fun x hx => by
    obtain ⟨a, ha, rfl⟩ := List.mem_map.mp hx
    exact EqE.lay a (h.2 a ha)⟩
  eqv := fun xs ys h g => by
    obtain ⟨xs⟩ := xs
    obtain ⟨ys⟩ := ys
    show PyData.eqv (.tuple _) (.tuple _) = _
    simp only [PyData.eqv]
    rw [eqvAll_map xs ys h.2 g.2, Bool.eq_iff_iff]
    simp
theorem okS_m {n m : Nat} {d : PyData} (h : okS n d) (l : n ≤ m) : okS m d := okS.mono l h
instance [q : EqE α] : EqE (T1 α) where
  dec := fun a b => @instDecidableEqT1.decEq α q.dec a b
  ok := fun p => EqE.ok p.a
  dep := EqE.dep α + 1
  lay := fun p h => ⟨by simp, fun x hx => by
    rw [List.mem_singleton.mp hx]
    exact EqE.lay p.a h⟩
  eqv := fun p q h g => by
    obtain ⟨a⟩ := p
    obtain ⟨b⟩ := q
    show PyData.eqv (.tuple [e a]) (.tuple [e b]) = _
    simp only [PyData.eqv, PyData.eqvAll]
    rw [EqE.eqv a b h g, Bool.eq_iff_iff]
    simp
instance [q : EqE α] [r : EqE β] : EqE (α × β) where
  dec := @instDecidableEqProd α β q.dec r.dec
  ok := fun p => EqE.ok p.1 ∧ EqE.ok p.2
  dep := max (EqE.dep α) (EqE.dep β) + 1
  lay := fun p h => ⟨by simp, fun x hx => by
    simp only [List.mem_cons, List.not_mem_nil, or_false] at hx
    rcases hx with rfl | rfl
    · exact okS_m (EqE.lay _ h.1) (by omega)
    · exact okS_m (EqE.lay _ h.2) (by omega)⟩
  eqv := fun p q h g => by
    obtain ⟨a, b⟩ := p
    obtain ⟨c, d⟩ := q
    show PyData.eqv (.tuple [e a, e b]) (.tuple [e c, e d]) = _
    simp only [PyData.eqv, PyData.eqvAll]
    rw [EqE.eqv a c h.1 g.1, EqE.eqv b d h.2 g.2, Bool.eq_iff_iff]
    simp
instance [q : EqE α] [r : EqE β] [s : EqE γ] : EqE (T3 α β γ) where
  dec := fun a b => @instDecidableEqT3.decEq α β γ q.dec r.dec s.dec a b
  ok := fun p => EqE.ok p.a ∧ EqE.ok p.b ∧ EqE.ok p.c
  dep := max (EqE.dep α) (max (EqE.dep β) (EqE.dep γ)) + 1
  lay := fun p h => ⟨by simp, fun x hx => by
    simp only [List.mem_cons, List.not_mem_nil, or_false] at hx
    rcases hx with rfl | rfl | rfl
    · exact okS_m (EqE.lay _ h.1) (by omega)
    · exact okS_m (EqE.lay _ h.2.1) (by omega)
    · exact okS_m (EqE.lay _ h.2.2) (by omega)⟩
  eqv := fun p q h g => by
    obtain ⟨a, b, c⟩ := p
    obtain ⟨a', b', c'⟩ := q
    show PyData.eqv (.tuple [e a, e b, e c]) (.tuple [e a', e b', e c']) = _
    simp only [PyData.eqv, PyData.eqvAll]
    rw [EqE.eqv a a' h.1 g.1, EqE.eqv b b' h.2.1 g.2.1, EqE.eqv c c' h.2.2 g.2.2, Bool.eq_iff_iff]
    simp
instance [q : EqE α] [r : EqE β] [s : EqE γ] [t : EqE δ] : EqE (T4 α β γ δ) where
  dec := fun a b => @instDecidableEqT4.decEq α β γ δ q.dec r.dec s.dec t.dec a b
  ok := fun p => EqE.ok p.a ∧ EqE.ok p.b ∧ EqE.ok p.c ∧ EqE.ok p.d
  dep := max (max (EqE.dep α) (EqE.dep β)) (max (EqE.dep γ) (EqE.dep δ)) + 1
  lay := fun p h => ⟨by simp, fun x hx => by
    simp only [List.mem_cons, List.not_mem_nil, or_false] at hx
    rcases hx with rfl | rfl | rfl | rfl
    · exact okS_m (EqE.lay _ h.1) (by omega)
    · exact okS_m (EqE.lay _ h.2.1) (by omega)
    · exact okS_m (EqE.lay _ h.2.2.1) (by omega)
    · exact okS_m (EqE.lay _ h.2.2.2) (by omega)⟩
  eqv := fun p q h g => by
    obtain ⟨a, b, c, d⟩ := p
    obtain ⟨a', b', c', d'⟩ := q
    show PyData.eqv (.tuple [e a, e b, e c, e d]) (.tuple [e a', e b', e c', e d']) = _
    simp only [PyData.eqv, PyData.eqvAll]
    rw [EqE.eqv a a' h.1 g.1, EqE.eqv b b' h.2.1 g.2.1, EqE.eqv c c' h.2.2.1 g.2.2.1, EqE.eqv d d' h.2.2.2 g.2.2.2, Bool.eq_iff_iff]
    simp
end
noncomputable def teq {α : Type} [Enc α] [q : EqE α] (a b : α) : R Bool := @ite _ (EqE.ok a ∧ EqE.ok b) (Classical.propDecidable _) (.ok (@decide (a = b) (q.dec a b))) .stuck
noncomputable def tne {α : Type} [Enc α] [q : EqE α] (a b : α) : R Bool := @ite _ (EqE.ok a ∧ EqE.ok b) (Classical.propDecidable _) (.ok (!@decide (a = b) (q.dec a b))) .stuck
noncomputable def tin {α : Type} [Enc α] [q : EqE α] (a : α) (xs : List α) : R Bool := @ite _ (EqE.ok a ∧ EqE.ok xs) (Classical.propDecidable _) (.ok (xs.any fun x => @decide (x = a) (q.dec x a))) .stuck
noncomputable def tnin {α : Type} [Enc α] [q : EqE α] (a : α) (xs : List α) : R Bool := @ite _ (EqE.ok a ∧ EqE.ok xs) (Classical.propDecidable _) (.ok (!xs.any fun x => @decide (x = a) (q.dec x a))) .stuck
@[simp] theorem ok_int (a : Int) : EqE.ok a = True := rfl
@[simp] theorem ok_bool (a : Bool) : EqE.ok a = True := rfl
@[simp] theorem ok_unit (a : Unit) : EqE.ok a = True := rfl
@[simp] theorem ok_str (a : Str) : EqE.ok a = (PyData.strOk a = true) := rfl
section
variable {α β γ δ : Type} [Enc α] [Enc β] [Enc γ] [Enc δ]
@[simp] theorem ok_list [EqE α] (a : List α) : EqE.ok a = (a.length ≤ 16777216 ∧ ∀ x ∈ a, EqE.ok x) := rfl
@[simp] theorem ok_vt [EqE α] (a : Tup α) : EqE.ok a = (a.l.length ≤ 16777216 ∧ ∀ x ∈ a.l, EqE.ok x) := rfl
@[simp] theorem ok_t1 [EqE α] (p : T1 α) : EqE.ok p = EqE.ok p.a := rfl
@[simp] theorem ok_pair [EqE α] [EqE β] (p : α × β) : EqE.ok p = (EqE.ok p.1 ∧ EqE.ok p.2) := rfl
@[simp] theorem ok_t3 [EqE α] [EqE β] [EqE γ] (p : T3 α β γ) : EqE.ok p = (EqE.ok p.a ∧ EqE.ok p.b ∧ EqE.ok p.c) := rfl
@[simp] theorem ok_t4 [EqE α] [EqE β] [EqE γ] [EqE δ] (p : T4 α β γ δ) : EqE.ok p = (EqE.ok p.a ∧ EqE.ok p.b ∧ EqE.ok p.c ∧ EqE.ok p.d) := rfl
theorem decide_any {p : Prop} (d1 d2 : Decidable p) : @decide p d1 = @decide p d2 := by congr
theorem teq_ok [q : EqE α] [DecidableEq α] {a b : α} (h : EqE.ok a) (g : EqE.ok b) : teq a b = .ok (decide (a = b)) := by unfold teq; rw [if_pos ⟨h, g⟩]; congr
theorem tne_ok [q : EqE α] [DecidableEq α] {a b : α} (h : EqE.ok a) (g : EqE.ok b) : tne a b = .ok (!decide (a = b)) := by unfold tne; rw [if_pos ⟨h, g⟩]; congr
theorem tin_ok [q : EqE α] [DecidableEq α] {a : α} {xs : List α} (h : EqE.ok a) (g : EqE.ok xs) : tin a xs = .ok (decide (a ∈ xs)) := by
  unfold tin; rw [if_pos ⟨h, g⟩]
  congr 1
  rw [Bool.eq_iff_iff]
  simp
theorem tnin_ok [q : EqE α] [DecidableEq α] {a : α} {xs : List α} (h : EqE.ok a) (g : EqE.ok xs) : tnin a xs = .ok (!decide (a ∈ xs)) := by
  unfold tnin; rw [if_pos ⟨h, g⟩]
  congr 2
  rw [Bool.eq_iff_iff]
  simp
@[simp] theorem teq_int (a b : Int) : teq a b = .ok (decide (a = b)) := teq_ok trivial trivial
@[simp] theorem tne_int (a b : Int) : tne a b = .ok (!decide (a = b)) := tne_ok trivial trivial
@[simp] theorem teq_bool (a b : Bool) : teq a b = .ok (decide (a = b)) := teq_ok trivial trivial
@[simp] theorem tne_bool (a b : Bool) : tne a b = .ok (!decide (a = b)) := tne_ok trivial trivial
theorem teq_rfl [q : EqE α] {a : α} (h : EqE.ok a) : teq a a = .ok true := by letI := q.dec; rw [teq_ok h h]; simp
theorem tne_rfl [q : EqE α] {a : α} (h : EqE.ok a) : tne a a = .ok false := by letI := q.dec; rw [tne_ok h h]; simp
end
end VL

namespace VL
open PySem PySem.Spec PyProof.Rows L2
open Enc (e)

/-! ### typed rules: expressions -/
section
variable {α β γ δ ε ζ η θ : Type} [Enc α] [Enc β] [Enc γ] [Enc δ] [Enc ε] [Enc ζ] [Enc η] [Enc θ] {ρ : PEnv} {f g h f1 f2 f3 f4 f5 f6 f7 : PEnv → R PyData}
theorem t_var (i : Nat) (a : α) (h : ρ[i]? = some (some (e a)) := by rfl) : TEq (vVar i ρ) (.ok a) := by
  show vVar i ρ = .ok (e a)
  unfold vVar; rw [h]
theorem t_varO (i : Nat) (ox : α → O) (a : α) (hd : ∀ a, O.data (ox a) = e a) (h : ρ[i]? = some (some (O.data (ox a))) := by rfl) : TEq (vVar i ρ) (.ok a) := by
  show vVar i ρ = .ok (e a)
  unfold vVar; rw [h, hd]
theorem t_c {d : PyData} (a : α) (h : d = e a := by rfl) : TEq (vC d ρ) (.ok a) := by rw [h]; exact rfl
theorem t_2 {op : PyData → PyData → R PyData} {top : α → β → R γ} {s : R α} {t : R β} (ho : ∀ a b, TEq (op (e a) (e b)) (top a b)) (ha : TEq (f ρ) s) (hb : TEq (g ρ) t) : TEq (v2 op f g ρ) (b2 top s t) :=
  ha.bind fun a => hb.bind fun b => ho a b
theorem t_1 {op : PyData → R PyData} {top : α → R γ} {s : R α} (ho : ∀ a, TEq (op (e a)) (top a)) (ha : TEq (f ρ) s) : TEq (v1 op f ρ) (b1 top s) := ha.bind ho
theorem t_vnn {top : α → R Bool} {s : R α} (ho : ∀ a, TEq (visnone (e a)) (top a)) (ha : TEq (f ρ) s) : TEq (vnn f ρ) (b1 tnotB (b1 top s)) := by
  rw [vnn_ap]
  show TEq _ ((s.bind top).bind tnotB)
  rw [R.bind_assoc]
  refine ha.bind fun a => ?_
  have h := ho a
  cases ht : top a with
  | stuck => trivial
  | err c => rw [ht] at h; exact nomatch (show visnone (e a) = .err c from h)
  | ok b =>
    rw [ht] at h
    have h2 : visnone (e a) = .ok (.bool b) := h
    unfold visnone at h2
    show R.ok _ = R.ok (PyData.bool (!b))
    cases hd : e a <;> (rw [hd] at h2; simp at h2; subst h2; rfl)
theorem t_tnn {top : α → R Bool} {s : R α} (ho : ∀ a, TEq (visnone (e a)) (top a)) (ha : TEq (f ρ) s) : TB (tnn f ρ) (b1 tnotB (b1 top s)) := by
  have h1 : TEq (v1 visnone f ρ) (b1 top s) := ha.bind ho
  exact h1.bind fun b => by cases b <;> rfl
theorem t_tst {s : R Bool} (ha : TEq (f ρ) s) : TB (tst f ρ) s := by
  cases s with
  | stuck => trivial
  | err c => show (f ρ).bind tbool = _; rw [show f ρ = .err c from ha]; rfl
  | ok b => show (f ρ).bind tbool = _; rw [show f ρ = .ok (.bool b) from ha]; rfl
theorem t_ttr {s : R α} {top : α → R Bool} (ho : ∀ a, TB (vtruth (e a)) (top a)) (ha : TEq (f ρ) s) : TB (ttr f ρ) (b1 top s) := ha.bind ho
theorem t_tand {c d : PEnv → R Bool} {s t : R Bool} (ha : TB (c ρ) s) (hb : TB (d ρ) t) : TB (tand c d ρ) (tandB s t) := ha.bind fun b => by cases b <;> first | exact hb | exact rfl
theorem t_tor {c d : PEnv → R Bool} {s t : R Bool} (ha : TB (c ρ) s) (hb : TB (d ρ) t) : TB (tor c d ρ) (torB s t) := ha.bind fun b => by cases b <;> first | exact hb | exact rfl
theorem t_tnot {c : PEnv → R Bool} {s : R Bool} (ha : TB (c ρ) s) : TB (tnot c ρ) (b1 tnotB s) := ha.bind fun b => rfl
theorem t_vand {s t : R Bool} (ha : TEq (f ρ) s) (hb : TEq (g ρ) t) : TEq (vand f g ρ) (tandB s t) := ha.bind fun b => by cases b <;> first | exact hb | exact rfl
theorem t_vor {s t : R Bool} (ha : TEq (f ρ) s) (hb : TEq (g ρ) t) : TEq (vor f g ρ) (torB s t) := ha.bind fun b => by cases b <;> first | exact hb | exact rfl
theorem t_vnot {s : R Bool} (ha : TEq (f ρ) s) : TEq (vnot f ρ) (b1 tnotB s) := ha.bind fun b => rfl
theorem t_vif {c : PEnv → R Bool} {u : R Bool} {s t : R α} (hc : TB (c ρ) u) (ha : TEq (f ρ) s) (hb : TEq (g ρ) t) : TEq (vif c f g ρ) (bite u s t) := hc.bind fun b => by cases b <;> first | exact hb | exact ha
theorem t_vchain {op op' : PyData → PyData → R PyData} {top : α → β → R Bool} {top' : β → γ → R Bool} {s : R α} {t : R β} {u : R γ} (ho : ∀ a b, TEq (op (e a) (e b)) (top a b)) (ho' : ∀ a b, TEq (op' (e a) (e b)) (top' a b)) (ha : TEq (f ρ) s) (hb : TEq (g ρ) t) (hc : TEq (h ρ) u) : TEq (vchain op op' f g h ρ) (tchain top top' s t u) :=
  ha.bind fun a => hb.bind fun b => (ho a b).bind fun k => by
    cases k
    · exact rfl
    · exact hc.bind fun c => ho' b c
/-! calls -/
theorem t_call0 {m : List PyData → R PyData} {t : R α} (hm : TEq (m []) t) : TEq ((fun _ : PEnv => m []) ρ) t := hm
theorem t_call1 {m : List PyData → R PyData} {t : α → R β} (hm : ∀ a, TEq (m [e a]) (t a)) {s1 : R α} (h1 : TEq (f1 ρ) s1) : TEq (vapp m (aCons f1 aNil) ρ) (b1 t s1) := by
  show TEq (R.bind (R.bind (f1 ρ) fun d => .ok [d]) m) _
  rw [R.bind_assoc]
  exact h1.bind fun a => hm a
theorem t_call2 {m : List PyData → R PyData} {t : α → β → R γ} (hm : ∀ a b, TEq (m [e a, e b]) (t a b)) {s1 : R α} {s2 : R β} (h1 : TEq (f1 ρ) s1) (h2 : TEq (f2 ρ) s2) : TEq (vapp m (aCons f1 (aCons f2 aNil)) ρ) (b2 t s1 s2) := by
  simp only [vapp_ap, aCons_ap, aNil_ap, R.bind_assoc, R.bind_ok]
  exact h1.bind fun a => h2.bind fun b => hm a b
theorem t_call3 {m : List PyData → R PyData} {t : α → β → γ → R δ} (hm : ∀ a b c, TEq (m [e a, e b, e c]) (t a b c)) {s1 : R α} {s2 : R β} {s3 : R γ} (h1 : TEq (f1 ρ) s1) (h2 : TEq (f2 ρ) s2) (h3 : TEq (f3 ρ) s3) : TEq (vapp m (aCons f1 (aCons f2 (aCons f3 aNil))) ρ) (b3 t s1 s2 s3) := by
  simp only [vapp_ap, aCons_ap, aNil_ap, R.bind_assoc, R.bind_ok]
  exact h1.bind fun a => h2.bind fun b => h3.bind fun c => hm a b c
theorem t_call4 {m : List PyData → R PyData} {t : α → β → γ → δ → R ε} (hm : ∀ a b c d, TEq (m [e a, e b, e c, e d]) (t a b c d)) {s1 : R α} {s2 : R β} {s3 : R γ} {s4 : R δ} (h1 : TEq (f1 ρ) s1) (h2 : TEq (f2 ρ) s2) (h3 : TEq (f3 ρ) s3) (h4 : TEq (f4 ρ) s4) : TEq (vapp m (aCons f1 (aCons f2 (aCons f3 (aCons f4 aNil)))) ρ) (b4 t s1 s2 s3 s4) := by
  simp only [vapp_ap, aCons_ap, aNil_ap, R.bind_assoc, R.bind_ok]
  exact h1.bind fun a => h2.bind fun b => h3.bind fun c => h4.bind fun d => hm a b c d
theorem t_call5 {m : List PyData → R PyData} {t : α → β → γ → δ → ε → R ζ} (hm : ∀ a b c d x, TEq (m [e a, e b, e c, e d, e x]) (t a b c d x)) {s1 : R α} {s2 : R β} {s3 : R γ} {s4 : R δ} {s5 : R ε} (h1 : TEq (f1 ρ) s1) (h2 : TEq (f2 ρ) s2) (h3 : TEq (f3 ρ) s3) (h4 : TEq (f4 ρ) s4) (h5 : TEq (f5 ρ) s5) : TEq (vapp m (aCons f1 (aCons f2 (aCons f3 (aCons f4 (aCons f5 aNil))))) ρ) (b5 t s1 s2 s3 s4 s5) := by
  simp only [vapp_ap, aCons_ap, aNil_ap, R.bind_assoc, R.bind_ok]
  exact h1.bind fun a => h2.bind fun b => h3.bind fun c => h4.bind fun d => h5.bind fun x => hm a b c d x
theorem t_call6 {m : List PyData → R PyData} {t : α → β → γ → δ → ε → ζ → R η} (hm : ∀ a b c d x y, TEq (m [e a, e b, e c, e d, e x, e y]) (t a b c d x y)) {s1 : R α} {s2 : R β} {s3 : R γ} {s4 : R δ} {s5 : R ε} {s6 : R ζ} (h1 : TEq (f1 ρ) s1) (h2 : TEq (f2 ρ) s2) (h3 : TEq (f3 ρ) s3) (h4 : TEq (f4 ρ) s4) (h5 : TEq (f5 ρ) s5) (h6 : TEq (f6 ρ) s6) : TEq (vapp m (aCons f1 (aCons f2 (aCons f3 (aCons f4 (aCons f5 (aCons f6 aNil)))))) ρ) (b6 t s1 s2 s3 s4 s5 s6) := by
  simp only [vapp_ap, aCons_ap, aNil_ap, R.bind_assoc, R.bind_ok]
  exact h1.bind fun a => h2.bind fun b => h3.bind fun c => h4.bind fun d => h5.bind fun x => h6.bind fun y => hm a b c d x y
theorem t_call7 {m : List PyData → R PyData} {t : α → β → γ → δ → ε → ζ → η → R θ} (hm : ∀ a b c d x y z, TEq (m [e a, e b, e c, e d, e x, e y, e z]) (t a b c d x y z)) {s1 : R α} {s2 : R β} {s3 : R γ} {s4 : R δ} {s5 : R ε} {s6 : R ζ} {s7 : R η} (h1 : TEq (f1 ρ) s1) (h2 : TEq (f2 ρ) s2) (h3 : TEq (f3 ρ) s3) (h4 : TEq (f4 ρ) s4) (h5 : TEq (f5 ρ) s5) (h6 : TEq (f6 ρ) s6) (h7 : TEq (f7 ρ) s7) : TEq (vapp m (aCons f1 (aCons f2 (aCons f3 (aCons f4 (aCons f5 (aCons f6 (aCons f7 aNil))))))) ρ) (b7 t s1 s2 s3 s4 s5 s6 s7) := by
  simp only [vapp_ap, aCons_ap, aNil_ap, R.bind_assoc, R.bind_ok]
  exact h1.bind fun a => h2.bind fun b => h3.bind fun c => h4.bind fun d => h5.bind fun x => h6.bind fun y => h7.bind fun z => hm a b c d x y z
/-! tuples, lists -/
def mk1 {α : Type} (a : α) : R (T1 α) := .ok ⟨a⟩
def mk2 {α β : Type} (a : α) (b : β) : R (α × β) := .ok (a, b)
def mk3 {α β γ : Type} (a : α) (b : β) (c : γ) : R (T3 α β γ) := .ok ⟨a, b, c⟩
def mk4 {α β γ δ : Type} (a : α) (b : β) (c : γ) (d : δ) : R (T4 α β γ δ) := .ok ⟨a, b, c, d⟩
def mk5 {α β γ δ ε : Type} (a : α) (b : β) (c : γ) (d : δ) (x : ε) : R (T5 α β γ δ ε) := .ok ⟨a, b, c, d, x⟩
def mk6 {α β γ δ ε ζ : Type} (a : α) (b : β) (c : γ) (d : δ) (x : ε) (y : ζ) : R (T6 α β γ δ ε ζ) := .ok ⟨a, b, c, d, x, y⟩
def mk7 {α β γ δ ε ζ η : Type} (a : α) (b : β) (c : γ) (d : δ) (x : ε) (y : ζ) (z : η) : R (T7 α β γ δ ε ζ η) := .ok ⟨a, b, c, d, x, y, z⟩
def mkV {α : Type} (xs : List α) : R (Tup α) := .ok ⟨xs⟩
@[simp] theorem mk1_ap {α : Type} (a : α) : mk1 a = .ok ⟨a⟩ := rfl
@[simp] theorem mk2_ap {α β : Type} (a : α) (b : β) : mk2 a b = .ok (a, b) := rfl
@[simp] theorem mk3_ap {α β γ : Type} (a : α) (b : β) (c : γ) : mk3 a b c = .ok ⟨a, b, c⟩ := rfl
@[simp] theorem mk4_ap {α β γ δ : Type} (a : α) (b : β) (c : γ) (d : δ) : mk4 a b c d = .ok ⟨a, b, c, d⟩ := rfl
@[simp] theorem mk5_ap {α β γ δ ε : Type} (a : α) (b : β) (c : γ) (d : δ) (x : ε) : mk5 a b c d x = .ok ⟨a, b, c, d, x⟩ := rfl
@[simp] theorem mk6_ap {α β γ δ ε ζ : Type} (a : α) (b : β) (c : γ) (d : δ) (x : ε) (y : ζ) : mk6 a b c d x y = .ok ⟨a, b, c, d, x, y⟩ := rfl
@[simp] theorem mk7_ap {α β γ δ ε ζ η : Type} (a : α) (b : β) (c : γ) (d : δ) (x : ε) (y : ζ) (z : η) : mk7 a b c d x y z = .ok ⟨a, b, c, d, x, y, z⟩ := rfl
@[simp] theorem mkV_ap {α : Type} (xs : List α) : mkV xs = .ok ⟨xs⟩ := rfl
theorem t_tup1 {s1 : R α} (h1 : TEq (f1 ρ) s1) : TEq (vtup (aCons f1 aNil) ρ) (b1 mk1 s1) := by
  simp only [vtup_ap, aCons_ap, aNil_ap, R.bind_assoc, R.bind_ok]
  exact h1.bind fun a => rfl
theorem t_tup2 {s1 : R α} {s2 : R β} (h1 : TEq (f1 ρ) s1) (h2 : TEq (f2 ρ) s2) : TEq (vtup (aCons f1 (aCons f2 aNil)) ρ) (b2 mk2 s1 s2) := by
  simp only [vtup_ap, aCons_ap, aNil_ap, R.bind_assoc, R.bind_ok]
  exact h1.bind fun a => h2.bind fun b => rfl
theorem t_tup3 {s1 : R α} {s2 : R β} {s3 : R γ} (h1 : TEq (f1 ρ) s1) (h2 : TEq (f2 ρ) s2) (h3 : TEq (f3 ρ) s3) : TEq (vtup (aCons f1 (aCons f2 (aCons f3 aNil))) ρ) (b3 mk3 s1 s2 s3) := by
  simp only [vtup_ap, aCons_ap, aNil_ap, R.bind_assoc, R.bind_ok]
  exact h1.bind fun a => h2.bind fun b => h3.bind fun c => rfl
theorem t_tup4 {s1 : R α} {s2 : R β} {s3 : R γ} {s4 : R δ} (h1 : TEq (f1 ρ) s1) (h2 : TEq (f2 ρ) s2) (h3 : TEq (f3 ρ) s3) (h4 : TEq (f4 ρ) s4) : TEq (vtup (aCons f1 (aCons f2 (aCons f3 (aCons f4 aNil)))) ρ) (b4 mk4 s1 s2 s3 s4) := by
  simp only [vtup_ap, aCons_ap, aNil_ap, R.bind_assoc, R.bind_ok]
  exact h1.bind fun a => h2.bind fun b => h3.bind fun c => h4.bind fun d => rfl
theorem t_tup5 {s1 : R α} {s2 : R β} {s3 : R γ} {s4 : R δ} {s5 : R ε} (h1 : TEq (f1 ρ) s1) (h2 : TEq (f2 ρ) s2) (h3 : TEq (f3 ρ) s3) (h4 : TEq (f4 ρ) s4) (h5 : TEq (f5 ρ) s5) : TEq (vtup (aCons f1 (aCons f2 (aCons f3 (aCons f4 (aCons f5 aNil))))) ρ) (b5 mk5 s1 s2 s3 s4 s5) := by
  simp only [vtup_ap, aCons_ap, aNil_ap, R.bind_assoc, R.bind_ok]
  exact h1.bind fun a => h2.bind fun b => h3.bind fun c => h4.bind fun d => h5.bind fun x => rfl
theorem t_tup6 {s1 : R α} {s2 : R β} {s3 : R γ} {s4 : R δ} {s5 : R ε} {s6 : R ζ} (h1 : TEq (f1 ρ) s1) (h2 : TEq (f2 ρ) s2) (h3 : TEq (f3 ρ) s3) (h4 : TEq (f4 ρ) s4) (h5 : TEq (f5 ρ) s5) (h6 : TEq (f6 ρ) s6) : TEq (vtup (aCons f1 (aCons f2 (aCons f3 (aCons f4 (aCons f5 (aCons f6 aNil)))))) ρ) (b6 mk6 s1 s2 s3 s4 s5 s6) := by
  simp only [vtup_ap, aCons_ap, aNil_ap, R.bind_assoc, R.bind_ok]
  exact h1.bind fun a => h2.bind fun b => h3.bind fun c => h4.bind fun d => h5.bind fun x => h6.bind fun y => rfl
theorem t_tup7 {s1 : R α} {s2 : R β} {s3 : R γ} {s4 : R δ} {s5 : R ε} {s6 : R ζ} {s7 : R η} (h1 : TEq (f1 ρ) s1) (h2 : TEq (f2 ρ) s2) (h3 : TEq (f3 ρ) s3) (h4 : TEq (f4 ρ) s4) (h5 : TEq (f5 ρ) s5) (h6 : TEq (f6 ρ) s6) (h7 : TEq (f7 ρ) s7) : TEq (vtup (aCons f1 (aCons f2 (aCons f3 (aCons f4 (aCons f5 (aCons f6 (aCons f7 aNil))))))) ρ) (b7 mk7 s1 s2 s3 s4 s5 s6 s7) := by
  simp only [vtup_ap, aCons_ap, aNil_ap, R.bind_assoc, R.bind_ok]
  exact h1.bind fun a => h2.bind fun b => h3.bind fun c => h4.bind fun d => h5.bind fun x => h6.bind fun y => h7.bind fun z => rfl
theorem t_nil : TL (aNil ρ) (.ok ([] : List α)) := rfl
theorem t_cons {g : PEnv → R (List PyData)} {s : R α} {t : R (List α)} (ha : TEq (f ρ) s) (hb : TL (g ρ) t) : TL (aCons f g ρ) (tcons s t) := ha.bind fun a => hb.bind fun as => rfl
theorem t_tupV {g : PEnv → R (List PyData)} {s : R (List α)} (ha : TL (g ρ) s) : TEq (vtup g ρ) (b1 mkV s) := ha.bind fun as => rfl
theorem t_list {g : PEnv → R (List PyData)} {s : R (List α)} (ha : TL (g ρ) s) : TEq (vlistOf g ρ) s := by
  cases s with
  | stuck => trivial
  | err c => show (g ρ).bind _ = _; rw [show g ρ = .err c from ha]; rfl
  | ok b => show (g ρ).bind _ = _; rw [show g ρ = .ok (b.map e) from ha]; rfl
theorem t_callL1 {m : List PyData → R PyData} {t : List α → R β} (hm : ∀ a, TEq (m [e a]) (t a)) {g : PEnv → R (List PyData)} {s : R (List α)} (ha : TL (g ρ) s) : TEq (vapp m (aCons (vlistOf g) aNil) ρ) (b1 t s) := t_call1 hm (t_list ha)
/-! items walked -/
theorem t_isq {s : R (List α)} (ha : TEq (f ρ) s) : TL (isq f ρ) s := by
  cases s with
  | stuck => trivial
  | err c => show (f ρ).bind _ = _; rw [show f ρ = .err c from ha]; rfl
  | ok b => show (f ρ).bind _ = _; rw [show f ρ = .ok (e b) from ha]; rfl
theorem t_isqV {s : R (Tup α)} (ha : TEq (f ρ) s) : TL (isq f ρ) (b1 tseqV s) := ha.bind fun _ => rfl
def tseq2 {α : Type} (p : α × α) : R (List α) := .ok [p.1, p.2]
def tseq3 {α : Type} (p : T3 α α α) : R (List α) := .ok [p.a, p.b, p.c]
def tseq4 {α : Type} (p : T4 α α α α) : R (List α) := .ok [p.a, p.b, p.c, p.d]
@[simp] theorem tseq2_ap {α : Type} (p : α × α) : tseq2 p = .ok [p.1, p.2] := rfl
@[simp] theorem tseq3_ap {α : Type} (p : T3 α α α) : tseq3 p = .ok [p.a, p.b, p.c] := rfl
@[simp] theorem tseq4_ap {α : Type} (p : T4 α α α α) : tseq4 p = .ok [p.a, p.b, p.c, p.d] := rfl
theorem t_isq2 {s : R (α × α)} (ha : TEq (f ρ) s) : TL (isq f ρ) (b1 tseq2 s) := ha.bind fun _ => rfl
theorem t_isq3 {s : R (T3 α α α)} (ha : TEq (f ρ) s) : TL (isq f ρ) (b1 tseq3 s) := ha.bind fun _ => rfl
theorem t_isq4 {s : R (T4 α α α α)} (ha : TEq (f ρ) s) : TL (isq f ρ) (b1 tseq4 s) := ha.bind fun _ => rfl
theorem TL_id {x : R (List PyData)} : TL x x := by cases x with
  | stuck => trivial
  | err c => exact rfl
  | ok a => show R.ok a = .ok (a.map e); rw [show (e : PyData → PyData) = id from rfl, List.map_id]
theorem t_isqD {s : R PyData} (ha : TEq (f ρ) s) : TL (isq f ρ) (b1 seqD s) := ha.bind fun d => TL_id
theorem t_i1 {op : PyData → R (List PyData)} {top : α → R (List γ)} {s : R α} (ho : ∀ a, TL (op (e a)) (top a)) (ha : TEq (f ρ) s) : TL (i1 op f ρ) (b1 top s) := ha.bind ho
theorem t_i2 {op : PyData → PyData → R (List PyData)} {top : α → β → R (List γ)} {s : R α} {t : R β} (ho : ∀ a b, TL (op (e a) (e b)) (top a b)) (ha : TEq (f ρ) s) (hb : TEq (g ρ) t) : TL (i2 op f g ρ) (b2 top s t) := ha.bind fun a => hb.bind fun b => ho a b
theorem TQ.calm {α γ : Type} {f : α → γ} {x : R γ} {t : R α} (h : TQ f x t) : TQ f x.calm t.calm := by
  cases t with
  | stuck => trivial
  | err c => trivial
  | ok a => rw [show x = .ok (f a) from h]; exact rfl
theorem compL_T {kt : PyData → R (List (Nat × PyData))} {ft : PEnv → R Bool} {fe : PEnv → R PyData} {ρ : PEnv} {bs : β → List (Nat × PyData)} {k : α → R β} {c : β → R Bool} {t : β → R γ} (hk : ∀ a, TQ bs (kt (e a)) (k a)) (hc : ∀ b, TB (ft (setsD ρ (bs b))) (c b)) (hf : ∀ b, TEq (fe (setsD ρ (bs b))) (t b)) : ∀ xs : List α, TL (compL kt ft fe ρ (xs.map e)) (tcomp (fun a => (k a).bind c) (fun a => (k a).bind t) xs)
  | [] => rfl
  | a :: as => by
    have ih := compL_T hk hc hf as
    have h1 := hk a
    show TQ _ ((kt (e a)).bind _) ((((k a).bind c).calm).bind _)
    cases hka : k a with
    | stuck => trivial
    | err s => trivial
    | ok b =>
      rw [h1.ok hka]
      simp only [hka, R.bind_ok]
      refine (hc b).calm.bind fun z => ?_
      cases z with
      | false => exact ih
      | true =>
        simp only [if_true]
        exact (hf b).calm.bind (f' := List.map e) (k := fun d => (compL kt ft fe ρ (List.map e as)).bind fun ys => R.ok (d :: ys)) (l := fun y => (tcomp (fun a => (k a).bind c) (fun a => (k a).bind t) as).bind fun ys => .ok (y :: ys)) fun y => ih.bind (k := fun ys => .ok (e y :: ys)) (l := fun ys => .ok (y :: ys)) fun ys => (show TL (R.ok (e y :: List.map e ys)) (R.ok (y :: ys)) from rfl)
theorem t_comp {own : List Nat} {fi : PEnv → R (List PyData)} {kt : PyData → R (List (Nat × PyData))} {ft : PEnv → R Bool} {fe : PEnv → R PyData} {s : R (List α)} {c : β → R Bool} {t : β → R γ} (bs : β → List (Nat × PyData)) (k : α → R β) (hi : TL (fi ρ) s) (hk : ∀ a, TQ bs (kt (e a)) (k a)) (hc : ∀ b, TB (ft (setsD (wipeD ρ own) (bs b))) (c b)) (hf : ∀ b, TEq (fe (setsD (wipeD ρ own) (bs b))) (t b)) :
    TL (vcomp own fi kt ft fe ρ) (s.bind fun xs => (tcomp (fun a => (k a).bind c) (fun a => (k a).bind t) xs).calm) := hi.bind (l := fun xs => (tcomp (fun a => (k a).bind c) (fun a => (k a).bind t) xs).calm) fun xs => (compL_T hk hc hf xs).calm
theorem tcomp_yes {α γ : Type} (f : α → R γ) : ∀ xs : List α, tcomp (fun _ => .ok true) f xs = tmap f xs
  | [] => rfl
  | a :: as => by
    show R.bind _ _ = R.bind _ _
    simp only [calm_okk, R.bind_ok, if_true, tcomp_yes f as]
theorem t_map {own : List Nat} {fi : PEnv → R (List PyData)} {kt : PyData → R (List (Nat × PyData))} {fe : PEnv → R PyData} {s : R (List α)} {t : α → R γ} (bs : α → List (Nat × PyData)) (hi : TL (fi ρ) s) (hk : ∀ a, kt (e a) = .ok (bs a)) (hf : ∀ b, TEq (fe (setsD (wipeD ρ own) (bs b))) (t b)) :
    TL (vcomp own fi kt tyes fe ρ) (s.bind fun xs => (tmap t xs).calm) := by
  have h := t_comp (ρ := ρ) (own := own) (fi := fi) (kt := kt) (ft := tyes) (fe := fe) (c := fun _ => .ok true) (t := t) bs (fun a => .ok a) hi (fun a => hk a) (fun b => rfl) hf
  simp only [R.bind_ok, tcomp_yes] at h
  exact h
theorem t_fil {own : List Nat} {fi : PEnv → R (List PyData)} {kt : PyData → R (List (Nat × PyData))} {ft : PEnv → R Bool} {fe : PEnv → R PyData} {s : R (List α)} {c : α → R Bool} {t : α → R γ} (bs : α → List (Nat × PyData)) (hi : TL (fi ρ) s) (hk : ∀ a, kt (e a) = .ok (bs a)) (hc : ∀ b, TB (ft (setsD (wipeD ρ own) (bs b))) (c b)) (hf : ∀ b, TEq (fe (setsD (wipeD ρ own) (bs b))) (t b)) :
    TL (vcomp own fi kt ft fe ρ) (s.bind fun xs => (tcomp c t xs).calm) := by
  have h := t_comp (ρ := ρ) (own := own) (fi := fi) (kt := kt) (ft := ft) (fe := fe) (c := c) (t := t) bs (fun a => .ok a) hi (fun a => hk a) hc hf
  simp only [R.bind_ok] at h
  exact h
/-! slices -/
theorem t_part {s : R Int} (h : TEq (f ρ) s) : TO (vpart f ρ) (b1 tpart s) := h.bind fun _ => rfl
theorem t_nopart : TO (vnopart ρ) (.ok none) := rfl
theorem cut_map {α β : Type} (g : α → β) (xs : List α) (lo hi : Option Int) : cutG (xs.map g) lo hi = (cutG xs lo hi).map g := by
  unfold cutG
  rw [List.length_map, List.map_take, List.map_drop]
theorem t_slice {l u : PEnv → R (Option Int)} {s : R (List α)} {a b : R (Option Int)} (h : TEq (f ρ) s) (hl : TO (l ρ) a) (hu : TO (u ρ) b) : TEq (vslice f l u ρ) (b3 tcut s a b) :=
  h.bind fun xs => hl.bind fun lo => hu.bind fun hi => by
    show R.ok (PyData.list (cutL _ _ _)) = _
    exact congrArg (fun z => R.ok (PyData.list z)) (cut_map e xs lo hi)
theorem t_sliceV {l u : PEnv → R (Option Int)} {s : R (Tup α)} {a b : R (Option Int)} (h : TEq (f ρ) s) (hl : TO (l ρ) a) (hu : TO (u ρ) b) : TEq (vslice f l u ρ) (b3 tcutV s a b) :=
  h.bind fun xs => hl.bind fun lo => hu.bind fun hi => by
    show R.ok (PyData.tuple (cutL _ _ _)) = _
    exact congrArg (fun z => R.ok (PyData.tuple z)) (cut_map e xs.l lo hi)
theorem t_sliceD {l u : PEnv → R (Option Int)} {s : R PyData} {a b : R (Option Int)} (h : TEq (f ρ) s) (hl : TO (l ρ) a) (hu : TO (u ρ) b) : TEq (vslice f l u ρ) (b3 (fun d lo hi => vcut lo hi d) s a b) :=
  h.bind fun xs => hl.bind fun lo => hu.bind fun hi => by
    show TEq (vcut lo hi xs) (vcut lo hi xs)
    cases vcut lo hi xs <;> first | exact rfl | trivial
theorem t_fslice {l u : PEnv → R (Option Int)} {s : R (List α)} {a b : R (Option Int)} (h : TEq (f ρ) s) (hl : TO (l ρ) a) (hu : TO (u ρ) b) : TL (fslice f l u ρ) (b3 tcut s a b) :=
  h.bind fun xs => hl.bind fun lo => hu.bind fun hi => by
    show R.ok (cutL _ _ _) = _
    exact congrArg R.ok (cut_map e xs lo hi)
theorem t_fcat {s t : R (List α)} (h : TEq (f ρ) s) (h' : TEq (g ρ) t) : TL (fcat f g ρ) (b2 taddL s t) :=
  h.bind fun xs => h'.bind fun ys => by
    show TL (if (xs.map e).length + (ys.map e).length ≤ sizeLine then _ else _) (taddL xs ys)
    unfold taddL
    rw [List.length_map, List.length_map, szL]
    split
    · show R.ok _ = R.ok _
      rw [List.map_append]
    · trivial
theorem t_frev {s : R (List α)} (h : TEq (f ρ) s) : TL (frev f ρ) (b1 trev s) := h.bind fun xs => by
  show R.ok _ = R.ok _
  rw [List.map_reverse]
theorem t_fsort {s : R (List Int)} (h : TEq (f ρ) s) : TL (fsort f ρ) (b1 tsort s) := h.bind fun xs => lsort_ints xs
theorem t_index {top : List α → β → R Int} {s : R (List α)} {t : R β} (ho : ∀ a b, TEq (vindex (e a) (e b)) (top a b)) (ha : TEq (f ρ) s) (hb : TEq (g ρ) t) : TEq (vindexF f g ρ) (b2 top s t) := ha.bind fun a => hb.bind fun b => ho a b
/-! change of type -/
def Co (c : α → R β) : Prop := ∀ a, TEq (.ok (e a)) (c a)
theorem t_co {x : R PyData} {s : R α} {c : α → R β} (hc : Co c) (h : TEq x s) : TEq x (b1 c s) := by
  cases s with
  | stuck => trivial
  | err c => exact h
  | ok a => rw [show x = .ok (e a) from h]; exact hc a
def cUp (a : α) : R PyData := .ok (e a)
@[simp] theorem cUp_ap (a : α) : cUp a = .ok (e a) := rfl
theorem Co.up : Co (cUp : α → R PyData) := fun _ => rfl
def cInt : PyData → R Int | .int i => .ok i | _ => .stuck
theorem Co.int : Co cInt := fun d => by cases d <;> first | exact rfl | trivial
@[simp] theorem cInt_ap (i : Int) : cInt (.int i) = .ok i := rfl
def cBool : PyData → R Bool | .bool i => .ok i | _ => .stuck
theorem Co.bool : Co cBool := fun d => by cases d <;> first | exact rfl | trivial
@[simp] theorem cBool_ap (i : Bool) : cBool (.bool i) = .ok i := rfl
def cStr : PyData → R Str | .str i => .ok i | _ => .stuck
theorem Co.str : Co cStr := fun d => by cases d <;> first | exact rfl | trivial
@[simp] theorem cStr_ap (i : Str) : cStr (.str i) = .ok i := rfl
def cNil (_ : List Empty) : R (List α) := .ok []
instance : Enc Empty := ⟨fun x => nomatch x⟩
theorem Co.nil : Co (cNil : List Empty → R (List α)) := fun xs => by cases xs with
  | nil => exact rfl
  | cons x _ => exact nomatch x
@[simp] theorem cNil_ap (x : List Empty) : (cNil x : R (List α)) = .ok [] := rfl
theorem tmap_Co {c : α → R β} (hc : Co c) : ∀ xs : List α, TL (.ok (xs.map e)) (tmap c xs)
  | [] => rfl
  | a :: as => by
    have h1 := hc a
    have ih := tmap_Co hc as
    unfold tmap
    cases hca : c a with
    | stuck => trivial
    | err s => trivial
    | ok b =>
      rw [hca] at h1
      simp only [calm_okk, R.bind_ok]
      cases hcs : tmap c as with
      | stuck => trivial
      | err s => rw [hcs] at ih; exact nomatch (show R.ok (as.map e) = .err s from ih)
      | ok bs =>
        rw [hcs] at ih
        have e1 : R.ok (as.map e) = .ok (bs.map e) := ih
        have e2 : R.ok (e a) = .ok (e b) := h1
        show R.ok (e a :: as.map e) = .ok (e b :: bs.map e)
        rw [R.ok.inj e1, R.ok.inj e2]
theorem Co.list {c : α → R β} (hc : Co c) : Co (tmap c) := fun xs => by
  have h := tmap_Co hc xs
  generalize tmap c xs = t at h
  cases t with
  | stuck => trivial
  | err s => exact nomatch (show R.ok (xs.map e) = .err s from h)
  | ok ys => exact congrArg (fun z => R.ok (PyData.list z)) (R.ok.inj (show R.ok (xs.map e) = .ok (ys.map e) from h))
def cFst {α β γ : Type} (c : α → R γ) (d : β → R δ) (p : α × β) : R (γ × δ) := (c p.1).bind fun x => (d p.2).bind fun y => .ok (x, y)
def cL2 {α : Type} (xs : List α) : R (α × α) := match xs with | [a, b] => .ok (a, b) | _ => .stuck
def cV2 {α : Type} (xs : Tup α) : R (α × α) := match xs.l with | [a, b] => .ok (a, b) | _ => .stuck
def cSome {α : Type} : Option α → R α | some a => .ok a | none => .stuck
@[simp] theorem cSome_ap {α : Type} (a : α) : cSome (some a) = .ok a := rfl
theorem Co.some : Co (cSome : Option α → R α) := fun o => by cases o <;> first | exact rfl | trivial
def cJust {α : Type} (a : α) : R (Option α) := .ok (some a)
@[simp] theorem cJust_ap {α : Type} (a : α) : cJust a = .ok (some a) := rfl
theorem Co.just : Co (cJust : α → R (Option α)) := fun a => rfl
def cNone {α : Type} (_ : Unit) : R (Option α) := .ok none
@[simp] theorem cNone_ap {α : Type} (u : Unit) : (cNone u : R (Option α)) = .ok none := rfl
theorem Co.none : Co (cNone : Unit → R (Option α)) := fun a => rfl
def cP2 {α β γ δ : Type} (c : α → R γ) (d : β → R δ) (p : α × β) : R (γ × δ) := (c p.1).bind fun x => (d p.2).bind fun y => .ok (x, y)
@[simp] theorem cP2_ap {α β γ δ : Type} (c : α → R γ) (d : β → R δ) (p : α × β) : cP2 c d p = (c p.1).bind fun x => (d p.2).bind fun y => .ok (x, y) := rfl
theorem Co.p2 {c : α → R γ} {d : β → R δ} (hc : Co c) (hd : Co d) : Co (cP2 c d) := fun p => by
  have h1 := hc p.1
  have h2 := hd p.2
  unfold cP2
  cases hx : c p.1 with
  | stuck => trivial
  | err s => rw [hx] at h1; exact nomatch (show R.ok (e p.1) = .err s from h1)
  | ok x =>
    cases hy : d p.2 with
    | stuck => trivial
    | err s => rw [hy] at h2; exact nomatch (show R.ok (e p.2) = .err s from h2)
    | ok y =>
      rw [hx] at h1; rw [hy] at h2
      show R.ok (PyData.tuple [e p.1, e p.2]) = .ok (PyData.tuple [e x, e y])
      rw [R.ok.inj (show R.ok (e p.1) = .ok (e x) from h1), R.ok.inj (show R.ok (e p.2) = .ok (e y) from h2)]
def c2V {α : Type} (p : α × α) : R (Tup α) := .ok ⟨[p.1, p.2]⟩
def c3V {α : Type} (p : T3 α α α) : R (Tup α) := .ok ⟨[p.a, p.b, p.c]⟩
def c4V {α : Type} (p : T4 α α α α) : R (Tup α) := .ok ⟨[p.a, p.b, p.c, p.d]⟩
def c1V {α : Type} (p : T1 α) : R (Tup α) := .ok ⟨[p.a]⟩
@[simp] theorem c1V_ap {α : Type} (p : T1 α) : c1V p = .ok ⟨[p.a]⟩ := rfl
@[simp] theorem c2V_ap {α : Type} (p : α × α) : c2V p = .ok ⟨[p.1, p.2]⟩ := rfl
@[simp] theorem c3V_ap {α : Type} (p : T3 α α α) : c3V p = .ok ⟨[p.a, p.b, p.c]⟩ := rfl
@[simp] theorem c4V_ap {α : Type} (p : T4 α α α α) : c4V p = .ok ⟨[p.a, p.b, p.c, p.d]⟩ := rfl
theorem Co.t1 : Co (c1V : T1 α → R (Tup α)) := fun _ => rfl
theorem Co.t2 : Co (c2V : α × α → R (Tup α)) := fun _ => rfl
theorem Co.t3 : Co (c3V : T3 α α α → R (Tup α)) := fun _ => rfl
theorem Co.t4 : Co (c4V : T4 α α α α → R (Tup α)) := fun _ => rfl
end
/-! more changes of type -/
section
variable {α β γ δ α' β' γ' δ' : Type} [Enc α] [Enc β] [Enc γ] [Enc δ] [Enc α'] [Enc β'] [Enc γ'] [Enc δ']
theorem Co.inv {c : α → R β} (hc : Co c) (a : α) : c a = .stuck ∨ ∃ b, c a = .ok b ∧ e a = e b := by
  have h := hc a
  cases hx : c a with
  | stuck => exact .inl rfl
  | err s => rw [hx] at h; exact nomatch (show R.ok (e a) = .err s from h)
  | ok b => rw [hx] at h; exact .inr ⟨b, rfl, R.ok.inj (show R.ok (e a) = .ok (e b) from h)⟩
def cP3 (c : α → R α') (d : β → R β') (f : γ → R γ') (p : T3 α β γ) : R (T3 α' β' γ') := (c p.a).bind fun x => (d p.b).bind fun y => (f p.c).bind fun z => .ok ⟨x, y, z⟩
def cP4 (c : α → R α') (d : β → R β') (f : γ → R γ') (g : δ → R δ') (p : T4 α β γ δ) : R (T4 α' β' γ' δ') := (c p.a).bind fun x => (d p.b).bind fun y => (f p.c).bind fun z => (g p.d).bind fun w => .ok ⟨x, y, z, w⟩
@[simp] theorem cP3_ap (c : α → R α') (d : β → R β') (f : γ → R γ') (p : T3 α β γ) : cP3 c d f p = (c p.a).bind fun x => (d p.b).bind fun y => (f p.c).bind fun z => .ok ⟨x, y, z⟩ := rfl
@[simp] theorem cP4_ap (c : α → R α') (d : β → R β') (f : γ → R γ') (g : δ → R δ') (p : T4 α β γ δ) : cP4 c d f g p = (c p.a).bind fun x => (d p.b).bind fun y => (f p.c).bind fun z => (g p.d).bind fun w => .ok ⟨x, y, z, w⟩ := rfl
theorem Co.p3 {c : α → R α'} {d : β → R β'} {f : γ → R γ'} (hc : Co c) (hd : Co d) (hf : Co f) : Co (cP3 c d f) := fun p => by
  unfold cP3
  rcases hc.inv p.a with h | ⟨x, h, e1⟩
  · rw [h]; trivial
  rcases hd.inv p.b with h2 | ⟨y, h2, e2⟩
  · rw [h, h2]; trivial
  rcases hf.inv p.c with h3 | ⟨z, h3, e3⟩
  · rw [h, h2, h3]; trivial
  rw [h, h2, h3]
  show R.ok (PyData.tuple [e p.a, e p.b, e p.c]) = .ok (PyData.tuple [e x, e y, e z])
  rw [e1, e2, e3]
theorem Co.p4 {c : α → R α'} {d : β → R β'} {f : γ → R γ'} {g : δ → R δ'} (hc : Co c) (hd : Co d) (hf : Co f) (hg : Co g) : Co (cP4 c d f g) := fun p => by
  unfold cP4
  rcases hc.inv p.a with h | ⟨x, h, e1⟩
  · rw [h]; trivial
  rcases hd.inv p.b with h2 | ⟨y, h2, e2⟩
  · rw [h, h2]; trivial
  rcases hf.inv p.c with h3 | ⟨z, h3, e3⟩
  · rw [h, h2, h3]; trivial
  rcases hg.inv p.d with h4 | ⟨w, h4, e4⟩
  · rw [h, h2, h3, h4]; trivial
  rw [h, h2, h3, h4]
  show R.ok (PyData.tuple [e p.a, e p.b, e p.c, e p.d]) = .ok (PyData.tuple [e x, e y, e z, e w])
  rw [e1, e2, e3, e4]
end
/-! casts ahead of a pattern -/
section
variable {α : Type} [Enc α]
def cL3 {α : Type} (xs : List α) : R (T3 α α α) := match xs with | [a, b, c] => .ok ⟨a, b, c⟩ | _ => .stuck
def cV3 {α : Type} (xs : Tup α) : R (T3 α α α) := match xs.l with | [a, b, c] => .ok ⟨a, b, c⟩ | _ => .stuck
def cL4 {α : Type} (xs : List α) : R (T4 α α α α) := match xs with | [a, b, c, d] => .ok ⟨a, b, c, d⟩ | _ => .stuck
def cV4 {α : Type} (xs : Tup α) : R (T4 α α α α) := match xs.l with | [a, b, c, d] => .ok ⟨a, b, c, d⟩ | _ => .stuck
def cD1 : PyData → R (T1 PyData) | .tuple [a] => .ok ⟨a⟩ | .list [a] => .ok ⟨a⟩ | _ => .stuck
def cD2 : PyData → R (PyData × PyData) | .tuple [a, b] => .ok (a, b) | .list [a, b] => .ok (a, b) | _ => .stuck
def cD3 : PyData → R (T3 PyData PyData PyData) | .tuple [a, b, c] => .ok ⟨a, b, c⟩ | .list [a, b, c] => .ok ⟨a, b, c⟩ | _ => .stuck
def cD4 : PyData → R (T4 PyData PyData PyData PyData) | .tuple [a, b, c, d] => .ok ⟨a, b, c, d⟩ | .list [a, b, c, d] => .ok ⟨a, b, c, d⟩ | _ => .stuck
theorem cL2_k {i j : Nat} (xs : List α) : TQ (fun p : α × α => [(i, e p.1), (j, e p.2)]) (gT (gC (gN i) (gC (gN j) gE)) (e xs)) (cL2 xs) := by
  rcases xs with _ | ⟨a, _ | ⟨b, _ | ⟨c, xs⟩⟩⟩ <;> first | exact rfl | trivial
theorem cV2_k {i j : Nat} (xs : Tup α) : TQ (fun p : α × α => [(i, e p.1), (j, e p.2)]) (gT (gC (gN i) (gC (gN j) gE)) (e xs)) (cV2 xs) := by
  obtain ⟨xs⟩ := xs
  rcases xs with _ | ⟨a, _ | ⟨b, _ | ⟨c, xs⟩⟩⟩ <;> first | exact rfl | trivial
theorem cL3_k {i j k : Nat} (xs : List α) : TQ (fun p : T3 α α α => [(i, e p.a), (j, e p.b), (k, e p.c)]) (gT (gC (gN i) (gC (gN j) (gC (gN k) gE))) (e xs)) (cL3 xs) := by
  rcases xs with _ | ⟨a, _ | ⟨b, _ | ⟨c, _ | ⟨d, xs⟩⟩⟩⟩ <;> first | exact rfl | trivial
theorem cV3_k {i j k : Nat} (xs : Tup α) : TQ (fun p : T3 α α α => [(i, e p.a), (j, e p.b), (k, e p.c)]) (gT (gC (gN i) (gC (gN j) (gC (gN k) gE))) (e xs)) (cV3 xs) := by
  obtain ⟨xs⟩ := xs
  rcases xs with _ | ⟨a, _ | ⟨b, _ | ⟨c, _ | ⟨d, xs⟩⟩⟩⟩ <;> first | exact rfl | trivial
theorem cL4_k {i j k l : Nat} (xs : List α) : TQ (fun p : T4 α α α α => [(i, e p.a), (j, e p.b), (k, e p.c), (l, e p.d)]) (gT (gC (gN i) (gC (gN j) (gC (gN k) (gC (gN l) gE)))) (e xs)) (cL4 xs) := by
  rcases xs with _ | ⟨a, _ | ⟨b, _ | ⟨c, _ | ⟨d, _ | ⟨x, xs⟩⟩⟩⟩⟩ <;> first | exact rfl | trivial
theorem cV4_k {i j k l : Nat} (xs : Tup α) : TQ (fun p : T4 α α α α => [(i, e p.a), (j, e p.b), (k, e p.c), (l, e p.d)]) (gT (gC (gN i) (gC (gN j) (gC (gN k) (gC (gN l) gE)))) (e xs)) (cV4 xs) := by
  obtain ⟨xs⟩ := xs
  rcases xs with _ | ⟨a, _ | ⟨b, _ | ⟨c, _ | ⟨d, _ | ⟨x, xs⟩⟩⟩⟩⟩ <;> first | exact rfl | trivial
theorem cD2_k {i j : Nat} (d : PyData) : TQ (fun p : PyData × PyData => [(i, e p.1), (j, e p.2)]) (gT (gC (gN i) (gC (gN j) gE)) (e d)) (cD2 d) := by
  cases d with
  | tuple xs => rcases xs with _ | ⟨a, _ | ⟨b, _ | ⟨c, xs⟩⟩⟩ <;> first | exact rfl | trivial
  | list xs => rcases xs with _ | ⟨a, _ | ⟨b, _ | ⟨c, xs⟩⟩⟩ <;> first | exact rfl | trivial
  | _ => trivial
theorem cD3_k {i j k : Nat} (d : PyData) : TQ (fun p : T3 PyData PyData PyData => [(i, e p.a), (j, e p.b), (k, e p.c)]) (gT (gC (gN i) (gC (gN j) (gC (gN k) gE))) (e d)) (cD3 d) := by
  cases d with
  | tuple xs => rcases xs with _ | ⟨a, _ | ⟨b, _ | ⟨c, _ | ⟨y, xs⟩⟩⟩⟩ <;> first | exact rfl | trivial
  | list xs => rcases xs with _ | ⟨a, _ | ⟨b, _ | ⟨c, _ | ⟨y, xs⟩⟩⟩⟩ <;> first | exact rfl | trivial
  | _ => trivial
theorem cD4_k {i j k l : Nat} (d : PyData) : TQ (fun p : T4 PyData PyData PyData PyData => [(i, e p.a), (j, e p.b), (k, e p.c), (l, e p.d)]) (gT (gC (gN i) (gC (gN j) (gC (gN k) (gC (gN l) gE)))) (e d)) (cD4 d) := by
  cases d with
  | tuple xs => rcases xs with _ | ⟨a, _ | ⟨b, _ | ⟨c, _ | ⟨y, _ | ⟨x, xs⟩⟩⟩⟩⟩ <;> first | exact rfl | trivial
  | list xs => rcases xs with _ | ⟨a, _ | ⟨b, _ | ⟨c, _ | ⟨y, _ | ⟨x, xs⟩⟩⟩⟩⟩ <;> first | exact rfl | trivial
  | _ => trivial
end
end VL

namespace VL
open PySem PySem.Spec PyProof.Rows L2
open Enc (e)

/-! ### operators, typed -/
theorem cite_pos {p : Prop} (h : p) {α : Type} {a b : α} : @ite α p (Classical.propDecidable p) a b = a := if_pos h
theorem cite_neg {p : Prop} (h : ¬ p) {α : Type} {a b : α} : @ite α p (Classical.propDecidable p) a b = b := if_neg h
section
variable {α β γ δ ε ζ η θ : Type} [Enc α] [Enc β] [Enc γ] [Enc δ] [Enc ε] [Enc ζ] [Enc η] [Enc θ]
theorem o_addI (a b : Int) : TEq (vadd (e a) (e b)) (taddI a b) := rfl
theorem o_subI (a b : Int) : TEq (vsub (e a) (e b)) (tsubI a b) := rfl
theorem o_mulI (a b : Int) : TEq (vmul (e a) (e b)) (tmulI a b) := by
  show TEq (if IntMulOk a b then _ else _) (if IntMulOk a b then _ else _)
  by_cases h : IntMulOk a b
  · rw [if_pos h, if_pos h]; exact rfl
  · rw [if_neg h, if_neg h]; trivial
theorem o_fdivI (a b : Int) : TEq (vfdiv (e a) (e b)) (tfdivI a b) := by
  by_cases h : 0 < b ∧ b < 2 ^ 250
  · rw [show tfdivI a b = .ok (a / b) from if_pos h]; exact if_pos h
  · rw [show tfdivI a b = .stuck from if_neg h]; trivial
theorem o_modI (a b : Int) : TEq (vmod (e a) (e b)) (tmodI a b) := by
  show TEq (if 0 < b then _ else _) (if 0 < b then _ else _)
  split
  · exact rfl
  · trivial
theorem o_powI (a b : Int) : TEq (vpow (e a) (e b)) (tpowI a b) := by
  by_cases h : 0 ≤ b ∧ b ≤ 1000 ∧ a.natAbs < 2 ^ 64
  · rw [show tpowI a b = .ok (a ^ b.toNat) from if_pos h]; exact if_pos h
  · rw [show tpowI a b = .stuck from if_neg h]; trivial
theorem o_negI (a : Int) : TEq (vneg (e a)) (tnegI a) := rfl
theorem o_ltI (a b : Int) : TEq (vlt (e a) (e b)) (tltI a b) := rfl
theorem o_leI (a b : Int) : TEq (vle (e a) (e b)) (tleI a b) := rfl
theorem o_gtI (a b : Int) : TEq (vgt (e a) (e b)) (tgtI a b) := rfl
theorem o_geI (a b : Int) : TEq (vge (e a) (e b)) (tgeI a b) := rfl
theorem o_addL (a b : List α) : TEq (vadd (e a) (e b)) (taddL a b) := by
  show TEq (if (a.map e).length + (b.map e).length ≤ sizeLine then _ else _) (if _ then _ else _)
  rw [List.length_map, List.length_map, szL]
  split
  · show R.ok (PyData.list _) = R.ok (PyData.list _)
    rw [List.map_append]
  · trivial
theorem o_addV (a b : Tup α) : TEq (vadd (e a) (e b)) (taddV a b) := by
  show TEq (if (a.l.map e).length + (b.l.map e).length ≤ sizeLine then _ else _) (if _ then _ else _)
  rw [List.length_map, List.length_map, szL]
  split
  · show R.ok (PyData.tuple _) = R.ok (PyData.tuple _)
    rw [List.map_append]
  · trivial
theorem o_addS (a b : Str) : TEq (vadd (e a) (e b)) (taddS a b) := by
  show TEq (if _ then _ else _) (if _ then _ else _)
  split
  · exact rfl
  · trivial
theorem atI_map {α β : Type} (f : α → β) (xs : List α) (i : Int) : atI (xs.map f) i = (atI xs i).map f := by
  unfold atI
  rw [List.length_map]
  cases ixN xs.length i <;> simp
theorem o_idx (a : List α) (b : Int) : TEq (vidx (e a) (e b)) (tidx a b) := by
  show TEq (match atI (a.map e) b with | some d => .ok d | none => .stuck) (match atI a b with | some d => .ok d | none => .stuck)
  rw [atI_map]
  cases atI a b <;> first | exact rfl | trivial
theorem o_idxV (a : Tup α) (b : Int) : TEq (vidx (e a) (e b)) (tidxV a b) := by
  show TEq (match atI (a.l.map e) b with | some d => .ok d | none => .stuck) (match atI a.l b with | some d => .ok d | none => .stuck)
  rw [atI_map]
  cases atI a.l b <;> first | exact rfl | trivial
/-- an item of a written tuple -/
def pj {α β : Type} (f : α → β) (a : α) : R β := .ok (f a)
@[simp] theorem pj_ap {α β : Type} (f : α → β) (a : α) : pj f a = .ok (f a) := rfl
theorem o_pj {n : Int} {p : α → β} (h : ∀ a : α, vidx (e a) (.int n) = .ok (e (p a)) := by intro _; rfl) {ρ : PEnv} {f : PEnv → R PyData} {s : R α} (ha : TEq (f ρ) s) : TEq (v2 vidx f (vC (.int n)) ρ) (b1 (pj p) s) := ha.bind fun a => h a
theorem o_pjN {n : Int} {p : α → β} (h : ∀ a : α, vidx (e a) (.int (-n)) = .ok (e (p a)) := by intro _; rfl) {ρ : PEnv} {f : PEnv → R PyData} {s : R α} (ha : TEq (f ρ) s) : TEq (v2 vidx f (v1 vneg (vC (.int n))) ρ) (b1 (pj p) s) := ha.bind fun a => h a
theorem vEq_T [q : EqE α] (a b : α) (h : EqE.ok a ∧ EqE.ok b) (hd : EqE.dep α ≤ 64) : vEq (e a) (e b) = .ok (@decide (a = b) (q.dec a b)) := by
  rw [vEq_ok (EqE.lay a h.1) (EqE.lay b h.2) hd hd, EqE.eqv a b h.1 h.2]
theorem o_eq [q : EqE α] (hd : EqE.dep α ≤ 64 := by decide) (a b : α) : TEq (veq (e a) (e b)) (teq a b) := by
  unfold teq
  by_cases h : EqE.ok a ∧ EqE.ok b
  · rw [if_pos h]; unfold veq; rw [vEq_T a b h hd]; exact rfl
  · rw [if_neg h]; trivial
theorem o_ne [q : EqE α] (hd : EqE.dep α ≤ 64 := by decide) (a b : α) : TEq (vne (e a) (e b)) (tne a b) := by
  unfold tne
  by_cases h : EqE.ok a ∧ EqE.ok b
  · rw [if_pos h]; unfold vne; rw [vEq_T a b h hd]; exact rfl
  · rw [if_neg h]; trivial
theorem any_T [q : EqE α] {a : α} (ha : EqE.ok a) : ∀ {xs : List α}, (∀ x ∈ xs, EqE.ok x) → ((xs.map e).any fun z => PyData.eqv z (e a)) = xs.any fun x => @decide (x = a) (q.dec x a)
  | [], _ => rfl
  | x :: xs, h => by
    rw [List.map_cons, List.any_cons, List.any_cons, any_T ha fun y hy => h y (List.mem_cons_of_mem _ hy), EqE.eqv x a (h x List.mem_cons_self) ha]
theorem o_in [q : EqE α] (hd : EqE.dep α + 1 ≤ 64 := by decide) (a : α) (b : List α) : TEq (vIn (e a) (e b)) (tin a b) := by
  unfold tin
  by_cases h : EqE.ok a ∧ EqE.ok b
  · rw [if_pos h]
    show TEq (vIn (e a) (.list (b.map e))) _
    rw [vIn_ok (EqE.lay a h.1) (EqE.lay b h.2) (by omega) hd, any_T h.1 h.2.2]; exact rfl
  · rw [if_neg h]; trivial
theorem o_nin [q : EqE α] (hd : EqE.dep α + 1 ≤ 64 := by decide) (a : α) (b : List α) : TEq (vNotIn (e a) (e b)) (tnin a b) := by
  unfold tnin
  by_cases h : EqE.ok a ∧ EqE.ok b
  · rw [if_pos h]
    show TEq (vNotIn (e a) (.list (b.map e))) _
    rw [vNotIn_ok (EqE.lay a h.1) (EqE.lay b h.2) (by omega) hd, any_T h.1 h.2.2]; exact rfl
  · rw [if_neg h]; trivial
noncomputable def tinV {α : Type} [Enc α] [EqE α] (a : α) (xs : Tup α) : R Bool := tin a xs.l
noncomputable def tninV {α : Type} [Enc α] [EqE α] (a : α) (xs : Tup α) : R Bool := tnin a xs.l
@[simp] theorem tinV_ap [EqE α] (a : α) (xs : Tup α) : tinV a xs = tin a xs.l := rfl
@[simp] theorem tninV_ap [EqE α] (a : α) (xs : Tup α) : tninV a xs = tnin a xs.l := rfl
theorem o_inV [q : EqE α] (hd : EqE.dep α + 1 ≤ 64 := by decide) (a : α) (b : Tup α) : TEq (vInT (e a) (e b)) (tinV a b) := by
  unfold tinV tin
  by_cases h : EqE.ok a ∧ EqE.ok b.l
  · rw [if_pos h]
    show TEq (vInT (e a) (.tuple (b.l.map e))) _
    rw [vInT_ok (EqE.lay a h.1) (EqE.lay (α := Tup α) b h.2) (by omega) hd, any_T h.1 h.2.2]; exact rfl
  · rw [if_neg h]; trivial
theorem o_ninV [q : EqE α] (hd : EqE.dep α + 1 ≤ 64 := by decide) (a : α) (b : Tup α) : TEq (vNotInT (e a) (e b)) (tninV a b) := by
  unfold tninV tnin
  by_cases h : EqE.ok a ∧ EqE.ok b.l
  · rw [if_pos h]
    show TEq (vNotInT (e a) (.tuple (b.l.map e))) _
    rw [vNotInT_ok (EqE.lay a h.1) (EqE.lay (α := Tup α) b h.2) (by omega) hd, any_T h.1 h.2.2]; exact rfl
  · rw [if_neg h]; trivial
noncomputable def tindex {α : Type} [Enc α] [q : EqE α] (xs : List α) (a : α) : R Int := @ite _ (EqE.ok a ∧ EqE.ok xs) (Classical.propDecidable _) (match xs.findIdx? fun x => @decide (x = a) (q.dec x a) with | some j => .ok (j : Nat) | none => .stuck) .stuck
theorem find_T [q : EqE α] {a : α} (ha : EqE.ok a) : ∀ {xs : List α}, (∀ x ∈ xs, EqE.ok x) → ((xs.map e).findIdx? fun z => PyData.eqv z (e a)) = xs.findIdx? fun x => @decide (x = a) (q.dec x a)
  | [], _ => rfl
  | x :: xs, h => by
    rw [List.map_cons, List.findIdx?_cons, List.findIdx?_cons, find_T ha fun y hy => h y (List.mem_cons_of_mem _ hy), EqE.eqv x a (h x List.mem_cons_self) ha]
theorem o_index [q : EqE α] (hd : EqE.dep α + 1 ≤ 64 := by decide) (b : List α) (a : α) : TEq (vindex (e b) (e a)) (tindex b a) := by
  unfold tindex
  by_cases h : EqE.ok a ∧ EqE.ok b
  · rw [if_pos h]
    show TEq (if _ then _ else _) _
    rw [if_pos ⟨okS.shaped (EqE.lay b h.2) hd, okS.shaped (EqE.lay a h.1) (by omega)⟩, find_T h.1 h.2.2]
    cases b.findIdx? fun x => @decide (x = a) (q.dec x a) <;> first | exact rfl | trivial
  · rw [if_neg h]; trivial
/- anything over data -/
theorem o_D2 {op : PyData → PyData → R PyData} (a b : PyData) : TEq (op (e a) (e b)) (op a b) := by
  show TEq (op a b) (op a b)
  cases op a b <;> first | exact rfl | trivial
theorem o_D1 {op : PyData → R PyData} (a : PyData) : TEq (op (e a)) (op a) := by
  show TEq (op a) (op a)
  cases op a <;> first | exact rfl | trivial
def dB (op : PyData → PyData → R PyData) (a b : PyData) : R Bool := (op a b).bind cBool
def dB1 (op : PyData → R PyData) (a : PyData) : R Bool := (op a).bind cBool
@[simp] theorem dB_ap (op : PyData → PyData → R PyData) (a b : PyData) : dB op a b = (op a b).bind cBool := rfl
@[simp] theorem dB1_ap (op : PyData → R PyData) (a : PyData) : dB1 op a = (op a).bind cBool := rfl
theorem o_DB2 {op : PyData → PyData → R PyData} (a b : PyData) : TEq (op (e a) (e b)) (dB op a b) := t_co Co.bool (o_D2 a b)
theorem o_DB1 {op : PyData → R PyData} (a : PyData) : TEq (op (e a)) (dB1 op a) := t_co Co.bool (o_D1 a)
/- built-ins -/
theorem o_len (a : List α) : TEq (vlen [e a]) (tlen a) := by show R.ok (PyData.int ((a.map e).length)) = _; rw [List.length_map]; rfl
theorem o_lenV (a : Tup α) : TEq (vlen [e a]) (tlenV a) := by show R.ok (PyData.int ((a.l.map e).length)) = _; rw [List.length_map]; rfl
theorem o_lenS (a : Str) : TEq (vlen [e a]) (tlenS a) := by
  show TEq (if _ then _ else _) (if _ then _ else _)
  split
  · exact rfl
  · trivial
theorem o_D1L {op : List PyData → R PyData} (a : PyData) : TEq (op [e a]) (op [a]) := by
  show TEq (op [a]) (op [a])
  cases op [a] <;> first | exact rfl | trivial
theorem o_int (a : Int) : TEq (vint1 [e a]) (tint a) := rfl
theorem o_intB (a : Bool) : TEq (vint1 [e a]) (tintB a) := rfl
theorem o_abs (a : Int) : TEq (vabs [e a]) (tabs a) := rfl
theorem o_tupL (a : List α) : TEq (vtuple1 [e a]) (ttupL a) := rfl
theorem o_tupV (a : Tup α) : TEq (vtuple1 [e a]) (tid a) := rfl
theorem o_listL (a : List α) : TEq (vlist1 [e a]) (tid a) := rfl
theorem o_listV (a : Tup α) : TEq (vlist1 [e a]) (tlistV a) := rfl
theorem o_sum (a : List Int) : TEq (vsum [e a]) (tsum a) := vsum_ints a
theorem o_all (a : List Bool) : TEq (vall [e a]) (tallB a) := vall_bools a
theorem o_any (a : List Bool) : TEq (vany [e a]) (tanyB a) := vany_bools a
theorem o_maxL (a : List Int) : TEq (vmax [e a]) (tmaxL a) := by
  show TEq (match intsOf (a.map PyData.int) with | some ns => vmax1 ns | none => .stuck) _
  rw [intsOf_map]
  show TEq (vmax1 a) _
  unfold tmaxL vmax1
  cases a.max? <;> first | exact rfl | trivial
theorem o_minL (a : List Int) : TEq (vmin [e a]) (tminL a) := by
  show TEq (match intsOf (a.map PyData.int) with | some ns => vmin1 ns | none => .stuck) _
  rw [intsOf_map]
  show TEq (vmin1 a) _
  unfold tminL vmin1
  cases a.min? <;> first | exact rfl | trivial
theorem o_max2 (a b : Int) : TEq (vmax [e a, e b]) (tmax2 a b) := rfl
theorem o_min2 (a b : Int) : TEq (vmin [e a, e b]) (tmin2 a b) := rfl
theorem o_max3 (a b c : Int) : TEq (vmax3 [e a, e b, e c]) (tmax3 a b c) := rfl
theorem o_min3 (a b c : Int) : TEq (vmin3 [e a, e b, e c]) (tmin3 a b c) := rfl
theorem o_range1 (j : Int) : TL (vrange1 (e j)) (trange1 j) := by
  show TL (if rngOk 0 j then _ else _) (if rngOk 0 j then _ else _)
  split
  · show R.ok _ = R.ok _
    unfold rangeD rangeI; rw [List.map_map]; rfl
  · trivial
theorem o_range2 (i j : Int) : TL (vrange2 (e i) (e j)) (trange2 i j) := by
  show TL (if rngOk i j then _ else _) (if rngOk i j then _ else _)
  split
  · show R.ok _ = R.ok _
    unfold rangeD rangeI; rw [List.map_map]; rfl
  · trivial
theorem o_rangeN (i j : Int) : TL (vrangeN (e i) (e j)) (trangeN i j) := by
  show TL (if rngOk i j ∧ i - j ≤ 16777216 then _ else _) (if rngOk i j ∧ i - j ≤ 16777216 then _ else _)
  split
  · show R.ok _ = R.ok _
    unfold rangeCD rangeCI; rw [List.map_map]; rfl
  · trivial
theorem o_enum (xs : List α) : TL (venum (e xs)) (tenum xs) := by
  show R.ok (enumD (xs.map e)) = R.ok _
  unfold enumD
  congr 1
  apply List.ext_getElem?
  intro i
  simp only [List.getElem?_mapIdx, List.getElem?_map, Option.map_map]
  rfl
theorem o_zip (xs : List α) (ys : List β) : TL (vzip (e xs) (e ys)) (tzip xs ys) := by
  show R.ok (zipD (xs.map e) (ys.map e)) = R.ok _
  unfold zipD
  rw [List.zipWith_map, List.map_zipWith]; rfl
theorem o_rev (xs : List α) : TL (vrev (e xs)) (trev xs) := by
  show R.ok _ = R.ok _
  rw [List.map_reverse]
theorem o_truI (i : Int) : TB (vtruth (e i)) (ttruI i) := rfl
theorem o_truB (i : Bool) : TB (vtruth (e i)) (tid i) := rfl
theorem o_truL (i : List α) : TB (vtruth (e i)) (ttruL i) := by cases i <;> rfl
theorem o_truV (i : Tup α) : TB (vtruth (e i)) (ttruV i) := by obtain ⟨i⟩ := i; cases i <;> rfl
theorem TB_id {x : R Bool} : TB x x := by cases x <;> first | exact rfl | trivial
theorem o_truD (i : PyData) : TB (vtruth (e i)) (vtruth i) := TB_id
theorem o_isnoneD (i : PyData) : TEq (visnone (e i)) (tisnoneD i) := rfl
theorem o_isnoneK (b : Bool) (h : ∀ a : α, visnone (e a) = .ok (.bool b)) (i : α) : TEq (visnone (e i)) ((fun _ => R.ok b) i) := h i
/-- an answer that the type gives -/
def tK {α : Type} (b : Bool) (_ : α) : R Bool := .ok b
@[simp] theorem tK_ap {α : Type} (b : Bool) (a : α) : tK b a = .ok b := rfl
theorem o_K {op : PyData → R PyData} {b : Bool} (h : ∀ a : α, op (e a) = .ok (.bool b) := by intro _; rfl) (i : α) : TEq (op (e i)) (tK b i) := h i

/-! ### what is one's own -/
abbrev oF (a : α) : O := .fz (e a)
abbrev oL {α : Type} (ox : α → O) (xs : List α) : O := .lst (xs.map ox)
theorem dF (a : α) : O.data (oF a) = e a := O.data_fz _
theorem dL {ox : α → O} (h : ∀ a, O.data (ox a) = e a) (xs : List α) : O.data (oL ox xs) = e xs := by
  show _ = PyData.list (xs.map e)
  rw [O.data_lst, List.map_map]
  congr 1
  exact List.map_congr_left fun a _ => h a
/-- values without lists -/
class LF (α : Type) [Enc α] : Prop where
  h : ∀ a : α, lf (e a) = true
instance : LF Int := ⟨lf_int⟩
instance : LF Bool := ⟨lf_bool⟩
instance : LF Str := ⟨lf_str⟩
instance : LF Unit := ⟨fun _ => lf_none⟩
instance [LF α] : LF (T1 α) := ⟨fun p => by show lf (.tuple _) = true; simp [LF.h]⟩
instance [LF α] [LF β] : LF (α × β) := ⟨fun p => by show lf (.tuple _) = true; simp [LF.h]⟩
instance [LF α] [LF β] [LF γ] : LF (T3 α β γ) := ⟨fun p => by show lf (.tuple _) = true; simp [LF.h]⟩
instance [LF α] [LF β] [LF γ] [LF δ] : LF (T4 α β γ δ) := ⟨fun p => by show lf (.tuple _) = true; simp [LF.h]⟩
instance [LF α] [LF β] [LF γ] [LF δ] [LF ε] : LF (T5 α β γ δ ε) := ⟨fun p => by show lf (.tuple _) = true; simp [LF.h]⟩
theorem lfs_map [LF α] : ∀ xs : List α, lfs (xs.map e) = true
  | [] => lfs_nil
  | x :: xs => by rw [List.map_cons, lfs_cons, LF.h, lfs_map xs]; rfl
instance [LF α] : LF (Tup α) := ⟨fun p => by show lf (.tuple _) = true; rw [lf_tuple]; exact lfs_map _⟩
instance [LF α] : LF (Option α) := ⟨fun p => by cases p with | none => exact lf_none | some a => exact LF.h a⟩
theorem t_exF {f : PEnv → R PyData} {ρ : OEnv} {s : R α} (h : TEq (f (viewF ρ)) s) : TEq (exF f ρ) s := h
theorem t_exB [LF α] {f : PEnv → R PyData} {ρ : OEnv} {s : R α} (h : TEq (f (viewB ρ)) s) : TEq (exB f ρ) s := by
  show TEq ((f (viewB ρ)).bind lfok) s
  cases s with
  | stuck => trivial
  | err c => show (f (viewB ρ)).bind lfok = _; rw [show f (viewB ρ) = .err c from h]; rfl
  | ok a => show (f (viewB ρ)).bind lfok = _; rw [show f (viewB ρ) = .ok (e a) from h]; show (if lf (e a) = true then _ else _) = _; rw [if_pos (LF.h a)]
/-- data that may hold a list -/
theorem t_exBD {f : PEnv → R PyData} {ρ : OEnv} {s : R PyData} (h : TEq (f (viewB ρ)) s) : TEq (exB f ρ) (b1 lfok s) := h.bind fun d => by
  show TEq (lfok d) (lfok d)
  cases lfok d <;> first | exact rfl | trivial
theorem p_x {h : OEnv → R PyData} {ρ : OEnv} {s : R α} (hs : TEq (h ρ) s) : TQ (fun a : α => (oF a, ρ)) (oX h ρ) s := by
  cases s with
  | stuck => trivial
  | err c => show (h ρ).bind _ = _; rw [show h ρ = .err c from hs]; rfl
  | ok a => show (h ρ).bind _ = _; rw [show h ρ = .ok (e a) from hs]; rfl
theorem p_frF {f : PEnv → R (List PyData)} {ρ : OEnv} {s : R (List α)} (hs : TL (f (viewF ρ)) s) : TQ (fun a : List α => (oL oF a, ρ)) (oFrF f ρ) s := by
  cases s with
  | stuck => trivial
  | err c => show (f (viewF ρ)).bind _ = _; rw [show f (viewF ρ) = .err c from hs]; rfl
  | ok a => show (f (viewF ρ)).bind _ = _; rw [show f (viewF ρ) = .ok (a.map e) from hs]; show R.ok _ = R.ok _; rw [List.map_map]; rfl
theorem p_frB [LF α] {f : PEnv → R (List PyData)} {ρ : OEnv} {s : R (List α)} (hs : TL (f (viewB ρ)) s) : TQ (fun a : List α => (oL oF a, ρ)) (oFrB f ρ) s := by
  cases s with
  | stuck => trivial
  | err c => show (f (viewB ρ)).bind _ = _; rw [show f (viewB ρ) = .err c from hs]; rfl
  | ok a => show (f (viewB ρ)).bind _ = _; rw [show f (viewB ρ) = .ok (a.map e) from hs]; show (if lfs (a.map e) = true then _ else _) = R.ok _; rw [if_pos (lfs_map a), List.map_map]; rfl
theorem p_mv {α : Type} {ox : α → O} {ρ : OEnv} (i : Nat) (a : α) (h : ρ[i]? = some (some (ox a)) := by rfl) : TQ (fun a : α => (ox a, ρ.set i none)) (oMv i ρ) (.ok a) := by
  show oMv i ρ = _
  unfold oMv; rw [h]
def tpop {α : Type} (xs : List α) : R (α × List α) := match xs[xs.length - 1]? with | some a => .ok (a, xs.eraseIdx (xs.length - 1)) | none => .stuck
theorem p_pop {α : Type} {ox : α → O} {ρ : OEnv} (i : Nat) (xs : List α) (h : ρ[i]? = some (some (oL ox xs)) := by rfl) : TQ (fun p : α × List α => (ox p.1, ρ.set i (some (oL ox p.2)))) (oPop i ρ) (tpop xs) := by
  unfold oPop tpop; rw [h]
  simp only [List.length_map, List.getElem?_map]
  cases xs[xs.length - 1]? with
  | none => trivial
  | some a => show R.ok _ = R.ok _; rw [erase_map]
noncomputable def tpopAt {α : Type} (xs : List α) (j : Int) : R (α × List α) := @ite _ (0 ≤ j ∧ j < 16777216) (Classical.propDecidable _) (match xs[j.toNat]? with | some a => .ok (a, xs.eraseIdx j.toNat) | none => .stuck) .stuck
theorem p_popAt {α : Type} {ox : α → O} {ρ : OEnv} {hk : OEnv → R PyData} {t : R Int} (i : Nat) (xs : List α) (hj : TEq (hk ρ) t) (h : ρ[i]? = some (some (oL ox xs)) := by rfl) : TQ (fun p : α × List α => (ox p.1, ρ.set i (some (oL ox p.2)))) (oPopAt i hk ρ) (t.bind fun j => tpopAt xs j) := by
  unfold oPopAt; rw [h]
  refine hj.bind fun j => ?_
  unfold tpopAt
  by_cases hc : 0 ≤ j ∧ j < 16777216
  · simp only [e, Enc.e]
    rw [cite_pos hc, cite_pos hc, List.getElem?_map]
    cases xs[j.toNat]? with
    | none => trivial
    | some a => show R.ok _ = R.ok _; rw [erase_map]
  · rw [cite_neg hc]; trivial
theorem p_call {α : Type} {ox : α → O} {g : List PyData → R O} {fa : PEnv → R (List PyData)} {ρ : OEnv} {s : R α} (h : TQ ox ((fa (viewF ρ)).bind g) s) : TQ (fun a : α => (ox a, ρ)) (oCall g fa ρ) s := by
  have e1 : oCall g fa ρ = ((fa (viewF ρ)).bind g).bind fun o => .ok (o, ρ) := by rw [R.bind_assoc]; rfl
  rw [e1]
  cases s with
  | stuck => trivial
  | err c => show R.bind _ _ = _; rw [show (fa (viewF ρ)).bind g = .err c from h]; rfl
  | ok a => show R.bind _ _ = _; rw [show (fa (viewF ρ)).bind g = .ok (ox a) from h]; rfl
/-- arguments -/
theorem a_0 {ρ : PEnv} {k : List PyData → R O} {ox : θ → O} {t : R θ} (h : TQ ox (k []) t) : TQ ox ((aNil ρ).bind k) t := h
theorem a_1 {f : PEnv → R PyData} {g : PEnv → R (List PyData)} {ρ : PEnv} {k : List PyData → R O} {ox : θ → O} {s : R α} {t : α → R θ} (ha : TEq (f ρ) s) (h : ∀ a, TQ ox ((g ρ).bind fun ds => k (e a :: ds)) (t a)) : TQ ox ((aCons f g ρ).bind k) (s.bind t) := by
  show TQ ox (R.bind (R.bind _ _) _) _
  rw [R.bind_assoc]
  refine ha.bind fun a => ?_
  have := h a
  rw [R.bind_assoc]
  exact this
end
end VL

namespace VL
open PySem PySem.Spec PyProof.Rows L2
open Enc (e)
/-! ### typed statements -/
inductive TR (β l σ : Type) where
  | nx (s : σ)
  | bk (s : l)
  | ct (s : l)
  | rt (b : β)
  | err (c : Str)
  | stuck
def TR.bind {β l σ τ : Type} (x : TR β l σ) (k : σ → TR β l τ) : TR β l τ := match x with
  | .nx s => k s
  | .bk s => .bk s
  | .ct s => .ct s
  | .rt b => .rt b
  | .err c => .err c
  | .stuck => .stuck
def R.tr {α β l σ : Type} (x : R α) (k : α → TR β l σ) : TR β l σ := match x with
  | .ok a => k a
  | .err c => .err c
  | .stuck => .stuck
def tite {β l σ : Type} (c : R Bool) (s t : TR β l σ) : TR β l σ := c.tr fun b => if b then s else t
def forT {α β l σ : Type} (f : α → σ → TR β σ σ) : List α → σ → TR β l σ
  | [], s => .nx s
  | a :: as, s => match f a s with
    | .nx s' => forT f as s'
    | .ct s' => forT f as s'
    | .bk s' => .nx s'
    | .rt b => .rt b
    | .err c => .err c
    | .stuck => .stuck
def whileT {β l σ : Type} (c : σ → R Bool) (f : σ → TR β σ σ) : Nat → σ → TR β l σ
  | 0, _ => .stuck
  | n + 1, s => (c s).tr fun b => if b then (match f s with
    | .nx s' => whileT c f n s'
    | .ct s' => whileT c f n s'
    | .bk s' => .nx s'
    | .rt b => .rt b
    | .err c => .err c
    | .stuck => .stuck) else .nx s
noncomputable def loopT {β l σ : Type} (c : σ → R Bool) (f : σ → TR β σ σ) (s : σ) : TR β l σ :=
  open Classical in if h : ∃ n, whileT (l := l) c f n s ≠ .stuck then whileT c f (Classical.choose h) s else .stuck
def TR.fn {β l σ : Type} (x : TR β l σ) (d : σ → R β) : R β := match x with
  | .nx s => d s
  | .rt b => .ok b
  | .err c => .err c
  | _ => .stuck
def ttry {β l σ : Type} (s : TR β l σ) (tb : Str → Option Bool) (h : TR β l σ) : TR β l σ := match s with
  | .err c => match tb c with
    | some true => (match h with
      | .err _ => .stuck
      | r => r)
    | some false => .err c
    | none => .stuck
  | r => r
section
variable {β l σ τ α : Type}
@[simp] theorem TR.bind_nx (s : σ) (k : σ → TR β l τ) : TR.bind (.nx s) k = k s := rfl
@[simp] theorem TR.bind_bk (s : l) (k : σ → TR β l τ) : TR.bind (.bk s) k = .bk s := rfl
@[simp] theorem TR.bind_ct (s : l) (k : σ → TR β l τ) : TR.bind (.ct s) k = .ct s := rfl
@[simp] theorem TR.bind_rt (s : β) (k : σ → TR β l τ) : TR.bind (.rt s) k = .rt s := rfl
@[simp] theorem TR.bind_err (c : Str) (k : σ → TR β l τ) : TR.bind (.err c) k = .err c := rfl
@[simp] theorem R.tr_ok (a : α) (k : α → TR β l σ) : R.tr (.ok a) k = k a := rfl
@[simp] theorem R.tr_err (c : Str) (k : α → TR β l σ) : R.tr (.err c) k = .err c := rfl
@[simp] theorem R.tr_bind {γ : Type} (x : R γ) (f : γ → R α) (k : α → TR β l σ) : R.tr (x.bind f) k = x.tr fun c => (f c).tr k := by cases x <;> rfl
@[simp] theorem R.tr_ite (p : Prop) [Decidable p] (x y : R α) (k : α → TR β l σ) : R.tr (if p then x else y) k = if p then x.tr k else y.tr k := by split <;> rfl
@[simp] theorem TR.bind_ite (p : Prop) [Decidable p] (x y : TR β l σ) (k : σ → TR β l τ) : TR.bind (if p then x else y) k = if p then x.bind k else y.bind k := by split <;> rfl
@[simp] theorem TR.bind_tr (x : R α) (f : α → TR β l σ) (k : σ → TR β l τ) : TR.bind (x.tr f) k = x.tr fun a => (f a).bind k := by cases x <;> rfl
@[simp] theorem TR.bind_bind {υ : Type} (x : TR β l σ) (f : σ → TR β l τ) (k : τ → TR β l υ) : TR.bind (x.bind f) k = x.bind fun a => (f a).bind k := by cases x <;> rfl
@[simp] theorem tite_ap (c : R Bool) (s t : TR β l σ) : tite c s t = c.tr fun b => if b then s else t := rfl
@[simp] theorem forT_nil (f : α → σ → TR β σ σ) (s : σ) : (forT f [] s : TR β l σ) = .nx s := rfl
@[simp] theorem TR.fn_nx (s : σ) (d : σ → R β) : TR.fn (.nx s : TR β l σ) d = d s := rfl
@[simp] theorem TR.fn_rt (b : β) (d : σ → R β) : TR.fn (.rt b : TR β l σ) d = .ok b := rfl
@[simp] theorem TR.fn_err (c : Str) (d : σ → R β) : TR.fn (.err c : TR β l σ) d = .err c := rfl
@[simp] theorem TR.fn_ite (p : Prop) [Decidable p] (x y : TR β l σ) (d : σ → R β) : TR.fn (if p then x else y) d = if p then x.fn d else y.fn d := by split <;> rfl
@[simp] theorem TR.fn_tr (x : R α) (f : α → TR β l σ) (d : σ → R β) : TR.fn (x.tr f) d = x.bind fun a => (f a).fn d := by cases x <;> rfl
end
/-- what the typed side says of a statement -/
def SQ {β l σ : Type} (E : σ → OEnv → Prop) (L : l → OEnv → Prop) (er : O → β → Prop) (Z : OEnv → Prop) (r : SR) : TR β l σ → Prop
  | .nx s => ∃ ρ, r = .nx ρ ∧ E s ρ
  | .bk s => ∃ ρ, r = .bk ρ ∧ L s ρ
  | .ct s => ∃ ρ, r = .ct ρ ∧ L s ρ
  | .rt b => ∃ o, r = .rt o ∧ er o b
  | .err c => ∃ ρ, r = .err c ρ ∧ Z ρ
  | .stuck => True
section
variable {β l σ τ α γ : Type} {E : σ → OEnv → Prop} {E1 : τ → OEnv → Prop} {L : l → OEnv → Prop} {er : O → β → Prop} {Z : OEnv → Prop} {ρ : OEnv} {g h k g1 : OEnv → SR}
theorem q_nx (s : σ) (h : E s ρ) : SQ E L er Z (sNx ρ) (.nx s) := ⟨ρ, rfl, h⟩
theorem q_bk (s : l) (h : L s ρ) : SQ E L er Z (seq sBk k ρ) (.bk s) := ⟨ρ, rfl, h⟩
theorem q_ct (s : l) (h : L s ρ) : SQ E L er Z (seq sCt k ρ) (.ct s) := ⟨ρ, rfl, h⟩
theorem SR.seq_nxr (r : SR) : SR.seq r sNx = r := by cases r <;> rfl
theorem q_end {t : TR β l σ} (h : SQ E L er Z (seq g sNx ρ) t) : SQ E L er Z (g ρ) t := by
  have : seq g sNx ρ = g ρ := SR.seq_nxr _
  rw [this] at h; exact h
theorem q_nxs {t : TR β l σ} (h : SQ E L er Z (k ρ) t) : SQ E L er Z (seq sNx k ρ) t := h
theorem q_assoc {t : TR β l σ} (hh : SQ E L er Z (seq g (seq h k) ρ) t) : SQ E L er Z (seq (seq g h) k ρ) t := by
  have : seq (seq g h) k ρ = seq g (seq h k) ρ := by
    show SR.seq (SR.seq (g ρ) h) k = SR.seq (g ρ) (seq h k)
    cases g ρ <;> rfl
  rw [this]; exact hh
theorem q_pre {T : OEnv → OEnv} {t : TR β l σ} (hh : SQ E L er Z (seq g k (T ρ)) t) : SQ E L er Z (seq (pre T g) k ρ) t := hh
theorem q_pre0 {T : OEnv → OEnv} {t : TR β l σ} (hh : SQ E L er Z (g (T ρ)) t) : SQ E L er Z (pre T g ρ) t := hh
theorem freeze1 [Enc α] {ox : α → O} {is : List Nat} (i : Nat) (a : α) (hd : ∀ a, O.data (ox a) = e a) (h : ρ[i]? = some (some (ox a)) := by rfl) : freeze (i :: is) ρ = freeze is (ρ.set i (some (oF a))) := by
  rw [freeze_cons]
  unfold freezeAt; rw [h]
  show freeze is (ρ.set i (some (.fz (O.data (ox a))))) = _
  rw [hd]
theorem q_at {ρ' : OEnv} {t : TR β l σ} (he : ρ = ρ') (hh : SQ E L er Z (g ρ') t) : SQ E L er Z (g ρ) t := by rw [he]; exact hh
theorem SQ.sr {α γ : Type} {f : α → γ} {x : R γ} {t : R α} {kk : γ → SR} {ll : α → TR β l σ} (h : TQ f x t) (z : Z ρ) (hk : ∀ a, SQ E L er Z (kk (f a)) (ll a)) : SQ E L er Z (x.sr ρ kk) (t.tr ll) := by
  cases t with
  | stuck => trivial
  | err c => rw [show x = .err c from h]; exact ⟨ρ, rfl, z⟩
  | ok a => rw [show x = .ok (f a) from h]; exact hk a
theorem seq_sr {γ : Type} (x : R γ) (kk : γ → SR) : SR.seq (x.sr ρ kk) k = x.sr ρ fun c => (kk c).seq k := by cases x <;> rfl
theorem q_set {i : Nat} {ho : OEnv → R (O × OEnv)} {ox : α → O × OEnv} {t : R α} {ll : α → TR β l σ} (h : TQ ox (ho ρ) t) (z : Z ρ) (hk : ∀ a, SQ E L er Z (k ((ox a).2.set i (some (ox a).1))) (ll a)) : SQ E L er Z (seq (sSet i ho) k ρ) (t.tr ll) := by
  show SQ E L er Z (SR.seq (R.sr _ _ _) k) _
  rw [seq_sr]
  exact SQ.sr h z hk
theorem q_ret {ho : OEnv → R (O × OEnv)} {ox : α → O × OEnv} {f : α → β} {t : R α} (h : TQ ox (ho ρ) t) (z : Z ρ) (hr : ∀ a, er (ox a).1 (f a)) : SQ E L er Z (seq (sRet ho) k ρ) (t.tr fun a => .rt (f a)) := by
  show SQ E L er Z (SR.seq (R.sr _ _ _) k) _
  rw [seq_sr]
  exact SQ.sr h z fun a => ⟨_, rfl, hr a⟩
theorem q_retNone {b : β} (hr : er (.fz .none) b) : SQ E L er Z (seq sRetN k ρ) (.rt b) := ⟨_, rfl, hr⟩
theorem q_raise {c : Str} (z : Z ρ) : SQ E L er Z (seq (sRaise c) k ρ) (.err c) := ⟨ρ, rfl, z⟩
theorem q_expr {ho : OEnv → R (O × OEnv)} {ox : α → O × OEnv} {t : R α} {ll : α → TR β l σ} (h : TQ ox (ho ρ) t) (z : Z ρ) (hk : ∀ a, SQ E L er Z (k (ox a).2) (ll a)) : SQ E L er Z (seq (sExpr ho) k ρ) (t.tr ll) := by
  show SQ E L er Z (SR.seq (R.sr _ _ _) k) _
  rw [seq_sr]
  exact SQ.sr h z hk
/- a test whose ways go on, each for itself -/
theorem q_if {c : PEnv → R Bool} {s : R Bool} {t1 t2 : TR β l σ} (hc : TB (c (viewB ρ)) s) (z : Z ρ) (h1 : SQ E L er Z (seq g k ρ) t1) (h2 : SQ E L er Z (seq h k ρ) t2) : SQ E L er Z (seq (sIf (tB c) g h) k ρ) (tite s t1 t2) := by
  show SQ E L er Z (SR.seq (R.sr _ _ _) k) _
  rw [seq_sr]
  refine SQ.sr hc z fun b => ?_
  cases b
  · exact h2
  · exact h1
theorem SQ.bind {r : SR} {t : TR β l τ} {ll : τ → TR β l σ} (h : SQ E1 L er Z r t) (hk : ∀ s ρ, E1 s ρ → SQ E L er Z (k ρ) (ll s)) : SQ E L er Z (r.seq k) (t.bind ll) := by
  cases t with
  | stuck => trivial
  | nx s => obtain ⟨ρ, e1, e2⟩ := h; rw [e1]; exact hk s ρ e2
  | bk s => obtain ⟨ρ, e1, e2⟩ := h; rw [e1]; exact ⟨ρ, rfl, e2⟩
  | ct s => obtain ⟨ρ, e1, e2⟩ := h; rw [e1]; exact ⟨ρ, rfl, e2⟩
  | rt s => obtain ⟨ρ, e1, e2⟩ := h; rw [e1]; exact ⟨ρ, rfl, e2⟩
  | err c => obtain ⟨ρ, e1, e2⟩ := h; rw [e1]; exact ⟨ρ, rfl, e2⟩
/- ways that meet again -/
theorem q_join {Es : τ → OEnv} {t : TR β l τ} {ll : τ → TR β l σ} (h : SQ (fun s ρ => ρ = Es s) L er Z (g ρ) t) (hk : ∀ s, SQ E L er Z (k (Es s)) (ll s)) : SQ E L er Z (seq g k ρ) (t.bind ll) :=
  SQ.bind h fun s ρ e1 => by rw [e1]; exact hk s
theorem forL_T {α' : Type} [Enc α] {kt : PyData → R (List (Nat × PyData))} {kl : OEnv → OEnv} {gb : OEnv → SR} {Es : τ → OEnv} {bs : α' → List (Nat × PyData)} {c : α → R α'} {body : α' → τ → TR β τ τ} (hk : ∀ a, TQ bs (kt (e a)) (c a)) (hkl : ∀ s, kl (Es s) = Es s)
    (hb : ∀ b s, SQ (fun s ρ => kl ρ = Es s) (fun s ρ => ρ = Es s) er Z (gb (setsO (Es s) (bs b))) (body b s)) : ∀ (xs : List α) (s : τ), SQ (fun s ρ => ρ = Es s) L er Z (forL kt kl gb (xs.map e) (Es s)) (forT (fun a s => (c a).calm.tr fun b => body b s) xs s : TR β l τ)
  | [], s => ⟨_, rfl, rfl⟩
  | a :: as, s => by
    have h1 := hk a
    simp only [List.map_cons, forL, forT]
    cases hca : c a with
    | stuck => trivial
    | err x => trivial
    | ok b =>
      rw [hca] at h1
      rw [show kt (e a) = .ok (bs b) from h1]
      simp only [R.tr_ok, calm_okk]
      have h2 := hb b s
      cases ht : body b s with
      | stuck => trivial
      | nx s' =>
        rw [ht] at h2; obtain ⟨ρ', e1, e2⟩ := h2
        rw [e1]; simp only [e2]
        exact forL_T hk hkl hb as s'
      | ct s' =>
        rw [ht] at h2; obtain ⟨ρ', e1, e2⟩ := h2
        rw [e1]; simp only [e2, hkl]
        exact forL_T hk hkl hb as s'
      | bk s' => rw [ht] at h2; obtain ⟨ρ', e1, e2⟩ := h2; rw [e1]; exact ⟨_, rfl, e2⟩
      | rt b => rw [ht] at h2; obtain ⟨ρ', e1, e2⟩ := h2; rw [e1]; exact ⟨_, rfl, e2⟩
      | err b => rw [ht] at h2; obtain ⟨ρ', e1, e2⟩ := h2; rw [e1]; exact ⟨_, rfl, e2⟩
theorem forL_T0 [Enc α] {kt : PyData → R (List (Nat × PyData))} {kl : OEnv → OEnv} {gb : OEnv → SR} {Es : τ → OEnv} {bs : α → List (Nat × PyData)} {body : α → τ → TR β τ τ} (hk : ∀ a, kt (e a) = .ok (bs a)) (hkl : ∀ s, kl (Es s) = Es s)
    (hb : ∀ b s, SQ (fun s ρ => kl ρ = Es s) (fun s ρ => ρ = Es s) er Z (gb (setsO (Es s) (bs b))) (body b s)) (xs : List α) (s : τ) : SQ (fun s ρ => ρ = Es s) L er Z (forL kt kl gb (xs.map e) (Es s)) (forT body xs s : TR β l τ) :=
  forL_T (c := fun a => .ok a) (bs := bs) (fun a => hk a) hkl hb xs s
theorem q_for [Enc α] {hi : OEnv → R (List PyData)} {kt : PyData → R (List (Nat × PyData))} {kl : OEnv → OEnv} {gb : OEnv → SR} {t : R (List α)} {body : α → τ → TR β τ τ} {ll : τ → TR β l σ} (Es : τ → OEnv) (bs : α → List (Nat × PyData)) (s0 : τ) (h : TL (hi ρ) t) (z : Z ρ) (he : ρ = Es s0) (hk : ∀ a, kt (e a) = .ok (bs a)) (hkl : ∀ s, kl (Es s) = Es s)
    (hb : ∀ b s, SQ (fun s ρ => kl ρ = Es s) (fun s ρ => ρ = Es s) er Z (gb (setsO (Es s) (bs b))) (body b s)) (hr : ∀ s, SQ E L er Z (k (Es s)) (ll s)) : SQ E L er Z (seq (sFor hi kt kl gb) k ρ) (t.tr fun xs => (forT body xs s0).bind ll) := by
  show SQ E L er Z (SR.seq (R.sr _ _ _) k) _
  rw [seq_sr]
  refine SQ.sr h z fun xs => ?_
  rw [he]
  exact SQ.bind (forL_T0 hk hkl hb xs s0) fun s ρ e1 => by rw [e1]; exact hr s
theorem q_forK [Enc α] {hi : OEnv → R (List PyData)} {T : OEnv → OEnv} {kt : PyData → R (List (Nat × PyData))} {kl : OEnv → OEnv} {gb : OEnv → SR} {t : R (List α)} {body : α → τ → TR β τ τ} {ll : τ → TR β l σ} (Es : τ → OEnv) (bs : α → List (Nat × PyData)) (s0 : τ) (h : TL (hi ρ) t) (z : Z ρ) (he : T ρ = Es s0) (hk : ∀ a, kt (e a) = .ok (bs a)) (hkl : ∀ s, kl (Es s) = Es s)
    (hb : ∀ b s, SQ (fun s ρ => kl ρ = Es s) (fun s ρ => ρ = Es s) er Z (gb (setsO (Es s) (bs b))) (body b s)) (hr : ∀ s, SQ E L er Z (k (Es s)) (ll s)) : SQ E L er Z (seq (sForK hi T kt kl gb) k ρ) (t.tr fun xs => (forT body xs s0).bind ll) := by
  show SQ E L er Z (SR.seq (R.sr _ _ _) k) _
  rw [seq_sr]
  refine SQ.sr h z fun xs => ?_
  rw [he]
  exact SQ.bind (forL_T0 hk hkl hb xs s0) fun s ρ e1 => by rw [e1]; exact hr s
theorem q_forC {α' : Type} [Enc α] {hi : OEnv → R (List PyData)} {kt : PyData → R (List (Nat × PyData))} {kl : OEnv → OEnv} {gb : OEnv → SR} {t : R (List α)} {body : α' → τ → TR β τ τ} {ll : τ → TR β l σ} (c : α → R α') (Es : τ → OEnv) (bs : α' → List (Nat × PyData)) (s0 : τ) (h : TL (hi ρ) t) (z : Z ρ) (he : ρ = Es s0) (hk : ∀ a, TQ bs (kt (e a)) (c a)) (hkl : ∀ s, kl (Es s) = Es s)
    (hb : ∀ b s, SQ (fun s ρ => kl ρ = Es s) (fun s ρ => ρ = Es s) er Z (gb (setsO (Es s) (bs b))) (body b s)) (hr : ∀ s, SQ E L er Z (k (Es s)) (ll s)) : SQ E L er Z (seq (sFor hi kt kl gb) k ρ) (t.tr fun xs => (forT (fun a s => (c a).calm.tr fun b => body b s) xs s0).bind ll) := by
  show SQ E L er Z (SR.seq (R.sr _ _ _) k) _
  rw [seq_sr]
  refine SQ.sr h z fun xs => ?_
  rw [he]
  exact SQ.bind (forL_T hk hkl hb xs s0) fun s ρ e1 => by rw [e1]; exact hr s
theorem q_forCK {α' : Type} [Enc α] {hi : OEnv → R (List PyData)} {T : OEnv → OEnv} {kt : PyData → R (List (Nat × PyData))} {kl : OEnv → OEnv} {gb : OEnv → SR} {t : R (List α)} {body : α' → τ → TR β τ τ} {ll : τ → TR β l σ} (c : α → R α') (Es : τ → OEnv) (bs : α' → List (Nat × PyData)) (s0 : τ) (h : TL (hi ρ) t) (z : Z ρ) (he : T ρ = Es s0) (hk : ∀ a, TQ bs (kt (e a)) (c a)) (hkl : ∀ s, kl (Es s) = Es s)
    (hb : ∀ b s, SQ (fun s ρ => kl ρ = Es s) (fun s ρ => ρ = Es s) er Z (gb (setsO (Es s) (bs b))) (body b s)) (hr : ∀ s, SQ E L er Z (k (Es s)) (ll s)) : SQ E L er Z (seq (sForK hi T kt kl gb) k ρ) (t.tr fun xs => (forT (fun a s => (c a).calm.tr fun b => body b s) xs s0).bind ll) := by
  show SQ E L er Z (SR.seq (R.sr _ _ _) k) _
  rw [seq_sr]
  refine SQ.sr h z fun xs => ?_
  rw [he]
  exact SQ.bind (forL_T hk hkl hb xs s0) fun s ρ e1 => by rw [e1]; exact hr s
/- while -/
theorem whileN_T {c : PEnv → R Bool} {kl : OEnv → OEnv} {gb : OEnv → SR} {Es : τ → OEnv} {ct : τ → R Bool} {body : τ → TR β τ τ} (hc : ∀ s, TB (c (viewB (Es s))) (ct s)) (hz : ∀ s, Z (Es s)) (hkl : ∀ s, kl (Es s) = Es s)
    (hb : ∀ s, SQ (fun s ρ => kl ρ = Es s) (fun s ρ => ρ = Es s) er Z (gb (Es s)) (body s)) : ∀ (n : Nat) (s : τ), SQ (fun s ρ => ρ = Es s) L er Z (whileN (tB c) kl gb n (Es s)) (whileT ct body n s : TR β l τ)
  | 0, s => trivial
  | n + 1, s => by
    unfold whileN whileT
    refine SQ.sr (hc s) (hz s) fun b => ?_
    cases b with
    | false => exact ⟨_, rfl, rfl⟩
    | true =>
      simp only [if_true]
      have h2 := hb s
      cases ht : body s with
      | stuck => trivial
      | nx s' =>
        rw [ht] at h2; obtain ⟨ρ', e1, e2⟩ := h2
        rw [e1]; simp only [e2]
        exact whileN_T hc hz hkl hb n s'
      | ct s' =>
        rw [ht] at h2; obtain ⟨ρ', e1, e2⟩ := h2
        rw [e1]; simp only [e2, hkl]
        exact whileN_T hc hz hkl hb n s'
      | bk s' => rw [ht] at h2; obtain ⟨ρ', e1, e2⟩ := h2; rw [e1]; exact ⟨_, rfl, e2⟩
      | rt b => rw [ht] at h2; obtain ⟨ρ', e1, e2⟩ := h2; rw [e1]; exact ⟨_, rfl, e2⟩
      | err b => rw [ht] at h2; obtain ⟨ρ', e1, e2⟩ := h2; rw [e1]; exact ⟨_, rfl, e2⟩
theorem SQ.ne {r : SR} {t : TR β l τ} (h : SQ E1 L er Z r t) (ht : t ≠ .stuck) : r ≠ .stuck := by
  cases t with
  | stuck => exact absurd rfl ht
  | nx s => obtain ⟨ρ', e1, _⟩ := h; rw [e1]; exact nofun
  | ct s => obtain ⟨ρ', e1, _⟩ := h; rw [e1]; exact nofun
  | bk s => obtain ⟨ρ', e1, _⟩ := h; rw [e1]; exact nofun
  | rt s => obtain ⟨ρ', e1, _⟩ := h; rw [e1]; exact nofun
  | err s => obtain ⟨ρ', e1, _⟩ := h; rw [e1]; exact nofun
theorem sWhile_at {t : OEnv → R Bool} {kl : OEnv → OEnv} {gb : OEnv → SR} {n : Nat} {ρ : OEnv} (h : whileN t kl gb n ρ ≠ .stuck) : sWhile t kl gb ρ = whileN t kl gb n ρ := by
  unfold sWhile
  have ex : ∃ n, whileN t kl gb n ρ ≠ .stuck := ⟨n, h⟩
  rw [dif_pos ex]
  rcases Nat.le_total n (Classical.choose ex) with q | q
  · exact whileN_mono t kl gb _ _ ρ q h
  · exact (whileN_mono t kl gb _ _ ρ q (Classical.choose_spec ex)).symm
theorem loop_T {c : PEnv → R Bool} {kl : OEnv → OEnv} {gb : OEnv → SR} {Es : τ → OEnv} {ct : τ → R Bool} {body : τ → TR β τ τ} (hc : ∀ s, TB (c (viewB (Es s))) (ct s)) (hz : ∀ s, Z (Es s)) (hkl : ∀ s, kl (Es s) = Es s)
    (hb : ∀ s, SQ (fun s ρ => kl ρ = Es s) (fun s ρ => ρ = Es s) er Z (gb (Es s)) (body s)) (s : τ) : SQ (fun s ρ => ρ = Es s) L er Z (sWhile (tB c) kl gb (Es s)) (loopT ct body s : TR β l τ) := by
  unfold loopT
  split
  · rename_i ex
    have h1 := whileN_T (L := L) hc hz hkl hb (Classical.choose ex) s
    rw [sWhile_at (h1.ne (Classical.choose_spec ex))]
    exact h1
  · trivial
theorem q_while {c : PEnv → R Bool} {kl : OEnv → OEnv} {gb : OEnv → SR} {ct : τ → R Bool} {body : τ → TR β τ τ} {ll : τ → TR β l σ} (Es : τ → OEnv) (s0 : τ) (he : ρ = Es s0) (hc : ∀ s, TB (c (viewB (Es s))) (ct s)) (hz : ∀ s, Z (Es s)) (hkl : ∀ s, kl (Es s) = Es s)
    (hb : ∀ s, SQ (fun s ρ => kl ρ = Es s) (fun s ρ => ρ = Es s) er Z (gb (Es s)) (body s)) (hr : ∀ s, SQ E L er Z (k (Es s)) (ll s)) : SQ E L er Z (seq (sWhile (tB c) kl gb) k ρ) ((loopT ct body s0).bind ll) := by
  rw [he]
  exact SQ.bind (loop_T hc hz hkl hb s0) fun s ρ e1 => by rw [e1]; exact hr s
/- other statements -/
theorem q_tup {α' : Type} [Enc α] {kt : PyData → R (List (Nat × PyData))} {hx : OEnv → R PyData} {t : R α} {ll : α' → TR β l σ} (c : α → R α') (bs : α' → List (Nat × PyData)) (h : TEq (hx ρ) t) (z : Z ρ) (hk : ∀ a, TQ bs (kt (e a)) (c a)) (hr : ∀ b, SQ E L er Z (k (setsO ρ (bs b))) (ll b)) : SQ E L er Z (seq (sTup kt hx) k ρ) (t.tr fun a => (c a).calm.tr ll) := by
  show SQ E L er Z (SR.seq (R.sr _ _ _) k) _
  rw [seq_sr]
  refine SQ.sr h z fun a => ?_
  have h1 := hk a
  cases hca : c a with
  | stuck => trivial
  | err x => trivial
  | ok b => rw [hca] at h1; rw [show kt (e a) = .ok (bs b) from h1]; exact hr b
theorem q_tup0 [Enc α] {kt : PyData → R (List (Nat × PyData))} {hx : OEnv → R PyData} {t : R α} {ll : α → TR β l σ} (bs : α → List (Nat × PyData)) (h : TEq (hx ρ) t) (z : Z ρ) (hk : ∀ a, kt (e a) = .ok (bs a)) (hr : ∀ b, SQ E L er Z (k (setsO ρ (bs b))) (ll b)) : SQ E L er Z (seq (sTup kt hx) k ρ) (t.tr ll) := by
  have := q_tup (k := k) (er := er) (E := E) (L := L) (c := fun a => .ok a) bs h z (fun a => hk a) hr
  simpa only [calm_okk, R.tr_ok] using this
theorem q_par [Enc α] [Enc γ] {i j : Nat} {h h' : OEnv → R PyData} {s : R α} {t : R γ} {ll : α → γ → TR β l σ} (h1 : TEq (h ρ) s) (h2 : TEq (h' ρ) t) (z : Z ρ) (hr : ∀ a b, SQ E L er Z (k ((ρ.set i (some (oF a))).set j (some (oF b)))) (ll a b)) : SQ E L er Z (seq (sPar i j h h') k ρ) (s.tr fun a => t.tr fun b => ll a b) := by
  show SQ E L er Z (SR.seq (R.sr _ _ _) k) _
  rw [seq_sr]
  refine SQ.sr h1 z fun a => ?_
  rw [seq_sr]
  exact SQ.sr h2 z fun b => hr a b
def tapp {α : Type} (xs : List α) (a : α) : R (List α) := if xs.length < 16777216 then .ok (xs ++ [a]) else .stuck
theorem q_app {ox : α → O} {ho : OEnv → R (O × OEnv)} {t : R α} {ll : List α → TR β l σ} (i : Nat) (xs : List α) (h : TQ (fun a => (ox a, ρ)) (ho ρ) t) (z : Z ρ) (hr : ∀ ys, SQ E L er Z (k (ρ.set i (some (oL ox ys)))) (ll ys)) (hi : ρ[i]? = some (some (oL ox xs)) := by rfl) : SQ E L er Z (seq (sApp i ho) k ρ) (t.tr fun a => (tapp xs a).tr ll) := by
  show SQ E L er Z (SR.seq (sApp i ho ρ) k) _
  unfold sApp
  rw [hi]
  show SQ E L er Z (SR.seq (R.sr _ _ _) k) _
  rw [seq_sr]
  refine SQ.sr h z fun a => ?_
  unfold tapp
  simp only [hi, List.length_map, szL]
  split
  · show SQ _ _ _ _ (k _) (ll (xs ++ [a]))
    have := hr (xs ++ [a])
    rw [show oL ox (xs ++ [a]) = O.lst (xs.map ox ++ [ox a]) by simp [oL]] at this
    exact this
  · trivial
def tset {α : Type} (xs : List α) (j : Int) (a : α) : R (List α) := match ixN xs.length j with | some n => .ok (xs.set n a) | none => .stuck
theorem q_setI {ox : α → O} {hk : OEnv → R PyData} {ho : OEnv → R (O × OEnv)} {t : R α} {u : R Int} {ll : List α → TR β l σ} (i : Nat) (xs : List α) (h : TQ (fun a => (ox a, ρ)) (ho ρ) t) (hj : TEq (hk ρ) u) (z : Z ρ) (hr : ∀ ys, SQ E L er Z (k (ρ.set i (some (oL ox ys)))) (ll ys)) (hi : ρ[i]? = some (some (oL ox xs)) := by rfl) : SQ E L er Z (seq (sSetI i hk ho) k ρ) (t.tr fun a => u.tr fun j => (tset xs j a).tr ll) := by
  show SQ E L er Z (SR.seq (R.sr _ _ _) k) _
  rw [seq_sr]
  refine SQ.sr h z fun a => ?_
  simp only [hi]
  rw [seq_sr]
  refine SQ.sr hj z fun j => ?_
  show SQ E L er Z (SR.seq (match ixN (xs.map ox).length j with | some n => _ | none => _) k) _
  unfold tset
  rw [List.length_map]
  cases ixN xs.length j with
  | none => trivial
  | some n =>
    show SQ _ _ _ _ (k _) (ll (xs.set n a))
    have := hr (xs.set n a)
    rw [show oL ox (xs.set n a) = O.lst ((xs.map ox).set n (ox a)) by simp [oL, List.map_set]] at this
    exact this
theorem q_aug {f : Int → Int → Int} {h : OEnv → R PyData} {t : R Int} {ll : Int → TR β l σ} (i : Nat) (a : Int) (hs : TEq (h ρ) t) (z : Z ρ) (hr : ∀ b, SQ E L er Z (k (ρ.set i (some (oF b)))) (ll b)) (hi : ρ[i]? = some (some (oF a)) := by rfl) : SQ E L er Z (seq (sAug f i h) k ρ) ((b1 (fun b => R.ok (f a b)) t).tr ll) := by
  show SQ E L er Z (SR.seq (sAug f i h ρ) k) _
  unfold sAug
  rw [hi]
  show SQ E L er Z (SR.seq (R.sr _ _ _) k) _
  rw [seq_sr, b1_ap, R.tr_bind]
  exact SQ.sr hs z fun b => hr (f a b)
def text {α : Type} (xs ys : List α) : R (List α) := if xs.length + ys.length ≤ 16777216 then .ok (xs ++ ys) else .stuck
theorem q_ext {ox : α → O} {ho : OEnv → R (O × OEnv)} {t : R (List α)} {ll : List α → TR β l σ} (i : Nat) (xs : List α) (h : TQ (fun a => (oL ox a, ρ)) (ho ρ) t) (z : Z ρ) (hr : ∀ ys, SQ E L er Z (k (ρ.set i (some (oL ox ys)))) (ll ys)) (hi : ρ[i]? = some (some (oL ox xs)) := by rfl) : SQ E L er Z (seq (sExt i ho) k ρ) (t.tr fun a => (text xs a).tr ll) := by
  show SQ E L er Z (SR.seq (sExt i ho ρ) k) _
  unfold sExt
  rw [hi]
  show SQ E L er Z (SR.seq (R.sr _ _ _) k) _
  rw [seq_sr]
  refine SQ.sr h z fun a => ?_
  unfold text
  simp only [hi, List.length_map, szL]
  split
  · show SQ _ _ _ _ (k _) (ll (xs ++ a))
    have := hr (xs ++ a)
    rw [show oL ox (xs ++ a) = O.lst (xs.map ox ++ a.map ox) by simp [oL]] at this
    exact this
  · trivial
theorem q_rev {ox : α → O} {ll : List α → TR β l σ} (i : Nat) (xs : List α) (hr : ∀ ys, SQ E L er Z (k (ρ.set i (some (oL ox ys)))) (ll ys)) (hi : ρ[i]? = some (some (oL ox xs)) := by rfl) : SQ E L er Z (seq (sRev i) k ρ) ((R.ok xs.reverse).tr ll) := by
  show SQ E L er Z (SR.seq (sRev i ρ) k) _
  unfold sRev
  rw [hi]
  show SQ E L er Z (k (ρ.set i (some (.lst (xs.map ox).reverse)))) (ll xs.reverse)
  rw [← List.map_reverse]
  exact hr _
theorem q_asn {t : TR β l σ} (h : SQ E L er Z (g ρ) t) : SQ E L er Z (seq g sNx ρ) t := by
  have : seq g sNx ρ = g ρ := SR.seq_nxr _
  rw [this]; exact h
theorem t_x1 {α γ : Type} [Enc α] [Enc γ] {op : PyData → R (List PyData)} {top : α → R (List γ)} {h : OEnv → R PyData} {s : R α} (ho : ∀ a, TL (op (e a)) (top a)) (ha : TEq (h ρ) s) : TL (x1 op h ρ) (b1 top s) := ha.bind ho
theorem t_x2 {α β γ : Type} [Enc α] [Enc β] [Enc γ] {op : PyData → PyData → R (List PyData)} {top : α → β → R (List γ)} {h h' : OEnv → R PyData} {s : R α} {t : R β} (ho : ∀ a b, TL (op (e a) (e b)) (top a b)) (ha : TEq (h ρ) s) (hb : TEq (h' ρ) t) : TL (x2 op h h' ρ) (b2 top s t) := ha.bind fun a => hb.bind fun b => ho a b
theorem p_nilO {α : Type} {ox : α → O} : TQ (fun a : List α => (oL ox a, ρ)) (oFrF aNil ρ) (.ok []) := rfl
theorem o_isnoneO {α : Type} [Enc α] (h : ∀ a : α, visnone (e a) = .ok (.bool false) := by intro _; rfl) (i : Option α) : TEq (visnone (e i)) (tisnoneO i) := by
  cases i with
  | none => exact rfl
  | some a => exact h a
theorem q_try {gb gs : OEnv → SR} {tb : Str → Option Bool} {Zb : OEnv → Prop} {Es : τ → OEnv} {s t : TR β l τ} {ll : τ → TR β l σ} (h1 : SQ (fun s ρ => ρ = Es s) L er Zb (gb ρ) s) (h2 : ∀ ρ, Zb ρ → SQ (fun s ρ => ρ = Es s) L er (fun _ => True) (gs ρ) t) (hz : ∀ ρ, Zb ρ → Z ρ) (hr : ∀ s, SQ E L er Z (k (Es s)) (ll s)) : SQ E L er Z (seq (sTryO gb tb gs) k ρ) ((ttry s tb t).bind ll) := by
  refine SQ.bind (E1 := fun s ρ => ρ = Es s) ?_ fun s ρ e1 => by rw [e1]; exact hr s
  show SQ _ _ _ _ (catchO tb gs (gb ρ)) _
  cases s with
  | stuck => trivial
  | nx s => obtain ⟨ρ', e1, e2⟩ := h1; rw [e1]; exact ⟨_, rfl, e2⟩
  | ct s => obtain ⟨ρ', e1, e2⟩ := h1; rw [e1]; exact ⟨_, rfl, e2⟩
  | bk s => obtain ⟨ρ', e1, e2⟩ := h1; rw [e1]; exact ⟨_, rfl, e2⟩
  | rt s => obtain ⟨ρ', e1, e2⟩ := h1; rw [e1]; exact ⟨_, rfl, e2⟩
  | err c =>
    obtain ⟨ρ', e1, e2⟩ := h1
    rw [e1]
    unfold catchO ttry
    dsimp only
    cases tb c with
    | none => trivial
    | some b =>
      cases b with
      | false => exact ⟨_, rfl, hz _ e2⟩
      | true =>
        have h3 := h2 ρ' e2
        dsimp only
        cases t with
        | stuck => trivial
        | nx s => obtain ⟨ρ', e1, e2⟩ := h3; rw [e1]; exact ⟨_, rfl, e2⟩
        | ct s => obtain ⟨ρ', e1, e2⟩ := h3; rw [e1]; exact ⟨_, rfl, e2⟩
        | bk s => obtain ⟨ρ', e1, e2⟩ := h3; rw [e1]; exact ⟨_, rfl, e2⟩
        | rt s => obtain ⟨ρ', e1, e2⟩ := h3; rw [e1]; exact ⟨_, rfl, e2⟩
        | err s => trivial
end
/-! ### typed defs -/
theorem fn_T {β l σ : Type} [Enc β] {g : OEnv → SR} {ρ : OEnv} {E : σ → OEnv → Prop} {L : l → OEnv → Prop} {t : TR β l σ} {d : σ → R β} (h : SQ E L (fun o b => O.data o = e b) (fun _ => True) (g ρ) t) (hd : ∀ s, TEq (.ok .none) (d s)) : TEq (fin (g ρ)) (t.fn d) := by
  cases t with
  | stuck => trivial
  | nx s => obtain ⟨ρ', e1, e2⟩ := h; rw [e1]; exact hd s
  | ct s => trivial
  | bk s => trivial
  | rt s => obtain ⟨ρ', e1, e2⟩ := h; rw [e1]; show R.ok _ = R.ok _; rw [e2]
  | err c => obtain ⟨ρ', e1, e2⟩ := h; rw [e1]; exact rfl
theorem fn_TO {β l σ : Type} {ox : β → O} {g : OEnv → SR} {ρ : OEnv} {E : σ → OEnv → Prop} {L : l → OEnv → Prop} {t : TR β l σ} (h : SQ E L (fun o b => o = ox b) (fun _ => True) (g ρ) t) : TQ ox (finO (g ρ)) (t.fn fun _ => .stuck) := by
  cases t with
  | stuck => trivial
  | nx s => trivial
  | ct s => trivial
  | bk s => trivial
  | rt s => obtain ⟨ρ', e1, e2⟩ := h; rw [e1]; show R.ok _ = R.ok _; rw [e2]
  | err c => obtain ⟨ρ', e1, e2⟩ := h; rw [e1]; exact rfl
theorem frz_T {β : Type} [Enc β] {ox : β → O} {g : List PyData → R O} {ds : List PyData} {t : R β} (hd : ∀ b, O.data (ox b) = e b) (h : TQ ox (g ds) t) : TEq (frz g ds) t := by
  cases t with
  | stuck => trivial
  | err c => show R.bind (g ds) _ = _; rw [show g ds = .err c from h]; rfl
  | ok b => show R.bind (g ds) _ = _; rw [show g ds = .ok (ox b) from h]; show R.ok _ = R.ok _; rw [hd]
end VL

namespace VL
open PySem PySem.Spec PyProof.Rows L2
open Enc (e)
/-! ### loops over typed states -/
section
variable {α β l σ γ : Type}
theorem forT_nx {f : α → σ → TR β σ σ} {a : α} {as : List α} {s s' : σ} (h : f a s = .nx s') : (forT f (a :: as) s : TR β l σ) = forT f as s' := by simp only [forT, h]
theorem forT_ct {f : α → σ → TR β σ σ} {a : α} {as : List α} {s s' : σ} (h : f a s = .ct s') : (forT f (a :: as) s : TR β l σ) = forT f as s' := by simp only [forT, h]
theorem forT_bk {f : α → σ → TR β σ σ} {a : α} {as : List α} {s s' : σ} (h : f a s = .bk s') : (forT f (a :: as) s : TR β l σ) = .nx s' := by simp only [forT, h]
theorem forT_rt {f : α → σ → TR β σ σ} {a : α} {as : List α} {s : σ} {b : β} (h : f a s = .rt b) : (forT f (a :: as) s : TR β l σ) = .rt b := by simp only [forT, h]
theorem forT_err {f : α → σ → TR β σ σ} {a : α} {as : List α} {s : σ} {c : Str} (h : f a s = .err c) : (forT f (a :: as) s : TR β l σ) = .err c := by simp only [forT, h]
/-- goes on or not -/
def TR.go (r : TR β σ σ) (s : σ) : Prop := r = .nx s ∨ r = .ct s
theorem forT_go {f : α → σ → TR β σ σ} {a : α} {as : List α} {s s' : σ} (h : (f a s).go s') : (forT f (a :: as) s : TR β l σ) = forT f as s' := h.elim forT_nx forT_ct
/-- a loop that never leaves: a fold -/
theorem forT_fold {f : α → σ → TR β σ σ} (g : σ → α → σ) (P : σ → Prop) : ∀ {xs : List α} {s : σ}, P s → (∀ a ∈ xs, ∀ s, P s → (f a s).go (g s a) ∧ P (g s a)) → (forT f xs s : TR β l σ) = .nx (xs.foldl g s) ∧ P (xs.foldl g s)
  | [], s, hp, _ => ⟨rfl, hp⟩
  | a :: as, s, hp, h => by
    obtain ⟨h1, h2⟩ := h a List.mem_cons_self s hp
    rw [forT_go h1]
    exact forT_fold g P h2 fun b hb => h b (List.mem_cons_of_mem _ hb)
theorem forT_fold0 {f : α → σ → TR β σ σ} (g : σ → α → σ) {xs : List α} {s : σ} (h : ∀ a ∈ xs, ∀ s, (f a s).go (g s a)) : (forT f xs s : TR β l σ) = .nx (xs.foldl g s) :=
  (forT_fold g (fun _ => True) trivial fun a ha s _ => ⟨h a ha s, trivial⟩).1
/-- a loop that never leaves, by an invariant over what is taken -/
theorem forT_inv {f : α → σ → TR β σ σ} (P : List α → σ → Prop) : ∀ (xs pre : List α) (s : σ), P pre s → (∀ a post pre' s, pre ++ xs = pre' ++ a :: post → P pre' s → ∃ s', (f a s).go s' ∧ P (pre' ++ [a]) s') → ∃ s', (forT f xs s : TR β l σ) = .nx s' ∧ P (pre ++ xs) s'
  | [], pre, s, hp, _ => ⟨s, rfl, by simpa using hp⟩
  | a :: as, pre, s, hp, h => by
    obtain ⟨s1, h1, h2⟩ := h a as pre s rfl hp
    obtain ⟨s2, h3, h4⟩ := forT_inv P as (pre ++ [a]) s1 h2 (fun b post pre' s e hp' => h b post pre' s (by rw [← e]; simp) hp')
    exact ⟨s2, by rw [forT_go h1]; exact h3, by simpa using h4⟩
/-- the same with the number of turns -/
theorem forT_ix {f : α → σ → TR β σ σ} (P : Nat → σ → Prop) : ∀ (xs : List α) (j : Nat) (s : σ), P j s → (∀ i a s, xs[i]? = some a → P (j + i) s → ∃ s', (f a s).go s' ∧ P (j + i + 1) s') → ∃ s', (forT f xs s : TR β l σ) = .nx s' ∧ P (j + xs.length) s'
  | [], j, s, hp, _ => ⟨s, rfl, hp⟩
  | a :: as, j, s, hp, h => by
    obtain ⟨s1, h1, h2⟩ := h 0 a s rfl hp
    obtain ⟨s2, h3, h4⟩ := forT_ix P as (j + 1) s1 h2 fun i b s hb hp' => by
      have := h (i + 1) b s (by simpa using hb) (by rw [show j + (i + 1) = j + 1 + i by omega]; exact hp')
      rw [show j + (i + 1) + 1 = j + 1 + i + 1 by omega] at this
      exact this
    exact ⟨s2, by rw [forT_go h1]; exact h3, by rw [List.length_cons, show j + (as.length + 1) = j + 1 + as.length by omega]; exact h4⟩
/-- a loop that leaves at the first bad item -/
theorem forT_chk {f : α → σ → TR β σ σ} (bad : α → Bool) (b : β) {s : σ} : ∀ {xs : List α}, (∀ a ∈ xs, (bad a = true → f a s = .rt b) ∧ (bad a = false → (f a s).go s)) → (forT f xs s : TR β l σ) = if xs.any bad = true then .rt b else .nx s
  | [], _ => rfl
  | a :: as, h => by
    obtain ⟨h1, h2⟩ := h a List.mem_cons_self
    have ih := forT_chk bad b (xs := as) fun x hx => h x (List.mem_cons_of_mem _ hx)
    cases hb : bad a with
    | true => rw [forT_rt (h1 hb), List.any_cons, hb]; rfl
    | false => rw [forT_go (h2 hb), ih, List.any_cons, hb]; rfl
/-- nothing is bad -/
theorem forT_pass {f : α → σ → TR β σ σ} {s : σ} : ∀ {xs : List α}, (∀ a ∈ xs, (f a s).go s) → (forT f xs s : TR β l σ) = .nx s
  | [], _ => rfl
  | a :: as, h => by rw [forT_go (h a List.mem_cons_self)]; exact forT_pass fun x hx => h x (List.mem_cons_of_mem _ hx)
/-- a loop that ends with the answer of the first item that gives one -/
theorem forT_find {f : α → σ → TR β σ σ} (g : α → Option β) {s : σ} : ∀ {xs : List α}, (∀ a ∈ xs, match g a with | some b => f a s = .rt b | none => (f a s).go s) → (forT f xs s : TR β l σ) = match xs.findSome? g with | some b => .rt b | none => .nx s
  | [], _ => rfl
  | a :: as, h => by
    have h1 := h a List.mem_cons_self
    have ih := forT_find g (xs := as) fun x hx => h x (List.mem_cons_of_mem _ hx)
    cases hb : g a with
    | some b => rw [hb] at h1; rw [forT_rt h1, List.findSome?_cons, hb]
    | none => rw [hb] at h1; rw [forT_go h1, ih, List.findSome?_cons, hb]
theorem loopT_of {c : σ → R Bool} {f : σ → TR β σ σ} {s : σ} {r : TR β l σ} {n : Nat} (h : whileT c f n s = r) (hr : r ≠ .stuck) : (loopT c f s : TR β l σ) = r := by
  have mono : ∀ (n m : Nat) (s : σ), n ≤ m → (whileT c f n s : TR β l σ) ≠ .stuck → (whileT c f m s : TR β l σ) = whileT c f n s := by
    intro n
    induction n with
    | zero => intro m s _ h; exact absurd rfl h
    | succ n ih =>
      intro m s hm h
      cases m with
      | zero => omega
      | succ m =>
        simp only [whileT] at h ⊢
        cases hc : c s with
        | stuck => rfl
        | err x => rfl
        | ok b =>
          rw [hc] at h
          simp only [R.tr_ok] at h ⊢
          cases b with
          | false => rfl
          | true =>
            simp only [if_true] at h ⊢
            cases hf : f s with
            | nx s' => rw [hf] at h; exact ih m s' (by omega) h
            | ct s' => rw [hf] at h; exact ih m s' (by omega) h
            | _ => rfl
  unfold loopT
  have ex : ∃ n, (whileT c f n s : TR β l σ) ≠ .stuck := ⟨n, by rw [h]; exact hr⟩
  rw [dif_pos ex]
  rcases Nat.le_total n (Classical.choose ex) with q | q
  · rw [mono n _ s q (by rw [h]; exact hr), h]
  · rw [← h, mono _ n s q (Classical.choose_spec ex)]
/-- a while with a measure and an invariant; it ends where the test fails -/
theorem loopT_inv {c : σ → R Bool} {f : σ → TR β σ σ} (P : σ → Prop) (m : σ → Nat) (q : σ → Bool) (hc : ∀ s, P s → c s = .ok (q s)) (hf : ∀ s, P s → q s = true → ∃ s', (f s).go s' ∧ P s' ∧ m s' < m s) : ∀ s, P s → ∃ s', (loopT c f s : TR β l σ) = .nx s' ∧ P s' ∧ q s' = false := by
  have main : ∀ (n : Nat) (s : σ), m s ≤ n → P s → ∃ s', (whileT c f (n + 1) s : TR β l σ) = .nx s' ∧ P s' ∧ q s' = false := by
    intro n
    induction n with
    | zero =>
      intro s hm hp
      cases hq : q s with
      | false => exact ⟨s, by simp only [whileT, hc s hp, hq, R.tr_ok]; rfl, hp, hq⟩
      | true => obtain ⟨s', _, _, h3⟩ := hf s hp hq; omega
    | succ n ih =>
      intro s hm hp
      cases hq : q s with
      | false => exact ⟨s, by simp only [whileT, hc s hp, hq, R.tr_ok]; rfl, hp, hq⟩
      | true =>
        obtain ⟨s', h1, h2, h3⟩ := hf s hp hq
        obtain ⟨s2, h4, h5⟩ := ih s' (by omega) h2
        refine ⟨s2, ?_, h5⟩
        rw [whileT, hc s hp, hq]
        rcases h1 with h1 | h1 <;> (simp only [R.tr_ok, if_true, h1]; exact h4)
  intro s hp
  obtain ⟨s', h1, h2⟩ := main (m s) s (Nat.le_refl _) hp
  exact ⟨s', loopT_of h1 (fun h => nomatch h), h2⟩
/-! comprehensions -/
theorem tmap_ok {f : α → R γ} (g : α → γ) : ∀ {xs : List α}, (∀ a ∈ xs, f a = .ok (g a)) → tmap f xs = .ok (xs.map g)
  | [], _ => rfl
  | a :: as, h => by
    simp only [tmap, h a List.mem_cons_self, calm_okk, R.bind_ok, tmap_ok g fun x hx => h x (List.mem_cons_of_mem _ hx), List.map_cons]
theorem tmap_ex {f : α → R γ} (S : γ → Prop) : ∀ {xs : List α}, (∀ a ∈ xs, ∃ y, f a = .ok y ∧ S y) → ∃ ys, tmap f xs = .ok ys ∧ ys.length = xs.length ∧ ∀ y ∈ ys, S y
  | [], _ => ⟨[], rfl, rfl, fun _ h => nomatch h⟩
  | a :: as, h => by
    obtain ⟨y, h1, h2⟩ := h a List.mem_cons_self
    obtain ⟨ys, h3, h4, h5⟩ := tmap_ex S (xs := as) fun x hx => h x (List.mem_cons_of_mem _ hx)
    refine ⟨y :: ys, by simp only [tmap, h1, calm_okk, R.bind_ok, h3], by simp [h4], fun z hz => ?_⟩
    rcases List.mem_cons.mp hz with q | q
    · subst q; exact h2
    · exact h5 z q
theorem tcomp_ok {c : α → R Bool} {f : α → R γ} (p : α → Bool) (g : α → γ) : ∀ {xs : List α}, (∀ a ∈ xs, c a = .ok (p a) ∧ (p a = true → f a = .ok (g a))) → tcomp c f xs = .ok ((xs.filter p).map g)
  | [], _ => rfl
  | a :: as, h => by
    obtain ⟨h1, h2⟩ := h a List.mem_cons_self
    have ih := tcomp_ok p g (xs := as) fun x hx => h x (List.mem_cons_of_mem _ hx)
    cases hp : p a with
    | true => simp only [tcomp, h1, hp, calm_okk, R.bind_ok, if_true, h2 hp, ih, List.filter_cons, List.map_cons]
    | false => simp only [tcomp, h1, hp, calm_okk, R.bind_ok, ih, List.filter_cons]; rfl
/-! items -/
theorem tidx_nat {xs : List α} {k : Nat} {a : α} (h : xs[k]? = some a) : tidx xs (k : Int) = .ok a := by
  unfold tidx; rw [atI_nat, h]
theorem tidx_of {xs : List α} {j : Int} {k : Nat} {a : α} (hj : j = (k : Int)) (h : xs[k]? = some a) : tidx xs j = .ok a := by rw [hj]; exact tidx_nat h
theorem tidx_lt {xs : List α} {k : Nat} (h : k < xs.length) : tidx xs (k : Int) = .ok xs[k] := tidx_nat (by simp [h])
@[simp] theorem tidx_0 (a : α) (xs : List α) : tidx (a :: xs) 0 = .ok a := tidx_nat (k := 0) rfl
@[simp] theorem tidx_1 (a b : α) (xs : List α) : tidx (a :: b :: xs) 1 = .ok b := tidx_nat (k := 1) rfl
@[simp] theorem tidx_2 (a b c : α) (xs : List α) : tidx (a :: b :: c :: xs) 2 = .ok c := tidx_nat (k := 2) rfl
@[simp] theorem tidx_3 (a b c d : α) (xs : List α) : tidx (a :: b :: c :: d :: xs) 3 = .ok d := tidx_nat (k := 3) rfl
@[simp] theorem tidx_4 (a b c d f : α) (xs : List α) : tidx (a :: b :: c :: d :: f :: xs) 4 = .ok f := tidx_nat (k := 4) rfl
@[simp] theorem tidx_5 (a b c d f g : α) (xs : List α) : tidx (a :: b :: c :: d :: f :: g :: xs) 5 = .ok g := tidx_nat (k := 5) rfl
@[simp] theorem tidx_6 (a b c d f g h : α) (xs : List α) : tidx (a :: b :: c :: d :: f :: g :: h :: xs) 6 = .ok h := tidx_nat (k := 6) rfl
@[simp] theorem tidx_7 (a b c d f g h i : α) (xs : List α) : tidx (a :: b :: c :: d :: f :: g :: h :: i :: xs) 7 = .ok i := tidx_nat (k := 7) rfl
theorem tidx_last {xs : List α} {a : α} (h : xs.getLast? = some a) : tidx xs (-1) = .ok a := by
  unfold tidx atI ixN
  have hl : xs ≠ [] := by intro z; rw [z] at h; simp at h
  have hl2 : 0 < xs.length := List.length_pos_iff.mpr hl
  rw [if_neg (by omega), if_pos (by omega)]
  rw [List.getLast?_eq_getElem?] at h
  rw [show ((-1 : Int) + (xs.length : Int)).toNat = xs.length - 1 by omega]
  simp [h]
theorem tapp_ok {xs : List α} {a : α} (h : xs.length < 16777216) : tapp xs a = .ok (xs ++ [a]) := if_pos h
theorem taddL_ok {xs ys : List α} (h : xs.length + ys.length ≤ 16777216) : taddL xs ys = .ok (xs ++ ys) := if_pos h
theorem text_ok {xs ys : List α} (h : xs.length + ys.length ≤ 16777216) : text xs ys = .ok (xs ++ ys) := if_pos h
theorem tset_ok {xs : List α} {k : Nat} {a : α} (h : k < xs.length) : tset xs (k : Int) a = .ok (xs.set k a) := by
  unfold tset; rw [ixN_nat h]
theorem tset_of {xs : List α} {j : Int} {k : Nat} {a : α} (hj : j = (k : Int)) (h : k < xs.length) : tset xs j a = .ok (xs.set k a) := by rw [hj]; exact tset_ok h
end
/-! ranges -/
theorem rangeI_zero (lo : Int) : rangeI lo 0 = [] := rfl
@[simp] theorem rangeI_len (lo : Int) (n : Nat) : (rangeI lo n).length = n := by unfold rangeI; simp
theorem rangeI_succ (lo : Int) (n : Nat) : rangeI lo (n + 1) = lo :: rangeI (lo + 1) n := by
  unfold rangeI
  rw [List.range_succ_eq_map, List.map_cons, List.map_map]
  congr 1
  · simp
  · refine List.map_congr_left fun k _ => ?_
    simp only [Function.comp]
    omega
theorem rangeI_get {lo : Int} {n i : Nat} {d : Int} (h : (rangeI lo n)[i]? = some d) : i < n ∧ d = lo + (i : Int) := by
  unfold rangeI at h
  rw [List.getElem?_map] at h
  by_cases hi : i < n
  · rw [List.getElem?_range hi] at h
    simp at h
    exact ⟨hi, h.symm⟩
  · rw [List.getElem?_eq_none (by simp; omega)] at h
    simp at h
theorem rangeI_mem {lo : Int} {n : Nat} {d : Int} : d ∈ rangeI lo n ↔ ∃ k : Nat, k < n ∧ d = lo + (k : Int) := by
  unfold rangeI
  simp only [List.mem_map, List.mem_range]
  exact ⟨fun ⟨k, h1, h2⟩ => ⟨k, h1, h2.symm⟩, fun ⟨k, h1, h2⟩ => ⟨k, h1, h2.symm⟩⟩
@[simp] theorem trange1_nat {n : Nat} (h : n ≤ 16777216) : trange1 (n : Int) = .ok (rangeI 0 n) := by
  unfold trange1; rw [if_pos (rngOk_nat h)]; simp
theorem trange1_of {j : Int} {n : Nat} (hj : j = (n : Int)) (h : n ≤ 16777216) : trange1 j = .ok (rangeI 0 n) := by rw [hj]; exact trange1_nat h
theorem trange2_of {i j : Int} {n : Nat} (hj : (j - i).toNat = n) (h1 : -16777216 ≤ i) (h2 : i ≤ 16777216) (h3 : -16777216 ≤ j) (h4 : j ≤ 16777216) (h5 : j - i ≤ 16777216) : trange2 i j = .ok (rangeI i n) := by
  unfold trange2; rw [if_pos (show rngOk i j from ⟨h1, h2, h3, h4, h5⟩), hj]
/-! products, quotients -/
theorem tmulI_ok {a b : Int} (h : IntMulOk a b) : tmulI a b = .ok (a * b) := by unfold tmulI; rw [if_pos h]
theorem tmulI_r {a b : Int} (h : Sm 64 b) : tmulI a b = .ok (a * b) := tmulI_ok (IntMulOk.of_right h.bits)
theorem tmulI_l {a b : Int} (h : Sm 64 a) : tmulI a b = .ok (a * b) := tmulI_ok (IntMulOk.of_left h.bits)
theorem tmulI_sm {m n : Nat} {a b : Int} (h : Sm m a) (g : Sm n b) (l : m + n ≤ 134217728 := by decide) : tmulI a b = .ok (a * b) := tmulI_ok (h.mulOk g l)
@[simp] theorem tmulI_bd {a b : Int} {m n : Nat} [ha : Bd a m] [hb : Bd b n] (h : m + n ≤ 134217728) : tmulI a b = .ok (a * b) := tmulI_sm ha.h hb.h h
theorem tfdivI_pos {a b : Int} (h : 0 < b) (h2 : b < 2 ^ 250) : tfdivI a b = .ok (a / b) := by unfold tfdivI; rw [cite_pos ⟨h, h2⟩]
@[simp] theorem tmodI_pos {a b : Int} (h : 0 < b) : tmodI a b = .ok (a % b) := if_pos h
theorem tpowI_ok {a b : Int} (h : 0 ≤ b ∧ b ≤ 1000 ∧ a.natAbs < 2 ^ 64) : tpowI a b = .ok (a ^ b.toNat) := by unfold tpowI; rw [cite_pos h]
/-! slices -/
theorem cutG_from {α : Type} (xs : List α) (k : Nat) : cutG xs (some (k : Int)) none = xs.drop k := by
  unfold cutG
  rw [HT.sIx_nat]
  show (xs.drop (min k xs.length)).take (xs.length - min k xs.length) = _
  by_cases h : k ≤ xs.length
  · rw [Nat.min_eq_left h, List.take_of_length_le (by simp)]
  · rw [Nat.min_eq_right (by omega), List.drop_of_length_le (Nat.le_refl _), List.drop_of_length_le (by omega)]; simp
theorem cutG_to {α : Type} (xs : List α) (k : Nat) : cutG xs none (some (k : Int)) = xs.take k := by
  unfold cutG
  rw [HT.sIx_nat]
  show (xs.drop 0).take (min k xs.length - 0) = _
  rw [List.drop_zero, Nat.sub_zero, ← List.take_eq_take_min]
theorem cutG_mid {α : Type} (xs : List α) (j k : Nat) : cutG xs (some (j : Int)) (some (k : Int)) = (xs.drop j).take (k - j) := by
  unfold cutG
  rw [HT.sIx_nat, HT.sIx_nat]
  by_cases hj : j ≤ xs.length
  · rw [Nat.min_eq_left hj]
    by_cases hk : k ≤ xs.length
    · rw [Nat.min_eq_left hk]
    · rw [Nat.min_eq_right (by omega), List.take_of_length_le (by simp), List.take_of_length_le (by simp; omega)]
  · rw [Nat.min_eq_right (show xs.length ≤ j by omega), List.drop_of_length_le (Nat.le_refl _), List.drop_of_length_le (show xs.length ≤ j by omega)]; simp
theorem cutG_len {α : Type} (xs : List α) (lo hi : Option Int) : (cutG xs lo hi).length ≤ xs.length := by
  unfold cutG; simp; omega
theorem cutG_mem {α : Type} {xs : List α} {lo hi : Option Int} {x : α} (h : x ∈ cutG xs lo hi) : x ∈ xs := List.mem_of_mem_drop (List.mem_of_mem_take h)
/-! drawn numbers -/
def Dr (n : Nat) (lim : Int) (ds : List Int) : Prop := ds.length = n ∧ ∀ d ∈ ds, 0 ≤ d ∧ d < lim
theorem Dr.snoc {n : Nat} {lim d : Int} {ds : List Int} (h : Dr n lim ds) (h0 : 0 ≤ d) (h1 : d < lim) : Dr (n + 1) lim (ds ++ [d]) :=
  ⟨by rw [List.length_append, h.1]; rfl, fun x hx => by
    rcases List.mem_append.mp hx with q | q
    · exact h.2 x q
    · rw [List.mem_singleton.mp q]; exact ⟨h0, h1⟩⟩
theorem Dr.idx {n : Nat} {lim : Int} {ds : List Int} (h : Dr n lim ds) (i : Nat) (hi : i < n) : ∃ d, tidx ds (i : Int) = .ok d ∧ 0 ≤ d ∧ d < lim := by
  have hl : i < ds.length := by rw [h.1]; exact hi
  exact ⟨ds[i], tidx_lt hl, h.2 _ (List.getElem_mem hl)⟩
theorem Dr.ix {n : Nat} {lim : Int} {ds : List Int} (h : Dr n lim ds) (j : Int) (h0 : 0 ≤ j := by omega) (h1 : j < (n : Int) := by omega) : ∃ d, tidx ds j = .ok d ∧ 0 ≤ d ∧ d < lim := by
  obtain ⟨d, e, r⟩ := h.idx j.toNat (by omega)
  exact ⟨d, by rw [show ((j.toNat : Nat) : Int) = j by omega] at e; exact e, r⟩
end VL

namespace LW
open PySem PySem.Spec PyProof.Rows L2 VL
def topS (i : Nat) : Stmt := PySem.Challenge.pw_trackswhole_k85_judge_of_boosters.main.body.getD i (.Pass ⟨0, 0, 0, 0⟩)
instance lit_0 : Bd (0 : Int) 4 := ⟨.lit⟩
instance lit_1 : Bd (1 : Int) 4 := ⟨.lit⟩
instance mod_1 (a : Int) : Bd (a % 1) 4 := bd_modl (by decide) (by decide)
instance lit_2 : Bd (2 : Int) 4 := ⟨.lit⟩
instance mod_2 (a : Int) : Bd (a % 2) 4 := bd_modl (by decide) (by decide)
instance lit_3 : Bd (3 : Int) 4 := ⟨.lit⟩
instance mod_3 (a : Int) : Bd (a % 3) 4 := bd_modl (by decide) (by decide)
instance lit_4 : Bd (4 : Int) 4 := ⟨.lit⟩
instance mod_4 (a : Int) : Bd (a % 4) 4 := bd_modl (by decide) (by decide)
instance lit_6 : Bd (6 : Int) 4 := ⟨.lit⟩
instance mod_6 (a : Int) : Bd (a % 6) 4 := bd_modl (by decide) (by decide)
instance lit_7 : Bd (7 : Int) 4 := ⟨.lit⟩
instance mod_7 (a : Int) : Bd (a % 7) 4 := bd_modl (by decide) (by decide)
instance lit_10 : Bd (10 : Int) 5 := ⟨.lit⟩
instance mod_10 (a : Int) : Bd (a % 10) 5 := bd_modl (by decide) (by decide)
instance lit_11 : Bd (11 : Int) 5 := ⟨.lit⟩
instance mod_11 (a : Int) : Bd (a % 11) 5 := bd_modl (by decide) (by decide)
instance lit_13 : Bd (13 : Int) 5 := ⟨.lit⟩
instance mod_13 (a : Int) : Bd (a % 13) 5 := bd_modl (by decide) (by decide)
instance lit_18 : Bd (18 : Int) 6 := ⟨.lit⟩
instance mod_18 (a : Int) : Bd (a % 18) 6 := bd_modl (by decide) (by decide)
instance lit_30 : Bd (30 : Int) 6 := ⟨.lit⟩
instance mod_30 (a : Int) : Bd (a % 30) 6 := bd_modl (by decide) (by decide)
instance lit_32 : Bd (32 : Int) 7 := ⟨.lit⟩
instance mod_32 (a : Int) : Bd (a % 32) 7 := bd_modl (by decide) (by decide)
instance lit_5040 : Bd (5040 : Int) 14 := ⟨.lit⟩
instance mod_5040 (a : Int) : Bd (a % 5040) 14 := bd_modl (by decide) (by decide)
instance lit_16807 : Bd (16807 : Int) 16 := ⟨.lit⟩
instance mod_16807 (a : Int) : Bd (a % 16807) 16 := bd_modl (by decide) (by decide)
instance lit_40692 : Bd (40692 : Int) 17 := ⟨.lit⟩
instance mod_40692 (a : Int) : Bd (a % 40692) 17 := bd_modl (by decide) (by decide)
instance lit_48271 : Bd (48271 : Int) 17 := ⟨.lit⟩
instance mod_48271 (a : Int) : Bd (a % 48271) 17 := bd_modl (by decide) (by decide)
instance lit_69621 : Bd (69621 : Int) 18 := ⟨.lit⟩
instance mod_69621 (a : Int) : Bd (a % 69621) 18 := bd_modl (by decide) (by decide)
instance lit_2147483399 : Bd (2147483399 : Int) 32 := ⟨.lit⟩
instance mod_2147483399 (a : Int) : Bd (a % 2147483399) 32 := bd_modl (by decide) (by decide)
instance lit_2147483647 : Bd (2147483647 : Int) 32 := ⟨.lit⟩
instance mod_2147483647 (a : Int) : Bd (a % 2147483647) 32 := bd_modl (by decide) (by decide)
noncomputable section
abbrev s_fed_until : Stmt := topS 1
abbrev N_fed_until : List Str := ["loads", "capacity", "start", "total", "at"]
def b_fed_until_1 : OEnv → SR := (seq (sAug (fun i j => i + j) 3 (exF (v2 vidx (vVar 0) (vVar 4))))
    (sIf (tB (tst (v2 vgt (vVar 3) (vVar 1))))
    (sRet (oX (exF (vVar 4))))
    (pre (kill [2, 4]) sNx)))
def g_fed_until : OEnv → SR := (seq (sSet 3 (oX (exF (vC (.int 0)))))
    (seq (sForK (x2 vrange2 (exF (vVar 2)) (exF (vapp vlen (aCons (vVar 0) aNil)))) (kill [2]) (gN 4) (kill [4]) (b_fed_until_1))
    (pre (kill [1, 3]) (sRet (oX (exF (vapp vlen (aCons (vVar 0) aNil))))))))
def m_fed_until : List PyData → R PyData := frz (runB 5 g_fed_until)
theorem r_fed_until (a0 a1 a2 : PyData) : m_fed_until [a0, a1, a2] = fin (g_fed_until [some (.fz a0), some (.fz a1), some (.fz a2), none, none]) := frz_fin _ _ _
abbrev s_judge_labels_from : Stmt := topS 2
abbrev N_judge_labels_from : List Str := ["loads", "capacity", "labels", "start", "stop", "at"]
def e_judge_labels_from_1 : PEnv → R PyData := (v2 vle (v2 vidx (vVar 2) (vVar 5)) (v2 vadd (v2 vidx (vVar 2) (vVar 3)) (vC (.int 1))))
def g_judge_labels_from : OEnv → SR := (seq (sSet 4 (oX (exF (vapp m_fed_until (aCons (vVar 0) (aCons (vVar 1) (aCons (vVar 3) aNil)))))))
    (sRet (oX (exF (vapp vall (aCons (vlistOf (vcomp [5] (i2 vrange2 (v2 vadd (vVar 3) (vC (.int 1))) (v2 vadd (vVar 4) (vC (.int 1)))) (gN 5) tyes (e_judge_labels_from_1))) aNil))))))
def m_judge_labels_from : List PyData → R PyData := frz (runB 6 g_judge_labels_from)
theorem r_judge_labels_from (a0 a1 a2 a3 : PyData) : m_judge_labels_from [a0, a1, a2, a3] = fin (g_judge_labels_from [some (.fz a0), some (.fz a1), some (.fz a2), some (.fz a3), none, none]) := frz_fin _ _ _
abbrev s_judge_booster_labels : Stmt := topS 3
abbrev N_judge_booster_labels : List Str := ["loads", "capacity", "labels", "start"]
def e_judge_booster_labels_1 : PEnv → R PyData := (vapp m_judge_labels_from (aCons (vVar 0) (aCons (vVar 1) (aCons (vVar 2) (aCons (vVar 3) aNil)))))
def g_judge_booster_labels : OEnv → SR := (seq (sIf (tB (tor (tst (v2 vne (vapp vlen (aCons (vVar 2) aNil)) (v2 vadd (vapp vlen (aCons (vVar 0) aNil)) (vC (.int 1))))) (tst (v2 vne (v2 vidx (vVar 2) (vC (.int 0))) (vC (.int 0))))))
    (sRet (oX (exF (vC (.bool false)))))
    sNx)
    (sRet (oX (exF (vapp vall (aCons (vlistOf (vcomp [3] (i1 vrange1 (vapp vlen (aCons (vVar 0) aNil))) (gN 3) tyes (e_judge_booster_labels_1))) aNil))))))
def m_judge_booster_labels : List PyData → R PyData := frz (runB 4 g_judge_booster_labels)
theorem r_judge_booster_labels (a0 a1 a2 : PyData) : m_judge_booster_labels [a0, a1, a2] = fin (g_judge_booster_labels [some (.fz a0), some (.fz a1), some (.fz a2), none]) := frz_fin _ _ _
abbrev s_judge_sizes : Stmt := topS 4
abbrev N_judge_sizes : List Str := ["loads", "capacity", "sizes", "at", "size"]
def b_judge_sizes_1 : OEnv → SR := (seq (sIf (tB (tor (tst (v2 vlt (vVar 4) (vC (.int 1)))) (tor (tst (v2 vgt (v2 vadd (vVar 3) (vVar 4)) (vapp vlen (aCons (vVar 0) aNil)))) (tst (v2 vgt (vapp vsum (aCons (vslice (vVar 0) (vpart (vVar 3)) (vpart (v2 vadd (vVar 3) (vVar 4)))) aNil)) (vVar 1))))))
    (sRet (oX (exF (vC (.bool false)))))
    (pre (kill [2]) sNx))
    (sAug (fun i j => i + j) 3 (exF (vVar 4))))
def g_judge_sizes : OEnv → SR := (seq (sSet 3 (oX (exF (vC (.int 0)))))
    (seq (sForK (ixF (isq (vVar 2))) (kill [2]) (gN 4) (kill [4]) (b_judge_sizes_1))
    (pre (kill [1, 4]) (sRet (oX (exF (v2 veq (vVar 3) (vapp vlen (aCons (vVar 0) aNil)))))))))
def m_judge_sizes : List PyData → R PyData := frz (runB 5 g_judge_sizes)
theorem r_judge_sizes (a0 a1 a2 : PyData) : m_judge_sizes [a0, a1, a2] = fin (g_judge_sizes [some (.fz a0), some (.fz a1), some (.fz a2), none, none]) := frz_fin _ _ _
abbrev s_judge_boosters : Stmt := topS 5
abbrev N_judge_boosters : List Str := ["loads", "capacity", "paper", "count", "sizes", "labels"]
def g_judge_boosters : OEnv → SR := (seq (sTup (gT (gC (gN 3) (gC (gN 4) (gC (gN 5) gE)))) (exF (vVar 2)))
    (seq (sIf (tB (tnot (ttr (vapp m_judge_booster_labels (aCons (vVar 0) (aCons (vVar 1) (aCons (vVar 5) aNil)))))))
    (sRet (oX (exF (vC (.bool false)))))
    (pre (kill [2]) sNx))
    (sRet (oX (exF (vand (v2 vle (vVar 3) (v2 vidx (vVar 5) (v1 vneg (vC (.int 1))))) (vand (v2 veq (vapp vlen (aCons (vVar 4) aNil)) (vVar 3)) (vapp m_judge_sizes (aCons (vVar 0) (aCons (vVar 1) (aCons (vVar 4) aNil)))))))))))
def m_judge_boosters : List PyData → R PyData := frz (runB 6 g_judge_boosters)
theorem r_judge_boosters (a0 a1 a2 : PyData) : m_judge_boosters [a0, a1, a2] = fin (g_judge_boosters [some (.fz a0), some (.fz a1), some (.fz a2), none, none, none]) := frz_fin _ _ _
abbrev s_law_cell : Stmt := topS 7
abbrev N_law_cell : List Str := ["script", "k"]
def g_law_cell : OEnv → SR := (seq (sIf (tB (tst (v2 vlt (vVar 1) (vapp vlen (aCons (vVar 0) aNil)))))
    (sRet (oX (exF (vapp vint1 (aCons (v2 vidx (vVar 0) (vVar 1)) aNil)))))
    (pre (kill [0, 1]) sNx))
    (sRet (oX (exF (vC (.int 0))))))
def m_law_cell : List PyData → R PyData := frz (runB 2 g_law_cell)
theorem r_law_cell (a0 a1 : PyData) : m_law_cell [a0, a1] = fin (g_law_cell [some (.fz a0), some (.fz a1)]) := frz_fin _ _ _
abbrev s_law_numbers : Stmt := topS 8
abbrev N_law_numbers : List Str := ["cell", "count", "limit", "found", "k", "mixed"]
def b_law_numbers_1 : OEnv → SR := (seq (sApp 3 (oX (exF (v2 vmod (vapp vint1 (aCons (vVar 0) aNil)) (vVar 2)))))
    (sSet 0 (oX (exF (v2 vfdiv (vapp vint1 (aCons (vVar 0) aNil)) (vVar 2))))))
def b_law_numbers_2 : OEnv → SR := (seq (sSet 5 (oX (exF (v2 vmod (vapp vint1 (aCons (v2 vadd (v2 vadd (v2 vmul (vVar 0) (vC (.int 48271))) (v2 vmul (vVar 4) (vC (.int 69621)))) (vC (.int 7))) aNil)) (vC (.int 2147483647))))))
    (seq (sSet 5 (oX (exF (v2 vmod (vapp vint1 (aCons (v2 vadd (v2 vadd (v2 vadd (v2 vmul (vVar 5) (vVar 5)) (v2 vmul (vVar 5) (vC (.int 40692)))) (v2 vmul (vVar 4) (vC (.int 16807)))) (vC (.int 11))) aNil)) (vC (.int 2147483399))))))
    (sApp 3 (oX (exF (v2 vmod (vapp vint1 (aCons (v2 vfdiv (vVar 5) (vC (.int 32))) aNil)) (vVar 2)))))))
def g_law_numbers : OEnv → SR := (seq (sSet 3 (oFrF aNil))
    (seq (sIf (tB (tst (v2 vge (vVar 0) (v2 vpow (vC (.int 10)) (vC (.int 18))))))
    (seq (sForK (x1 vrange1 (exF (vVar 1))) (kill [1]) (gN 4) (kill [4]) (b_law_numbers_1))
    (pre (kill [0, 2, 4]) (pre (freeze [3]) (sRet (oX (exF (vVar 3)))))))
    sNx)
    (seq (sForK (x1 vrange1 (exF (vVar 1))) (kill [1]) (gN 4) (kill [4, 5]) (b_law_numbers_2))
    (pre (kill [0, 2, 4, 5]) (pre (freeze [3]) (sRet (oX (exF (vVar 3)))))))))
def m_law_numbers : List PyData → R PyData := frz (runB 6 g_law_numbers)
theorem r_law_numbers (a0 a1 a2 : PyData) : m_law_numbers [a0, a1, a2] = fin (g_law_numbers [some (.fz a0), some (.fz a1), some (.fz a2), none, none, none]) := frz_fin _ _ _
abbrev s_law_loads : Stmt := topS 9
abbrev N_law_loads : List Str := ["script", "at", "cell", "draws", "count", "picks", "found", "k", "top"]
def b_law_loads_1 : OEnv → SR := (sApp 6 (oX (exF (v2 vidx (vlistOf (aCons (v2 vmod (v2 vidx (vVar 5) (vVar 7)) (vC (.int 6))) (aCons (v2 vmod (v2 vfdiv (v2 vidx (vVar 5) (vVar 7)) (vC (.int 6))) (vC (.int 2))) (aCons (v2 vidx (vVar 5) (vVar 7)) (aCons (v2 vmod (v2 vfdiv (vapp vint1 (aCons (vVar 2) aNil)) (v2 vadd (vVar 7) (vC (.int 3)))) (v2 vpow (vC (.int 10)) (vC (.int 30)))) aNil))))) (v2 vmod (v2 vidx (vVar 3) (vC (.int 1))) (vC (.int 4)))))))
def g_law_loads : OEnv → SR := (seq (sSet 2 (oX (exF (vapp m_law_cell (aCons (vVar 0) (aCons (vVar 1) aNil))))))
    (seq (sSet 3 (oX (exF (vapp m_law_numbers (aCons (vVar 2) (aCons (vC (.int 4)) (aCons (vC (.int 5040)) aNil)))))))
    (seq (sSet 4 (oX (exF (v2 vmod (v2 vidx (vVar 3) (vC (.int 0))) (vC (.int 13))))))
    (seq (sSet 5 (oX (exF (vapp m_law_numbers (aCons (vapp m_law_cell (aCons (vVar 0) (aCons (v2 vadd (vVar 1) (vC (.int 1))) aNil))) (aCons (vVar 4) (aCons (vC (.int 5040)) aNil)))))))
    (seq (sSet 6 (oFrF aNil))
    (pre (kill [0, 1]) (seq (sForK (x1 vrange1 (exF (vVar 4))) (kill [4]) (gN 7) (kill [7]) (b_law_loads_1))
    (pre (kill [2, 5, 7]) (pre (freeze [6]) (seq (sSet 8 (oX (exF (vapp vmax (aCons (v2 vadd (vlistOf (aCons (vC (.int 1)) aNil)) (vVar 6)) aNil)))))
    (sRet (oX (exF (vtup (aCons (vVar 6) (aCons (v2 vidx (vlistOf (aCons (vVar 8) (aCons (v2 vadd (vVar 8) (v2 vmod (v2 vidx (vVar 3) (vC (.int 2))) (vC (.int 4)))) (aCons (v2 vadd (v2 vmul (vC (.int 2)) (vVar 8)) (v2 vmod (v2 vidx (vVar 3) (vC (.int 2))) (vC (.int 3)))) (aCons (v2 vmul (vC (.int 3)) (vVar 8)) aNil))))) (v2 vmod (v2 vidx (vVar 3) (vC (.int 3))) (vC (.int 4)))) aNil))))))))))))))))
def m_law_loads : List PyData → R PyData := frz (runB 9 g_law_loads)
theorem r_law_loads (a0 a1 : PyData) : m_law_loads [a0, a1] = fin (g_law_loads [some (.fz a0), some (.fz a1), none, none, none, none, none, none, none]) := frz_fin _ _ _
abbrev s_law_paper : Stmt := topS 10
abbrev N_law_paper : List Str := ["loads", "capacity", "sizes", "labels", "total", "load"]
def b_law_paper_1 : OEnv → SR := (seq (sIf (tB (tor (tst (v2 veq (vapp vlen (aCons (vVar 2) aNil)) (vC (.int 0)))) (tst (v2 vgt (v2 vadd (vVar 4) (vVar 5)) (vVar 1)))))
    (seq (sApp 2 (oX (exF (vC (.int 0)))))
    (seq (sSet 4 (oX (exF (vC (.int 0)))))
    (pre (kill [0]) sNx)))
    (pre (kill [0]) sNx))
    (seq (sSetI 2 (exB (v2 vsub (vapp vlen (aCons (vVar 2) aNil)) (vC (.int 1)))) (oX (exB (v2 vadd (v2 vidx (vVar 2) (v2 vsub (vapp vlen (aCons (vVar 2) aNil)) (vC (.int 1)))) (vC (.int 1))))))
    (seq (sSet 4 (oX (exF (v2 vadd (vVar 4) (vVar 5)))))
    (sApp 3 (oX (exB (vapp vlen (aCons (vVar 2) aNil))))))))
def g_law_paper : OEnv → SR := (seq (sSet 2 (oFrF aNil))
    (seq (sSet 3 (oFrF (aCons (vC (.int 0)) aNil)))
    (seq (sSet 4 (oX (exF (vC (.int 0)))))
    (seq (sForK (ixF (isq (vVar 0))) (kill [0]) (gN 5) (kill [5]) (b_law_paper_1))
    (pre (kill [1, 4, 5]) (pre (freeze [2, 3]) (sRet (oX (exF (vtup (aCons (vapp vlen (aCons (vVar 2) aNil)) (aCons (vVar 2) (aCons (vVar 3) aNil)))))))))))))
def m_law_paper : List PyData → R PyData := frz (runB 6 g_law_paper)
theorem r_law_paper (a0 a1 : PyData) : m_law_paper [a0, a1] = fin (g_law_paper [some (.fz a0), some (.fz a1), none, none, none, none]) := frz_fin _ _ _
abbrev s_law_accepted : Stmt := topS 11
abbrev N_law_accepted : List Str := ["loads", "capacity", "paper", "count", "sizes", "labels", "i", "j", "at", "size"]
def b_law_accepted_1 : OEnv → SR := (sIf (tB (tand (tst (v2 vle (vapp vsum (aCons (vslice (vVar 0) (vpart (vVar 6)) (vpart (vVar 7))) aNil)) (vVar 1))) (tst (v2 vgt (v2 vidx (vVar 5) (vVar 7)) (v2 vadd (v2 vidx (vVar 5) (vVar 6)) (vC (.int 1)))))))
    (sRet (oX (exF (vC (.bool false)))))
    (pre (kill [7]) sNx))
def b_law_accepted_2 : OEnv → SR := (sFor (x2 vrange2 (exF (v2 vadd (vVar 6) (vC (.int 1)))) (exF (v2 vadd (vapp vlen (aCons (vVar 0) aNil)) (vC (.int 1))))) (gN 7) (kill [7]) (b_law_accepted_1))
def b_law_accepted_3 : OEnv → SR := (seq (sIf (tB (tor (tst (v2 vlt (vVar 9) (vC (.int 1)))) (tst (v2 vgt (vapp vsum (aCons (vslice (vVar 0) (vpart (vVar 8)) (vpart (v2 vadd (vVar 8) (vVar 9)))) aNil)) (vVar 1)))))
    (sRet (oX (exF (vC (.bool false)))))
    (pre (kill [4]) sNx))
    (sSet 8 (oX (exF (v2 vadd (vVar 8) (vVar 9))))))
def g_law_accepted : OEnv → SR := (seq (sTup (gT (gC (gN 3) (gC (gN 4) (gC (gN 5) gE)))) (exF (vVar 2)))
    (seq (sIf (tB (tor (tst (v2 vne (vapp vlen (aCons (vVar 5) aNil)) (v2 vadd (vapp vlen (aCons (vVar 0) aNil)) (vC (.int 1))))) (tor (tst (v2 vne (v2 vidx (vVar 5) (vC (.int 0))) (vC (.int 0)))) (tor (tst (v2 vgt (vVar 3) (v2 vidx (vVar 5) (vapp vlen (aCons (vVar 0) aNil))))) (tst (v2 vne (vapp vlen (aCons (vVar 4) aNil)) (vVar 3)))))))
    (sRet (oX (exF (vC (.bool false)))))
    (pre (kill [2, 3]) sNx))
    (seq (sFor (x1 vrange1 (exF (vapp vlen (aCons (vVar 0) aNil)))) (gN 6) (kill [6, 7]) (b_law_accepted_2))
    (pre (kill [5, 6]) (seq (sSet 8 (oX (exF (vC (.int 0)))))
    (seq (sForK (ixF (isq (vVar 4))) (kill [4]) (gN 9) (kill [9]) (b_law_accepted_3))
    (pre (kill [1, 9]) (sRet (oX (exF (v2 veq (vVar 8) (vapp vlen (aCons (vVar 0) aNil)))))))))))))
def m_law_accepted : List PyData → R PyData := frz (runB 10 g_law_accepted)
theorem r_law_accepted (a0 a1 a2 : PyData) : m_law_accepted [a0, a1, a2] = fin (g_law_accepted [some (.fz a0), some (.fz a1), some (.fz a2), none, none, none, none, none, none, none]) := frz_fin _ _ _
abbrev s_law_other_sizes : Stmt := topS 12
abbrev N_law_other_sizes : List Str := ["sizes", "draws", "found", "at", "spot", "one", "other", "pair"]
def b_law_other_sizes_1 : OEnv → SR := (sApp 2 (oX (exF (v2 vadd (v2 vadd (vslice (vVar 0) (vpart (vC (.int 0))) (vpart (vVar 4))) (vVar 7)) (vslice (vVar 0) (vpart (v2 vadd (vVar 4) (vC (.int 2)))) vnopart)))))
def g_law_other_sizes : OEnv → SR := (seq (sSet 2 (oX (exF (vlistOf (aCons (vVar 0) (aCons (vlistOf aNil) (aCons (v2 vadd (vVar 0) (vlistOf (aCons (vC (.int 0)) aNil))) (aCons (v2 vadd (vVar 0) (vlistOf (aCons (vC (.int 1)) aNil))) (aCons (v2 vadd (vlistOf (aCons (vC (.int 0)) aNil)) (vVar 0)) (aCons (v2 vadd (vVar 0) (vlistOf (aCons (v1 vneg (vC (.int 1))) (aCons (vC (.int 1)) aNil)))) (aCons (vlistOf (aCons (vapp vsum (aCons (vVar 0) aNil)) aNil)) aNil)))))))))))
    (seq (sIf (tB (tst (v2 vgt (vapp vlen (aCons (vVar 0) aNil)) (vC (.int 0)))))
    (seq (sSet 3 (oX (exF (v2 vmod (v2 vidx (vVar 1) (vC (.int 0))) (vapp vlen (aCons (vVar 0) aNil))))))
    (seq (sSet 2 (oFrF (fcat (vVar 2) (vlistOf (aCons (v2 vadd (vslice (vVar 0) (vpart (vC (.int 0))) (vpart (vVar 3))) (vslice (vVar 0) (vpart (v2 vadd (vVar 3) (vC (.int 1)))) vnopart)) (aCons (v2 vadd (v2 vadd (vslice (vVar 0) (vpart (vC (.int 0))) (vpart (vVar 3))) (vlistOf (aCons (v2 vadd (v2 vidx (vVar 0) (vVar 3)) (vC (.int 1))) aNil))) (vslice (vVar 0) (vpart (v2 vadd (vVar 3) (vC (.int 1)))) vnopart)) (aCons (v2 vadd (v2 vadd (vslice (vVar 0) (vpart (vC (.int 0))) (vpart (vVar 3))) (vlistOf (aCons (vC (.int 0)) aNil))) (vslice (vVar 0) (vpart (vVar 3)) vnopart)) aNil)))))))
    (seq (sApp 2 (oX (exF (v2 vadd (v2 vadd (vslice (vVar 0) (vpart (vC (.int 0))) (vpart (vVar 3))) (vlistOf (aCons (vC (.int 1)) (aCons (v2 vsub (v2 vidx (vVar 0) (vVar 3)) (vC (.int 1))) aNil)))) (vslice (vVar 0) (vpart (v2 vadd (vVar 3) (vC (.int 1)))) vnopart)))))
    (sIf (tB (tst (v2 vgt (vapp vlen (aCons (vVar 0) aNil)) (vC (.int 1)))))
    (seq (sSet 4 (oX (exF (v2 vmod (v2 vidx (vVar 1) (vC (.int 1))) (v2 vsub (vapp vlen (aCons (vVar 0) aNil)) (vC (.int 1)))))))
    (seq (sTup (gT (gC (gN 5) (gC (gN 6) gE))) (exF (vslice (vVar 0) (vpart (vVar 4)) (vpart (v2 vadd (vVar 4) (vC (.int 2)))))))
    (pre (kill [1, 3]) (seq (sForK (ixF (isq (vlistOf (aCons (vlistOf (aCons (v2 vsub (vVar 5) (vC (.int 1))) (aCons (v2 vadd (vVar 6) (vC (.int 1))) aNil))) (aCons (vlistOf (aCons (v2 vadd (vVar 5) (vC (.int 1))) (aCons (v2 vsub (vVar 6) (vC (.int 1))) aNil))) (aCons (vlistOf (aCons (v2 vadd (vVar 5) (vVar 6)) aNil)) aNil)))))) (kill [5, 6]) (gN 7) (kill [7]) (b_law_other_sizes_1))
    (pre (freeze [2]) (pre (kill [0, 4, 7]) sNx))))))
    (pre (freeze [2]) (pre (kill [0, 1, 3]) sNx))))))
    (pre (kill [0, 1]) sNx))
    (sRet (oX (exF (vVar 2))))))
def m_law_other_sizes : List PyData → R PyData := frz (runB 8 g_law_other_sizes)
theorem r_law_other_sizes (a0 a1 : PyData) : m_law_other_sizes [a0, a1] = fin (g_law_other_sizes [some (.fz a0), some (.fz a1), none, none, none, none, none, none]) := frz_fin _ _ _
abbrev s_law_other_labels : Stmt := topS 13
abbrev N_law_other_labels : List Str := ["labels", "draws", "at", "last", "found", "spot", "step", "label"]
def e_law_other_labels_1 : PEnv → R PyData := (vC (.int 0))
def e_law_other_labels_2 : PEnv → R PyData := (v2 vsub (vVar 7) (vC (.int 1)))
def b_law_other_labels_3 : OEnv → SR := (sApp 4 (oX (exF (v2 vadd (v2 vadd (vslice (vVar 0) (vpart (vC (.int 0))) (vpart (vVar 5))) (vlistOf (aCons (v2 vadd (v2 vidx (vVar 0) (vVar 5)) (vVar 6)) aNil))) (vslice (vVar 0) (vpart (v2 vadd (vVar 5) (vC (.int 1)))) vnopart)))))
def b_law_other_labels_4 : OEnv → SR := (pre (kill [3]) (sFor (ixF (isq (vlistOf (aCons (vC (.int 1)) (aCons (v1 vneg (vC (.int 1))) (aCons (v2 vadd (vC (.int 2)) (v2 vidx (vVar 1) (vC (.int 1)))) aNil)))))) (gN 6) (kill [6]) (b_law_other_labels_3)))
def e_law_other_labels_5 : PEnv → R PyData := (v2 vadd (vVar 7) (vC (.int 1)))
def e_law_other_labels_6 : PEnv → R PyData := (vapp vmax (aCons (vC (.int 0)) (aCons (v2 vsub (vVar 7) (vC (.int 1))) aNil)))
def g_law_other_labels : OEnv → SR := (seq (sSet 2 (oX (exF (v2 vmod (v2 vidx (vVar 1) (vC (.int 0))) (vapp vlen (aCons (vVar 0) aNil))))))
    (seq (sSet 3 (oX (exF (v2 vsub (vapp vlen (aCons (vVar 0) aNil)) (vC (.int 1))))))
    (seq (sSet 4 (oFrF (aCons (vVar 0) (aCons (vslice (vVar 0) (vpart (vC (.int 0))) (vpart (vVar 3))) (aCons (v2 vadd (vVar 0) (vlistOf (aCons (v2 vidx (vVar 0) (vVar 3)) aNil))) (aCons (vlistOf (vcomp [7] (isq (vVar 0)) (gN 7) tyes (e_law_other_labels_2))) (aCons (vlistOf (vcomp [7] (isq (vVar 0)) (gN 7) tyes (e_law_other_labels_1))) (aCons (v2 vadd (vslice (vVar 0) (vpart (vC (.int 1))) vnopart) (vlistOf (aCons (v2 vidx (vVar 0) (vVar 3)) aNil))) aNil))))))))
    (seq (sForK (ixF (isq (vlistOf (aCons (vVar 2) (aCons (vVar 3) (aCons (vC (.int 0)) aNil)))))) (kill [3]) (gN 5) (kill [5, 6]) (b_law_other_labels_4))
    (pre (kill [1, 5, 6]) (seq (sApp 4 (oX (exF (v2 vadd (vslice (vVar 0) (vpart (vC (.int 0))) (vpart (vVar 2))) (vlistOf (vcomp [7] (isq (vslice (vVar 0) (vpart (vVar 2)) vnopart)) (gN 7) tyes (e_law_other_labels_5)))))))
    (seq (sApp 4 (oX (exF (vlistOf (vcomp [7] (isq (vVar 0)) (gN 7) tyes (e_law_other_labels_6))))))
    (pre (freeze [4]) (sRet (oX (exF (vVar 4))))))))))))
def m_law_other_labels : List PyData → R PyData := frz (runB 8 g_law_other_labels)
theorem r_law_other_labels (a0 a1 : PyData) : m_law_other_labels [a0, a1] = fin (g_law_other_labels [some (.fz a0), some (.fz a1), none, none, none, none, none, none]) := frz_fin _ _ _
abbrev s_law_judged : Stmt := topS 14
abbrev N_law_judged : List Str := ["loads", "capacity", "paper", "count", "sizes", "labels", "passed", "kept", "told", "due"]
def g_law_judged : OEnv → SR := (seq (sTup (gT (gC (gN 3) (gC (gN 4) (gC (gN 5) gE)))) (exF (vVar 2)))
    (seq (sSet 6 (oX (exF (vtup (aCons (vVar 3) (aCons (vlistOf (isq (vVar 4))) (aCons (vlistOf (isq (vVar 5))) aNil)))))))
    (seq (sSet 7 (oX (exF (vlistOf (isq (vVar 0))))))
    (seq (sSet 8 (oX (exF (vapp m_judge_boosters (aCons (vVar 0) (aCons (vVar 1) (aCons (vVar 6) aNil)))))))
    (seq (sSet 9 (oX (exF (vapp m_law_accepted (aCons (vVar 7) (aCons (vVar 1) (aCons (vVar 2) aNil)))))))
    (sRet (oX (exF (vand (v1 (visi "bool") (vVar 8)) (vand (v2 veq (vVar 8) (vVar 9)) (vand (v2 veq (vVar 6) (vVar 2)) (v2 veq (vVar 0) (vVar 7)))))))))))))
def m_law_judged : List PyData → R PyData := frz (runB 10 g_law_judged)
theorem r_law_judged (a0 a1 a2 : PyData) : m_law_judged [a0, a1, a2] = fin (g_law_judged [some (.fz a0), some (.fz a1), some (.fz a2), none, none, none, none, none, none, none]) := frz_fin _ _ _
abbrev s_law : Stmt := topS 15
abbrev N_law : List Str := ["script", "at", "loads", "capacity", "draws", "right", "count", "sizes", "labels", "step", "some", "number", "other", "paper", "parted", "load", "k"]
def b_law_1 : OEnv → SR := (sIf (tB (tnot (ttr (vapp m_law_judged (aCons (vVar 2) (aCons (vVar 3) (aCons (vtup (aCons (v2 vadd (vVar 6) (vVar 9)) (aCons (vVar 10) (aCons (vVar 8) aNil)))) aNil)))))))
    (sRet (oX (exF (vC (.bool false)))))
    (pre (kill [10]) sNx))
def b_law_2 : OEnv → SR := (sFor (ixF (isq (vapp m_law_other_sizes (aCons (vVar 7) (aCons (vVar 4) aNil))))) (gN 10) (kill [10]) (b_law_1))
def b_law_3 : OEnv → SR := (sIf (tB (tnot (ttr (vapp m_law_judged (aCons (vVar 2) (aCons (vVar 3) (aCons (vtup (aCons (vVar 11) (aCons (vVar 7) (aCons (vVar 10) aNil)))) aNil)))))))
    (sRet (oX (exF (vC (.bool false)))))
    (pre (kill [11]) sNx))
def b_law_4 : OEnv → SR := (pre (kill [4]) (sFor (ixF (isq (v2 vadd (vlistOf (aCons (vVar 6) aNil)) (vslice (vVar 10) (vpart (v2 vsub (vapp vlen (aCons (vVar 10) aNil)) (vC (.int 1)))) vnopart)))) (gN 11) (kill [11]) (b_law_3)))
def b_law_5 : OEnv → SR := (seq (sSet 13 (oX (exF (vapp m_law_paper (aCons (vVar 2) (aCons (vVar 12) aNil))))))
    (sIf (tB (tor (tnot (ttr (vapp m_law_judged (aCons (vVar 2) (aCons (vVar 3) (aCons (vVar 13) aNil)))))) (tor (tnot (ttr (vapp m_law_judged (aCons (vVar 2) (aCons (vVar 12) (aCons (vVar 5) aNil)))))) (tnot (ttr (vapp m_law_judged (aCons (vVar 2) (aCons (vVar 12) (aCons (vVar 13) aNil)))))))))
    (sRet (oX (exF (vC (.bool false)))))
    (pre (kill [12, 13]) sNx)))
def e_law_6 : PEnv → R PyData := (vC (.int 1))
def e_law_7 : PEnv → R PyData := (vVar 16)
def b_law_8 : OEnv → SR := (seq (sTup (gT (gC (gN 2) (gC (gN 3) gE))) (exF (vapp m_law_loads (aCons (vVar 0) (aCons (vVar 1) aNil)))))
    (seq (sSet 4 (oX (exF (vapp m_law_numbers (aCons (vapp m_law_cell (aCons (vVar 0) (aCons (v2 vadd (vVar 1) (vC (.int 2))) aNil))) (aCons (vC (.int 6)) (aCons (vC (.int 5040)) aNil)))))))
    (seq (sSet 5 (oX (exF (vapp m_law_paper (aCons (vVar 2) (aCons (vVar 3) aNil))))))
    (seq (sTup (gT (gC (gN 6) (gC (gN 7) (gC (gN 8) gE)))) (exF (vVar 5)))
    (seq (sIf (tB (tnot (ttr (vapp m_judge_boosters (aCons (vVar 2) (aCons (vVar 3) (aCons (vVar 5) aNil)))))))
    (sRet (oX (exF (vC (.bool false)))))
    (pre (kill [1]) sNx))
    (seq (sFor (ixF (isq (vlistOf (aCons (v1 vneg (vC (.int 1))) (aCons (vC (.int 0)) (aCons (vC (.int 1)) (aCons (v1 vneg (vVar 6)) aNil))))))) (gN 9) (kill [9, 10]) (b_law_2))
    (pre (kill [9]) (seq (sForK (ixF (isq (vapp m_law_other_labels (aCons (vVar 8) (aCons (vslice (vVar 4) (vpart (vC (.int 2))) (vpart (vC (.int 4)))) aNil))))) (kill [4]) (gN 10) (kill [10, 11]) (b_law_4))
    (pre (kill [6, 7, 10]) (seq (sFor (ixF (isq (vlistOf (aCons (v2 vadd (vVar 3) (vC (.int 1))) (aCons (vapp vmax (aCons (vC (.int 1)) (aCons (v2 vsub (vVar 3) (vC (.int 1))) aNil))) (aCons (vapp vmax (aCons (v2 vadd (vlistOf (aCons (vC (.int 1)) aNil)) (vVar 2)) aNil)) (aCons (v2 vmul (vC (.int 2)) (vVar 3)) aNil))))))) (gN 12) (kill [12, 13]) (b_law_5))
    (pre (kill [5]) (seq (sSet 14 (oX (exF (vlistOf (vcomp [15] (isq (vVar 2)) (gN 15) tyes (e_law_6))))))
    (seq (sIf (tB (tnot (ttr (vapp m_law_judged (aCons (vVar 2) (aCons (vVar 3) (aCons (vtup (aCons (vapp vlen (aCons (vVar 2) aNil)) (aCons (vVar 14) (aCons (vVar 8) aNil)))) aNil)))))))
    (sRet (oX (exF (vC (.bool false)))))
    (pre (kill [8]) sNx))
    (sIf (tB (tnot (ttr (vapp m_law_judged (aCons (vVar 2) (aCons (vVar 3) (aCons (vtup (aCons (vapp vlen (aCons (vVar 2) aNil)) (aCons (vVar 14) (aCons (vlistOf (vcomp [16] (i1 vrange1 (v2 vadd (vapp vlen (aCons (vVar 2) aNil)) (vC (.int 1)))) (gN 16) tyes (e_law_7))) aNil)))) aNil)))))))
    (sRet (oX (exF (vC (.bool false)))))
    (pre (kill [2, 3, 14]) sNx)))))))))))))))
def g_law : OEnv → SR := (seq (sFor (ixF (isq (vlistOf (aCons (vC (.int 0)) (aCons (vC (.int 3)) aNil))))) (gN 1) (kill [1, 2, 3, 4, 5, 6, 7, 8, 9, 10, 11, 12, 13, 14]) (b_law_8))
    (pre (kill [0]) (sRet (oX (exF (vC (.bool true)))))))
def m_law : List PyData → R PyData := frz (runB 17 g_law)
theorem r_law (a0 : PyData) : m_law [a0] = fin (g_law [some (.fz a0), none, none, none, none, none, none, none, none, none, none, none, none, none, none, none, none]) := frz_fin _ _ _
end
structure Txt (K : PySem.W.Frag) (mg : Str → Option Value) where
  f_fed_until : Addr
  d_fed_until : FuncData
  F_fed_until : Fun K "fed_until" "fed_until" s_fed_until f_fed_until d_fed_until
  g_fed_until : mg "fed_until" = some (.ref f_fed_until)
  B_fed_until : Binds K d_fed_until ["loads", "capacity", "start"] []
  f_judge_labels_from : Addr
  d_judge_labels_from : FuncData
  F_judge_labels_from : Fun K "judge_labels_from" "judge_labels_from" s_judge_labels_from f_judge_labels_from d_judge_labels_from
  g_judge_labels_from : mg "judge_labels_from" = some (.ref f_judge_labels_from)
  B_judge_labels_from : Binds K d_judge_labels_from ["loads", "capacity", "labels", "start"] []
  f_judge_booster_labels : Addr
  d_judge_booster_labels : FuncData
  F_judge_booster_labels : Fun K "judge_booster_labels" "judge_booster_labels" s_judge_booster_labels f_judge_booster_labels d_judge_booster_labels
  g_judge_booster_labels : mg "judge_booster_labels" = some (.ref f_judge_booster_labels)
  B_judge_booster_labels : Binds K d_judge_booster_labels ["loads", "capacity", "labels"] []
  f_judge_sizes : Addr
  d_judge_sizes : FuncData
  F_judge_sizes : Fun K "judge_sizes" "judge_sizes" s_judge_sizes f_judge_sizes d_judge_sizes
  g_judge_sizes : mg "judge_sizes" = some (.ref f_judge_sizes)
  B_judge_sizes : Binds K d_judge_sizes ["loads", "capacity", "sizes"] []
  f_judge_boosters : Addr
  d_judge_boosters : FuncData
  F_judge_boosters : Fun K "judge_boosters" "judge_boosters" s_judge_boosters f_judge_boosters d_judge_boosters
  g_judge_boosters : mg "judge_boosters" = some (.ref f_judge_boosters)
  B_judge_boosters : Binds K d_judge_boosters ["loads", "capacity", "paper"] []
  f__law_cell : Addr
  d__law_cell : FuncData
  F__law_cell : Fun K "_law_cell" "_law_cell" s_law_cell f__law_cell d__law_cell
  g__law_cell : mg "_law_cell" = some (.ref f__law_cell)
  B__law_cell : Binds K d__law_cell ["script", "k"] []
  f__law_numbers : Addr
  d__law_numbers : FuncData
  F__law_numbers : Fun K "_law_numbers" "_law_numbers" s_law_numbers f__law_numbers d__law_numbers
  g__law_numbers : mg "_law_numbers" = some (.ref f__law_numbers)
  B__law_numbers : Binds K d__law_numbers ["cell", "count", "limit"] []
  f__law_loads : Addr
  d__law_loads : FuncData
  F__law_loads : Fun K "_law_loads" "_law_loads" s_law_loads f__law_loads d__law_loads
  g__law_loads : mg "_law_loads" = some (.ref f__law_loads)
  B__law_loads : Binds K d__law_loads ["script", "at"] []
  f__law_paper : Addr
  d__law_paper : FuncData
  F__law_paper : Fun K "_law_paper" "_law_paper" s_law_paper f__law_paper d__law_paper
  g__law_paper : mg "_law_paper" = some (.ref f__law_paper)
  B__law_paper : Binds K d__law_paper ["loads", "capacity"] []
  f__law_accepted : Addr
  d__law_accepted : FuncData
  F__law_accepted : Fun K "_law_accepted" "_law_accepted" s_law_accepted f__law_accepted d__law_accepted
  g__law_accepted : mg "_law_accepted" = some (.ref f__law_accepted)
  B__law_accepted : Binds K d__law_accepted ["loads", "capacity", "paper"] []
  f__law_other_sizes : Addr
  d__law_other_sizes : FuncData
  F__law_other_sizes : Fun K "_law_other_sizes" "_law_other_sizes" s_law_other_sizes f__law_other_sizes d__law_other_sizes
  g__law_other_sizes : mg "_law_other_sizes" = some (.ref f__law_other_sizes)
  B__law_other_sizes : Binds K d__law_other_sizes ["sizes", "draws"] []
  f__law_other_labels : Addr
  d__law_other_labels : FuncData
  F__law_other_labels : Fun K "_law_other_labels" "_law_other_labels" s_law_other_labels f__law_other_labels d__law_other_labels
  g__law_other_labels : mg "_law_other_labels" = some (.ref f__law_other_labels)
  B__law_other_labels : Binds K d__law_other_labels ["labels", "draws"] []
  f__law_judged : Addr
  d__law_judged : FuncData
  F__law_judged : Fun K "_law_judged" "_law_judged" s_law_judged f__law_judged d__law_judged
  g__law_judged : mg "_law_judged" = some (.ref f__law_judged)
  B__law_judged : Binds K d__law_judged ["loads", "capacity", "paper"] []
  f_law : Addr
  d_law : FuncData
  F_law : Fun K "law" "law" s_law f_law d_law
  g_law : mg "law" = some (.ref f_law)
  B_law : Binds K d_law ["script"] []
  b_all : mg "all" = none
  b_bool : mg "bool" = none
  b_int : mg "int" = none
  b_isinstance : mg "isinstance" = none
  b_len : mg "len" = none
  b_list : mg "list" = none
  b_max : mg "max" = none
  b_range : mg "range" = none
  b_sum : mg "sum" = none
section
variable {P : Program} {w : World} {K : PySem.W.Frag} {mg : Str → Option Value} {base : Heap}
theorem sc_fed_until : FnScope N_fed_until ["loads", "capacity", "start"] (defScope s_fed_until) := ⟨rfl, rfl, rfl, by decide +kernel, rfl, by decide +kernel, by decide +kernel⟩
theorem ok_fed_until (T : Txt K mg) : FnOk P w K mg base (L2.CX P w) 1 T.f_fed_until T.d_fed_until ["loads", "capacity", "start"] (spV K mg 3 m_fed_until) := by
  refine fn_frz (g := runB 5 g_fed_until) ?_
  refine fn_vl T.F_fed_until sc_fed_until rfl fun cdv A outer s H E hr => ?_
  have nd := sc_fed_until.nd
  have tk := takes_of (X := cxOf (L2.CX P w) P w K mg base N_fed_until "fed_until" (defScope s_fed_until) T.f_fed_until cdv A outer s H E) rfl rfl rfl rfl
  have hp := passes_of (X := cxOf (L2.CX P w) P w K mg base N_fed_until "fed_until" (defScope s_fed_until) T.f_fed_until cdv A outer s H E) rfl
  exact (qs_cons (vs_set 3 nd (vo_x (vxF vint)))
      (qs_cons (vs_forK hp rfl (vix_range2 T.b_range (vxF (vv 2)) (vxF (vlen_ T.b_len (VAn.va (van_cons (vv 0) van_nil))))) (vg 4 nd) (rs_kill _ [2]) (envT_kill _ [4])
      (qs_cons (vs_aug ip_add 3 nd (vxF (vidx_ (vv 0) (vv 4))))
      (vss_one (vs_if (qx_T (qgt (vv 3) (vv 1)))
      (vss_one (vs_ret (vo_x (vxF (vv 4)))))
      (qs_t (envT_kill _ [2, 4]) qs_nil)))))
      (qs_t (envT_kill _ [1, 3]) (vss_one (vs_ret (vo_x (vxF (vlen_ T.b_len (VAn.va (van_cons (vv 0) van_nil))))))))))
theorem sc_judge_labels_from : FnScope N_judge_labels_from ["loads", "capacity", "labels", "start"] (defScope s_judge_labels_from) := ⟨rfl, rfl, rfl, by decide +kernel, rfl, by decide +kernel, by decide +kernel⟩
theorem ok_judge_labels_from (T : Txt K mg) : FnOk P w K mg base (L2.CX P w) 2 T.f_judge_labels_from T.d_judge_labels_from ["loads", "capacity", "labels", "start"] (spV K mg 4 m_judge_labels_from) := by
  refine fn_frz (g := runB 6 g_judge_labels_from) ?_
  refine fn_vl T.F_judge_labels_from sc_judge_labels_from rfl fun cdv A outer s H E hr => ?_
  have nd := sc_judge_labels_from.nd
  have tk := takes_of (X := cxOf (L2.CX P w) P w K mg base N_judge_labels_from "judge_labels_from" (defScope s_judge_labels_from) T.f_judge_labels_from cdv A outer s H E) rfl rfl rfl rfl
  have hp := passes_of (X := cxOf (L2.CX P w) P w K mg base N_judge_labels_from "judge_labels_from" (defScope s_judge_labels_from) T.f_judge_labels_from cdv A outer s H E) rfl
  exact (qs_cons (vs_set 4 nd (vo_x (vxF (vcall (ok_fed_until T) (hr.mono (by decide)) T.g_fed_until T.F_fed_until.kp T.B_fed_until tk (van_cons (vv 0) (van_cons (vv 1) (van_cons (vv 3) van_nil)))))))
      (vss_one (vs_ret (vo_x (vxF (vall_ rfl T.b_all (VAn.va (van_cons (VFr.ve (qcomp rfl nd (vi_range2 T.b_range (vadd_ (vv 3) vint) (vadd_ (vv 4) vint)) (blkOk_by (own := [("at", 5)]) (N := N_judge_labels_from) (sc := defScope s_judge_labels_from) (by decide +kernel)) rfl (fun _ _ _ _ _ => (vg 5 nd)) (by decide) (fun _ _ _ _ _ => vts_nil) (fun _ _ _ _ _ => (vle_ (vidx_ (vv 2) (vv 5)) (vadd_ (vidx_ (vv 2) (vv 3)) vint))))) van_nil))))))))
theorem sc_judge_booster_labels : FnScope N_judge_booster_labels ["loads", "capacity", "labels"] (defScope s_judge_booster_labels) := ⟨rfl, rfl, rfl, by decide +kernel, rfl, by decide +kernel, by decide +kernel⟩
theorem ok_judge_booster_labels (T : Txt K mg) : FnOk P w K mg base (L2.CX P w) 3 T.f_judge_booster_labels T.d_judge_booster_labels ["loads", "capacity", "labels"] (spV K mg 3 m_judge_booster_labels) := by
  refine fn_frz (g := runB 4 g_judge_booster_labels) ?_
  refine fn_vl T.F_judge_booster_labels sc_judge_booster_labels rfl fun cdv A outer s H E hr => ?_
  have nd := sc_judge_booster_labels.nd
  have tk := takes_of (X := cxOf (L2.CX P w) P w K mg base N_judge_booster_labels "judge_booster_labels" (defScope s_judge_booster_labels) T.f_judge_booster_labels cdv A outer s H E) rfl rfl rfl rfl
  have hp := passes_of (X := cxOf (L2.CX P w) P w K mg base N_judge_booster_labels "judge_booster_labels" (defScope s_judge_booster_labels) T.f_judge_booster_labels cdv A outer s H E) rfl
  exact (qs_cons (vs_if (qx_T (VW.vt (vw_or (qne hr (vlen_ T.b_len (VAn.va (van_cons (vv 2) van_nil))) (vadd_ (vlen_ T.b_len (VAn.va (van_cons (vv 0) van_nil))) vint)) (vw_or1 (qne hr (vidx_ (vv 2) vint) vint)))))
      (vss_one (vs_ret (vo_x (vxF vbool))))
      qs_nil)
      (vss_one (vs_ret (vo_x (vxF (vall_ rfl T.b_all (VAn.va (van_cons (VFr.ve (qcomp rfl nd (vi_range1 T.b_range (vlen_ T.b_len (VAn.va (van_cons (vv 0) van_nil)))) (blkOk_by (own := [("start", 3)]) (N := N_judge_booster_labels) (sc := defScope s_judge_booster_labels) (by decide +kernel)) rfl (fun _ _ _ _ _ => (vg 3 nd)) (by decide) (fun _ _ _ _ _ => vts_nil) (fun _ _ _ _ _ => (vcall (ok_judge_labels_from T) (hr.mono (by decide)) T.g_judge_labels_from T.F_judge_labels_from.kp T.B_judge_labels_from VL.takes0 (van_cons (vv 0) (van_cons (vv 1) (van_cons (vv 2) (van_cons (vv 3) van_nil)))))))) van_nil))))))))
theorem sc_judge_sizes : FnScope N_judge_sizes ["loads", "capacity", "sizes"] (defScope s_judge_sizes) := ⟨rfl, rfl, rfl, by decide +kernel, rfl, by decide +kernel, by decide +kernel⟩
theorem ok_judge_sizes (T : Txt K mg) : FnOk P w K mg base (L2.CX P w) 1 T.f_judge_sizes T.d_judge_sizes ["loads", "capacity", "sizes"] (spV K mg 3 m_judge_sizes) := by
  refine fn_frz (g := runB 5 g_judge_sizes) ?_
  refine fn_vl T.F_judge_sizes sc_judge_sizes rfl fun cdv A outer s H E hr => ?_
  have nd := sc_judge_sizes.nd
  have tk := takes_of (X := cxOf (L2.CX P w) P w K mg base N_judge_sizes "judge_sizes" (defScope s_judge_sizes) T.f_judge_sizes cdv A outer s H E) rfl rfl rfl rfl
  have hp := passes_of (X := cxOf (L2.CX P w) P w K mg base N_judge_sizes "judge_sizes" (defScope s_judge_sizes) T.f_judge_sizes cdv A outer s H E) rfl
  exact (qs_cons (vs_set 3 nd (vo_x (vxF vint)))
      (qs_cons (vs_forK hp rfl (qix_F (vi_seq (vv 2))) (vg 4 nd) (rs_kill _ [2]) (envT_kill _ [4])
      (qs_cons (vs_if (qx_T (VW.vt (vw_or (qlt (vv 4) vint) (vw_or (qgt (vadd_ (vv 3) (vv 4)) (vlen_ T.b_len (VAn.va (van_cons (vv 0) van_nil)))) (vw_or1 (qgt (vsum_ rfl T.b_sum (VAn.va (van_cons (vslice_ (vv 0) (qo_some (vv 3)) (qo_some (vadd_ (vv 3) (vv 4)))) van_nil))) (vv 1)))))))
      (vss_one (vs_ret (vo_x (vxF vbool))))
      (qs_t (envT_kill _ [2]) qs_nil))
      (vss_one (vs_aug ip_add 3 nd (vxF (vv 4))))))
      (qs_t (envT_kill _ [1, 4]) (vss_one (vs_ret (vo_x (vxF (veq_ hr (vv 3) (vlen_ T.b_len (VAn.va (van_cons (vv 0) van_nil)))))))))))
theorem sc_judge_boosters : FnScope N_judge_boosters ["loads", "capacity", "paper"] (defScope s_judge_boosters) := ⟨rfl, rfl, rfl, by decide +kernel, rfl, by decide +kernel, by decide +kernel⟩
theorem ok_judge_boosters (T : Txt K mg) : FnOk P w K mg base (L2.CX P w) 4 T.f_judge_boosters T.d_judge_boosters ["loads", "capacity", "paper"] (spV K mg 3 m_judge_boosters) := by
  refine fn_frz (g := runB 6 g_judge_boosters) ?_
  refine fn_vl T.F_judge_boosters sc_judge_boosters rfl fun cdv A outer s H E hr => ?_
  have nd := sc_judge_boosters.nd
  have tk := takes_of (X := cxOf (L2.CX P w) P w K mg base N_judge_boosters "judge_boosters" (defScope s_judge_boosters) T.f_judge_boosters cdv A outer s H E) rfl rfl rfl rfl
  have hp := passes_of (X := cxOf (L2.CX P w) P w K mg base N_judge_boosters "judge_boosters" (defScope s_judge_boosters) T.f_judge_boosters cdv A outer s H E) rfl
  exact (qs_cons (vs_tup (vg_tup rfl (vgs_cons (vg 3 nd) (vgs_cons (vg 4 nd) (vgs_cons (vg 5 nd) vgs_nil)))) (vxF (vv 2)))
      (qs_cons (vs_if (qx_T (vt_not (qtruth (vcall (ok_judge_booster_labels T) (hr.mono (by decide)) T.g_judge_booster_labels T.F_judge_booster_labels.kp T.B_judge_booster_labels tk (van_cons (vv 0) (van_cons (vv 1) (van_cons (vv 5) van_nil)))))))
      (vss_one (vs_ret (vo_x (vxF vbool))))
      (qs_t (envT_kill _ [2]) qs_nil))
      (vss_one (vs_ret (vo_x (vxF (vand_ (vle_ (vv 3) (vidx_ (vv 5) (vneg_ vint))) (vand_ (veq_ hr (vlen_ T.b_len (VAn.va (van_cons (vv 4) van_nil))) (vv 3)) (vone (vcall (ok_judge_sizes T) (hr.mono (by decide)) T.g_judge_sizes T.F_judge_sizes.kp T.B_judge_sizes tk (van_cons (vv 0) (van_cons (vv 1) (van_cons (vv 4) van_nil)))))))))))))
theorem sc_law_cell : FnScope N_law_cell ["script", "k"] (defScope s_law_cell) := ⟨rfl, rfl, rfl, by decide +kernel, rfl, by decide +kernel, by decide +kernel⟩
theorem ok_law_cell (T : Txt K mg) : FnOk P w K mg base (L2.CX P w) 1 T.f__law_cell T.d__law_cell ["script", "k"] (spV K mg 2 m_law_cell) := by
  refine fn_frz (g := runB 2 g_law_cell) ?_
  refine fn_vl T.F__law_cell sc_law_cell rfl fun cdv A outer s H E hr => ?_
  have nd := sc_law_cell.nd
  have tk := takes_of (X := cxOf (L2.CX P w) P w K mg base N_law_cell "_law_cell" (defScope s_law_cell) T.f__law_cell cdv A outer s H E) rfl rfl rfl rfl
  have hp := passes_of (X := cxOf (L2.CX P w) P w K mg base N_law_cell "_law_cell" (defScope s_law_cell) T.f__law_cell cdv A outer s H E) rfl
  exact (qs_cons (vs_if (qx_T (qlt (vv 1) (vlen_ T.b_len (VAn.va (van_cons (vv 0) van_nil)))))
      (vss_one (vs_ret (vo_x (vxF (vint_ T.b_int (VAn.va (van_cons (vidx_ (vv 0) (vv 1)) van_nil)))))))
      (qs_t (envT_kill _ [0, 1]) qs_nil))
      (vss_one (vs_ret (vo_x (vxF vint)))))
theorem sc_law_numbers : FnScope N_law_numbers ["cell", "count", "limit"] (defScope s_law_numbers) := ⟨rfl, rfl, rfl, by decide +kernel, rfl, by decide +kernel, by decide +kernel⟩
theorem ok_law_numbers (T : Txt K mg) : FnOk P w K mg base (L2.CX P w) 1 T.f__law_numbers T.d__law_numbers ["cell", "count", "limit"] (spV K mg 3 m_law_numbers) := by
  refine fn_frz (g := runB 6 g_law_numbers) ?_
  refine fn_vl T.F__law_numbers sc_law_numbers rfl fun cdv A outer s H E hr => ?_
  have nd := sc_law_numbers.nd
  have tk := takes_of (X := cxOf (L2.CX P w) P w K mg base N_law_numbers "_law_numbers" (defScope s_law_numbers) T.f__law_numbers cdv A outer s H E) rfl rfl rfl rfl
  have hp := passes_of (X := cxOf (L2.CX P w) P w K mg base N_law_numbers "_law_numbers" (defScope s_law_numbers) T.f__law_numbers cdv A outer s H E) rfl
  exact (qs_cons (vs_set 3 nd (vo_frF (vlst_f van_nil)))
      (qs_cons (vs_if (qx_T (qge (vv 0) (vpow_ vint vint)))
      (qs_cons (vs_forK hp rfl (vix_range1 T.b_range (vxF (vv 1))) (vg 4 nd) (rs_kill _ [1]) (envT_kill _ [4])
      (qs_cons (vs_app 3 (fun p => pe_bm PySem.F.plainAttrs_list PySem.F.slot_list_append PySem.F.type_list_append mt_append (pv 3) (pa_cons p pa_nil)) (vo_x (vxF (vmod_ (vint_ T.b_int (VAn.va (van_cons (vv 0) van_nil))) (vv 2)))))
      (vss_one (vs_set 0 nd (vo_x (vxF (vfdiv_ (vint_ T.b_int (VAn.va (van_cons (vv 0) van_nil))) (vv 2))))))))
      (qs_t (envT_kill _ [0, 2, 4]) (qs_t (envT_freeze _ [3]) (vss_one (vs_ret (vo_x (vxF (vv 3))))))))
      qs_nil)
      (qs_cons (vs_forK hp rfl (vix_range1 T.b_range (vxF (vv 1))) (vg 4 nd) (rs_kill _ [1]) (envT_kill _ [4, 5])
      (qs_cons (vs_set 5 nd (vo_x (vxF (vmod_ (vint_ T.b_int (VAn.va (van_cons (vadd_ (vadd_ (vmul_ (vv 0) vint) (vmul_ (vv 4) vint)) vint) van_nil))) vint))))
      (qs_cons (vs_set 5 nd (vo_x (vxF (vmod_ (vint_ T.b_int (VAn.va (van_cons (vadd_ (vadd_ (vadd_ (vmul_ (vv 5) (vv 5)) (vmul_ (vv 5) vint)) (vmul_ (vv 4) vint)) vint) van_nil))) vint))))
      (vss_one (vs_app 3 (fun p => pe_bm PySem.F.plainAttrs_list PySem.F.slot_list_append PySem.F.type_list_append mt_append (pv 3) (pa_cons p pa_nil)) (vo_x (vxF (vmod_ (vint_ T.b_int (VAn.va (van_cons (vfdiv_ (vv 5) vint) van_nil))) (vv 2)))))))))
      (qs_t (envT_kill _ [0, 2, 4, 5]) (qs_t (envT_freeze _ [3]) (vss_one (vs_ret (vo_x (vxF (vv 3))))))))))
theorem sc_law_loads : FnScope N_law_loads ["script", "at"] (defScope s_law_loads) := ⟨rfl, rfl, rfl, by decide +kernel, rfl, by decide +kernel, by decide +kernel⟩
theorem ok_law_loads (T : Txt K mg) : FnOk P w K mg base (L2.CX P w) 2 T.f__law_loads T.d__law_loads ["script", "at"] (spV K mg 2 m_law_loads) := by
  refine fn_frz (g := runB 9 g_law_loads) ?_
  refine fn_vl T.F__law_loads sc_law_loads rfl fun cdv A outer s H E hr => ?_
  have nd := sc_law_loads.nd
  have tk := takes_of (X := cxOf (L2.CX P w) P w K mg base N_law_loads "_law_loads" (defScope s_law_loads) T.f__law_loads cdv A outer s H E) rfl rfl rfl rfl
  have hp := passes_of (X := cxOf (L2.CX P w) P w K mg base N_law_loads "_law_loads" (defScope s_law_loads) T.f__law_loads cdv A outer s H E) rfl
  exact (qs_cons (vs_set 2 nd (vo_x (vxF (vcall (ok_law_cell T) (hr.mono (by decide)) T.g__law_cell T.F__law_cell.kp T.B__law_cell tk (van_cons (vv 0) (van_cons (vv 1) van_nil))))))
      (qs_cons (vs_set 3 nd (vo_x (vxF (vcall (ok_law_numbers T) (hr.mono (by decide)) T.g__law_numbers T.F__law_numbers.kp T.B__law_numbers tk (van_cons (vv 2) (van_cons vint (van_cons vint van_nil)))))))
      (qs_cons (vs_set 4 nd (vo_x (vxF (vmod_ (vidx_ (vv 3) vint) vint))))
      (qs_cons (vs_set 5 nd (vo_x (vxF (vcall (ok_law_numbers T) (hr.mono (by decide)) T.g__law_numbers T.F__law_numbers.kp T.B__law_numbers tk (van_cons (vcall (ok_law_cell T) (hr.mono (by decide)) T.g__law_cell T.F__law_cell.kp T.B__law_cell tk (van_cons (vv 0) (van_cons (vadd_ (vv 1) vint) van_nil))) (van_cons (vv 4) (van_cons vint van_nil)))))))
      (qs_cons (vs_set 6 nd (vo_frF (vlst_f van_nil)))
      (qs_t (envT_kill _ [0, 1]) (qs_cons (vs_forK hp rfl (vix_range1 T.b_range (vxF (vv 4))) (vg 7 nd) (rs_kill _ [4]) (envT_kill _ [7])
      (vss_one (vs_app 6 (fun p => pe_bm PySem.F.plainAttrs_list PySem.F.slot_list_append PySem.F.type_list_append mt_append (pv 6) (pa_cons p pa_nil)) (vo_x (vxF (vidx_ (VFr.ve (vlst_f (van_cons (vmod_ (vidx_ (vv 5) (vv 7)) vint) (van_cons (vmod_ (vfdiv_ (vidx_ (vv 5) (vv 7)) vint) vint) (van_cons (vidx_ (vv 5) (vv 7)) (van_cons (vmod_ (vfdiv_ (vint_ T.b_int (VAn.va (van_cons (vv 2) van_nil))) (vadd_ (vv 7) vint)) (vpow_ vint vint)) van_nil)))))) (vmod_ (vidx_ (vv 3) vint) vint)))))))
      (qs_t (envT_kill _ [2, 5, 7]) (qs_t (envT_freeze _ [6]) (qs_cons (vs_set 8 nd (vo_x (vxF (vmax_ rfl T.b_max (VAn.va (van_cons (vadd_ (VFr.ve (vlst_f (van_cons vint van_nil))) (vv 6)) van_nil))))))
      (vss_one (vs_ret (vo_x (vxF (vtup_ (van_cons (vv 6) (van_cons (vidx_ (VFr.ve (vlst_f (van_cons (vv 8) (van_cons (vadd_ (vv 8) (vmod_ (vidx_ (vv 3) vint) vint)) (van_cons (vadd_ (vmul_ vint (vv 8)) (vmod_ (vidx_ (vv 3) vint) vint)) (van_cons (vmul_ vint (vv 8)) van_nil)))))) (vmod_ (vidx_ (vv 3) vint) vint)) van_nil)))))))))))))))))
theorem sc_law_paper : FnScope N_law_paper ["loads", "capacity"] (defScope s_law_paper) := ⟨rfl, rfl, rfl, by decide +kernel, rfl, by decide +kernel, by decide +kernel⟩
theorem ok_law_paper (T : Txt K mg) : FnOk P w K mg base (L2.CX P w) 1 T.f__law_paper T.d__law_paper ["loads", "capacity"] (spV K mg 2 m_law_paper) := by
  refine fn_frz (g := runB 6 g_law_paper) ?_
  refine fn_vl T.F__law_paper sc_law_paper rfl fun cdv A outer s H E hr => ?_
  have nd := sc_law_paper.nd
  have tk := takes_of (X := cxOf (L2.CX P w) P w K mg base N_law_paper "_law_paper" (defScope s_law_paper) T.f__law_paper cdv A outer s H E) rfl rfl rfl rfl
  have hp := passes_of (X := cxOf (L2.CX P w) P w K mg base N_law_paper "_law_paper" (defScope s_law_paper) T.f__law_paper cdv A outer s H E) rfl
  exact (qs_cons (vs_set 2 nd (vo_frF (vlst_f van_nil)))
      (qs_cons (vs_set 3 nd (vo_frF (vlst_f (van_cons vint van_nil))))
      (qs_cons (vs_set 4 nd (vo_x (vxF vint)))
      (qs_cons (vs_forK hp rfl (qix_F (vi_seq (vv 0))) (vg 5 nd) (rs_kill _ [0]) (envT_kill _ [5])
      (qs_cons (vs_if (qx_T (VW.vt (vw_or (qeq hr (vlen_ T.b_len (VAn.va (van_cons (vv 2) van_nil))) vint) (vw_or1 (qgt (vadd_ (vv 4) (vv 5)) (vv 1))))))
      (qs_cons (vs_app 2 (fun p => pe_bm PySem.F.plainAttrs_list PySem.F.slot_list_append PySem.F.type_list_append mt_append (pv 2) (pa_cons p pa_nil)) (vo_x (vxF vint)))
      (qs_cons (vs_set 4 nd (vo_x (vxF vint)))
      (qs_t (envT_kill _ [0]) qs_nil)))
      (qs_t (envT_kill _ [0]) qs_nil))
      (qs_cons (vs_setI 2 (fun p q => ps_asg p (pg_sub (pv 2) q set_list)) (vxB (vsub_ (vlen_ T.b_len (VAn.va (van_cons (vv 2) van_nil))) vint)) (vo_x (vxB (vadd_ (vidx_ (vv 2) (vsub_ (vlen_ T.b_len (VAn.va (van_cons (vv 2) van_nil))) vint)) vint))))
      (qs_cons (vs_set 4 nd (vo_x (vxF (vadd_ (vv 4) (vv 5)))))
      (vss_one (vs_app 3 (fun p => pe_bm PySem.F.plainAttrs_list PySem.F.slot_list_append PySem.F.type_list_append mt_append (pv 3) (pa_cons p pa_nil)) (vo_x (vxB (vlen_ T.b_len (VAn.va (van_cons (vv 2) van_nil)))))))))))
      (qs_t (envT_kill _ [1, 4, 5]) (qs_t (envT_freeze _ [2, 3]) (vss_one (vs_ret (vo_x (vxF (vtup_ (van_cons (vlen_ T.b_len (VAn.va (van_cons (vv 2) van_nil))) (van_cons (vv 2) (van_cons (vv 3) van_nil))))))))))))))
theorem sc_law_accepted : FnScope N_law_accepted ["loads", "capacity", "paper"] (defScope s_law_accepted) := ⟨rfl, rfl, rfl, by decide +kernel, rfl, by decide +kernel, by decide +kernel⟩
theorem ok_law_accepted (T : Txt K mg) : FnOk P w K mg base (L2.CX P w) 1 T.f__law_accepted T.d__law_accepted ["loads", "capacity", "paper"] (spV K mg 3 m_law_accepted) := by
  refine fn_frz (g := runB 10 g_law_accepted) ?_
  refine fn_vl T.F__law_accepted sc_law_accepted rfl fun cdv A outer s H E hr => ?_
  have nd := sc_law_accepted.nd
  have tk := takes_of (X := cxOf (L2.CX P w) P w K mg base N_law_accepted "_law_accepted" (defScope s_law_accepted) T.f__law_accepted cdv A outer s H E) rfl rfl rfl rfl
  have hp := passes_of (X := cxOf (L2.CX P w) P w K mg base N_law_accepted "_law_accepted" (defScope s_law_accepted) T.f__law_accepted cdv A outer s H E) rfl
  exact (qs_cons (vs_tup (vg_tup rfl (vgs_cons (vg 3 nd) (vgs_cons (vg 4 nd) (vgs_cons (vg 5 nd) vgs_nil)))) (vxF (vv 2)))
      (qs_cons (vs_if (qx_T (VW.vt (vw_or (qne hr (vlen_ T.b_len (VAn.va (van_cons (vv 5) van_nil))) (vadd_ (vlen_ T.b_len (VAn.va (van_cons (vv 0) van_nil))) vint)) (vw_or (qne hr (vidx_ (vv 5) vint) vint) (vw_or (qgt (vv 3) (vidx_ (vv 5) (vlen_ T.b_len (VAn.va (van_cons (vv 0) van_nil))))) (vw_or1 (qne hr (vlen_ T.b_len (VAn.va (van_cons (vv 4) van_nil))) (vv 3))))))))
      (vss_one (vs_ret (vo_x (vxF vbool))))
      (qs_t (envT_kill _ [2, 3]) qs_nil))
      (qs_cons (vs_for hp rfl (vix_range1 T.b_range (vxF (vlen_ T.b_len (VAn.va (van_cons (vv 0) van_nil))))) (vg 6 nd) (envT_kill _ [6, 7])
      (vss_one (vs_for hp rfl (vix_range2 T.b_range (vxF (vadd_ (vv 6) vint)) (vxF (vadd_ (vlen_ T.b_len (VAn.va (van_cons (vv 0) van_nil))) vint))) (vg 7 nd) (envT_kill _ [7])
      (vss_one (vs_if (qx_T (VW.vt (vw_and (qle (vsum_ rfl T.b_sum (VAn.va (van_cons (vslice_ (vv 0) (qo_some (vv 6)) (qo_some (vv 7))) van_nil))) (vv 1)) (vw_and1 (qgt (vidx_ (vv 5) (vv 7)) (vadd_ (vidx_ (vv 5) (vv 6)) vint))))))
      (vss_one (vs_ret (vo_x (vxF vbool))))
      (qs_t (envT_kill _ [7]) qs_nil))))))
      (qs_t (envT_kill _ [5, 6]) (qs_cons (vs_set 8 nd (vo_x (vxF vint)))
      (qs_cons (vs_forK hp rfl (qix_F (vi_seq (vv 4))) (vg 9 nd) (rs_kill _ [4]) (envT_kill _ [9])
      (qs_cons (vs_if (qx_T (VW.vt (vw_or (qlt (vv 9) vint) (vw_or1 (qgt (vsum_ rfl T.b_sum (VAn.va (van_cons (vslice_ (vv 0) (qo_some (vv 8)) (qo_some (vadd_ (vv 8) (vv 9)))) van_nil))) (vv 1))))))
      (vss_one (vs_ret (vo_x (vxF vbool))))
      (qs_t (envT_kill _ [4]) qs_nil))
      (vss_one (vs_set 8 nd (vo_x (vxF (vadd_ (vv 8) (vv 9))))))))
      (qs_t (envT_kill _ [1, 9]) (vss_one (vs_ret (vo_x (vxF (veq_ hr (vv 8) (vlen_ T.b_len (VAn.va (van_cons (vv 0) van_nil)))))))))))))))
theorem sc_law_other_sizes : FnScope N_law_other_sizes ["sizes", "draws"] (defScope s_law_other_sizes) := ⟨rfl, rfl, rfl, by decide +kernel, rfl, by decide +kernel, by decide +kernel⟩
theorem ok_law_other_sizes (T : Txt K mg) : FnOk P w K mg base (L2.CX P w) 1 T.f__law_other_sizes T.d__law_other_sizes ["sizes", "draws"] (spV K mg 2 m_law_other_sizes) := by
  refine fn_frz (g := runB 8 g_law_other_sizes) ?_
  refine fn_vl T.F__law_other_sizes sc_law_other_sizes rfl fun cdv A outer s H E hr => ?_
  have nd := sc_law_other_sizes.nd
  have tk := takes_of (X := cxOf (L2.CX P w) P w K mg base N_law_other_sizes "_law_other_sizes" (defScope s_law_other_sizes) T.f__law_other_sizes cdv A outer s H E) rfl rfl rfl rfl
  have hp := passes_of (X := cxOf (L2.CX P w) P w K mg base N_law_other_sizes "_law_other_sizes" (defScope s_law_other_sizes) T.f__law_other_sizes cdv A outer s H E) rfl
  exact (qs_cons (vs_set 2 nd (vo_x (vxF (VFr.ve (vlst_f (van_cons (vv 0) (van_cons (VFr.ve (vlst_f van_nil)) (van_cons (vadd_ (vv 0) (VFr.ve (vlst_f (van_cons vint van_nil)))) (van_cons (vadd_ (vv 0) (VFr.ve (vlst_f (van_cons vint van_nil)))) (van_cons (vadd_ (VFr.ve (vlst_f (van_cons vint van_nil))) (vv 0)) (van_cons (vadd_ (vv 0) (VFr.ve (vlst_f (van_cons (vneg_ vint) (van_cons vint van_nil))))) (van_cons (VFr.ve (vlst_f (van_cons (vsum_ rfl T.b_sum (VAn.va (van_cons (vv 0) van_nil))) van_nil))) van_nil))))))))))))
      (qs_cons (vs_if (qx_T (qgt (vlen_ T.b_len (VAn.va (van_cons (vv 0) van_nil))) vint))
      (qs_cons (vs_set 3 nd (vo_x (vxF (vmod_ (vidx_ (vv 1) vint) (vlen_ T.b_len (VAn.va (van_cons (vv 0) van_nil)))))))
      (qs_cons (vs_set 2 nd (vo_frF (vcat_f (vv 2) (VFr.ve (vlst_f (van_cons (vadd_ (vslice_ (vv 0) (qo_some vint) (qo_some (vv 3))) (vslice_ (vv 0) (qo_some (vadd_ (vv 3) vint)) qo_none)) (van_cons (vadd_ (vadd_ (vslice_ (vv 0) (qo_some vint) (qo_some (vv 3))) (VFr.ve (vlst_f (van_cons (vadd_ (vidx_ (vv 0) (vv 3)) vint) van_nil)))) (vslice_ (vv 0) (qo_some (vadd_ (vv 3) vint)) qo_none)) (van_cons (vadd_ (vadd_ (vslice_ (vv 0) (qo_some vint) (qo_some (vv 3))) (VFr.ve (vlst_f (van_cons vint van_nil)))) (vslice_ (vv 0) (qo_some (vv 3)) qo_none)) van_nil))))))))
      (qs_cons (vs_app 2 (fun p => pe_bm PySem.F.plainAttrs_list PySem.F.slot_list_append PySem.F.type_list_append mt_append (pv 2) (pa_cons p pa_nil)) (vo_x (vxF (vadd_ (vadd_ (vslice_ (vv 0) (qo_some vint) (qo_some (vv 3))) (VFr.ve (vlst_f (van_cons vint (van_cons (vsub_ (vidx_ (vv 0) (vv 3)) vint) van_nil))))) (vslice_ (vv 0) (qo_some (vadd_ (vv 3) vint)) qo_none)))))
      (vss_one (vs_if (qx_T (qgt (vlen_ T.b_len (VAn.va (van_cons (vv 0) van_nil))) vint))
      (qs_cons (vs_set 4 nd (vo_x (vxF (vmod_ (vidx_ (vv 1) vint) (vsub_ (vlen_ T.b_len (VAn.va (van_cons (vv 0) van_nil))) vint)))))
      (qs_cons (vs_tup (vg_tup rfl (vgs_cons (vg 5 nd) (vgs_cons (vg 6 nd) vgs_nil))) (vxF (vslice_ (vv 0) (qo_some (vv 4)) (qo_some (vadd_ (vv 4) vint)))))
      (qs_t (envT_kill _ [1, 3]) (qs_cons (vs_forK hp rfl (qix_F (vi_seq (VFr.ve (vlst_f (van_cons (VFr.ve (vlst_f (van_cons (vsub_ (vv 5) vint) (van_cons (vadd_ (vv 6) vint) van_nil)))) (van_cons (VFr.ve (vlst_f (van_cons (vadd_ (vv 5) vint) (van_cons (vsub_ (vv 6) vint) van_nil)))) (van_cons (VFr.ve (vlst_f (van_cons (vadd_ (vv 5) (vv 6)) van_nil))) van_nil))))))) (vg 7 nd) (rs_kill _ [5, 6]) (envT_kill _ [7])
      (vss_one (vs_app 2 (fun p => pe_bm PySem.F.plainAttrs_list PySem.F.slot_list_append PySem.F.type_list_append mt_append (pv 2) (pa_cons p pa_nil)) (vo_x (vxF (vadd_ (vadd_ (vslice_ (vv 0) (qo_some vint) (qo_some (vv 4))) (vv 7)) (vslice_ (vv 0) (qo_some (vadd_ (vv 4) vint)) qo_none)))))))
      (qs_t (envT_freeze _ [2]) (qs_t (envT_kill _ [0, 4, 7]) qs_nil))))))
      (qs_t (envT_freeze _ [2]) (qs_t (envT_kill _ [0, 1, 3]) qs_nil)))))))
      (qs_t (envT_kill _ [0, 1]) qs_nil))
      (vss_one (vs_ret (vo_x (vxF (vv 2)))))))
theorem sc_law_other_labels : FnScope N_law_other_labels ["labels", "draws"] (defScope s_law_other_labels) := ⟨rfl, rfl, rfl, by decide +kernel, rfl, by decide +kernel, by decide +kernel⟩
theorem ok_law_other_labels (T : Txt K mg) : FnOk P w K mg base (L2.CX P w) 1 T.f__law_other_labels T.d__law_other_labels ["labels", "draws"] (spV K mg 2 m_law_other_labels) := by
  refine fn_frz (g := runB 8 g_law_other_labels) ?_
  refine fn_vl T.F__law_other_labels sc_law_other_labels rfl fun cdv A outer s H E hr => ?_
  have nd := sc_law_other_labels.nd
  have tk := takes_of (X := cxOf (L2.CX P w) P w K mg base N_law_other_labels "_law_other_labels" (defScope s_law_other_labels) T.f__law_other_labels cdv A outer s H E) rfl rfl rfl rfl
  have hp := passes_of (X := cxOf (L2.CX P w) P w K mg base N_law_other_labels "_law_other_labels" (defScope s_law_other_labels) T.f__law_other_labels cdv A outer s H E) rfl
  exact (qs_cons (vs_set 2 nd (vo_x (vxF (vmod_ (vidx_ (vv 1) vint) (vlen_ T.b_len (VAn.va (van_cons (vv 0) van_nil)))))))
      (qs_cons (vs_set 3 nd (vo_x (vxF (vsub_ (vlen_ T.b_len (VAn.va (van_cons (vv 0) van_nil))) vint))))
      (qs_cons (vs_set 4 nd (vo_frF (vlst_f (van_cons (vv 0) (van_cons (vslice_ (vv 0) (qo_some vint) (qo_some (vv 3))) (van_cons (vadd_ (vv 0) (VFr.ve (vlst_f (van_cons (vidx_ (vv 0) (vv 3)) van_nil)))) (van_cons (VFr.ve (qcomp rfl nd (vi_seq (vv 0)) (blkOk_by (own := [("label", 7)]) (N := N_law_other_labels) (sc := defScope s_law_other_labels) (by decide +kernel)) rfl (fun _ _ _ _ _ => (vg 7 nd)) (by decide) (fun _ _ _ _ _ => vts_nil) (fun _ _ _ _ _ => (vsub_ (vv 7) vint)))) (van_cons (VFr.ve (qcomp rfl nd (vi_seq (vv 0)) (blkOk_by (own := [("label", 7)]) (N := N_law_other_labels) (sc := defScope s_law_other_labels) (by decide +kernel)) rfl (fun _ _ _ _ _ => (vg 7 nd)) (by decide) (fun _ _ _ _ _ => vts_nil) (fun _ _ _ _ _ => vint))) (van_cons (vadd_ (vslice_ (vv 0) (qo_some vint) qo_none) (VFr.ve (vlst_f (van_cons (vidx_ (vv 0) (vv 3)) van_nil)))) van_nil)))))))))
      (qs_cons (vs_forK hp rfl (qix_F (vi_seq (VFr.ve (vlst_f (van_cons (vv 2) (van_cons (vv 3) (van_cons vint van_nil))))))) (vg 5 nd) (rs_kill _ [3]) (envT_kill _ [5, 6])
      (qs_t (envT_kill _ [3]) (vss_one (vs_for hp rfl (qix_F (vi_seq (VFr.ve (vlst_f (van_cons vint (van_cons (vneg_ vint) (van_cons (vadd_ vint (vidx_ (vv 1) vint)) van_nil))))))) (vg 6 nd) (envT_kill _ [6])
      (vss_one (vs_app 4 (fun p => pe_bm PySem.F.plainAttrs_list PySem.F.slot_list_append PySem.F.type_list_append mt_append (pv 4) (pa_cons p pa_nil)) (vo_x (vxF (vadd_ (vadd_ (vslice_ (vv 0) (qo_some vint) (qo_some (vv 5))) (VFr.ve (vlst_f (van_cons (vadd_ (vidx_ (vv 0) (vv 5)) (vv 6)) van_nil)))) (vslice_ (vv 0) (qo_some (vadd_ (vv 5) vint)) qo_none))))))))))
      (qs_t (envT_kill _ [1, 5, 6]) (qs_cons (vs_app 4 (fun p => pe_bm PySem.F.plainAttrs_list PySem.F.slot_list_append PySem.F.type_list_append mt_append (pv 4) (pa_cons p pa_nil)) (vo_x (vxF (vadd_ (vslice_ (vv 0) (qo_some vint) (qo_some (vv 2))) (VFr.ve (qcomp rfl nd (vi_seq (vslice_ (vv 0) (qo_some (vv 2)) qo_none)) (blkOk_by (own := [("label", 7)]) (N := N_law_other_labels) (sc := defScope s_law_other_labels) (by decide +kernel)) rfl (fun _ _ _ _ _ => (vg 7 nd)) (by decide) (fun _ _ _ _ _ => vts_nil) (fun _ _ _ _ _ => (vadd_ (vv 7) vint))))))))
      (qs_cons (vs_app 4 (fun p => pe_bm PySem.F.plainAttrs_list PySem.F.slot_list_append PySem.F.type_list_append mt_append (pv 4) (pa_cons p pa_nil)) (vo_x (vxF (VFr.ve (qcomp rfl nd (vi_seq (vv 0)) (blkOk_by (own := [("label", 7)]) (N := N_law_other_labels) (sc := defScope s_law_other_labels) (by decide +kernel)) rfl (fun _ _ _ _ _ => (vg 7 nd)) (by decide) (fun _ _ _ _ _ => vts_nil) (fun _ _ _ _ _ => (vmax_ rfl T.b_max (VAn.va (van_cons vint (van_cons (vsub_ (vv 7) vint) van_nil))))))))))
      (qs_t (envT_freeze _ [4]) (vss_one (vs_ret (vo_x (vxF (vv 4)))))))))))))
theorem sc_law_judged : FnScope N_law_judged ["loads", "capacity", "paper"] (defScope s_law_judged) := ⟨rfl, rfl, rfl, by decide +kernel, rfl, by decide +kernel, by decide +kernel⟩
theorem ok_law_judged (T : Txt K mg) : FnOk P w K mg base (L2.CX P w) 5 T.f__law_judged T.d__law_judged ["loads", "capacity", "paper"] (spV K mg 3 m_law_judged) := by
  refine fn_frz (g := runB 10 g_law_judged) ?_
  refine fn_vl T.F__law_judged sc_law_judged rfl fun cdv A outer s H E hr => ?_
  have nd := sc_law_judged.nd
  have tk := takes_of (X := cxOf (L2.CX P w) P w K mg base N_law_judged "_law_judged" (defScope s_law_judged) T.f__law_judged cdv A outer s H E) rfl rfl rfl rfl
  have hp := passes_of (X := cxOf (L2.CX P w) P w K mg base N_law_judged "_law_judged" (defScope s_law_judged) T.f__law_judged cdv A outer s H E) rfl
  exact (qs_cons (vs_tup (vg_tup rfl (vgs_cons (vg 3 nd) (vgs_cons (vg 4 nd) (vgs_cons (vg 5 nd) vgs_nil)))) (vxF (vv 2)))
      (qs_cons (vs_set 6 nd (vo_x (vxF (vtup_ (van_cons (vv 3) (van_cons (VFr.ve (vlist_f T.b_list (vv 4))) (van_cons (VFr.ve (vlist_f T.b_list (vv 5))) van_nil)))))))
      (qs_cons (vs_set 7 nd (vo_x (vxF (VFr.ve (vlist_f T.b_list (vv 0))))))
      (qs_cons (vs_set 8 nd (vo_x (vxF (vcall (ok_judge_boosters T) (hr.mono (by decide)) T.g_judge_boosters T.F_judge_boosters.kp T.B_judge_boosters tk (van_cons (vv 0) (van_cons (vv 1) (van_cons (vv 6) van_nil)))))))
      (qs_cons (vs_set 9 nd (vo_x (vxF (vcall (ok_law_accepted T) (hr.mono (by decide)) T.g__law_accepted T.F__law_accepted.kp T.B__law_accepted tk (van_cons (vv 7) (van_cons (vv 1) (van_cons (vv 2) van_nil)))))))
      (vss_one (vs_ret (vo_x (vxF (vand_ (visi_ ty_bool T.b_isinstance T.b_bool (by decide +kernel) (vv 8)) (vand_ (veq_ hr (vv 8) (vv 9)) (vand_ (veq_ hr (vv 6) (vv 2)) (vone (veq_ hr (vv 0) (vv 7)))))))))))))))
theorem sc_law : FnScope N_law ["script"] (defScope s_law) := ⟨rfl, rfl, rfl, by decide +kernel, rfl, by decide +kernel, by decide +kernel⟩
theorem ok_law (T : Txt K mg) : FnOk P w K mg base (L2.CX P w) 6 T.f_law T.d_law ["script"] (spV K mg 1 m_law) := by
  refine fn_frz (g := runB 17 g_law) ?_
  refine fn_vl T.F_law sc_law rfl fun cdv A outer s H E hr => ?_
  have nd := sc_law.nd
  have tk := takes_of (X := cxOf (L2.CX P w) P w K mg base N_law "law" (defScope s_law) T.f_law cdv A outer s H E) rfl rfl rfl rfl
  have hp := passes_of (X := cxOf (L2.CX P w) P w K mg base N_law "law" (defScope s_law) T.f_law cdv A outer s H E) rfl
  exact (qs_cons (vs_for hp rfl (qix_F (vi_seq (VFr.ve (vlst_f (van_cons vint (van_cons vint van_nil)))))) (vg 1 nd) (envT_kill _ [1, 2, 3, 4, 5, 6, 7, 8, 9, 10, 11, 12, 13, 14])
      (qs_cons (vs_tup (vg_tup rfl (vgs_cons (vg 2 nd) (vgs_cons (vg 3 nd) vgs_nil))) (vxF (vcall (ok_law_loads T) (hr.mono (by decide)) T.g__law_loads T.F__law_loads.kp T.B__law_loads tk (van_cons (vv 0) (van_cons (vv 1) van_nil)))))
      (qs_cons (vs_set 4 nd (vo_x (vxF (vcall (ok_law_numbers T) (hr.mono (by decide)) T.g__law_numbers T.F__law_numbers.kp T.B__law_numbers tk (van_cons (vcall (ok_law_cell T) (hr.mono (by decide)) T.g__law_cell T.F__law_cell.kp T.B__law_cell tk (van_cons (vv 0) (van_cons (vadd_ (vv 1) vint) van_nil))) (van_cons vint (van_cons vint van_nil)))))))
      (qs_cons (vs_set 5 nd (vo_x (vxF (vcall (ok_law_paper T) (hr.mono (by decide)) T.g__law_paper T.F__law_paper.kp T.B__law_paper tk (van_cons (vv 2) (van_cons (vv 3) van_nil))))))
      (qs_cons (vs_tup (vg_tup rfl (vgs_cons (vg 6 nd) (vgs_cons (vg 7 nd) (vgs_cons (vg 8 nd) vgs_nil)))) (vxF (vv 5)))
      (qs_cons (vs_if (qx_T (vt_not (qtruth (vcall (ok_judge_boosters T) (hr.mono (by decide)) T.g_judge_boosters T.F_judge_boosters.kp T.B_judge_boosters tk (van_cons (vv 2) (van_cons (vv 3) (van_cons (vv 5) van_nil)))))))
      (vss_one (vs_ret (vo_x (vxF vbool))))
      (qs_t (envT_kill _ [1]) qs_nil))
      (qs_cons (vs_for hp rfl (qix_F (vi_seq (VFr.ve (vlst_f (van_cons (vneg_ vint) (van_cons vint (van_cons vint (van_cons (vneg_ (vv 6)) van_nil)))))))) (vg 9 nd) (envT_kill _ [9, 10])
      (vss_one (vs_for hp rfl (qix_F (vi_seq (vcall (ok_law_other_sizes T) (hr.mono (by decide)) T.g__law_other_sizes T.F__law_other_sizes.kp T.B__law_other_sizes tk (van_cons (vv 7) (van_cons (vv 4) van_nil))))) (vg 10 nd) (envT_kill _ [10])
      (vss_one (vs_if (qx_T (vt_not (qtruth (vcall (ok_law_judged T) (hr.mono (by decide)) T.g__law_judged T.F__law_judged.kp T.B__law_judged tk (van_cons (vv 2) (van_cons (vv 3) (van_cons (vtup_ (van_cons (vadd_ (vv 6) (vv 9)) (van_cons (vv 10) (van_cons (vv 8) van_nil)))) van_nil)))))))
      (vss_one (vs_ret (vo_x (vxF vbool))))
      (qs_t (envT_kill _ [10]) qs_nil))))))
      (qs_t (envT_kill _ [9]) (qs_cons (vs_forK hp rfl (qix_F (vi_seq (vcall (ok_law_other_labels T) (hr.mono (by decide)) T.g__law_other_labels T.F__law_other_labels.kp T.B__law_other_labels tk (van_cons (vv 8) (van_cons (vslice_ (vv 4) (qo_some vint) (qo_some vint)) van_nil))))) (vg 10 nd) (rs_kill _ [4]) (envT_kill _ [10, 11])
      (qs_t (envT_kill _ [4]) (vss_one (vs_for hp rfl (qix_F (vi_seq (vadd_ (VFr.ve (vlst_f (van_cons (vv 6) van_nil))) (vslice_ (vv 10) (qo_some (vsub_ (vlen_ T.b_len (VAn.va (van_cons (vv 10) van_nil))) vint)) qo_none)))) (vg 11 nd) (envT_kill _ [11])
      (vss_one (vs_if (qx_T (vt_not (qtruth (vcall (ok_law_judged T) (hr.mono (by decide)) T.g__law_judged T.F__law_judged.kp T.B__law_judged tk (van_cons (vv 2) (van_cons (vv 3) (van_cons (vtup_ (van_cons (vv 11) (van_cons (vv 7) (van_cons (vv 10) van_nil)))) van_nil)))))))
      (vss_one (vs_ret (vo_x (vxF vbool))))
      (qs_t (envT_kill _ [11]) qs_nil)))))))
      (qs_t (envT_kill _ [6, 7, 10]) (qs_cons (vs_for hp rfl (qix_F (vi_seq (VFr.ve (vlst_f (van_cons (vadd_ (vv 3) vint) (van_cons (vmax_ rfl T.b_max (VAn.va (van_cons vint (van_cons (vsub_ (vv 3) vint) van_nil)))) (van_cons (vmax_ rfl T.b_max (VAn.va (van_cons (vadd_ (VFr.ve (vlst_f (van_cons vint van_nil))) (vv 2)) van_nil))) (van_cons (vmul_ vint (vv 3)) van_nil)))))))) (vg 12 nd) (envT_kill _ [12, 13])
      (qs_cons (vs_set 13 nd (vo_x (vxF (vcall (ok_law_paper T) (hr.mono (by decide)) T.g__law_paper T.F__law_paper.kp T.B__law_paper tk (van_cons (vv 2) (van_cons (vv 12) van_nil))))))
      (vss_one (vs_if (qx_T (VW.vt (vw_or (vt_not (qtruth (vcall (ok_law_judged T) (hr.mono (by decide)) T.g__law_judged T.F__law_judged.kp T.B__law_judged tk (van_cons (vv 2) (van_cons (vv 3) (van_cons (vv 13) van_nil)))))) (vw_or (vt_not (qtruth (vcall (ok_law_judged T) (hr.mono (by decide)) T.g__law_judged T.F__law_judged.kp T.B__law_judged tk (van_cons (vv 2) (van_cons (vv 12) (van_cons (vv 5) van_nil)))))) (vw_or1 (vt_not (qtruth (vcall (ok_law_judged T) (hr.mono (by decide)) T.g__law_judged T.F__law_judged.kp T.B__law_judged tk (van_cons (vv 2) (van_cons (vv 12) (van_cons (vv 13) van_nil)))))))))))
      (vss_one (vs_ret (vo_x (vxF vbool))))
      (qs_t (envT_kill _ [12, 13]) qs_nil)))))
      (qs_t (envT_kill _ [5]) (qs_cons (qsetLc 14 mode_Z rfl nd rfl rfl (sw_true rfl rfl rfl (by decide +kernel)) (vi_seq (vv 2)) (blkOk_by (own := [("load", 15)]) (N := N_law) (sc := defScope s_law) (by decide +kernel)) rfl (fun _ _ _ _ _ => (vg 15 nd)) (by decide) (fun _ _ _ _ _ => vts_nil) (fun _ _ _ _ _ => vint))
      (qs_cons (vs_if (qx_T (vt_not (qtruth (vcall (ok_law_judged T) (hr.mono (by decide)) T.g__law_judged T.F__law_judged.kp T.B__law_judged tk (van_cons (vv 2) (van_cons (vv 3) (van_cons (vtup_ (van_cons (vlen_ T.b_len (VAn.va (van_cons (vv 2) van_nil))) (van_cons (vv 14) (van_cons (vv 8) van_nil)))) van_nil)))))))
      (vss_one (vs_ret (vo_x (vxF vbool))))
      (qs_t (envT_kill _ [8]) qs_nil))
      (vss_one (vs_if (qx_T (vt_not (qtruth (vcall (ok_law_judged T) (hr.mono (by decide)) T.g__law_judged T.F__law_judged.kp T.B__law_judged tk (van_cons (vv 2) (van_cons (vv 3) (van_cons (vtup_ (van_cons (vlen_ T.b_len (VAn.va (van_cons (vv 2) van_nil))) (van_cons (vv 14) (van_cons (VFr.ve (qcomp rfl nd (vi_range1 T.b_range (vadd_ (vlen_ T.b_len (VAn.va (van_cons (vv 2) van_nil))) vint)) (blkOk_by (own := [("k", 16)]) (N := N_law) (sc := defScope s_law) (by decide +kernel)) rfl (fun _ _ _ _ _ => (vg 16 nd)) (by decide) (fun _ _ _ _ _ => vts_nil) (fun _ _ _ _ _ => (vv 16)))) van_nil)))) van_nil)))))))
      (vss_one (vs_ret (vo_x (vxF vbool))))
      (qs_t (envT_kill _ [2, 3, 14]) qs_nil)))))))))))))))))
      (qs_t (envT_kill _ [0]) (vss_one (vs_ret (vo_x (vxF vbool))))))
end
end LW
namespace LW
open PySem PySem.Spec PyProof.Rows VL
noncomputable section
def t_fed_until_1 (loads : (List Int)) (capacity : Int) (at_ : Int) (total : Int) : TR Int Int Int := ((b1 (fun b_ => R.ok (total + b_)) (b2 tidx (R.ok loads) (R.ok at_))).tr fun total => (tite (b2 tgtI (R.ok total) (R.ok capacity)) ((R.ok at_).tr fun r_ => .rt r_) (.nx total)))
abbrev E_fed_until_1 (loads : (List Int)) (capacity : Int) : Int → OEnv := fun s_ => match s_ with | total => [some (oF loads), some (oF capacity), none, some (oF total), none]
def t_fed_until (loads : (List Int)) (capacity : Int) (start : Int) : R Int := TR.fn (l := Empty) (σ := Unit) ((R.ok (0 : Int)).tr fun total => ((b2 trange2 (R.ok start) (b1 tlen (R.ok loads))).tr fun xs_ => (forT (fun at_ total => t_fed_until_1 loads capacity at_ total) xs_ total).bind fun total => ((b1 tlen (R.ok loads)).tr fun r_ => .rt r_))) (fun _ => .stuck)
def t_judge_labels_from (loads : (List Int)) (capacity : Int) (labels : (List Int)) (start : Int) : R Bool := TR.fn (l := Empty) (σ := Unit) ((b3 t_fed_until (R.ok loads) (R.ok capacity) (R.ok start)).tr fun stop => ((b1 tallB ((b2 trange2 (b2 taddI (R.ok start) (R.ok (1 : Int))) (b2 taddI (R.ok stop) (R.ok (1 : Int)))).bind fun xs_ => (tmap (fun at_ => (b2 tleI (b2 tidx (R.ok labels) (R.ok at_)) (b2 taddI (b2 tidx (R.ok labels) (R.ok start)) (R.ok (1 : Int))))) xs_).calm)).tr fun r_ => .rt r_)) (fun _ => .stuck)
def t_judge_booster_labels (loads : (List Int)) (capacity : Int) (labels : (List Int)) : R Bool := TR.fn (l := Empty) (σ := Unit) (tite (torB (b2 tne (b1 tlen (R.ok labels)) (b2 taddI (b1 tlen (R.ok loads)) (R.ok (1 : Int)))) (b2 tne (b2 tidx (R.ok labels) (R.ok (0 : Int))) (R.ok (0 : Int)))) ((R.ok false).tr fun r_ => .rt r_) ((b1 tallB ((b1 trange1 (b1 tlen (R.ok loads))).bind fun xs_ => (tmap (fun start => (b4 t_judge_labels_from (R.ok loads) (R.ok capacity) (R.ok labels) (R.ok start))) xs_).calm)).tr fun r_ => .rt r_)) (fun _ => .stuck)
def t_judge_sizes_1 (loads : (List Int)) (capacity : Int) (size : Int) (at_ : Int) : TR Bool Int Int := (tite (torB (b2 tltI (R.ok size) (R.ok (1 : Int))) (torB (b2 tgtI (b2 taddI (R.ok at_) (R.ok size)) (b1 tlen (R.ok loads))) (b2 tgtI (b1 tsum (b3 tcut (R.ok loads) (b1 tpart (R.ok at_)) (b1 tpart (b2 taddI (R.ok at_) (R.ok size))))) (R.ok capacity)))) ((R.ok false).tr fun r_ => .rt r_) ((b1 (fun b_ => R.ok (at_ + b_)) (R.ok size)).tr fun at_ => (.nx at_)))
abbrev E_judge_sizes_1 (loads : (List Int)) (capacity : Int) : Int → OEnv := fun s_ => match s_ with | at_ => [some (oF loads), some (oF capacity), none, some (oF at_), none]
def t_judge_sizes (loads : (List Int)) (capacity : Int) (sizes : (List Int)) : R Bool := TR.fn (l := Empty) (σ := Unit) ((R.ok (0 : Int)).tr fun at_ => ((R.ok sizes).tr fun xs_ => (forT (fun size at_ => t_judge_sizes_1 loads capacity size at_) xs_ at_).bind fun at_ => ((b2 teq (R.ok at_) (b1 tlen (R.ok loads))).tr fun r_ => .rt r_))) (fun _ => .stuck)
def t_judge_boosters (loads : (List Int)) (capacity : Int) (paper : (T3 Int (List Int) (List Int))) : R Bool := TR.fn (l := Empty) (σ := Unit) ((R.ok paper).tr fun ⟨count, sizes, labels⟩ => (tite (b1 tnotB (b1 tid (b3 t_judge_booster_labels (R.ok loads) (R.ok capacity) (R.ok labels)))) ((R.ok false).tr fun r_ => .rt r_) ((tandB (b2 tleI (R.ok count) (b2 tidx (R.ok labels) (b1 tnegI (R.ok (1 : Int))))) (tandB (b2 teq (b1 tlen (R.ok sizes)) (R.ok count)) (b3 t_judge_sizes (R.ok loads) (R.ok capacity) (R.ok sizes)))).tr fun r_ => .rt r_))) (fun _ => .stuck)
def t_law_cell (script : (List Int)) (k : Int) : R Int := TR.fn (l := Empty) (σ := Unit) (tite (b2 tltI (R.ok k) (b1 tlen (R.ok script))) ((b1 tint (b2 tidx (R.ok script) (R.ok k))).tr fun r_ => .rt r_) ((R.ok (0 : Int)).tr fun r_ => .rt r_)) (fun _ => .stuck)
def t_law_numbers_1 (limit : Int) (k : Int) (cell : Int) (found : (List Int)) : TR (List Int) (Int × (List Int)) (Int × (List Int)) := ((b2 tmodI (b1 tint (R.ok cell)) (R.ok limit)).tr fun a_ => (tapp found a_).tr fun found => ((b2 tfdivI (b1 tint (R.ok cell)) (R.ok limit)).tr fun cell => (.nx (cell, found))))
abbrev E_law_numbers_1 (limit : Int) : (Int × (List Int)) → OEnv := fun s_ => match s_ with | ⟨cell, found⟩ => [some (oF cell), none, some (oF limit), some ((oL oF) found), none, none]
def t_law_numbers_2 (cell : Int) (limit : Int) (k : Int) (found : (List Int)) : TR (List Int) (List Int) (List Int) := ((b2 tmodI (b1 tint (b2 taddI (b2 taddI (b2 tmulI (R.ok cell) (R.ok (48271 : Int))) (b2 tmulI (R.ok k) (R.ok (69621 : Int)))) (R.ok (7 : Int)))) (R.ok (2147483647 : Int))).tr fun mixed => ((b2 tmodI (b1 tint (b2 taddI (b2 taddI (b2 taddI (b2 tmulI (R.ok mixed) (R.ok mixed)) (b2 tmulI (R.ok mixed) (R.ok (40692 : Int)))) (b2 tmulI (R.ok k) (R.ok (16807 : Int)))) (R.ok (11 : Int)))) (R.ok (2147483399 : Int))).tr fun mixed => ((b2 tmodI (b1 tint (b2 tfdivI (R.ok mixed) (R.ok (32 : Int)))) (R.ok limit)).tr fun a_ => (tapp found a_).tr fun found => (.nx found))))
abbrev E_law_numbers_2 (cell : Int) (limit : Int) : (List Int) → OEnv := fun s_ => match s_ with | found => [some (oF cell), none, some (oF limit), some ((oL oF) found), none, none]
def t_law_numbers (cell : Int) (count : Int) (limit : Int) : R (List Int) := TR.fn (l := Empty) (σ := Unit) ((R.ok ([] : List Int)).tr fun found => (tite (b2 tgeI (R.ok cell) (b2 tpowI (R.ok (10 : Int)) (R.ok (18 : Int)))) ((b1 trange1 (R.ok count)).tr fun xs_ => (forT (fun k ⟨cell, found⟩ => t_law_numbers_1 limit k cell found) xs_ (cell, found)).bind fun ⟨cell, found⟩ => ((R.ok found).tr fun r_ => .rt r_)) ((b1 trange1 (R.ok count)).tr fun xs_ => (forT (fun k found => t_law_numbers_2 cell limit k found) xs_ found).bind fun found => ((R.ok found).tr fun r_ => .rt r_)))) (fun _ => .stuck)
def t_law_loads_1 (cell : Int) (draws : (List Int)) (picks : (List Int)) (k : Int) (found : (List Int)) : TR ((List Int) × Int) (List Int) (List Int) := ((b2 tidx (tcons (b2 tmodI (b2 tidx (R.ok picks) (R.ok k)) (R.ok (6 : Int))) (tcons (b2 tmodI (b2 tfdivI (b2 tidx (R.ok picks) (R.ok k)) (R.ok (6 : Int))) (R.ok (2 : Int))) (tcons (b2 tidx (R.ok picks) (R.ok k)) (tcons (b2 tmodI (b2 tfdivI (b1 tint (R.ok cell)) (b2 taddI (R.ok k) (R.ok (3 : Int)))) (b2 tpowI (R.ok (10 : Int)) (R.ok (30 : Int)))) (R.ok ([] : List Int)))))) (b2 tmodI (b2 tidx (R.ok draws) (R.ok (1 : Int))) (R.ok (4 : Int)))).tr fun a_ => (tapp found a_).tr fun found => (.nx found))
abbrev E_law_loads_1 (cell : Int) (draws : (List Int)) (picks : (List Int)) : (List Int) → OEnv := fun s_ => match s_ with | found => [none, none, some (oF cell), some (oF draws), none, some (oF picks), some ((oL oF) found), none, none]
def t_law_loads (script : (List Int)) (at_ : Int) : R ((List Int) × Int) := TR.fn (l := Empty) (σ := Unit) ((b2 t_law_cell (R.ok script) (R.ok at_)).tr fun cell => ((b3 t_law_numbers (R.ok cell) (R.ok (4 : Int)) (R.ok (5040 : Int))).tr fun draws => ((b2 tmodI (b2 tidx (R.ok draws) (R.ok (0 : Int))) (R.ok (13 : Int))).tr fun count => ((b3 t_law_numbers (b2 t_law_cell (R.ok script) (b2 taddI (R.ok at_) (R.ok (1 : Int)))) (R.ok count) (R.ok (5040 : Int))).tr fun picks => ((R.ok ([] : List Int)).tr fun found => ((b1 trange1 (R.ok count)).tr fun xs_ => (forT (fun k found => t_law_loads_1 cell draws picks k found) xs_ found).bind fun found => ((b1 tmaxL (b2 taddL (tcons (R.ok (1 : Int)) (R.ok ([] : List Int))) (R.ok found))).tr fun top => ((b2 mk2 (R.ok found) (b2 tidx (tcons (R.ok top) (tcons (b2 taddI (R.ok top) (b2 tmodI (b2 tidx (R.ok draws) (R.ok (2 : Int))) (R.ok (4 : Int)))) (tcons (b2 taddI (b2 tmulI (R.ok (2 : Int)) (R.ok top)) (b2 tmodI (b2 tidx (R.ok draws) (R.ok (2 : Int))) (R.ok (3 : Int)))) (tcons (b2 tmulI (R.ok (3 : Int)) (R.ok top)) (R.ok ([] : List Int)))))) (b2 tmodI (b2 tidx (R.ok draws) (R.ok (3 : Int))) (R.ok (4 : Int))))).tr fun r_ => .rt r_)))))))) (fun _ => .stuck)
def t_law_paper_1 (capacity : Int) (load : Int) (sizes : (List Int)) (labels : (List Int)) (total : Int) : TR (T3 Int (List Int) (List Int)) ((List Int) × (List Int) × Int) ((List Int) × (List Int) × Int) := (TR.bind (σ := ((List Int) × Int)) (tite (torB (b2 teq (b1 tlen (R.ok sizes)) (R.ok (0 : Int))) (b2 tgtI (b2 taddI (R.ok total) (R.ok load)) (R.ok capacity))) ((R.ok (0 : Int)).tr fun a_ => (tapp sizes a_).tr fun sizes => ((R.ok (0 : Int)).tr fun total => (.nx (sizes, total)))) (.nx (sizes, total))) fun ⟨sizes, total⟩ => ((b2 taddI (b2 tidx (R.ok sizes) (b2 tsubI (b1 tlen (R.ok sizes)) (R.ok (1 : Int)))) (R.ok (1 : Int))).tr fun a_ => (b2 tsubI (b1 tlen (R.ok sizes)) (R.ok (1 : Int))).tr fun j_ => (tset sizes j_ a_).tr fun sizes => ((b2 taddI (R.ok total) (R.ok load)).tr fun total => ((b1 tlen (R.ok sizes)).tr fun a_ => (tapp labels a_).tr fun labels => (.nx (sizes, labels, total))))))
abbrev E_law_paper_1 (capacity : Int) : ((List Int) × (List Int) × Int) → OEnv := fun s_ => match s_ with | ⟨sizes, labels, total⟩ => [none, some (oF capacity), some ((oL oF) sizes), some ((oL oF) labels), some (oF total), none]
def t_law_paper (loads : (List Int)) (capacity : Int) : R (T3 Int (List Int) (List Int)) := TR.fn (l := Empty) (σ := Unit) ((R.ok ([] : List Int)).tr fun sizes => ((tcons (R.ok (0 : Int)) (R.ok ([] : List Int))).tr fun labels => ((R.ok (0 : Int)).tr fun total => ((R.ok loads).tr fun xs_ => (forT (fun load ⟨sizes, labels, total⟩ => t_law_paper_1 capacity load sizes labels total) xs_ (sizes, labels, total)).bind fun ⟨sizes, labels, total⟩ => ((b3 mk3 (b1 tlen (R.ok sizes)) (R.ok sizes) (R.ok labels)).tr fun r_ => .rt r_))))) (fun _ => .stuck)
def t_law_accepted_1 (loads : (List Int)) (capacity : Int) (labels : (List Int)) (i : Int) (j : Int) : TR Bool Unit Unit := (tite (tandB (b2 tleI (b1 tsum (b3 tcut (R.ok loads) (b1 tpart (R.ok i)) (b1 tpart (R.ok j)))) (R.ok capacity)) (b2 tgtI (b2 tidx (R.ok labels) (R.ok j)) (b2 taddI (b2 tidx (R.ok labels) (R.ok i)) (R.ok (1 : Int))))) ((R.ok false).tr fun r_ => .rt r_) (.nx ()))
abbrev E_law_accepted_1 (loads : (List Int)) (capacity : Int) (sizes : (List Int)) (labels : (List Int)) (i : Int) : Unit → OEnv := fun s_ => match s_ with | _ => [some (oF loads), some (oF capacity), none, none, some (oF sizes), some (oF labels), some (oF i), none, none, none]
def t_law_accepted_2 (loads : (List Int)) (capacity : Int) (labels : (List Int)) (i : Int) : TR Bool Unit Unit := ((b2 trange2 (b2 taddI (R.ok i) (R.ok (1 : Int))) (b2 taddI (b1 tlen (R.ok loads)) (R.ok (1 : Int)))).tr fun xs_ => (forT (fun j _ => t_law_accepted_1 loads capacity labels i j) xs_ ()).bind fun _ => (.nx ()))
abbrev E_law_accepted_2 (loads : (List Int)) (capacity : Int) (sizes : (List Int)) (labels : (List Int)) : Unit → OEnv := fun s_ => match s_ with | _ => [some (oF loads), some (oF capacity), none, none, some (oF sizes), some (oF labels), none, none, none, none]
def t_law_accepted_3 (loads : (List Int)) (capacity : Int) (size : Int) (at_ : Int) : TR Bool Int Int := (tite (torB (b2 tltI (R.ok size) (R.ok (1 : Int))) (b2 tgtI (b1 tsum (b3 tcut (R.ok loads) (b1 tpart (R.ok at_)) (b1 tpart (b2 taddI (R.ok at_) (R.ok size))))) (R.ok capacity))) ((R.ok false).tr fun r_ => .rt r_) ((b2 taddI (R.ok at_) (R.ok size)).tr fun at_ => (.nx at_)))
abbrev E_law_accepted_3 (loads : (List Int)) (capacity : Int) : Int → OEnv := fun s_ => match s_ with | at_ => [some (oF loads), some (oF capacity), none, none, none, none, none, none, some (oF at_), none]
def t_law_accepted (loads : (List Int)) (capacity : Int) (paper : (T3 Int (List Int) (List Int))) : R Bool := TR.fn (l := Empty) (σ := Unit) ((R.ok paper).tr fun ⟨count, sizes, labels⟩ => (tite (torB (b2 tne (b1 tlen (R.ok labels)) (b2 taddI (b1 tlen (R.ok loads)) (R.ok (1 : Int)))) (torB (b2 tne (b2 tidx (R.ok labels) (R.ok (0 : Int))) (R.ok (0 : Int))) (torB (b2 tgtI (R.ok count) (b2 tidx (R.ok labels) (b1 tlen (R.ok loads)))) (b2 tne (b1 tlen (R.ok sizes)) (R.ok count))))) ((R.ok false).tr fun r_ => .rt r_) ((b1 trange1 (b1 tlen (R.ok loads))).tr fun xs_ => (forT (fun i _ => t_law_accepted_2 loads capacity labels i) xs_ ()).bind fun _ => ((R.ok (0 : Int)).tr fun at_ => ((R.ok sizes).tr fun xs_ => (forT (fun size at_ => t_law_accepted_3 loads capacity size at_) xs_ at_).bind fun at_ => ((b2 teq (R.ok at_) (b1 tlen (R.ok loads))).tr fun r_ => .rt r_)))))) (fun _ => .stuck)
def t_law_other_sizes_1 (sizes : (List Int)) (spot : Int) (pair : (List Int)) (found : (List (List Int))) : TR (List (List Int)) (List (List Int)) (List (List Int)) := ((b2 taddL (b2 taddL (b3 tcut (R.ok sizes) (b1 tpart (R.ok (0 : Int))) (b1 tpart (R.ok spot))) (R.ok pair)) (b3 tcut (R.ok sizes) (b1 tpart (b2 taddI (R.ok spot) (R.ok (2 : Int)))) (R.ok none))).tr fun a_ => (tapp found a_).tr fun found => (.nx found))
abbrev E_law_other_sizes_1 (sizes : (List Int)) (spot : Int) : (List (List Int)) → OEnv := fun s_ => match s_ with | found => [some (oF sizes), none, some ((oL oF) found), none, some (oF spot), none, none, none]
def t_law_other_sizes (sizes : (List Int)) (draws : (List Int)) : R (List (List Int)) := TR.fn (l := Empty) (σ := Unit) ((tcons (R.ok sizes) (tcons (R.ok ([] : List Int)) (tcons (b2 taddL (R.ok sizes) (tcons (R.ok (0 : Int)) (R.ok ([] : List Int)))) (tcons (b2 taddL (R.ok sizes) (tcons (R.ok (1 : Int)) (R.ok ([] : List Int)))) (tcons (b2 taddL (tcons (R.ok (0 : Int)) (R.ok ([] : List Int))) (R.ok sizes)) (tcons (b2 taddL (R.ok sizes) (tcons (b1 tnegI (R.ok (1 : Int))) (tcons (R.ok (1 : Int)) (R.ok ([] : List Int))))) (tcons (tcons (b1 tsum (R.ok sizes)) (R.ok ([] : List Int))) (R.ok ([] : List (List Int)))))))))).tr fun found => (TR.bind (σ := (List (List Int))) (tite (b2 tgtI (b1 tlen (R.ok sizes)) (R.ok (0 : Int))) ((b2 tmodI (b2 tidx (R.ok draws) (R.ok (0 : Int))) (b1 tlen (R.ok sizes))).tr fun at_ => ((b2 taddL (R.ok found) (tcons (b2 taddL (b3 tcut (R.ok sizes) (b1 tpart (R.ok (0 : Int))) (b1 tpart (R.ok at_))) (b3 tcut (R.ok sizes) (b1 tpart (b2 taddI (R.ok at_) (R.ok (1 : Int)))) (R.ok none))) (tcons (b2 taddL (b2 taddL (b3 tcut (R.ok sizes) (b1 tpart (R.ok (0 : Int))) (b1 tpart (R.ok at_))) (tcons (b2 taddI (b2 tidx (R.ok sizes) (R.ok at_)) (R.ok (1 : Int))) (R.ok ([] : List Int)))) (b3 tcut (R.ok sizes) (b1 tpart (b2 taddI (R.ok at_) (R.ok (1 : Int)))) (R.ok none))) (tcons (b2 taddL (b2 taddL (b3 tcut (R.ok sizes) (b1 tpart (R.ok (0 : Int))) (b1 tpart (R.ok at_))) (tcons (R.ok (0 : Int)) (R.ok ([] : List Int)))) (b3 tcut (R.ok sizes) (b1 tpart (R.ok at_)) (R.ok none))) (R.ok ([] : List (List Int))))))).tr fun found => ((b2 taddL (b2 taddL (b3 tcut (R.ok sizes) (b1 tpart (R.ok (0 : Int))) (b1 tpart (R.ok at_))) (tcons (R.ok (1 : Int)) (tcons (b2 tsubI (b2 tidx (R.ok sizes) (R.ok at_)) (R.ok (1 : Int))) (R.ok ([] : List Int))))) (b3 tcut (R.ok sizes) (b1 tpart (b2 taddI (R.ok at_) (R.ok (1 : Int)))) (R.ok none))).tr fun a_ => (tapp found a_).tr fun found => (tite (b2 tgtI (b1 tlen (R.ok sizes)) (R.ok (1 : Int))) ((b2 tmodI (b2 tidx (R.ok draws) (R.ok (1 : Int))) (b2 tsubI (b1 tlen (R.ok sizes)) (R.ok (1 : Int)))).tr fun spot => ((b3 tcut (R.ok sizes) (b1 tpart (R.ok spot)) (b1 tpart (b2 taddI (R.ok spot) (R.ok (2 : Int))))).tr fun a_ => (cL2 a_).calm.tr fun ⟨one, other⟩ => ((tcons (tcons (b2 tsubI (R.ok one) (R.ok (1 : Int))) (tcons (b2 taddI (R.ok other) (R.ok (1 : Int))) (R.ok ([] : List Int)))) (tcons (tcons (b2 taddI (R.ok one) (R.ok (1 : Int))) (tcons (b2 tsubI (R.ok other) (R.ok (1 : Int))) (R.ok ([] : List Int)))) (tcons (tcons (b2 taddI (R.ok one) (R.ok other)) (R.ok ([] : List Int))) (R.ok ([] : List (List Int)))))).tr fun xs_ => (forT (fun pair found => t_law_other_sizes_1 sizes spot pair found) xs_ found).bind fun found => (.nx found)))) (.nx found))))) (.nx found)) fun found => ((R.ok found).tr fun r_ => .rt r_))) (fun _ => .stuck)
def t_law_other_labels_3 (labels : (List Int)) (spot : Int) (step : Int) (found : (List (List Int))) : TR (List (List Int)) (List (List Int)) (List (List Int)) := ((b2 taddL (b2 taddL (b3 tcut (R.ok labels) (b1 tpart (R.ok (0 : Int))) (b1 tpart (R.ok spot))) (tcons (b2 taddI (b2 tidx (R.ok labels) (R.ok spot)) (R.ok step)) (R.ok ([] : List Int)))) (b3 tcut (R.ok labels) (b1 tpart (b2 taddI (R.ok spot) (R.ok (1 : Int)))) (R.ok none))).tr fun a_ => (tapp found a_).tr fun found => (.nx found))
abbrev E_law_other_labels_3 (labels : (List Int)) (draws : (List Int)) (at_ : Int) (spot : Int) : (List (List Int)) → OEnv := fun s_ => match s_ with | found => [some (oF labels), some (oF draws), some (oF at_), none, some ((oL oF) found), some (oF spot), none, none]
def t_law_other_labels_4 (labels : (List Int)) (draws : (List Int)) (spot : Int) (found : (List (List Int))) : TR (List (List Int)) (List (List Int)) (List (List Int)) := ((tcons (R.ok (1 : Int)) (tcons (b1 tnegI (R.ok (1 : Int))) (tcons (b2 taddI (R.ok (2 : Int)) (b2 tidx (R.ok draws) (R.ok (1 : Int)))) (R.ok ([] : List Int))))).tr fun xs_ => (forT (fun step found => t_law_other_labels_3 labels spot step found) xs_ found).bind fun found => (.nx found))
abbrev E_law_other_labels_4 (labels : (List Int)) (draws : (List Int)) (at_ : Int) : (List (List Int)) → OEnv := fun s_ => match s_ with | found => [some (oF labels), some (oF draws), some (oF at_), none, some ((oL oF) found), none, none, none]
def t_law_other_labels (labels : (List Int)) (draws : (List Int)) : R (List (List Int)) := TR.fn (l := Empty) (σ := Unit) ((b2 tmodI (b2 tidx (R.ok draws) (R.ok (0 : Int))) (b1 tlen (R.ok labels))).tr fun at_ => ((b2 tsubI (b1 tlen (R.ok labels)) (R.ok (1 : Int))).tr fun last => ((tcons (R.ok labels) (tcons (b3 tcut (R.ok labels) (b1 tpart (R.ok (0 : Int))) (b1 tpart (R.ok last))) (tcons (b2 taddL (R.ok labels) (tcons (b2 tidx (R.ok labels) (R.ok last)) (R.ok ([] : List Int)))) (tcons ((R.ok labels).bind fun xs_ => (tmap (fun label => (b2 tsubI (R.ok label) (R.ok (1 : Int)))) xs_).calm) (tcons ((R.ok labels).bind fun xs_ => (tmap (fun label => (R.ok (0 : Int))) xs_).calm) (tcons (b2 taddL (b3 tcut (R.ok labels) (b1 tpart (R.ok (1 : Int))) (R.ok none)) (tcons (b2 tidx (R.ok labels) (R.ok last)) (R.ok ([] : List Int)))) (R.ok ([] : List (List Int))))))))).tr fun found => ((tcons (R.ok at_) (tcons (R.ok last) (tcons (R.ok (0 : Int)) (R.ok ([] : List Int))))).tr fun xs_ => (forT (fun spot found => t_law_other_labels_4 labels draws spot found) xs_ found).bind fun found => ((b2 taddL (b3 tcut (R.ok labels) (b1 tpart (R.ok (0 : Int))) (b1 tpart (R.ok at_))) ((b3 tcut (R.ok labels) (b1 tpart (R.ok at_)) (R.ok none)).bind fun xs_ => (tmap (fun label => (b2 taddI (R.ok label) (R.ok (1 : Int)))) xs_).calm)).tr fun a_ => (tapp found a_).tr fun found => (((R.ok labels).bind fun xs_ => (tmap (fun label => (b2 tmax2 (R.ok (0 : Int)) (b2 tsubI (R.ok label) (R.ok (1 : Int))))) xs_).calm).tr fun a_ => (tapp found a_).tr fun found => ((R.ok found).tr fun r_ => .rt r_))))))) (fun _ => .stuck)
def t_law_judged (loads : (List Int)) (capacity : Int) (paper : (T3 Int (List Int) (List Int))) : R Bool := TR.fn (l := Empty) (σ := Unit) ((R.ok paper).tr fun ⟨count, sizes, labels⟩ => ((b3 mk3 (R.ok count) (R.ok sizes) (R.ok labels)).tr fun passed => ((R.ok loads).tr fun kept => ((b3 t_judge_boosters (R.ok loads) (R.ok capacity) (R.ok passed)).tr fun told => ((b3 t_law_accepted (R.ok kept) (R.ok capacity) (R.ok paper)).tr fun due => ((tandB (b1 (tK true) (R.ok told)) (tandB (b2 teq (R.ok told) (R.ok due)) (tandB (b2 teq (R.ok passed) (R.ok paper)) (b2 teq (R.ok loads) (R.ok kept))))).tr fun r_ => .rt r_)))))) (fun _ => .stuck)
def t_law_1 (loads : (List Int)) (capacity : Int) (count : Int) (labels : (List Int)) (step : Int) (some_ : (List Int)) : TR Bool Unit Unit := (tite (b1 tnotB (b1 tid (b3 t_law_judged (R.ok loads) (R.ok capacity) (b3 mk3 (b2 taddI (R.ok count) (R.ok step)) (R.ok some_) (R.ok labels))))) ((R.ok false).tr fun r_ => .rt r_) (.nx ()))
abbrev E_law_1 (script : (List Int)) (loads : (List Int)) (capacity : Int) (draws : (List Int)) (right_ : (T3 Int (List Int) (List Int))) (count : Int) (sizes : (List Int)) (labels : (List Int)) (step : Int) : Unit → OEnv := fun s_ => match s_ with | _ => [some (oF script), none, some (oF loads), some (oF capacity), some (oF draws), some (oF right_), some (oF count), some (oF sizes), some (oF labels), some (oF step), none, none, none, none, none, none, none]
def t_law_2 (loads : (List Int)) (capacity : Int) (draws : (List Int)) (count : Int) (sizes : (List Int)) (labels : (List Int)) (step : Int) : TR Bool Unit Unit := ((b2 t_law_other_sizes (R.ok sizes) (R.ok draws)).tr fun xs_ => (forT (fun some_ _ => t_law_1 loads capacity count labels step some_) xs_ ()).bind fun _ => (.nx ()))
abbrev E_law_2 (script : (List Int)) (loads : (List Int)) (capacity : Int) (draws : (List Int)) (right_ : (T3 Int (List Int) (List Int))) (count : Int) (sizes : (List Int)) (labels : (List Int)) : Unit → OEnv := fun s_ => match s_ with | _ => [some (oF script), none, some (oF loads), some (oF capacity), some (oF draws), some (oF right_), some (oF count), some (oF sizes), some (oF labels), none, none, none, none, none, none, none, none]
def t_law_3 (loads : (List Int)) (capacity : Int) (sizes : (List Int)) (some_ : (List Int)) (number : Int) : TR Bool Unit Unit := (tite (b1 tnotB (b1 tid (b3 t_law_judged (R.ok loads) (R.ok capacity) (b3 mk3 (R.ok number) (R.ok sizes) (R.ok some_))))) ((R.ok false).tr fun r_ => .rt r_) (.nx ()))
abbrev E_law_3 (script : (List Int)) (loads : (List Int)) (capacity : Int) (right_ : (T3 Int (List Int) (List Int))) (count : Int) (sizes : (List Int)) (labels : (List Int)) (some_ : (List Int)) : Unit → OEnv := fun s_ => match s_ with | _ => [some (oF script), none, some (oF loads), some (oF capacity), none, some (oF right_), some (oF count), some (oF sizes), some (oF labels), none, some (oF some_), none, none, none, none, none, none]
def t_law_4 (loads : (List Int)) (capacity : Int) (count : Int) (sizes : (List Int)) (some_ : (List Int)) : TR Bool Unit Unit := ((b2 taddL (tcons (R.ok count) (R.ok ([] : List Int))) (b3 tcut (R.ok some_) (b1 tpart (b2 tsubI (b1 tlen (R.ok some_)) (R.ok (1 : Int)))) (R.ok none))).tr fun xs_ => (forT (fun number _ => t_law_3 loads capacity sizes some_ number) xs_ ()).bind fun _ => (.nx ()))
abbrev E_law_4 (script : (List Int)) (loads : (List Int)) (capacity : Int) (right_ : (T3 Int (List Int) (List Int))) (count : Int) (sizes : (List Int)) (labels : (List Int)) : Unit → OEnv := fun s_ => match s_ with | _ => [some (oF script), none, some (oF loads), some (oF capacity), none, some (oF right_), some (oF count), some (oF sizes), some (oF labels), none, none, none, none, none, none, none, none]
def t_law_5 (loads : (List Int)) (capacity : Int) (right_ : (T3 Int (List Int) (List Int))) (other : Int) : TR Bool Unit Unit := ((b2 t_law_paper (R.ok loads) (R.ok other)).tr fun paper => (tite (torB (b1 tnotB (b1 tid (b3 t_law_judged (R.ok loads) (R.ok capacity) (R.ok paper)))) (torB (b1 tnotB (b1 tid (b3 t_law_judged (R.ok loads) (R.ok other) (R.ok right_)))) (b1 tnotB (b1 tid (b3 t_law_judged (R.ok loads) (R.ok other) (R.ok paper)))))) ((R.ok false).tr fun r_ => .rt r_) (.nx ())))
abbrev E_law_5 (script : (List Int)) (loads : (List Int)) (capacity : Int) (right_ : (T3 Int (List Int) (List Int))) (labels : (List Int)) : Unit → OEnv := fun s_ => match s_ with | _ => [some (oF script), none, some (oF loads), some (oF capacity), none, some (oF right_), none, none, some (oF labels), none, none, none, none, none, none, none, none]
def t_law_8 (script : (List Int)) (at_ : Int) : TR Bool Unit Unit := ((b2 t_law_loads (R.ok script) (R.ok at_)).tr fun ⟨loads, capacity⟩ => ((b3 t_law_numbers (b2 t_law_cell (R.ok script) (b2 taddI (R.ok at_) (R.ok (2 : Int)))) (R.ok (6 : Int)) (R.ok (5040 : Int))).tr fun draws => ((b2 t_law_paper (R.ok loads) (R.ok capacity)).tr fun right_ => ((R.ok right_).tr fun ⟨count, sizes, labels⟩ => (tite (b1 tnotB (b1 tid (b3 t_judge_boosters (R.ok loads) (R.ok capacity) (R.ok right_)))) ((R.ok false).tr fun r_ => .rt r_) ((tcons (b1 tnegI (R.ok (1 : Int))) (tcons (R.ok (0 : Int)) (tcons (R.ok (1 : Int)) (tcons (b1 tnegI (R.ok count)) (R.ok ([] : List Int)))))).tr fun xs_ => (forT (fun step _ => t_law_2 loads capacity draws count sizes labels step) xs_ ()).bind fun _ => ((b2 t_law_other_labels (R.ok labels) (b3 tcut (R.ok draws) (b1 tpart (R.ok (2 : Int))) (b1 tpart (R.ok (4 : Int))))).tr fun xs_ => (forT (fun some_ _ => t_law_4 loads capacity count sizes some_) xs_ ()).bind fun _ => ((tcons (b2 taddI (R.ok capacity) (R.ok (1 : Int))) (tcons (b2 tmax2 (R.ok (1 : Int)) (b2 tsubI (R.ok capacity) (R.ok (1 : Int)))) (tcons (b1 tmaxL (b2 taddL (tcons (R.ok (1 : Int)) (R.ok ([] : List Int))) (R.ok loads))) (tcons (b2 tmulI (R.ok (2 : Int)) (R.ok capacity)) (R.ok ([] : List Int)))))).tr fun xs_ => (forT (fun other _ => t_law_5 loads capacity right_ other) xs_ ()).bind fun _ => (((R.ok loads).bind fun xs_ => (tmap (fun load => (R.ok (1 : Int))) xs_).calm).tr fun parted => (tite (b1 tnotB (b1 tid (b3 t_law_judged (R.ok loads) (R.ok capacity) (b3 mk3 (b1 tlen (R.ok loads)) (R.ok parted) (R.ok labels))))) ((R.ok false).tr fun r_ => .rt r_) (tite (b1 tnotB (b1 tid (b3 t_law_judged (R.ok loads) (R.ok capacity) (b3 mk3 (b1 tlen (R.ok loads)) (R.ok parted) ((b1 trange1 (b2 taddI (b1 tlen (R.ok loads)) (R.ok (1 : Int)))).bind fun xs_ => (tmap (fun k => (R.ok k)) xs_).calm))))) ((R.ok false).tr fun r_ => .rt r_) (.nx ()))))))))))))
abbrev E_law_8 (script : (List Int)) : Unit → OEnv := fun s_ => match s_ with | _ => [some (oF script), none, none, none, none, none, none, none, none, none, none, none, none, none, none, none, none]
def t_law (script : (List Int)) : R Bool := TR.fn (l := Empty) (σ := Unit) ((tcons (R.ok (0 : Int)) (tcons (R.ok (3 : Int)) (R.ok ([] : List Int)))).tr fun xs_ => (forT (fun at_ _ => t_law_8 script at_) xs_ ()).bind fun _ => ((R.ok true).tr fun r_ => .rt r_)) (fun _ => .stuck)
end
theorem ty_fed_until_1 (loads : (List Int)) (capacity : Int) (at_ : Int) (total : Int) {Z : OEnv → Prop} : SQ (fun s ρ => kill [4] ρ = E_fed_until_1 loads capacity s) (fun s ρ => ρ = E_fed_until_1 loads capacity s) (fun o (b : Int) => O.data o = Enc.e b) (fun _ => True) (b_fed_until_1 [some (oF loads), some (oF capacity), none, some (oF total), some (oF at_)]) (t_fed_until_1 loads capacity at_ total) := by
  unfold b_fed_until_1 t_fed_until_1
  exact (q_aug 3 total (t_exF (t_2 o_idx (t_var 0 loads) (t_var 4 at_))) trivial fun total => (q_at (ρ' := [some (oF loads), some (oF capacity), none, some (oF total), some (oF at_)]) rfl (q_end (q_if (t_tst (t_2 o_gtI (t_varO 3 oF total dF) (t_varO 1 oF capacity dF))) trivial (q_ret (f := fun r_ => (r_ : Int)) (p_x (t_exF (t_var 4 at_))) trivial (fun _ => dF _)) (q_pre (q_at (ρ' := [some (oF loads), some (oF capacity), none, some (oF total), none]) rfl (q_nxs (q_nx total rfl))))))))
theorem ty_fed_until (loads : (List Int)) (capacity : Int) (start : Int) : TEq (m_fed_until [Enc.e loads, Enc.e capacity, Enc.e start]) (t_fed_until loads capacity start) := by
  rw [r_fed_until]
  unfold g_fed_until t_fed_until
  exact fn_T (E := fun _ _ => True) (L := fun _ _ => True) (q_set (p_x (t_exF (t_c (0 : Int)))) trivial fun total => (q_at (ρ' := [some (oF loads), some (oF capacity), some (oF start), some (oF total), none]) rfl (q_forK (E_fed_until_1 loads capacity) (fun at_ => [(4, Enc.e at_)]) total (t_x2 o_range2 (t_exF (t_var 2 start)) (t_exF (t_call1 o_len (t_var 0 loads)))) trivial rfl (fun at_ => rfl) (fun total => rfl) (fun at_ total => ty_fed_until_1 loads capacity at_ total (Z := fun _ => True)) fun total => (q_at (ρ' := [some (oF loads), some (oF capacity), none, some (oF total), none]) rfl (q_pre0 (q_at (ρ' := [some (oF loads), none, none, none, none]) rfl (q_end (q_ret (f := fun r_ => (r_ : Int)) (p_x (t_exF (t_call1 o_len (t_var 0 loads)))) trivial (fun _ => dF _))))))))) (fun _ => trivial)
theorem ty_judge_labels_from (loads : (List Int)) (capacity : Int) (labels : (List Int)) (start : Int) : TEq (m_judge_labels_from [Enc.e loads, Enc.e capacity, Enc.e labels, Enc.e start]) (t_judge_labels_from loads capacity labels start) := by
  rw [r_judge_labels_from]
  unfold g_judge_labels_from t_judge_labels_from
  exact fn_T (E := fun _ _ => True) (L := fun _ _ => True) (q_set (p_x (t_exF (t_call3 ty_fed_until (t_var 0 loads) (t_var 1 capacity) (t_var 3 start)))) trivial fun stop => (q_at (ρ' := [some (oF loads), some (oF capacity), some (oF labels), some (oF start), some (oF stop), none]) rfl (q_end (q_ret (f := fun r_ => (r_ : Bool)) (p_x (t_exF (t_call1 o_all (t_list (t_map (fun at_ => [(5, Enc.e at_)]) (t_i2 o_range2 (t_2 o_addI (t_var 3 start) (t_c (1 : Int))) (t_2 o_addI (t_var 4 stop) (t_c (1 : Int)))) (fun at_ => rfl) (fun at_ => (t_2 o_leI (t_2 o_idx (t_var 2 labels) (t_var 5 at_)) (t_2 o_addI (t_2 o_idx (t_var 2 labels) (t_var 3 start)) (t_c (1 : Int)))))))))) trivial (fun _ => dF _))))) (fun _ => trivial)
theorem ty_judge_booster_labels (loads : (List Int)) (capacity : Int) (labels : (List Int)) : TEq (m_judge_booster_labels [Enc.e loads, Enc.e capacity, Enc.e labels]) (t_judge_booster_labels loads capacity labels) := by
  rw [r_judge_booster_labels]
  unfold g_judge_booster_labels t_judge_booster_labels
  exact fn_T (E := fun _ _ => True) (L := fun _ _ => True) (q_if (t_tor (t_tst (t_2 o_ne (t_call1 o_len (t_varO 2 oF labels dF)) (t_2 o_addI (t_call1 o_len (t_varO 0 oF loads dF)) (t_c (1 : Int))))) (t_tst (t_2 o_ne (t_2 o_idx (t_varO 2 oF labels dF) (t_c (0 : Int))) (t_c (0 : Int))))) trivial (q_ret (f := fun r_ => (r_ : Bool)) (p_x (t_exF (t_c false))) trivial (fun _ => dF _)) (q_nxs (q_end (q_ret (f := fun r_ => (r_ : Bool)) (p_x (t_exF (t_call1 o_all (t_list (t_map (fun start => [(3, Enc.e start)]) (t_i1 o_range1 (t_call1 o_len (t_var 0 loads))) (fun start => rfl) (fun start => (t_call4 ty_judge_labels_from (t_var 0 loads) (t_var 1 capacity) (t_var 2 labels) (t_var 3 start)))))))) trivial (fun _ => dF _))))) (fun _ => trivial)
theorem ty_judge_sizes_1 (loads : (List Int)) (capacity : Int) (size : Int) (at_ : Int) {Z : OEnv → Prop} : SQ (fun s ρ => kill [4] ρ = E_judge_sizes_1 loads capacity s) (fun s ρ => ρ = E_judge_sizes_1 loads capacity s) (fun o (b : Bool) => O.data o = Enc.e b) (fun _ => True) (b_judge_sizes_1 [some (oF loads), some (oF capacity), none, some (oF at_), some (oF size)]) (t_judge_sizes_1 loads capacity size at_) := by
  unfold b_judge_sizes_1 t_judge_sizes_1
  exact (q_if (t_tor (t_tst (t_2 o_ltI (t_varO 4 oF size dF) (t_c (1 : Int)))) (t_tor (t_tst (t_2 o_gtI (t_2 o_addI (t_varO 3 oF at_ dF) (t_varO 4 oF size dF)) (t_call1 o_len (t_varO 0 oF loads dF)))) (t_tst (t_2 o_gtI (t_call1 o_sum (t_slice (t_varO 0 oF loads dF) (t_part (t_varO 3 oF at_ dF)) (t_part (t_2 o_addI (t_varO 3 oF at_ dF) (t_varO 4 oF size dF))))) (t_varO 1 oF capacity dF))))) trivial (q_ret (f := fun r_ => (r_ : Bool)) (p_x (t_exF (t_c false))) trivial (fun _ => dF _)) (q_pre (q_at (ρ' := [some (oF loads), some (oF capacity), none, some (oF at_), some (oF size)]) rfl (q_nxs (q_end (q_aug 3 at_ (t_exF (t_var 4 size)) trivial fun at_ => (q_at (ρ' := [some (oF loads), some (oF capacity), none, some (oF at_), some (oF size)]) rfl (q_nx at_ rfl))))))))
theorem ty_judge_sizes (loads : (List Int)) (capacity : Int) (sizes : (List Int)) : TEq (m_judge_sizes [Enc.e loads, Enc.e capacity, Enc.e sizes]) (t_judge_sizes loads capacity sizes) := by
  rw [r_judge_sizes]
  unfold g_judge_sizes t_judge_sizes
  exact fn_T (E := fun _ _ => True) (L := fun _ _ => True) (q_set (p_x (t_exF (t_c (0 : Int)))) trivial fun at_ => (q_at (ρ' := [some (oF loads), some (oF capacity), some (oF sizes), some (oF at_), none]) rfl (q_forK (E_judge_sizes_1 loads capacity) (fun size => [(4, Enc.e size)]) at_ (t_isq (t_var 2 sizes)) trivial rfl (fun size => rfl) (fun at_ => rfl) (fun size at_ => ty_judge_sizes_1 loads capacity size at_ (Z := fun _ => True)) fun at_ => (q_at (ρ' := [some (oF loads), some (oF capacity), none, some (oF at_), none]) rfl (q_pre0 (q_at (ρ' := [some (oF loads), none, none, some (oF at_), none]) rfl (q_end (q_ret (f := fun r_ => (r_ : Bool)) (p_x (t_exF (t_2 o_eq (t_var 3 at_) (t_call1 o_len (t_var 0 loads))))) trivial (fun _ => dF _))))))))) (fun _ => trivial)
theorem ty_judge_boosters (loads : (List Int)) (capacity : Int) (paper : (T3 Int (List Int) (List Int))) : TEq (m_judge_boosters [Enc.e loads, Enc.e capacity, Enc.e paper]) (t_judge_boosters loads capacity paper) := by
  rw [r_judge_boosters]
  unfold g_judge_boosters t_judge_boosters
  exact fn_T (E := fun _ _ => True) (L := fun _ _ => True) (q_tup0 (fun ⟨count, sizes, labels⟩ => [(3, Enc.e count), (4, Enc.e sizes), (5, Enc.e labels)]) (t_exF (t_var 2 paper)) trivial (fun ⟨count, sizes, labels⟩ => rfl) fun ⟨count, sizes, labels⟩ => (q_at (ρ' := [some (oF loads), some (oF capacity), some (oF paper), some (oF count), some (oF sizes), some (oF labels)]) rfl (q_if (t_tnot (t_ttr o_truB (t_call3 ty_judge_booster_labels (t_varO 0 oF loads dF) (t_varO 1 oF capacity dF) (t_varO 5 oF labels dF)))) trivial (q_ret (f := fun r_ => (r_ : Bool)) (p_x (t_exF (t_c false))) trivial (fun _ => dF _)) (q_pre (q_at (ρ' := [some (oF loads), some (oF capacity), none, some (oF count), some (oF sizes), some (oF labels)]) rfl (q_nxs (q_end (q_ret (f := fun r_ => (r_ : Bool)) (p_x (t_exF (t_vand (t_2 o_leI (t_var 3 count) (t_2 o_idx (t_var 5 labels) (t_1 o_negI (t_c (1 : Int))))) (t_vand (t_2 o_eq (t_call1 o_len (t_var 4 sizes)) (t_var 3 count)) (t_call3 ty_judge_sizes (t_var 0 loads) (t_var 1 capacity) (t_var 4 sizes)))))) trivial (fun _ => dF _))))))))) (fun _ => trivial)
theorem ty_law_cell (script : (List Int)) (k : Int) : TEq (m_law_cell [Enc.e script, Enc.e k]) (t_law_cell script k) := by
  rw [r_law_cell]
  unfold g_law_cell t_law_cell
  exact fn_T (E := fun _ _ => True) (L := fun _ _ => True) (q_if (t_tst (t_2 o_ltI (t_varO 1 oF k dF) (t_call1 o_len (t_varO 0 oF script dF)))) trivial (q_ret (f := fun r_ => (r_ : Int)) (p_x (t_exF (t_call1 o_int (t_2 o_idx (t_var 0 script) (t_var 1 k))))) trivial (fun _ => dF _)) (q_pre (q_at (ρ' := [none, none]) rfl (q_nxs (q_end (q_ret (f := fun r_ => (r_ : Int)) (p_x (t_exF (t_c (0 : Int)))) trivial (fun _ => dF _))))))) (fun _ => trivial)
theorem ty_law_numbers_1 (limit : Int) (k : Int) (cell : Int) (found : (List Int)) {Z : OEnv → Prop} : SQ (fun s ρ => kill [4] ρ = E_law_numbers_1 limit s) (fun s ρ => ρ = E_law_numbers_1 limit s) (fun o (b : (List Int)) => O.data o = Enc.e b) (fun _ => True) (b_law_numbers_1 [some (oF cell), none, some (oF limit), some ((oL oF) found), some (oF k), none]) (t_law_numbers_1 limit k cell found) := by
  unfold b_law_numbers_1 t_law_numbers_1
  exact (q_app (ox := oF) 3 found (p_x (t_exF (t_2 o_modI (t_call1 o_int (t_var 0 cell)) (t_var 2 limit)))) trivial fun found => (q_at (ρ' := [some (oF cell), none, some (oF limit), some ((oL oF) found), some (oF k), none]) rfl (q_end (q_set (p_x (t_exF (t_2 o_fdivI (t_call1 o_int (t_var 0 cell)) (t_var 2 limit)))) trivial fun cell => (q_at (ρ' := [some (oF cell), none, some (oF limit), some ((oL oF) found), some (oF k), none]) rfl (q_nx (cell, found) rfl))))))
theorem ty_law_numbers_2 (cell : Int) (limit : Int) (k : Int) (found : (List Int)) {Z : OEnv → Prop} : SQ (fun s ρ => kill [4, 5] ρ = E_law_numbers_2 cell limit s) (fun s ρ => ρ = E_law_numbers_2 cell limit s) (fun o (b : (List Int)) => O.data o = Enc.e b) (fun _ => True) (b_law_numbers_2 [some (oF cell), none, some (oF limit), some ((oL oF) found), some (oF k), none]) (t_law_numbers_2 cell limit k found) := by
  unfold b_law_numbers_2 t_law_numbers_2
  exact (q_set (p_x (t_exF (t_2 o_modI (t_call1 o_int (t_2 o_addI (t_2 o_addI (t_2 o_mulI (t_var 0 cell) (t_c (48271 : Int))) (t_2 o_mulI (t_var 4 k) (t_c (69621 : Int)))) (t_c (7 : Int)))) (t_c (2147483647 : Int))))) trivial fun mixed => (q_at (ρ' := [some (oF cell), none, some (oF limit), some ((oL oF) found), some (oF k), some (oF mixed)]) rfl (q_set (p_x (t_exF (t_2 o_modI (t_call1 o_int (t_2 o_addI (t_2 o_addI (t_2 o_addI (t_2 o_mulI (t_var 5 mixed) (t_var 5 mixed)) (t_2 o_mulI (t_var 5 mixed) (t_c (40692 : Int)))) (t_2 o_mulI (t_var 4 k) (t_c (16807 : Int)))) (t_c (11 : Int)))) (t_c (2147483399 : Int))))) trivial fun mixed => (q_at (ρ' := [some (oF cell), none, some (oF limit), some ((oL oF) found), some (oF k), some (oF mixed)]) rfl (q_end (q_app (ox := oF) 3 found (p_x (t_exF (t_2 o_modI (t_call1 o_int (t_2 o_fdivI (t_var 5 mixed) (t_c (32 : Int)))) (t_var 2 limit)))) trivial fun found => (q_at (ρ' := [some (oF cell), none, some (oF limit), some ((oL oF) found), some (oF k), some (oF mixed)]) rfl (q_nx found rfl))))))))
theorem ty_law_numbers (cell : Int) (count : Int) (limit : Int) : TEq (m_law_numbers [Enc.e cell, Enc.e count, Enc.e limit]) (t_law_numbers cell count limit) := by
  rw [r_law_numbers]
  unfold g_law_numbers t_law_numbers
  exact fn_T (E := fun _ _ => True) (L := fun _ _ => True) (q_set (p_frF (t_nil (α := Int))) trivial fun found => (q_at (ρ' := [some (oF cell), some (oF count), some (oF limit), some ((oL oF) found), none, none]) rfl (q_if (t_tst (t_2 o_geI (t_varO 0 oF cell dF) (t_2 o_powI (t_c (10 : Int)) (t_c (18 : Int))))) trivial (q_assoc (q_forK (E_law_numbers_1 limit) (fun k => [(4, Enc.e k)]) (cell, found) (t_x1 o_range1 (t_exF (t_var 1 count))) trivial rfl (fun k => rfl) (fun ⟨cell, found⟩ => rfl) (fun k ⟨cell, found⟩ => ty_law_numbers_1 limit k cell found (Z := fun _ => True)) fun ⟨cell, found⟩ => (q_at (ρ' := [some (oF cell), none, some (oF limit), some ((oL oF) found), none, none]) rfl (q_pre (q_at (ρ' := [none, none, none, some ((oL oF) found), none, none]) rfl (q_pre (q_at (freeze1 (ox := (oL oF)) 3 found (dL dF)) (q_at (ρ' := [none, none, none, some (oF found), none, none]) rfl (q_ret (f := fun r_ => (r_ : (List Int))) (p_x (t_exF (t_var 3 found))) trivial (fun _ => dF _)))))))))) (q_nxs (q_forK (E_law_numbers_2 cell limit) (fun k => [(4, Enc.e k)]) found (t_x1 o_range1 (t_exF (t_var 1 count))) trivial rfl (fun k => rfl) (fun found => rfl) (fun k found => ty_law_numbers_2 cell limit k found (Z := fun _ => True)) fun found => (q_at (ρ' := [some (oF cell), none, some (oF limit), some ((oL oF) found), none, none]) rfl (q_pre0 (q_at (ρ' := [none, none, none, some ((oL oF) found), none, none]) rfl (q_pre0 (q_at (freeze1 (ox := (oL oF)) 3 found (dL dF)) (q_at (ρ' := [none, none, none, some (oF found), none, none]) rfl (q_end (q_ret (f := fun r_ => (r_ : (List Int))) (p_x (t_exF (t_var 3 found))) trivial (fun _ => dF _)))))))))))))) (fun _ => trivial)
theorem ty_law_loads_1 (cell : Int) (draws : (List Int)) (picks : (List Int)) (k : Int) (found : (List Int)) {Z : OEnv → Prop} : SQ (fun s ρ => kill [7] ρ = E_law_loads_1 cell draws picks s) (fun s ρ => ρ = E_law_loads_1 cell draws picks s) (fun o (b : ((List Int) × Int)) => O.data o = Enc.e b) (fun _ => True) (b_law_loads_1 [none, none, some (oF cell), some (oF draws), none, some (oF picks), some ((oL oF) found), some (oF k), none]) (t_law_loads_1 cell draws picks k found) := by
  unfold b_law_loads_1 t_law_loads_1
  exact (q_end (q_app (ox := oF) 6 found (p_x (t_exF (t_2 o_idx (t_list (t_cons (t_2 o_modI (t_2 o_idx (t_var 5 picks) (t_var 7 k)) (t_c (6 : Int))) (t_cons (t_2 o_modI (t_2 o_fdivI (t_2 o_idx (t_var 5 picks) (t_var 7 k)) (t_c (6 : Int))) (t_c (2 : Int))) (t_cons (t_2 o_idx (t_var 5 picks) (t_var 7 k)) (t_cons (t_2 o_modI (t_2 o_fdivI (t_call1 o_int (t_var 2 cell)) (t_2 o_addI (t_var 7 k) (t_c (3 : Int)))) (t_2 o_powI (t_c (10 : Int)) (t_c (30 : Int)))) (t_nil (α := Int))))))) (t_2 o_modI (t_2 o_idx (t_var 3 draws) (t_c (1 : Int))) (t_c (4 : Int)))))) trivial fun found => (q_at (ρ' := [none, none, some (oF cell), some (oF draws), none, some (oF picks), some ((oL oF) found), some (oF k), none]) rfl (q_nx found rfl))))
theorem ty_law_loads (script : (List Int)) (at_ : Int) : TEq (m_law_loads [Enc.e script, Enc.e at_]) (t_law_loads script at_) := by
  rw [r_law_loads]
  unfold g_law_loads t_law_loads
  exact fn_T (E := fun _ _ => True) (L := fun _ _ => True) (q_set (p_x (t_exF (t_call2 ty_law_cell (t_var 0 script) (t_var 1 at_)))) trivial fun cell => (q_at (ρ' := [some (oF script), some (oF at_), some (oF cell), none, none, none, none, none, none]) rfl (q_set (p_x (t_exF (t_call3 ty_law_numbers (t_var 2 cell) (t_c (4 : Int)) (t_c (5040 : Int))))) trivial fun draws => (q_at (ρ' := [some (oF script), some (oF at_), some (oF cell), some (oF draws), none, none, none, none, none]) rfl (q_set (p_x (t_exF (t_2 o_modI (t_2 o_idx (t_var 3 draws) (t_c (0 : Int))) (t_c (13 : Int))))) trivial fun count => (q_at (ρ' := [some (oF script), some (oF at_), some (oF cell), some (oF draws), some (oF count), none, none, none, none]) rfl (q_set (p_x (t_exF (t_call3 ty_law_numbers (t_call2 ty_law_cell (t_var 0 script) (t_2 o_addI (t_var 1 at_) (t_c (1 : Int)))) (t_var 4 count) (t_c (5040 : Int))))) trivial fun picks => (q_at (ρ' := [some (oF script), some (oF at_), some (oF cell), some (oF draws), some (oF count), some (oF picks), none, none, none]) rfl (q_set (p_frF (t_nil (α := Int))) trivial fun found => (q_at (ρ' := [some (oF script), some (oF at_), some (oF cell), some (oF draws), some (oF count), some (oF picks), some ((oL oF) found), none, none]) rfl (q_pre0 (q_at (ρ' := [none, none, some (oF cell), some (oF draws), some (oF count), some (oF picks), some ((oL oF) found), none, none]) rfl (q_forK (E_law_loads_1 cell draws picks) (fun k => [(7, Enc.e k)]) found (t_x1 o_range1 (t_exF (t_var 4 count))) trivial rfl (fun k => rfl) (fun found => rfl) (fun k found => ty_law_loads_1 cell draws picks k found (Z := fun _ => True)) fun found => (q_at (ρ' := [none, none, some (oF cell), some (oF draws), none, some (oF picks), some ((oL oF) found), none, none]) rfl (q_pre0 (q_at (ρ' := [none, none, none, some (oF draws), none, none, some ((oL oF) found), none, none]) rfl (q_pre0 (q_at (freeze1 (ox := (oL oF)) 6 found (dL dF)) (q_at (ρ' := [none, none, none, some (oF draws), none, none, some (oF found), none, none]) rfl (q_set (p_x (t_exF (t_call1 o_maxL (t_2 o_addL (t_list (t_cons (t_c (1 : Int)) (t_nil (α := Int)))) (t_var 6 found))))) trivial fun top => (q_at (ρ' := [none, none, none, some (oF draws), none, none, some (oF found), none, some (oF top)]) rfl (q_end (q_ret (f := fun r_ => (r_ : ((List Int) × Int))) (p_x (t_exF (t_tup2 (t_var 6 found) (t_2 o_idx (t_list (t_cons (t_var 8 top) (t_cons (t_2 o_addI (t_var 8 top) (t_2 o_modI (t_2 o_idx (t_var 3 draws) (t_c (2 : Int))) (t_c (4 : Int)))) (t_cons (t_2 o_addI (t_2 o_mulI (t_c (2 : Int)) (t_var 8 top)) (t_2 o_modI (t_2 o_idx (t_var 3 draws) (t_c (2 : Int))) (t_c (3 : Int)))) (t_cons (t_2 o_mulI (t_c (3 : Int)) (t_var 8 top)) (t_nil (α := Int))))))) (t_2 o_modI (t_2 o_idx (t_var 3 draws) (t_c (3 : Int))) (t_c (4 : Int))))))) trivial (fun _ => dF _)))))))))))))))))))))))) (fun _ => trivial)
theorem ty_law_paper_1 (capacity : Int) (load : Int) (sizes : (List Int)) (labels : (List Int)) (total : Int) {Z : OEnv → Prop} : SQ (fun s ρ => kill [5] ρ = E_law_paper_1 capacity s) (fun s ρ => ρ = E_law_paper_1 capacity s) (fun o (b : (T3 Int (List Int) (List Int))) => O.data o = Enc.e b) (fun _ => True) (b_law_paper_1 [none, some (oF capacity), some ((oL oF) sizes), some ((oL oF) labels), some (oF total), some (oF load)]) (t_law_paper_1 capacity load sizes labels total) := by
  unfold b_law_paper_1 t_law_paper_1
  exact (q_join (τ := ((List Int) × Int)) (Es := fun s_ => match s_ with | ⟨sizes, total⟩ => [none, some (oF capacity), some ((oL oF) sizes), some ((oL oF) labels), some (oF total), some (oF load)]) (q_end (q_if (t_tor (t_tst (t_2 o_eq (t_call1 o_len (t_varO 2 (oL oF) sizes (dL dF))) (t_c (0 : Int)))) (t_tst (t_2 o_gtI (t_2 o_addI (t_varO 4 oF total dF) (t_varO 5 oF load dF)) (t_varO 1 oF capacity dF)))) trivial (q_asn (q_app (ox := oF) 2 sizes (p_x (t_exF (t_c (0 : Int)))) trivial fun sizes => (q_at (ρ' := [none, some (oF capacity), some ((oL oF) sizes), some ((oL oF) labels), some (oF total), some (oF load)]) rfl (q_set (p_x (t_exF (t_c (0 : Int)))) trivial fun total => (q_at (ρ' := [none, some (oF capacity), some ((oL oF) sizes), some ((oL oF) labels), some (oF total), some (oF load)]) rfl (q_pre0 (q_at (ρ' := [none, some (oF capacity), some ((oL oF) sizes), some ((oL oF) labels), some (oF total), some (oF load)]) rfl (q_nx (sizes, total) rfl)))))))) (q_asn (q_pre0 (q_at (ρ' := [none, some (oF capacity), some ((oL oF) sizes), some ((oL oF) labels), some (oF total), some (oF load)]) rfl (q_nx (sizes, total) rfl)))))) fun ⟨sizes, total⟩ => (q_setI (ox := oF) 2 sizes (p_x (t_exB (t_2 o_addI (t_2 o_idx (t_varO 2 (oL oF) sizes (dL dF)) (t_2 o_subI (t_call1 o_len (t_varO 2 (oL oF) sizes (dL dF))) (t_c (1 : Int)))) (t_c (1 : Int))))) (t_exB (t_2 o_subI (t_call1 o_len (t_varO 2 (oL oF) sizes (dL dF))) (t_c (1 : Int)))) trivial fun sizes => (q_at (ρ' := [none, some (oF capacity), some ((oL oF) sizes), some ((oL oF) labels), some (oF total), some (oF load)]) rfl (q_set (p_x (t_exF (t_2 o_addI (t_var 4 total) (t_var 5 load)))) trivial fun total => (q_at (ρ' := [none, some (oF capacity), some ((oL oF) sizes), some ((oL oF) labels), some (oF total), some (oF load)]) rfl (q_end (q_app (ox := oF) 3 labels (p_x (t_exB (t_call1 o_len (t_varO 2 (oL oF) sizes (dL dF))))) trivial fun labels => (q_at (ρ' := [none, some (oF capacity), some ((oL oF) sizes), some ((oL oF) labels), some (oF total), some (oF load)]) rfl (q_nx (sizes, labels, total) rfl)))))))))
theorem ty_law_paper (loads : (List Int)) (capacity : Int) : TEq (m_law_paper [Enc.e loads, Enc.e capacity]) (t_law_paper loads capacity) := by
  rw [r_law_paper]
  unfold g_law_paper t_law_paper
  exact fn_T (E := fun _ _ => True) (L := fun _ _ => True) (q_set (p_frF (t_nil (α := Int))) trivial fun sizes => (q_at (ρ' := [some (oF loads), some (oF capacity), some ((oL oF) sizes), none, none, none]) rfl (q_set (p_frF (t_cons (t_c (0 : Int)) (t_nil (α := Int)))) trivial fun labels => (q_at (ρ' := [some (oF loads), some (oF capacity), some ((oL oF) sizes), some ((oL oF) labels), none, none]) rfl (q_set (p_x (t_exF (t_c (0 : Int)))) trivial fun total => (q_at (ρ' := [some (oF loads), some (oF capacity), some ((oL oF) sizes), some ((oL oF) labels), some (oF total), none]) rfl (q_forK (E_law_paper_1 capacity) (fun load => [(5, Enc.e load)]) (sizes, labels, total) (t_isq (t_var 0 loads)) trivial rfl (fun load => rfl) (fun ⟨sizes, labels, total⟩ => rfl) (fun load ⟨sizes, labels, total⟩ => ty_law_paper_1 capacity load sizes labels total (Z := fun _ => True)) fun ⟨sizes, labels, total⟩ => (q_at (ρ' := [none, some (oF capacity), some ((oL oF) sizes), some ((oL oF) labels), some (oF total), none]) rfl (q_pre0 (q_at (ρ' := [none, none, some ((oL oF) sizes), some ((oL oF) labels), none, none]) rfl (q_pre0 (q_at ((freeze1 (ox := (oL oF)) 2 sizes (dL dF)).trans (freeze1 (ox := (oL oF)) 3 labels (dL dF))) (q_at (ρ' := [none, none, some (oF sizes), some (oF labels), none, none]) rfl (q_end (q_ret (f := fun r_ => (r_ : (T3 Int (List Int) (List Int)))) (p_x (t_exF (t_tup3 (t_call1 o_len (t_var 2 sizes)) (t_var 2 sizes) (t_var 3 labels)))) trivial (fun _ => dF _)))))))))))))))) (fun _ => trivial)
theorem ty_law_accepted_1 (loads : (List Int)) (capacity : Int) (sizes : (List Int)) (labels : (List Int)) (i : Int) (j : Int) {Z : OEnv → Prop} : SQ (fun s ρ => kill [7] ρ = E_law_accepted_1 loads capacity sizes labels i s) (fun s ρ => ρ = E_law_accepted_1 loads capacity sizes labels i s) (fun o (b : Bool) => O.data o = Enc.e b) (fun _ => True) (b_law_accepted_1 [some (oF loads), some (oF capacity), none, none, some (oF sizes), some (oF labels), some (oF i), some (oF j), none, none]) (t_law_accepted_1 loads capacity labels i j) := by
  unfold b_law_accepted_1 t_law_accepted_1
  exact (q_end (q_if (t_tand (t_tst (t_2 o_leI (t_call1 o_sum (t_slice (t_varO 0 oF loads dF) (t_part (t_varO 6 oF i dF)) (t_part (t_varO 7 oF j dF)))) (t_varO 1 oF capacity dF))) (t_tst (t_2 o_gtI (t_2 o_idx (t_varO 5 oF labels dF) (t_varO 7 oF j dF)) (t_2 o_addI (t_2 o_idx (t_varO 5 oF labels dF) (t_varO 6 oF i dF)) (t_c (1 : Int)))))) trivial (q_ret (f := fun r_ => (r_ : Bool)) (p_x (t_exF (t_c false))) trivial (fun _ => dF _)) (q_pre (q_at (ρ' := [some (oF loads), some (oF capacity), none, none, some (oF sizes), some (oF labels), some (oF i), none, none, none]) rfl (q_nxs (q_nx () rfl))))))
theorem ty_law_accepted_2 (loads : (List Int)) (capacity : Int) (sizes : (List Int)) (labels : (List Int)) (i : Int) {Z : OEnv → Prop} : SQ (fun s ρ => kill [6, 7] ρ = E_law_accepted_2 loads capacity sizes labels s) (fun s ρ => ρ = E_law_accepted_2 loads capacity sizes labels s) (fun o (b : Bool) => O.data o = Enc.e b) (fun _ => True) (b_law_accepted_2 [some (oF loads), some (oF capacity), none, none, some (oF sizes), some (oF labels), some (oF i), none, none, none]) (t_law_accepted_2 loads capacity labels i) := by
  unfold b_law_accepted_2 t_law_accepted_2
  exact (q_end (q_for (E_law_accepted_1 loads capacity sizes labels i) (fun j => [(7, Enc.e j)]) () (t_x2 o_range2 (t_exF (t_2 o_addI (t_var 6 i) (t_c (1 : Int)))) (t_exF (t_2 o_addI (t_call1 o_len (t_var 0 loads)) (t_c (1 : Int))))) trivial rfl (fun j => rfl) (fun _ => rfl) (fun j _ => ty_law_accepted_1 loads capacity sizes labels i j (Z := fun _ => True)) fun _ => (q_at (ρ' := [some (oF loads), some (oF capacity), none, none, some (oF sizes), some (oF labels), some (oF i), none, none, none]) rfl (q_nx () rfl))))
theorem ty_law_accepted_3 (loads : (List Int)) (capacity : Int) (size : Int) (at_ : Int) {Z : OEnv → Prop} : SQ (fun s ρ => kill [9] ρ = E_law_accepted_3 loads capacity s) (fun s ρ => ρ = E_law_accepted_3 loads capacity s) (fun o (b : Bool) => O.data o = Enc.e b) (fun _ => True) (b_law_accepted_3 [some (oF loads), some (oF capacity), none, none, none, none, none, none, some (oF at_), some (oF size)]) (t_law_accepted_3 loads capacity size at_) := by
  unfold b_law_accepted_3 t_law_accepted_3
  exact (q_if (t_tor (t_tst (t_2 o_ltI (t_varO 9 oF size dF) (t_c (1 : Int)))) (t_tst (t_2 o_gtI (t_call1 o_sum (t_slice (t_varO 0 oF loads dF) (t_part (t_varO 8 oF at_ dF)) (t_part (t_2 o_addI (t_varO 8 oF at_ dF) (t_varO 9 oF size dF))))) (t_varO 1 oF capacity dF)))) trivial (q_ret (f := fun r_ => (r_ : Bool)) (p_x (t_exF (t_c false))) trivial (fun _ => dF _)) (q_pre (q_at (ρ' := [some (oF loads), some (oF capacity), none, none, none, none, none, none, some (oF at_), some (oF size)]) rfl (q_nxs (q_end (q_set (p_x (t_exF (t_2 o_addI (t_var 8 at_) (t_var 9 size)))) trivial fun at_ => (q_at (ρ' := [some (oF loads), some (oF capacity), none, none, none, none, none, none, some (oF at_), some (oF size)]) rfl (q_nx at_ rfl))))))))
theorem ty_law_accepted (loads : (List Int)) (capacity : Int) (paper : (T3 Int (List Int) (List Int))) : TEq (m_law_accepted [Enc.e loads, Enc.e capacity, Enc.e paper]) (t_law_accepted loads capacity paper) := by
  rw [r_law_accepted]
  unfold g_law_accepted t_law_accepted
  exact fn_T (E := fun _ _ => True) (L := fun _ _ => True) (q_tup0 (fun ⟨count, sizes, labels⟩ => [(3, Enc.e count), (4, Enc.e sizes), (5, Enc.e labels)]) (t_exF (t_var 2 paper)) trivial (fun ⟨count, sizes, labels⟩ => rfl) fun ⟨count, sizes, labels⟩ => (q_at (ρ' := [some (oF loads), some (oF capacity), some (oF paper), some (oF count), some (oF sizes), some (oF labels), none, none, none, none]) rfl (q_if (t_tor (t_tst (t_2 o_ne (t_call1 o_len (t_varO 5 oF labels dF)) (t_2 o_addI (t_call1 o_len (t_varO 0 oF loads dF)) (t_c (1 : Int))))) (t_tor (t_tst (t_2 o_ne (t_2 o_idx (t_varO 5 oF labels dF) (t_c (0 : Int))) (t_c (0 : Int)))) (t_tor (t_tst (t_2 o_gtI (t_varO 3 oF count dF) (t_2 o_idx (t_varO 5 oF labels dF) (t_call1 o_len (t_varO 0 oF loads dF))))) (t_tst (t_2 o_ne (t_call1 o_len (t_varO 4 oF sizes dF)) (t_varO 3 oF count dF)))))) trivial (q_ret (f := fun r_ => (r_ : Bool)) (p_x (t_exF (t_c false))) trivial (fun _ => dF _)) (q_pre (q_at (ρ' := [some (oF loads), some (oF capacity), none, none, some (oF sizes), some (oF labels), none, none, none, none]) rfl (q_nxs (q_for (E_law_accepted_2 loads capacity sizes labels) (fun i => [(6, Enc.e i)]) () (t_x1 o_range1 (t_exF (t_call1 o_len (t_var 0 loads)))) trivial rfl (fun i => rfl) (fun _ => rfl) (fun i _ => ty_law_accepted_2 loads capacity sizes labels i (Z := fun _ => True)) fun _ => (q_at (ρ' := [some (oF loads), some (oF capacity), none, none, some (oF sizes), some (oF labels), none, none, none, none]) rfl (q_pre0 (q_at (ρ' := [some (oF loads), some (oF capacity), none, none, some (oF sizes), none, none, none, none, none]) rfl (q_set (p_x (t_exF (t_c (0 : Int)))) trivial fun at_ => (q_at (ρ' := [some (oF loads), some (oF capacity), none, none, some (oF sizes), none, none, none, some (oF at_), none]) rfl (q_forK (E_law_accepted_3 loads capacity) (fun size => [(9, Enc.e size)]) at_ (t_isq (t_var 4 sizes)) trivial rfl (fun size => rfl) (fun at_ => rfl) (fun size at_ => ty_law_accepted_3 loads capacity size at_ (Z := fun _ => True)) fun at_ => (q_at (ρ' := [some (oF loads), some (oF capacity), none, none, none, none, none, none, some (oF at_), none]) rfl (q_pre0 (q_at (ρ' := [some (oF loads), none, none, none, none, none, none, none, some (oF at_), none]) rfl (q_end (q_ret (f := fun r_ => (r_ : Bool)) (p_x (t_exF (t_2 o_eq (t_var 8 at_) (t_call1 o_len (t_var 0 loads))))) trivial (fun _ => dF _))))))))))))))))))) (fun _ => trivial)
theorem ty_law_other_sizes_1 (sizes : (List Int)) (spot : Int) (pair : (List Int)) (found : (List (List Int))) {Z : OEnv → Prop} : SQ (fun s ρ => kill [7] ρ = E_law_other_sizes_1 sizes spot s) (fun s ρ => ρ = E_law_other_sizes_1 sizes spot s) (fun o (b : (List (List Int))) => O.data o = Enc.e b) (fun _ => True) (b_law_other_sizes_1 [some (oF sizes), none, some ((oL oF) found), none, some (oF spot), none, none, some (oF pair)]) (t_law_other_sizes_1 sizes spot pair found) := by
  unfold b_law_other_sizes_1 t_law_other_sizes_1
  exact (q_end (q_app (ox := oF) 2 found (p_x (t_exF (t_2 o_addL (t_2 o_addL (t_slice (t_var 0 sizes) (t_part (t_c (0 : Int))) (t_part (t_var 4 spot))) (t_var 7 pair)) (t_slice (t_var 0 sizes) (t_part (t_2 o_addI (t_var 4 spot) (t_c (2 : Int)))) t_nopart)))) trivial fun found => (q_at (ρ' := [some (oF sizes), none, some ((oL oF) found), none, some (oF spot), none, none, some (oF pair)]) rfl (q_nx found rfl))))
theorem ty_law_other_sizes (sizes : (List Int)) (draws : (List Int)) : TEq (m_law_other_sizes [Enc.e sizes, Enc.e draws]) (t_law_other_sizes sizes draws) := by
  rw [r_law_other_sizes]
  unfold g_law_other_sizes t_law_other_sizes
  exact fn_T (E := fun _ _ => True) (L := fun _ _ => True) (q_set (p_x (t_exF (t_list (t_cons (t_var 0 sizes) (t_cons (t_list (t_nil (α := Int))) (t_cons (t_2 o_addL (t_var 0 sizes) (t_list (t_cons (t_c (0 : Int)) (t_nil (α := Int))))) (t_cons (t_2 o_addL (t_var 0 sizes) (t_list (t_cons (t_c (1 : Int)) (t_nil (α := Int))))) (t_cons (t_2 o_addL (t_list (t_cons (t_c (0 : Int)) (t_nil (α := Int)))) (t_var 0 sizes)) (t_cons (t_2 o_addL (t_var 0 sizes) (t_list (t_cons (t_1 o_negI (t_c (1 : Int))) (t_cons (t_c (1 : Int)) (t_nil (α := Int)))))) (t_cons (t_list (t_cons (t_call1 o_sum (t_var 0 sizes)) (t_nil (α := Int)))) (t_nil (α := (List Int))))))))))))) trivial fun found => (q_at (ρ' := [some (oF sizes), some (oF draws), some (oF found), none, none, none, none, none]) rfl (q_join (τ := (List (List Int))) (Es := fun s_ => match s_ with | found => [none, none, some (oF found), none, none, none, none, none]) (q_end (q_if (t_tst (t_2 o_gtI (t_call1 o_len (t_varO 0 oF sizes dF)) (t_c (0 : Int)))) trivial (q_asn (q_set (p_x (t_exF (t_2 o_modI (t_2 o_idx (t_var 1 draws) (t_c (0 : Int))) (t_call1 o_len (t_var 0 sizes))))) trivial fun at_ => (q_at (ρ' := [some (oF sizes), some (oF draws), some (oF found), some (oF at_), none, none, none, none]) rfl (q_set (p_frF (t_fcat (t_var 2 found) (t_list (t_cons (t_2 o_addL (t_slice (t_var 0 sizes) (t_part (t_c (0 : Int))) (t_part (t_var 3 at_))) (t_slice (t_var 0 sizes) (t_part (t_2 o_addI (t_var 3 at_) (t_c (1 : Int)))) t_nopart)) (t_cons (t_2 o_addL (t_2 o_addL (t_slice (t_var 0 sizes) (t_part (t_c (0 : Int))) (t_part (t_var 3 at_))) (t_list (t_cons (t_2 o_addI (t_2 o_idx (t_var 0 sizes) (t_var 3 at_)) (t_c (1 : Int))) (t_nil (α := Int))))) (t_slice (t_var 0 sizes) (t_part (t_2 o_addI (t_var 3 at_) (t_c (1 : Int)))) t_nopart)) (t_cons (t_2 o_addL (t_2 o_addL (t_slice (t_var 0 sizes) (t_part (t_c (0 : Int))) (t_part (t_var 3 at_))) (t_list (t_cons (t_c (0 : Int)) (t_nil (α := Int))))) (t_slice (t_var 0 sizes) (t_part (t_var 3 at_)) t_nopart)) (t_nil (α := (List Int))))))))) trivial fun found => (q_at (ρ' := [some (oF sizes), some (oF draws), some ((oL oF) found), some (oF at_), none, none, none, none]) rfl (q_app (ox := oF) 2 found (p_x (t_exF (t_2 o_addL (t_2 o_addL (t_slice (t_var 0 sizes) (t_part (t_c (0 : Int))) (t_part (t_var 3 at_))) (t_list (t_cons (t_c (1 : Int)) (t_cons (t_2 o_subI (t_2 o_idx (t_var 0 sizes) (t_var 3 at_)) (t_c (1 : Int))) (t_nil (α := Int)))))) (t_slice (t_var 0 sizes) (t_part (t_2 o_addI (t_var 3 at_) (t_c (1 : Int)))) t_nopart)))) trivial fun found => (q_at (ρ' := [some (oF sizes), some (oF draws), some ((oL oF) found), some (oF at_), none, none, none, none]) rfl (q_end (q_if (t_tst (t_2 o_gtI (t_call1 o_len (t_varO 0 oF sizes dF)) (t_c (1 : Int)))) trivial (q_assoc (q_set (p_x (t_exF (t_2 o_modI (t_2 o_idx (t_var 1 draws) (t_c (1 : Int))) (t_2 o_subI (t_call1 o_len (t_var 0 sizes)) (t_c (1 : Int)))))) trivial fun spot => (q_at (ρ' := [some (oF sizes), some (oF draws), some ((oL oF) found), some (oF at_), some (oF spot), none, none, none]) rfl (q_assoc (q_tup cL2 (fun ⟨one, other⟩ => [(5, Enc.e one), (6, Enc.e other)]) (t_exF (t_slice (t_var 0 sizes) (t_part (t_var 4 spot)) (t_part (t_2 o_addI (t_var 4 spot) (t_c (2 : Int)))))) trivial cL2_k fun ⟨one, other⟩ => (q_at (ρ' := [some (oF sizes), some (oF draws), some ((oL oF) found), some (oF at_), some (oF spot), some (oF one), some (oF other), none]) rfl (q_pre (q_at (ρ' := [some (oF sizes), none, some ((oL oF) found), none, some (oF spot), some (oF one), some (oF other), none]) rfl (q_assoc (q_forK (E_law_other_sizes_1 sizes spot) (fun pair => [(7, Enc.e pair)]) found (t_isq (t_list (t_cons (t_list (t_cons (t_2 o_subI (t_var 5 one) (t_c (1 : Int))) (t_cons (t_2 o_addI (t_var 6 other) (t_c (1 : Int))) (t_nil (α := Int))))) (t_cons (t_list (t_cons (t_2 o_addI (t_var 5 one) (t_c (1 : Int))) (t_cons (t_2 o_subI (t_var 6 other) (t_c (1 : Int))) (t_nil (α := Int))))) (t_cons (t_list (t_cons (t_2 o_addI (t_var 5 one) (t_var 6 other)) (t_nil (α := Int)))) (t_nil (α := (List Int)))))))) trivial rfl (fun pair => rfl) (fun found => rfl) (fun pair found => ty_law_other_sizes_1 sizes spot pair found (Z := fun _ => True)) fun found => (q_at (ρ' := [some (oF sizes), none, some ((oL oF) found), none, some (oF spot), none, none, none]) rfl (q_pre (q_at (freeze1 (ox := (oL oF)) 2 found (dL dF)) (q_at (ρ' := [some (oF sizes), none, some (oF found), none, some (oF spot), none, none, none]) rfl (q_pre (q_at (ρ' := [none, none, some (oF found), none, none, none, none, none]) rfl (q_nxs (q_nx found rfl)))))))))))))))))) (q_pre (q_at (freeze1 (ox := (oL oF)) 2 found (dL dF)) (q_at (ρ' := [some (oF sizes), some (oF draws), some (oF found), some (oF at_), none, none, none, none]) rfl (q_pre (q_at (ρ' := [none, none, some (oF found), none, none, none, none, none]) rfl (q_nxs (q_nx found rfl)))))))))))))))) (q_asn (q_pre0 (q_at (ρ' := [none, none, some (oF found), none, none, none, none, none]) rfl (q_nx found rfl)))))) fun found => (q_end (q_ret (f := fun r_ => (r_ : (List (List Int)))) (p_x (t_exF (t_var 2 found))) trivial (fun _ => dF _)))))) (fun _ => trivial)
theorem ty_law_other_labels_3 (labels : (List Int)) (draws : (List Int)) (at_ : Int) (spot : Int) (step : Int) (found : (List (List Int))) {Z : OEnv → Prop} : SQ (fun s ρ => kill [6] ρ = E_law_other_labels_3 labels draws at_ spot s) (fun s ρ => ρ = E_law_other_labels_3 labels draws at_ spot s) (fun o (b : (List (List Int))) => O.data o = Enc.e b) (fun _ => True) (b_law_other_labels_3 [some (oF labels), some (oF draws), some (oF at_), none, some ((oL oF) found), some (oF spot), some (oF step), none]) (t_law_other_labels_3 labels spot step found) := by
  unfold b_law_other_labels_3 t_law_other_labels_3
  exact (q_end (q_app (ox := oF) 4 found (p_x (t_exF (t_2 o_addL (t_2 o_addL (t_slice (t_var 0 labels) (t_part (t_c (0 : Int))) (t_part (t_var 5 spot))) (t_list (t_cons (t_2 o_addI (t_2 o_idx (t_var 0 labels) (t_var 5 spot)) (t_var 6 step)) (t_nil (α := Int))))) (t_slice (t_var 0 labels) (t_part (t_2 o_addI (t_var 5 spot) (t_c (1 : Int)))) t_nopart)))) trivial fun found => (q_at (ρ' := [some (oF labels), some (oF draws), some (oF at_), none, some ((oL oF) found), some (oF spot), some (oF step), none]) rfl (q_nx found rfl))))
theorem ty_law_other_labels_4 (labels : (List Int)) (draws : (List Int)) (at_ : Int) (spot : Int) (found : (List (List Int))) {Z : OEnv → Prop} : SQ (fun s ρ => kill [5, 6] ρ = E_law_other_labels_4 labels draws at_ s) (fun s ρ => ρ = E_law_other_labels_4 labels draws at_ s) (fun o (b : (List (List Int))) => O.data o = Enc.e b) (fun _ => True) (b_law_other_labels_4 [some (oF labels), some (oF draws), some (oF at_), none, some ((oL oF) found), some (oF spot), none, none]) (t_law_other_labels_4 labels draws spot found) := by
  unfold b_law_other_labels_4 t_law_other_labels_4
  exact (q_pre0 (q_at (ρ' := [some (oF labels), some (oF draws), some (oF at_), none, some ((oL oF) found), some (oF spot), none, none]) rfl (q_end (q_for (E_law_other_labels_3 labels draws at_ spot) (fun step => [(6, Enc.e step)]) found (t_isq (t_list (t_cons (t_c (1 : Int)) (t_cons (t_1 o_negI (t_c (1 : Int))) (t_cons (t_2 o_addI (t_c (2 : Int)) (t_2 o_idx (t_var 1 draws) (t_c (1 : Int)))) (t_nil (α := Int))))))) trivial rfl (fun step => rfl) (fun found => rfl) (fun step found => ty_law_other_labels_3 labels draws at_ spot step found (Z := fun _ => True)) fun found => (q_at (ρ' := [some (oF labels), some (oF draws), some (oF at_), none, some ((oL oF) found), some (oF spot), none, none]) rfl (q_nx found rfl))))))
theorem ty_law_other_labels (labels : (List Int)) (draws : (List Int)) : TEq (m_law_other_labels [Enc.e labels, Enc.e draws]) (t_law_other_labels labels draws) := by
  rw [r_law_other_labels]
  unfold g_law_other_labels t_law_other_labels
  exact fn_T (E := fun _ _ => True) (L := fun _ _ => True) (q_set (p_x (t_exF (t_2 o_modI (t_2 o_idx (t_var 1 draws) (t_c (0 : Int))) (t_call1 o_len (t_var 0 labels))))) trivial fun at_ => (q_at (ρ' := [some (oF labels), some (oF draws), some (oF at_), none, none, none, none, none]) rfl (q_set (p_x (t_exF (t_2 o_subI (t_call1 o_len (t_var 0 labels)) (t_c (1 : Int))))) trivial fun last => (q_at (ρ' := [some (oF labels), some (oF draws), some (oF at_), some (oF last), none, none, none, none]) rfl (q_set (p_frF (t_cons (t_var 0 labels) (t_cons (t_slice (t_var 0 labels) (t_part (t_c (0 : Int))) (t_part (t_var 3 last))) (t_cons (t_2 o_addL (t_var 0 labels) (t_list (t_cons (t_2 o_idx (t_var 0 labels) (t_var 3 last)) (t_nil (α := Int))))) (t_cons (t_list (t_map (fun label => [(7, Enc.e label)]) (t_isq (t_var 0 labels)) (fun label => rfl) (fun label => (t_2 o_subI (t_var 7 label) (t_c (1 : Int)))))) (t_cons (t_list (t_map (fun label => [(7, Enc.e label)]) (t_isq (t_var 0 labels)) (fun label => rfl) (fun label => (t_c (0 : Int))))) (t_cons (t_2 o_addL (t_slice (t_var 0 labels) (t_part (t_c (1 : Int))) t_nopart) (t_list (t_cons (t_2 o_idx (t_var 0 labels) (t_var 3 last)) (t_nil (α := Int))))) (t_nil (α := (List Int)))))))))) trivial fun found => (q_at (ρ' := [some (oF labels), some (oF draws), some (oF at_), some (oF last), some ((oL oF) found), none, none, none]) rfl (q_forK (E_law_other_labels_4 labels draws at_) (fun spot => [(5, Enc.e spot)]) found (t_isq (t_list (t_cons (t_var 2 at_) (t_cons (t_var 3 last) (t_cons (t_c (0 : Int)) (t_nil (α := Int))))))) trivial rfl (fun spot => rfl) (fun found => rfl) (fun spot found => ty_law_other_labels_4 labels draws at_ spot found (Z := fun _ => True)) fun found => (q_at (ρ' := [some (oF labels), some (oF draws), some (oF at_), none, some ((oL oF) found), none, none, none]) rfl (q_pre0 (q_at (ρ' := [some (oF labels), none, some (oF at_), none, some ((oL oF) found), none, none, none]) rfl (q_app (ox := oF) 4 found (p_x (t_exF (t_2 o_addL (t_slice (t_var 0 labels) (t_part (t_c (0 : Int))) (t_part (t_var 2 at_))) (t_list (t_map (fun label => [(7, Enc.e label)]) (t_isq (t_slice (t_var 0 labels) (t_part (t_var 2 at_)) t_nopart)) (fun label => rfl) (fun label => (t_2 o_addI (t_var 7 label) (t_c (1 : Int))))))))) trivial fun found => (q_at (ρ' := [some (oF labels), none, some (oF at_), none, some ((oL oF) found), none, none, none]) rfl (q_app (ox := oF) 4 found (p_x (t_exF (t_list (t_map (fun label => [(7, Enc.e label)]) (t_isq (t_var 0 labels)) (fun label => rfl) (fun label => (t_call2 o_max2 (t_c (0 : Int)) (t_2 o_subI (t_var 7 label) (t_c (1 : Int))))))))) trivial fun found => (q_at (ρ' := [some (oF labels), none, some (oF at_), none, some ((oL oF) found), none, none, none]) rfl (q_pre0 (q_at (freeze1 (ox := (oL oF)) 4 found (dL dF)) (q_at (ρ' := [some (oF labels), none, some (oF at_), none, some (oF found), none, none, none]) rfl (q_end (q_ret (f := fun r_ => (r_ : (List (List Int)))) (p_x (t_exF (t_var 4 found))) trivial (fun _ => dF _)))))))))))))))))))) (fun _ => trivial)
theorem ty_law_judged (loads : (List Int)) (capacity : Int) (paper : (T3 Int (List Int) (List Int))) : TEq (m_law_judged [Enc.e loads, Enc.e capacity, Enc.e paper]) (t_law_judged loads capacity paper) := by
  rw [r_law_judged]
  unfold g_law_judged t_law_judged
  exact fn_T (E := fun _ _ => True) (L := fun _ _ => True) (q_tup0 (fun ⟨count, sizes, labels⟩ => [(3, Enc.e count), (4, Enc.e sizes), (5, Enc.e labels)]) (t_exF (t_var 2 paper)) trivial (fun ⟨count, sizes, labels⟩ => rfl) fun ⟨count, sizes, labels⟩ => (q_at (ρ' := [some (oF loads), some (oF capacity), some (oF paper), some (oF count), some (oF sizes), some (oF labels), none, none, none, none]) rfl (q_set (p_x (t_exF (t_tup3 (t_var 3 count) (t_list (t_isq (t_var 4 sizes))) (t_list (t_isq (t_var 5 labels)))))) trivial fun passed => (q_at (ρ' := [some (oF loads), some (oF capacity), some (oF paper), some (oF count), some (oF sizes), some (oF labels), some (oF passed), none, none, none]) rfl (q_set (p_x (t_exF (t_list (t_isq (t_var 0 loads))))) trivial fun kept => (q_at (ρ' := [some (oF loads), some (oF capacity), some (oF paper), some (oF count), some (oF sizes), some (oF labels), some (oF passed), some (oF kept), none, none]) rfl (q_set (p_x (t_exF (t_call3 ty_judge_boosters (t_var 0 loads) (t_var 1 capacity) (t_var 6 passed)))) trivial fun told => (q_at (ρ' := [some (oF loads), some (oF capacity), some (oF paper), some (oF count), some (oF sizes), some (oF labels), some (oF passed), some (oF kept), some (oF told), none]) rfl (q_set (p_x (t_exF (t_call3 ty_law_accepted (t_var 7 kept) (t_var 1 capacity) (t_var 2 paper)))) trivial fun due => (q_at (ρ' := [some (oF loads), some (oF capacity), some (oF paper), some (oF count), some (oF sizes), some (oF labels), some (oF passed), some (oF kept), some (oF told), some (oF due)]) rfl (q_end (q_ret (f := fun r_ => (r_ : Bool)) (p_x (t_exF (t_vand (t_1 o_K (t_var 8 told)) (t_vand (t_2 o_eq (t_var 8 told) (t_var 9 due)) (t_vand (t_2 o_eq (t_var 6 passed) (t_var 2 paper)) (t_2 o_eq (t_var 0 loads) (t_var 7 kept))))))) trivial (fun _ => dF _))))))))))))) (fun _ => trivial)
theorem ty_law_1 (script : (List Int)) (loads : (List Int)) (capacity : Int) (draws : (List Int)) (right_ : (T3 Int (List Int) (List Int))) (count : Int) (sizes : (List Int)) (labels : (List Int)) (step : Int) (some_ : (List Int)) {Z : OEnv → Prop} : SQ (fun s ρ => kill [10] ρ = E_law_1 script loads capacity draws right_ count sizes labels step s) (fun s ρ => ρ = E_law_1 script loads capacity draws right_ count sizes labels step s) (fun o (b : Bool) => O.data o = Enc.e b) (fun _ => True) (b_law_1 [some (oF script), none, some (oF loads), some (oF capacity), some (oF draws), some (oF right_), some (oF count), some (oF sizes), some (oF labels), some (oF step), some (oF some_), none, none, none, none, none, none]) (t_law_1 loads capacity count labels step some_) := by
  unfold b_law_1 t_law_1
  exact (q_end (q_if (t_tnot (t_ttr o_truB (t_call3 ty_law_judged (t_varO 2 oF loads dF) (t_varO 3 oF capacity dF) (t_tup3 (t_2 o_addI (t_varO 6 oF count dF) (t_varO 9 oF step dF)) (t_varO 10 oF some_ dF) (t_varO 8 oF labels dF))))) trivial (q_ret (f := fun r_ => (r_ : Bool)) (p_x (t_exF (t_c false))) trivial (fun _ => dF _)) (q_pre (q_at (ρ' := [some (oF script), none, some (oF loads), some (oF capacity), some (oF draws), some (oF right_), some (oF count), some (oF sizes), some (oF labels), some (oF step), none, none, none, none, none, none, none]) rfl (q_nxs (q_nx () rfl))))))
theorem ty_law_2 (script : (List Int)) (loads : (List Int)) (capacity : Int) (draws : (List Int)) (right_ : (T3 Int (List Int) (List Int))) (count : Int) (sizes : (List Int)) (labels : (List Int)) (step : Int) {Z : OEnv → Prop} : SQ (fun s ρ => kill [9, 10] ρ = E_law_2 script loads capacity draws right_ count sizes labels s) (fun s ρ => ρ = E_law_2 script loads capacity draws right_ count sizes labels s) (fun o (b : Bool) => O.data o = Enc.e b) (fun _ => True) (b_law_2 [some (oF script), none, some (oF loads), some (oF capacity), some (oF draws), some (oF right_), some (oF count), some (oF sizes), some (oF labels), some (oF step), none, none, none, none, none, none, none]) (t_law_2 loads capacity draws count sizes labels step) := by
  unfold b_law_2 t_law_2
  exact (q_end (q_for (E_law_1 script loads capacity draws right_ count sizes labels step) (fun some_ => [(10, Enc.e some_)]) () (t_isq (t_call2 ty_law_other_sizes (t_var 7 sizes) (t_var 4 draws))) trivial rfl (fun some_ => rfl) (fun _ => rfl) (fun some_ _ => ty_law_1 script loads capacity draws right_ count sizes labels step some_ (Z := fun _ => True)) fun _ => (q_at (ρ' := [some (oF script), none, some (oF loads), some (oF capacity), some (oF draws), some (oF right_), some (oF count), some (oF sizes), some (oF labels), some (oF step), none, none, none, none, none, none, none]) rfl (q_nx () rfl))))
theorem ty_law_3 (script : (List Int)) (loads : (List Int)) (capacity : Int) (right_ : (T3 Int (List Int) (List Int))) (count : Int) (sizes : (List Int)) (labels : (List Int)) (some_ : (List Int)) (number : Int) {Z : OEnv → Prop} : SQ (fun s ρ => kill [11] ρ = E_law_3 script loads capacity right_ count sizes labels some_ s) (fun s ρ => ρ = E_law_3 script loads capacity right_ count sizes labels some_ s) (fun o (b : Bool) => O.data o = Enc.e b) (fun _ => True) (b_law_3 [some (oF script), none, some (oF loads), some (oF capacity), none, some (oF right_), some (oF count), some (oF sizes), some (oF labels), none, some (oF some_), some (oF number), none, none, none, none, none]) (t_law_3 loads capacity sizes some_ number) := by
  unfold b_law_3 t_law_3
  exact (q_end (q_if (t_tnot (t_ttr o_truB (t_call3 ty_law_judged (t_varO 2 oF loads dF) (t_varO 3 oF capacity dF) (t_tup3 (t_varO 11 oF number dF) (t_varO 7 oF sizes dF) (t_varO 10 oF some_ dF))))) trivial (q_ret (f := fun r_ => (r_ : Bool)) (p_x (t_exF (t_c false))) trivial (fun _ => dF _)) (q_pre (q_at (ρ' := [some (oF script), none, some (oF loads), some (oF capacity), none, some (oF right_), some (oF count), some (oF sizes), some (oF labels), none, some (oF some_), none, none, none, none, none, none]) rfl (q_nxs (q_nx () rfl))))))
theorem ty_law_4 (script : (List Int)) (loads : (List Int)) (capacity : Int) (right_ : (T3 Int (List Int) (List Int))) (count : Int) (sizes : (List Int)) (labels : (List Int)) (some_ : (List Int)) {Z : OEnv → Prop} : SQ (fun s ρ => kill [10, 11] ρ = E_law_4 script loads capacity right_ count sizes labels s) (fun s ρ => ρ = E_law_4 script loads capacity right_ count sizes labels s) (fun o (b : Bool) => O.data o = Enc.e b) (fun _ => True) (b_law_4 [some (oF script), none, some (oF loads), some (oF capacity), none, some (oF right_), some (oF count), some (oF sizes), some (oF labels), none, some (oF some_), none, none, none, none, none, none]) (t_law_4 loads capacity count sizes some_) := by
  unfold b_law_4 t_law_4
  exact (q_pre0 (q_at (ρ' := [some (oF script), none, some (oF loads), some (oF capacity), none, some (oF right_), some (oF count), some (oF sizes), some (oF labels), none, some (oF some_), none, none, none, none, none, none]) rfl (q_end (q_for (E_law_3 script loads capacity right_ count sizes labels some_) (fun number => [(11, Enc.e number)]) () (t_isq (t_2 o_addL (t_list (t_cons (t_var 6 count) (t_nil (α := Int)))) (t_slice (t_var 10 some_) (t_part (t_2 o_subI (t_call1 o_len (t_var 10 some_)) (t_c (1 : Int)))) t_nopart))) trivial rfl (fun number => rfl) (fun _ => rfl) (fun number _ => ty_law_3 script loads capacity right_ count sizes labels some_ number (Z := fun _ => True)) fun _ => (q_at (ρ' := [some (oF script), none, some (oF loads), some (oF capacity), none, some (oF right_), some (oF count), some (oF sizes), some (oF labels), none, some (oF some_), none, none, none, none, none, none]) rfl (q_nx () rfl))))))
theorem ty_law_5 (script : (List Int)) (loads : (List Int)) (capacity : Int) (right_ : (T3 Int (List Int) (List Int))) (labels : (List Int)) (other : Int) {Z : OEnv → Prop} : SQ (fun s ρ => kill [12, 13] ρ = E_law_5 script loads capacity right_ labels s) (fun s ρ => ρ = E_law_5 script loads capacity right_ labels s) (fun o (b : Bool) => O.data o = Enc.e b) (fun _ => True) (b_law_5 [some (oF script), none, some (oF loads), some (oF capacity), none, some (oF right_), none, none, some (oF labels), none, none, none, some (oF other), none, none, none, none]) (t_law_5 loads capacity right_ other) := by
  unfold b_law_5 t_law_5
  exact (q_set (p_x (t_exF (t_call2 ty_law_paper (t_var 2 loads) (t_var 12 other)))) trivial fun paper => (q_at (ρ' := [some (oF script), none, some (oF loads), some (oF capacity), none, some (oF right_), none, none, some (oF labels), none, none, none, some (oF other), some (oF paper), none, none, none]) rfl (q_end (q_if (t_tor (t_tnot (t_ttr o_truB (t_call3 ty_law_judged (t_varO 2 oF loads dF) (t_varO 3 oF capacity dF) (t_varO 13 oF paper dF)))) (t_tor (t_tnot (t_ttr o_truB (t_call3 ty_law_judged (t_varO 2 oF loads dF) (t_varO 12 oF other dF) (t_varO 5 oF right_ dF)))) (t_tnot (t_ttr o_truB (t_call3 ty_law_judged (t_varO 2 oF loads dF) (t_varO 12 oF other dF) (t_varO 13 oF paper dF)))))) trivial (q_ret (f := fun r_ => (r_ : Bool)) (p_x (t_exF (t_c false))) trivial (fun _ => dF _)) (q_pre (q_at (ρ' := [some (oF script), none, some (oF loads), some (oF capacity), none, some (oF right_), none, none, some (oF labels), none, none, none, none, none, none, none, none]) rfl (q_nxs (q_nx () rfl))))))))
theorem ty_law_8 (script : (List Int)) (at_ : Int) {Z : OEnv → Prop} : SQ (fun s ρ => kill [1, 2, 3, 4, 5, 6, 7, 8, 9, 10, 11, 12, 13, 14] ρ = E_law_8 script s) (fun s ρ => ρ = E_law_8 script s) (fun o (b : Bool) => O.data o = Enc.e b) (fun _ => True) (b_law_8 [some (oF script), some (oF at_), none, none, none, none, none, none, none, none, none, none, none, none, none, none, none]) (t_law_8 script at_) := by
  unfold b_law_8 t_law_8
  exact (q_tup0 (fun ⟨loads, capacity⟩ => [(2, Enc.e loads), (3, Enc.e capacity)]) (t_exF (t_call2 ty_law_loads (t_var 0 script) (t_var 1 at_))) trivial (fun ⟨loads, capacity⟩ => rfl) fun ⟨loads, capacity⟩ => (q_at (ρ' := [some (oF script), some (oF at_), some (oF loads), some (oF capacity), none, none, none, none, none, none, none, none, none, none, none, none, none]) rfl (q_set (p_x (t_exF (t_call3 ty_law_numbers (t_call2 ty_law_cell (t_var 0 script) (t_2 o_addI (t_var 1 at_) (t_c (2 : Int)))) (t_c (6 : Int)) (t_c (5040 : Int))))) trivial fun draws => (q_at (ρ' := [some (oF script), some (oF at_), some (oF loads), some (oF capacity), some (oF draws), none, none, none, none, none, none, none, none, none, none, none, none]) rfl (q_set (p_x (t_exF (t_call2 ty_law_paper (t_var 2 loads) (t_var 3 capacity)))) trivial fun right_ => (q_at (ρ' := [some (oF script), some (oF at_), some (oF loads), some (oF capacity), some (oF draws), some (oF right_), none, none, none, none, none, none, none, none, none, none, none]) rfl (q_tup0 (fun ⟨count, sizes, labels⟩ => [(6, Enc.e count), (7, Enc.e sizes), (8, Enc.e labels)]) (t_exF (t_var 5 right_)) trivial (fun ⟨count, sizes, labels⟩ => rfl) fun ⟨count, sizes, labels⟩ => (q_at (ρ' := [some (oF script), some (oF at_), some (oF loads), some (oF capacity), some (oF draws), some (oF right_), some (oF count), some (oF sizes), some (oF labels), none, none, none, none, none, none, none, none]) rfl (q_if (t_tnot (t_ttr o_truB (t_call3 ty_judge_boosters (t_varO 2 oF loads dF) (t_varO 3 oF capacity dF) (t_varO 5 oF right_ dF)))) trivial (q_ret (f := fun r_ => (r_ : Bool)) (p_x (t_exF (t_c false))) trivial (fun _ => dF _)) (q_pre (q_at (ρ' := [some (oF script), none, some (oF loads), some (oF capacity), some (oF draws), some (oF right_), some (oF count), some (oF sizes), some (oF labels), none, none, none, none, none, none, none, none]) rfl (q_nxs (q_for (E_law_2 script loads capacity draws right_ count sizes labels) (fun step => [(9, Enc.e step)]) () (t_isq (t_list (t_cons (t_1 o_negI (t_c (1 : Int))) (t_cons (t_c (0 : Int)) (t_cons (t_c (1 : Int)) (t_cons (t_1 o_negI (t_var 6 count)) (t_nil (α := Int)))))))) trivial rfl (fun step => rfl) (fun _ => rfl) (fun step _ => ty_law_2 script loads capacity draws right_ count sizes labels step (Z := fun _ => True)) fun _ => (q_at (ρ' := [some (oF script), none, some (oF loads), some (oF capacity), some (oF draws), some (oF right_), some (oF count), some (oF sizes), some (oF labels), none, none, none, none, none, none, none, none]) rfl (q_pre0 (q_at (ρ' := [some (oF script), none, some (oF loads), some (oF capacity), some (oF draws), some (oF right_), some (oF count), some (oF sizes), some (oF labels), none, none, none, none, none, none, none, none]) rfl (q_forK (E_law_4 script loads capacity right_ count sizes labels) (fun some_ => [(10, Enc.e some_)]) () (t_isq (t_call2 ty_law_other_labels (t_var 8 labels) (t_slice (t_var 4 draws) (t_part (t_c (2 : Int))) (t_part (t_c (4 : Int)))))) trivial rfl (fun some_ => rfl) (fun _ => rfl) (fun some_ _ => ty_law_4 script loads capacity right_ count sizes labels some_ (Z := fun _ => True)) fun _ => (q_at (ρ' := [some (oF script), none, some (oF loads), some (oF capacity), none, some (oF right_), some (oF count), some (oF sizes), some (oF labels), none, none, none, none, none, none, none, none]) rfl (q_pre0 (q_at (ρ' := [some (oF script), none, some (oF loads), some (oF capacity), none, some (oF right_), none, none, some (oF labels), none, none, none, none, none, none, none, none]) rfl (q_for (E_law_5 script loads capacity right_ labels) (fun other => [(12, Enc.e other)]) () (t_isq (t_list (t_cons (t_2 o_addI (t_var 3 capacity) (t_c (1 : Int))) (t_cons (t_call2 o_max2 (t_c (1 : Int)) (t_2 o_subI (t_var 3 capacity) (t_c (1 : Int)))) (t_cons (t_call1 o_maxL (t_2 o_addL (t_list (t_cons (t_c (1 : Int)) (t_nil (α := Int)))) (t_var 2 loads))) (t_cons (t_2 o_mulI (t_c (2 : Int)) (t_var 3 capacity)) (t_nil (α := Int)))))))) trivial rfl (fun other => rfl) (fun _ => rfl) (fun other _ => ty_law_5 script loads capacity right_ labels other (Z := fun _ => True)) fun _ => (q_at (ρ' := [some (oF script), none, some (oF loads), some (oF capacity), none, some (oF right_), none, none, some (oF labels), none, none, none, none, none, none, none, none]) rfl (q_pre0 (q_at (ρ' := [some (oF script), none, some (oF loads), some (oF capacity), none, none, none, none, some (oF labels), none, none, none, none, none, none, none, none]) rfl (q_set (p_x (t_exF (t_list (t_map (fun load => [(15, Enc.e load)]) (t_isq (t_var 2 loads)) (fun load => rfl) (fun load => (t_c (1 : Int))))))) trivial fun parted => (q_at (ρ' := [some (oF script), none, some (oF loads), some (oF capacity), none, none, none, none, some (oF labels), none, none, none, none, none, some (oF parted), none, none]) rfl (q_if (t_tnot (t_ttr o_truB (t_call3 ty_law_judged (t_varO 2 oF loads dF) (t_varO 3 oF capacity dF) (t_tup3 (t_call1 o_len (t_varO 2 oF loads dF)) (t_varO 14 oF parted dF) (t_varO 8 oF labels dF))))) trivial (q_ret (f := fun r_ => (r_ : Bool)) (p_x (t_exF (t_c false))) trivial (fun _ => dF _)) (q_pre (q_at (ρ' := [some (oF script), none, some (oF loads), some (oF capacity), none, none, none, none, none, none, none, none, none, none, some (oF parted), none, none]) rfl (q_nxs (q_end (q_if (t_tnot (t_ttr o_truB (t_call3 ty_law_judged (t_varO 2 oF loads dF) (t_varO 3 oF capacity dF) (t_tup3 (t_call1 o_len (t_varO 2 oF loads dF)) (t_varO 14 oF parted dF) (t_list (t_map (fun k => [(16, Enc.e k)]) (t_i1 o_range1 (t_2 o_addI (t_call1 o_len (t_varO 2 oF loads dF)) (t_c (1 : Int)))) (fun k => rfl) (fun k => (t_var 16 k)))))))) trivial (q_ret (f := fun r_ => (r_ : Bool)) (p_x (t_exF (t_c false))) trivial (fun _ => dF _)) (q_pre (q_at (ρ' := [some (oF script), none, none, none, none, none, none, none, none, none, none, none, none, none, none, none, none]) rfl (q_nxs (q_nx () rfl))))))))))))))))))))))))))))))))))))
theorem ty_law (script : (List Int)) : TEq (m_law [Enc.e script]) (t_law script) := by
  rw [r_law]
  unfold g_law t_law
  exact fn_T (E := fun _ _ => True) (L := fun _ _ => True) (q_for (E_law_8 script) (fun at_ => [(1, Enc.e at_)]) () (t_isq (t_list (t_cons (t_c (0 : Int)) (t_cons (t_c (3 : Int)) (t_nil (α := Int)))))) trivial rfl (fun at_ => rfl) (fun _ => rfl) (fun at_ _ => ty_law_8 script at_ (Z := fun _ => True)) fun _ => (q_at (ρ' := [some (oF script), none, none, none, none, none, none, none, none, none, none, none, none, none, none, none, none]) rfl (q_pre0 (q_at (ρ' := [none, none, none, none, none, none, none, none, none, none, none, none, none, none, none, none, none]) rfl (q_end (q_ret (f := fun r_ => (r_ : Bool)) (p_x (t_exF (t_c true))) trivial (fun _ => dF _))))))) (fun _ => trivial)
theorem law_T (h : ∀ ns : List Int, ns.length ≤ 63 → t_law ns = .ok true) : ∀ ns : List Int, ns.length ≤ 63 → m_law [.list (ns.map PyData.int)] = .ok (.bool true) := fun ns hl => (ty_law ns).ok (h ns hl)
theorem cellT (ns : List Int) (k : Nat) : t_law_cell ns (k : Int) = .ok (ns.getD k 0) := by
  by_cases h1 : k < ns.length
  · simp [t_law_cell, h1, tidx_lt h1]
  · simp [t_law_cell, h1]

theorem numbersT (c : Int) (n : Nat) (m lim : Int) (hm : m = (n : Int)) (hn : n ≤ 100000) (h0 : 0 < lim) (h1 : lim < 2 ^ 250) : ∃ ds, Dr n lim ds ∧ t_law_numbers c m lim = .ok ds := by
  subst hm
  have p1 : tpowI 10 18 = .ok (1000000000000000000 : Int) := tpowI_ok (by decide)
  have tr := trange1_nat (show n ≤ 16777216 by omega)
  by_cases hb : (1000000000000000000 : Int) ≤ c
  · obtain ⟨⟨c', ds⟩, e1, e2⟩ := forT_ix (l := Empty) (f := fun k (s : Int × List Int) => t_law_numbers_1 lim k s.1 s.2) (fun i s => Dr i lim s.2) (rangeI 0 n) 0 (c, []) ⟨rfl, fun _ h => nomatch h⟩ (fun i a s hi hs => by
      obtain ⟨c', ds⟩ := s
      have hi' := (rangeI_get hi).1
      have hl : ds.length < 16777216 := by have := hs.1; simp at this; omega
      refine ⟨(c' / lim, ds ++ [c' % lim]), .inl ?_, hs.snoc (Int.emod_nonneg _ (by omega)) (Int.emod_lt_of_pos _ h0)⟩
      simp [t_law_numbers_1, h0, tapp_ok hl, tfdivI_pos h0 h1])
    refine ⟨ds, by simpa using e2, ?_⟩
    simp [t_law_numbers, p1, hb, tr]
    erw [e1]
    rfl
  · obtain ⟨ds, e1, e2⟩ := forT_ix (l := Empty) (f := fun k s => t_law_numbers_2 c lim k s) (fun i s => Dr i lim s) (rangeI 0 n) 0 [] ⟨rfl, fun _ h => nomatch h⟩ (fun i a ds hi hs => by
      have hi' := (rangeI_get hi).1
      have hl : ds.length < 16777216 := by have := hs.1; omega
      have m0 : tmulI c 48271 = .ok (c * 48271) := tmulI_r .lit
      have m1 : tmulI a 69621 = .ok (a * 69621) := tmulI_r .lit
      have m2 : tmulI a 16807 = .ok (a * 16807) := tmulI_r .lit
      have m3 : ∀ x, tmulI (x % 2147483647) 40692 = .ok (x % 2147483647 * 40692) := fun x => tmulI_r .lit
      have m4 : ∀ x, tmulI (x % 2147483647) (x % 2147483647) = .ok (x % 2147483647 * (x % 2147483647)) := fun x => tmulI_r (sm_of (by
        have a1 := Int.emod_nonneg x (b := 2147483647) (by omega)
        have a2 := Int.emod_lt_of_pos x (b := 2147483647) (by omega)
        omega))
      have m5 : ∀ x, tfdivI x 32 = .ok (x / 32) := fun x => tfdivI_pos (by omega) (by decide)
      have st : ∃ x, t_law_numbers_2 c lim a ds = .nx (ds ++ [x % lim]) := ⟨_, by simp [t_law_numbers_2, h0, tapp_ok hl, m0, m1, m2, m3, m4, m5]; rfl⟩
      obtain ⟨x, st⟩ := st
      exact ⟨_, .inl st, hs.snoc (Int.emod_nonneg _ (by omega)) (Int.emod_lt_of_pos _ h0)⟩)
    refine ⟨ds, by simpa using e2, ?_⟩
    simp [t_law_numbers, p1, hb, tr, e1]

/-! ### sections that boosters feed -/
def ps (L : List Int) (k : Nat) : Int := (L.take k).sum
theorem sum_app (a b : List Int) : (a ++ b).sum = a.sum + b.sum := by
  induction a with
  | nil => simp
  | cons x a ih => simp [ih, Int.add_assoc]
theorem ps_succ {L : List Int} {k : Nat} (h : k < L.length) : ps L (k + 1) = ps L k + L[k] := by
  unfold ps; rw [List.take_succ_eq_append_getElem h, sum_app]; simp
theorem ps_zero (L : List Int) : ps L 0 = 0 := rfl
def Nn (L : List Int) : Prop := ∀ x ∈ L, 0 ≤ x
theorem ps_step {L : List Int} (hL : Nn L) (k : Nat) : ps L k ≤ ps L (k + 1) := by
  by_cases h : k < L.length
  · rw [ps_succ h]; have := hL L[k] (List.getElem_mem h); omega
  · unfold ps; rw [List.take_of_length_le (by omega), List.take_of_length_le (by omega)]; exact Int.le_refl _
theorem ps_mono {L : List Int} (hL : Nn L) {i j : Nat} (h : i ≤ j) : ps L i ≤ ps L j := by
  induction j with
  | zero => rw [show i = 0 by omega]; exact Int.le_refl _
  | succ j ih =>
    by_cases hi : i ≤ j
    · exact Int.le_trans (ih hi) (ps_step hL j)
    · rw [show i = j + 1 by omega]; exact Int.le_refl _
theorem cut_sum (L : List Int) {i j : Nat} (h : i ≤ j) : (cutG L (some (i : Int)) (some (j : Int))).sum = ps L j - ps L i := by
  rw [cutG_mid]
  unfold ps
  have e : L.take j = L.take i ++ (L.drop i).take (j - i) := by
    rw [show j = i + (j - i) by omega, List.take_add]; simp
  rw [e, sum_app]; omega
/-- how far one booster comes from s on -/
structure Stop (L : List Int) (cap : Int) (s r : Nat) : Prop where
  ge : s ≤ r
  le : r ≤ L.length
  fit : ∀ j, s < j → j ≤ r → ps L j - ps L s ≤ cap
  no : r < L.length → cap < ps L (r + 1) - ps L s
theorem fed_loop (L : List Int) (cap : Int) (s : Nat) : ∀ (m a : Nat), s ≤ a → a + m = L.length → (∀ j, s < j → j ≤ a → ps L j - ps L s ≤ cap) →
    (∃ r, Stop L cap s r ∧ r < L.length ∧ (forT (fun at_ total => t_fed_until_1 L cap at_ total) (rangeI (a : Int) m) (ps L a - ps L s) : TR Int Empty Int) = .rt (r : Int)) ∨
    (Stop L cap s L.length ∧ ∃ t, (forT (fun at_ total => t_fed_until_1 L cap at_ total) (rangeI (a : Int) m) (ps L a - ps L s) : TR Int Empty Int) = .nx t)
  | 0, a, h1, h2, h3 => .inr ⟨⟨by omega, Nat.le_refl _, fun j q w => h3 j q (by omega), fun z => by omega⟩, _, rfl⟩
  | m + 1, a, h1, h2, h3 => by
    have ha : a < L.length := by omega
    rw [rangeI_succ]
    have e1 := ps_succ ha
    by_cases hc : cap < ps L (a + 1) - ps L s
    · refine .inl ⟨a, ⟨h1, by omega, h3, fun _ => hc⟩, ha, forT_rt ?_⟩
      have : cap < ps L a - ps L s + L[a] := by omega
      simp [t_fed_until_1, tidx_lt ha, this]
    · have st : t_fed_until_1 L cap (a : Int) (ps L a - ps L s) = .nx (ps L (a + 1) - ps L s) := by
        have : ¬ cap < ps L a - ps L s + L[a] := by omega
        simp [t_fed_until_1, tidx_lt ha, this]; omega
      rw [forT_nx st, show (a : Int) + 1 = ((a + 1 : Nat) : Int) by omega]
      exact fed_loop L cap s m (a + 1) (by omega) (by omega) fun j q w => by
        by_cases hj : j ≤ a
        · exact h3 j q hj
        · rw [show j = a + 1 by omega]; omega
theorem fedT (L : List Int) (cap : Int) (s : Nat) (hs : s ≤ L.length) (hl : L.length ≤ 100) : ∃ r, Stop L cap s r ∧ t_fed_until L cap (s : Int) = .ok (r : Int) := by
  have tr : trange2 (s : Int) (L.length : Int) = .ok (rangeI s (L.length - s)) := trange2_of (by omega) (by omega) (by omega) (by omega) (by omega) (by omega)
  have z : (0 : Int) = ps L s - ps L s := by omega
  rcases fed_loop L cap s (L.length - s) s (Nat.le_refl _) (by omega) (fun j q w => by omega) with ⟨r, h1, h2, h3⟩ | ⟨h1, t, h3⟩
  · rw [← z] at h3
    exact ⟨r, h1, by simp [t_fed_until, tr, h3]⟩
  · rw [← z] at h3
    exact ⟨_, h1, by simp [t_fed_until, tr, h3]⟩
/-- what labels must keep -/
def LabOk (L : List Int) (cap : Int) (labels : List Int) : Prop := ∀ i, i < L.length → ∀ j, i < j → j ≤ L.length → ps L j - ps L i ≤ cap → labels.getD j 0 ≤ labels.getD i 0 + 1
theorem Stop.iff {L : List Int} {cap : Int} {s r j : Nat} (h : Stop L cap s r) (hL : Nn L) (h1 : s < j) (h2 : j ≤ L.length) : ps L j - ps L s ≤ cap ↔ j ≤ r := by
  constructor
  · intro q
    by_cases hj : j ≤ r
    · exact hj
    · have := h.no (by omega)
      have := ps_mono hL (show r + 1 ≤ j by omega)
      omega
  · intro q; exact h.fit j h1 q
theorem getD_get {xs : List Int} {k : Nat} (h : k < xs.length) : xs[k]? = some (xs.getD k 0) := by simp [h]
theorem fromT (L : List Int) (hL : Nn L) (cap : Int) (labels : List Int) (s : Nat) (hs : s < L.length) (hl : L.length ≤ 100) (hlab : labels.length = L.length + 1) :
    ∃ b, t_judge_labels_from L cap labels (s : Int) = .ok b ∧ (b = true ↔ ∀ j, s < j → j ≤ L.length → ps L j - ps L s ≤ cap → labels.getD j 0 ≤ labels.getD s 0 + 1) := by
  obtain ⟨r, h1, h2⟩ := fedT L cap s (by omega) hl
  have := h1.ge
  have := h1.le
  have tr : trange2 ((s : Int) + 1) ((r : Int) + 1) = .ok (rangeI ((s + 1 : Nat) : Int) (r - s)) := by
    rw [show ((s + 1 : Nat) : Int) = (s : Int) + 1 by omega]
    exact trange2_of (by omega) (by omega) (by omega) (by omega) (by omega) (by omega)
  have i0 : tidx labels (s : Int) = .ok (labels.getD s 0) := tidx_nat (getD_get (by omega))
  refine ⟨((rangeI ((s + 1 : Nat) : Int) (r - s)).map fun a => decide (labels.getD a.toNat 0 ≤ labels.getD s 0 + 1)).all id, ?_, ?_⟩
  · simp only [t_judge_labels_from, b1_ap, b2_ap, b3_ap, R.bind_ok, R.tr_ok, h2, taddI_ap, tr]
    rw [tmap_ok (fun a => decide (labels.getD a.toNat 0 ≤ labels.getD s 0 + 1))]
    · rfl
    · intro a ha
      obtain ⟨k, hk, rfl⟩ := rangeI_mem.mp ha
      have i1 : tidx labels (((s + 1 : Nat) : Int) + (k : Int)) = .ok (labels.getD (s + 1 + k) 0) := tidx_of (k := s + 1 + k) (by omega) (getD_get (by omega))
      rw [show (((s + 1 : Nat) : Int) + (k : Int)).toNat = s + 1 + k by omega]
      simp only [i0, i1, R.bind_ok, taddI_ap, tleI_ap]
  rw [List.all_map, List.all_eq_true]
  simp only [Function.comp, id, decide_eq_true_eq]
  constructor
  · intro h j q w z
    have hj := (h1.iff hL q w).mp z
    have := h ((s + 1 : Nat) + ((j - s - 1 : Nat) : Int)) (rangeI_mem.mpr ⟨j - s - 1, by omega, rfl⟩)
    rw [show (((s + 1 : Nat) : Int) + ((j - s - 1 : Nat) : Int)).toNat = j by omega] at this
    exact this
  · intro h a ha
    obtain ⟨k, hk, rfl⟩ := rangeI_mem.mp ha
    rw [show (((s + 1 : Nat) : Int) + (k : Int)).toNat = s + 1 + k by omega]
    exact h (s + 1 + k) (by omega) (by omega) (h1.fit _ (by omega) (by omega))
theorem blT (L : List Int) (hL : Nn L) (cap : Int) (labels : List Int) (hl : L.length ≤ 100) :
    ∃ b, t_judge_booster_labels L cap labels = .ok b ∧ (b = true ↔ labels.length = L.length + 1 ∧ labels.getD 0 0 = 0 ∧ LabOk L cap labels) := by
  have tr := trange1_nat (show L.length ≤ 16777216 by omega)
  by_cases h1 : labels.length = L.length + 1
  · have h1' : (labels.length : Int) = (L.length : Int) + 1 := by omega
    have i0 : tidx labels 0 = .ok (labels.getD 0 0) := tidx_of (k := 0) rfl (getD_get (by omega))
    by_cases h2 : labels.getD 0 0 = 0
    · have fs : ∀ i : Nat, i < L.length → ∃ b, t_judge_labels_from L cap labels (i : Int) = .ok b ∧ (b = true ↔ ∀ j, i < j → j ≤ L.length → ps L j - ps L i ≤ cap → labels.getD j 0 ≤ labels.getD i 0 + 1) := fun i hi => fromT L hL cap labels i hi hl h1
      classical
      have mp : tmap (fun start => t_judge_labels_from L cap labels start) (rangeI 0 L.length) = .ok ((rangeI 0 L.length).map fun a => decide (∀ j, a.toNat < j → j ≤ L.length → ps L j - ps L a.toNat ≤ cap → labels.getD j 0 ≤ labels.getD a.toNat 0 + 1)) := by
        refine tmap_ok _ fun a ha => ?_
        obtain ⟨k, hk, rfl⟩ := rangeI_mem.mp ha
        obtain ⟨b, e1, e2⟩ := fs k hk
        rw [show (0 : Int) + (k : Int) = (k : Int) by omega, show ((k : Int)).toNat = k by omega, e1]
        congr 1
        rw [Bool.eq_iff_iff, e2, decide_eq_true_eq]
      refine ⟨_, by simp only [List.getD_eq_getElem?_getD] at i0 h2; simp [t_judge_booster_labels, h1', i0, h2, tr, mp]; rfl, ?_⟩
      rw [List.all_eq_true]
      simp only [Function.comp, decide_eq_true_eq]
      constructor
      · intro h
        refine ⟨h1, h2, fun i hi => ?_⟩
        have := h i (rangeI_mem.mpr ⟨i, hi, by omega⟩)
        rw [show ((i : Int)).toNat = i by omega] at this
        exact this
      · intro h a ha
        obtain ⟨k, hk, rfl⟩ := rangeI_mem.mp ha
        rw [show ((0 : Int) + (k : Int)).toNat = k by omega]
        exact h.2.2 k hk
    · refine ⟨false, by simp only [List.getD_eq_getElem?_getD] at i0 h2; simp [t_judge_booster_labels, h1', i0, h2], by simp; intro _ z; simp only [List.getD_eq_getElem?_getD] at h2; exact absurd z h2⟩
  · have h1' : ¬ (labels.length : Int) = (L.length : Int) + 1 := by omega
    exact ⟨false, by simp [t_judge_booster_labels, h1'], by simp [h1]⟩
/-- one booster after another -/
def szs (L : List Int) (cap : Int) : List Int → Nat → Bool
  | [], a => a == L.length
  | z :: zs, a => if z < 1 then false else if L.length < a + z.toNat then false else if cap < ps L (a + z.toNat) - ps L a then false else szs L cap zs (a + z.toNat)
theorem sizes1 (L : List Int) (cap : Int) : ∀ (zs : List Int) (a : Nat),
    (∃ n : Nat, szs L cap zs a = (n == L.length) ∧ (forT (fun size at_ => t_judge_sizes_1 L cap size at_) zs (a : Int) : TR Bool Empty Int) = .nx (n : Int)) ∨ (szs L cap zs a = false ∧ (forT (fun size at_ => t_judge_sizes_1 L cap size at_) zs (a : Int) : TR Bool Empty Int) = .rt false)
  | [], a => .inl ⟨a, rfl, rfl⟩
  | z :: zs, a => by
    unfold szs
    by_cases h1 : z < 1
    · rw [if_pos h1]
      exact .inr ⟨rfl, forT_rt (by simp [t_judge_sizes_1, h1])⟩
    · rw [if_neg h1]
      by_cases h2 : L.length < a + z.toNat
      · rw [if_pos h2]
        have h2' : (L.length : Int) < (a : Int) + z := by omega
        exact .inr ⟨rfl, forT_rt (by simp [t_judge_sizes_1, h1, h2'])⟩
      · rw [if_neg h2]
        have h2' : ¬ (L.length : Int) < (a : Int) + z := by omega
        have e : (a : Int) + z = ((a + z.toNat : Nat) : Int) := by omega
        have cs := cut_sum L (show a ≤ a + z.toNat by omega)
        by_cases h3 : cap < ps L (a + z.toNat) - ps L a
        · rw [if_pos h3]
          rw [e] at h2'
          exact .inr ⟨rfl, forT_rt (by simp only [t_judge_sizes_1, e, b1_ap, b2_ap, b3_ap, R.bind_ok, taddI_ap, tite_ap, torB_ap, tltI_ap, tgtI_ap, tlen_ap, tpart_ap, tcut_ap, tsum_ap, R.tr_ok, cs, R.tr_bind, R.tr_ite, h1, h2', h3, decide_false, if_false, Bool.false_eq_true, decide_true, if_true])⟩
        · rw [if_neg h3]
          rw [e] at h2'
          have st : t_judge_sizes_1 L cap z (a : Int) = .nx ((a + z.toNat : Nat) : Int) := by
            simp only [t_judge_sizes_1, e, b1_ap, b2_ap, b3_ap, R.bind_ok, taddI_ap, tite_ap, torB_ap, tltI_ap, tgtI_ap, tlen_ap, tpart_ap, tcut_ap, tsum_ap, R.tr_ok, cs, R.tr_bind, R.tr_ite, h1, h2', h3, decide_false, if_false, Bool.false_eq_true, decide_true, if_true]
          rw [forT_nx st]
          exact sizes1 L cap zs (a + z.toNat)
theorem sizesT (L : List Int) (cap : Int) (zs : List Int) : t_judge_sizes L cap zs = .ok (szs L cap zs 0) := by
  rcases sizes1 L cap zs 0 with ⟨n, h1, h2⟩ | ⟨h1, h2⟩
  · have h2 : (forT (fun size at_ => t_judge_sizes_1 L cap size at_) zs 0 : TR Bool Empty Int) = .nx (n : Int) := h2
    simp [t_judge_sizes, h2, h1]
    rw [Bool.eq_iff_iff]; simp; omega
  · have h2 : (forT (fun size at_ => t_judge_sizes_1 L cap size at_) zs 0 : TR Bool Empty Int) = .rt false := h2
    simp [t_judge_sizes, h2, h1]
theorem szs_far (L : List Int) (cap : Int) : ∀ (zs : List Int) (a : Nat), L.length < a →
    (∃ n : Nat, L.length < n ∧ (forT (fun size at_ => t_law_accepted_3 L cap size at_) zs (a : Int) : TR Bool Empty Int) = .nx (n : Int)) ∨ (forT (fun size at_ => t_law_accepted_3 L cap size at_) zs (a : Int) : TR Bool Empty Int) = .rt false
  | [], a, h => .inl ⟨a, h, rfl⟩
  | z :: zs, a, h => by
    by_cases h1 : z < 1
    · exact .inr (forT_rt (by simp [t_law_accepted_3, h1]))
    · have e : (a : Int) + z = ((a + z.toNat : Nat) : Int) := by omega
      by_cases h3 : cap < (cutG L (some (a : Int)) (some ((a + z.toNat : Nat) : Int))).sum
      · rw [← e] at h3
        exact .inr (forT_rt (by simp [t_law_accepted_3, h1, h3]))
      · rw [← e] at h3
        have st : t_law_accepted_3 L cap z (a : Int) = .nx ((a + z.toNat : Nat) : Int) := by rw [← e]; simp [t_law_accepted_3, h1, h3]
        rw [forT_nx st]
        exact szs_far L cap zs _ (by omega)
theorem sizes2 (L : List Int) (cap : Int) : ∀ (zs : List Int) (a : Nat), a ≤ L.length →
    (∃ n : Nat, szs L cap zs a = (n == L.length) ∧ (forT (fun size at_ => t_law_accepted_3 L cap size at_) zs (a : Int) : TR Bool Empty Int) = .nx (n : Int)) ∨ (szs L cap zs a = false ∧ (forT (fun size at_ => t_law_accepted_3 L cap size at_) zs (a : Int) : TR Bool Empty Int) = .rt false)
  | [], a, _ => .inl ⟨a, rfl, rfl⟩
  | z :: zs, a, ha => by
    unfold szs
    by_cases h1 : z < 1
    · rw [if_pos h1]
      exact .inr ⟨rfl, forT_rt (by simp [t_law_accepted_3, h1])⟩
    · rw [if_neg h1]
      have e : (a : Int) + z = ((a + z.toNat : Nat) : Int) := by omega
      by_cases h2 : L.length < a + z.toNat
      · rw [if_pos h2]
        by_cases h3 : cap < (cutG L (some (a : Int)) (some ((a + z.toNat : Nat) : Int))).sum
        · rw [← e] at h3
          exact .inr ⟨rfl, forT_rt (by simp [t_law_accepted_3, h1, h3])⟩
        · rw [← e] at h3
          have st : t_law_accepted_3 L cap z (a : Int) = .nx ((a + z.toNat : Nat) : Int) := by rw [← e]; simp [t_law_accepted_3, h1, h3]
          rw [forT_nx st]
          rcases szs_far L cap zs _ h2 with ⟨n, g1, g2⟩ | g
          · exact .inl ⟨n, by symm; rw [beq_eq_false_iff_ne]; omega, g2⟩
          · exact .inr ⟨rfl, g⟩
      · rw [if_neg h2]
        have cs := cut_sum L (show a ≤ a + z.toNat by omega)
        by_cases h3 : cap < ps L (a + z.toNat) - ps L a
        · rw [if_pos h3]
          rw [← cs, ← e] at h3
          exact .inr ⟨rfl, forT_rt (by simp [t_law_accepted_3, h1, h3])⟩
        · rw [if_neg h3]
          rw [← cs, ← e] at h3
          have st : t_law_accepted_3 L cap z (a : Int) = .nx ((a + z.toNat : Nat) : Int) := by rw [← e]; simp [t_law_accepted_3, h1, h3]
          rw [forT_nx st]
          exact sizes2 L cap zs _ (by omega)
/-- what is accepted -/
def Acc (L : List Int) (cap count : Int) (sizes labels : List Int) : Prop := (labels.length = L.length + 1 ∧ labels.getD 0 0 = 0 ∧ LabOk L cap labels) ∧ count ≤ labels.getD L.length 0 ∧ (sizes.length : Int) = count ∧ szs L cap sizes 0 = true
theorem judgeT (L : List Int) (hL : Nn L) (cap count : Int) (sizes labels : List Int) (hl : L.length ≤ 100) : ∃ b, t_judge_boosters L cap ⟨count, sizes, labels⟩ = .ok b ∧ (b = true ↔ Acc L cap count sizes labels) := by
  obtain ⟨b, e1, e2⟩ := blT L hL cap labels hl
  have e3 := sizesT L cap sizes
  cases b with
  | false =>
    have : ¬ Acc L cap count sizes labels := fun h => by have := e2.mpr h.1; cases this
    exact ⟨false, by simp [t_judge_boosters, e1], by simp [this]⟩
  | true =>
    have h1 := e2.mp rfl
    have i0 : tidx labels (-1) = .ok (labels.getD L.length 0) := by
      refine tidx_last ?_
      rw [List.getLast?_eq_getElem?, show labels.length - 1 = L.length by omega, getD_get (by omega)]
    have ev : t_judge_boosters L cap ⟨count, sizes, labels⟩ = if count ≤ labels.getD L.length 0 then if (sizes.length : Int) = count then R.ok (szs L cap sizes 0) else R.ok false else R.ok false := by
      simp only [List.getD_eq_getElem?_getD] at i0; simp [t_judge_boosters, e1, i0, e3]
    unfold Acc
    by_cases q1 : count ≤ labels.getD L.length 0
    · by_cases q2 : (sizes.length : Int) = count
      · rw [if_pos q1, if_pos q2] at ev
        exact ⟨_, ev, by simp only [h1, q1, q2, true_and, and_self]⟩
      · rw [if_pos q1, if_neg q2] at ev
        exact ⟨_, ev, by simp only [q2, false_and, and_false, Bool.false_eq_true]⟩
    · rw [if_neg q1] at ev
      exact ⟨_, ev, by simp only [q1, false_and, and_false, Bool.false_eq_true]⟩
theorem labs2 (L : List Int) (cap : Int) (sizes labels : List Int) (hl : L.length ≤ 100) (hlab : labels.length = L.length + 1) (i : Nat) (hi : i < L.length) :
    ((∀ j, i < j → j ≤ L.length → ps L j - ps L i ≤ cap → labels.getD j 0 ≤ labels.getD i 0 + 1) ∧ (t_law_accepted_2 L cap labels (i : Int)) = .nx ()) ∨
    (¬ (∀ j, i < j → j ≤ L.length → ps L j - ps L i ≤ cap → labels.getD j 0 ≤ labels.getD i 0 + 1) ∧ (t_law_accepted_2 L cap labels (i : Int)) = .rt false) := by
  have tr : trange2 ((i : Int) + 1) ((L.length : Int) + 1) = .ok (rangeI ((i + 1 : Nat) : Int) (L.length - i)) := by
    rw [show ((i + 1 : Nat) : Int) = (i : Int) + 1 by omega]
    exact trange2_of (by omega) (by omega) (by omega) (by omega) (by omega) (by omega)
  have i0 : tidx labels (i : Int) = .ok (labels.getD i 0) := tidx_nat (getD_get (by omega))
  have ck := forT_chk (l := Unit) (f := fun j (_ : Unit) => t_law_accepted_1 L cap labels (i : Int) j) (fun a => decide (ps L a.toNat - ps L i ≤ cap ∧ labels.getD i 0 + 1 < labels.getD a.toNat 0)) false (s := ()) (xs := rangeI ((i + 1 : Nat) : Int) (L.length - i)) (fun a ha => by
    obtain ⟨k, hk, rfl⟩ := rangeI_mem.mp ha
    have i1 : tidx labels (((i + 1 : Nat) : Int) + (k : Int)) = .ok (labels.getD (i + 1 + k) 0) := tidx_of (k := i + 1 + k) (by omega) (getD_get (by omega))
    have cs := cut_sum L (show i ≤ i + 1 + k by omega)
    rw [show ((i + 1 + k : Nat) : Int) = ((i + 1 : Nat) : Int) + (k : Int) by omega] at cs
    rw [show (((i + 1 : Nat) : Int) + (k : Int)).toNat = i + 1 + k by omega]
    simp only [decide_eq_true_eq, decide_eq_false_iff_not]
    have ev : t_law_accepted_1 L cap labels (i : Int) (((i + 1 : Nat) : Int) + (k : Int)) = if ps L (i + 1 + k) - ps L i ≤ cap ∧ labels.getD i 0 + 1 < labels.getD (i + 1 + k) 0 then .rt false else .nx () := by
      simp only [t_law_accepted_1, b1_ap, b2_ap, b3_ap, R.bind_ok, tpart_ap, tcut_ap, tsum_ap, cs, tleI_ap, tandB_ap, i0, i1, taddI_ap, tgtI_ap, tite_ap]
      by_cases q1 : ps L (i + 1 + k) - ps L i ≤ cap <;> by_cases q2 : labels.getD i 0 + 1 < labels.getD (i + 1 + k) 0 <;> simp only [q1, q2, decide_true, decide_false, if_true, if_false, R.tr_ok, and_true, and_false, and_self, Bool.false_eq_true]
    rw [ev]
    exact ⟨fun q => if_pos q, fun q => .inl (if_neg q)⟩)
  have ev2 : t_law_accepted_2 L cap labels (i : Int) = (forT (fun j (_ : Unit) => t_law_accepted_1 L cap labels (i : Int) j) (rangeI ((i + 1 : Nat) : Int) (L.length - i)) ()).bind fun _ => .nx () := by
    simp only [t_law_accepted_2, b1_ap, b2_ap, R.bind_ok, taddI_ap, tlen_ap, tr, R.tr_ok]
  rw [ev2, ck]
  by_cases hb : (rangeI ((i + 1 : Nat) : Int) (L.length - i)).any (fun a => decide (ps L a.toNat - ps L i ≤ cap ∧ labels.getD i 0 + 1 < labels.getD a.toNat 0)) = true
  · refine .inr ⟨fun h => ?_, by rw [if_pos hb]; rfl⟩
    obtain ⟨a, ha, q⟩ := List.any_eq_true.mp hb
    obtain ⟨k, hk, rfl⟩ := rangeI_mem.mp ha
    rw [show (((i + 1 : Nat) : Int) + (k : Int)).toNat = i + 1 + k by omega, decide_eq_true_eq] at q
    have := h (i + 1 + k) (by omega) (by omega) q.1
    omega
  · refine .inl ⟨fun j q w z => ?_, by rw [if_neg hb]; rfl⟩
    by_cases hg : labels.getD j 0 ≤ labels.getD i 0 + 1
    · exact hg
    · refine absurd (List.any_eq_true.mpr ⟨((i + 1 : Nat) : Int) + ((j - i - 1 : Nat) : Int), rangeI_mem.mpr ⟨_, by omega, rfl⟩, ?_⟩) hb
      rw [show (((i + 1 : Nat) : Int) + ((j - i - 1 : Nat) : Int)).toNat = j by omega, decide_eq_true_eq]
      exact ⟨z, by omega⟩
theorem labs3 (L : List Int) (cap : Int) (sizes labels : List Int) (hl : L.length ≤ 100) (hlab : labels.length = L.length + 1) :
    (LabOk L cap labels ∧ (forT (fun i (_ : Unit) => t_law_accepted_2 L cap labels i) (rangeI 0 L.length) () : TR Bool Empty Unit) = .nx ()) ∨ (¬ LabOk L cap labels ∧ (forT (fun i (_ : Unit) => t_law_accepted_2 L cap labels i) (rangeI 0 L.length) () : TR Bool Empty Unit) = .rt false) := by
  have main : ∀ (m a : Nat), a + m = L.length → ((∀ i, a ≤ i → i < L.length → ∀ j, i < j → j ≤ L.length → ps L j - ps L i ≤ cap → labels.getD j 0 ≤ labels.getD i 0 + 1) ∧ (forT (fun i (_ : Unit) => t_law_accepted_2 L cap labels i) (rangeI (a : Int) m) () : TR Bool Empty Unit) = .nx ()) ∨ (¬ LabOk L cap labels ∧ (forT (fun i (_ : Unit) => t_law_accepted_2 L cap labels i) (rangeI (a : Int) m) () : TR Bool Empty Unit) = .rt false) := by
    intro m
    induction m with
    | zero => intro a ha; exact .inl ⟨fun i q w => by omega, rfl⟩
    | succ m ih =>
      intro a ha
      rw [rangeI_succ]
      rcases labs2 L cap sizes labels hl hlab a (by omega) with ⟨h1, h2⟩ | ⟨h1, h2⟩
      · rw [forT_nx h2, show (a : Int) + 1 = ((a + 1 : Nat) : Int) by omega]
        rcases ih (a + 1) (by omega) with ⟨h3, h4⟩ | ⟨h3, h4⟩
        · refine .inl ⟨fun i q w => ?_, h4⟩
          by_cases hi : i = a
          · subst hi; exact h1
          · exact h3 i (by omega) w
        · exact .inr ⟨h3, h4⟩
      · exact .inr ⟨fun h => h1 (h a (by omega)), forT_rt h2⟩
  rcases main L.length 0 (by omega) with ⟨h1, h2⟩ | h
  · exact .inl ⟨fun i hi => h1 i (Nat.zero_le _) hi, h2⟩
  · exact .inr h
theorem accT (L : List Int) (hL : Nn L) (cap count : Int) (sizes labels : List Int) (hl : L.length ≤ 100) : ∃ b, t_law_accepted L cap ⟨count, sizes, labels⟩ = .ok b ∧ (b = true ↔ Acc L cap count sizes labels) := by
  have tr := trange1_nat (show L.length ≤ 16777216 by omega)
  by_cases h1 : labels.length = L.length + 1
  · have h1' : (labels.length : Int) = (L.length : Int) + 1 := by omega
    have i0 : tidx labels 0 = .ok (labels.getD 0 0) := tidx_of (k := 0) rfl (getD_get (by omega))
    have i1 : tidx labels (L.length : Int) = .ok (labels.getD L.length 0) := tidx_nat (getD_get (by omega))
    by_cases h2 : labels.getD 0 0 = 0
    · by_cases h3 : labels.getD L.length 0 < count
      · refine ⟨false, by simp only [List.getD_eq_getElem?_getD] at i0 i1 h2 h3; simp [t_law_accepted, h1', i0, i1, h2, h3], ?_⟩
        simp; intro h; have := h.2.1; omega
      · by_cases h4 : (sizes.length : Int) = count
        · have base : ∀ r : R Bool, r = (TR.bind (forT (fun i (_ : Unit) => t_law_accepted_2 L cap labels i) (rangeI 0 L.length) () : TR Bool Empty Unit) fun _ => TR.bind (forT (fun size at_ => t_law_accepted_3 L cap size at_) sizes (0 : Int)) fun at_ => (.rt (decide (at_ = (L.length : Int))) : TR Bool Empty Unit)).fn (fun _ => .stuck) → ∃ b, r = .ok b ∧ (b = true ↔ Acc L cap count sizes labels) := by
            intro r hr
            rcases labs3 L cap sizes labels hl h1 with ⟨g1, g2⟩ | ⟨g1, g2⟩
            · rw [g2] at hr
              simp only [TR.bind_nx] at hr
              rcases sizes2 L cap sizes 0 (Nat.zero_le _) with ⟨n, q1, q2⟩ | ⟨q1, q2⟩
              · have q2 : (forT (fun size at_ => t_law_accepted_3 L cap size at_) sizes 0 : TR Bool Empty Int) = .nx (n : Int) := q2
                rw [q2] at hr
                simp only [TR.bind_nx, TR.fn_rt] at hr
                refine ⟨_, hr, ?_⟩
                unfold Acc
                rw [q1]
                simp only [h1, h2, g1, h4, true_and, and_self, decide_eq_true_eq, beq_iff_eq]
                constructor
                · intro z; exact ⟨by omega, by omega⟩
                · intro z; omega
              · have q2 : (forT (fun size at_ => t_law_accepted_3 L cap size at_) sizes 0 : TR Bool Empty Int) = .rt false := q2
                rw [q2] at hr
                refine ⟨false, hr, ?_⟩
                simp; intro h; have := h.2.2.2; rw [q1] at this; cases this
            · rw [g2] at hr
              refine ⟨false, hr, ?_⟩
              simp; intro h; exact g1 h.1.2.2
          refine base _ ?_
          simp only [List.getD_eq_getElem?_getD] at i0 i1 h2 h3
          simp [t_law_accepted, h1', i0, i1, h2, h3, h4, tr]
        · refine ⟨false, by simp only [List.getD_eq_getElem?_getD] at i0 i1 h2 h3; simp [t_law_accepted, h1', i0, i1, h2, h3, h4], ?_⟩
          simp; intro h; exact h4 h.2.2.1
    · refine ⟨false, by simp only [List.getD_eq_getElem?_getD] at i0 h2; simp [t_law_accepted, h1', i0, h2], ?_⟩
      simp; intro h; exact h2 h.1.2.1
  · have h1' : ¬ (labels.length : Int) = (L.length : Int) + 1 := by omega
    refine ⟨false, by simp [t_law_accepted, h1'], ?_⟩
    simp; intro h; exact h1 h.1.1
theorem judgedT (L : List Int) (hL : Nn L) (cap count : Int) (sizes labels : List Int) (hl : L.length ≤ 100) (h1 : sizes.length ≤ 16777216) (h2 : labels.length ≤ 16777216) : t_law_judged L cap ⟨count, sizes, labels⟩ = .ok true := by
  obtain ⟨b, e1, e2⟩ := judgeT L hL cap count sizes labels hl
  obtain ⟨c, e3, e4⟩ := accT L hL cap count sizes labels hl
  have : b = c := by rw [Bool.eq_iff_iff, e2, e4]
  subst this
  have q1 : teq (⟨count, sizes, labels⟩ : T3 Int (List Int) (List Int)) ⟨count, sizes, labels⟩ = .ok true := teq_rfl (by simp [h1, h2])
  have q2 : teq L L = .ok true := teq_rfl (by simp; omega)
  simp [t_law_judged, e1, e3, q1, q2]
/-! ### the drawn input -/
theorem max_ge : ∀ {xs : List Int} {m : Int}, xs.max? = some m → ∀ x ∈ xs, x ≤ m := fun {xs m} h x hx => by
  have := List.max?_eq_some_iff.mp h
  exact this.2 x hx
theorem pick4T (x : Int) (a b c d : Int) : ∃ y, tidx [a, b, c, d] (x % 4) = .ok y ∧ (y = a ∨ y = b ∨ y = c ∨ y = d) := by
  have h1 := Int.emod_nonneg x (b := 4) (by omega)
  have h2 := Int.emod_lt_of_pos x (b := 4) (by omega)
  generalize x % 4 = y at h1 h2
  obtain rfl | rfl | rfl | rfl : y = 0 ∨ y = 1 ∨ y = 2 ∨ y = 3 := by omega
  · exact ⟨a, by simp, .inl rfl⟩
  · exact ⟨b, by simp, .inr (.inl rfl)⟩
  · exact ⟨c, by simp, .inr (.inr (.inl rfl))⟩
  · exact ⟨d, by simp, .inr (.inr (.inr rfl))⟩
theorem loadsT (ns : List Int) (a : Nat) : ∃ L cap, t_law_loads ns (a : Int) = .ok (L, cap) ∧ L.length ≤ 12 ∧ Nn L ∧ 1 ≤ cap ∧ (∀ x ∈ L, x ≤ cap) := by
  obtain ⟨ds, hd, e1⟩ := numbersT (ns.getD a 0) 4 4 5040 rfl (by omega) (by omega) (by decide)
  obtain ⟨d0, i0, z0, _⟩ := hd.ix 0
  obtain ⟨d1, i1, z1, _⟩ := hd.ix 1
  obtain ⟨d2, i2, z2, _⟩ := hd.ix 2
  obtain ⟨d3, i3, z3, _⟩ := hd.ix 3
  obtain ⟨n, hn⟩ : ∃ n : Nat, d0 % 13 = n := ⟨(d0 % 13).toNat, by omega⟩
  obtain ⟨pk, hp, e2⟩ := numbersT (ns.getD (a + 1) 0) n n 5040 rfl (by omega) (by omega) (by decide)
  have c0 := cellT ns a
  have c1 := cellT ns (a + 1)
  generalize ns.getD a 0 = cell at e1 c0
  generalize ns.getD (a + 1) 0 = cell2 at e2 c1
  have tr := trange1_nat (show n ≤ 16777216 by omega)
  obtain ⟨L, e3, e4⟩ := forT_ix (l := Empty) (f := fun k found => t_law_loads_1 cell ds pk k found) (fun i s => s.length = i ∧ Nn s) (rangeI 0 n) 0 [] ⟨rfl, fun _ h => nomatch h⟩ (fun i x s hi hs => by
    obtain ⟨hi', rfl⟩ := rangeI_get hi
    obtain ⟨p, g1, g2, g3⟩ := hp.idx i hi'
    have pw : tpowI 10 30 = .ok ((10 : Int) ^ 30) := tpowI_ok (by decide)
    have f1 : tfdivI p 6 = .ok (p / 6) := tfdivI_pos (by omega) (by decide)
    have f2 : tfdivI cell ((i : Int) + 3) = .ok (cell / ((i : Int) + 3)) := tfdivI_pos (by omega) (Int.lt_trans (show (i : Int) + 3 < 1000 by omega) (by decide))
    obtain ⟨y, q1, q2⟩ := pick4T d1 (p % 6) (p / 6 % 2) p (cell / ((i : Int) + 3) % (10 : Int) ^ 30)
    have hy : 0 ≤ y := by
      rcases q2 with q | q | q | q <;> subst q
      · omega
      · omega
      · exact g2
      · exact Int.emod_nonneg _ (by decide)
    have hl : s.length < 16777216 := by omega
    refine ⟨s ++ [y], .inl ?_, by simp; omega, fun x hx => ?_⟩
    · have md : tmodI (cell / ((i : Int) + 3)) ((10 : Int) ^ 30) = .ok (cell / ((i : Int) + 3) % (10 : Int) ^ 30) := tmodI_pos (by decide)
      simp only [Int.zero_add]
      simp only [t_law_loads_1, b1_ap, b2_ap, tcons_ap, R.bind_ok, R.tr_ok, g1, tint_ap, taddI_ap, pw, f1, f2, md, i1, tmodI_pos (show (0 : Int) < 6 by omega), tmodI_pos (show (0 : Int) < 2 by omega), tmodI_pos (show (0 : Int) < 4 by omega), q1, tapp_ok hl]
    · rcases List.mem_append.mp hx with q | q
      · exact hs.2 x q
      · rw [List.mem_singleton.mp q]; exact hy)
  have hlen : L.length = n := by have := e4.1; simpa using this
  obtain ⟨top, ht⟩ : ∃ m, ([1] ++ L).max? = some m := by simp [List.max?]
  have ta : taddL [1] L = .ok ([1] ++ L) := taddL_ok (by simp; omega)
  have tm : tmaxL ([1] ++ L) = .ok top := by unfold tmaxL; rw [ht]
  have top1 : 1 ≤ top := max_ge ht 1 (by simp)
  have topL : ∀ x ∈ L, x ≤ top := fun x hx => max_ge ht x (by simp [hx])
  have m2 : tmulI 2 top = .ok (2 * top) := tmulI_l .lit
  have m3 : tmulI 3 top = .ok (3 * top) := tmulI_l .lit
  obtain ⟨cap, q1, q2⟩ := pick4T d3 top (top + d2 % 4) (2 * top + d2 % 3) (3 * top)
  refine ⟨L, cap, ?_, by omega, e4.2, by omega, fun x hx => by have := topL x hx; omega⟩
  rw [show ((a + 1 : Nat) : Int) = (a : Int) + 1 by omega] at c1
  simp only [t_law_loads, b1_ap, b2_ap, b3_ap, tcons_ap, R.bind_ok, R.tr_ok, c0, e1, i0, hn, c1, taddI_ap, e2, tr, e3, TR.bind_nx, ta, tm, i2, i3, m2, m3, tmodI_pos (show (0 : Int) < 13 by omega), tmodI_pos (show (0 : Int) < 3 by omega), tmodI_pos (show (0 : Int) < 4 by omega), q1, mk2_ap, TR.fn_rt]
/-! ### the right paper -/
/-- the first boosters feed just the sections ahead of p -/
def Fed (L : List Int) (cap : Int) : List Int → Nat → Nat → Prop
  | [], a, p => a = p
  | z :: zs, a, p => 1 ≤ z ∧ a + z.toNat ≤ L.length ∧ ps L (a + z.toNat) - ps L a ≤ cap ∧ Fed L cap zs (a + z.toNat) p
theorem Fed.snoc {L : List Int} {cap : Int} : ∀ {zs : List Int} {a p : Nat} {z : Int}, Fed L cap zs a p → 1 ≤ z → p + z.toNat ≤ L.length → ps L (p + z.toNat) - ps L p ≤ cap → Fed L cap (zs ++ [z]) a (p + z.toNat)
  | [], a, p, z, h, h1, h2, h3 => by
    have h : a = p := h
    subst h
    exact ⟨h1, h2, h3, rfl⟩
  | y :: zs, a, p, z, h, h1, h2, h3 => ⟨h.1, h.2.1, h.2.2.1, Fed.snoc h.2.2.2 h1 h2 h3⟩
theorem Fed.szs {L : List Int} {cap : Int} : ∀ {zs : List Int} {a : Nat}, Fed L cap zs a L.length → szs L cap zs a = true
  | [], a, h => by have h : a = L.length := h; unfold LW.szs; simp [h]
  | z :: zs, a, h => by
    obtain ⟨h1, h2, h3, h4⟩ := h
    unfold LW.szs
    rw [if_neg (by omega), if_neg (by omega), if_neg (by omega)]
    exact Fed.szs h4
structure Pap (L : List Int) (cap : Int) (k : Nat) (sizes labels : List Int) (total : Int) : Prop where
  len : labels.length = k + 1
  l0 : labels.getD 0 0 = 0
  cnt : labels.getD k 0 = sizes.length
  few : sizes.length ≤ k
  lab : ∀ i, i ≤ k → ∀ j, i < j → j ≤ k → ps L j - ps L i ≤ cap → labels.getD j 0 ≤ labels.getD i 0 + 1
  cur : (k = 0 ∧ sizes = [] ∧ total = 0) ∨ ∃ (ini : List Int) (p : Nat), p < k ∧ sizes = ini ++ [((k - p : Nat) : Int)] ∧ Fed L cap ini 0 p ∧ total = ps L k - ps L p ∧ total ≤ cap ∧ ∀ i, p < i → i ≤ k → labels.getD i 0 = sizes.length
theorem getD_snoc {xs : List Int} {a : Int} {i : Nat} (h : i < xs.length) : (xs ++ [a]).getD i 0 = xs.getD i 0 := by
  simp only [List.getD_eq_getElem?_getD, List.getElem?_append_left h]
theorem getD_last (xs : List Int) (a : Int) : (xs ++ [a]).getD xs.length 0 = a := by
  simp [List.getD_eq_getElem?_getD]
theorem body_new {cap load : Int} {sizes labels : List Int} {total : Int} (hs : sizes.length < 1000) (hl : labels.length < 1000) (hn : sizes = [] ∨ cap < total + load) : t_law_paper_1 cap load sizes labels total = .nx (sizes ++ [1], labels ++ [(sizes.length : Int) + 1], load) := by
  have ta : tapp sizes 0 = .ok (sizes ++ [0]) := tapp_ok (by omega)
  have ti : tidx (sizes ++ [0]) ((sizes.length : Int) + 1 - 1) = .ok 0 := tidx_of (k := sizes.length) (by omega) (by simp)
  have ts : tset (sizes ++ [0]) ((sizes.length : Int) + 1 - 1) 1 = .ok (sizes ++ [1]) := by
    rw [tset_of (k := sizes.length) (by omega) (by simp)]; simp
  have tl : tapp labels ((sizes.length : Int) + 1) = .ok (labels ++ [(sizes.length : Int) + 1]) := tapp_ok (by omega)
  have ln : ∀ x : Int, (((sizes ++ [x]).length : Nat) : Int) = (sizes.length : Int) + 1 := fun x => by simp
  have cc : (torB (R.ok (decide ((sizes.length : Int) = 0))) (R.ok (decide (cap < total + load)))) = .ok true := by
    rcases hn with hn | hn
    · subst hn; rfl
    · simp [hn]
  simp only [t_law_paper_1, b1_ap, b2_ap, R.bind_ok, teq_int, tlen_ap, taddI_ap, tgtI_ap, cc, tite_ap, R.tr_ok, if_true, ta, TR.bind_nx, ln, tsubI_ap, ti, ts, tl, Int.zero_add]
theorem body_old {cap load z : Int} {ini labels : List Int} {total : Int} (hs : ini.length < 1000) (hl : labels.length < 1000) (hn : ¬ cap < total + load) : t_law_paper_1 cap load (ini ++ [z]) labels total = .nx (ini ++ [z + 1], labels ++ [(ini.length : Int) + 1], total + load) := by
  have ln : ∀ x : Int, (((ini ++ [x]).length : Nat) : Int) = (ini.length : Int) + 1 := fun x => by simp
  have ti : tidx (ini ++ [z]) ((ini.length : Int) + 1 - 1) = .ok z := tidx_of (k := ini.length) (by omega) (by simp)
  have ts : tset (ini ++ [z]) ((ini.length : Int) + 1 - 1) (z + 1) = .ok (ini ++ [z + 1]) := by
    rw [tset_of (k := ini.length) (by omega) (by simp)]; simp
  have tl : tapp labels ((ini.length : Int) + 1) = .ok (labels ++ [(ini.length : Int) + 1]) := tapp_ok (by omega)
  have c1 : ¬ (ini.length : Int) + 1 = 0 := by omega
  simp only [t_law_paper_1, b1_ap, b2_ap, R.bind_ok, teq_int, tlen_ap, ln, taddI_ap, tgtI_ap, torB_ap, c1, hn, decide_false, if_false, Bool.false_eq_true, tite_ap, R.tr_ok, TR.bind_nx, tsubI_ap, ti, ts, tl]
theorem pap_step {L : List Int} (hL : Nn L) {cap : Int} (hc : ∀ x ∈ L, x ≤ cap) (hl : L.length ≤ 100) {k : Nat} (hk : k < L.length) {sizes labels : List Int} {total : Int} (h : Pap L cap k sizes labels total) :
    ∃ s' l' t', t_law_paper_1 cap L[k] sizes labels total = .nx (s', l', t') ∧ Pap L cap (k + 1) s' l' t' := by
  have x0 := hL _ (List.getElem_mem hk)
  have xc := hc _ (List.getElem_mem hk)
  have e1 := ps_succ hk
  have hlen := h.len
  have hfew := h.few
  have hcnt := h.cnt
  have new : (sizes = [] ∨ cap < total + L[k]) → (∃ fed : Fed L cap sizes 0 k, ∀ i, i ≤ k → ps L (k + 1) - ps L i ≤ cap → (sizes.length : Int) ≤ labels.getD i 0) → ∃ s' l' t', t_law_paper_1 cap L[k] sizes labels total = .nx (s', l', t') ∧ Pap L cap (k + 1) s' l' t' := by
    intro hn ⟨fed, hi⟩
    refine ⟨_, _, _, body_new (by omega) (by omega) hn, ⟨by simp; omega, ?_, ?_, by simp; omega, ?_, .inr ⟨sizes, k, by omega, by rw [show k + 1 - k = 1 by omega]; rfl, fed, by omega, xc, ?_⟩⟩⟩
    · rw [getD_snoc (by omega)]; exact h.l0
    · rw [← hlen, getD_last]; simp
    · intro i hi1 j hj hj2 hp
      by_cases hjk : j ≤ k
      · rw [getD_snoc (by omega), getD_snoc (by omega)]
        exact h.lab i (by omega) j hj hjk hp
      · have : j = k + 1 := by omega
        subst this
        rw [getD_snoc (show i < labels.length by omega), ← hlen, getD_last]
        have := hi i (by omega) hp
        omega
    · intro i hi1 hi2
      have : i = k + 1 := by omega
      subst this
      rw [← hlen, getD_last]; simp
  rcases h.cur with ⟨rfl, rfl, rfl⟩ | ⟨ini, p, hp, rfl, hfed, ht, htc, hlab⟩
  · refine new (.inl rfl) ⟨rfl, fun i hi _ => ?_⟩
    have : i = 0 := by omega
    subst this
    rw [h.l0]; simp
  · by_cases hn : cap < total + L[k]
    · refine new (.inr hn) ⟨?_, fun i hi hq => ?_⟩
      · have := hfed.snoc (z := ((k - p : Nat) : Int)) (by omega) (by omega) (by rw [show p + ((k - p : Nat) : Int).toNat = k by omega]; omega)
        rw [show p + ((k - p : Nat) : Int).toNat = k by omega] at this
        exact this
      · by_cases hip : p < i
        · rw [hlab i hip hi]; exact Int.le_refl _
        · have := ps_mono hL (show i ≤ p by omega)
          omega
    · have hil : ini.length < 1000 := by simp at hfew; omega
      refine ⟨_, _, _, body_old hil (by omega) hn, ⟨by simp; omega, ?_, ?_, by simp at hfew ⊢; omega, ?_, .inr ⟨ini, p, by omega, by rw [show ((k - p : Nat) : Int) + 1 = ((k + 1 - p : Nat) : Int) by omega], hfed, by omega, by omega, ?_⟩⟩⟩
      · rw [getD_snoc (by omega)]; exact h.l0
      · rw [← hlen, getD_last]; simp
      · intro i hi1 j hj hj2 hq
        by_cases hjk : j ≤ k
        · rw [getD_snoc (by omega), getD_snoc (by omega)]
          exact h.lab i (by omega) j hj hjk hq
        · have : j = k + 1 := by omega
          subst this
          rw [getD_snoc (show i < labels.length by omega), ← hlen, getD_last]
          by_cases hik : i = k
          · subst hik; rw [hcnt]; simp; omega
          · have := h.lab i (by omega) k (by omega) (Nat.le_refl _) (by have := ps_step hL k; omega)
            rw [hcnt, show ((ini ++ [((k - p : Nat) : Int)]).length : Int) = (ini.length : Int) + 1 by simp] at this
            omega
      · intro i hi1 hi2
        by_cases hik : i ≤ k
        · rw [getD_snoc (by omega), hlab i hi1 hik]; simp
        · have : i = k + 1 := by omega
          subst this
          rw [← hlen, getD_last]; simp
theorem paperT (L : List Int) (hL : Nn L) (cap : Int) (hc : ∀ x ∈ L, x ≤ cap) (hl : L.length ≤ 100) : ∃ sizes labels, t_law_paper L cap = .ok ⟨(sizes.length : Int), sizes, labels⟩ ∧ Acc L cap sizes.length sizes labels ∧ sizes.length ≤ L.length := by
  obtain ⟨⟨sizes, labels, total⟩, e1, e2⟩ := forT_ix (l := Empty) (f := fun load (s : List Int × List Int × Int) => t_law_paper_1 cap load s.1 s.2.1 s.2.2) (fun k s => Pap L cap k s.1 s.2.1 s.2.2) L 0 ([], [0], 0)
    ⟨rfl, rfl, rfl, Nat.le_refl _, fun i hi j hj hj2 => by omega, .inl ⟨rfl, rfl, rfl⟩⟩ (fun i a s hi hs => by
      obtain ⟨q1, q2⟩ := List.getElem?_eq_some_iff.mp hi
      subst q2
      rw [Nat.zero_add] at hs
      obtain ⟨s', l', t', g1, g2⟩ := pap_step hL hc hl q1 hs
      exact ⟨(s', l', t'), .inl g1, by rw [Nat.zero_add]; exact g2⟩)
  rw [Nat.zero_add] at e2
  have e2 : Pap L cap L.length sizes labels total := e2
  refine ⟨sizes, labels, ?_, ⟨⟨e2.len, e2.l0, fun i hi j hj hj2 hq => e2.lab i (by omega) j hj hj2 hq⟩, ?_, rfl, ?_⟩, e2.few⟩
  · simp [t_law_paper]
    erw [e1]
    rfl
  · rw [e2.cnt]; exact Int.le_refl _
  · refine Fed.szs ?_
    rcases e2.cur with ⟨h1, h2, h3⟩ | ⟨ini, p, hp, h1, h2, h3, h4, _⟩
    · subst h2; exact h1.symm
    · rw [h1]
      have := h2.snoc (z := ((L.length - p : Nat) : Int)) (by omega) (by omega) (by rw [show p + ((L.length - p : Nat) : Int).toNat = L.length by omega]; omega)
      rw [show p + ((L.length - p : Nat) : Int).toNat = L.length by omega] at this
      exact this
/-! ### papers changed -/
theorem cutG_lenI {α : Type} (xs : List α) (lo hi : Option Int) : ((cutG xs lo hi).length : Int) ≤ xs.length := by have := cutG_len xs lo hi; omega
theorem otherSizesT (sizes draws : List Int) (hs : sizes.length ≤ 100) (hd : Dr 6 5040 draws) : ∃ Ls, t_law_other_sizes sizes draws = .ok Ls ∧ ∀ x ∈ Ls, x.length ≤ 1000 := by
  obtain ⟨d0, i0, z0, _⟩ := hd.ix 0
  obtain ⟨d1, i1, z1, _⟩ := hd.ix 1
  have ad : ∀ a b : List Int, a.length ≤ 300 → b.length ≤ 300 → taddL a b = .ok (a ++ b) := fun a b h1 h2 => taddL_ok (by omega)
  have cl : ∀ lo hi, (cutG sizes lo hi).length ≤ 100 := fun lo hi => Nat.le_trans (cutG_len _ _ _) hs
  have a1 : ∀ b : List Int, b.length ≤ 300 → taddL sizes b = .ok (sizes ++ b) := fun b h => ad _ _ (by omega) h
  have a2 : taddL [0] sizes = .ok ([0] ++ sizes) := ad _ _ (by simp) (by omega)
  by_cases h0 : sizes = []
  · subst h0
    refine ⟨_, by simp [t_law_other_sizes, a1, a2]; rfl, ?_⟩
    simp
  · have hp : 0 < sizes.length := List.length_pos_iff.mpr h0
    have hp' : (0 : Int) < sizes.length := by omega
    obtain ⟨a, ha⟩ : ∃ a : Nat, d0 % (sizes.length : Int) = a := ⟨(d0 % (sizes.length : Int)).toNat, by have := Int.emod_nonneg d0 (b := (sizes.length : Int)) (by omega); omega⟩
    have hal : a < sizes.length := by have := Int.emod_lt_of_pos d0 hp'; omega
    have ta := tidx_lt hal
    have mm : tmodI d0 (sizes.length : Int) = .ok (a : Int) := by rw [tmodI_pos hp', ha]
    have e1 : ∀ lo hi lo' hi', taddL (cutG sizes lo hi) (cutG sizes lo' hi') = .ok (cutG sizes lo hi ++ cutG sizes lo' hi') := fun lo hi lo' hi' => ad _ _ (by have := cl lo hi; omega) (by have := cl lo' hi'; omega)
    have e2 : ∀ lo hi (x : List Int), x.length ≤ 5 → taddL (cutG sizes lo hi) x = .ok (cutG sizes lo hi ++ x) := fun lo hi x hx => ad _ _ (by have := cl lo hi; omega) (by omega)
    have e3 : ∀ lo hi lo' hi' (x : List Int), x.length ≤ 5 → taddL (cutG sizes lo hi ++ x) (cutG sizes lo' hi') = .ok (cutG sizes lo hi ++ x ++ cutG sizes lo' hi') := fun lo hi lo' hi' x hx => ad _ _ (by have := cl lo hi; simp; omega) (by have := cl lo' hi'; omega)
    have e4 : ∀ (F G : List (List Int)), F.length ≤ 100 → G.length ≤ 100 → taddL F G = .ok (F ++ G) := fun F G h1 h2 => taddL_ok (by omega)
    have e5 : ∀ (F : List (List Int)) x, F.length ≤ 100 → tapp F x = .ok (F ++ [x]) := fun F x h => tapp_ok (by omega)
    by_cases h1 : 1 < sizes.length
    · have h1' : (1 : Int) < sizes.length := by omega
      have hp2 : (0 : Int) < (sizes.length : Int) - 1 := by omega
      obtain ⟨b, hb⟩ : ∃ b : Nat, d1 % ((sizes.length : Int) - 1) = b := ⟨(d1 % ((sizes.length : Int) - 1)).toNat, by have := Int.emod_nonneg d1 (b := (sizes.length : Int) - 1) (by omega); omega⟩
      have hbl : b + 1 < sizes.length := by have := Int.emod_lt_of_pos d1 hp2; omega
      have mm2 : tmodI d1 ((sizes.length : Int) - 1) = .ok (b : Int) := by rw [tmodI_pos hp2, hb]
      have c2 : cutG sizes (some (b : Int)) (some ((b : Int) + 2)) = [sizes[b], sizes[b + 1]] := by
        rw [show (b : Int) + 2 = ((b + 2 : Nat) : Int) by omega, cutG_mid, show b + 2 - b = 2 by omega, List.drop_eq_getElem_cons (by omega), List.drop_eq_getElem_cons hbl]
        rfl
      refine ⟨_, by simp [t_law_other_sizes, a1, a2, hp, h0, i0, mm, e1, e2, e3, e4, e5, ha, ta, h1', i1, hb, c2, cL2, forT, t_law_other_sizes_1]; rfl, ?_⟩
      intro x hx
      simp at hx
      rcases hx with h | h | h | h | h | h | h | h | h | h | h | h | h | h <;> (subst h; (try simp); try (have := cl (some 0) (some (a : Int)); have := cl (some ((a : Int) + 1)) none; have := cl (some (a : Int)) none; have := cl (some 0) (some (b : Int)); have := cl (some ((b : Int) + 2)) none; omega))
    · have h1' : ¬ (1 : Int) < sizes.length := by omega
      refine ⟨_, by simp [t_law_other_sizes, a1, a2, hp, h0, i0, mm, e1, e2, e3, e4, e5, ha, ta, h1']; rfl, ?_⟩
      intro x hx
      simp at hx
      rcases hx with h | h | h | h | h | h | h | h | h | h | h <;> (subst h; (try simp); try (have := cl (some 0) (some (a : Int)); have := cl (some ((a : Int) + 1)) none; have := cl (some (a : Int)) none; omega))
theorem otherLabelsT (labels draws : List Int) (h0 : 0 < labels.length) (hs : labels.length ≤ 100) (hd : Dr 2 5040 draws) : ∃ Ls, t_law_other_labels labels draws = .ok Ls ∧ ∀ x ∈ Ls, x.length ≤ 1000 := by
  obtain ⟨d0, i0, z0, _⟩ := hd.ix 0
  obtain ⟨d1, i1, z1, _⟩ := hd.ix 1
  have ad : ∀ a b : List Int, a.length ≤ 300 → b.length ≤ 300 → taddL a b = .ok (a ++ b) := fun a b h1 h2 => taddL_ok (by omega)
  have cl : ∀ lo hi, (cutG labels lo hi).length ≤ 100 := fun lo hi => Nat.le_trans (cutG_len _ _ _) hs
  have hp' : (0 : Int) < labels.length := by omega
  obtain ⟨a, ha⟩ : ∃ a : Nat, d0 % (labels.length : Int) = a := ⟨(d0 % (labels.length : Int)).toNat, by have := Int.emod_nonneg d0 (b := (labels.length : Int)) (by omega); omega⟩
  have hal : a < labels.length := by have := Int.emod_lt_of_pos d0 hp'; omega
  have ta := tidx_lt hal
  have tl : tidx labels ((labels.length : Int) - 1) = .ok labels[labels.length - 1] := tidx_of (k := labels.length - 1) (by omega) (by simp)
  have t0 : tidx labels 0 = .ok labels[0] := tidx_of (k := 0) rfl (by simp)
  have a1 : ∀ b : List Int, b.length ≤ 300 → taddL labels b = .ok (labels ++ b) := fun b h => ad _ _ (by omega) h
  have e2 : ∀ lo hi (x : List Int), x.length ≤ 200 → taddL (cutG labels lo hi) x = .ok (cutG labels lo hi ++ x) := fun lo hi x hx => ad _ _ (by have := cl lo hi; omega) (by omega)
  have e3 : ∀ lo hi lo' hi' (x : List Int), x.length ≤ 5 → taddL (cutG labels lo hi ++ x) (cutG labels lo' hi') = .ok (cutG labels lo hi ++ x ++ cutG labels lo' hi') := fun lo hi lo' hi' x hx => ad _ _ (by have := cl lo hi; simp; omega) (by have := cl lo' hi'; omega)
  have m1 : ∀ xs : List Int, tmap (fun label => R.ok (label - 1)) xs = .ok (xs.map fun x => x - 1) := fun xs => tmap_ok _ fun _ _ => rfl
  have m2 : ∀ xs : List Int, tmap (fun (_ : Int) => R.ok (0 : Int)) xs = .ok (xs.map fun x => 0) := fun xs => tmap_ok _ fun _ _ => rfl
  have m3 : ∀ xs : List Int, tmap (fun label => R.ok (label + 1)) xs = .ok (xs.map fun x => x + 1) := fun xs => tmap_ok _ fun _ _ => rfl
  have m4 : ∀ xs : List Int, tmap (fun label : Int => R.ok (if 1 < label then label - 1 else 0)) xs = .ok (xs.map fun label => if 1 < label then label - 1 else 0) := fun xs => tmap_ok _ fun _ _ => rfl
  obtain ⟨F, hF, hF2, hF3⟩ : ∃ F : List (List Int), (forT (fun spot found => t_law_other_labels_4 labels draws spot found) [(a : Int), (labels.length : Int) - 1, 0] [labels, cutG labels (some 0) (some ((labels.length : Int) - 1)), labels ++ [labels[labels.length - 1]], labels.map (fun x => x - 1), labels.map (fun x => 0), cutG labels (some 1) none ++ [labels[labels.length - 1]]] : TR (List (List Int)) Empty (List (List Int))) = .nx F ∧ F.length ≤ 100 ∧ ∀ x ∈ F, x.length ≤ 1000 := by
    have e5 : ∀ (F : List (List Int)) x, F.length ≤ 100 → tapp F x = .ok (F ++ [x]) := fun F x h => tapp_ok (by omega)
    refine ⟨_, by simp [forT, t_law_other_labels_4, t_law_other_labels_3, i1, e5, ta, tl, t0, e2, e3]; rfl, by simp, ?_⟩
    intro x hx
    simp at hx
    have q1 := cl (some 0) (some (a : Int))
    have q2 := cl (some ((a : Int) + 1)) none
    have q3 := cl (some 0) (some ((labels.length : Int) - 1))
    have q4 := cl (some ((labels.length : Int) - 1 + 1)) none
    have q5 := cl (some (labels.length : Int)) none
    have q6 := cl (some 0) (some 0)
    have q7 := cl (some 1) none
    rcases hx with h | h | h | h | h | h | h | h | h | h | h | h | h | h | h <;> (subst h; (try simp); try omega)
  have e6 : ∀ x, tapp F x = .ok (F ++ [x]) := fun x => tapp_ok (by omega)
  have e7 : ∀ x y, tapp (F ++ [x]) y = .ok (F ++ [x] ++ [y]) := fun x y => tapp_ok (by simp; omega)
  have q1 := cl (some 0) (some (a : Int))
  have q3 := cl (some (a : Int)) none
  have e8 : taddL (cutG labels (some 0) (some (a : Int))) ((cutG labels (some (a : Int)) none).map fun x => x + 1) = .ok (cutG labels (some 0) (some (a : Int)) ++ (cutG labels (some (a : Int)) none).map fun x => x + 1) := ad _ _ (by omega) (by simp; omega)
  refine ⟨_, by simp [t_law_other_labels, i0, ha, tl, a1, e2, m1, m2, m3, hp', h0]; simp only [hF, TR.bind_nx]; simp [e6, e7, e8, m4]; rfl, ?_⟩
  intro x hx
  simp at hx
  rcases hx with h | h | h
  · exact hF3 x h
  · subst h; simp; omega
  · subst h; simp; omega
theorem paperT0 (L : List Int) (cap : Int) (hl : L.length ≤ 100) : ∃ sizes labels, t_law_paper L cap = .ok ⟨(sizes.length : Int), sizes, labels⟩ ∧ sizes.length ≤ L.length ∧ labels.length = L.length + 1 := by
  obtain ⟨⟨sizes, labels, total⟩, e1, e2⟩ := forT_ix (l := Empty) (f := fun load (s : List Int × List Int × Int) => t_law_paper_1 cap load s.1 s.2.1 s.2.2) (fun k s => s.1.length ≤ k ∧ s.2.1.length = k + 1) L 0 ([], [0], 0)
    ⟨Nat.le_refl _, rfl⟩ (fun i a s hi hs => by
      obtain ⟨q1, q2⟩ := List.getElem?_eq_some_iff.mp hi
      obtain ⟨sz, lb, tt⟩ := s
      rw [Nat.zero_add] at hs
      have hs1 : sz.length ≤ i := hs.1
      have hs2 : lb.length = i + 1 := hs.2
      by_cases hn : sz = [] ∨ cap < tt + a
      · exact ⟨_, .inl (body_new (by omega) (by omega) hn), by simp; omega⟩
      · have hne : sz ≠ [] := fun z => hn (.inl z)
        have h2 : ¬ cap < tt + a := fun z => hn (.inr z)
        obtain ⟨ini, z, rfl⟩ : ∃ ini z, sz = ini ++ [z] := ⟨_, _, (List.dropLast_concat_getLast hne).symm⟩
        simp at hs1
        exact ⟨_, .inl (body_old (by omega) (by omega) h2), by simp; omega⟩)
  rw [Nat.zero_add] at e2
  refine ⟨sizes, labels, ?_, e2.1, e2.2⟩
  simp [t_law_paper]
  erw [e1]
  rfl
theorem drawn2 {ds : List Int} (hd : Dr 6 5040 ds) : Dr 2 5040 (cutG ds (some 2) (some 4)) := by
  have e := cutG_mid ds 2 4
  rw [show ((2 : Nat) : Int) = 2 from rfl, show ((4 : Nat) : Int) = 4 from rfl] at e
  refine ⟨?_, fun x hx => hd.2 x (cutG_mem hx)⟩
  rw [e]; have := hd.1; simp; omega
theorem mathT : ∀ ns : List Int, ns.length ≤ 63 → t_law ns = .ok true := by
  intro ns _
  have one : ∀ a : Nat, t_law_8 ns (a : Int) = .nx () := by
    intro a
    obtain ⟨L, cap, e1, h1, hN, h2, h3⟩ := loadsT ns a
    obtain ⟨ds, hd, e2⟩ := numbersT (ns.getD (a + 2) 0) 6 6 5040 rfl (by omega) (by omega) (by decide)
    have c2 := cellT ns (a + 2)
    rw [show ((a + 2 : Nat) : Int) = (a : Int) + 2 by omega] at c2
    generalize ns.getD (a + 2) 0 = cell at e2 c2
    obtain ⟨sizes, labels, e3, hA, hsl⟩ := paperT L hN cap h3 (by omega)
    have hll : labels.length = L.length + 1 := hA.1.1
    obtain ⟨b, e4, e5⟩ := judgeT L hN cap sizes.length sizes labels (by omega)
    have hb : b = true := e5.mpr hA
    subst hb
    obtain ⟨S, e6, hS⟩ := otherSizesT sizes ds (by omega) hd
    obtain ⟨B, e7, hB⟩ := otherLabelsT labels _ (by omega) (by omega) (drawn2 hd)
    have jd : ∀ cap count s l, s.length ≤ 1000 → l.length ≤ 1000 → t_law_judged L cap ⟨count, s, l⟩ = .ok true := fun cap count s l q1 q2 => judgedT L hN cap count s l (by omega) (by omega) (by omega)
    have f1 : ∀ step : Int, t_law_2 L cap ds sizes.length sizes labels step = .nx () := by
      intro step
      have : (forT (fun some_ (_ : Unit) => t_law_1 L cap sizes.length labels step some_) S () : TR Bool Unit Unit) = .nx () := forT_pass fun x hx => .inl (by
        have := jd cap ((sizes.length : Int) + step) x labels (hS x hx) (by omega)
        simp [t_law_1, this])
      simp only [t_law_2, b2_ap, R.bind_ok, e6, R.tr_ok, this, TR.bind_nx]
    have f2 : ∀ x ∈ B, t_law_4 L cap sizes.length sizes x = .nx () := by
      intro x hx
      have hx := hB x hx
      have ta : taddL [(sizes.length : Int)] (cutG x (some ((x.length : Int) - 1)) none) = .ok ([(sizes.length : Int)] ++ cutG x (some ((x.length : Int) - 1)) none) := taddL_ok (by have := cutG_len x (some ((x.length : Int) - 1)) none; simp; omega)
      have : (forT (fun number (_ : Unit) => t_law_3 L cap sizes x number) ([(sizes.length : Int)] ++ cutG x (some ((x.length : Int) - 1)) none) () : TR Bool Unit Unit) = .nx () := forT_pass fun n _ => .inl (by
        have := jd cap n sizes x (by omega) hx
        simp [t_law_3, this])
      simp only [t_law_4, b1_ap, b2_ap, b3_ap, tcons_ap, R.bind_ok, tlen_ap, tsubI_ap, tpart_ap, tcut_ap, ta, R.tr_ok, this, TR.bind_nx]
    have f3 : ∀ other : Int, t_law_5 L cap ⟨(sizes.length : Int), sizes, labels⟩ other = .nx () := by
      intro other
      obtain ⟨s2, l2, g1, gs, gl⟩ := paperT0 L other (by omega)
      have j1 := jd cap s2.length s2 l2 (by omega) (by omega)
      have j2 := jd other sizes.length sizes labels (by omega) (by omega)
      have j3 := jd other s2.length s2 l2 (by omega) (by omega)
      simp [t_law_5, g1, j1, j2, j3]
    have m1 : tmap (fun (_ : Int) => R.ok (1 : Int)) L = .ok (L.map fun _ => 1) := tmap_ok _ fun _ _ => rfl
    have m2 : tmap (fun k : Int => R.ok k) (rangeI 0 (L.length + 1)) = .ok ((rangeI 0 (L.length + 1)).map fun k => k) := tmap_ok _ fun _ _ => rfl
    have tr : trange1 ((L.length : Int) + 1) = .ok (rangeI 0 (L.length + 1)) := trange1_of (by omega) (by omega)
    have j1 := jd cap L.length (L.map fun _ => 1) labels (by simp; omega) (by omega)
    have j2 := jd cap L.length (L.map fun _ => 1) ((rangeI 0 (L.length + 1)).map fun k => k) (by simp; omega) (by simp; omega)
    obtain ⟨top, ht⟩ : ∃ m, ([1] ++ L).max? = some m := by simp [List.max?]
    have ta : taddL [1] L = .ok ([1] ++ L) := taddL_ok (by simp; omega)
    have tm : tmaxL ([1] ++ L) = .ok top := by unfold tmaxL; rw [ht]
    have mu : tmulI 2 cap = .ok (2 * cap) := tmulI_l .lit
    have p1 : ∀ S : List Int, (forT (fun step (_ : Unit) => t_law_2 L cap ds sizes.length sizes labels step) S () : TR Bool Unit Unit) = .nx () := fun S => forT_pass fun x _ => .inl (f1 x)
    have p2 : (forT (fun some_ (_ : Unit) => t_law_4 L cap sizes.length sizes some_) B () : TR Bool Unit Unit) = .nx () := forT_pass fun x hx => .inl (f2 x hx)
    have p3 : ∀ S : List Int, (forT (fun other (_ : Unit) => t_law_5 L cap ⟨(sizes.length : Int), sizes, labels⟩ other) S () : TR Bool Unit Unit) = .nx () := fun S => forT_pass fun x _ => .inl (f3 x)
    simp only [t_law_8, b1_ap, b2_ap, b3_ap, tcons_ap, R.bind_ok, R.tr_ok, e1, c2, e2, taddI_ap, e3, e4, tid_ap, tnotB_ap, Bool.not_true, tite_ap, Bool.false_eq_true, if_false, tnegI_ap, p1, TR.bind_nx, tpart_ap, tcut_ap, e7, p2, tsubI_ap, tmax2_ap, ta, tm, mu, p3, m1, calm_okk, mk3_ap, tlen_ap, j1, tr, m2, j2]
  have l0 := one 0
  have l3 := one 3
  rw [show ((0 : Nat) : Int) = 0 from rfl] at l0
  rw [show ((3 : Nat) : Int) = 3 from rfl] at l3
  simp [t_law, forT, l0, l3]

theorem math : ∀ ns : List Int, ns.length ≤ 63 → m_law [.list (ns.map PyData.int)] = .ok (.bool true) := law_T mathT
end LW
namespace LW
open PySem PySem.Spec PyProof.Rows L2 VL
theorem txt_mk {K : PySem.W.Frag} {h : Heap} {mg : Str → Option Value} (X : K.In h) (G : h.Ns mainGlobals mg)
    {f1 : Addr} {od1 an1 : Option Addr} {sl1 : Array (Option Value)} {oc1 kV1 dc1 pm1 cd1 ct1 : Value}
    (a1 : PySem.W.nsIn K mainGlobals "fed_until" = some (some (.ref f1)))
    (l1 : K.lookup f1 = some ⟨oc1, od1, .func (PySem.W.fnOf "fed_until" "fed_until" (defArgs s_fed_until) (defBody s_fed_until) (defScope s_fed_until) .none kV1 dc1 pm1 an1 cd1 ct1), sl1⟩) (c1 : PySem.W.codeIn K cd1 "fed_until" = true) (k1 : PySem.W.keepIn K (.ref f1) = true)
    {f2 : Addr} {od2 an2 : Option Addr} {sl2 : Array (Option Value)} {oc2 kV2 dc2 pm2 cd2 ct2 : Value}
    (a2 : PySem.W.nsIn K mainGlobals "judge_labels_from" = some (some (.ref f2)))
    (l2 : K.lookup f2 = some ⟨oc2, od2, .func (PySem.W.fnOf "judge_labels_from" "judge_labels_from" (defArgs s_judge_labels_from) (defBody s_judge_labels_from) (defScope s_judge_labels_from) .none kV2 dc2 pm2 an2 cd2 ct2), sl2⟩) (c2 : PySem.W.codeIn K cd2 "judge_labels_from" = true) (k2 : PySem.W.keepIn K (.ref f2) = true)
    {f3 : Addr} {od3 an3 : Option Addr} {sl3 : Array (Option Value)} {oc3 kV3 dc3 pm3 cd3 ct3 : Value}
    (a3 : PySem.W.nsIn K mainGlobals "judge_booster_labels" = some (some (.ref f3)))
    (l3 : K.lookup f3 = some ⟨oc3, od3, .func (PySem.W.fnOf "judge_booster_labels" "judge_booster_labels" (defArgs s_judge_booster_labels) (defBody s_judge_booster_labels) (defScope s_judge_booster_labels) .none kV3 dc3 pm3 an3 cd3 ct3), sl3⟩) (c3 : PySem.W.codeIn K cd3 "judge_booster_labels" = true) (k3 : PySem.W.keepIn K (.ref f3) = true)
    {f4 : Addr} {od4 an4 : Option Addr} {sl4 : Array (Option Value)} {oc4 kV4 dc4 pm4 cd4 ct4 : Value}
    (a4 : PySem.W.nsIn K mainGlobals "judge_sizes" = some (some (.ref f4)))
    (l4 : K.lookup f4 = some ⟨oc4, od4, .func (PySem.W.fnOf "judge_sizes" "judge_sizes" (defArgs s_judge_sizes) (defBody s_judge_sizes) (defScope s_judge_sizes) .none kV4 dc4 pm4 an4 cd4 ct4), sl4⟩) (c4 : PySem.W.codeIn K cd4 "judge_sizes" = true) (k4 : PySem.W.keepIn K (.ref f4) = true)
    {f5 : Addr} {od5 an5 : Option Addr} {sl5 : Array (Option Value)} {oc5 kV5 dc5 pm5 cd5 ct5 : Value}
    (a5 : PySem.W.nsIn K mainGlobals "judge_boosters" = some (some (.ref f5)))
    (l5 : K.lookup f5 = some ⟨oc5, od5, .func (PySem.W.fnOf "judge_boosters" "judge_boosters" (defArgs s_judge_boosters) (defBody s_judge_boosters) (defScope s_judge_boosters) .none kV5 dc5 pm5 an5 cd5 ct5), sl5⟩) (c5 : PySem.W.codeIn K cd5 "judge_boosters" = true) (k5 : PySem.W.keepIn K (.ref f5) = true)
    {f6 : Addr} {od6 an6 : Option Addr} {sl6 : Array (Option Value)} {oc6 kV6 dc6 pm6 cd6 ct6 : Value}
    (a6 : PySem.W.nsIn K mainGlobals "_law_cell" = some (some (.ref f6)))
    (l6 : K.lookup f6 = some ⟨oc6, od6, .func (PySem.W.fnOf "_law_cell" "_law_cell" (defArgs s_law_cell) (defBody s_law_cell) (defScope s_law_cell) .none kV6 dc6 pm6 an6 cd6 ct6), sl6⟩) (c6 : PySem.W.codeIn K cd6 "_law_cell" = true) (k6 : PySem.W.keepIn K (.ref f6) = true)
    {f7 : Addr} {od7 an7 : Option Addr} {sl7 : Array (Option Value)} {oc7 kV7 dc7 pm7 cd7 ct7 : Value}
    (a7 : PySem.W.nsIn K mainGlobals "_law_numbers" = some (some (.ref f7)))
    (l7 : K.lookup f7 = some ⟨oc7, od7, .func (PySem.W.fnOf "_law_numbers" "_law_numbers" (defArgs s_law_numbers) (defBody s_law_numbers) (defScope s_law_numbers) .none kV7 dc7 pm7 an7 cd7 ct7), sl7⟩) (c7 : PySem.W.codeIn K cd7 "_law_numbers" = true) (k7 : PySem.W.keepIn K (.ref f7) = true)
    {f8 : Addr} {od8 an8 : Option Addr} {sl8 : Array (Option Value)} {oc8 kV8 dc8 pm8 cd8 ct8 : Value}
    (a8 : PySem.W.nsIn K mainGlobals "_law_loads" = some (some (.ref f8)))
    (l8 : K.lookup f8 = some ⟨oc8, od8, .func (PySem.W.fnOf "_law_loads" "_law_loads" (defArgs s_law_loads) (defBody s_law_loads) (defScope s_law_loads) .none kV8 dc8 pm8 an8 cd8 ct8), sl8⟩) (c8 : PySem.W.codeIn K cd8 "_law_loads" = true) (k8 : PySem.W.keepIn K (.ref f8) = true)
    {f9 : Addr} {od9 an9 : Option Addr} {sl9 : Array (Option Value)} {oc9 kV9 dc9 pm9 cd9 ct9 : Value}
    (a9 : PySem.W.nsIn K mainGlobals "_law_paper" = some (some (.ref f9)))
    (l9 : K.lookup f9 = some ⟨oc9, od9, .func (PySem.W.fnOf "_law_paper" "_law_paper" (defArgs s_law_paper) (defBody s_law_paper) (defScope s_law_paper) .none kV9 dc9 pm9 an9 cd9 ct9), sl9⟩) (c9 : PySem.W.codeIn K cd9 "_law_paper" = true) (k9 : PySem.W.keepIn K (.ref f9) = true)
    {f10 : Addr} {od10 an10 : Option Addr} {sl10 : Array (Option Value)} {oc10 kV10 dc10 pm10 cd10 ct10 : Value}
    (a10 : PySem.W.nsIn K mainGlobals "_law_accepted" = some (some (.ref f10)))
    (l10 : K.lookup f10 = some ⟨oc10, od10, .func (PySem.W.fnOf "_law_accepted" "_law_accepted" (defArgs s_law_accepted) (defBody s_law_accepted) (defScope s_law_accepted) .none kV10 dc10 pm10 an10 cd10 ct10), sl10⟩) (c10 : PySem.W.codeIn K cd10 "_law_accepted" = true) (k10 : PySem.W.keepIn K (.ref f10) = true)
    {f11 : Addr} {od11 an11 : Option Addr} {sl11 : Array (Option Value)} {oc11 kV11 dc11 pm11 cd11 ct11 : Value}
    (a11 : PySem.W.nsIn K mainGlobals "_law_other_sizes" = some (some (.ref f11)))
    (l11 : K.lookup f11 = some ⟨oc11, od11, .func (PySem.W.fnOf "_law_other_sizes" "_law_other_sizes" (defArgs s_law_other_sizes) (defBody s_law_other_sizes) (defScope s_law_other_sizes) .none kV11 dc11 pm11 an11 cd11 ct11), sl11⟩) (c11 : PySem.W.codeIn K cd11 "_law_other_sizes" = true) (k11 : PySem.W.keepIn K (.ref f11) = true)
    {f12 : Addr} {od12 an12 : Option Addr} {sl12 : Array (Option Value)} {oc12 kV12 dc12 pm12 cd12 ct12 : Value}
    (a12 : PySem.W.nsIn K mainGlobals "_law_other_labels" = some (some (.ref f12)))
    (l12 : K.lookup f12 = some ⟨oc12, od12, .func (PySem.W.fnOf "_law_other_labels" "_law_other_labels" (defArgs s_law_other_labels) (defBody s_law_other_labels) (defScope s_law_other_labels) .none kV12 dc12 pm12 an12 cd12 ct12), sl12⟩) (c12 : PySem.W.codeIn K cd12 "_law_other_labels" = true) (k12 : PySem.W.keepIn K (.ref f12) = true)
    {f13 : Addr} {od13 an13 : Option Addr} {sl13 : Array (Option Value)} {oc13 kV13 dc13 pm13 cd13 ct13 : Value}
    (a13 : PySem.W.nsIn K mainGlobals "_law_judged" = some (some (.ref f13)))
    (l13 : K.lookup f13 = some ⟨oc13, od13, .func (PySem.W.fnOf "_law_judged" "_law_judged" (defArgs s_law_judged) (defBody s_law_judged) (defScope s_law_judged) .none kV13 dc13 pm13 an13 cd13 ct13), sl13⟩) (c13 : PySem.W.codeIn K cd13 "_law_judged" = true) (k13 : PySem.W.keepIn K (.ref f13) = true)
    {f14 : Addr} {od14 an14 : Option Addr} {sl14 : Array (Option Value)} {oc14 kV14 dc14 pm14 cd14 ct14 : Value}
    (a14 : PySem.W.nsIn K mainGlobals "law" = some (some (.ref f14)))
    (l14 : K.lookup f14 = some ⟨oc14, od14, .func (PySem.W.fnOf "law" "law" (defArgs s_law) (defBody s_law) (defScope s_law) .none kV14 dc14 pm14 an14 cd14 ct14), sl14⟩) (c14 : PySem.W.codeIn K cd14 "law" = true) (k14 : PySem.W.keepIn K (.ref f14) = true)
    (z_all : PySem.W.nsIn K mainGlobals "all" = some none)
    (z_bool : PySem.W.nsIn K mainGlobals "bool" = some none)
    (z_int : PySem.W.nsIn K mainGlobals "int" = some none)
    (z_isinstance : PySem.W.nsIn K mainGlobals "isinstance" = some none)
    (z_len : PySem.W.nsIn K mainGlobals "len" = some none)
    (z_list : PySem.W.nsIn K mainGlobals "list" = some none)
    (z_max : PySem.W.nsIn K mainGlobals "max" = some none)
    (z_range : PySem.W.nsIn K mainGlobals "range" = some none)
    (z_sum : PySem.W.nsIn K mainGlobals "sum" = some none) : ∃ T : Txt K mg, T.f_law = f14 ∧ ∀ (s : Shared) (v : Value), BindsTo s T.d_law ⟨[v], []⟩ [("script", v)] :=
  ⟨{ f_fed_until := f1, d_fed_until := _, F_fed_until := fun_mk (st := s_fed_until) l1 c1 k1, g_fed_until := PySem.W.mg_of X G a1, B_fed_until := ((fun_mk (st := s_fed_until) l1 c1 k1).binds fun _ _ _ _ _ _ us hl => match us, hl with | [_, _, _], _ => rfl),
        f_judge_labels_from := f2, d_judge_labels_from := _, F_judge_labels_from := fun_mk (st := s_judge_labels_from) l2 c2 k2, g_judge_labels_from := PySem.W.mg_of X G a2, B_judge_labels_from := ((fun_mk (st := s_judge_labels_from) l2 c2 k2).binds fun _ _ _ _ _ _ us hl => match us, hl with | [_, _, _, _], _ => rfl),
        f_judge_booster_labels := f3, d_judge_booster_labels := _, F_judge_booster_labels := fun_mk (st := s_judge_booster_labels) l3 c3 k3, g_judge_booster_labels := PySem.W.mg_of X G a3, B_judge_booster_labels := ((fun_mk (st := s_judge_booster_labels) l3 c3 k3).binds fun _ _ _ _ _ _ us hl => match us, hl with | [_, _, _], _ => rfl),
        f_judge_sizes := f4, d_judge_sizes := _, F_judge_sizes := fun_mk (st := s_judge_sizes) l4 c4 k4, g_judge_sizes := PySem.W.mg_of X G a4, B_judge_sizes := ((fun_mk (st := s_judge_sizes) l4 c4 k4).binds fun _ _ _ _ _ _ us hl => match us, hl with | [_, _, _], _ => rfl),
        f_judge_boosters := f5, d_judge_boosters := _, F_judge_boosters := fun_mk (st := s_judge_boosters) l5 c5 k5, g_judge_boosters := PySem.W.mg_of X G a5, B_judge_boosters := ((fun_mk (st := s_judge_boosters) l5 c5 k5).binds fun _ _ _ _ _ _ us hl => match us, hl with | [_, _, _], _ => rfl),
        f__law_cell := f6, d__law_cell := _, F__law_cell := fun_mk (st := s_law_cell) l6 c6 k6, g__law_cell := PySem.W.mg_of X G a6, B__law_cell := ((fun_mk (st := s_law_cell) l6 c6 k6).binds fun _ _ _ _ _ _ us hl => match us, hl with | [_, _], _ => rfl),
        f__law_numbers := f7, d__law_numbers := _, F__law_numbers := fun_mk (st := s_law_numbers) l7 c7 k7, g__law_numbers := PySem.W.mg_of X G a7, B__law_numbers := ((fun_mk (st := s_law_numbers) l7 c7 k7).binds fun _ _ _ _ _ _ us hl => match us, hl with | [_, _, _], _ => rfl),
        f__law_loads := f8, d__law_loads := _, F__law_loads := fun_mk (st := s_law_loads) l8 c8 k8, g__law_loads := PySem.W.mg_of X G a8, B__law_loads := ((fun_mk (st := s_law_loads) l8 c8 k8).binds fun _ _ _ _ _ _ us hl => match us, hl with | [_, _], _ => rfl),
        f__law_paper := f9, d__law_paper := _, F__law_paper := fun_mk (st := s_law_paper) l9 c9 k9, g__law_paper := PySem.W.mg_of X G a9, B__law_paper := ((fun_mk (st := s_law_paper) l9 c9 k9).binds fun _ _ _ _ _ _ us hl => match us, hl with | [_, _], _ => rfl),
        f__law_accepted := f10, d__law_accepted := _, F__law_accepted := fun_mk (st := s_law_accepted) l10 c10 k10, g__law_accepted := PySem.W.mg_of X G a10, B__law_accepted := ((fun_mk (st := s_law_accepted) l10 c10 k10).binds fun _ _ _ _ _ _ us hl => match us, hl with | [_, _, _], _ => rfl),
        f__law_other_sizes := f11, d__law_other_sizes := _, F__law_other_sizes := fun_mk (st := s_law_other_sizes) l11 c11 k11, g__law_other_sizes := PySem.W.mg_of X G a11, B__law_other_sizes := ((fun_mk (st := s_law_other_sizes) l11 c11 k11).binds fun _ _ _ _ _ _ us hl => match us, hl with | [_, _], _ => rfl),
        f__law_other_labels := f12, d__law_other_labels := _, F__law_other_labels := fun_mk (st := s_law_other_labels) l12 c12 k12, g__law_other_labels := PySem.W.mg_of X G a12, B__law_other_labels := ((fun_mk (st := s_law_other_labels) l12 c12 k12).binds fun _ _ _ _ _ _ us hl => match us, hl with | [_, _], _ => rfl),
        f__law_judged := f13, d__law_judged := _, F__law_judged := fun_mk (st := s_law_judged) l13 c13 k13, g__law_judged := PySem.W.mg_of X G a13, B__law_judged := ((fun_mk (st := s_law_judged) l13 c13 k13).binds fun _ _ _ _ _ _ us hl => match us, hl with | [_, _, _], _ => rfl),
        f_law := f14, d_law := _, F_law := fun_mk (st := s_law) l14 c14 k14, g_law := PySem.W.mg_of X G a14, B_law := ((fun_mk (st := s_law) l14 c14 k14).binds fun _ _ _ _ _ _ us hl => match us, hl with | [_], _ => rfl),
        b_all := PySem.W.mg_none_of X G z_all,
        b_bool := PySem.W.mg_none_of X G z_bool,
        b_int := PySem.W.mg_none_of X G z_int,
        b_isinstance := PySem.W.mg_none_of X G z_isinstance,
        b_len := PySem.W.mg_none_of X G z_len,
        b_list := PySem.W.mg_none_of X G z_list,
        b_max := PySem.W.mg_none_of X G z_max,
        b_range := PySem.W.mg_none_of X G z_range,
        b_sum := PySem.W.mg_none_of X G z_sum }, rfl, fun s v => .of_eq rfl⟩
theorem law_ok {P : Program} {w : World} {K : PySem.W.Frag} {mg : Str → Option Value} {base : Heap} (T : Txt K mg) (math : ∀ ns : List Int, ns.length ≤ 63 → m_law [.list (ns.map PyData.int)] = .ok (.bool true)) : FnOk P w K mg base (L2.CX P w) 6 T.f_law T.d_law ["script"] spL := fn_law (ok_law T) math
end LW
open PySem PySem.W PyProof.Rows
set_option maxHeartbeats 0 in
theorem PySem.Challenge.cw_trackswhole_k85_judge_of_boosters_holds : PySem.Challenge.rw_trackswhole_k85_judge_of_boosters.Holds := by
  w_on; o_law; k_head; (case hw => w_witness2)
  k_fill
  refine L2.walk_of (l := PySem.Challenge.rw_trackswhole_k85_judge_of_boosters) (n := 63) (k := 6) (x := "script") (CX := fun w => L2.CX PySem.Challenge.rw_trackswhole_k85_judge_of_boosters.prog w) (sp := fun _ => VL.spL) rfl (by decide) rfl ⟨rfl, by decide, by decide⟩ (fun w h Y => PySem.W.kIn_of Y) ?F ?S (fun _ _ _ _ _ h => VL.cx_false h)
  case S =>
    intro w H a ns hl hO hS
    exact VL.spL_of hl hS (by kernel_rfl)
  case F =>
    intro w mg fa h KX G hmg
    obtain ⟨T, e, hb⟩ := LW.txt_mk KX G (a1 := by k_is) (l1 := by k_is) (c1 := by k_is) (k1 := by k_is) (a2 := by k_is) (l2 := by k_is) (c2 := by k_is) (k2 := by k_is) (a3 := by k_is) (l3 := by k_is) (c3 := by k_is) (k3 := by k_is) (a4 := by k_is) (l4 := by k_is) (c4 := by k_is) (k4 := by k_is) (a5 := by k_is) (l5 := by k_is) (c5 := by k_is) (k5 := by k_is) (a6 := by k_is) (l6 := by k_is) (c6 := by k_is) (k6 := by k_is) (a7 := by k_is) (l7 := by k_is) (c7 := by k_is) (k7 := by k_is) (a8 := by k_is) (l8 := by k_is) (c8 := by k_is) (k8 := by k_is) (a9 := by k_is) (l9 := by k_is) (c9 := by k_is) (k9 := by k_is) (a10 := by k_is) (l10 := by k_is) (c10 := by k_is) (k10 := by k_is) (a11 := by k_is) (l11 := by k_is) (c11 := by k_is) (k11 := by k_is) (a12 := by k_is) (l12 := by k_is) (c12 := by k_is) (k12 := by k_is) (a13 := by k_is) (l13 := by k_is) (c13 := by k_is) (k13 := by k_is) (a14 := by k_is) (l14 := by k_is) (c14 := by k_is) (k14 := by k_is) (z_all := by k_is) (z_bool := by k_is) (z_int := by k_is) (z_isinstance := by k_is) (z_len := by k_is) (z_list := by k_is) (z_max := by k_is) (z_range := by k_is) (z_sum := by k_is)
    have e2 := hmg.symm.trans T.g_law
    cases e2
    exact ⟨T.d_law, hb, fun base _ _ => LW.law_ok T LW.math⟩
