import PyProof.Rows.All
import HandS.ForMost
import HandS.Deep
import HandS.Exc
import HandS.ExcOwn
import HandS.TryOnly
import HandS.CallSlots
import HandS.WordsExc
import HandS.TupAny
import HandS.Wide
import HandS.IsInst
import HandS.Flow
import HandS.Conv
import HandS.Ends
import HandS.ExcIs
import HandS.Flt
import HandS.SetFor
import Open.Row
import PySem.Challenge.RW_trackswhole_k62_moves_of_a_yard
set_option Elab.async false
set_option linter.all false
set_option maxRecDepth 100000
set_option maxHeartbeats 1000000
namespace VL
open PySem PySem.Spec PyProof.Rows L2

/-! ### results -/
inductive R (α : Type) where
  | stuck
  | err (c : Str)
  | ok (a : α)
def R.bind {α β : Type} (x : R α) (f : α → R β) : R β := match x with
  | .stuck => .stuck
  | .err c => .err c
  | .ok a => f a
instance : Monad R where
  pure := R.ok
  bind := R.bind
@[simp] theorem R.bind_ok {α β : Type} (a : α) (f : α → R β) : R.bind (.ok a) f = f a := rfl
@[simp] theorem R.bind_err {α β : Type} (c : Str) (f : α → R β) : R.bind (.err c) f = .err c := rfl
@[simp] theorem R.bind_stuck {α β : Type} (f : α → R β) : R.bind .stuck f = .stuck := rfl
abbrev D := PyData

mutual
/- the value v is the data d, its lists and tuples in the heap F -/
inductive Is (K : PySem.W.Frag) (F : Hp) : V → D → Prop
  | non : Is K F .non .none
  | bl (b : Bool) : Is K F (.bl b) (.bool b)
  | int (i : Int) : Is K F (.int i) (.int i)
  | str (x : Str) : Is K F (.str x) (.str x)
  | lst {a : Addr} {xs : List V} {ds : List D} : Rd F a (.lst xs) → IsAll K F xs ds → Is K F (.ref a) (.list ds)
  | tup {a : Addr} {xs : List V} {ds : List D} : SqT K F a xs → IsAll K F xs ds → Is K F (.ref a) (.tuple ds)
  /- a caught exception at a, of the class that stands under the name c -/
  | exc (a : Addr) (c : Str) : Is K F (.ref a) (.dict [(.int (a : Int), .str c)])
inductive IsAll (K : PySem.W.Frag) (F : Hp) : List V → List D → Prop
  | nil : IsAll K F [] []
  | cons {v : V} {vs : List V} {d : D} {ds : List D} : Is K F v d → IsAll K F vs ds → IsAll K F (v :: vs) (d :: ds)
end
mutual
theorem Is.dp {K : PySem.W.Frag} {F : Hp} : ∀ {d : D} {v : V}, d.canLay0 = true → Is K F v d → Dp K F v d
  | .none, _, _, h => by cases h; exact .non
  | .bool b, _, _, h => by cases h; exact .bl b
  | .int i, _, _, h => by cases h; exact .int i
  | .str x, _, _, h => by cases h; exact .str x
  | .list ds, _, l, h => by cases h with | lst hs ha => exact .lst (.inl hs) (IsAll.dp (by simpa only [PyData.canLay0] using l) ha)
  | .tuple ds, _, l, h => by cases h with | tup hs ha => exact .tup hs (IsAll.dp (by simpa only [PyData.canLay0] using l) ha)
  | .dict _, _, l, h => by simp [PyData.canLay0] at l
theorem IsAll.dp {K : PySem.W.Frag} {F : Hp} : ∀ {ds : List D} {vs : List V}, PyData.canLayAll0 ds = true → IsAll K F vs ds → DpAll K F vs ds
  | [], _, _, h => by cases h; exact .nil
  | d :: ds, _, l, h => by
    cases h with
    | cons h1 h2 =>
      simp only [PyData.canLayAll0, Bool.and_eq_true] at l
      exact .cons (Is.dp l.1 h1) (IsAll.dp l.2 h2)
end
theorem Rd.mono {H H' : Hp} {a : Addr} {o : HO} (e : Same H H') (h : Rd H a o) : Rd H' a o := by
  rcases h with h | ⟨u, h⟩
  · exact .inl (e _ _ h)
  · exact .inr ⟨u, e _ _ h⟩
/-! ### heaps that grow -/
theorem Same.tupl {K : PySem.W.Frag} {H H' : Hp} {a : Addr} {xs : List V} (e : Same H H') (h : SqT K H a xs) : SqT K H' a xs := by
  rcases h with (z | ⟨u, z⟩) | z
  · exact .inl (.inl (e _ _ z))
  · exact .inl (.inr ⟨u, e _ _ z⟩)
  · exact .inr z
mutual
theorem Is.mono {K : PySem.W.Frag} {F F' : Hp} (e : Same F F') : ∀ {d : D} {v : V}, Is K F v d → Is K F' v d
  | .none, _, h => by cases h; exact .non
  | .bool b, _, h => by cases h; exact .bl b
  | .int i, _, h => by cases h; exact .int i
  | .str x, _, h => by cases h; exact .str x
  | .list ds, _, h => by cases h with | lst hs ha => exact .lst (Rd.mono e hs) (IsAll.mono e ha)
  | .tuple ds, _, h => by cases h with | tup hs ha => exact .tup (Same.tupl e hs) (IsAll.mono e ha)
  | .dict _, _, h => by cases h; exact .exc _ _
theorem IsAll.mono {K : PySem.W.Frag} {F F' : Hp} (e : Same F F') : ∀ {ds : List D} {vs : List V}, IsAll K F vs ds → IsAll K F' vs ds
  | [], _, h => by cases h; exact .nil
  | d :: ds, _, h => by cases h with | cons h1 h2 => exact .cons (Is.mono e h1) (IsAll.mono e h2)
end
theorem IsAll.len {K : PySem.W.Frag} {F : Hp} : ∀ {ds : List D} {vs : List V}, IsAll K F vs ds → vs.length = ds.length
  | [], _, h => by cases h; rfl
  | d :: ds, _, h => by
    cases h with
    | cons h1 h2 => rw [List.length_cons, List.length_cons, IsAll.len h2]
theorem IsAll.get {K : PySem.W.Frag} {F : Hp} : ∀ {ds : List D} {vs : List V} {i : Nat} {v : V}, IsAll K F vs ds → vs[i]? = some v → ∃ d, ds[i]? = some d ∧ Is K F v d
  | [], _, i, v, h, e => by cases h; simp at e
  | d :: ds, _, 0, v, h, e => by
    cases h with
    | cons h1 h2 => simp at e; subst e; exact ⟨d, rfl, h1⟩
  | d :: ds, _, i + 1, v, h, e => by
    cases h with
    | cons h1 h2 =>
      obtain ⟨x, h3, h4⟩ := IsAll.get (i := i) h2 (by simpa using e)
      exact ⟨x, by simpa using h3, h4⟩
theorem IsAll.get' {K : PySem.W.Frag} {F : Hp} : ∀ {ds : List D} {vs : List V} {i : Nat} {d : D}, IsAll K F vs ds → ds[i]? = some d → ∃ v, vs[i]? = some v ∧ Is K F v d
  | [], _, i, v, h, e => by simp at e
  | d :: ds, _, 0, v, h, e => by
    cases h with
    | cons h1 h2 => simp at e; subst e; exact ⟨_, rfl, h1⟩
  | d :: ds, _, i + 1, v, h, e => by
    cases h with
    | cons h1 h2 =>
      obtain ⟨x, h3, h4⟩ := IsAll.get' (i := i) h2 (by simpa using e)
      exact ⟨x, by simpa using h3, h4⟩
theorem IsAll.append {K : PySem.W.Frag} {F : Hp} : ∀ {ds es : List D} {vs us : List V}, IsAll K F vs ds → IsAll K F us es → IsAll K F (vs ++ us) (ds ++ es)
  | [], _, _, _, h, g => by cases h; exact g
  | d :: ds, es, _, us, h, g => by
    cases h with
    | cons h1 h2 => exact .cons h1 (IsAll.append h2 g)
theorem IsAll.take {K : PySem.W.Frag} {F : Hp} : ∀ (n : Nat) {ds : List D} {vs : List V}, IsAll K F vs ds → IsAll K F (vs.take n) (ds.take n)
  | 0, _, _, h => by simp; exact .nil
  | n + 1, [], _, h => by cases h; simp; exact .nil
  | n + 1, d :: ds, _, h => by
    cases h with
    | cons h1 h2 => exact .cons h1 (IsAll.take n h2)
theorem IsAll.drop {K : PySem.W.Frag} {F : Hp} : ∀ (n : Nat) {ds : List D} {vs : List V}, IsAll K F vs ds → IsAll K F (vs.drop n) (ds.drop n)
  | 0, _, _, h => by simpa using h
  | n + 1, [], _, h => by cases h; simp; exact .nil
  | n + 1, d :: ds, _, h => by
    cases h with
    | cons h1 h2 => simpa using IsAll.drop n h2
theorem IsAll.set {K : PySem.W.Frag} {F : Hp} {x : D} {u : V} (hx : Is K F u x) : ∀ (n : Nat) {ds : List D} {vs : List V}, IsAll K F vs ds → IsAll K F (vs.set n u) (ds.set n x)
  | _, [], _, h => by cases h; simp; exact .nil
  | 0, d :: ds, _, h => by
    cases h with
    | cons h1 h2 => exact .cons hx h2
  | n + 1, d :: ds, _, h => by
    cases h with
    | cons h1 h2 => exact .cons h1 (IsAll.set hx n h2)
theorem IsAll.reverse {K : PySem.W.Frag} {F : Hp} : ∀ {ds : List D} {vs : List V}, IsAll K F vs ds → IsAll K F vs.reverse ds.reverse
  | [], _, h => by cases h; exact .nil
  | d :: ds, _, h => by
    cases h with
    | cons h1 h2 =>
      rw [List.reverse_cons, List.reverse_cons]
      exact IsAll.append (IsAll.reverse h2) (.cons h1 .nil)
/- data without lists -/
mutual
def lf : D → Bool
  | .list _ => false
  | .dict _ => false
  | .tuple xs => lfs xs
  | _ => true
def lfs : List D → Bool
  | [] => true
  | x :: xs => lf x && lfs xs
end
@[simp] theorem lf_int (i : Int) : lf (.int i) = true := by simp [lf]
@[simp] theorem lf_bool (i : Bool) : lf (.bool i) = true := by simp [lf]
@[simp] theorem lf_str (i : Str) : lf (.str i) = true := by simp [lf]
@[simp] theorem lf_none : lf .none = true := by simp [lf]
@[simp] theorem lf_tuple (xs : List D) : lf (.tuple xs) = lfs xs := by simp [lf]
@[simp] theorem lf_list (xs : List D) : lf (.list xs) = false := by simp [lf]
@[simp] theorem lfs_nil : lfs [] = true := by simp [lfs]
@[simp] theorem lfs_cons (x : D) (xs : List D) : lfs (x :: xs) = (lf x && lfs xs) := by simp [lfs]
theorem rd_keep {F F' : Hp} {a : Addr} {xs : List V} (e : ∀ b, (∃ ys, Rd F b (.tup ys)) → F' b = F b) (h : Rd F a (.tup xs)) : Rd F' a (.tup xs) := by
  have := e a ⟨xs, h⟩
  rcases h with h | ⟨o, h⟩
  · exact .inl (by rw [this]; exact h)
  · exact .inr ⟨o, by rw [this]; exact h⟩
mutual
theorem Is.lfree {K : PySem.W.Frag} {F F' : Hp} (e : ∀ b, (∃ ys, Rd F b (.tup ys)) → F' b = F b) : ∀ {d : D} {v : V}, lf d = true → Is K F v d → Is K F' v d
  | .none, _, _, h => by cases h; exact .non
  | .bool b, _, _, h => by cases h; exact .bl b
  | .int i, _, _, h => by cases h; exact .int i
  | .str x, _, _, h => by cases h; exact .str x
  | .list ds, _, l, h => by simp at l
  | .tuple ds, _, l, h => by
    cases h with
    | tup hs ha =>
      refine .tup ?_ (IsAll.lfree e (by simpa using l) ha)
      rcases hs with hs | hs
      · exact .inl (rd_keep e hs)
      · exact .inr hs
  | .dict _, _, l, h => by simp [lf] at l
theorem IsAll.lfree {K : PySem.W.Frag} {F F' : Hp} (e : ∀ b, (∃ ys, Rd F b (.tup ys)) → F' b = F b) : ∀ {ds : List D} {vs : List V}, lfs ds = true → IsAll K F vs ds → IsAll K F' vs ds
  | [], _, _, h => by cases h; exact .nil
  | d :: ds, _, l, h => by
    cases h with
    | cons h1 h2 =>
      simp at l
      exact .cons (Is.lfree e l.1 h1) (IsAll.lfree e l.2 h2)
end

/-- the heap has grown, and so has its frozen part; what is newly frozen is new -/
structure Ext (B H B' H' : Hp) : Prop where
  hh : Same H H'
  bb : Same B B'
  bh : Same B' H'
  nw : ∀ a, B a = none → B' a ≠ none → H a = none
theorem Ext.refl {B H : Hp} (h : Same B H) : Ext B H B H := ⟨Same.refl H, Same.refl B, h, fun a x y => absurd x y⟩
theorem Ext.trans {B H B1 H1 B2 H2 : Hp} (a : Ext B H B1 H1) (b : Ext B1 H1 B2 H2) : Ext B H B2 H2 :=
  ⟨a.hh.trans b.hh, a.bb.trans b.bb, b.bh, fun x h1 h2 => by
    cases e : B1 x with
    | none => exact Same.free a.hh (b.nw x e h2)
    | some o => exact a.nw x h1 (by rw [e]; exact fun z => nomatch z)⟩
theorem same_upd {H : Hp} {p : Addr} {o : HO} (h : H p = none) : Same H (upd H p o) := fun b u e => by
  rw [upd_ne (ne_of_none e h)]
  exact e
/-- a new object, frozen at once -/
theorem Ext.new {B H : Hp} {p : Addr} {o : HO} (h : Same B H) (n : H p = none) : Ext B H (upd B p o) (upd H p o) := by
  refine ⟨same_upd n, same_upd (Same.free h n), fun b x e => ?_, fun a h1 h2 => ?_⟩
  · by_cases hb : b = p
    · subst hb; rw [upd_same] at e ⊢; exact e
    · rw [upd_ne hb] at e ⊢; exact h _ _ e
  · by_cases hb : a = p
    · subst hb; exact n
    · rw [upd_ne hb] at h2; exact absurd h1 h2
/-- a new object that stays one's own -/
theorem Ext.own {B H : Hp} {p : Addr} {o : HO} (h : Same B H) (n : H p = none) : Ext B H B (upd H p o) :=
  ⟨same_upd n, Same.refl B, h.trans (same_upd n), fun a x y => absurd x y⟩

/-! ### sizes that every state knows -/
def Small (K : PySem.W.Frag) (H : Hp) : Prop := ∀ a xs, SqL K H a xs ∨ SqT K H a xs → xs.length ≤ sizeLine
theorem Inv.small {X : Cx} {pins : List (Addr × Obj)} {σ : L2.St} {H : Hp} {s : Shared} (I : Inv X pins σ H s) : Small X.K H := fun a xs h => by
  rcases h with h | h
  · obtain ⟨_, _, _, z⟩ := I.list h; exact z
  · obtain ⟨_, _, _, z⟩ := I.tuple h; exact z
theorem pe_small {X : Cx} {e : Expr} {t : TE} (h : PE X e t) : PE X e (fun σ H Q => t σ H fun v H' => Small X.K H' → Q v H') := ⟨fun pins s σ H Q I hw =>
  thn (h.run pins s σ H _ I hw) fun u s' ⟨v, H', I', r, q⟩ => ⟨v, H', I', r, q (Inv.small I')⟩⟩
theorem pi_small {X : Cx} {tg it : Expr} {t : TI} (h : PI X tg it t) : PI X tg it (fun σ H Q => t σ H fun J H' => Small X.K H' → Q J H') := ⟨fun pins s σ H R I hw =>
  thn (h.run pins s σ H _ I hw) fun v s1 h1 => thn h1 fun itv s2 ⟨it, fp, tn, J, H', e1, I2, T, st, fo, q⟩ => ⟨it, fp, tn, J, H', e1, I2, T, st, fo, q (Inv.small I2)⟩⟩
theorem Small.list {K : PySem.W.Frag} {B H : Hp} {v : V} {ds : List D} (s : Small K H) (e : Same B H) (h : Is K B v (.list ds)) : ds.length ≤ sizeLine := by
  cases h with
  | lst hs ha => rw [← IsAll.len ha]; exact s _ _ (.inl (.inl (Rd.mono e hs)))
theorem Small.tuple {K : PySem.W.Frag} {B H : Hp} {v : V} {ds : List D} (s : Small K H) (e : Same B H) (h : Is K B v (.tuple ds)) : ds.length ≤ sizeLine := by
  cases h with
  | tup hs ha => rw [← IsAll.len ha]; exact s _ _ (.inr (Same.tupl e hs))

/-! ### pure expressions -/
abbrev PEnv := List (Option D)
structure RF (K : PySem.W.Frag) (B : Hp) (σ : L2.St) (ρ : PEnv) : Prop where
  len : σ.length = ρ.length
  at_ : ∀ (i : Nat) (d : D), ρ[i]? = some (some d) → ∃ v, σ[i]? = some (some v) ∧ Is K B v d
theorem RF.mono {K : PySem.W.Frag} {B B' : Hp} {σ : L2.St} {ρ : PEnv} (h : RF K B σ ρ) (e : Same B B') : RF K B' σ ρ := ⟨h.len, fun i d x => by
  obtain ⟨v, h1, h2⟩ := h.at_ i d x
  exact ⟨v, h1, Is.mono e h2⟩⟩
/-- an error of the class that stands under the name c -/
def ErrAt (X : Cx) (W : WX) (c : Str) (σ : L2.St) (H : Hp) : Prop := ∃ C, X.mg c = some (.ref C) ∧ W (.ref C) none σ H
def Pst {α : Type} (X : Cx) (W : WX) (σ : L2.St) (H : Hp) (k : α → Prop) : R α → Prop
  | .stuck => False
  | .err c => ∀ H', Same H H' → ErrAt X W c σ H'
  | .ok a => k a
theorem Pst.imp {α : Type} {X : Cx} {W : WX} {σ : L2.St} {H : Hp} {k k' : α → Prop} (h : ∀ a, k a → k' a) : ∀ {r : R α}, Pst X W σ H k r → Pst X W σ H k' r
  | .stuck, x => x
  | .err _, x => x
  | .ok a, x => h a x
/-- the wanted end for a pure value -/
def KV1 (X : Cx) (B H : Hp) (Q : VK) (d : D) : Prop := ∀ v H' B', Ext B H B' H' → Small X.K H' → Is X.K B' v d → Q v H'
structure VE (X : Cx) (W : WX) (e : Expr) (f : PEnv → R D) : Prop where
  ex : ∃ t, PE X e t ∧ ∀ σ H B ρ Q, Same B H → RF X.K B σ ρ → Pst X W σ H (KV1 X B H Q) (f ρ) → t σ H Q
def KB1 (B H : Hp) (Q : Bool → Hp → Prop) (b : Bool) : Prop := ∀ H' B', Ext B H B' H' → Q b H'
structure VT (X : Cx) (W : WX) (e : Expr) (f : PEnv → R Bool) : Prop where
  ex : ∃ t, PT X e t ∧ ∀ σ H B ρ Q, Same B H → RF X.K B σ ρ → Pst X W σ H (KB1 B H Q) (f ρ) → t σ H Q
def KA1 (X : Cx) (B H : Hp) (Q : List V → Hp → Prop) (ds : List D) : Prop := ∀ vs H' B', Ext B H B' H' → IsAll X.K B' vs ds → Q vs H'
structure VA (X : Cx) (W : WX) (es : List Expr) (f : PEnv → R (List D)) : Prop where
  ex : ∃ t, PA X es t ∧ ∀ σ H B ρ Q, Same B H → RF X.K B σ ρ → Pst X W σ H (KA1 X B H Q) (f ρ) → t σ H Q

section
variable {X : Cx} {W : WX} {a b c : Expr} {es : List Expr} {pos : Pos} {fa fb fc : PEnv → R D}
/-- a rule for VE from a PE; the small sizes come by themselves -/
theorem VE.mk' {e : Expr} {f : PEnv → R D} {t : TE} (h : PE X e t)
    (q : ∀ σ H B ρ Q, Same B H → RF X.K B σ ρ → Pst X W σ H (fun d => ∀ v H' B', Ext B H B' H' → Is X.K B' v d → Q v H') (f ρ) → t σ H Q) : VE X W e f :=
  ⟨_, pe_small h, fun σ H B ρ Q s r p => q σ H B ρ _ s r (Pst.imp (fun d k v H' B' e dp sm => k v H' B' e sm dp) p)⟩

def vVar (i : Nat) : PEnv → R D := fun ρ => match ρ[i]? with
  | some (some d) => .ok d
  | _ => .stuck
def vC (d : D) : PEnv → R D := fun _ => .ok d
theorem vv (i : Nat) {x : Str} (hN : X.N[i]? = some x := by rfl) (hv : Vis X.env.scope x := by first | exact Or.inl rfl | exact Or.inr (Or.inl rfl) | exact Or.inr (Or.inr rfl)) (hd : (x == ("__debug__" : Str)) = false := by decide)
    (hcd : (x == ("__classdict__" : Str)) = false := by decide) : VE X W (.Name x pos) (vVar i) := by
  refine VE.mk' (pe_var hN hv hd hcd) fun σ H B ρ Q s r p => ?_
  unfold vVar at p
  split at p
  · rename_i d e
    obtain ⟨v, e1, dp⟩ := r.at_ i d e
    exact ⟨v, e1, p v H B (.refl s) dp⟩
  · exact p.elim
theorem vint {i j} : VE X W (.Constant (.int i) j pos) (vC (.int i)) := VE.mk' pe_int fun σ H B ρ Q s r p => p _ H B (.refl s) (.int i)
theorem vbool {i j} : VE X W (.Constant (.bool i) j pos) (vC (.bool i)) := VE.mk' pe_bl fun σ H B ρ Q s r p => p _ H B (.refl s) (.bl i)
theorem vnone {j} : VE X W (.Constant .none j pos) (vC .none) := VE.mk' pe_non fun σ H B ρ Q s r p => p _ H B (.refl s) .non
theorem vstr {i j} : VE X W (.Constant (.str i) j pos) (vC (.str i)) := VE.mk' pe_str fun σ H B ρ Q s r p => p _ H B (.refl s) (.str i)
/-- a constant of the module: a value that stands by itself in the written part -/
theorem vglob {x : Str} {v : V} {u : Value} {d : D} (hg : Gl X x) (hm : X.mg x = some u) (r : RelV v u) (hd : ∀ H, Is X.K H v d) (hdb : (x == ("__debug__" : Str)) = false := by decide) : VE X W (.Name x pos) (vC d) :=
  VE.mk' (pe_glob hg hm r hdb) fun σ H B ρ Q s _ p => p v H B (.refl s) (hd B)

/-! two values -/
def v2 (g : D → D → R D) (fa fb : PEnv → R D) : PEnv → R D := fun ρ => (fa ρ).bind fun d => (fb ρ).bind fun e => g d e
def v1 (g : D → R D) (fa : PEnv → R D) : PEnv → R D := fun ρ => (fa ρ).bind g
/-- from the state, two values one after another -/
theorem two {ta tb : TE} (ha : ∀ σ H B ρ Q, Same B H → RF X.K B σ ρ → Pst X W σ H (KV1 X B H Q) (fa ρ) → ta σ H Q) (hb : ∀ σ H B ρ Q, Same B H → RF X.K B σ ρ → Pst X W σ H (KV1 X B H Q) (fb ρ) → tb σ H Q)
    {α : Type} {σ : L2.St} {H B : Hp} {ρ : PEnv} {g : D → D → R α} {K : α → Prop} {Q : V → V → Hp → Prop} (s : Same B H) (r : RF X.K B σ ρ)
    (p : Pst X W σ H K ((fa ρ).bind fun d => (fb ρ).bind fun e => g d e))
    (q : ∀ d e x y H' B', Ext B H B' H' → Small X.K H' → Is X.K B' x d → Is X.K B' y e → Pst X W σ H' K (g d e) → Q x y H') : ta σ H fun x H1 => tb σ H1 fun y H2 => Q x y H2 := by
  refine ha σ H B ρ _ s r ?_
  generalize hfa : fa ρ = ra at p ⊢
  cases ra with
  | stuck => exact p
  | err c => exact p
  | ok d =>
    intro x H1 B1 e1 sm1 d1
    refine hb σ H1 B1 ρ _ e1.bh (r.mono e1.bb) ?_
    simp only [R.bind_ok] at p
    generalize hfb : fb ρ = rb at p ⊢
    cases rb with
    | stuck => exact p
    | err c => exact fun H' z => p H' (e1.hh.trans z)
    | ok e =>
      intro y H2 B2 e2 sm2 d2
      refine q d e x y H2 B2 (e1.trans e2) sm2 (Is.mono e2.bb d1) d2 ?_
      simp only [R.bind_ok] at p
      generalize g d e = rg at p ⊢
      cases rg with
      | stuck => exact p
      | err c => exact fun H' z => p H' ((e1.trans e2).hh.trans z)
      | ok z => exact p
theorem one {ta : TE} (ha : ∀ σ H B ρ Q, Same B H → RF X.K B σ ρ → Pst X W σ H (KV1 X B H Q) (fa ρ) → ta σ H Q)
    {α : Type} {σ : L2.St} {H B : Hp} {ρ : PEnv} {g : D → R α} {K : α → Prop} {Q : V → Hp → Prop} (s : Same B H) (r : RF X.K B σ ρ)
    (p : Pst X W σ H K ((fa ρ).bind g))
    (q : ∀ d x H' B', Ext B H B' H' → Small X.K H' → Is X.K B' x d → Pst X W σ H' K (g d) → Q x H') : ta σ H Q := by
  refine ha σ H B ρ _ s r ?_
  generalize hfa : fa ρ = ra at p ⊢
  cases ra with
  | stuck => exact p
  | err c => exact p
  | ok d =>
    intro x H1 B1 e1 sm1 d1
    refine q d x H1 B1 e1 sm1 d1 ?_
    simp only [R.bind_ok] at p
    generalize g d = rg at p ⊢
    cases rg with
    | stuck => exact p
    | err c => exact fun H' z => p H' (e1.hh.trans z)
    | ok z => exact p
/-- what a two-place rule asks is given by g -/
def Rule2 (X : Cx) (W : WX) (r : R2) (g : D → D → R D) : Prop := ∀ d e x y σ H B Q, Same B H → Small X.K H → Is X.K B x d → Is X.K B y e → Pst X W σ H (fun d' => ∀ v H' B', Ext B H B' H' → Is X.K B' v d' → Q v H') (g d e) → r x y H Q
def Rule1 (X : Cx) (W : WX) (r : V → Hp → VK → Prop) (g : D → R D) : Prop := ∀ d x σ H B Q, Same B H → Small X.K H → Is X.K B x d → Pst X W σ H (fun d' => ∀ v H' B', Ext B H B' H' → Is X.K B' v d' → Q v H') (g d) → r x H Q
theorem kv_ext {B H B1 H1 : Hp} {Q : VK} {d : D} (e : Ext B H B1 H1) (p : ∀ v H' B', Ext B H B' H' → Is X.K B' v d → Q v H') : ∀ v H' B', Ext B1 H1 B' H' → Is X.K B' v d → Q v H' := fun v H' B' e' dp => p v H' B' (e.trans e') dp
theorem ve2 {e : Expr} {r : R2} {g : D → D → R D} (mk : ∀ {ta tb : TE}, PE X a ta → PE X b tb → PE X e (tOp r ta tb)) (hr : Rule2 X W r g) (ha : VE X W a fa) (hb : VE X W b fb) : VE X W e (v2 g fa fb) := by
  obtain ⟨ta, pa, qa⟩ := ha.ex
  obtain ⟨tb, pb, qb⟩ := hb.ex
  refine VE.mk' (mk pa pb) fun σ H B ρ Q s rf p => ?_
  exact two qa qb s rf p fun d e x y H' B' ex sm dx dy pg => hr d e x y σ H' B' Q ex.bh sm dx dy (Pst.imp (fun a k => kv_ext ex k) pg)
theorem ve1 {e : Expr} {r : V → Hp → VK → Prop} {g : D → R D} (mk : ∀ {ta : TE}, PE X a ta → PE X e (tUn r ta)) (hr : Rule1 X W r g) (ha : VE X W a fa) : VE X W e (v1 g fa) := by
  obtain ⟨ta, pa, qa⟩ := ha.ex
  refine VE.mk' (mk pa) fun σ H B ρ Q s rf p => ?_
  exact one qa s rf p fun d x H' B' ex sm dx pg => hr d x σ H' B' Q ex.bh sm dx (Pst.imp (fun a k => kv_ext ex k) pg)
end
end VL

namespace VL
open PySem PySem.Spec PyProof.Rows L2

noncomputable instance (a b : Int) : Decidable (IntMulOk a b) := Classical.propDecidable _

/-! ### what the operators give on data -/
def vadd : D → D → R D
  | .int i, .int j => .ok (.int (i + j))
  | .str x, .str y => if x.length + y.length ≤ sizeLine then .ok (.str (x ++ y)) else .stuck
  | .list xs, .list ys => if xs.length + ys.length ≤ sizeLine then .ok (.list (xs ++ ys)) else .stuck
  | .tuple xs, .tuple ys => if xs.length + ys.length ≤ sizeLine then .ok (.tuple (xs ++ ys)) else .stuck
  | _, _ => .stuck
def vsub : D → D → R D
  | .int i, .int j => .ok (.int (i - j))
  | _, _ => .stuck
noncomputable def vmul : D → D → R D
  | .int i, .int j => if IntMulOk i j then .ok (.int (i * j)) else .stuck
  | _, _ => .stuck
noncomputable def vfdiv : D → D → R D
  | .int i, .int j => @ite _ (0 < j ∧ j < 2 ^ 250) (Classical.propDecidable _) (.ok (.int (i / j))) .stuck
  | _, _ => .stuck
def vmod : D → D → R D
  | .int i, .int j => if 0 < j then .ok (.int (i % j)) else .stuck
  | _, _ => .stuck
noncomputable def vpow : D → D → R D
  | .int i, .int j => @ite _ (0 ≤ j ∧ j ≤ 1000 ∧ i.natAbs < 2 ^ 64) (Classical.propDecidable _) (.ok (.int (i ^ j.toNat))) .stuck
  | _, _ => .stuck
def vneg : D → R D
  | .int i => .ok (.int (-i))
  | _ => .stuck
def vlt : D → D → R D
  | .int i, .int j => .ok (.bool (decide (i < j)))
  | _, _ => .stuck
def vle : D → D → R D
  | .int i, .int j => .ok (.bool (decide (i ≤ j)))
  | _, _ => .stuck
def vgt : D → D → R D
  | .int i, .int j => .ok (.bool (decide (j < i)))
  | _, _ => .stuck
def vge : D → D → R D
  | .int i, .int j => .ok (.bool (decide (j ≤ i)))
  | _, _ => .stuck
/-- == -/
def vEq (d e : D) : R Bool := if SeqAt.shaped d = true ∧ SeqAt.shaped e = true then .ok (PyData.eqv d e) else .stuck
def veq (d e : D) : R D := (vEq d e).bind fun b => .ok (.bool b)
def vne (d e : D) : R D := (vEq d e).bind fun b => .ok (.bool (!b))
def visnone : D → R D := fun d => .ok (.bool (match d with | .none => true | _ => false))
def vidx : D → D → R D
  | .list xs, .int i => match atI xs i with | some d => .ok d | none => .stuck
  | .tuple xs, .int i => match atI xs i with | some d => .ok d | none => .stuck
  | .str z, .int i => match atI z.cps.toList i with | some c => if z.length ≤ sizeLine then .ok (.str ⟨#[c]⟩) else .stuck | none => .stuck
  | _, _ => .stuck
def vin (d : D) : D → R Bool
  | .list ds => if SeqAt.shaped d = true ∧ SeqAt.shaped (.list ds) = true then .ok (ds.any fun z => PyData.eqv z d) else .stuck
  | _ => .stuck

section
variable {X : Cx} {W : WX} {a b c : Expr} {es : List Expr} {pos : Pos} {fa fb fc : PEnv → R D} {k : Nat}

theorem atI_all {K : PySem.W.Frag} {F : Hp} {vs : List V} {ds : List D} {i : Int} {d : D} (h : IsAll K F vs ds) (e : atI ds i = some d) : ∃ v, atI vs i = some v ∧ Is K F v d := by
  unfold atI at e ⊢
  rw [IsAll.len h]
  cases q : ixN ds.length i with
  | none => rw [q] at e; simp at e
  | some j =>
    rw [q] at e
    simp only [Option.bind_some] at e ⊢
    exact IsAll.get' h e

theorem r_int {K : Int → Int → Prop} {g : Int → Int → V} {G : D → D → R D} {T : Int → Int → D} (hG : ∀ d e, G d e ≠ .stuck → ∃ i j, d = .int i ∧ e = .int j ∧ K i j ∧ G d e = .ok (T i j)) (hg : ∀ i j F, Is X.K F (g i j) (T i j)) : Rule2 X W (rI K g) G := by
  intro d e x y σ H B Q s sm dx dy p
  have h0 : G d e ≠ .stuck := fun z => by rw [z] at p; exact p
  obtain ⟨i, j, rfl, rfl, hk, eG⟩ := hG d e h0
  rw [eG] at p
  cases dx
  cases dy
  exact ⟨i, j, rfl, rfl, hk, p _ H B (.refl s) (hg i j B)⟩
theorem r_int0 {g : Int → Int → V} {G : D → D → R D} {T : Int → Int → D} (hG : ∀ d e, G d e ≠ .stuck → ∃ i j, d = .int i ∧ e = .int j ∧ G d e = .ok (T i j)) (hg : ∀ i j F, Is X.K F (g i j) (T i j)) : Rule2 X W (rI0 g) G := by
  intro d e x y σ H B Q s sm dx dy p
  have h0 : G d e ≠ .stuck := fun z => by rw [z] at p; exact p
  obtain ⟨i, j, rfl, rfl, eG⟩ := hG d e h0
  rw [eG] at p
  cases dx
  cases dy
  exact ⟨i, j, rfl, rfl, p _ H B (.refl s) (hg i j B)⟩

theorem vsub_ (ha : VE X W a fa) (hb : VE X W b fb) : VE X W (.BinOp a .Sub b pos) (v2 vsub fa fb) :=
  ve2 (fun p q => pe_op op_sub p q) (r_int0 (T := fun i j => .int (i - j)) (fun d e h => by cases d <;> first | exact absurd rfl h | (cases e <;> first | exact absurd rfl h | exact ⟨_, _, rfl, rfl, rfl⟩)) fun _ _ _ => .int _) ha hb
theorem vmul_ (ha : VE X W a fa) (hb : VE X W b fb) : VE X W (.BinOp a .Mult b pos) (v2 vmul fa fb) :=
  ve2 (fun p q => pe_op (r := rI IntMulOk fun i j => .int (i * j)) (opI fun _ _ _ _ _ _ _ hc q => mul_int q hc) p q) (r_int (T := fun i j => .int (i * j)) (fun d e h => by
    cases d <;> first | exact absurd rfl h | (cases e <;> first | exact absurd rfl h | skip)
    simp only [vmul] at h ⊢
    split at h
    · rename_i hm; exact ⟨_, _, rfl, rfl, hm, if_pos hm⟩
    · exact absurd rfl h) fun _ _ _ => .int _) ha hb
theorem log2_250 {j : Int} (h0 : 0 < j) (h : j < 2 ^ 250) : CDivW 0 j := wide_div h0 (b := 250) (by omega) (by omega) (by omega)
theorem vfdiv_ (ha : VE X W a fa) (hb : VE X W b fb) : VE X W (.BinOp a .FloorDiv b pos) (v2 vfdiv fa fb) :=
  ve2 (fun p q => pe_op op_fdivW p q) (r_int (K := CDivW) (T := fun i j => .int (i / j)) (fun d e h => by
    cases d <;> first | exact absurd rfl h | (cases e <;> first | exact absurd rfl h | skip)
    simp only [vfdiv] at h ⊢
    split at h
    · rename_i hm; exact ⟨_, _, rfl, rfl, log2_250 hm.1 hm.2, if_pos hm⟩
    · exact absurd rfl h) fun _ _ _ => .int _) ha hb
theorem vmod_ (ha : VE X W a fa) (hb : VE X W b fb) : VE X W (.BinOp a .Mod b pos) (v2 vmod fa fb) :=
  ve2 (fun p q => pe_op op_mod p q) (r_int (T := fun i j => .int (i % j)) (fun d e h => by
    cases d <;> first | exact absurd rfl h | (cases e <;> first | exact absurd rfl h | skip)
    simp only [vmod] at h ⊢
    split at h
    · rename_i hm; exact ⟨_, _, rfl, rfl, hm, if_pos hm⟩
    · exact absurd rfl h) fun _ _ _ => .int _) ha hb
theorem vpow_ (ha : VE X W a fa) (hb : VE X W b fb) : VE X W (.BinOp a .Pow b pos) (v2 vpow fa fb) :=
  ve2 (fun p q => pe_op op_pow p q) (r_int (T := fun i j => .int (i ^ j.toNat)) (fun d e h => by
    cases d <;> first | exact absurd rfl h | (cases e <;> first | exact absurd rfl h | skip)
    simp only [vpow] at h ⊢
    split at h
    · rename_i hm; exact ⟨_, _, rfl, rfl, ⟨hm.1, by omega, hm.2.2⟩, if_pos hm⟩
    · exact absurd rfl h) fun _ _ _ => .int _) ha hb
theorem vneg_ (ha : VE X W a fa) : VE X W (.UnaryOp .USub a pos) (v1 vneg fa) :=
  ve1 (fun p => pe_un un_neg p) (fun d x σ H B Q s sm dx p => by
    cases dx <;> first | exact p.elim | exact ⟨_, rfl, p _ H B (.refl s) (.int _)⟩) ha
/-- comparisons of ints -/
theorem vlt_ (ha : VE X W a fa) (hb : VE X W b fb) : VE X W (.Compare a [.Lt] [b] pos) (v2 vlt fa fb) :=
  ve2 (fun p q => pe_cmpR op_lt p q (nomark _)) (r_int0 (T := fun i j => .bool (decide (i < j))) (fun d e h => by cases d <;> first | exact absurd rfl h | (cases e <;> first | exact absurd rfl h | exact ⟨_, _, rfl, rfl, rfl⟩)) fun _ _ _ => .bl _) ha hb
theorem vle_ (ha : VE X W a fa) (hb : VE X W b fb) : VE X W (.Compare a [.LtE] [b] pos) (v2 vle fa fb) :=
  ve2 (fun p q => pe_cmpR op_le p q (nomark _)) (r_int0 (T := fun i j => .bool (decide (i ≤ j))) (fun d e h => by cases d <;> first | exact absurd rfl h | (cases e <;> first | exact absurd rfl h | exact ⟨_, _, rfl, rfl, rfl⟩)) fun _ _ _ => .bl _) ha hb
theorem vgt_ (ha : VE X W a fa) (hb : VE X W b fb) : VE X W (.Compare a [.Gt] [b] pos) (v2 vgt fa fb) :=
  ve2 (fun p q => pe_cmpR op_gt p q (nomark _)) (r_int0 (T := fun i j => .bool (decide (j < i))) (fun d e h => by cases d <;> first | exact absurd rfl h | (cases e <;> first | exact absurd rfl h | exact ⟨_, _, rfl, rfl, rfl⟩)) fun _ _ _ => .bl _) ha hb
theorem vge_ (ha : VE X W a fa) (hb : VE X W b fb) : VE X W (.Compare a [.GtE] [b] pos) (v2 vge fa fb) :=
  ve2 (fun p q => pe_cmpR op_ge p q (nomark _)) (r_int0 (T := fun i j => .bool (decide (j ≤ i))) (fun d e h => by cases d <;> first | exact absurd rfl h | (cases e <;> first | exact absurd rfl h | exact ⟨_, _, rfl, rfl, rfl⟩)) fun _ _ _ => .bl _) ha hb
theorem rule_eq : Rule2 X W (rEqD X.K) veq := fun d e x y σ H B Q s sm dx dy p => by
  unfold veq vEq at p
  split at p
  · rename_i h
    exact ⟨d, e, (Is.mono s dx).dp (SeqAt.canLay_of_shaped h.1), (Is.mono s dy).dp (SeqAt.canLay_of_shaped h.2), h.1, h.2, p _ H B (.refl s) (.bl _)⟩
  · exact p.elim
theorem rule_ne : Rule2 X W (rNeD X.K) vne := fun d e x y σ H B Q s sm dx dy p => by
  unfold vne vEq at p
  split at p
  · rename_i h
    exact ⟨d, e, (Is.mono s dx).dp (SeqAt.canLay_of_shaped h.1), (Is.mono s dy).dp (SeqAt.canLay_of_shaped h.2), h.1, h.2, p _ H B (.refl s) (.bl _)⟩
  · exact p.elim
theorem veq_ (hr : Room k X.A) (ha : VE X W a fa) (hb : VE X W b fb) : VE X W (.Compare a [.Eq] [b] pos) (v2 veq fa fb) := ve2 (fun p q => pe_cmpR (op_eqD hr.units) p q (nomark _)) rule_eq ha hb
theorem vne_ (hr : Room k X.A) (ha : VE X W a fa) (hb : VE X W b fb) : VE X W (.Compare a [.NotEq] [b] pos) (v2 vne fa fb) := ve2 (fun p q => pe_cmpR (op_neD hr.units) p q (nomark _)) rule_ne ha hb
theorem hu65 (hr : Room k X.A) : X.A.units + 65 < cLine := by have := hr.un; omega
theorem vin_ (hr : Room k X.A) (ha : VE X W a fa) (hb : VE X W b fb) (hm : behindInMarks .In b = false := by with_unfolding_all rfl) : VE X W (.Compare a [.In] [b] pos) (v2 (fun d e => (vin d e).bind fun b => .ok (.bool b)) fa fb) :=
  ve2 (fun p q => pe_cmpR (op_inD (hu65 hr)) p q hm) (fun d e x y σ H B Q s sm dx dy p => by
    unfold vin at p
    cases e <;> first | exact p.elim | skip
    dsimp only at p
    split at p
    · rename_i h
      exact ⟨_, _, (Is.mono s dx).dp (SeqAt.canLay_of_shaped h.1), (Is.mono s dy).dp (SeqAt.canLay_of_shaped h.2), h.1, h.2, p _ H B (.refl s) (.bl _)⟩
    · exact p.elim) ha hb
theorem vnotin_ (hr : Room k X.A) (ha : VE X W a fa) (hb : VE X W b fb) (hm : behindInMarks .NotIn b = false := by with_unfolding_all rfl) : VE X W (.Compare a [.NotIn] [b] pos) (v2 (fun d e => (vin d e).bind fun b => .ok (.bool (!b))) fa fb) :=
  ve2 (fun p q => pe_cmpR (op_notInD (hu65 hr)) p q hm) (fun d e x y σ H B Q s sm dx dy p => by
    unfold vin at p
    cases e <;> first | exact p.elim | skip
    dsimp only at p
    split at p
    · rename_i h
      exact ⟨_, _, (Is.mono s dx).dp (SeqAt.canLay_of_shaped h.1), (Is.mono s dy).dp (SeqAt.canLay_of_shaped h.2), h.1, h.2, p _ H B (.refl s) (.bl _)⟩
    · exact p.elim) ha hb
theorem visnone_ {j pos'} (ha : VE X W a fa) : VE X W (.Compare a [.Is] [.Constant .none j pos'] pos) (v1 visnone fa) := by
  obtain ⟨ta, pa, qa⟩ := ha.ex
  refine VE.mk' (pe_cmp (pc_isN pa) rfl) fun σ H B ρ Q s rf p => ?_
  refine one qa s rf p fun d x H' B' ex sm dx pg => ?_
  unfold visnone at pg
  cases dx <;> exact pg _ H' B' ex (.bl _)
theorem vnotnone_ {j pos'} (ha : VE X W a fa) : VE X W (.Compare a [.IsNot] [.Constant .none j pos'] pos) (v1 (fun d => (visnone d).bind fun b => match b with | .bool b => .ok (.bool (!b)) | _ => .stuck) fa) := by
  obtain ⟨ta, pa, qa⟩ := ha.ex
  refine VE.mk' (pe_cmp (pc_notN pa) rfl) fun σ H B ρ Q s rf p => ?_
  refine one qa s rf p fun d x H' B' ex sm dx pg => ?_
  unfold visnone at pg
  cases dx <;> exact pg _ H' B' ex (.bl _)

/-! a + b of ints, texts, lists, tuples -/
def rCatL : R2 := fun x y H Q => ∃ l b xs zs, x = .ref l ∧ y = .ref b ∧ Rd H l (.lst xs) ∧ Rd H b (.lst zs) ∧ xs.length + zs.length ≤ sizeLine ∧ ∀ p, H p = none → Q (.ref p) (upd H p (.lst (xs ++ zs)))
theorem op_catL : OpR X (binaryOp .Add) rCatL := by
  intro pins t σ G x y vv uu Q J rX rY hh
  obtain ⟨a, b, xs, zs, rfl, rfl, hH, hB, hz, q⟩ := hh
  cases rX
  cases rY
  obtain ⟨z, us, n, r, e1⟩ : xs.length ≤ sizeLine ∧ ∃ (us : List Value) (n : Nat), Vals xs us ∧ t.heap.get? a = some { cls := .type "list", data := .seq us.toArray n } := hH.ok J.hok
  obtain ⟨z2, us2, n2, r2, e2⟩ : zs.length ≤ sizeLine ∧ ∃ (us : List Value) (n : Nat), Vals zs us ∧ t.heap.get? b = some { cls := .type "list", data := .seq us.toArray n } := hB.ok J.hok
  have hl := r.length
  have hl2 := r2.length
  refine PySem.P.add_list e1 e2 ?_ (by rw [List.size_toArray, List.size_toArray]; omega)
  have eu : us.toArray ++ us2.toArray = (us ++ us2).toArray := by simp
  rw [eu]
  exact ⟨.ref _, _, J.lnew (t' := t.toks) (r.append r2) (by rw [List.length_append]; omega), rfl, q _ J.fresh⟩
theorem vadd_ (ha : VE X W a fa) (hb : VE X W b fb) : VE X W (.BinOp a .Add b pos) (v2 vadd fa fb) := by
  refine ve2 (fun p q => pe_op (L2.OpR.or op_add (L2.OpR.or op_add_str (L2.OpR.or op_catL op_catA))) p q) (fun d e x y σ H B Q s sm dx dy p => ?_) ha hb
  cases dx with
  | int i =>
    cases dy <;> first | exact p.elim | exact .inl ⟨_, _, rfl, rfl, p _ H B (.refl s) (.int _)⟩
  | str z =>
    cases dy <;> first | exact p.elim | skip
    simp only [vadd] at p
    split at p
    · rename_i hz
      exact .inr (.inl ⟨_, _, rfl, rfl, hz, p _ H B (.refl s) (.str _)⟩)
    · exact p.elim
  | lst h1 h2 =>
    cases dy <;> first | exact p.elim | skip
    rename_i h3 h4
    simp only [vadd] at p
    split at p
    · rename_i hz
      refine .inr (.inr (.inl ⟨_, _, _, _, rfl, rfl, Rd.mono s h1, Rd.mono s h3, by rw [IsAll.len h2, IsAll.len h4]; exact hz, fun q hq => ?_⟩))
      exact p _ _ _ (Ext.new s hq) (.lst (.inl upd_same) (IsAll.append (IsAll.mono (Ext.new s hq).bb h2) (IsAll.mono (Ext.new s hq).bb h4)))
    · exact p.elim
  | tup h1 h2 =>
    cases dy <;> first | exact p.elim | skip
    rename_i ds1 a2 xs2 ds2 h3 h4
    simp only [vadd] at p
    split at p
    · rename_i hz
      have l1 := IsAll.len h2
      have l2 := IsAll.len h4
      refine .inr (.inr (.inr ⟨_, _, _, _, rfl, rfl, Same.tupl s h1, Same.tupl s h3, by rw [l1, l2]; exact hz, fun e1 => ?_, fun _ e2 => ?_, fun _ _ q hq => ?_⟩))
      · subst e1
        have : ds1 = [] := List.eq_nil_of_length_eq_zero (by rw [← l1]; rfl)
        subst this
        exact p _ H B (.refl s) (.tup h3 h4)
      · subst e2
        have : ds2 = [] := List.eq_nil_of_length_eq_zero (by rw [← l2]; rfl)
        subst this
        rw [List.append_nil] at p
        exact p _ H B (.refl s) (.tup h1 h2)
      · exact p _ _ _ (Ext.new s hq) (.tup (.inl (.inl upd_same)) (IsAll.append (IsAll.mono (Ext.new s hq).bb h2) (IsAll.mono (Ext.new s hq).bb h4)))
    · exact p.elim
  | non => cases dy <;> exact p.elim
  | bl _ => cases dy <;> exact p.elim
  | exc _ _ => cases dy <;> exact p.elim

/-! a[i] -/
theorem vidx_ (ha : VE X W a fa) (hb : VE X W b fb) (hs : PlainIx b := by exact fun _ _ => rfl) : VE X W (.Subscript a b pos) (v2 vidx fa fb) := by
  refine ve2 (fun p q => pe_ix ix_seq p q hs) (fun d e x y σ H B Q s sm dx dy p => ?_) ha hb
  cases dx with
  | lst h1 h2 =>
    cases dy <;> first | exact p.elim | skip
    simp only [vidx] at p
    split at p
    · rename_i d' he
      obtain ⟨v, e1, dp⟩ := atI_all h2 he
      exact .inl ⟨_, _, _, v, rfl, rfl, .inl (Rd.mono s h1), e1, p v H B (.refl s) dp⟩
    · exact p.elim
  | tup h1 h2 =>
    cases dy <;> first | exact p.elim | skip
    simp only [vidx] at p
    split at p
    · rename_i d' he
      obtain ⟨v, e1, dp⟩ := atI_all h2 he
      exact .inr (.inl ⟨_, _, _, v, rfl, rfl, Same.tupl s h1, e1, p v H B (.refl s) dp⟩)
    · exact p.elim
  | str z =>
    cases dy <;> first | exact p.elim | skip
    simp only [vidx] at p
    split at p
    · rename_i c' he
      split at p
      · rename_i hz
        exact .inr (.inr ⟨_, _, _, rfl, rfl, hz, he, p _ H B (.refl s) (.str _)⟩)
      · exact p.elim
    · exact p.elim
  | int _ => cases dy <;> exact p.elim
  | non => cases dy <;> exact p.elim
  | bl _ => cases dy <;> exact p.elim
  | exc _ _ => cases dy <;> exact p.elim

/-! ### argument lists, displays -/
def aNil : PEnv → R (List D) := fun _ => .ok []
def aCons (f : PEnv → R D) (g : PEnv → R (List D)) : PEnv → R (List D) := fun ρ => (f ρ).bind fun d => (g ρ).bind fun ds => .ok (d :: ds)
theorem va_nil : VA X W [] aNil := ⟨tNil, pa_nil, fun σ H B ρ Q s r p => p [] H B (.refl s) .nil⟩
theorem va_cons {e : Expr} {f : PEnv → R D} {g : PEnv → R (List D)} (h : VE X W e f) (t : VA X W es g) (hs : starEach (e :: es) X.env = (false, eval e X.env) :: starEach es X.env := by rfl) : VA X W (e :: es) (aCons f g) := by
  obtain ⟨ta, pa, qa⟩ := h.ex
  obtain ⟨tb, pb, qb⟩ := t.ex
  refine ⟨_, pa_cons pa pb hs, fun σ H B ρ Q s r p => ?_⟩
  refine qa σ H B ρ _ s r ?_
  unfold aCons at p
  generalize f ρ = rf at p ⊢
  cases rf with
  | stuck => exact p
  | err c => exact p
  | ok d =>
    intro x H1 B1 e1 sm1 d1
    refine qb σ H1 B1 ρ _ e1.bh (r.mono e1.bb) ?_
    simp only [R.bind_ok] at p
    generalize g ρ = rg at p ⊢
    cases rg with
    | stuck => exact p
    | err c => exact fun H' z => p H' (e1.hh.trans z)
    | ok ds =>
      intro xs H2 B2 e2 d2
      exact p _ _ _ (e1.trans e2) (.cons (Is.mono e2.bb d1) d2)
/-- from the state, the arguments, then something of them -/
theorem args {g : PEnv → R (List D)} {t : TA} (ht : ∀ σ H B ρ Q, Same B H → RF X.K B σ ρ → Pst X W σ H (KA1 X B H Q) (g ρ) → t σ H Q)
    {α : Type} {σ : L2.St} {H B : Hp} {ρ : PEnv} {G : List D → R α} {K : α → Prop} {Q : List V → Hp → Prop} (s : Same B H) (r : RF X.K B σ ρ)
    (p : Pst X W σ H K ((g ρ).bind G))
    (q : ∀ ds xs H' B', Ext B H B' H' → IsAll X.K B' xs ds → Pst X W σ H' K (G ds) → Q xs H') : t σ H Q := by
  refine ht σ H B ρ _ s r ?_
  generalize g ρ = rg at p ⊢
  cases rg with
  | stuck => exact p
  | err c => exact p
  | ok ds =>
    intro xs H1 B1 e1 d1
    refine q ds xs H1 B1 e1 d1 ?_
    simp only [R.bind_ok] at p
    generalize G ds = rr at p ⊢
    cases rr with
    | stuck => exact p
    | err c => exact fun H' z => p H' (e1.hh.trans z)
    | ok z => exact p
def vtup (g : PEnv → R (List D)) : PEnv → R D := fun ρ => (g ρ).bind fun ds => .ok (.tuple ds)
def vlst (g : PEnv → R (List D)) : PEnv → R D := fun ρ => (g ρ).bind fun ds => .ok (.list ds)
theorem es_len {es : List Expr} {t : TA} (hz : es.length ≤ 1000) : es.length ≤ sizeLine := Nat.le_trans hz (by decide)
/-- the number of the arguments -/
structure VAn (X : Cx) (W : WX) (n : Nat) (es : List Expr) (f : PEnv → R (List D)) : Prop where
  va : VA X W es f
  len : ∀ ρ ds, f ρ = .ok ds → ds.length = n
theorem van_nil : VAn X W 0 [] aNil := ⟨va_nil, fun ρ ds h => by cases h; rfl⟩
theorem van_cons {n : Nat} {e : Expr} {f : PEnv → R D} {g : PEnv → R (List D)} (h : VE X W e f) (t : VAn X W n es g) (hs : starEach (e :: es) X.env = (false, eval e X.env) :: starEach es X.env := by rfl) : VAn X W (n + 1) (e :: es) (aCons f g) :=
  ⟨va_cons h t.va hs, fun ρ ds q => by
    unfold aCons at q
    generalize f ρ = rf at q
    cases rf with
    | stuck => cases q
    | err c => cases q
    | ok d =>
      simp only [R.bind_ok] at q
      generalize hg : g ρ = rg at q
      cases rg with
      | stuck => cases q
      | err c => cases q
      | ok es' =>
        cases q
        rw [List.length_cons, t.len ρ es' hg]⟩
theorem vtup_ {n : Nat} {x1} {g : PEnv → R (List D)} (h : VAn X W n es g) (hz : n ≤ 1000 := by decide) : VE X W (.Tuple es x1 pos) (vtup g) := by
  obtain ⟨t, pt, qt⟩ := h.va.ex
  refine VE.mk' (pe_tup pt) fun σ H B ρ Q s r p => ?_
  cases hg : g ρ with
  | stuck => unfold vtup at p; rw [hg] at p; exact p.elim
  | err c => unfold vtup at p; rw [hg] at p; exact qt σ H B ρ _ s r (by rw [hg]; exact p)
  | ok ds =>
    unfold vtup at p
    rw [hg] at p
    refine qt σ H B ρ _ s r ?_
    rw [hg]
    intro xs H1 B1 e1 d1
    refine ⟨by rw [IsAll.len d1, h.len ρ ds hg]; exact Nat.le_trans hz (by decide), fun q hq => ?_⟩
    have E := Ext.new (o := HO.tup xs) e1.bh hq
    exact p _ _ _ (e1.trans E) (.tup (.inl (.inl upd_same)) (IsAll.mono E.bb d1))
theorem vlst_ {n : Nat} {g : PEnv → R (List D)} (h : VAn X W n es g) (hz : n ≤ 1000 := by decide) : VE X W (.List es pos) (vlst g) := by
  obtain ⟨t, pt, qt⟩ := h.va.ex
  refine VE.mk' (pe_lst pt) fun σ H B ρ Q s r p => ?_
  cases hg : g ρ with
  | stuck => unfold vlst at p; rw [hg] at p; exact p.elim
  | err c => unfold vlst at p; rw [hg] at p; exact qt σ H B ρ _ s r (by rw [hg]; exact p)
  | ok ds =>
    unfold vlst at p
    rw [hg] at p
    refine qt σ H B ρ _ s r ?_
    rw [hg]
    intro xs H1 B1 e1 d1
    refine ⟨by rw [IsAll.len d1, h.len ρ ds hg]; exact Nat.le_trans hz (by decide), fun q hq => ?_⟩
    have E := Ext.new (o := HO.lst xs) e1.bh hq
    exact p _ _ _ (e1.trans E) (.lst (.inl upd_same) (IsAll.mono E.bb d1))
end
end VL

namespace VL
open PySem PySem.Spec PyProof.Rows L2

/-! ### tests -/
def tbool : D → R Bool
  | .bool b => .ok b
  | _ => .stuck
def vtruth : D → R Bool
  | .none => .ok false
  | .bool b => .ok b
  | .int i => .ok (i != 0)
  | .str y => if y.length ≤ sizeLine then .ok ((y.length : Int) != 0) else .stuck
  | .list xs => .ok (!xs.isEmpty)
  | .tuple xs => .ok (!xs.isEmpty)
  | .dict _ => .stuck
section
variable {X : Cx} {W : WX} {a b c : Expr} {es : List Expr} {pos : Pos} {fa fb fc : PEnv → R D} {ft fu : PEnv → R Bool} {k : Nat}

/-- a test that is a comparison -/
theorem vt2 {e : Expr} {r : R2} {g : D → D → R D} (mk : ∀ {ta tb : TE}, PE X a ta → PE X b tb → PT X e (tTest (tOp r ta tb))) (hr : Rule2 X W r g) (hg : ∀ d e z, g d e = .ok z → ∃ k, z = .bool k) (ha : VE X W a fa) (hb : VE X W b fb) :
    VT X W e (fun ρ => (v2 g fa fb ρ).bind tbool) := by
  obtain ⟨ta, pa, qa⟩ := ha.ex
  obtain ⟨tb, pb, qb⟩ := hb.ex
  refine ⟨_, mk pa pb, fun σ H B ρ Q s rf p => ?_⟩
  have p' : Pst X W σ H (KB1 B H Q) ((fa ρ).bind fun d => (fb ρ).bind fun e => (g d e).bind tbool) := by
    unfold v2 at p
    generalize fa ρ = ra at p ⊢
    cases ra with
    | stuck => exact p
    | err c => exact p
    | ok d =>
      simp only [R.bind_ok] at p ⊢
      generalize fb ρ = rb at p ⊢
      cases rb <;> exact p
  refine two qa qb s rf p' fun d e x y H' B' ex sm dx dy pg => ?_
  refine hr d e x y σ H' B' _ ex.bh sm dx dy ?_
  generalize hge : g d e = rg at pg ⊢
  cases rg with
  | stuck => exact pg
  | err c => exact pg
  | ok z =>
    obtain ⟨k, rfl⟩ := hg d e z hge
    intro v H2 B2 e2 dv
    cases dv
    exact ⟨k, rfl, pg H2 B2 (ex.trans e2)⟩
theorem vlt_t (ha : VE X W a fa) (hb : VE X W b fb) : VT X W (.Compare a [.Lt] [b] pos) (fun ρ => (v2 vlt fa fb ρ).bind tbool) :=
  vt2 (fun p q => pt_cmpR op_lt p q (nomark _)) (r_int0 (T := fun i j => .bool (decide (i < j))) (fun d e h => by cases d <;> first | exact absurd rfl h | (cases e <;> first | exact absurd rfl h | exact ⟨_, _, rfl, rfl, rfl⟩)) fun _ _ _ => .bl _) (fun d e z h => by cases d <;> first | (cases h; done) | (cases e <;> first | (cases h; done) | (cases h; exact ⟨_, rfl⟩))) ha hb
theorem vle_t (ha : VE X W a fa) (hb : VE X W b fb) : VT X W (.Compare a [.LtE] [b] pos) (fun ρ => (v2 vle fa fb ρ).bind tbool) :=
  vt2 (fun p q => pt_cmpR op_le p q (nomark _)) (r_int0 (T := fun i j => .bool (decide (i ≤ j))) (fun d e h => by cases d <;> first | exact absurd rfl h | (cases e <;> first | exact absurd rfl h | exact ⟨_, _, rfl, rfl, rfl⟩)) fun _ _ _ => .bl _) (fun d e z h => by cases d <;> first | (cases h; done) | (cases e <;> first | (cases h; done) | (cases h; exact ⟨_, rfl⟩))) ha hb
theorem vgt_t (ha : VE X W a fa) (hb : VE X W b fb) : VT X W (.Compare a [.Gt] [b] pos) (fun ρ => (v2 vgt fa fb ρ).bind tbool) :=
  vt2 (fun p q => pt_cmpR op_gt p q (nomark _)) (r_int0 (T := fun i j => .bool (decide (j < i))) (fun d e h => by cases d <;> first | exact absurd rfl h | (cases e <;> first | exact absurd rfl h | exact ⟨_, _, rfl, rfl, rfl⟩)) fun _ _ _ => .bl _) (fun d e z h => by cases d <;> first | (cases h; done) | (cases e <;> first | (cases h; done) | (cases h; exact ⟨_, rfl⟩))) ha hb
theorem vge_t (ha : VE X W a fa) (hb : VE X W b fb) : VT X W (.Compare a [.GtE] [b] pos) (fun ρ => (v2 vge fa fb ρ).bind tbool) :=
  vt2 (fun p q => pt_cmpR op_ge p q (nomark _)) (r_int0 (T := fun i j => .bool (decide (j ≤ i))) (fun d e h => by cases d <;> first | exact absurd rfl h | (cases e <;> first | exact absurd rfl h | exact ⟨_, _, rfl, rfl, rfl⟩)) fun _ _ _ => .bl _) (fun d e z h => by cases d <;> first | (cases h; done) | (cases e <;> first | (cases h; done) | (cases h; exact ⟨_, rfl⟩))) ha hb
theorem veq_t (hr : Room k X.A) (ha : VE X W a fa) (hb : VE X W b fb) : VT X W (.Compare a [.Eq] [b] pos) (fun ρ => (v2 veq fa fb ρ).bind tbool) :=
  vt2 (fun p q => pt_cmpR (op_eqD hr.units) p q (nomark _)) rule_eq (fun d e z h => by
    unfold veq at h
    generalize vEq d e = r at h
    cases r <;> first | (cases h; done) | (cases h; exact ⟨_, rfl⟩)) ha hb
theorem vne_t (hr : Room k X.A) (ha : VE X W a fa) (hb : VE X W b fb) : VT X W (.Compare a [.NotEq] [b] pos) (fun ρ => (v2 vne fa fb ρ).bind tbool) :=
  vt2 (fun p q => pt_cmpR (op_neD hr.units) p q (nomark _)) rule_ne (fun d e z h => by
    unfold vne at h
    generalize vEq d e = r at h
    cases r <;> first | (cases h; done) | (cases h; exact ⟨_, rfl⟩)) ha hb
def vIn (d e : D) : R D := (vin d e).bind fun b => .ok (.bool b)
def vNotIn (d e : D) : R D := (vin d e).bind fun b => .ok (.bool (!b))
theorem rule_in : Rule2 X W (rInD X.K) vIn := fun d e x y σ H B Q s sm dx dy p => by
  unfold vIn at p
  cases e <;> first | exact p.elim | skip
  simp only [vin] at p
  split at p
  · rename_i h
    exact ⟨_, _, (Is.mono s dx).dp (SeqAt.canLay_of_shaped h.1), (Is.mono s dy).dp (SeqAt.canLay_of_shaped h.2), h.1, h.2, p _ H B (.refl s) (.bl _)⟩
  · exact p.elim
theorem rule_notin : Rule2 X W (rNotInD X.K) vNotIn := fun d e x y σ H B Q s sm dx dy p => by
  unfold vNotIn at p
  cases e <;> first | exact p.elim | skip
  simp only [vin] at p
  split at p
  · rename_i h
    exact ⟨_, _, (Is.mono s dx).dp (SeqAt.canLay_of_shaped h.1), (Is.mono s dy).dp (SeqAt.canLay_of_shaped h.2), h.1, h.2, p _ H B (.refl s) (.bl _)⟩
  · exact p.elim
theorem vin_t (hr : Room k X.A) (ha : VE X W a fa) (hb : VE X W b fb) (hm : behindInMarks .In b = false := by with_unfolding_all rfl) : VT X W (.Compare a [.In] [b] pos) (fun ρ => (v2 vIn fa fb ρ).bind tbool) :=
  vt2 (fun p q => pt_cmpR (op_inD (hu65 hr)) p q hm) rule_in (fun d e z h => by
    unfold vIn at h
    generalize vin d e = r at h
    cases r <;> first | (cases h; done) | (cases h; exact ⟨_, rfl⟩)) ha hb
theorem vnotin_t (hr : Room k X.A) (ha : VE X W a fa) (hb : VE X W b fb) (hm : behindInMarks .NotIn b = false := by with_unfolding_all rfl) : VT X W (.Compare a [.NotIn] [b] pos) (fun ρ => (v2 vNotIn fa fb ρ).bind tbool) :=
  vt2 (fun p q => pt_cmpR (op_notInD (hu65 hr)) p q hm) rule_notin (fun d e z h => by
    unfold vNotIn at h
    generalize vin d e = r at h
    cases r <;> first | (cases h; done) | (cases h; exact ⟨_, rfl⟩)) ha hb
/-- any value, by its truth -/
theorem vt_truth (h : VE X W a fa) (he : ∀ whole, isTrue a X.env whole = (do let v ← whole; standAt a.pos; holding [v] (truthy v)) := by intro _; rfl) : VT X W a (fun ρ => (fa ρ).bind vtruth) := by
  obtain ⟨ta, pa, qa⟩ := h.ex
  refine ⟨_, pt_truth pa he, fun σ H B ρ Q s rf p => ?_⟩
  refine one qa s rf p fun d x H' B' ex sm dx pg => ?_
  cases dx with
  | non => exact ⟨_, rfl, pg H' B' ex⟩
  | exc _ _ => exact pg.elim
  | bl b => exact ⟨_, rfl, pg H' B' ex⟩
  | int i => exact ⟨_, rfl, pg H' B' ex⟩
  | str y =>
    simp only [vtruth] at pg
    split at pg
    · rename_i hz
      exact ⟨_, ⟨hz, rfl⟩, pg H' B' ex⟩
    · exact pg.elim
  | lst h1 h2 => 
    refine ⟨_, .inl ⟨_, .inl (Rd.mono ex.bh h1), rfl⟩, ?_⟩
    have e : ∀ {vs : List V} {ds : List D}, IsAll X.K B' vs ds → (!vs.isEmpty) = (!ds.isEmpty) := fun h => by cases h <;> rfl
    rw [e h2]
    exact pg H' B' ex
  | tup h1 h2 =>
    refine ⟨_, .inr (.inl ⟨_, Same.tupl ex.bh h1, rfl⟩), ?_⟩
    have e : ∀ {vs : List V} {ds : List D}, IsAll X.K B' vs ds → (!vs.isEmpty) = (!ds.isEmpty) := fun h => by cases h <;> rfl
    rw [e h2]
    exact pg H' B' ex
/-- x is None, x is not None as tests -/
theorem visnone_t {j pos'} (ha : VE X W a fa) : VT X W (.Compare a [.Is] [.Constant .none j pos'] pos) (fun ρ => (v1 visnone fa ρ).bind tbool) := by
  obtain ⟨ta, pa, qa⟩ := ha.ex
  refine ⟨_, pt_cmp (pc_isN pa) rfl, fun σ H B ρ Q s rf p => ?_⟩
  have p' : Pst X W σ H (KB1 B H Q) ((fa ρ).bind fun d => (visnone d).bind tbool) := by
    unfold v1 at p
    generalize fa ρ = ra at p ⊢
    cases ra <;> exact p
  refine one qa s rf p' fun d x H' B' ex sm dx pg => ?_
  unfold visnone at pg
  cases dx <;> exact ⟨_, rfl, pg H' B' ex⟩
theorem vnotnone_t {j pos'} (ha : VE X W a fa) : VT X W (.Compare a [.IsNot] [.Constant .none j pos'] pos) (fun ρ => (v1 visnone fa ρ).bind fun d => (tbool d).bind fun b => .ok (!b)) := by
  obtain ⟨ta, pa, qa⟩ := ha.ex
  refine ⟨_, pt_cmp (pc_notN pa) rfl, fun σ H B ρ Q s rf p => ?_⟩
  have p' : Pst X W σ H (KB1 B H Q) ((fa ρ).bind fun d => (visnone d).bind fun d => (tbool d).bind fun b => .ok (!b)) := by
    unfold v1 at p
    generalize fa ρ = ra at p ⊢
    cases ra <;> exact p
  refine one qa s rf p' fun d x H' B' ex sm dx pg => ?_
  unfold visnone at pg
  cases dx <;> exact ⟨_, rfl, pg H' B' ex⟩

/-! and, or, not -/
structure VW (X : Cx) (W : WX) (e : Expr) (f : PEnv → R Bool) : Prop where
  ex : ∃ t, PW X e t ∧ ∀ σ H B ρ Q, Same B H → RF X.K B σ ρ → Pst X W σ H (KB1 B H Q) (f ρ) → t σ H Q
theorem VW.vt {e : Expr} (h : VW X W e ft) : VT X W e ft := by
  obtain ⟨t, p, q⟩ := h.ex
  exact ⟨t, p.pt, q⟩
def tand (f g : PEnv → R Bool) : PEnv → R Bool := fun ρ => (f ρ).bind fun b => if b then g ρ else .ok false
def tor (f g : PEnv → R Bool) : PEnv → R Bool := fun ρ => (f ρ).bind fun b => if b then .ok true else g ρ
def tnot (f : PEnv → R Bool) : PEnv → R Bool := fun ρ => (f ρ).bind fun b => .ok (!b)
theorem oneT {ta : TT} (ha : ∀ σ H B ρ Q, Same B H → RF X.K B σ ρ → Pst X W σ H (KB1 B H Q) (ft ρ) → ta σ H Q)
    {α : Type} {σ : L2.St} {H B : Hp} {ρ : PEnv} {g : Bool → R α} {K : α → Prop} {Q : Bool → Hp → Prop} (s : Same B H) (r : RF X.K B σ ρ)
    (p : Pst X W σ H K ((ft ρ).bind g))
    (q : ∀ b H' B', Ext B H B' H' → Pst X W σ H' K (g b) → Q b H') : ta σ H Q := by
  refine ha σ H B ρ _ s r ?_
  generalize ft ρ = ra at p ⊢
  cases ra with
  | stuck => exact p
  | err c => exact p
  | ok d =>
    intro H1 B1 e1
    refine q d H1 B1 e1 ?_
    simp only [R.bind_ok] at p
    generalize g d = rg at p ⊢
    cases rg with
    | stuck => exact p
    | err c => exact fun H' z => p H' (e1.hh.trans z)
    | ok z => exact p
theorem kb_ext {B H B1 H1 : Hp} {Q : Bool → Hp → Prop} {d : Bool} (e : Ext B H B1 H1) (p : KB1 B H Q d) : KB1 B1 H1 Q d := fun H' B' e' => p H' B' (e.trans e')
theorem kv1_ext {B H B1 H1 : Hp} {Q : VK} {d : D} (e : Ext B H B1 H1) (p : KV1 X B H Q d) : KV1 X B1 H1 Q d := fun v H' B' e' sm dp => p v H' B' (e.trans e') sm dp
theorem vw_and1 (h : VT X W a ft) : VW X W (.BoolOp .And [a] pos) ft := by
  obtain ⟨t, p, q⟩ := h.ex
  exact ⟨t, pw_and1 p, q⟩
theorem vw_or1 (h : VT X W a ft) : VW X W (.BoolOp .Or [a] pos) ft := by
  obtain ⟨t, p, q⟩ := h.ex
  exact ⟨t, pw_or1 p, q⟩
theorem vw_and (h : VT X W a ft) (g : VW X W (.BoolOp .And (b :: es) pos) fu) : VW X W (.BoolOp .And (a :: b :: es) pos) (tand ft fu) := by
  obtain ⟨t, p, q⟩ := h.ex
  obtain ⟨t2, p2, q2⟩ := g.ex
  refine ⟨_, pw_and p p2, fun σ H B ρ Q s rf pr => ?_⟩
  refine oneT q s rf pr fun d H' B' ex pg => ?_
  cases d with
  | true => exact iteT (q2 σ H' B' ρ Q ex.bh (rf.mono ex.bb) (Pst.imp (fun a k => kb_ext ex k) pg))
  | false => exact iteF (pg H' B' ex)
theorem vw_or (h : VT X W a ft) (g : VW X W (.BoolOp .Or (b :: es) pos) fu) : VW X W (.BoolOp .Or (a :: b :: es) pos) (tor ft fu) := by
  obtain ⟨t, p, q⟩ := h.ex
  obtain ⟨t2, p2, q2⟩ := g.ex
  refine ⟨_, pw_or p p2, fun σ H B ρ Q s rf pr => ?_⟩
  refine oneT q s rf pr fun d H' B' ex pg => ?_
  cases d with
  | false => exact iteF (q2 σ H' B' ρ Q ex.bh (rf.mono ex.bb) (Pst.imp (fun a k => kb_ext ex k) pg))
  | true => exact iteT (pg H' B' ex)
theorem vt_not (h : VT X W a ft) : VT X W (.UnaryOp .Not a pos) (tnot ft) := by
  obtain ⟨t, p, q⟩ := h.ex
  refine ⟨_, pt_not p, fun σ H B ρ Q s rf pr => ?_⟩
  exact oneT q s rf pr fun d H' B' ex pg => pg H' B' ex
/-- a if t else b -/
def vif (t : PEnv → R Bool) (f g : PEnv → R D) : PEnv → R D := fun ρ => (t ρ).bind fun b => if b then f ρ else g ρ
theorem vif_ (h : VT X W c ft) (ha : VE X W a fa) (hb : VE X W b fb) : VE X W (.IfExp c a b pos) (vif ft fa fb) := by
  obtain ⟨t, p, q⟩ := h.ex
  obtain ⟨ta, pa, qa⟩ := ha.ex
  obtain ⟨tb, pb, qb⟩ := hb.ex
  refine ⟨_, pe_ifExp p pa pb, fun σ H B ρ Q s rf pr => ?_⟩
  refine oneT q s rf pr fun d H' B' ex pg => ?_
  cases d with
  | true => exact iteT (qa σ H' B' ρ Q ex.bh (rf.mono ex.bb) (Pst.imp (fun a k => kv1_ext ex k) pg))
  | false => exact iteF (qb σ H' B' ρ Q ex.bh (rf.mono ex.bb) (Pst.imp (fun a k => kv1_ext ex k) pg))
/-! .. as values -/
def vand (f g : PEnv → R D) : PEnv → R D := fun ρ => (f ρ).bind fun d => (tbool d).bind fun b => if b then g ρ else .ok (.bool false)
def vor (f g : PEnv → R D) : PEnv → R D := fun ρ => (f ρ).bind fun d => (tbool d).bind fun b => if b then .ok (.bool true) else g ρ
def vnot (f : PEnv → R D) : PEnv → R D := fun ρ => (f ρ).bind fun d => (tbool d).bind fun b => .ok (.bool (!b))
theorem vone {op} (h : VE X W a fa) : VE X W (.BoolOp op [a] pos) fa := by
  obtain ⟨t, p, q⟩ := h.ex
  exact ⟨t, pe_one p, q⟩
theorem vand_ (h : VE X W a fa) (g : VE X W (.BoolOp .And (b :: es) pos) fb) : VE X W (.BoolOp .And (a :: b :: es) pos) (vand fa fb) := by
  obtain ⟨t, p, q⟩ := h.ex
  obtain ⟨t2, p2, q2⟩ := g.ex
  refine ⟨_, pe_and p p2, fun σ H B ρ Q s rf pr => ?_⟩
  refine one q s rf pr fun d x H' B' ex sm dx pg => ?_
  cases dx <;> first | exact pg.elim | skip
  rename_i b
  refine ⟨b, rfl, ?_⟩
  cases b with
  | true => exact iteT (q2 σ H' B' ρ Q ex.bh (rf.mono ex.bb) (Pst.imp (fun a k => kv1_ext ex k) pg))
  | false => exact iteF (pg _ H' B' ex sm (.bl _))
theorem vor_ (h : VE X W a fa) (g : VE X W (.BoolOp .Or (b :: es) pos) fb) : VE X W (.BoolOp .Or (a :: b :: es) pos) (vor fa fb) := by
  obtain ⟨t, p, q⟩ := h.ex
  obtain ⟨t2, p2, q2⟩ := g.ex
  refine ⟨_, pe_or p p2, fun σ H B ρ Q s rf pr => ?_⟩
  refine one q s rf pr fun d x H' B' ex sm dx pg => ?_
  cases dx <;> first | exact pg.elim | skip
  rename_i b
  refine ⟨b, rfl, ?_⟩
  cases b with
  | false => exact iteF (q2 σ H' B' ρ Q ex.bh (rf.mono ex.bb) (Pst.imp (fun a k => kv1_ext ex k) pg))
  | true => exact iteT (pg _ H' B' ex sm (.bl _))
theorem vnot_ (h : VE X W a fa) : VE X W (.UnaryOp .Not a pos) (vnot fa) := by
  obtain ⟨t, p, q⟩ := h.ex
  refine VE.mk' (pe_not p) fun σ H B ρ Q s rf pr => ?_
  refine one q s rf pr fun d x H' B' ex sm dx pg => ?_
  cases dx <;> first | exact pg.elim | exact ⟨_, rfl, pg _ H' B' ex (.bl _)⟩
/-! a op b op' c, ints -/
def vchain (g g' : D → D → R D) (fa fb fc : PEnv → R D) : PEnv → R D := fun ρ => (fa ρ).bind fun d => (fb ρ).bind fun e => (g d e).bind fun z => (tbool z).bind fun k => if k then (fc ρ).bind fun f => g' e f else .ok (.bool false)
/-- what a comparison of ints asks and gives -/
structure IntCmp (X : Cx) (op : CmpOp) (p : Int → Int → Bool) (g : D → D → R D) : Prop where
  op : OpR X (compareOp op) (rI0 fun i j => .bl (p i j))
  g : ∀ d e, g d e ≠ .stuck → ∃ i j, d = .int i ∧ e = .int j ∧ g d e = .ok (.bool (p i j))
theorem ic_lt : IntCmp X .Lt (fun i j => decide (i < j)) vlt := ⟨op_lt, fun d e h => by cases d <;> first | exact absurd rfl h | (cases e <;> first | exact absurd rfl h | exact ⟨_, _, rfl, rfl, rfl⟩)⟩
theorem ic_le : IntCmp X .LtE (fun i j => decide (i ≤ j)) vle := ⟨op_le, fun d e h => by cases d <;> first | exact absurd rfl h | (cases e <;> first | exact absurd rfl h | exact ⟨_, _, rfl, rfl, rfl⟩)⟩
theorem ic_gt : IntCmp X .Gt (fun i j => decide (j < i)) vgt := ⟨op_gt, fun d e h => by cases d <;> first | exact absurd rfl h | (cases e <;> first | exact absurd rfl h | exact ⟨_, _, rfl, rfl, rfl⟩)⟩
theorem ic_ge : IntCmp X .GtE (fun i j => decide (j ≤ i)) vge := ⟨op_ge, fun d e h => by cases d <;> first | exact absurd rfl h | (cases e <;> first | exact absurd rfl h | exact ⟨_, _, rfl, rfl, rfl⟩)⟩
theorem chain_ok {op op' : CmpOp} {p p' : Int → Int → Bool} {g g' : D → D → R D} {ta tb tc : TE} (i1 : IntCmp X op p g) (i2 : IntCmp X op' p' g') (ha : ∀ σ H B ρ Q, Same B H → RF X.K B σ ρ → Pst X W σ H (KV1 X B H Q) (fa ρ) → ta σ H Q) (hb : ∀ σ H B ρ Q, Same B H → RF X.K B σ ρ → Pst X W σ H (KV1 X B H Q) (fb ρ) → tb σ H Q)
    (hc : ∀ σ H B ρ Q, Same B H → RF X.K B σ ρ → Pst X W σ H (KV1 X B H Q) (fc ρ) → tc σ H Q) {σ : L2.St} {H B : Hp} {ρ : PEnv} {Q : VK} (s : Same B H) (rf : RF X.K B σ ρ)
    (pr : Pst X W σ H (fun d => ∀ v H' B', Ext B H B' H' → Is X.K B' v d → Q v H') (vchain g g' fa fb fc ρ)) : tChain (rI0 fun i j => .bl (p i j)) (rI0 fun i j => .bl (p' i j)) ta tb tc σ H Q := by
  unfold vchain at pr
  refine two ha hb s rf pr fun d e x y H' B' ex sm dx dy pg => ?_
  have h0 : g d e ≠ .stuck := fun z => by rw [z] at pg; exact pg
  obtain ⟨i, j, rfl, rfl, eg⟩ := i1.g d e h0
  rw [eg] at pg
  cases dx
  cases dy
  refine ⟨i, j, rfl, rfl, p i j, rfl, ?_⟩
  simp only [R.bind_ok, tbool] at pg
  cases hp : p i j with
  | false =>
    rw [hp] at pg
    exact iteF (pg _ H' B' ex (.bl _))
  | true =>
    rw [hp] at pg
    refine iteT ?_
    simp only [if_true] at pg
    refine one hc ex.bh (rf.mono ex.bb) pg fun f z H2 B2 ex2 sm2 dz pg2 => ?_
    have h1 : g' (.int j) f ≠ .stuck := fun z => by rw [z] at pg2; exact pg2
    obtain ⟨j', m, ej, rfl, eg2⟩ := i2.g _ f h1
    cases ej
    rw [eg2] at pg2
    cases dz
    exact ⟨_, m, rfl, rfl, pg2 _ H2 B2 (ex.trans ex2) (.bl _)⟩
theorem vchain_ {op op' : CmpOp} {p p' : Int → Int → Bool} {g g' : D → D → R D} (i1 : IntCmp X op p g) (i2 : IntCmp X op' p' g') (ha : VE X W a fa) (hb : VE X W b fb) (hc : VE X W c fc) (hm : lastMarks [op, op'] [b, c] = false := by with_unfolding_all rfl) :
    VE X W (.Compare a [op, op'] [b, c] pos) (vchain g g' fa fb fc) := by
  obtain ⟨ta, pa, qa⟩ := ha.ex
  obtain ⟨tb, pb, qb⟩ := hb.ex
  obtain ⟨tc, pc, qc⟩ := hc.ex
  exact VE.mk' (pe_chain i1.op i2.op pa pb pc hm) fun σ H B ρ Q s rf pr => chain_ok i1 i2 qa qb qc s rf pr
theorem vchain_t {op op' : CmpOp} {p p' : Int → Int → Bool} {g g' : D → D → R D} (i1 : IntCmp X op p g) (i2 : IntCmp X op' p' g') (ha : VE X W a fa) (hb : VE X W b fb) (hc : VE X W c fc) (hm : lastMarks [op, op'] [b, c] = false := by with_unfolding_all rfl) :
    VT X W (.Compare a [op, op'] [b, c] pos) (fun ρ => (vchain g g' fa fb fc ρ).bind tbool) := by
  obtain ⟨ta, pa, qa⟩ := ha.ex
  obtain ⟨tb, pb, qb⟩ := hb.ex
  obtain ⟨tc, pc, qc⟩ := hc.ex
  refine ⟨_, pt_chain i1.op i2.op pa pb pc hm, fun σ H B ρ Q s rf pr => ?_⟩
  refine chain_ok i1 i2 qa qb qc s rf ?_
  generalize vchain g g' fa fb fc ρ = r at pr ⊢
  cases r with
  | stuck => exact pr
  | err c => exact pr
  | ok z =>
    intro v H' B' ex dz
    simp only [R.bind_ok] at pr
    cases dz <;> first | exact pr.elim | exact ⟨_, rfl, pr H' B' ex⟩

/-! ### calls -/
/-- what a built-in's rule asks is given by g -/
def RuleC (X : Cx) (W : WX) (r : List V → Hp → VK → Prop) (g : List D → R D) : Prop := ∀ ds vs σ H B Q, Same B H → IsAll X.K B vs ds → Pst X W σ H (fun d' => ∀ v H' B', Ext B H B' H' → Is X.K B' v d' → Q v H') (g ds) → r vs H Q
def vapp (g : List D → R D) (f : PEnv → R (List D)) : PEnv → R D := fun ρ => (f ρ).bind g
theorem vcB {x : Str} {id : String} {r : List V → Hp → VK → Prop} {g : List D → R D} {f : PEnv → R (List D)} {p : Pos} {e : Expr} (hc : CallR X (.builtin id) r) (hr : RuleC X W r g) (hm : X.mg x = none) (hv : bootBuiltins x = some (.builtin id)) (ha : VA X W (e :: es) f)
    (hg : Gl X x := by rfl) (hn : x ≠ "__name__" := by decide) (hdb : (x == ("__debug__" : Str)) = false := by decide)
    (he : starEach (e :: es) X.env = (false, eval e X.env) :: starEach es X.env := by rfl) (hpl : (backTo pos (starEach es X.env)).any (·.1) = false := by rfl) : VE X W (.Call (.Name x p) (e :: es) [] pos) (vapp g f) := by
  obtain ⟨t, pt, qt⟩ := ha.ex
  refine VE.mk' (pe_callB hc hg hm hv pt hn hdb he hpl) fun σ H B ρ Q s rf pr => ?_
  exact args qt s rf pr fun ds xs H' B' ex dx pg => hr ds xs σ H' B' Q ex.bh dx (Pst.imp (fun a k => kv_ext ex k) pg)
theorem vcT {x : Str} {T : String} {r : List V → Hp → VK → Prop} {g : List D → R D} {f : PEnv → R (List D)} {p : Pos} {e : Expr} (hc : CallR X (.type T) r) (hr : RuleC X W r g) (hm : X.mg x = none) (hv : bootBuiltins x = some (.type T)) (ha : VA X W (e :: es) f)
    (hg : Gl X x := by rfl) (hn : x ≠ "__name__" := by decide) (hdb : (x == ("__debug__" : Str)) = false := by decide)
    (he : starEach (e :: es) X.env = (false, eval e X.env) :: starEach es X.env := by rfl) (hpl : (backTo pos (starEach es X.env)).any (·.1) = false := by rfl) : VE X W (.Call (.Name x p) (e :: es) [] pos) (vapp g f) := by
  obtain ⟨t, pt, qt⟩ := ha.ex
  refine VE.mk' (pe_callTy hc hg hm hv pt hn hdb he hpl) fun σ H B ρ Q s rf pr => ?_
  exact args qt s rf pr fun ds xs H' B' ex dx pg => hr ds xs σ H' B' Q ex.bh dx (Pst.imp (fun a k => kv_ext ex k) pg)
/-- what a def promises: its n arguments are data, its answer is g of them -/
def spV (K : PySem.W.Frag) (mg : Str → Option Value) (n : Nat) (g : List D → R D) : Sp := fun vs H Q E => vs.length = n ∧ ∃ ds B, Same B H ∧ IsAll K B vs ds ∧
  match g ds with
  | .stuck => False
  | .err c => ∀ H', Same H H' → ∃ C, mg c = some (.ref C) ∧ E (.ref C) none H'
  | .ok d => ∀ v H' B', Ext B H B' H' → Is K B' v d → Q v H'
theorem vcall {x : Str} {f : Addr} {fd : FuncData} {ps : List Str} {n : Nat} {g : List D → R D} {fa : PEnv → R (List D)} {p : Pos} {e : Expr} (F : FnOk X.prog X.w X.K X.mg X.base (L2.CX X.prog X.w) k f fd ps (spV X.K X.mg n g)) (hr : Room k X.A) (hm : X.mg x = some (.ref f)) (hk : PySem.W.keepIn X.K (.ref f) = true) (hb : Binds X.K fd ps [])
    (tk : Takes X W) (ha : VAn X W n (e :: es) fa) (hg : Gl X x := by rfl) (hdb : (x == ("__debug__" : Str)) = false := by decide) (he : starEach (e :: es) X.env = (false, eval e X.env) :: starEach es X.env := by rfl) (hpl : (backTo pos (starEach es X.env)).any (·.1) = false := by rfl) :
    VE X W (.Call (.Name x p) (e :: es) [] pos) (vapp g fa) := by
  obtain ⟨t, pt, qt⟩ := ha.va.ex
  refine VE.mk' (pe_callS F hr hg hm hk hb (fun σ => passAt tk σ) pt hdb he hpl) fun σ H B ρ Q s rf pr => ?_
  have hl := ha.len ρ
  unfold vapp at pr
  generalize hfa : fa ρ = rr at pr hl
  cases rr with
  | stuck => exact pr.elim
  | err c => exact qt σ H B ρ _ s rf (by rw [hfa]; exact pr)
  | ok ds =>
    refine qt σ H B ρ _ s rf ?_
    rw [hfa]
    intro xs H1 B1 e1 dx
    refine ⟨by rw [IsAll.len dx]; exact hl ds rfl, ds, B1, e1.bh, dx, ?_⟩
    simp only [R.bind_ok] at pr
    generalize g ds = rg at pr ⊢
    cases rg with
    | stuck => exact pr
    | err c => exact fun H' z => pr H' (e1.hh.trans z)
    | ok d => exact fun v H' B' e' dv => pr v H' B' (e1.trans e') dv
theorem vcall0 {x : Str} {f : Addr} {fd : FuncData} {ps : List Str} {g : List D → R D} {p : Pos} (F : FnOk X.prog X.w X.K X.mg X.base (L2.CX X.prog X.w) k f fd ps (spV X.K X.mg 0 g)) (hr : Room k X.A) (hm : X.mg x = some (.ref f)) (hk : PySem.W.keepIn X.K (.ref f) = true) (hb : Binds X.K fd ps [])
    (tk : Takes X W) (hg : Gl X x := by rfl) (hdb : (x == ("__debug__" : Str)) = false := by decide) : VE X W (.Call (.Name x p) [] [] pos) (fun _ => g []) := by
  have mk : PE X (.Call (.Name x p) [] [] pos) (tCallS (spV X.K X.mg 0 g) (WE W) tNil) := by
    refine ⟨fun pins s σ H Q J hh => wpAny_Call_Name_kw (ld_glob J hg hm ?_ hdb)⟩
    exact PySem.W.callWith_K0 J.kIn hk (run_fnS (us := []) (E := WE W) F hr hb (passAt tk σ) J .nil hh)
  refine VE.mk' mk fun σ H B ρ Q s rf pr => ?_
  refine ⟨rfl, [], B, s, .nil, ?_⟩
  generalize g [] = rg at pr ⊢
  cases rg <;> exact pr
end
end VL

namespace VL
open PySem PySem.Spec PyProof.Rows L2

/-! ### built-ins on data -/
def vlen : List D → R D
  | [.list xs] => .ok (.int xs.length)
  | [.tuple xs] => .ok (.int xs.length)
  | [.str z] => if z.length ≤ sizeLine then .ok (.int z.length) else .stuck
  | _ => .stuck
def vint1 : List D → R D
  | [.int i] => .ok (.int i)
  | [.bool k] => .ok (.int (if k then 1 else 0))
  | _ => .stuck
def vabs : List D → R D
  | [.int i] => .ok (.int (if i < 0 then -i else i))
  | _ => .stuck
def vtuple1 : List D → R D
  | [.list xs] => .ok (.tuple xs)
  | [.tuple xs] => .ok (.tuple xs)
  | _ => .stuck
def vlist1 : List D → R D
  | [.list xs] => .ok (.list xs)
  | [.tuple xs] => .ok (.list xs)
  | _ => .stuck
/-- the ints of a list of data -/
def intsOf : List D → Option (List Int)
  | [] => some []
  | .int i :: r => (intsOf r).map (i :: ·)
  | _ :: _ => none
def boolsOf : List D → Option (List Bool)
  | [] => some []
  | .bool i :: r => (boolsOf r).map (i :: ·)
  | _ :: _ => none
def vsum : List D → R D
  | [.list xs] => match intsOf xs with | some ns => .ok (.int ns.sum) | none => .stuck
  | _ => .stuck
def vmax1 (ns : List Int) : R D := match ns.max? with | some m => .ok (.int m) | none => .stuck
def vmin1 (ns : List Int) : R D := match ns.min? with | some m => .ok (.int m) | none => .stuck
def vmax : List D → R D
  | [.list xs] => match intsOf xs with | some ns => vmax1 ns | none => .stuck
  | [.int i, .int j] => .ok (.int (if j > i then j else i))
  | _ => .stuck
def vmin : List D → R D
  | [.list xs] => match intsOf xs with | some ns => vmin1 ns | none => .stuck
  | [.int i, .int j] => .ok (.int (if j < i then j else i))
  | _ => .stuck
def vall : List D → R D
  | [.list xs] => match boolsOf xs with | some bs => .ok (.bool (bs.all id)) | none => .stuck
  | _ => .stuck
def vany : List D → R D
  | [.list xs] => match boolsOf xs with | some bs => .ok (.bool (bs.any id)) | none => .stuck
  | _ => .stuck
theorem intsOf_some : ∀ {ds : List D} {ns : List Int}, intsOf ds = some ns → ds = ns.map PyData.int
  | [], ns, h => by cases h; rfl
  | .int i :: r, ns, h => by
    simp only [intsOf] at h
    cases q : intsOf r with
    | none => rw [q] at h; cases h
    | some ms =>
      rw [q] at h
      cases h
      rw [List.map_cons, intsOf_some q]
  | .none :: _, _, h => by cases h
  | .bool _ :: _, _, h => by cases h
  | .str _ :: _, _, h => by cases h
  | .list _ :: _, _, h => by cases h
  | .tuple _ :: _, _, h => by cases h
  | .dict _ :: _, _, h => by cases h
theorem boolsOf_some : ∀ {ds : List D} {ns : List Bool}, boolsOf ds = some ns → ds = ns.map PyData.bool
  | [], ns, h => by cases h; rfl
  | .bool i :: r, ns, h => by
    simp only [boolsOf] at h
    cases q : boolsOf r with
    | none => rw [q] at h; cases h
    | some ms =>
      rw [q] at h
      cases h
      rw [List.map_cons, boolsOf_some q]
  | .none :: _, _, h => by cases h
  | .int _ :: _, _, h => by cases h
  | .str _ :: _, _, h => by cases h
  | .list _ :: _, _, h => by cases h
  | .tuple _ :: _, _, h => by cases h
  | .dict _ :: _, _, h => by cases h
theorem intsOf_map (ns : List Int) : intsOf (ns.map PyData.int) = some ns := by
  induction ns with
  | nil => rfl
  | cons n r ih => rw [List.map_cons]; simp only [intsOf, ih]; rfl
theorem boolsOf_map (ns : List Bool) : boolsOf (ns.map PyData.bool) = some ns := by
  induction ns with
  | nil => rfl
  | cons n r ih => rw [List.map_cons]; simp only [boolsOf, ih]; rfl
theorem is_ints {K : PySem.W.Frag} {F : Hp} : ∀ {ns : List Int} {vs : List V}, IsAll K F vs (ns.map PyData.int) → vs = ns.map V.int
  | [], _, h => by cases h; rfl
  | n :: r, _, h => by
    rw [List.map_cons] at h
    cases h with
    | cons h1 h2 => cases h1; rw [is_ints h2, List.map_cons]
theorem is_bools {K : PySem.W.Frag} {F : Hp} : ∀ {ns : List Bool} {vs : List V}, IsAll K F vs (ns.map PyData.bool) → vs = ns.map V.bl
  | [], _, h => by cases h; rfl
  | n :: r, _, h => by
    rw [List.map_cons] at h
    cases h with
    | cons h1 h2 => cases h1; rw [is_bools h2, List.map_cons]
theorem CallR.or {X : Cx} {f : Value} {r r' : List V → Hp → VK → Prop} (h : CallR X f r) (h' : CallR X f r') : CallR X f (fun xs H Q => r xs H Q ∨ r' xs H Q) := L2.CallR.or h h'

section
variable {X : Cx} {W : WX} {a b c : Expr} {es : List Expr} {pos : Pos} {fa fb fc : PEnv → R D} {ft fu : PEnv → R Bool} {k : Nat}

theorem rc_len : RuleC X W (fun xs H Q => (∃ p ys, xs = [.ref p] ∧ (SqL X.K H p ys ∨ SqT X.K H p ys) ∧ Q (.int ys.length) H) ∨ ∃ z, xs = [.str z] ∧ z.length ≤ sizeLine ∧ Q (.int z.length) H) vlen := fun ds vs σ H B Q s dx p => by
  cases dx with
  | nil => exact p.elim
  | cons h1 h2 =>
    cases h2 with
    | cons _ _ => cases h1 <;> exact p.elim
    | nil =>
      cases h1 <;> first | exact p.elim | skip
      · simp only [vlen] at p
        split at p
        · rename_i hz
          exact .inr ⟨_, rfl, hz, p _ H B (.refl s) (.int _)⟩
        · exact p.elim
      · rename_i h3 h4
        refine .inl ⟨_, _, rfl, .inl (.inl (Rd.mono s h3)), ?_⟩
        rw [IsAll.len h4]
        exact p _ H B (.refl s) (.int _)
      · rename_i h3 h4
        refine .inl ⟨_, _, rfl, .inr (Same.tupl s h3), ?_⟩
        rw [IsAll.len h4]
        exact p _ H B (.refl s) (.int _)
theorem vlen_ {f : PEnv → R (List D)} {p : Pos} {e : Expr} (hm : X.mg "len" = none) (ha : VA X W [e] f) (hg : Gl X "len" := by rfl) (he : starEach [e] X.env = (false, eval e X.env) :: starEach [] X.env := by rfl) (hpl : (backTo pos (starEach [] X.env)).any (·.1) = false := by rfl) :
    VE X W (.Call (.Name "len" p) [e] [] pos) (vapp vlen f) := vcB (L2.CallR.or call_len_seq call_len_str) rc_len hm boot_len ha hg (by decide) (by decide) he hpl
theorem rc_int : RuleC X W (fun xs H Q => (∃ i, xs = [.int i] ∧ Q (.int i) H) ∨ ∃ k, xs = [.bl k] ∧ Q (.int (if k then 1 else 0)) H) vint1 := fun ds vs σ H B Q s dx p => by
  cases dx with
  | nil => exact p.elim
  | cons h1 h2 =>
    cases h2 with
    | cons _ _ => cases h1 <;> exact p.elim
    | nil =>
      cases h1 <;> first | exact p.elim | skip
      · exact .inr ⟨_, rfl, p _ H B (.refl s) (.int _)⟩
      · exact .inl ⟨_, rfl, p _ H B (.refl s) (.int _)⟩
theorem vint_ {f : PEnv → R (List D)} {p : Pos} {e : Expr} (hm : X.mg "int" = none) (ha : VA X W [e] f) (hg : Gl X "int" := by rfl) (he : starEach [e] X.env = (false, eval e X.env) :: starEach [] X.env := by rfl) (hpl : (backTo pos (starEach [] X.env)).any (·.1) = false := by rfl) :
    VE X W (.Call (.Name "int" p) [e] [] pos) (vapp vint1 f) := vcT call_int1 rc_int hm boot_int ha hg (by decide) (by decide) he hpl
theorem rc_abs : RuleC X W (fun xs H Q => ∃ i, xs = [.int i] ∧ Q (.int (if i < 0 then -i else i)) H) vabs := fun ds vs σ H B Q s dx p => by
  cases dx with
  | nil => exact p.elim
  | cons h1 h2 =>
    cases h2 with
    | cons _ _ => cases h1 <;> exact p.elim
    | nil =>
      cases h1 <;> first | exact p.elim | exact ⟨_, rfl, p _ H B (.refl s) (.int _)⟩
theorem vabs_ {f : PEnv → R (List D)} {p : Pos} {e : Expr} (hm : X.mg "abs" = none) (ha : VA X W [e] f) (hg : Gl X "abs" := by rfl) (he : starEach [e] X.env = (false, eval e X.env) :: starEach [] X.env := by rfl) (hpl : (backTo pos (starEach [] X.env)).any (·.1) = false := by rfl) :
    VE X W (.Call (.Name "abs" p) [e] [] pos) (vapp vabs f) := vcB call_abs rc_abs hm (by decide +kernel) ha hg (by decide) (by decide) he hpl
def rTup1 (K : PySem.W.Frag) : List V → Hp → VK → Prop := fun xs H Q => ∃ p ys, xs = [.ref p] ∧ ((SqL K H p ys ∧ ∀ l, H l = none → Q (.ref l) (upd H l (.tup ys))) ∨ (SqT K H p ys ∧ Q (.ref p) H))
theorem rc_tuple : RuleC X W (rTup1 X.K) vtuple1 := fun ds vs σ H B Q s dx p => by
  cases dx with
  | nil => exact p.elim
  | cons h1 h2 =>
    cases h2 with
    | cons _ _ => cases h1 <;> exact p.elim
    | nil =>
      cases h1 <;> first | exact p.elim | skip
      · rename_i h3 h4
        exact ⟨_, _, rfl, .inl ⟨.inl (Rd.mono s h3), fun l hl => p _ _ _ (Ext.new s hl) (.tup (.inl (.inl upd_same)) (IsAll.mono (Ext.new s hl).bb h4))⟩⟩
      · rename_i h3 h4
        exact ⟨_, _, rfl, .inr ⟨Same.tupl s h3, p _ H B (.refl s) (.tup h3 h4)⟩⟩
theorem vtuple_ {f : PEnv → R (List D)} {p : Pos} {e : Expr} (hm : X.mg "tuple" = none) (ha : VA X W [e] f) (hg : Gl X "tuple" := by rfl) (he : starEach [e] X.env = (false, eval e X.env) :: starEach [] X.env := by rfl) (hpl : (backTo pos (starEach [] X.env)).any (·.1) = false := by rfl) :
    VE X W (.Call (.Name "tuple" p) [e] [] pos) (vapp vtuple1 f) := vcT call_tuple_of rc_tuple hm (by decide +kernel) ha hg (by decide) (by decide) he hpl
def rList1 (K : PySem.W.Frag) : List V → Hp → VK → Prop := fun xs H Q => ∃ p ys, xs = [.ref p] ∧ (SqL K H p ys ∨ SqT K H p ys) ∧ ∀ l, H l = none → Q (.ref l) (upd H l (.lst ys))
theorem rc_list : RuleC X W (rList1 X.K) vlist1 := fun ds vs σ H B Q s dx p => by
  cases dx with
  | nil => exact p.elim
  | cons h1 h2 =>
    cases h2 with
    | cons _ _ => cases h1 <;> exact p.elim
    | nil =>
      cases h1 <;> first | exact p.elim | skip
      · rename_i h3 h4
        exact ⟨_, _, rfl, .inl (.inl (Rd.mono s h3)), fun l hl => p _ _ _ (Ext.new s hl) (.lst (.inl upd_same) (IsAll.mono (Ext.new s hl).bb h4))⟩
      · rename_i h3 h4
        exact ⟨_, _, rfl, .inr (Same.tupl s h3), fun l hl => p _ _ _ (Ext.new s hl) (.lst (.inl upd_same) (IsAll.mono (Ext.new s hl).bb h4))⟩
theorem vlist_ {f : PEnv → R (List D)} {p : Pos} {e : Expr} (hm : X.mg "list" = none) (ha : VA X W [e] f) (hg : Gl X "list" := by rfl) (he : starEach [e] X.env = (false, eval e X.env) :: starEach [] X.env := by rfl) (hpl : (backTo pos (starEach [] X.env)).any (·.1) = false := by rfl) :
    VE X W (.Call (.Name "list" p) [e] [] pos) (vapp vlist1 f) := vcT call_list_of rc_list hm (by decide +kernel) ha hg (by decide) (by decide) he hpl
/-- one list of ints -/
theorem one_list {r : List V → Hp → VK → Prop} {g : List D → R D} {h : List Int → R D} (hg : ∀ ds, g ds ≠ .stuck → ∃ xs ns, ds = [.list xs] ∧ intsOf xs = some ns ∧ g ds = h ns)
    (hr : ∀ a ns σ H B Q, Same B H → SqL X.K H a (ns.map V.int) → Pst X W σ H (fun d' => ∀ v H' B', Ext B H B' H' → Is X.K B' v d' → Q v H') (h ns) → r [.ref a] H Q) : RuleC X W r g := fun ds vs σ H B Q s dx p => by
  have h0 : g ds ≠ .stuck := fun z => by rw [z] at p; exact p
  obtain ⟨xs, ns, rfl, hi, eg⟩ := hg ds h0
  rw [eg] at p
  cases dx with
  | cons h1 h2 =>
    cases h2
    cases h1 with
    | lst h3 h4 =>
      rw [intsOf_some hi] at h4
      have e := is_ints h4
      subst e
      exact hr _ ns σ H B Q s (.inl (Rd.mono s h3)) p
theorem list_case {g : List D → R D} {h : List Int → R D} {g' : List D → R D} (e1 : ∀ xs, g [.list xs] = match intsOf xs with | some ns => h ns | none => .stuck) (ds : List D) (h0 : g ds ≠ .stuck) (hd : ∃ xs, ds = [.list xs]) : ∃ xs ns, ds = [.list xs] ∧ intsOf xs = some ns ∧ g ds = h ns := by
  obtain ⟨xs, rfl⟩ := hd
  rw [e1] at h0 ⊢
  cases q : intsOf xs with
  | none => rw [q] at h0; exact absurd rfl h0
  | some ns => exact ⟨xs, ns, rfl, q, rfl⟩
theorem rc_sum : RuleC X W (rSum X.K) vsum := one_list (h := fun ns => .ok (.int ns.sum)) (fun ds h0 => list_case (g' := vsum) (fun xs => rfl) ds h0 (by
    cases ds with
    | nil => exact absurd rfl h0
    | cons d r => cases r with
      | nil => cases d <;> first | exact absurd rfl h0 | exact ⟨_, rfl⟩
      | cons _ _ => cases d <;> exact absurd rfl h0))
  fun a ns σ H B Q s h p => ⟨a, ns, rfl, h, p _ H B (.refl s) (.int _)⟩
theorem vsum_ {f : PEnv → R (List D)} {p : Pos} {e : Expr} (hc : X.calm = true) (hm : X.mg "sum" = none) (ha : VA X W [e] f) (hg : Gl X "sum" := by rfl) (he : starEach [e] X.env = (false, eval e X.env) :: starEach [] X.env := by rfl) (hpl : (backTo pos (starEach [] X.env)).any (·.1) = false := by rfl) :
    VE X W (.Call (.Name "sum" p) [e] [] pos) (vapp vsum f) := vcB (cr_sum hc) rc_sum hm (by decide +kernel) ha hg (by decide) (by decide) he hpl
theorem max_eq {ns : List Int} {m : Int} (h : m ∈ ns) (hl : ∀ y, y ∈ ns → y ≤ m) : ns.max? = some m := (List.max?_eq_some_iff).mpr ⟨h, hl⟩
theorem min_eq {ns : List Int} {m : Int} (h : m ∈ ns) (hl : ∀ y, y ∈ ns → m ≤ y) : ns.min? = some m := (List.min?_eq_some_iff).mpr ⟨h, hl⟩
theorem rc_max : RuleC X W (fun xs H Q => rMax X.K xs H Q ∨ ∃ i j, xs = [.int i, .int j] ∧ Q (.int (if j > i then j else i)) H) vmax := fun ds vs σ H B Q s dx p => by
  cases dx with
  | nil => exact p.elim
  | cons h1 h2 =>
    cases h2 with
    | cons h3 h4 =>
      cases h4 with
      | nil => cases h1 <;> first | exact p.elim | (cases h3 <;> first | exact p.elim | exact .inr ⟨_, _, rfl, p _ H B (.refl s) (.int _)⟩)
      | cons _ _ => cases h1 <;> first | exact p.elim | (cases h3 <;> exact p.elim)
    | nil =>
      cases h1 <;> first | exact p.elim | skip
      rename_i h3 h4
      simp only [vmax] at p
      split at p
      · rename_i ns hi
        rw [intsOf_some hi] at h4
        have e := is_ints h4
        subst e
        refine .inl ⟨_, ns, rfl, .inl (Rd.mono s h3), ?_, fun m hm hl => ?_⟩
        · cases ns with
          | nil => exact p.elim
          | cons _ _ => simp
        · unfold vmax1 at p
          rw [max_eq hm hl] at p
          exact p _ H B (.refl s) (.int _)
      · exact p.elim
theorem rc_min : RuleC X W (fun xs H Q => rMin X.K xs H Q ∨ ∃ i j, xs = [.int i, .int j] ∧ Q (.int (if j < i then j else i)) H) vmin := fun ds vs σ H B Q s dx p => by
  cases dx with
  | nil => exact p.elim
  | cons h1 h2 =>
    cases h2 with
    | cons h3 h4 =>
      cases h4 with
      | nil => cases h1 <;> first | exact p.elim | (cases h3 <;> first | exact p.elim | exact .inr ⟨_, _, rfl, p _ H B (.refl s) (.int _)⟩)
      | cons _ _ => cases h1 <;> first | exact p.elim | (cases h3 <;> exact p.elim)
    | nil =>
      cases h1 <;> first | exact p.elim | skip
      rename_i h3 h4
      simp only [vmin] at p
      split at p
      · rename_i ns hi
        rw [intsOf_some hi] at h4
        have e := is_ints h4
        subst e
        refine .inl ⟨_, ns, rfl, .inl (Rd.mono s h3), ?_, fun m hm hl => ?_⟩
        · cases ns with
          | nil => exact p.elim
          | cons _ _ => simp
        · unfold vmin1 at p
          rw [min_eq hm hl] at p
          exact p _ H B (.refl s) (.int _)
      · exact p.elim
theorem vmax_ {f : PEnv → R (List D)} {p : Pos} {e : Expr} (hc : X.calm = true) (hm : X.mg "max" = none) (ha : VA X W (e :: es) f) (hg : Gl X "max" := by rfl) (he : starEach (e :: es) X.env = (false, eval e X.env) :: starEach es X.env := by rfl) (hpl : (backTo pos (starEach es X.env)).any (·.1) = false := by rfl) :
    VE X W (.Call (.Name "max" p) (e :: es) [] pos) (vapp vmax f) := vcB (L2.CallR.or (cr_max hc) (call_max2 hc)) rc_max hm (by decide +kernel) ha hg (by decide) (by decide) he hpl
theorem vmin_ {f : PEnv → R (List D)} {p : Pos} {e : Expr} (hc : X.calm = true) (hm : X.mg "min" = none) (ha : VA X W (e :: es) f) (hg : Gl X "min" := by rfl) (he : starEach (e :: es) X.env = (false, eval e X.env) :: starEach es X.env := by rfl) (hpl : (backTo pos (starEach es X.env)).any (·.1) = false := by rfl) :
    VE X W (.Call (.Name "min" p) (e :: es) [] pos) (vapp vmin f) := vcB (L2.CallR.or (cr_min hc) (call_min2 hc)) rc_min hm (by decide +kernel) ha hg (by decide) (by decide) he hpl
theorem rc_all : RuleC X W (rAll X.K) vall := fun ds vs σ H B Q s dx p => by
  cases dx with
  | nil => exact p.elim
  | cons h1 h2 =>
    cases h2 with
    | cons _ _ => cases h1 <;> exact p.elim
    | nil =>
      cases h1 <;> first | exact p.elim | skip
      rename_i h3 h4
      simp only [vall] at p
      split at p
      · rename_i ns hi
        rw [boolsOf_some hi] at h4
        have e := is_bools h4
        subst e
        exact ⟨_, ns, rfl, .inl (Rd.mono s h3), p _ H B (.refl s) (.bl _)⟩
      · exact p.elim
theorem rc_any : RuleC X W (rAny X.K) vany := fun ds vs σ H B Q s dx p => by
  cases dx with
  | nil => exact p.elim
  | cons h1 h2 =>
    cases h2 with
    | cons _ _ => cases h1 <;> exact p.elim
    | nil =>
      cases h1 <;> first | exact p.elim | skip
      rename_i h3 h4
      simp only [vany] at p
      split at p
      · rename_i ns hi
        rw [boolsOf_some hi] at h4
        have e := is_bools h4
        subst e
        exact ⟨_, ns, rfl, .inl (Rd.mono s h3), p _ H B (.refl s) (.bl _)⟩
      · exact p.elim
theorem vall_ {f : PEnv → R (List D)} {p : Pos} {e : Expr} (hc : X.calm = true) (hm : X.mg "all" = none) (ha : VA X W [e] f) (hg : Gl X "all" := by rfl) (he : starEach [e] X.env = (false, eval e X.env) :: starEach [] X.env := by rfl) (hpl : (backTo pos (starEach [] X.env)).any (·.1) = false := by rfl) :
    VE X W (.Call (.Name "all" p) [e] [] pos) (vapp vall f) := vcB (cr_all hc) rc_all hm (by decide +kernel) ha hg (by decide) (by decide) he hpl
theorem vany_ {f : PEnv → R (List D)} {p : Pos} {e : Expr} (hc : X.calm = true) (hm : X.mg "any" = none) (ha : VA X W [e] f) (hg : Gl X "any" := by rfl) (he : starEach [e] X.env = (false, eval e X.env) :: starEach [] X.env := by rfl) (hpl : (backTo pos (starEach [] X.env)).any (·.1) = false := by rfl) :
    VE X W (.Call (.Name "any" p) [e] [] pos) (vapp vany f) := vcB (cr_any hc) rc_any hm (by decide +kernel) ha hg (by decide) (by decide) he hpl

/-! isinstance of a built-in type -/
def tyName : D → String
  | .none => "NoneType"
  | .bool _ => "bool"
  | .int _ => "int"
  | .str _ => "str"
  | .list _ => "list"
  | .tuple _ => "tuple"
  | .dict _ => "dict"
def isiT (T : String) (n : String) : Bool := n == T || (n == "bool" && T == "int")
def visi (T : String) : D → R D
  | .dict _ => .stuck
  | d => .ok (.bool (isiT T (tyName d)))
/-- the type T is asked about -/
structure TyOk (T : String) : Prop where
  k : ∀ n ∈ ["NoneType", "bool", "int", "str", "list", "tuple"], kitB n T = some (isiT T n)
theorem ty_int : TyOk "int" := ⟨by decide +kernel⟩
theorem ty_bool : TyOk "bool" := ⟨by decide +kernel⟩
theorem ty_str : TyOk "str" := ⟨by decide +kernel⟩
theorem ty_list : TyOk "list" := ⟨by decide +kernel⟩
theorem ty_tuple : TyOk "tuple" := ⟨by decide +kernel⟩
theorem is_ty {K : PySem.W.Frag} {B H : Hp} (s : Same B H) {d : D} {v : V} (nd : ∀ k, d ≠ .dict k) (h : Is K B v d) : TyX K H v (.type (tyName d)) := by
  cases h with
  | non => exact .base .non
  | bl b => exact .base (.bl b)
  | int i => exact .base (.int i)
  | str z => exact .base (.str z)
  | lst h1 h2 =>
    rcases h1 with h | ⟨o, h⟩
    · exact .base (.lst (s _ _ h))
    · exact .base (.frz (s _ _ h))
  | exc _ _ => exact absurd rfl (nd _)
  | tup h1 h2 =>
    rcases h1 with (h | ⟨o, h⟩) | ⟨o, its, n, h, c, _⟩
    · exact .base (.tup (s _ _ h))
    · exact .fTuple (s _ _ h)
    · exact .kTuple h c
theorem visi_ {T : String} {p p2 : Pos} (hT : TyOk T) (hm : X.mg "isinstance" = none) {x : Str} (hx : X.mg x = none) (hv : bootBuiltins x = some (.type T)) (ha : VE X W a fa)
    (hg : Gl X "isinstance" := by rfl) (hgx : Gl X x := by rfl) (hn : x ≠ "__name__" := by decide) (hdb : (x == ("__debug__" : Str)) = false := by decide)
    (he : starEach [a, .Name x p2] X.env = (false, eval a X.env) :: starEach [.Name x p2] X.env := by rfl) (he2 : starEach [.Name x p2] X.env = (false, eval (.Name x p2) X.env) :: starEach [] X.env := by rfl) (hpl : (backTo pos (starEach [.Name x p2] X.env)).any (·.1) = false := by rfl) :
    VE X W (.Call (.Name "isinstance" p) [a, .Name x p2] [] pos) (v1 (visi T) fa) := by
  obtain ⟨ta, pa, qa⟩ := ha.ex
  have p2' : PE X (.Name x p2) (tC (.ty T)) := pe_bltn hgx hx hv rfl hn hdb
  refine VE.mk' (pe_callB call_isi hg hm (by decide +kernel) (pa_cons pa (pa_cons p2' pa_nil he2) he) (by decide) (by decide) he hpl) fun σ H B ρ Q s rf p => ?_
  refine one qa s rf p fun d v H' B' ex sm dx pg => ?_
  have nd : ∀ k, d ≠ .dict k := fun k e => by subst e; exact pg.elim
  have ev : visi T d = .ok (.bool (isiT T (tyName d))) := by
    cases d <;> first | rfl | exact absurd rfl (nd _)
  rw [ev] at pg
  refine ⟨v, .ty T, .type (tyName d), .type T, isiT T (tyName d), rfl, .ty T, is_ty ex.bh nd dx, kit_ty (hT.k _ ?_), pg _ H' B' ex (.bl _)⟩
  cases dx <;> first | exact absurd rfl (nd _) | simp [tyName]

/-! slices -/
def cutL (xs : List D) (lo hi : Option Int) : List D := (xs.drop (HT.sIx xs.length 0 lo)).take (HT.sIx xs.length xs.length hi - HT.sIx xs.length 0 lo)
theorem IsAll.cut {K : PySem.W.Frag} {F : Hp} {vs : List V} {ds : List D} (h : IsAll K F vs ds) (lo hi : Option Int) : IsAll K F (cutV vs lo hi) (cutL ds lo hi) := by
  unfold cutV cutL
  rw [IsAll.len h]
  exact IsAll.take _ (IsAll.drop _ h)
def vcut (lo hi : Option Int) : D → R D
  | .list xs => .ok (.list (cutL xs lo hi))
  | .tuple xs => .ok (.tuple (cutL xs lo hi))
  | _ => .stuck
structure VO1 (X : Cx) (W : WX) (e : Option Expr) (f : PEnv → R (Option Int)) : Prop where
  ex : ∃ t, PO X e t ∧ ∀ σ H B ρ Q, Same B H → RF X.K B σ ρ → Pst X W σ H (fun i => ∀ H' B', Ext B H B' H' → Q i H') (f ρ) → t σ H Q
def oInt : D → R (Option Int)
  | .int i => .ok (some i)
  | _ => .stuck
theorem vo_none : VO1 X W none (fun _ => .ok none) := ⟨_, po_none, fun σ H B ρ Q s rf p => p H B (.refl s)⟩
theorem vo_some (h : VE X W a fa) : VO1 X W (some a) (fun ρ => (fa ρ).bind oInt) := by
  obtain ⟨t, p, q⟩ := h.ex
  refine ⟨_, po_some p, fun σ H B ρ Q s rf pr => ?_⟩
  refine one q s rf pr fun d x H' B' ex sm dx pg => ?_
  cases dx <;> first | exact pg.elim | exact ⟨_, rfl, pg H' B' ex⟩
def vslice (f : PEnv → R D) (l u : PEnv → R (Option Int)) : PEnv → R D := fun ρ => (f ρ).bind fun d => (l ρ).bind fun lo => (u ρ).bind fun hi => vcut lo hi d
theorem whole_cut (xs : List D) (lo hi : Option Int) (h : HT.sIx xs.length 0 lo = 0 ∧ HT.sIx xs.length xs.length hi = xs.length) : cutL xs lo hi = xs := by
  unfold cutL
  rw [h.1, h.2]
  simp
theorem vslice_ {lo hi : Option Expr} {p2 : Pos} {fl fu : PEnv → R (Option Int)} (ha : VE X W a fa) (hl : VO1 X W lo fl) (hu : VO1 X W hi fu) : VE X W (.Subscript a (.Slice lo hi none p2) pos) (vslice fa fl fu) := by
  obtain ⟨ta, pa, qa⟩ := ha.ex
  obtain ⟨tl, pl, ql⟩ := hl.ex
  obtain ⟨tu, pu, qu⟩ := hu.ex
  refine VE.mk' (pe_slice (SlR.or sl_list sl_tupA) pa pl pu) fun σ H B ρ Q s rf p => ?_
  unfold vslice at p
  refine one qa s rf p fun d x H1 B1 e1 sm dx p1 => ?_
  refine ql σ H1 B1 ρ _ e1.bh (rf.mono e1.bb) ?_
  generalize fl ρ = rl at p1 ⊢
  cases rl with
  | stuck => exact p1
  | err c => exact p1
  | ok lo' =>
    intro H2 B2 e2
    refine qu σ H2 B2 ρ _ e2.bh (rf.mono (e1.trans e2).bb) ?_
    simp only [R.bind_ok] at p1
    generalize fu ρ = ru at p1 ⊢
    cases ru with
    | stuck => exact p1
    | err c => exact fun H' z => p1 H' (e2.hh.trans z)
    | ok hi' =>
      intro H3 B3 e3
      simp only [R.bind_ok] at p1
      have E := (e1.trans e2).trans e3
      have dx3 := Is.mono (e2.trans e3).bb dx
      cases dx3 <;> first | exact p1.elim | skip
      · rename_i h1 h2
        refine .inl ⟨_, _, rfl, .inl (Rd.mono e3.bh h1), fun q hq => ?_⟩
        exact p1 _ _ _ (E.trans (Ext.new e3.bh hq)) (.lst (.inl upd_same) (IsAll.cut (IsAll.mono (Ext.new e3.bh hq).bb h2) _ _))
      · rename_i h1 h2
        refine .inr ⟨_, _, rfl, Same.tupl e3.bh h1, fun hw => ?_, fun _ q hq => ?_⟩
        · rw [IsAll.len h2] at hw
          rw [show vcut lo' hi' (.tuple _) = .ok (.tuple (cutL _ lo' hi')) from rfl, whole_cut _ _ _ hw] at p1
          exact p1 _ H3 B3 E (.tup h1 h2)
        · exact p1 _ _ _ (E.trans (Ext.new e3.bh hq)) (.tup (.inl (.inl upd_same)) (IsAll.cut (IsAll.mono (Ext.new e3.bh hq).bb h2) _ _))
end
end VL

namespace VL
open PySem PySem.Spec PyProof.Rows L2

/-! ### what is walked -/
structure Walks (K : PySem.W.Frag) (J : It) (ds : List D) (B : Hp) : Prop where
  go : ∀ i H, Same B H → i < ds.length → J.go i H
  yld : ∀ i H x H' B1, Same B B1 → Same B1 H → i < ds.length → J.yld i H x H' → ∃ d B2, ds[i]? = some d ∧ Ext B1 H B2 H' ∧ Is K B2 x d
  stop : ∀ H, Same B H → J.stop ds.length H
  small : ds.length ≤ sizeLine
def KI1 (X : Cx) (B H : Hp) (Rr : It → Hp → Prop) (ds : List D) : Prop := ∀ J H' B', Ext B H B' H' → Walks X.K J ds B' → Rr J H'
structure VI (X : Cx) (W : WX) (tg iter : Expr) (f : PEnv → R (List D)) : Prop where
  ex : ∃ wi, PI X tg iter wi ∧ ∀ σ H B ρ Rr, Same B H → RF X.K B σ ρ → Pst X W σ H (KI1 X B H Rr) (f ρ) → wi σ H Rr
theorem walks_list {K : PySem.W.Frag} {B : Hp} {a : Addr} {vs : List V} {ds : List D} (h : Rd B a (.lst vs)) (hd : IsAll K B vs ds) (hz : ds.length ≤ sizeLine) : Walks K (Itl K a) ds B where
  go := fun i H s hi => by
    have hl := IsAll.len hd
    exact ⟨vs, vs[i]'(by omega), .inl (Rd.mono s h), by simp⟩
  yld := fun i H x H' B1 s1 s2 hi y => by
    obtain ⟨rfl, y⟩ := y
    have e := y vs (.inl (Rd.mono (s1.trans s2) h))
    obtain ⟨d, e2, e3⟩ := IsAll.get hd e
    exact ⟨d, B1, e2, .refl s2, Is.mono s1 e3⟩
  stop := fun H s => ⟨vs, .inl (Rd.mono s h), by rw [IsAll.len hd]; exact Nat.le_refl _⟩
  small := hz
theorem walks_tup {K : PySem.W.Frag} {B : Hp} {a : Addr} {vs : List V} {ds : List D} (h : SqT K B a vs) (hd : IsAll K B vs ds) (hz : ds.length ≤ sizeLine) : Walks K (Itt K a) ds B where
  go := fun i H s hi => by
    have hl := IsAll.len hd
    exact ⟨vs, vs[i]'(by omega), Same.tupl s h, by simp⟩
  yld := fun i H x H' B1 s1 s2 hi y => by
    obtain ⟨rfl, y⟩ := y
    have e := y vs (Same.tupl (s1.trans s2) h)
    obtain ⟨d, e2, e3⟩ := IsAll.get hd e
    exact ⟨d, B1, e2, .refl s2, Is.mono s1 e3⟩
  stop := fun H s => ⟨vs, Same.tupl s h, by rw [IsAll.len hd]; exact Nat.le_refl _⟩
  small := hz
def rangeD (lo : Int) (n : Nat) : List D := (List.range n).map fun (i : Nat) => PyData.int (lo + (i : Int))
theorem rangeD_len (lo : Int) (n : Nat) : (rangeD lo n).length = n := by unfold rangeD; simp
theorem rangeD_at {lo : Int} {n i : Nat} (h : i < n) : (rangeD lo n)[i]? = some (.int (lo + (i : Int))) := by
  unfold rangeD
  rw [List.getElem?_map, List.getElem?_range h]
  rfl
theorem walks_range {K : PySem.W.Frag} {B : Hp} {lo : Int} {n : Nat} (hz : n ≤ sizeLine) : Walks K (Itr lo n) (rangeD lo n) B where
  go := fun i H s hi => by rw [rangeD_len] at hi; exact hi
  yld := fun i H x H' B1 s1 s2 hi y => by
    obtain ⟨rfl, rfl⟩ := y
    rw [rangeD_len] at hi
    exact ⟨_, B1, rangeD_at hi, .refl s2, .int _⟩
  stop := fun H s => by rw [rangeD_len]; exact Nat.le_refl _
  small := by rw [rangeD_len]; exact hz
def rangeCD (lo c : Int) (n : Nat) : List D := (List.range n).map fun (i : Nat) => PyData.int (lo + (i : Int) * c)
theorem rangeCD_len (lo c : Int) (n : Nat) : (rangeCD lo c n).length = n := by unfold rangeCD; simp
theorem rangeCD_at {lo c : Int} {n i : Nat} (h : i < n) : (rangeCD lo c n)[i]? = some (.int (lo + (i : Int) * c)) := by
  unfold rangeCD
  rw [List.getElem?_map, List.getElem?_range h]
  rfl
theorem walks_rangeC {K : PySem.W.Frag} {B : Hp} {lo c : Int} {n : Nat} (hz : n ≤ sizeLine) : Walks K (Itc lo c n) (rangeCD lo c n) B where
  go := fun i H s hi => by rw [rangeCD_len] at hi; exact hi
  yld := fun i H x H' B1 s1 s2 hi y => by
    obtain ⟨rfl, rfl⟩ := y
    rw [rangeCD_len] at hi
    exact ⟨_, B1, rangeCD_at hi, .refl s2, .int _⟩
  stop := fun H s => by rw [rangeCD_len]; exact Nat.le_refl _
  small := by rw [rangeCD_len]; exact hz
theorem walks_rev {K : PySem.W.Frag} {B : Hp} {a : Addr} {vs : List V} {ds : List D} (h : Rd B a (.lst vs)) (hd : IsAll K B vs ds) (hz : ds.length ≤ sizeLine) : Walks K (Itv K a vs.length) ds.reverse B where
  go := fun i H s hi => by
    have hl := IsAll.len hd
    rw [List.length_reverse] at hi
    exact ⟨by omega, vs, vs[vs.length - 1 - i]'(by omega), .inl (Rd.mono s h), by simp⟩
  yld := fun i H x H' B1 s1 s2 hi y => by
    obtain ⟨rfl, y⟩ := y
    have hl := IsAll.len hd
    rw [List.length_reverse] at hi
    have e := y vs (.inl (Rd.mono (s1.trans s2) h))
    obtain ⟨d, e2, e3⟩ := IsAll.get hd e
    refine ⟨d, B1, ?_, .refl s2, Is.mono s1 e3⟩
    rw [List.getElem?_reverse hi, ← hl]
    exact e2
  stop := fun H s => by
    have hl := IsAll.len hd
    show vs.length ≤ ds.reverse.length
    rw [List.length_reverse]; omega
  small := by rw [List.length_reverse]; exact hz
def enumD (ds : List D) : List D := ds.mapIdx fun i d => PyData.tuple [.int (i : Int), d]
theorem enumD_len (ds : List D) : (enumD ds).length = ds.length := by unfold enumD; simp
theorem walks_enum {K : PySem.W.Frag} {B : Hp} {a : Addr} {vs : List V} {ds : List D} (h : Rd B a (.lst vs)) (hd : IsAll K B vs ds) (hz : ds.length ≤ sizeLine) : Walks K (Ite K a) (enumD ds) B where
  go := fun i H s hi => by
    have hl := IsAll.len hd
    rw [enumD_len] at hi
    exact ⟨vs, vs[i]'(by omega), .inl (Rd.mono s h), by simp⟩
  yld := fun i H x H' B1 s1 s2 hi y => by
    obtain ⟨T, x', rfl, nT, rfl, y⟩ := y
    have e := y vs (.inl (Rd.mono (s1.trans s2) h))
    obtain ⟨d, e2, e3⟩ := IsAll.get hd e
    refine ⟨.tuple [.int (i : Int), d], _, ?_, Ext.new s2 nT, .tup (.inl (.inl upd_same)) (.cons (.int _) (.cons (Is.mono (s1.trans (Ext.new s2 nT).bb) e3) .nil))⟩
    unfold enumD
    rw [List.getElem?_mapIdx, e2]
    rfl
  stop := fun H s => ⟨vs, .inl (Rd.mono s h), by rw [enumD_len, IsAll.len hd]; exact Nat.le_refl _⟩
  small := by rw [enumD_len]; exact hz
def zipD (ds es : List D) : List D := List.zipWith (fun d e => PyData.tuple [d, e]) ds es
theorem zipD_len (ds es : List D) : (zipD ds es).length = min ds.length es.length := by unfold zipD; simp
theorem walks_zip {K : PySem.W.Frag} {B : Hp} {a b : Addr} {vs us : List V} {ds es : List D} (h : Rd B a (.lst vs)) (hd : IsAll K B vs ds) (h' : Rd B b (.lst us)) (he : IsAll K B us es) (hz : ds.length ≤ sizeLine) : Walks K (Itz K a b) (zipD ds es) B where
  go := fun i H s hi => by
    have hl := IsAll.len hd
    have hl' := IsAll.len he
    rw [zipD_len] at hi
    exact ⟨vs, us, vs[i]'(by omega), us[i]'(by omega), .inl (Rd.mono s h), .inl (Rd.mono s h'), by simp, by simp⟩
  yld := fun i H x H' B1 s1 s2 hi y => by
    obtain ⟨T, x', y', rfl, nT, rfl, q1, q2⟩ := y
    have e := q1 vs (.inl (Rd.mono (s1.trans s2) h))
    have e' := q2 us (.inl (Rd.mono (s1.trans s2) h'))
    obtain ⟨d, e2, e3⟩ := IsAll.get hd e
    obtain ⟨d', e2', e3'⟩ := IsAll.get he e'
    refine ⟨.tuple [d, d'], _, ?_, Ext.new s2 nT, .tup (.inl (.inl upd_same)) (.cons (Is.mono (s1.trans (Ext.new s2 nT).bb) e3) (.cons (Is.mono (s1.trans (Ext.new s2 nT).bb) e3') .nil))⟩
    unfold zipD
    rw [List.getElem?_zipWith, e2, e2']
  stop := fun H s => ⟨vs, us, .inl (Rd.mono s h), .inl (Rd.mono s h'), by rw [zipD_len, IsAll.len hd, IsAll.len he]; omega⟩
  small := by rw [zipD_len]; omega

/-! sources -/
def seqD : D → R (List D)
  | .list xs => .ok xs
  | .tuple xs => .ok xs
  | _ => .stuck
def rngOk (i j : Int) : Prop := -16777216 ≤ i ∧ i ≤ 16777216 ∧ -16777216 ≤ j ∧ j ≤ 16777216 ∧ j - i ≤ 16777216
noncomputable instance (i j : Int) : Decidable (rngOk i j) := Classical.propDecidable _
noncomputable def vrange1 : D → R (List D)
  | .int j => if rngOk 0 j then .ok (rangeD 0 j.toNat) else .stuck
  | _ => .stuck
noncomputable def vrange2 : D → D → R (List D)
  | .int i, .int j => if rngOk i j then .ok (rangeD i (j - i).toNat) else .stuck
  | _, _ => .stuck
noncomputable def vrangeN : D → D → R (List D)
  | .int i, .int j => if rngOk i j ∧ i - j ≤ 16777216 then .ok (rangeCD i (-1) (i - j).toNat) else .stuck
  | _, _ => .stuck
def venum : D → R (List D)
  | .list xs => .ok (enumD xs)
  | _ => .stuck
def vzip : D → D → R (List D)
  | .list xs, .list ys => .ok (zipD xs ys)
  | _, _ => .stuck
def vrev : D → R (List D)
  | .list xs => .ok xs.reverse
  | _ => .stuck
/-! ### targets -/
def setsV (σ : L2.St) (bs : List (Nat × V)) : L2.St := bs.foldl (fun σ b => σ.set b.1 (some b.2)) σ
def setsD (ρ : PEnv) (bs : List (Nat × D)) : PEnv := bs.foldl (fun ρ b => ρ.set b.1 (some b.2)) ρ
abbrev Bds (K : PySem.W.Frag) (B : Hp) : List (Nat × V) → List (Nat × D) → Prop := Paired fun p q => p.1 = q.1 ∧ Is K B p.2 q.2
theorem RF.set {K : PySem.W.Frag} {B : Hp} {σ : L2.St} {ρ : PEnv} (h : RF K B σ ρ) (i : Nat) {v : V} {d : D} (hd : Is K B v d) : RF K B (σ.set i (some v)) (ρ.set i (some d)) := ⟨by rw [List.length_set, List.length_set]; exact h.len, fun j e x => by
  by_cases hj : j = i
  · subst hj
    have hl : j < ρ.length := by
      obtain ⟨q, _⟩ := List.getElem?_eq_some_iff.mp x
      rw [List.length_set] at q; exact q
    rw [List.getElem?_set_self hl] at x
    cases x
    rw [List.getElem?_set_self (by rw [h.len]; exact hl)]
    exact ⟨v, rfl, hd⟩
  · rw [List.getElem?_set_ne (Ne.symm hj)] at x
    obtain ⟨u, e1, e2⟩ := h.at_ j e x
    exact ⟨u, by rw [List.getElem?_set_ne (Ne.symm hj)]; exact e1, e2⟩⟩
theorem RF.sets {K : PySem.W.Frag} {B : Hp} : ∀ {bv : List (Nat × V)} {bd : List (Nat × D)} {σ : L2.St} {ρ : PEnv}, RF K B σ ρ → Bds K B bv bd → RF K B (setsV σ bv) (setsD ρ bd)
  | _, _, _, _, h, .nil => h
  | _, _, _, _, h, .cons (a := p) (b := q) r t => by
    obtain ⟨r1, r2⟩ := r
    unfold setsV setsD
    rw [List.foldl_cons, List.foldl_cons, r1]
    exact RF.sets (RF.set h q.1 r2) t
structure VG (X : Cx) (tg : Expr) (sl : List Nat) (k : D → R (List (Nat × D))) : Prop where
  ex : ∃ t, PG X tg t ∧ ∀ v σ H B d Q, Same B H → Is X.K B v d → (∃ bd, k d = .ok bd ∧ ∀ bv, Bds X.K B bv bd → Q (setsV σ bv) H) → t v σ H Q
  sl : ∀ d bs, k d = .ok bs → bs.map (·.1) = sl
structure VGs (X : Cx) (ts : List Expr) (sl : List Nat) (k : List D → R (List (Nat × D))) : Prop where
  ex : ∃ t, PGs X ts t ∧ ∀ vs σ H B ds Q, Same B H → IsAll X.K B vs ds → (∃ bd, k ds = .ok bd ∧ ∀ bv, Bds X.K B bv bd → Q (setsV σ bv) H) → t vs σ H Q
  sl : ∀ ds bs, k ds = .ok bs → bs.map (·.1) = sl ∧ ds.length = ts.length
def gN (i : Nat) : D → R (List (Nat × D)) := fun d => .ok [(i, d)]
def gC (g : D → R (List (Nat × D))) (h : List D → R (List (Nat × D))) : List D → R (List (Nat × D))
  | [] => .stuck
  | d :: ds => (g d).bind fun bs => (h ds).bind fun cs => .ok (bs ++ cs)
def gE : List D → R (List (Nat × D))
  | [] => .ok []
  | _ => .stuck
def gT (h : List D → R (List (Nat × D))) : D → R (List (Nat × D))
  | .tuple xs => h xs
  | _ => .stuck
section
variable {X : Cx} {pos : Pos} {e : Expr} {es : List Expr} {g : D → R (List (Nat × D))} {h : List D → R (List (Nat × D))} {sl sl' : List Nat}
theorem vg (i : Nat) {x : Str} (hN : X.N.Nodup) (hi : X.N[i]? = some x := by rfl) (hx : Loc X.env.scope x := by first | exact Or.inl rfl | exact Or.inr rfl) (hf : X.fn x = true ∨ X.env.scope.names.lookup x = some .local := by first | exact .inl rfl | exact .inr rfl) : VG X (.Name x pos) [i] (gN i) :=
  ⟨⟨_, pg_name hN hi hx hf, fun v σ H B d Q s dv ⟨bd, e, q⟩ => by
    cases e
    exact q [(i, v)] (.cons ⟨rfl, dv⟩ .nil)⟩, fun d bs e => by cases e; rfl⟩
theorem vgs_nil : VGs X [] [] gE := ⟨⟨_, pgs_nil, fun vs σ H B ds Q s dv ⟨bd, e, q⟩ => by
  cases dv with
  | nil => cases e; exact ⟨rfl, q [] .nil⟩
  | cons _ _ => cases e⟩, fun ds bs e => by cases ds <;> first | (cases e; exact ⟨rfl, rfl⟩) | cases e⟩
theorem vgs_cons (h1 : VG X e sl g) (h2 : VGs X es sl' h) (hs : (assignEach (e :: es) X.env).map (·.2) = assign e X.env :: (assignEach es X.env).map (·.2) := by rfl) : VGs X (e :: es) (sl ++ sl') (gC g h) := by
  obtain ⟨t, p, q⟩ := h1.ex
  obtain ⟨t2, p2, q2⟩ := h2.ex
  refine ⟨⟨_, pgs_cons p p2 hs, fun vs σ H B ds Q s dv ⟨bd, eb, qq⟩ => ?_⟩, fun ds bs eb => ?_⟩
  · cases dv with
    | nil => cases eb
    | @cons v vs d ds d1 d2 =>
      refine ⟨v, vs, rfl, ?_⟩
      simp only [gC] at eb
      generalize hg : g d = rg at eb
      cases rg with
      | stuck => cases eb
      | err c => cases eb
      | ok b1 =>
        simp only [R.bind_ok] at eb
        generalize hh : h ds = rh at eb
        cases rh with
        | stuck => cases eb
        | err c => cases eb
        | ok b2 =>
          cases eb
          refine q v σ H B d _ s d1 ⟨b1, hg, fun bv1 hb1 => ?_⟩
          refine q2 vs _ H B ds _ s d2 ⟨b2, hh, fun bv2 hb2 => ?_⟩
          have z := qq (bv1 ++ bv2) (by
            have app : ∀ {l1 l2 l3 l4}, Bds X.K B l1 l2 → Bds X.K B l3 l4 → Bds X.K B (l1 ++ l3) (l2 ++ l4) := by
              intro l1 l2 l3 l4 a b
              induction a with
              | nil => exact b
              | cons r t ih => exact .cons r ih
            exact app hb1 hb2)
          unfold setsV at z
          rw [List.foldl_append] at z
          exact z
  · cases ds with
    | nil => cases eb
    | cons d ds =>
      simp only [gC] at eb
      generalize hg : g d = rg at eb
      cases rg with
      | stuck => cases eb
      | err c => cases eb
      | ok b1 =>
        simp only [R.bind_ok] at eb
        generalize hh : h ds = rh at eb
        cases rh with
        | stuck => cases eb
        | err c => cases eb
        | ok b2 =>
          cases eb
          obtain ⟨z1, z2⟩ := h2.sl ds b2 hh
          rw [List.map_append, h1.sl d b1 hg, z1, List.length_cons, List.length_cons, z2]
          exact ⟨rfl, rfl⟩
theorem vg_tup {k : Nat} {n : Nat} (hc : X.calm = true) (hh : VGs X es sl h) (hn : (assignEach es X.env).length = n := by rfl) (hst : (assignEach es X.env).findIdx? (·.1) = none := by rfl) (hl : es.length = n := by rfl) : VG X (.Tuple es k pos) sl (gT h) := by
  obtain ⟨t, p, q⟩ := hh.ex
  refine ⟨⟨_, pg_tup hc p hn hst, fun v σ H B d Q s dv ⟨bd, eb, qq⟩ => ?_⟩, fun d bs eb => ?_⟩
  · cases dv with
    | @tup a xs ds h1 h2 => exact ⟨a, xs, rfl, Same.tupl s h1, by rw [IsAll.len h2, (hh.sl ds bd eb).2, hl], q xs σ H B ds Q s h2 ⟨bd, eb, qq⟩⟩
    | _ => cases eb
  · cases d <;> first | (cases eb; done) | exact (hh.sl _ bs eb).1
end
section
variable {X : Cx} {W : WX} {a b c : Expr} {es : List Expr} {pos : Pos} {fa fb fc : PEnv → R D} {ft fu : PEnv → R Bool} {k : Nat} {tg : Expr}
theorem pi_seq {l : Expr} {tl : TE} (hl : PE X l tl) : PI X tg l (fun σ H Rr => tl σ H fun x G1 => ∃ a, x = .ref a ∧ (((∃ xs, SqL X.K G1 a xs) ∧ Rr (Itl X.K a) G1) ∨ ((∃ xs, SqT X.K G1 a xs) ∧ Rr (Itt X.K a) G1))) := by
  refine ⟨fun pins s σ H R J hh => ?_⟩
  refine thn (hl.run pins s σ H _ J hh) fun v t1 ⟨x, G1, J1, rr, qq⟩ => ?_
  obtain ⟨a, ee, q⟩ := qq
  subst ee
  cases rr
  rcases q with ⟨⟨xs, hq⟩, q⟩ | ⟨⟨xs, hq⟩, q⟩
  · obtain ⟨its, rv, p, hz⟩ := J1.list hq
    refine wpAny_pyIter_list p.isList ?_
    refine ⟨t1.heap.objs.size, [t1.heap.objs.size], _, _, G1, rfl, J1.kept (t' := t1.toks) fun bb o ee => Heap.get?_push_of_some _ ee, turn_list a _, ⟨_, Heap.get?_push_size _ rfl, rfl, rfl⟩, fun bb hb => ?_, q⟩
    have ee : bb = t1.heap.objs.size := by simpa using hb
    subst ee
    exact J1.fpOk (Nat.le_refl _) (J1.hok.fresh (Nat.le_refl _))
  · obtain ⟨its, rv, p, hz⟩ := J1.tuple hq
    refine wpAny_pyIter_tuple (show t1.heap.IsTuple a its.toArray from p) ?_
    refine ⟨t1.heap.objs.size, [t1.heap.objs.size], _, _, G1, rfl, J1.kept (t' := t1.toks) fun bb o ee => Heap.get?_push_of_some _ ee, turn_tuple a _, ⟨_, Heap.get?_push_size _ rfl, rfl, rfl⟩, fun bb hb => ?_, q⟩
    have ee : bb = t1.heap.objs.size := by simpa using hb
    subst ee
    exact J1.fpOk (Nat.le_refl _) (J1.hok.fresh (Nat.le_refl _))
def isq (f : PEnv → R D) : PEnv → R (List D) := fun ρ => (f ρ).bind seqD
theorem vi_seq (h : VE X W a fa) : VI X W tg a (isq fa) := by
  obtain ⟨t, p, q⟩ := h.ex
  refine ⟨_, pi_seq p, fun σ H B ρ Rr s rf pr => ?_⟩
  refine one q s rf pr fun d x H' B' ex sm dx pg => ?_
  have dx0 := dx
  cases dx <;> first | exact pg.elim | skip
  · rename_i h1 h2
    exact ⟨_, rfl, .inl ⟨⟨_, .inl (Rd.mono ex.bh h1)⟩, pg _ H' B' ex (walks_list h1 h2 (Small.list sm ex.bh dx0))⟩⟩
  · rename_i h1 h2
    exact ⟨_, rfl, .inr ⟨⟨_, Same.tupl ex.bh h1⟩, pg _ H' B' ex (walks_tup h1 h2 (Small.tuple sm ex.bh dx0))⟩⟩
def i1 (g : D → R (List D)) (f : PEnv → R D) : PEnv → R (List D) := fun ρ => (f ρ).bind g
def i2 (g : D → D → R (List D)) (f f' : PEnv → R D) : PEnv → R (List D) := fun ρ => (f ρ).bind fun d => (f' ρ).bind fun e => g d e
theorem vi_range1 {p pos : Pos} (hm : X.mg "range" = none) (ha : VE X W a fa) (hg : Gl X "range" := by rfl) (hs : starEach [a] X.env = [(false, eval a X.env)] := by rfl) (he : starEach [a] X.env = (false, eval a X.env) :: starEach [] X.env := by rfl) : VI X W tg (.Call (.Name "range" p) [a] [] pos) (i1 vrange1 fa) := by
  obtain ⟨t, pt, qt⟩ := ha.ex
  refine ⟨_, pi_range1 hg hm (pa_cons pt pa_nil he) hs, fun σ H B ρ Rr s rf pr => ?_⟩
  refine one qt s rf pr fun d x H' B' ex sm dx pg => ?_
  cases dx <;> first | exact pg.elim | skip
  rename_i i
  simp only [vrange1] at pg
  split at pg
  · rename_i hz
    have hz' : -16777216 ≤ (0:Int) ∧ (0:Int) ≤ 16777216 ∧ -16777216 ≤ i ∧ i ≤ 16777216 ∧ i - 0 ≤ 16777216 := hz
    exact ⟨_, rfl, by omega, by omega, pg _ H' B' ex (walks_range (by have := sizeLine_eq; omega))⟩
  · exact pg.elim
theorem vi_range2 {p pos : Pos} (hm : X.mg "range" = none) (ha : VE X W a fa) (hb : VE X W b fb) (hg : Gl X "range" := by rfl) (hs : starEach [a, b] X.env = [(false, eval a X.env), (false, eval b X.env)] := by rfl) (hs2 : starEach [b] X.env = [(false, eval b X.env)] := by rfl)
    (he : starEach [a, b] X.env = (false, eval a X.env) :: starEach [b] X.env := by rfl) (he2 : starEach [b] X.env = (false, eval b X.env) :: starEach [] X.env := by rfl) : VI X W tg (.Call (.Name "range" p) [a, b] [] pos) (i2 vrange2 fa fb) := by
  obtain ⟨t, pt, qt⟩ := ha.ex
  obtain ⟨t2, pt2, qt2⟩ := hb.ex
  refine ⟨_, pi_range2 hg hm (pa_cons pt (pa_cons pt2 pa_nil he2) he) hs hs2, fun σ H B ρ Rr s rf pr => ?_⟩
  refine two qt qt2 s rf pr fun d e x y H' B' ex sm dx dy pg => ?_
  cases dx <;> first | (cases dy <;> exact pg.elim) | skip
  cases dy <;> first | exact pg.elim | skip
  rename_i i j
  simp only [vrange2] at pg
  split at pg
  · rename_i hz
    have hz' : -16777216 ≤ i ∧ i ≤ 16777216 ∧ -16777216 ≤ j ∧ j ≤ 16777216 ∧ j - i ≤ 16777216 := hz
    exact ⟨i, j, rfl, ⟨by omega, by omega, by omega, by omega⟩, pg _ H' B' ex (walks_range (by have := sizeLine_eq; omega))⟩
  · exact pg.elim
theorem vi_rangeN {p pos pos2 pos3 : Pos} {m : Nat} (hm : X.mg "range" = none) (ha : VE X W a fa) (hb : VE X W b fb) (hg : Gl X "range" := by rfl)
    (hs : starEach [a, b, .UnaryOp .USub (.Constant (.int 1) m pos3) pos2] X.env = (false, eval a X.env) :: starEach [b, .UnaryOp .USub (.Constant (.int 1) m pos3) pos2] X.env := by rfl)
    (hs2 : starEach [b, .UnaryOp .USub (.Constant (.int 1) m pos3) pos2] X.env = (false, eval b X.env) :: starEach [.UnaryOp .USub (.Constant (.int 1) m pos3) pos2] X.env := by rfl)
    (hpl : (backTo pos (starEach [b, .UnaryOp .USub (.Constant (.int 1) m pos3) pos2] X.env)).any (·.1) = false := by rfl) :
    VI X W tg (.Call (.Name "range" p) [a, b, .UnaryOp .USub (.Constant (.int 1) m pos3) pos2] [] pos) (i2 vrangeN fa fb) := by
  obtain ⟨t, pt, qt⟩ := ha.ex
  obtain ⟨t2, pt2, qt2⟩ := hb.ex
  have p3 : PE X (.UnaryOp .USub (.Constant (.int 1) m pos3) pos2) (tUn (rU fun i => .int (-i)) (tC (.int 1))) := pe_un un_neg pe_int
  refine ⟨_, pi_range3 hg hm (pa_cons pt (pa_cons pt2 (pa_cons p3 pa_nil) hs2) hs) (hs := hs) (hpl := hpl), fun σ H B ρ Rr s rf pr => ?_⟩
  refine two qt qt2 s rf pr fun d e x y H' B' ex sm dx dy pg => ?_
  cases dx <;> first | (cases dy <;> exact pg.elim) | skip
  cases dy <;> first | exact pg.elim | skip
  rename_i i j
  simp only [vrangeN] at pg
  split at pg
  · rename_i hz
    have hz' : (-16777216 ≤ i ∧ i ≤ 16777216 ∧ -16777216 ≤ j ∧ j ≤ 16777216 ∧ j - i ≤ 16777216) ∧ i - j ≤ 16777216 := hz
    exact ⟨1, rfl, i, j, -1, (i - j).toNat, rfl, RgC.neg (by omega) (by omega) (by omega) (by omega), pg _ H' B' ex (walks_rangeC (by have := sizeLine_eq; omega))⟩
  · exact pg.elim
theorem vi_enum {p pos tpos : Pos} {elts : List Expr} {kk : Nat} (hm : X.mg "enumerate" = none) (ha : VE X W a fa) (hg : Gl X "enumerate" := by rfl) (hs : starEach [a] X.env = [(false, eval a X.env)] := by rfl) (he : starEach [a] X.env = (false, eval a X.env) :: starEach [] X.env := by rfl) : VI X W (.Tuple elts kk tpos) (.Call (.Name "enumerate" p) [a] [] pos) (i1 venum fa) := by
  obtain ⟨t, pt, qt⟩ := ha.ex
  refine ⟨_, pi_enum hg hm (pa_cons pt pa_nil he) hs, fun σ H B ρ Rr s rf pr => ?_⟩
  refine one qt s rf pr fun d x H' B' ex sm dx pg => ?_
  have dx0 := dx
  cases dx <;> first | exact pg.elim | skip
  rename_i h1 h2
  exact ⟨_, _, rfl, .inl (Rd.mono ex.bh h1), pg _ H' B' ex (walks_enum h1 h2 (Small.list sm ex.bh dx0))⟩
theorem vi_zip {p pos tpos : Pos} {elts : List Expr} {kk : Nat} (hm : X.mg "zip" = none) (ha : VE X W a fa) (hb : VE X W b fb) (hg : Gl X "zip" := by rfl) (he : starEach [a, b] X.env = (false, eval a X.env) :: starEach [b] X.env := by rfl) (he2 : starEach [b] X.env = (false, eval b X.env) :: starEach [] X.env := by rfl) (hpl : (backTo pos (starEach [b] X.env)).any (·.1) = false := by rfl) :
    VI X W (.Tuple elts kk tpos) (.Call (.Name "zip" p) [a, b] [] pos) (i2 vzip fa fb) := by
  obtain ⟨t, pt, qt⟩ := ha.ex
  obtain ⟨t2, pt2, qt2⟩ := hb.ex
  refine ⟨_, pi_zip hg hm (pa_cons pt (pa_cons pt2 pa_nil he2) he) he hpl, fun σ H B ρ Rr s rf pr => ?_⟩
  refine two qt qt2 s rf pr fun d e x y H' B' ex sm dx dy pg => ?_
  have dx0 := dx
  cases dx <;> first | (cases dy <;> exact pg.elim) | skip
  cases dy <;> first | exact pg.elim | skip
  rename_i h1 h2 _ _ _ h3 h4
  exact ⟨_, _, _, _, rfl, .inl (Rd.mono ex.bh h1), .inl (Rd.mono ex.bh h3), pg _ H' B' ex (walks_zip h1 h2 h3 h4 (Small.list sm ex.bh dx0))⟩
theorem vi_rev {p pos : Pos} (hm : X.mg "reversed" = none) (ha : VE X W a fa) (hg : Gl X "reversed" := by rfl) (hs : starEach [a] X.env = [(false, eval a X.env)] := by rfl) (he : starEach [a] X.env = (false, eval a X.env) :: starEach [] X.env := by rfl) : VI X W tg (.Call (.Name "reversed" p) [a] [] pos) (i1 vrev fa) := by
  obtain ⟨t, pt, qt⟩ := ha.ex
  refine ⟨_, pi_reversed hg hm (pa_cons pt pa_nil he) hs, fun σ H B ρ Rr s rf pr => ?_⟩
  refine one qt s rf pr fun d x H' B' ex sm dx pg => ?_
  have dx0 := dx
  cases dx <;> first | exact pg.elim | skip
  rename_i h1 h2
  exact ⟨_, _, rfl, .inl (Rd.mono ex.bh h1), pg _ H' B' ex (walks_rev h1 h2 (Small.list sm ex.bh dx0))⟩

/-! ### comprehensions -/
def wipeD (ρ : PEnv) : List Nat → PEnv
  | [] => ρ
  | v :: vs => (wipeD ρ vs).set v none
theorem RF.wipe {K : PySem.W.Frag} {B : Hp} {σ : L2.St} {ρ : PEnv} (h : RF K B σ ρ) : ∀ vs : List Nat, RF K B (L2.wipe σ vs) (wipeD ρ vs)
  | [] => h
  | v :: vs => by
    have ih := RF.wipe h vs
    unfold L2.wipe wipeD
    refine ⟨by rw [List.length_set, List.length_set]; exact ih.len, fun j e x => ?_⟩
    by_cases hj : j = v
    · subst hj
      have hl : j < (wipeD ρ vs).length := by
        obtain ⟨q, _⟩ := List.getElem?_eq_some_iff.mp x
        rw [List.length_set] at q; exact q
      rw [List.getElem?_set_self hl] at x
      cases x
    · rw [List.getElem?_set_ne (Ne.symm hj)] at x
      obtain ⟨u, e1, e2⟩ := ih.at_ j e x
      exact ⟨u, by rw [List.getElem?_set_ne (Ne.symm hj)]; exact e1, e2⟩
theorem wipe_at {σ : L2.St} {i : Nat} : ∀ {vs : List Nat}, i ∈ vs → ∀ x, (L2.wipe σ vs)[i]? ≠ some (some x)
  | [], h, _ => by cases h
  | v :: vs, h, x => by
    unfold L2.wipe
    by_cases hv : v = i
    · subst hv
      intro q
      obtain ⟨q1, _⟩ := List.getElem?_eq_some_iff.mp q
      rw [List.getElem?_set_self (by rw [List.length_set] at q1; exact q1)] at q
      cases q
    · rw [List.getElem?_set_ne hv]
      rcases List.mem_cons.mp h with e | e
      · exact absurd e.symm hv
      · exact wipe_at e x
theorem wipe_set {σ : L2.St} {i : Nat} {x : Option V} : ∀ {vs : List Nat}, i ∈ vs → L2.wipe (σ.set i x) vs = L2.wipe σ vs
  | [], h => by cases h
  | v :: vs, h => by
    show (L2.wipe (σ.set i x) vs).set v none = (L2.wipe σ vs).set v none
    by_cases hm : i ∈ vs
    · rw [wipe_set hm]
    · have hv : i = v := by
        rcases List.mem_cons.mp h with e | e
        · exact e
        · exact absurd e hm
      subst hv
      have sw : ∀ ws : List Nat, i ∉ ws → L2.wipe (σ.set i x) ws = (L2.wipe σ ws).set i x := by
        intro ws
        induction ws with
        | nil => intro _; rfl
        | cons w ws ih =>
          intro hw
          have h1 : i ≠ w := fun e => hw (e ▸ List.mem_cons_self)
          show (L2.wipe (σ.set i x) ws).set w none = ((L2.wipe σ ws).set w none).set i x
          rw [ih (fun q => hw (List.mem_cons_of_mem _ q)), List.set_comm _ _ h1]
      rw [sw vs hm, List.set_set]
theorem wipe_idem {σ : L2.St} (vs : List Nat) : L2.wipe (L2.wipe σ vs) vs = L2.wipe σ vs := by
  have : ∀ ws, (∀ w ∈ ws, w ∈ vs) → L2.wipe (L2.wipe σ ws) vs = L2.wipe σ vs := by
    intro ws
    induction ws with
    | nil => intro _; rfl
    | cons w ws ih =>
      intro h
      show L2.wipe ((L2.wipe σ ws).set w none) vs = _
      rw [wipe_set (h w List.mem_cons_self), ih fun x hx => h x (List.mem_cons_of_mem _ hx)]
  exact this vs fun _ h => h
theorem wipe_sets {vs : List Nat} : ∀ {bs : List (Nat × V)} {σ : L2.St}, (∀ b ∈ bs, b.1 ∈ vs) → L2.wipe (setsV σ bs) vs = L2.wipe σ vs
  | [], _, _ => rfl
  | b :: bs, σ, h => by
    show L2.wipe (setsV (σ.set b.1 (some b.2)) bs) vs = _
    rw [wipe_sets fun x hx => h x (List.mem_cons_of_mem _ hx), wipe_set (h b List.mem_cons_self)]
/-- an error within a comprehension is not carried -/
def R.calm {α : Type} : R α → R α
  | .err _ => .stuck
  | r => r
def tyes : PEnv → R Bool := fun _ => .ok true
def compL (kt : D → R (List (Nat × D))) (ft : PEnv → R Bool) (fe : PEnv → R D) (ρ : PEnv) : List D → R (List D)
  | [] => .ok []
  | d :: ds => (kt d).bind fun bs => ((ft (setsD ρ bs)).calm).bind fun b => if b then ((fe (setsD ρ bs)).calm).bind fun y => (compL kt ft fe ρ ds).bind fun ys => .ok (y :: ys) else compL kt ft fe ρ ds
def vcomp (own : List Nat) (fi : PEnv → R (List D)) (kt : D → R (List (Nat × D))) (ft : PEnv → R Bool) (fe : PEnv → R D) : PEnv → R (List D) := fun ρ => (fi ρ).bind fun ds => (compL kt ft fe (wipeD ρ own) ds).calm
abbrev W0 : WX := fun _ _ _ _ => False
structure VTs (X : Cx) (W : WX) (ifs : List Expr) (f : PEnv → R Bool) : Prop where
  ex : ∃ t, PTs X ifs t ∧ ∀ σ H B ρ Q, Same B H → RF X.K B σ ρ → Pst X W σ H (KB1 B H Q) (f ρ) → t σ H Q
theorem vts_nil : VTs X W [] tyes := ⟨_, pts_nil, fun σ H B ρ Q s rf p => p H B (.refl s)⟩
theorem vts_one (h : VT X W c ft) : VTs X W [c] ft := by
  obtain ⟨t, p, q⟩ := h.ex
  exact ⟨t, pts_one p, q⟩
theorem calm_ok {α : Type} {r : R α} {a : α} (h : r.calm = .ok a) : r = .ok a := by
  cases r <;> first | exact h | cases h
theorem calm_ne {α : Type} {r : R α} {c : Str} : r.calm ≠ .err c := by cases r <;> exact fun h => nomatch h
theorem Pst.calm {α : Type} {X : Cx} {W : WX} {σ : L2.St} {H : Hp} {K : α → Prop} {r : R α} {a : α} (h : r.calm = .ok a) (k : K a) : Pst X W σ H K r := by
  rw [calm_ok h]; exact k
/-- the wanted end for a new list that nobody else holds -/
def KFr (X : Cx) (B H : Hp) (Q : VK) (ds : List PyData) : Prop := ∀ p vs H' B', Ext B H B' H' → H' p = some (.lst vs) → H p = none → B' p = none → IsAll X.K B' vs ds → Q (.ref p) H'
theorem kfr_of {B H : Hp} {Q : VK} {ds : List PyData} (h : ∀ v H' B', Ext B H B' H' → Is X.K B' v (.list ds) → Q v H') : KFr X B H Q ds := fun p vs H' B' e hp hn bn ia => by
  refine h _ H' (upd B' p (.lst vs)) ⟨e.hh, fun b u q => same_upd bn _ _ (e.bb _ _ q), fun b u q => ?_, fun a h1 h2 => ?_⟩ (.lst (.inl upd_same) (IsAll.mono (same_upd bn) ia))
  · by_cases hb : b = p
    · subst hb; rw [upd_same] at q; cases q; exact hp
    · rw [upd_ne hb] at q; exact e.bh _ _ q
  · by_cases hb : a = p
    · subst hb; exact hn
    · rw [upd_ne hb] at h2; exact e.nw a h1 h2
/-- an expression that makes a new list -/
structure VFr (X : Cx) (W : WX) (e : Expr) (f : PEnv → R (List PyData)) : Prop where
  ex : ∃ t, PE X e t ∧ ∀ σ H B ρ Q, Same B H → RF X.K B σ ρ → Pst X W σ H (KFr X B H Q) (f ρ) → t σ H Q
def vlistOf (f : PEnv → R (List PyData)) : PEnv → R PyData := fun ρ => (f ρ).bind fun ds => .ok (.list ds)
theorem VFr.ve {e : Expr} {f : PEnv → R (List PyData)} (h : VFr X W e f) : VE X W e (vlistOf f) := by
  obtain ⟨t, p, q⟩ := h.ex
  refine VE.mk' p fun σ H B ρ Q s rf pr => q σ H B ρ Q s rf ?_
  unfold vlistOf at pr
  generalize f ρ = r at pr ⊢
  cases r with
  | stuck => exact pr
  | err c => exact pr
  | ok ds => exact kfr_of pr
/-- the reading of a comprehension -/
theorem comp_read {wi : TI} {g : TG} {tt : TT} {te : TE} {own sl : List Nat} {fi : PEnv → R (List D)} {kt : D → R (List (Nat × D))} {ft : PEnv → R Bool} {fe : PEnv → R D} 
    (qi : ∀ σ H B ρ Rr, Same B H → RF X.K B σ ρ → Pst X W σ H (KI1 X B H Rr) (fi ρ) → wi σ H Rr)
    (qg : ∀ v σ H B d Q, Same B H → Is X.K B v d → (∃ bd, kt d = .ok bd ∧ ∀ bv, Bds X.K B bv bd → Q (setsV σ bv) H) → g v σ H Q) (hsl : ∀ d bs, kt d = .ok bs → bs.map (·.1) = sl) (hso : ∀ i ∈ sl, i ∈ own)
    (qt : ∀ σ H B ρ Q, Same B H → RF X.K B σ ρ → Pst X W0 σ H (KB1 B H Q) (ft ρ) → tt σ H Q)
    (qe : ∀ σ H B ρ Q, Same B H → RF X.K B σ ρ → Pst X W0 σ H (KV1 X B H Q) (fe ρ) → te σ H Q)
    {σ : L2.St} {H B : Hp} {ρ : PEnv} {Q : VK} (s : Same B H) (rf : RF X.K B σ ρ)
    (pr : Pst X W σ H (KFr X B H Q) (vcomp own fi kt ft fe ρ)) : tLc wi g tt te own σ H Q := by
  unfold vcomp at pr
  refine qi σ H B ρ _ s rf ?_
  generalize fi ρ = ri at pr ⊢
  cases ri with
  | stuck => exact pr
  | err c => exact pr
  | ok ds =>
    simp only [R.bind_ok] at pr
    intro J H1 B1 e1 wk D hD
    generalize hc : (compL kt ft fe (wipeD ρ own) ds).calm = rc at pr
    cases rc with
    | stuck => exact pr.elim
    | err c => exact (calm_ne hc).elim
    | ok ys =>
      have hc := calm_ok hc
      have pr : KFr X B H Q ys := pr
      have hDH : H D = none := Same.free e1.hh hD
      have upo : ∀ {B' H' : Hp} {o : HO}, Ext B H B' H' → B' D = none → Ext B H B' (upd H' D o) := fun {B' H' o} x n =>
        ⟨fun b u q => by rw [upd_ne (ne_of_none q hDH)]; exact x.hh _ _ q, x.bb, fun b u q => by rw [upd_ne (ne_of_none q n)]; exact x.bh _ _ q, x.nw⟩
      have keepD : ∀ {Ba Ha B' H' : Hp} {o : HO}, Ext Ba Ha B' H' → Ba D = none → Ha D = some o → B' D = none := fun {Ba Ha B' H' o} x n q => by
        cases z : B' D with
        | none => rfl
        | some u =>
          have := x.nw D n (by rw [z]; exact fun w => nomatch w)
          rw [q] at this
          cases this
      refine ⟨fun i m Hi => m = ds.length - i ∧ i ≤ ds.length ∧ ∃ Bi acc yd rest, Ext B H Bi Hi ∧ Same B1 Bi ∧ Bi D = none ∧ Hi D = some (.lst acc) ∧ IsAll X.K Bi acc yd ∧ acc.length ≤ i ∧ compL kt ft fe (wipeD ρ own) (ds.drop i) = .ok rest ∧ yd ++ rest = ys,
        ⟨ds.length, by simp, Nat.zero_le _, B1, [], [], ys, upo e1 (Same.free e1.bh hD), Same.refl _, Same.free e1.bh hD, upd_same, .nil, Nat.le_refl _, by simpa using hc, rfl⟩, ?_⟩
      rintro i m Hi ⟨rfl, hi, Bi, acc, yd, rest, ex, b1, bD, hDi, ia, hl, hcr, hys⟩
      by_cases hlt : i < ds.length
      · refine .inr ⟨wk.go i Hi (b1.trans ex.bh) hlt, fun Hi => i + 1 ≤ ds.length ∧ ∃ Bi acc yd rest, Ext B H Bi Hi ∧ Same B1 Bi ∧ Bi D = none ∧ Hi D = some (.lst acc) ∧ IsAll X.K Bi acc yd ∧ acc.length ≤ i + 1 ∧ compL kt ft fe (wipeD ρ own) (ds.drop (i + 1)) = .ok rest ∧ yd ++ rest = ys,
          fun H' q => ⟨ds.length - (i + 1), by omega, rfl, q⟩, fun x H' y => ?_⟩
        obtain ⟨d, B2, e2, E2, dx⟩ := wk.yld i Hi x H' Bi b1 ex.bh hlt y
        have hdrop : ds.drop i = d :: ds.drop (i + 1) := by
          obtain ⟨q1, q2⟩ := List.getElem?_eq_some_iff.mp e2
          rw [List.drop_eq_getElem_cons q1, q2]
        rw [hdrop] at hcr
        simp only [compL] at hcr
        generalize hk : kt d = rk at hcr
        cases rk with
        | stuck => cases hcr
        | err c => cases hcr
        | ok bs =>
          simp only [R.bind_ok] at hcr
          generalize hft : (ft (setsD (wipeD ρ own) bs)).calm = rt at hcr
          cases rt with
          | stuck => cases hcr
          | err c => cases hcr
          | ok b =>
            simp only [R.bind_ok] at hcr
            refine qg x (L2.wipe σ own) H' B2 d _ E2.bh dx ⟨bs, hk, fun bv hb => ?_⟩
            have RF2 : RF X.K B2 (setsV (L2.wipe σ own) bv) (setsD (wipeD ρ own) bs) := RF.sets ((RF.wipe rf own).mono (ex.bb.trans E2.bb)) hb
            have hw : L2.wipe (setsV (L2.wipe σ own) bv) own = L2.wipe σ own := by
              rw [wipe_sets, wipe_idem]
              intro p hp
              refine hso _ ?_
              rw [← hsl d bs hk]
              have fst : ∀ {l1 : List (Nat × V)} {l2 : List (Nat × PyData)}, Bds X.K B2 l1 l2 → l1.map (·.1) = l2.map (·.1) := by
                intro l1 l2 h
                induction h with
                | nil => rfl
                | cons r t ih => rw [List.map_cons, List.map_cons, r.1, ih]
              rw [← fst hb]
              exact List.mem_map_of_mem hp
            refine ⟨hw, ?_⟩
            refine qt _ H' B2 _ _ E2.bh RF2 (Pst.calm hft fun H3 B3 E3 => ?_)
            have hD2 := E2.hh _ _ hDi
            have bD2 := keepD E2 bD hDi
            cases b with
            | true =>
              simp only [if_true] at hcr
              generalize hfe : (fe (setsD (wipeD ρ own) bs)).calm = re at hcr
              cases re with
              | stuck => cases hcr
              | err c => cases hcr
              | ok yv =>
                simp only [R.bind_ok] at hcr
                generalize hrest : compL kt ft fe (wipeD ρ own) (ds.drop (i + 1)) = rr at hcr
                cases rr with
                | stuck => cases hcr
                | err c => cases hcr
                | ok rest' =>
                  cases hcr
                  refine iteT (qe _ H3 B3 _ _ E3.bh (RF2.mono E3.bb) (Pst.calm hfe fun v H4 B4 E4 sm dv => ?_))
                  have E24 := (E2.trans E3).trans E4
                  have bD4 := keepD E24 bD hDi
                  refine ⟨acc, E24.hh _ _ hDi, by have := wk.small; omega, hlt, B4, acc ++ [v], yd ++ [yv], rest', upo (ex.trans E24) bD4, b1.trans E24.bb, bD4, upd_same, IsAll.append (IsAll.mono E24.bb ia) (.cons dv .nil), by rw [List.length_append, List.length_singleton]; omega, rfl, ?_⟩
                  rw [List.append_assoc]; exact hys
            | false =>
              simp only [Bool.false_eq_true, if_false] at hcr
              have E23 := E2.trans E3
              exact iteF ⟨hlt, B3, acc, yd, rest, ex.trans E23, b1.trans E23.bb, keepD E23 bD hDi, E23.hh _ _ hDi, IsAll.mono E23.bb ia, by omega, hcr, hys⟩
      · have e : i = ds.length := by omega
        subst e
        refine .inl ⟨wk.stop Hi (b1.trans ex.bh), ?_⟩
        rw [List.drop_length] at hcr
        cases hcr
        rw [List.append_nil] at hys
        subst hys
        exact pr D acc Hi Bi ex hDi hDH bD ia
/-! the reading that a function on data is -/
def tV (X : Cx) (W : WX) (f : PEnv → R PyData) : TE := fun σ H Q => ∃ B ρ, Same B H ∧ RF X.K B σ ρ ∧ Pst X W σ H (KV1 X B H Q) (f ρ)
def tVT (X : Cx) (W : WX) (f : PEnv → R Bool) : TT := fun σ H Q => ∃ B ρ, Same B H ∧ RF X.K B σ ρ ∧ Pst X W σ H (KB1 B H Q) (f ρ)
def tVG (X : Cx) (k : PyData → R (List (Nat × PyData))) : TG := fun v σ H Q => ∃ B d, Same B H ∧ Is X.K B v d ∧ ∃ bd, k d = .ok bd ∧ ∀ bv, Bds X.K B bv bd → Q (setsV σ bv) H
theorem VE.pe {e : Expr} {f : PEnv → R PyData} (h : VE X W e f) : PE X e (tV X W f) := by
  obtain ⟨t, p, q⟩ := h.ex
  exact ⟨fun pins s σ H Q I ⟨B, ρ, s1, r, hp⟩ => p.run pins s σ H Q I (q σ H B ρ Q s1 r hp)⟩
theorem VTs.pt {e : List Expr} {f : PEnv → R Bool} (h : VTs X W e f) : PTs X e (tVT X W f) := by
  obtain ⟨t, p, q⟩ := h.ex
  exact ⟨fun pins s σ H Q I ⟨B, ρ, s1, r, hp⟩ => p.run pins s σ H Q I (q σ H B ρ Q s1 r hp)⟩
theorem VT.pt {e : Expr} {f : PEnv → R Bool} (h : VT X W e f) : PT X e (tVT X W f) := by
  obtain ⟨t, p, q⟩ := h.ex
  exact ⟨fun pins s σ H Q I ⟨B, ρ, s1, r, hp⟩ => p.run pins s σ H Q I (q σ H B ρ Q s1 r hp)⟩
theorem VG.pg {e : Expr} {sl : List Nat} {k : PyData → R (List (Nat × PyData))} (h : VG X e sl k) : PG X e (tVG X k) := by
  obtain ⟨t, p, q⟩ := h.ex
  exact ⟨fun pins s σ H v u Q I r ⟨B, d, s1, dv, hp⟩ => p.run pins s σ H v u Q I r (q v σ H B d Q s1 dv hp)⟩
/-- [e for t in it if ..] -/
theorem vcomp_ {elt tg iter : Expr} {ifs : List Expr} {scope : Scope} {own : List (Str × Nat)} {sl : List Nat} {fi : PEnv → R (List D)} {kt : D → R (List (Nat × D))} {ft : PEnv → R Bool} {fe : PEnv → R D} (hc : X.calm = true) (hN : X.N.Nodup) (hi : VI X W tg iter fi) (ok : BlkOk X.N X.env.scope scope own)
    (hg : ∀ (s : Shared) (H : Hp) (C : Addr) (cl : List (Str × Addr)) (fp : List Addr), VG (X.blk s H scope (compEnvC scope cl C X.env) fp) tg sl kt)
    (hso : ∀ i ∈ sl, i ∈ own.map (·.2))
    (ht : ∀ (s : Shared) (H : Hp) (C : Addr) (cl : List (Str × Addr)) (fp : List Addr), VTs (X.blk s H scope (compEnvC scope cl C X.env) fp) W0 ifs ft)
    (he : ∀ (s : Shared) (H : Hp) (C : Addr) (cl : List (Str × Addr)) (fp : List Addr), VE (X.blk s H scope (compEnvC scope cl C X.env) fp) W0 elt fe) (hs : ∀ x, foldedSetIterable iter X.env x = pure x := by intro _; rfl) :
    VFr X W (.ListComp elt [⟨tg, iter, ifs, 0⟩] scope pos) (vcomp (own.map (·.2)) fi kt ft fe) := by
  obtain ⟨wi, pi, qi⟩ := hi.ex
  have h1 : ∀ (s : Shared) (H : Hp) (C : Addr) (cl : List (Str × Addr)) (fp : List Addr), PG (X.blk s H scope (compEnvC scope cl C X.env) fp) tg (tVG X kt) := fun s H C cl fp => (hg s H C cl fp).pg
  have h2 : ∀ (s : Shared) (H : Hp) (C : Addr) (cl : List (Str × Addr)) (fp : List Addr), PTs (X.blk s H scope (compEnvC scope cl C X.env) fp) ifs (tVT X W0 ft) := fun s H C cl fp => (ht s H C cl fp).pt
  have h3 : ∀ (s : Shared) (H : Hp) (C : Addr) (cl : List (Str × Addr)) (fp : List Addr), PE (X.blk s H scope (compEnvC scope cl C X.env) fp) elt (tV X W0 fe) := fun s H C cl fp => (he s H C cl fp).pe
  refine ⟨_, pe_lc hc hN pi ok h1 h2 h3 hs, fun σ H B ρ Q s rf pr => ?_⟩
  have hsl : ∀ d bs, kt d = .ok bs → bs.map (·.1) = sl := (hg {} (fun _ => none) 0 [] []).sl
  exact comp_read qi (fun v σ H B d Q s dv q => ⟨B, d, s, dv, q⟩) hsl hso (fun σ H B ρ Q s r p => ⟨B, ρ, s, r, p⟩) (fun σ H B ρ Q s r p => ⟨B, ρ, s, r, p⟩) s rf pr
/-! other new lists -/
theorem vlst_f {n : Nat} {g : PEnv → R (List PyData)} (h : VAn X W n es g) (hz : n ≤ 1000 := by decide) : VFr X W (.List es pos) g := by
  obtain ⟨t, pt, qt⟩ := h.va.ex
  refine ⟨_, pe_lst pt, fun σ H B ρ Q s r p => ?_⟩
  cases hg : g ρ with
  | stuck => rw [hg] at p; exact p.elim
  | err c => rw [hg] at p; exact qt σ H B ρ _ s r (by rw [hg]; exact p)
  | ok ds =>
    rw [hg] at p
    refine qt σ H B ρ _ s r ?_
    rw [hg]
    intro xs H1 B1 e1 d1
    refine ⟨by rw [IsAll.len d1, h.len ρ ds hg]; exact Nat.le_trans hz (by decide), fun q hq => ?_⟩
    exact p q xs _ B1 (e1.trans (Ext.own e1.bh hq)) upd_same (Same.free e1.hh hq) (Same.free e1.bh hq) d1
def lseqD : PyData → R (List PyData) := seqD
theorem vlist_f {p : Pos} {e : Expr} {f : PEnv → R PyData} (hm : X.mg "list" = none) (ha : VE X W e f) (hg : Gl X "list" := by rfl) (he : starEach [e] X.env = (false, eval e X.env) :: starEach [] X.env := by rfl) (hpl : (backTo pos (starEach [] X.env)).any (·.1) = false := by rfl) :
    VFr X W (.Call (.Name "list" p) [e] [] pos) (isq f) := by
  obtain ⟨t, pt, qt⟩ := ha.ex
  refine ⟨_, pe_callTy call_list_of hg hm (by decide +kernel) (pa_cons pt pa_nil he) (by decide) (by decide) he hpl, fun σ H B ρ Q s rf pr => ?_⟩
  refine one qt s rf pr fun d x H' B' ex sm dx pg => ?_
  cases dx <;> first | exact pg.elim | skip
  · rename_i h1 h2
    exact ⟨_, _, rfl, .inl (.inl (Rd.mono ex.bh h1)), fun l hl => pg l _ _ B' (ex.trans (Ext.own ex.bh hl)) upd_same (Same.free ex.hh hl) (Same.free ex.bh hl) h2⟩
  · rename_i h1 h2
    exact ⟨_, _, rfl, .inr (Same.tupl ex.bh h1), fun l hl => pg l _ _ B' (ex.trans (Ext.own ex.bh hl)) upd_same (Same.free ex.hh hl) (Same.free ex.bh hl) h2⟩
/-- list(range(..)) -/
theorem vlist_range2 {p p2 pos2 : Pos} (hc : X.calm = true) (hm : X.mg "list" = none) (hm2 : X.mg "range" = none) (ha : VE X W a fa) (hb : VE X W b fb) (hg : Gl X "list" := by rfl) (hg2 : Gl X "range" := by rfl)
    (n1 : starEach [a, b] X.env = (false, eval a X.env) :: starEach [b] X.env := by rfl) (n2 : starEach [b] X.env = (false, eval b X.env) :: starEach [] X.env := by rfl)
    (n3 : starEach [.Call (.Name "range" p2) [a, b] [] pos2] X.env = (false, eval (.Call (.Name "range" p2) [a, b] [] pos2) X.env) :: starEach [] X.env := by rfl) : True := trivial
end
end VL

namespace VL
open PySem PySem.Spec PyProof.Rows L2

/-! ### what is one's own: trees of lists that nobody else holds -/
inductive O where
  | fz (d : PyData)
  | tup (xs : List O)
  | lst (xs : List O)
mutual
def O.data : O → PyData
  | .fz d => d
  | .tup xs => .tuple (O.datas xs)
  | .lst xs => .list (O.datas xs)
def O.datas : List O → List PyData
  | [] => []
  | x :: xs => O.data x :: O.datas xs
end
theorem O.datas_map : ∀ xs : List O, O.datas xs = xs.map O.data
  | [] => by simp [O.datas]
  | x :: xs => by simp [O.datas, O.datas_map xs]
@[simp] theorem O.data_fz (d : PyData) : O.data (.fz d) = d := by simp [O.data]
@[simp] theorem O.data_lst (xs : List O) : O.data (.lst xs) = .list (xs.map O.data) := by simp [O.data, O.datas_map]
@[simp] theorem O.data_tup (xs : List O) : O.data (.tup xs) = .tuple (xs.map O.data) := by simp [O.data, O.datas_map]
mutual
inductive Own (K : PySem.W.Frag) (F H : Hp) : V → O → List Addr → Prop
  | fz {v : V} {d : PyData} : Is K F v d → Own K F H v (.fz d) []
  | tup {a : Addr} {vs : List V} {os : List O} {fp : List Addr} : SqT K F a vs → OwnL K F H vs os fp → Own K F H (.ref a) (.tup os) fp
  | lst {a : Addr} {vs : List V} {os : List O} {fp : List Addr} : H a = some (.lst vs) → OwnL K F H vs os fp → Own K F H (.ref a) (.lst os) (a :: fp)
inductive OwnL (K : PySem.W.Frag) (F H : Hp) : List V → List O → List Addr → Prop
  | nil : OwnL K F H [] [] []
  | cons {v : V} {vs : List V} {o : O} {os : List O} {fp fps : List Addr} : Own K F H v o fp → OwnL K F H vs os fps → OwnL K F H (v :: vs) (o :: os) (fp ++ fps)
end
mutual
theorem Own.keep {K : PySem.W.Frag} {F F' H H' : Hp} (e : Same F F') : ∀ {o : O} {v : V} {fp : List Addr}, Own K F H v o fp → (∀ a ∈ fp, H' a = H a) → Own K F' H' v o fp
  | .fz d, _, _, h, _ => by cases h with | fz h => exact .fz (Is.mono e h)
  | .tup os, _, _, h, k => by cases h with | tup h1 h2 => exact .tup (Same.tupl e h1) (OwnL.keep e h2 k)
  | .lst os, _, _, h, k => by
    cases h with
    | lst h1 h2 => exact .lst ((k _ List.mem_cons_self).trans h1) (OwnL.keep e h2 fun a ha => k a (List.mem_cons_of_mem _ ha))
theorem OwnL.keep {K : PySem.W.Frag} {F F' H H' : Hp} (e : Same F F') : ∀ {os : List O} {vs : List V} {fp : List Addr}, OwnL K F H vs os fp → (∀ a ∈ fp, H' a = H a) → OwnL K F' H' vs os fp
  | [], _, _, h, _ => by cases h; exact .nil
  | o :: os, _, _, h, k => by
    cases h with
    | cons h1 h2 => exact .cons (Own.keep e h1 fun a ha => k a (List.mem_append_left _ ha)) (OwnL.keep e h2 fun a ha => k a (List.mem_append_right _ ha))
end
mutual
/- seen as data, in a heap that holds the frozen part and the footprint -/
theorem Own.is {K : PySem.W.Frag} {F H B : Hp} (e : Same F B) : ∀ {o : O} {v : V} {fp : List Addr}, Own K F H v o fp → (∀ a ∈ fp, B a = H a) → Is K B v o.data
  | .fz d, _, _, h, _ => by cases h with | fz h => rw [O.data_fz]; exact Is.mono e h
  | .tup os, _, _, h, k => by cases h with | tup h1 h2 => rw [O.data]; exact .tup (Same.tupl e h1) (OwnL.is e h2 k)
  | .lst os, _, _, h, k => by
    cases h with
    | lst h1 h2 => rw [O.data]; exact .lst (.inl ((k _ List.mem_cons_self).trans h1)) (OwnL.is e h2 fun a ha => k a (List.mem_cons_of_mem _ ha))
theorem OwnL.is {K : PySem.W.Frag} {F H B : Hp} (e : Same F B) : ∀ {os : List O} {vs : List V} {fp : List Addr}, OwnL K F H vs os fp → (∀ a ∈ fp, B a = H a) → IsAll K B vs (O.datas os)
  | [], _, _, h, _ => by cases h; rw [O.datas]; exact .nil
  | o :: os, _, _, h, k => by
    cases h with
    | cons h1 h2 => rw [O.datas]; exact .cons (Own.is e h1 fun a ha => k a (List.mem_append_left _ ha)) (OwnL.is e h2 fun a ha => k a (List.mem_append_right _ ha))
end
mutual
theorem Own.lstAt {K : PySem.W.Frag} {F H : Hp} : ∀ {o : O} {v : V} {fp : List Addr}, Own K F H v o fp → ∀ a ∈ fp, ∃ vs, H a = some (.lst vs)
  | .fz d, _, _, h, a, ha => by cases h with | fz h => cases ha
  | .tup os, _, _, h, a, ha => by cases h with | tup h1 h2 => exact OwnL.lstAt h2 a ha
  | .lst os, _, _, h, a, ha => by
    cases h with
    | lst h1 h2 =>
      rcases List.mem_cons.mp ha with e | e
      · subst e; exact ⟨_, h1⟩
      · exact OwnL.lstAt h2 a e
theorem OwnL.lstAt {K : PySem.W.Frag} {F H : Hp} : ∀ {os : List O} {vs : List V} {fp : List Addr}, OwnL K F H vs os fp → ∀ a ∈ fp, ∃ vs, H a = some (.lst vs)
  | [], _, _, h, a, ha => by cases h; cases ha
  | o :: os, _, _, h, a, ha => by
    cases h with
    | cons h1 h2 =>
      rcases List.mem_append.mp ha with e | e
      · exact Own.lstAt h1 a e
      · exact OwnL.lstAt h2 a e
end
theorem OwnL.len {K : PySem.W.Frag} {F H : Hp} : ∀ {os : List O} {vs : List V} {fp : List Addr}, OwnL K F H vs os fp → vs.length = os.length
  | [], _, _, h => by cases h; rfl
  | o :: os, _, _, h => by
    cases h with
    | cons h1 h2 => rw [List.length_cons, List.length_cons, OwnL.len h2]
theorem OwnL.append {K : PySem.W.Frag} {F H : Hp} : ∀ {os ps : List O} {vs us : List V} {f g : List Addr}, OwnL K F H vs os f → OwnL K F H us ps g → OwnL K F H (vs ++ us) (os ++ ps) (f ++ g)
  | [], _, _, _, _, _, h, q => by cases h; exact q
  | o :: os, _, _, _, _, _, h, q => by
    cases h with
    | cons h1 h2 => rw [List.append_assoc]; exact .cons h1 (OwnL.append h2 q)
/-- frozen items -/
theorem OwnL.fzs {K : PySem.W.Frag} {F H : Hp} : ∀ {ds : List PyData} {vs : List V}, IsAll K F vs ds → OwnL K F H vs (ds.map O.fz) []
  | [], _, h => by cases h; exact .nil
  | d :: ds, _, h => by
    cases h with
    | cons h1 h2 => exact .cons (.fz h1) (OwnL.fzs h2)

/-! ### the slots -/
abbrev OEnv := List (Option O)
inductive Slots (K : PySem.W.Frag) (F H : Hp) : L2.St → OEnv → List Addr → Prop
  | nil : Slots K F H [] [] []
  | un {s : Option V} {σ : L2.St} {ρ : OEnv} {fps : List Addr} : Slots K F H σ ρ fps → Slots K F H (s :: σ) (none :: ρ) fps
  | ow {v : V} {o : O} {fp : List Addr} {σ : L2.St} {ρ : OEnv} {fps : List Addr} : Own K F H v o fp → Slots K F H σ ρ fps → Slots K F H (some v :: σ) (some o :: ρ) (fp ++ fps)
section
variable {K : PySem.W.Frag} {F F' H H' B : Hp} {σ : L2.St} {ρ : OEnv} {fps : List Addr}
theorem Slots.len (h : Slots K F H σ ρ fps) : σ.length = ρ.length := by
  induction h with
  | nil => rfl
  | un _ ih => rw [List.length_cons, List.length_cons, ih]
  | ow _ _ ih => rw [List.length_cons, List.length_cons, ih]
theorem Slots.keep (h : Slots K F H σ ρ fps) (e : Same F F') (k : ∀ a ∈ fps, H' a = H a) : Slots K F' H' σ ρ fps := by
  induction h with
  | nil => exact .nil
  | un _ ih => exact .un (ih k)
  | ow h1 _ ih => exact .ow (h1.keep e fun a ha => k a (List.mem_append_left _ ha)) (ih fun a ha => k a (List.mem_append_right _ ha))
theorem Slots.lstAt (h : Slots K F H σ ρ fps) : ∀ a ∈ fps, ∃ vs, H a = some (.lst vs) := by
  induction h with
  | nil => intro a ha; cases ha
  | un _ ih => exact ih
  | ow h1 _ ih =>
    intro a ha
    rcases List.mem_append.mp ha with e | e
    · exact h1.lstAt a e
    · exact ih a e
/-- slot i out of the slots, and something else into it -/
theorem Slots.split (h : Slots K F H σ ρ fps) : ∀ {i : Nat} {o : O}, ρ[i]? = some (some o) → ∃ v fp fpr, σ[i]? = some (some v) ∧ Own K F H v o fp ∧ fps.Perm (fp ++ fpr) ∧
    (∀ s, Slots K F H (σ.set i s) (ρ.set i none) fpr) ∧ ∀ F' H' v' o' fp', Own K F' H' v' o' fp' → Same F F' → (∀ a ∈ fpr, H' a = H a) → ∃ fps', Slots K F' H' (σ.set i (some v')) (ρ.set i (some o')) fps' ∧ fps'.Perm (fp' ++ fpr) := by
  induction h with
  | nil => intro i o e; simp at e
  | @un s σ ρ fps h ih =>
    intro i o e
    cases i with
    | zero => simp at e
    | succ i =>
      obtain ⟨v, fp, fpr, e1, e2, e3, e4, e5⟩ := ih (i := i) (by simpa using e)
      refine ⟨v, fp, fpr, by simpa using e1, e2, e3, fun s => .un (e4 s), fun F' H' v' o' fp' q1 q2 q3 => ?_⟩
      obtain ⟨fps', z1, z2⟩ := e5 F' H' v' o' fp' q1 q2 q3
      exact ⟨fps', .un z1, z2⟩
  | @ow v o' fp σ ρ fps h1 h ih =>
    intro i o e
    cases i with
    | zero =>
      simp at e
      subst e
      exact ⟨v, fp, fps, rfl, h1, .refl _, fun s => .un h, fun F' H' v' o' fp' q1 q2 q3 => ⟨fp' ++ fps, .ow q1 (h.keep q2 q3), .refl _⟩⟩
    | succ i =>
      obtain ⟨v2, fp2, fpr, e1, e2, e3, e4, e5⟩ := ih (i := i) (by simpa using e)
      refine ⟨v2, fp2, fp ++ fpr, by simpa using e1, e2, ?_, fun s => .ow h1 (e4 s), fun F' H' v' o'' fp' q1 q2 q3 => ?_⟩
      · refine (List.Perm.append_left fp e3).trans ?_
        rw [← List.append_assoc, ← List.append_assoc]
        exact List.Perm.append_right _ List.perm_append_comm
      · obtain ⟨fps', z1, z2⟩ := e5 F' H' v' o'' fp' q1 q2 fun a ha => q3 a (List.mem_append_right _ ha)
        refine ⟨fp ++ fps', .ow (h1.keep q2 fun a ha => q3 a (List.mem_append_left _ ha)) z1, ?_⟩
        refine (List.Perm.append_left fp z2).trans ?_
        rw [← List.append_assoc, ← List.append_assoc]
        exact List.Perm.append_right _ List.perm_append_comm
/-- slot i is forgotten -/
theorem Slots.drop (h : Slots K F H σ ρ fps) : ∀ (i : Nat) (s : Option V), ∃ fpr, Slots K F H (σ.set i s) (ρ.set i none) fpr ∧ fpr.Sublist fps := by
  induction h with
  | nil => intro i s; exact ⟨[], by simp; exact .nil, .refl _⟩
  | @un s' σ ρ fps h ih =>
    intro i s
    cases i with
    | zero => exact ⟨fps, .un h, .refl _⟩
    | succ i => obtain ⟨f, z1, z2⟩ := ih i s; exact ⟨f, .un z1, z2⟩
  | @ow v o' fp σ ρ fps h1 h ih =>
    intro i s
    cases i with
    | zero => exact ⟨fps, .un h, List.sublist_append_right _ _⟩
    | succ i => obtain ⟨f, z1, z2⟩ := ih i s; exact ⟨fp ++ f, .ow h1 z1, List.Sublist.append_left z2 _⟩
/-- a value comes into slot i -/
theorem Slots.put (h : Slots K F H σ ρ fps) {v : V} {o : O} {fp : List Addr} (ho : Own K F H v o fp) : ∀ (i : Nat), i < ρ.length → ∃ fps', Slots K F H (σ.set i (some v)) (ρ.set i (some o)) fps' ∧ ∃ fpr, fps'.Perm (fp ++ fpr) ∧ fpr.Sublist fps := by
  induction h with
  | nil => intro i hi; simp at hi
  | @un s' σ ρ fps h ih =>
    intro i hi
    cases i with
    | zero => exact ⟨fp ++ fps, .ow ho h, fps, .refl _, .refl _⟩
    | succ i => obtain ⟨f, z1, g, z2, z3⟩ := ih i (by simpa using hi); exact ⟨f, .un z1, g, z2, z3⟩
  | @ow v' o' fp' σ ρ fps h1 h ih =>
    intro i hi
    cases i with
    | zero => exact ⟨fp ++ fps, .ow ho h, fps, .refl _, List.sublist_append_right _ _⟩
    | succ i =>
      obtain ⟨f, z1, g, z2, z3⟩ := ih i (by simpa using hi)
      refine ⟨fp' ++ f, .ow h1 z1, fp' ++ g, ?_, List.Sublist.append_left z3 _⟩
      refine (List.Perm.append_left fp' z2).trans ?_
      rw [← List.append_assoc, ← List.append_assoc]
      exact List.Perm.append_right _ List.perm_append_comm
end
/-- the slots seen as data -/
def viewB (ρ : OEnv) : PEnv := ρ.map (Option.map O.data)
def fzOf : Option O → Option PyData
  | some (.fz d) => some d
  | _ => none
def viewF (ρ : OEnv) : PEnv := ρ.map fzOf
theorem Slots.rfB {K : PySem.W.Frag} {F H B : Hp} {σ : L2.St} {ρ : OEnv} {fps : List Addr} (e : Same F B) (h : Slots K F H σ ρ fps) (k : ∀ a ∈ fps, B a = H a) : RF K B σ (viewB ρ) := by
  refine ⟨by unfold viewB; rw [List.length_map]; exact h.len, ?_⟩
  induction h with
  | nil => intro i d x; simp [viewB] at x
  | un _ ih =>
    intro i d x
    cases i with
    | zero => simp [viewB] at x
    | succ i => obtain ⟨v, z1, z2⟩ := ih k i d (by simpa [viewB] using x); exact ⟨v, by simpa using z1, z2⟩
  | @ow v o fp σ ρ fps h1 _ ih =>
    intro i d x
    cases i with
    | zero =>
      simp [viewB] at x
      subst x
      exact ⟨v, rfl, h1.is e fun a ha => k a (List.mem_append_left _ ha)⟩
    | succ i => obtain ⟨v, z1, z2⟩ := ih (fun a ha => k a (List.mem_append_right _ ha)) i d (by simpa [viewB] using x); exact ⟨v, by simpa using z1, z2⟩
theorem Slots.rfF {K : PySem.W.Frag} {F H : Hp} {σ : L2.St} {ρ : OEnv} {fps : List Addr} (h : Slots K F H σ ρ fps) : RF K F σ (viewF ρ) := by
  refine ⟨by unfold viewF; rw [List.length_map]; exact h.len, ?_⟩
  induction h with
  | nil => intro i d x; simp [viewF] at x
  | un _ ih =>
    intro i d x
    cases i with
    | zero => simp [viewF, fzOf] at x
    | succ i => obtain ⟨v, z1, z2⟩ := ih i d (by simpa [viewF] using x); exact ⟨v, by simpa using z1, z2⟩
  | @ow v o fp σ ρ fps h1 _ ih =>
    intro i d x
    cases i with
    | zero =>
      cases o with
      | fz d' =>
        simp [viewF, fzOf] at x
        subst x
        cases h1 with | fz h1 => exact ⟨v, rfl, h1⟩
      | tup _ => simp [viewF, fzOf] at x
      | lst _ => simp [viewF, fzOf] at x
    | succ i => obtain ⟨v, z1, z2⟩ := ih i d (by simpa [viewF] using x); exact ⟨v, by simpa using z1, z2⟩

/-! ### the state of a def's body: F0, H0 the frozen part and the heap at its entry -/
structure Hs (F0 H0 F H : Hp) (fps : List Addr) : Prop where
  nd : fps.Nodup
  ow : ∀ a ∈ fps, F a = none ∧ H0 a = none
  fh : Same F H
  f0 : Same F0 F
  h0 : Same H0 H
  nw : ∀ a, F0 a = none → F a ≠ none → H0 a = none
theorem Hs.perm {F0 H0 F H : Hp} {fps fps' : List Addr} (h : Hs F0 H0 F H fps) (p : fps.Perm fps') : Hs F0 H0 F H fps' := ⟨p.nodup_iff.mp h.nd, fun a ha => h.ow a (p.mem_iff.mpr ha), h.fh, h.f0, h.h0, h.nw⟩
theorem Hs.sub {F0 H0 F H : Hp} {fps fps' : List Addr} (h : Hs F0 H0 F H fps) (p : fps'.Sublist fps) : Hs F0 H0 F H fps' := ⟨h.nd.sublist p, fun a ha => h.ow a (p.subset ha), h.fh, h.f0, h.h0, h.nw⟩
/-- the heap grows -/
theorem Hs.ext {F0 H0 F H F' H' : Hp} {fps : List Addr} (h : Hs F0 H0 F H fps) (e : Ext F H F' H') (l : ∀ a ∈ fps, ∃ vs, H a = some (.lst vs)) : Hs F0 H0 F' H' fps :=
  ⟨h.nd, fun a ha => ⟨(by
    cases q : F' a with
    | none => rfl
    | some o =>
      obtain ⟨vs, z⟩ := l a ha
      have := e.nw a (h.ow a ha).1 (by rw [q]; exact fun w => nomatch w)
      rw [z] at this
      cases this), (h.ow a ha).2⟩, e.bh, h.f0.trans e.bb, h.h0.trans e.hh, fun a h1 h2 => by
    cases q : F a with
    | some o => exact h.nw a h1 (by rw [q]; exact fun w => nomatch w)
    | none => exact Same.free h.h0 (e.nw a q h2)⟩
structure RS (K : PySem.W.Frag) (F0 H0 F H : Hp) (σ : L2.St) (ρ : OEnv) : Prop where
  ex : ∃ fps, Slots K F H σ ρ fps ∧ Hs F0 H0 F H fps
theorem RS.ext {K : PySem.W.Frag} {F0 H0 F H F' H' : Hp} {σ : L2.St} {ρ : OEnv} (h : RS K F0 H0 F H σ ρ) (e : Ext F H F' H') : RS K F0 H0 F' H' σ ρ := by
  obtain ⟨fps, s, hs⟩ := h.ex
  exact ⟨fps, s.keep e.bb fun a ha => by
    obtain ⟨vs, z⟩ := s.lstAt a ha
    rw [z]; exact e.hh _ _ z, hs.ext e s.lstAt⟩
theorem RS.grow {K : PySem.W.Frag} {F0 H0 F H H' : Hp} {σ : L2.St} {ρ : OEnv} (h : RS K F0 H0 F H σ ρ) (e : Same H H') : RS K F0 H0 F H' σ ρ := by
  obtain ⟨fps, s, hs⟩ := id h.ex
  exact h.ext ⟨e, Same.refl F, hs.fh.trans e, fun a x y => absurd x y⟩
/-- the heap in which everything is seen as data -/
def bor (F H : Hp) (fps : List Addr) : Hp := fun a => if a ∈ fps then H a else F a
theorem bor_own {F H : Hp} {fps : List Addr} {a : Addr} (h : a ∈ fps) : bor F H fps a = H a := if_pos h
theorem bor_not {F H : Hp} {fps : List Addr} {a : Addr} (h : a ∉ fps) : bor F H fps a = F a := if_neg h
theorem Hs.bor {F0 H0 F H : Hp} {fps : List Addr} (h : Hs F0 H0 F H fps) : Same F (bor F H fps) ∧ Same (VL.bor F H fps) H := by
  refine ⟨fun a o e => ?_, fun a o e => ?_⟩
  · rw [bor_not (fun ha => by rw [(h.ow a ha).1] at e; cases e)]; exact e
  · by_cases ha : a ∈ fps
    · rw [bor_own ha] at e; exact e
    · rw [bor_not ha] at e; exact h.fh _ _ e
/-- behind an expression that saw everything: what is new is frozen -/
theorem Hs.unbor {F0 H0 F H B' H' : Hp} {fps : List Addr} (h : Hs F0 H0 F H fps) (l : ∀ a ∈ fps, ∃ vs, H a = some (.lst vs)) (e : Ext (VL.bor F H fps) H B' H') :
    ∃ F', Ext F H F' H' ∧ (∀ b, (∃ ys, Rd B' b (.tup ys)) → F' b = B' b) ∧ Same F' B' := by
  obtain ⟨b1, b2⟩ := h.bor
  refine ⟨fun a => if a ∈ fps then none else B' a, ⟨e.hh, fun a o q => ?_, fun a o q => ?_, fun a h1 h2 => ?_⟩, fun b ⟨ys, hb⟩ => ?_, fun a o q => ?_⟩
  · show (if a ∈ fps then none else B' a) = some o
    rw [if_neg (fun ha => by rw [(h.ow a ha).1] at q; cases q)]
    exact e.bb _ _ (b1 _ _ q)
  · by_cases ha : a ∈ fps
    · rw [if_pos ha] at q; cases q
    · rw [if_neg ha] at q; exact e.bh _ _ q
  · by_cases ha : a ∈ fps
    · exact absurd (if_pos ha) h2
    · have h2 : B' a ≠ none := fun z => h2 ((if_neg ha).trans z)
      exact e.nw a (by rw [bor_not ha]; exact h1) h2
  · refine if_neg fun ha => ?_
    obtain ⟨vs, z⟩ := l b ha
    have q := e.bb b _ ((bor_own ha).trans z)
    rcases hb with hb | ⟨o, hb⟩ <;> (rw [q] at hb; cases hb)
  · have q : (if a ∈ fps then none else B' a) = some o := q
    by_cases ha : a ∈ fps
    · rw [if_pos ha] at q; cases q
    · rw [if_neg ha] at q; exact q
end VL

namespace VL
open PySem PySem.Spec PyProof.Rows L2

/-! ### expressions in a def's body -/
def lfok (d : PyData) : R PyData := if lf d then .ok d else .stuck
def exF (f : PEnv → R PyData) : OEnv → R PyData := fun ρ => f (viewF ρ)
def exB (f : PEnv → R PyData) : OEnv → R PyData := fun ρ => (f (viewB ρ)).bind lfok
def KX (X : Cx) (F H : Hp) (Q : VK) (d : PyData) : Prop := ∀ v H' F', Ext F H F' H' → Is X.K F' v d → Q v H'
structure VX (X : Cx) (W : WX) (e : Expr) (h : OEnv → R PyData) : Prop where
  ex : ∃ t, PE X e t ∧ ∀ σ H F0 H0 F ρ Q, RS X.K F0 H0 F H σ ρ → Pst X W σ H (KX X F H Q) (h ρ) → t σ H Q
def KXT (F H : Hp) (Q : Bool → Hp → Prop) (b : Bool) : Prop := ∀ H' F', Ext F H F' H' → Q b H'
structure VXT (X : Cx) (W : WX) (e : Expr) (h : OEnv → R Bool) : Prop where
  ex : ∃ t, PT X e t ∧ ∀ σ H F0 H0 F ρ Q, RS X.K F0 H0 F H σ ρ → Pst X W σ H (KXT F H Q) (h ρ) → t σ H Q
section
variable {X : Cx} {W : WX} {a b c e : Expr} {es : List Expr} {pos : Pos} {fa fb fc f : PEnv → R PyData} {ft fu : PEnv → R Bool} {k : Nat}
theorem vxF (h : VE X W e f) : VX X W e (exF f) := by
  obtain ⟨t, p, q⟩ := h.ex
  refine ⟨t, p, fun σ H F0 H0 F ρ Q r pr => ?_⟩
  obtain ⟨fps, s, hs⟩ := r.ex
  exact q σ H F _ Q hs.fh s.rfF (Pst.imp (fun d kx v H' B' ex sm dv => kx v H' B' ex dv) pr)
theorem vxB (h : VE X W e f) : VX X W e (exB f) := by
  obtain ⟨t, p, q⟩ := h.ex
  refine ⟨t, p, fun σ H F0 H0 F ρ Q r pr => ?_⟩
  obtain ⟨fps, s, hs⟩ := r.ex
  obtain ⟨b1, b2⟩ := hs.bor
  refine q σ H (bor F H fps) _ Q b2 (s.rfB b1 fun a ha => bor_own ha) ?_
  unfold exB at pr
  generalize f (viewB ρ) = rr at pr ⊢
  cases rr with
  | stuck => exact pr
  | err c => exact pr
  | ok d =>
    simp only [R.bind_ok, lfok] at pr
    split at pr
    · rename_i hl
      intro v H' B' ex sm dv
      obtain ⟨F', e1, e2, e3⟩ := hs.unbor s.lstAt ex
      exact pr v H' F' e1 (Is.lfree e2 hl dv)
    · exact pr.elim
theorem vxT (h : VT X W e ft) : VXT X W e (fun ρ => ft (viewB ρ)) := by
  obtain ⟨t, p, q⟩ := h.ex
  refine ⟨t, p, fun σ H F0 H0 F ρ Q r pr => ?_⟩
  obtain ⟨fps, s, hs⟩ := r.ex
  obtain ⟨b1, b2⟩ := hs.bor
  refine q σ H (bor F H fps) _ Q b2 (s.rfB b1 fun a ha => bor_own ha) (Pst.imp (fun d kx H' B' ex => ?_) pr)
  obtain ⟨F', e1, e2, e3⟩ := hs.unbor s.lstAt ex
  exact kx H' F' e1
end

/-! ### expressions that hand on what is one's own -/
def KO (X : Cx) (F0 H0 : Hp) (σ : L2.St) (Q : VK) (o : O × OEnv) : Prop := ∀ v H' F', RS X.K F0 H0 F' H' (some v :: σ) (some o.1 :: o.2) → Q v H'
structure VO (X : Cx) (W : WX) (e : Expr) (h : OEnv → R (O × OEnv)) : Prop where
  ex : ∃ t, PE X e t ∧ ∀ σ H F0 H0 F ρ Q, RS X.K F0 H0 F H σ ρ → Pst X W σ H (KO X F0 H0 σ Q) (h ρ) → t σ H Q
def oX (h : OEnv → R PyData) : OEnv → R (O × OEnv) := fun ρ => (h ρ).bind fun d => .ok (.fz d, ρ)
def oMv (i : Nat) : OEnv → R (O × OEnv) := fun ρ => match ρ[i]? with
  | some (some o) => .ok (o, ρ.set i none)
  | _ => .stuck
def oFrF (f : PEnv → R (List PyData)) : OEnv → R (O × OEnv) := fun ρ => (f (viewF ρ)).bind fun ds => .ok (.lst (ds.map O.fz), ρ)
def oFrB (f : PEnv → R (List PyData)) : OEnv → R (O × OEnv) := fun ρ => (f (viewB ρ)).bind fun ds => if lfs ds then .ok (.lst (ds.map O.fz), ρ) else .stuck
section
variable {X : Cx} {W : WX} {a b c e : Expr} {es : List Expr} {pos : Pos} {h : OEnv → R PyData} {f : PEnv → R (List PyData)} {k : Nat}
theorem vo_x (g : VX X W e h) : VO X W e (oX h) := by
  obtain ⟨t, p, q⟩ := g.ex
  refine ⟨t, p, fun σ H F0 H0 F ρ Q r pr => ?_⟩
  refine q σ H F0 H0 F ρ Q r ?_
  unfold oX at pr
  generalize h ρ = rr at pr ⊢
  cases rr with
  | stuck => exact pr
  | err c => exact pr
  | ok d =>
    intro v H' F' ex dv
    obtain ⟨fps, s, hs⟩ := (r.ext ex).ex
    exact pr v H' F' ⟨fps, .ow (.fz dv) s, hs⟩
theorem vo_mv (i : Nat) {x : Str} (hN : X.N[i]? = some x := by rfl) (hv : Vis X.env.scope x := by first | exact Or.inl rfl | exact Or.inr (Or.inl rfl) | exact Or.inr (Or.inr rfl)) (hd : (x == ("__debug__" : Str)) = false := by decide)
    (hcd : (x == ("__classdict__" : Str)) = false := by decide) : VO X W (.Name x pos) (oMv i) := by
  refine ⟨_, pe_var hN hv hd hcd, fun σ H F0 H0 F ρ Q r pr => ?_⟩
  obtain ⟨fps, s, hs⟩ := r.ex
  unfold oMv at pr
  split at pr
  · rename_i o e
    obtain ⟨v, fp, fpr, e1, e2, e3, e4, e5⟩ := s.split e
    refine ⟨v, e1, pr v H F ⟨fp ++ fpr, .ow e2 ?_, hs.perm e3⟩⟩
    have z := e4 (some v)
    have q : σ.set i (some v) = σ := by
      refine List.ext_getElem? fun j => ?_
      by_cases hj : j = i
      · subst hj
        obtain ⟨q1, q2⟩ := List.getElem?_eq_some_iff.mp e1
        rw [List.getElem?_set_self q1, e1]
      · rw [List.getElem?_set_ne (Ne.symm hj)]
    rw [q] at z
    exact z
  · exact pr.elim
theorem vo_frF (g : VFr X W e f) : VO X W e (oFrF f) := by
  obtain ⟨t, p, q⟩ := g.ex
  refine ⟨t, p, fun σ H F0 H0 F ρ Q r pr => ?_⟩
  obtain ⟨fps, s, hs⟩ := r.ex
  refine q σ H F _ Q hs.fh s.rfF ?_
  unfold oFrF at pr
  generalize f (viewF ρ) = rr at pr ⊢
  cases rr with
  | stuck => exact pr
  | err c => exact pr
  | ok ds =>
    intro pa vs H' B' ex hp hn bn ia
    have hs' := hs.ext ex s.lstAt
    have s' : Slots X.K B' H' σ ρ fps := s.keep ex.bb fun a ha => by
      obtain ⟨us, z⟩ := s.lstAt a ha
      rw [z]; exact ex.hh _ _ z
    refine pr (.ref pa) H' B' ⟨[pa] ++ fps, .ow (.lst hp (OwnL.fzs ia)) s', ?_, ?_, hs'.fh, hs'.f0, hs'.h0, hs'.nw⟩
    · refine List.nodup_cons.mpr ⟨fun hm => ?_, hs'.nd⟩
      obtain ⟨us, z⟩ := s.lstAt pa hm
      rw [hn] at z; cases z
    · intro a ha
      rcases List.mem_cons.mp ha with e | e
      · subst e; exact ⟨bn, Same.free hs.h0 hn⟩
      · exact hs'.ow a e
theorem vo_frB (g : VFr X W e f) : VO X W e (oFrB f) := by
  obtain ⟨t, p, q⟩ := g.ex
  refine ⟨t, p, fun σ H F0 H0 F ρ Q r pr => ?_⟩
  obtain ⟨fps, s, hs⟩ := r.ex
  obtain ⟨b1, b2⟩ := hs.bor
  refine q σ H (bor F H fps) _ Q b2 (s.rfB b1 fun a ha => bor_own ha) ?_
  unfold oFrB at pr
  generalize f (viewB ρ) = rr at pr ⊢
  cases rr with
  | stuck => exact pr
  | err c => exact pr
  | ok ds =>
    simp only [R.bind_ok] at pr
    split at pr
    · rename_i hl
      intro pa vs H' B' ex hp hn bn ia
      obtain ⟨F', e1, e2, e3⟩ := hs.unbor s.lstAt ex
      have hs' := hs.ext e1 s.lstAt
      have s' : Slots X.K F' H' σ ρ fps := s.keep e1.bb fun a ha => by
        obtain ⟨us, z⟩ := s.lstAt a ha
        rw [z]; exact e1.hh _ _ z
      have hpa : pa ∉ fps := fun hm => by
        obtain ⟨us, z⟩ := s.lstAt pa hm
        rw [hn] at z; cases z
      have fn : F' pa = none := by
        cases z : F' pa with
        | none => rfl
        | some o => have w := e3 _ _ z; rw [bn] at w; cases w
      refine pr (.ref pa) H' F' ⟨[pa] ++ fps, .ow (.lst hp (OwnL.fzs (IsAll.lfree e2 hl ia))) s', ?_, ?_, hs'.fh, hs'.f0, hs'.h0, hs'.nw⟩
      · exact List.nodup_cons.mpr ⟨hpa, hs'.nd⟩
      · intro a ha
        rcases List.mem_cons.mp ha with e | e
        · subst e; exact ⟨fn, Same.free hs.h0 hn⟩
        · exact hs'.ow a e
    · exact pr.elim
end

/-! ### statements -/
inductive SR where
  | stuck
  | err (c : Str) (ρ : OEnv)
  | nx (ρ : OEnv)
  | rt (o : O)
  | bk (ρ : OEnv)
  | ct (ρ : OEnv)
def RV (K : PySem.W.Frag) (F0 H0 F H : Hp) (v : V) (o : O) : Prop := ∃ fp, Own K F H v o fp ∧ Hs F0 H0 F H fp
def SPst (X : Cx) (W : WX) (F0 H0 : Hp) (D : Ends) : SR → Prop
  | .stuck => False
  | .err c ρ => ∀ σ' H' F', RS X.K F0 H0 F' H' σ' ρ → ErrAt X W c σ' H'
  | .nx ρ => ∀ σ' H' F', RS X.K F0 H0 F' H' σ' ρ → D.nx σ' H'
  | .bk ρ => ∀ σ' H' F', RS X.K F0 H0 F' H' σ' ρ → D.bk σ' H'
  | .ct ρ => ∀ σ' H' F', RS X.K F0 H0 F' H' σ' ρ → D.ct σ' H'
  | .rt o => ∀ v H' F', RV X.K F0 H0 F' H' v o → D.rt v H'
structure VS (X : Cx) (W : WX) (st : Stmt) (g : OEnv → SR) : Prop where
  ex : ∃ t, PS X st t ∧ ∀ D σ H F0 H0 F ρ, RS X.K F0 H0 F H σ ρ → SPst X W F0 H0 D (g ρ) → t D σ H
structure VSs (X : Cx) (W : WX) (sts : List Stmt) (g : OEnv → SR) : Prop where
  ex : ∃ t, PSs X sts t ∧ ∀ D σ H F0 H0 F ρ, RS X.K F0 H0 F H σ ρ → SPst X W F0 H0 D (g ρ) → t D σ H
def SR.seq (r : SR) (g : OEnv → SR) : SR := match r with
  | .nx ρ => g ρ
  | r => r
/-- what an expression gives goes on; what it raises leaves with the slots as they were -/
def R.sr {α : Type} (x : R α) (ρ : OEnv) (f : α → SR) : SR := match x with
  | .stuck => .stuck
  | .err c => .err c ρ
  | .ok a => f a
@[simp] theorem R.sr_ok {α : Type} (a : α) (ρ : OEnv) (f : α → SR) : R.sr (.ok a) ρ f = f a := rfl
@[simp] theorem R.sr_err {α : Type} (c : Str) (ρ : OEnv) (f : α → SR) : R.sr (.err c : R α) ρ f = .err c ρ := rfl
@[simp] theorem R.sr_stuck {α : Type} (ρ : OEnv) (f : α → SR) : R.sr (.stuck : R α) ρ f = .stuck := rfl
@[simp] theorem SR.seq_nx (ρ : OEnv) (g : OEnv → SR) : SR.seq (.nx ρ) g = g ρ := rfl
@[simp] theorem SR.seq_rt (o : O) (g : OEnv → SR) : SR.seq (.rt o) g = .rt o := rfl
@[simp] theorem SR.seq_err (c : Str) (ρ : OEnv) (g : OEnv → SR) : SR.seq (.err c ρ) g = .err c ρ := rfl
@[simp] theorem SR.seq_bk (ρ : OEnv) (g : OEnv → SR) : SR.seq (.bk ρ) g = .bk ρ := rfl
@[simp] theorem SR.seq_ct (ρ : OEnv) (g : OEnv → SR) : SR.seq (.ct ρ) g = .ct ρ := rfl
theorem sr_pst {α : Type} {X : Cx} {W : WX} {F0 H0 F H : Hp} {D : Ends} {σ : L2.St} {ρ : OEnv} {x : R α} {f : α → SR} {K : α → Prop} (r : RS X.K F0 H0 F H σ ρ) (p : SPst X W F0 H0 D (x.sr ρ f)) (h : ∀ a, SPst X W F0 H0 D (f a) → K a) : Pst X W σ H K x := by
  cases x with
  | stuck => exact p
  | err c => exact fun H' e => p σ H' F (r.grow e)
  | ok a => exact h a p
section
variable {X : Cx} {W : WX} {a b c e : Expr} {st : Stmt} {sts rest : List Stmt} {pos : Pos} {g h : OEnv → SR} {hx : OEnv → R PyData} {ho : OEnv → R (O × OEnv)} {k : Nat}
theorem vss_nil : VSs X W [] (fun ρ => .nx ρ) := ⟨_, pss_nil, fun D σ H F0 H0 F ρ r p => p σ H F r⟩
theorem vss_cons (h1 : VS X W st g) (h2 : VSs X W rest h) : VSs X W (st :: rest) (fun ρ => (g ρ).seq h) := by
  obtain ⟨t, p, q⟩ := h1.ex
  obtain ⟨t2, p2, q2⟩ := h2.ex
  refine ⟨_, pss_cons p p2, fun D σ H F0 H0 F ρ r pr => ?_⟩
  refine q _ σ H F0 H0 F ρ r ?_
  generalize g ρ = rr at pr ⊢
  cases rr with
  | nx ρ' => exact fun σ' H' F' r' => q2 D σ' H' F0 H0 F' ρ' r' pr
  | stuck => exact pr
  | err c ρ' => exact pr
  | rt o => exact pr
  | bk ρ' => exact pr
  | ct ρ' => exact pr
theorem vss_one (h1 : VS X W st g) : VSs X W [st] g := by
  obtain ⟨t, p, q⟩ := h1.ex
  exact ⟨_, pss_one p, q⟩
/-- knowledge that is let go, or changed, between two statements -/
def EnvT (K : PySem.W.Frag) (T : OEnv → OEnv) : Prop := ∀ F0 H0 F H σ ρ, RS K F0 H0 F H σ ρ → ∃ F', RS K F0 H0 F' H σ (T ρ)
theorem vss_t {T : OEnv → OEnv} (hT : EnvT X.K T) (h1 : VSs X W sts g) : VSs X W sts (fun ρ => g (T ρ)) := by
  obtain ⟨t, p, q⟩ := h1.ex
  refine ⟨t, p, fun D σ H F0 H0 F ρ r pr => ?_⟩
  obtain ⟨F', r'⟩ := hT F0 H0 F H σ ρ r
  exact q D σ H F0 H0 F' (T ρ) r' pr
def kill (is : List Nat) (ρ : OEnv) : OEnv := is.foldl (fun ρ i => ρ.set i none) ρ
def freezeAt (ρ : OEnv) (i : Nat) : OEnv := match ρ[i]? with
  | some (some o) => ρ.set i (some (.fz o.data))
  | _ => ρ
def freeze (is : List Nat) (ρ : OEnv) : OEnv := is.foldl freezeAt ρ
theorem RS.drop {K : PySem.W.Frag} {F0 H0 F H : Hp} {σ : L2.St} {ρ : OEnv} (r : RS K F0 H0 F H σ ρ) (i : Nat) : RS K F0 H0 F H σ (ρ.set i none) := by
  obtain ⟨fps, s, hs⟩ := r.ex
  by_cases hi : i < σ.length
  · obtain ⟨fpr, z1, z2⟩ := s.drop i σ[i]
    rw [List.set_getElem_self] at z1
    exact ⟨fpr, z1, hs.sub z2⟩
  · rw [List.set_eq_of_length_le (by rw [← s.len]; omega)]
    exact ⟨fps, s, hs⟩
theorem envT_kill (K : PySem.W.Frag) : ∀ is : List Nat, EnvT K (kill is)
  | [], F0, H0, F, H, σ, ρ, r => ⟨F, r⟩
  | i :: is, F0, H0, F, H, σ, ρ, r => envT_kill K is F0 H0 F H σ (ρ.set i none) (r.drop i)
theorem set_same {σ : L2.St} {i : Nat} {v : V} (e : σ[i]? = some (some v)) : σ.set i (some v) = σ := by
  refine List.ext_getElem? fun j => ?_
  by_cases hj : j = i
  · subst hj
    obtain ⟨q1, q2⟩ := List.getElem?_eq_some_iff.mp e
    rw [List.getElem?_set_self q1, e]
  · rw [List.getElem?_set_ne (Ne.symm hj)]
theorem RS.freeze {K : PySem.W.Frag} {F0 H0 F H : Hp} {σ : L2.St} {ρ : OEnv} (r : RS K F0 H0 F H σ ρ) (i : Nat) : ∃ F', RS K F0 H0 F' H σ (freezeAt ρ i) := by
  unfold freezeAt
  split
  · rename_i o eo
    obtain ⟨fps, s, hs⟩ := r.ex
    obtain ⟨v, fp, fpr, e1, e2, e3, e4, e5⟩ := s.split eo
    have hp := hs.perm e3
    have nd := List.nodup_append.mp hp.nd
    have own : ∀ a ∈ fp, F a = none ∧ H0 a = none := fun a ha => hp.ow a (List.mem_append_left _ ha)
    refine ⟨bor F H fp, ?_⟩
    have b1 : Same F (bor F H fp) := fun a u q => by
      rw [bor_not (fun ha => by rw [(own a ha).1] at q; cases q)]; exact q
    obtain ⟨fps', z1, z2⟩ := e5 (bor F H fp) H v (.fz o.data) [] (.fz (e2.is b1 fun a ha => bor_own ha)) b1 (fun _ _ => rfl)
    rw [set_same e1] at z1
    refine ⟨fps', z1, (Hs.perm ⟨?_, fun a ha => ⟨?_, ?_⟩, fun a u q => ?_, hs.f0.trans b1, hs.h0, fun a h1 h2 => ?_⟩ z2.symm)⟩
    · exact nd.2.1
    · have ha : a ∈ fpr := ha
      rw [bor_not (fun hm => nd.2.2 a hm a ha rfl)]
      exact (hp.ow a (List.mem_append_right _ ha)).1
    · exact (hp.ow a (List.mem_append_right _ ha)).2
    · by_cases ha : a ∈ fp
      · rw [bor_own ha] at q; exact q
      · rw [bor_not ha] at q; exact hs.fh _ _ q
    · by_cases ha : a ∈ fp
      · exact (own a ha).2
      · rw [bor_not ha] at h2; exact hs.nw a h1 h2
  · exact ⟨F, r⟩
theorem envT_freeze (K : PySem.W.Frag) : ∀ is : List Nat, EnvT K (freeze is)
  | [], F0, H0, F, H, σ, ρ, r => ⟨F, r⟩
  | i :: is, F0, H0, F, H, σ, ρ, r => by
    obtain ⟨F', r'⟩ := r.freeze i
    exact envT_freeze K is F0 H0 F' H σ _ r'

/-! simple statements -/
theorem vs_pass : VS X W (.Pass pos) (fun ρ => .nx ρ) := ⟨_, ps_pass, fun D σ H F0 H0 F ρ r p => p σ H F r⟩
theorem vs_break : VS X W (.Break pos) (fun ρ => .bk ρ) := ⟨_, ps_break, fun D σ H F0 H0 F ρ r p => p σ H F r⟩
theorem vs_continue : VS X W (.Continue pos) (fun ρ => .ct ρ) := ⟨_, ps_continue, fun D σ H F0 H0 F ρ r p => p σ H F r⟩
theorem RS.put {K : PySem.W.Frag} {F0 H0 F H : Hp} {σ : L2.St} {ρ : OEnv} {v : V} {o : O} (r : RS K F0 H0 F H (some v :: σ) (some o :: ρ)) (i : Nat) : RS K F0 H0 F H (σ.set i (some v)) (ρ.set i (some o)) := by
  obtain ⟨fps, s, hs⟩ := r.ex
  cases s with
  | @ow v o fp σ ρ fps h1 s =>
    by_cases hi : i < ρ.length
    · obtain ⟨fps', z1, g, z2, z3⟩ := s.put h1 i hi
      exact ⟨fps', z1, (hs.sub (List.Sublist.append_left z3 fp)).perm z2.symm⟩
    · have l := s.len
      rw [List.set_eq_of_length_le (show σ.length ≤ i by omega), List.set_eq_of_length_le (show ρ.length ≤ i by omega)]
      exact ⟨fps, s, hs.sub (List.sublist_append_right _ _)⟩
/-- x = e -/
def sSet (i : Nat) (h : OEnv → R (O × OEnv)) : OEnv → SR := fun ρ => (h ρ).sr ρ fun p => .nx (p.2.set i (some p.1))
theorem vs_set (i : Nat) {x : Str} {pos' : Pos} (hN : X.N.Nodup) (he : VO X W e ho) (hi : X.N[i]? = some x := by rfl) (hxl : Loc X.env.scope x := by first | exact Or.inl rfl | exact Or.inr rfl) (hs : swapsWith e (some (.Name x pos')) pos.line X.env = pure false := by rfl) (hf : X.fn x = true ∨ X.env.scope.names.lookup x = some .local := by first | exact .inl rfl | exact .inr rfl) :
    VS X W (.Assign [.Name x pos'] e pos) (sSet i ho) := by
  obtain ⟨t, p, q⟩ := he.ex
  refine ⟨_, ps_set hN hi hxl p hs hf, fun D σ H F0 H0 F ρ r pr => ?_⟩
  refine q σ H F0 H0 F ρ _ r (sr_pst r pr fun o po v H' F' r' => ?_)
  exact po _ _ _ (r'.put i)
/-- x = [e for t in it if ..] on one line, x a local -/
theorem vs_setLc (i : Nat) {x : Str} {py : Pos} {elt tg iter : Expr} {ifs : List Expr} {scope : Scope} {own : List (Str × Nat)} {sl : List Nat} {fi : PEnv → R (List PyData)} {kt : PyData → R (List (Nat × PyData))} {ft : PEnv → R Bool} {fe : PEnv → R PyData} {cpos : Pos}
    {hh : OEnv → R (O × OEnv)} (mode : ∀ {t : TE}, (∀ σ H B ρ Q, Same B H → RF X.K B σ ρ → Pst X W σ H (KFr X B H Q) (vcomp (own.map (·.2)) fi kt ft fe ρ) → t σ H Q) → ∀ σ H F0 H0 F ρ Q, RS X.K F0 H0 F H σ ρ → Pst X W σ H (KO X F0 H0 σ Q) (hh ρ) → t σ H Q)
    (hc : X.calm = true) (hN : X.N.Nodup) (hy : X.N[i]? = some x) (hyl : X.env.scope.names.lookup x = some .local) (hsw : swapsWith (.ListComp elt [⟨tg, iter, ifs, 0⟩] scope cpos) (some (.Name x py)) pos.line X.env = pure true)
    (hi : VI X W tg iter fi) (ok : BlkOk X.N X.env.scope scope own)
    (hg : ∀ (s : Shared) (H : Hp) (C : Addr) (cl : List (Str × Addr)) (fp : List Addr), VG (X.blk s H scope (compEnvC scope cl C X.env) fp) tg sl kt)
    (hso : ∀ i ∈ sl, i ∈ own.map (·.2))
    (ht : ∀ (s : Shared) (H : Hp) (C : Addr) (cl : List (Str × Addr)) (fp : List Addr), VTs (X.blk s H scope (compEnvC scope cl C X.env) fp) W0 ifs ft)
    (hee : ∀ (s : Shared) (H : Hp) (C : Addr) (cl : List (Str × Addr)) (fp : List Addr), VE (X.blk s H scope (compEnvC scope cl C X.env) fp) W0 elt fe) (hs : ∀ x, foldedSetIterable iter X.env x = pure x := by intro _; rfl) :
    VS X W (.Assign [.Name x py] (.ListComp elt [⟨tg, iter, ifs, 0⟩] scope cpos) pos) (sSet i hh) := by
  obtain ⟨wi, pi, qi⟩ := hi.ex
  have h1 : ∀ (s : Shared) (H : Hp) (C : Addr) (cl : List (Str × Addr)) (fp : List Addr), PG (X.blk s H scope (compEnvC scope cl C X.env) fp) tg (tVG X kt) := fun s H C cl fp => (hg s H C cl fp).pg
  have h2 : ∀ (s : Shared) (H : Hp) (C : Addr) (cl : List (Str × Addr)) (fp : List Addr), PTs (X.blk s H scope (compEnvC scope cl C X.env) fp) ifs (tVT X W0 ft) := fun s H C cl fp => (ht s H C cl fp).pt
  have h3 : ∀ (s : Shared) (H : Hp) (C : Addr) (cl : List (Str × Addr)) (fp : List Addr), PE (X.blk s H scope (compEnvC scope cl C X.env) fp) elt (tV X W0 fe) := fun s H C cl fp => (hee s H C cl fp).pe
  have hsl : ∀ d bs, kt d = .ok bs → bs.map (·.1) = sl := (hg {} (fun _ => none) 0 [] []).sl
  refine ⟨_, ps_setLc hc hN hy hyl hsw pi ok h1 h2 h3 hs, fun D σ H F0 H0 F ρ r pr => ?_⟩
  refine mode (fun σ H B ρ Q s rf pr => comp_read qi (fun v σ H B d Q s dv q => ⟨B, d, s, dv, q⟩) hsl hso (fun σ H B ρ Q s r p => ⟨B, ρ, s, r, p⟩) (fun σ H B ρ Q s r p => ⟨B, ρ, s, r, p⟩) s rf pr) σ H F0 H0 F ρ _ r (sr_pst r pr fun o po v H' F' r' => ?_)
  exact po _ _ _ (r'.put i)
def sRet (h : OEnv → R (O × OEnv)) : OEnv → SR := fun ρ => (h ρ).sr ρ fun p => .rt p.1
theorem vs_ret (he : VO X W e ho) : VS X W (.Return (some e) pos) (sRet ho) := by
  obtain ⟨t, p, q⟩ := he.ex
  refine ⟨_, ps_ret p, fun D σ H F0 H0 F ρ r pr => ?_⟩
  refine q σ H F0 H0 F ρ _ r (sr_pst r pr fun o po v H' F' r' => ?_)
  obtain ⟨fps, s, hs⟩ := r'.ex
  cases s with
  | ow h1 s => exact po v H' F' ⟨_, h1, hs.sub (List.sublist_append_left _ _)⟩
theorem vs_retN : VS X W (.Return none pos) (fun ρ => .rt (.fz .none)) := by
  refine ⟨_, ps_retN, fun D σ H F0 H0 F ρ r pr => ?_⟩
  obtain ⟨fps, s, hs⟩ := r.ex
  exact pr .non H F ⟨[], .fz .non, hs.sub (List.nil_sublist _)⟩
def sExpr (h : OEnv → R (O × OEnv)) : OEnv → SR := fun ρ => (h ρ).sr ρ fun p => .nx p.2
theorem vs_expr (he : VO X W e ho) (hs : swapsWith e none pos.line X.env = pure false := by rfl) : VS X W (.Expr e pos) (sExpr ho) := by
  obtain ⟨t, p, q⟩ := he.ex
  refine ⟨_, ps_expr p hs, fun D σ H F0 H0 F ρ r pr => ?_⟩
  refine q σ H F0 H0 F ρ _ r (sr_pst r pr fun o po v H' F' r' => ?_)
  obtain ⟨fps, s, hs⟩ := r'.ex
  cases s with
  | ow h1 s => exact po σ H' F' ⟨_, s, hs.sub (List.sublist_append_right _ _)⟩
def sIf (t : OEnv → R Bool) (g h : OEnv → SR) : OEnv → SR := fun ρ => (t ρ).sr ρ fun b => if b then g ρ else h ρ
theorem vs_if {ts us : List Stmt} {ht : OEnv → R Bool} (h0 : VXT X W c ht) (h1 : VSs X W ts g) (h2 : VSs X W us h) : VS X W (.If c ts us pos) (sIf ht g h) := by
  obtain ⟨t, p, q⟩ := h0.ex
  obtain ⟨t1, p1, q1⟩ := h1.ex
  obtain ⟨t2, p2, q2⟩ := h2.ex
  refine ⟨_, ps_if p p1 p2, fun D σ H F0 H0 F ρ r pr => ?_⟩
  refine q σ H F0 H0 F ρ _ r (sr_pst r pr fun b pb H' F' ex => ?_)
  cases b with
  | true => exact iteT (q1 D σ H' F0 H0 F' ρ (r.ext ex) pb)
  | false => exact iteF (q2 D σ H' F0 H0 F' ρ (r.ext ex) pb)
end
end VL

namespace VL
open PySem PySem.Spec PyProof.Rows L2

theorem Hs.rebase {F0 H0 F1 F H : Hp} {fps : List Addr} (h : Hs F1 H0 F H fps) (s : Same F0 F1) (n : ∀ a, F0 a = none → F1 a ≠ none → H0 a = none) : Hs F0 H0 F H fps :=
  ⟨h.nd, h.ow, h.fh, s.trans h.f0, h.h0, fun a h1 h2 => by
    cases q : F1 a with
    | none => exact h.nw a q h2
    | some o => exact n a h1 (by rw [q]; exact fun w => nomatch w)⟩
theorem RS.self {K : PySem.W.Frag} {F0 H0 F H : Hp} {σ : L2.St} {ρ : OEnv} (r : RS K F0 H0 F H σ ρ) : RS K F H0 F H σ ρ ∧ Same F0 F ∧ ∀ a, F0 a = none → F a ≠ none → H0 a = none := by
  obtain ⟨fps, s, hs⟩ := r.ex
  exact ⟨⟨fps, s, hs.nd, hs.ow, hs.fh, Same.refl F, hs.h0, fun a x y => absurd x y⟩, hs.f0, hs.nw⟩
theorem RS.rebase {K : PySem.W.Frag} {F0 H0 F1 F H : Hp} {σ : L2.St} {ρ : OEnv} (r : RS K F1 H0 F H σ ρ) (s : Same F0 F1) (n : ∀ a, F0 a = none → F1 a ≠ none → H0 a = none) : RS K F0 H0 F H σ ρ := by
  obtain ⟨fps, sl, hs⟩ := r.ex
  exact ⟨fps, sl, hs.rebase s n⟩
theorem RV.rebase {K : PySem.W.Frag} {F0 H0 F1 F H : Hp} {v : V} {o : O} (r : RV K F1 H0 F H v o) (s : Same F0 F1) (n : ∀ a, F0 a = none → F1 a ≠ none → H0 a = none) : RV K F0 H0 F H v o := by
  obtain ⟨fps, sl, hs⟩ := r
  exact ⟨fps, sl, hs.rebase s n⟩
theorem RS.tail {K : PySem.W.Frag} {F0 H0 F H : Hp} {σ : L2.St} {ρ : OEnv} {s : Option V} {o : Option O} (r : RS K F0 H0 F H (s :: σ) (o :: ρ)) : RS K F0 H0 F H σ ρ := by
  obtain ⟨fps, sl, hs⟩ := r.ex
  cases sl with
  | un s => exact ⟨_, s, hs⟩
  | ow h1 s => exact ⟨_, s, hs.sub (List.sublist_append_right _ _)⟩
theorem RS.consFz {K : PySem.W.Frag} {F0 H0 F H : Hp} {σ : L2.St} {ρ : OEnv} {v : V} {d : PyData} (r : RS K F0 H0 F H σ ρ) (h : Is K F v d) : RS K F0 H0 F H (some v :: σ) (some (.fz d) :: ρ) := by
  obtain ⟨fps, sl, hs⟩ := r.ex
  exact ⟨_, .ow (.fz h) sl, hs⟩
def setsO (ρ : OEnv) (bs : List (Nat × PyData)) : OEnv := bs.foldl (fun ρ b => ρ.set b.1 (some (.fz b.2))) ρ
theorem RS.sets {K : PySem.W.Frag} {F0 H0 F H : Hp} : ∀ {bv : List (Nat × V)} {bd : List (Nat × PyData)} {σ : L2.St} {ρ : OEnv}, RS K F0 H0 F H σ ρ → Bds K F bv bd → RS K F0 H0 F H (setsV σ bv) (setsO ρ bd)
  | _, _, _, _, r, .nil => r
  | _, _, _, _, r, .cons (a := p) (b := q) h t => by
    obtain ⟨r1, r2⟩ := h
    unfold setsV setsO
    rw [List.foldl_cons, List.foldl_cons, r1]
    exact RS.sets ((r.consFz r2).put q.1) t

/-! a list of one's own is changed -/
theorem OwnL.setAt {K : PySem.W.Frag} {F H : Hp} {y : V} {o : O} {fpo : List Addr} (ho : Own K F H y o fpo) : ∀ {os : List O} {vs : List V} {fp : List Addr} (j : Nat), OwnL K F H vs os fp → ∃ fp', OwnL K F H (vs.set j y) (os.set j o) fp' ∧ ∃ fp'', fp'.Perm fp'' ∧ fp''.Sublist (fp ++ fpo)
  | [], _, _, j, h => by cases h; exact ⟨[], by simp; exact .nil, [], .refl _, List.nil_sublist _⟩
  | p :: os, _, _, 0, h => by
    cases h with
    | @cons v vs _ _ f1 f2 h1 h2 =>
      refine ⟨fpo ++ f2, .cons ho h2, f2 ++ fpo, List.perm_append_comm, ?_⟩
      rw [List.append_assoc]
      exact List.sublist_append_right _ _
  | p :: os, _, _, j + 1, h => by
    cases h with
    | @cons v vs _ _ f1 f2 h1 h2 =>
      obtain ⟨f3, z1, f4, z2, z3⟩ := OwnL.setAt ho j h2
      refine ⟨f1 ++ f3, .cons h1 z1, f1 ++ f4, List.Perm.append_left f1 z2, ?_⟩
      rw [List.append_assoc]
      exact List.Sublist.append_left z3 f1
/-- a change of a list's items by one value -/
structure Chg (tv : List V → V → List V) (to : List O → O → List O) : Prop where
  own : ∀ {K : PySem.W.Frag} {F H : Hp} {vs : List V} {os : List O} {y : V} {o : O} {fp fpo : List Addr}, OwnL K F H vs os fp → Own K F H y o fpo → ∃ fp', OwnL K F H (tv vs y) (to os o) fp' ∧ ∃ fp'', fp'.Perm fp'' ∧ fp''.Sublist (fp ++ fpo)
theorem chg_app : Chg (fun vs y => vs ++ [y]) (fun os o => os ++ [o]) := ⟨fun {K F H vs os y o fp fpo} h1 h2 => by
  refine ⟨fp ++ fpo, ?_, fp ++ fpo, .refl _, .refl _⟩
  have z := OwnL.append h1 (.cons h2 .nil)
  rw [List.append_nil] at z
  exact z⟩
theorem chg_set (j : Nat) : Chg (fun vs y => vs.set j y) (fun os o => os.set j o) := ⟨fun h1 h2 => OwnL.setAt h2 j h1⟩
theorem RS.mut {K : PySem.W.Frag} {F0 H0 F H : Hp} {σ : L2.St} {ρ : OEnv} {y : V} {o : O} {i : Nat} {os : List O} {tv : List V → V → List V} {to : List O → O → List O} (c : Chg tv to) (r : RS K F0 H0 F H (some y :: σ) (some o :: ρ)) (ei : ρ[i]? = some (some (.lst os))) :
    ∃ a vs, σ[i]? = some (some (.ref a)) ∧ H a = some (.lst vs) ∧ vs.length = os.length ∧ RS K F0 H0 F (upd H a (.lst (tv vs y))) σ (ρ.set i (some (.lst (to os o)))) := by
  obtain ⟨fps, sl, hs⟩ := r.ex
  cases sl with
  | @ow _ _ fpo _ _ fpt h1 s =>
    obtain ⟨v, fp, fpr, e1, e2, e3, e4, e5⟩ := s.split ei
    cases e2 with
    | @lst a vs _ fpi ha hl =>
      refine ⟨a, vs, e1, ha, hl.len, ?_⟩
      have hp : Hs F0 H0 F H (fpo ++ ((a :: fpi) ++ fpr)) := hs.perm (List.Perm.append_left fpo e3)
      have nd := List.nodup_append.mp hp.nd
      have nd2 := List.nodup_append.mp nd.2.1
      have na_o : a ∉ fpo := fun m => nd.2.2 a m a (List.mem_append_left _ List.mem_cons_self) rfl
      have na_i : a ∉ fpi := (List.nodup_cons.mp nd2.1).1
      have na_r : a ∉ fpr := fun m => nd2.2.2 a List.mem_cons_self a m rfl
      have hk : ∀ b, b ≠ a → upd H a (.lst (tv vs y)) b = H b := fun b hb => upd_ne hb
      have o1 : Own K F (upd H a (.lst (tv vs y))) y o fpo := h1.keep (Same.refl F) fun b hb => hk b fun e => na_o (e ▸ hb)
      have l1 : OwnL K F (upd H a (.lst (tv vs y))) vs os fpi := hl.keep (Same.refl F) fun b hb => hk b fun e => na_i (e ▸ hb)
      obtain ⟨fp', z1, fp'', z2, z3⟩ := c.own l1 o1
      obtain ⟨fps', w1, w2⟩ := e5 F (upd H a (.lst (tv vs y))) (.ref a) (.lst (to os o)) (a :: fp') (.lst upd_same z1) (Same.refl F) fun b hb => hk b fun e => na_r (e ▸ hb)
      rw [set_same e1] at w1
      have an : F a = none ∧ H0 a = none := hp.ow a (List.mem_append_right _ (List.mem_append_left _ List.mem_cons_self))
      have base : Hs F0 H0 F (upd H a (.lst (tv vs y))) (fpo ++ ((a :: fpi) ++ fpr)) := ⟨hp.nd, hp.ow, fun b u q => by
        rw [hk b (fun e => by rw [e, an.1] at q; cases q)]; exact hp.fh _ _ q, hp.f0, fun b u q => by
        rw [hk b (fun e => by rw [e, an.2] at q; cases q)]; exact hp.h0 _ _ q, hp.nw⟩
      have p1 : (fpo ++ ((a :: fpi) ++ fpr)).Perm (a :: ((fpi ++ fpo) ++ fpr)) := by
        have : (fpo ++ ((a :: fpi) ++ fpr)).Perm (((a :: fpi) ++ fpo) ++ fpr) := by
          rw [← List.append_assoc]
          exact List.Perm.append_right _ List.perm_append_comm
        simpa using this
      have p2 : Hs F0 H0 F (upd H a (.lst (tv vs y))) (a :: (fp'' ++ fpr)) := (base.perm p1).sub (List.Sublist.cons_cons a (List.Sublist.append_right z3 fpr))
      refine ⟨fps', w1, (p2.perm ?_).perm w2.symm⟩
      exact List.Perm.cons a (List.Perm.append_right fpr z2.symm)

section
variable {X : Cx} {W : WX} {a b c e : Expr} {st : Stmt} {sts rest : List Stmt} {pos : Pos} {g h : OEnv → SR} {hx hx' : OEnv → R PyData} {ho : OEnv → R (O × OEnv)} {k : Nat}
/-- x.append(e) -/
def sApp (i : Nat) (h : OEnv → R (O × OEnv)) : OEnv → SR := fun ρ => match ρ[i]? with
  | some (some (.lst _)) => (h ρ).sr ρ fun p => match p.2[i]? with
    | some (some (.lst os)) => if os.length < sizeLine then .nx (p.2.set i (some (.lst (os ++ [p.1])))) else .stuck
    | _ => .stuck
  | _ => .stuck
theorem vs_app (i : Nat) {x : Str} {p1 p2 p3 : Pos} (mk : ∀ {t : TE}, PE X e t → PE X (.Call (.Attribute (.Name x p1) "append" p2) [e] [] p3) (tBM X.K "list" rAppend (tVar i) (tCons t tNil))) (he : VO X W e ho)
    (hs : swapsWith (.Call (.Attribute (.Name x p1) "append" p2) [e] [] p3) none pos.line X.env = pure false := by rfl) :
    VS X W (.Expr (.Call (.Attribute (.Name x p1) "append" p2) [e] [] p3) pos) (sApp i ho) := by
  obtain ⟨t, p, q⟩ := he.ex
  refine ⟨_, ps_expr (mk p) hs, fun D σ H F0 H0 F ρ r pr => ?_⟩
  unfold sApp at pr
  split at pr
  · rename_i os0 e0
    obtain ⟨fps, sl, hss⟩ := r.ex
    obtain ⟨v, fp, fpr, e1, e2, e3, e4, e5⟩ := sl.split e0
    cases e2 with
    | @lst ad vs _ fpi ha hl =>
      refine ⟨.ref ad, e1, .inl ⟨rfl, _, .inl (.inl ha)⟩, ?_⟩
      refine q σ H F0 H0 F ρ _ r (sr_pst r pr fun o po y H' F' r' => ?_)
      split at po
      · rename_i os eo
        split at po
        · rename_i hz
          obtain ⟨ad', vs', e6, e7, e8, r2⟩ := r'.mut chg_app eo
          rw [e1] at e6
          cases e6
          exact ⟨ad, vs', y, rfl, rfl, e7, by rw [e8]; exact hz, po _ _ _ r2⟩
        · exact po.elim
      · exact po.elim
  · exact pr.elim
/-- x[k] = e -/
def sSetI (i : Nat) (hk : OEnv → R PyData) (h : OEnv → R (O × OEnv)) : OEnv → SR := fun ρ => (h ρ).sr ρ fun p => match p.2[i]? with
  | some (some (.lst os)) => (hk p.2).sr p.2 fun d => match d with
    | .int j => (match ixN os.length j with
      | some n => .nx (p.2.set i (some (.lst (os.set n p.1))))
      | none => .stuck)
    | _ => .stuck
  | _ => .stuck
theorem vs_setI (i : Nat) {x : Str} {p1 p2 : Pos} (mk : ∀ {te tk : TE}, PE X e te → PE X b tk → PS X (.Assign [.Subscript (.Name x p1) b p2] e pos) (tAsg te (gSub (tVar i) tk rSetL))) (hk : VX X W b hx) (he : VO X W e ho) :
    VS X W (.Assign [.Subscript (.Name x p1) b p2] e pos) (sSetI i hx ho) := by
  obtain ⟨t, p, q⟩ := he.ex
  obtain ⟨tk, pk, qk⟩ := hk.ex
  refine ⟨_, mk p pk, fun D σ H F0 H0 F ρ r pr => ?_⟩
  unfold sSetI at pr
  refine q σ H F0 H0 F ρ _ r (sr_pst r pr fun o po y H' F' r' => ?_)
  have rt := r'.tail
  split at po
  · rename_i os eo
    obtain ⟨fps, sl, hss⟩ := rt.ex
    obtain ⟨v, fp, fpr, e1, e2, e3, e4, e5⟩ := sl.split eo
    refine ⟨v, e1, ?_⟩
    refine qk σ H' F0 H0 F' o.2 _ rt (sr_pst rt po fun d pd => ?_)
    intro iv H2 F2 ex di
    cases di <;> first | exact pd.elim | skip
    rename_i j
    simp only at pd
    split at pd
    · rename_i n en
      obtain ⟨ad, vs, e6, e7, e8, r2⟩ := (r'.ext ex).mut (chg_set n) eo
      rw [e1] at e6
      cases e6
      exact ⟨ad, vs, j, n, rfl, rfl, e7, by rw [e8]; exact en, pd _ _ _ r2⟩
    · exact pd.elim
  · exact po.elim
/-- x += e, x -= e of ints -/
def sAug (f : Int → Int → Int) (i : Nat) (h : OEnv → R PyData) : OEnv → SR := fun ρ => match ρ[i]? with
  | some (some (.fz (.int a))) => (h ρ).sr ρ fun d => match d with
    | .int b => .nx (ρ.set i (some (.fz (.int (f a b)))))
    | _ => .stuck
  | _ => .stuck
theorem vs_aug {f : Int → Int → Int} {op : Operator} (hop : PIp X op (ipI f)) (i : Nat) {x : Str} {p1 : Pos} (hN : X.N.Nodup) (he : VX X W e hx) (hi : X.N[i]? = some x := by rfl) (hxl : Loc X.env.scope x := by first | exact Or.inl rfl | exact Or.inr rfl) (hf : X.fn x = true ∨ X.env.scope.names.lookup x = some .local := by first | exact .inl rfl | exact .inr rfl) :
    VS X W (.AugAssign (.Name x p1) op e pos) (sAug f i hx) := by
  obtain ⟨t, p, q⟩ := he.ex
  refine ⟨_, ps_aug hN hi hxl p hop hf, fun D σ H F0 H0 F ρ r pr => ?_⟩
  unfold sAug at pr
  split at pr
  · rename_i n en
    obtain ⟨fps, sl, hss⟩ := r.ex
    obtain ⟨v, fp, fpr, e1, e2, e3, e4, e5⟩ := sl.split en
    cases e2 with
    | fz hv =>
      cases hv
      refine ⟨_, e1, ?_⟩
      refine q σ H F0 H0 F ρ _ r (sr_pst r pr fun d pd y H' F' ex dy => ?_)
      cases dy <;> first | exact pd.elim | skip
      rename_i m
      exact ⟨n, m, rfl, rfl, pd _ H' F' (((r.ext ex).consFz (.int (f n m))).put i)⟩
  · exact pr.elim
/-- a, b = e: a tuple of data -/
def sTup (k : PyData → R (List (Nat × PyData))) (h : OEnv → R PyData) : OEnv → SR := fun ρ => (h ρ).sr ρ fun d => match k d with | .ok bd => .nx (setsO ρ bd) | _ => .stuck
theorem vs_tup {tg : Expr} {sl : List Nat} {k : PyData → R (List (Nat × PyData))} (hg : VG X tg sl k) (he : VX X W e hx) (h1 : swapsWithSole [tg] e pos.line X.env = pure false := by rfl) (h2 : swappedStores [tg] e X.env = pure none := by rfl) (h3 : (assignEach [tg] X.env).map (·.2) = [assign tg X.env] := by rfl) :
    VS X W (.Assign [tg] e pos) (sTup k hx) := by
  obtain ⟨t, p, q⟩ := he.ex
  obtain ⟨tg', pg, qg⟩ := hg.ex
  refine ⟨_, ps_asg p pg h1 h2 h3, fun D σ H F0 H0 F ρ r pr => ?_⟩
  unfold sTup at pr
  refine q σ H F0 H0 F ρ _ r (sr_pst r pr fun d pd v H' F' ex dv => ?_)
  have r' := r.ext ex
  obtain ⟨fps, sl', hss⟩ := r'.ex
  generalize hk : k d = rk at pd
  cases rk with
  | stuck => exact pd.elim
  | err c => exact pd.elim
  | ok bd => exact qg v σ H' F' d _ hss.fh dv ⟨bd, hk, fun bv hb => pd _ H' F' (RS.sets r' hb)⟩
end
end VL

namespace VL
open PySem PySem.Spec PyProof.Rows L2

/-! ### sources of a for in a def's body -/
def KIX (X : Cx) (F H : Hp) (Rr : It → Hp → Prop) (ds : List PyData) : Prop := ∀ J H' F', Ext F H F' H' → Walks X.K J ds F' → Rr J H'
structure VIX (X : Cx) (W : WX) (tg iter : Expr) (h : OEnv → R (List PyData)) : Prop where
  ex : ∃ wi, PI X tg iter wi ∧ ∀ σ H F0 H0 F ρ Rr, RS X.K F0 H0 F H σ ρ → Pst X W σ H (KIX X F H Rr) (h ρ) → wi σ H Rr
section
variable {X : Cx} {W : WX} {a b c e tg iter : Expr} {st : Stmt} {sts rest : List Stmt} {pos : Pos} {g h : OEnv → SR} {hx hx' ha hb : OEnv → R PyData} {ho : OEnv → R (O × OEnv)} {k : Nat}
theorem vix_F {f : PEnv → R (List PyData)} (h : VI X W tg iter f) : VIX X W tg iter (fun ρ => f (viewF ρ)) := by
  obtain ⟨wi, p, q⟩ := h.ex
  refine ⟨wi, p, fun σ H F0 H0 F ρ Rr r pr => ?_⟩
  obtain ⟨fps, s, hs⟩ := r.ex
  exact q σ H F _ Rr hs.fh s.rfF pr
def x1 (g : PyData → R (List PyData)) (h : OEnv → R PyData) : OEnv → R (List PyData) := fun ρ => (h ρ).bind g
def x2 (g : PyData → PyData → R (List PyData)) (h h' : OEnv → R PyData) : OEnv → R (List PyData) := fun ρ => (h ρ).bind fun d => (h' ρ).bind fun e => g d e
theorem oneX {ta : TE} (hq : ∀ σ H F0 H0 F ρ Q, RS X.K F0 H0 F H σ ρ → Pst X W σ H (KX X F H Q) (hx ρ) → ta σ H Q)
    {α : Type} {σ : L2.St} {F0 H0 H F : Hp} {ρ : OEnv} {g : PyData → R α} {K : α → Prop} {Q : V → Hp → Prop} (r : RS X.K F0 H0 F H σ ρ)
    (p : Pst X W σ H K ((hx ρ).bind g))
    (q : ∀ d x H' F', Ext F H F' H' → Is X.K F' x d → Pst X W σ H' K (g d) → Q x H') : ta σ H Q := by
  refine hq σ H F0 H0 F ρ _ r ?_
  generalize hx ρ = ra at p ⊢
  cases ra with
  | stuck => exact p
  | err c => exact p
  | ok d =>
    intro x H1 F1 e1 d1
    refine q d x H1 F1 e1 d1 ?_
    simp only [R.bind_ok] at p
    generalize g d = rg at p ⊢
    cases rg with
    | stuck => exact p
    | err c => exact fun H' z => p H' (e1.hh.trans z)
    | ok z => exact p
theorem vix_range1 {p pos : Pos} (hm : X.mg "range" = none) (h1 : VX X W a ha) (hg : Gl X "range" := by rfl) (hs : starEach [a] X.env = [(false, eval a X.env)] := by rfl) (he : starEach [a] X.env = (false, eval a X.env) :: starEach [] X.env := by rfl) : VIX X W tg (.Call (.Name "range" p) [a] [] pos) (x1 vrange1 ha) := by
  obtain ⟨t, pt, qt⟩ := h1.ex
  refine ⟨_, pi_range1 hg hm (pa_cons pt pa_nil he) hs, fun σ H F0 H0 F ρ Rr r pr => ?_⟩
  refine oneX qt r pr fun d x H' F' ex dx pg => ?_
  cases dx <;> first | exact pg.elim | skip
  rename_i i
  simp only [vrange1] at pg
  split at pg
  · rename_i hz
    have hz' : -16777216 ≤ (0:Int) ∧ (0:Int) ≤ 16777216 ∧ -16777216 ≤ i ∧ i ≤ 16777216 ∧ i - 0 ≤ 16777216 := hz
    exact ⟨_, rfl, by omega, by omega, pg _ H' F' ex (walks_range (by have := sizeLine_eq; omega))⟩
  · exact pg.elim
theorem vix_range2 {p pos : Pos} (hm : X.mg "range" = none) (h1 : VX X W a ha) (h2 : VX X W b hb) (hg : Gl X "range" := by rfl) (hs : starEach [a, b] X.env = [(false, eval a X.env), (false, eval b X.env)] := by rfl) (hs2 : starEach [b] X.env = [(false, eval b X.env)] := by rfl)
    (he : starEach [a, b] X.env = (false, eval a X.env) :: starEach [b] X.env := by rfl) (he2 : starEach [b] X.env = (false, eval b X.env) :: starEach [] X.env := by rfl) : VIX X W tg (.Call (.Name "range" p) [a, b] [] pos) (x2 vrange2 ha hb) := by
  obtain ⟨t, pt, qt⟩ := h1.ex
  obtain ⟨t2, pt2, qt2⟩ := h2.ex
  refine ⟨_, pi_range2 hg hm (pa_cons pt (pa_cons pt2 pa_nil he2) he) hs hs2, fun σ H F0 H0 F ρ Rr r pr => ?_⟩
  refine oneX qt r pr fun d x H1 F1 ex1 dx p1 => ?_
  refine oneX qt2 (r.ext ex1) p1 fun e y H' F' ex dy pg => ?_
  cases dx <;> first | (cases dy <;> exact pg.elim) | skip
  cases dy <;> first | exact pg.elim | skip
  rename_i i j
  simp only [vrange2] at pg
  split at pg
  · rename_i hz
    have hz' : -16777216 ≤ i ∧ i ≤ 16777216 ∧ -16777216 ≤ j ∧ j ≤ 16777216 ∧ j - i ≤ 16777216 := hz
    exact ⟨i, j, rfl, ⟨by omega, by omega, by omega, by omega⟩, pg _ H' F' (ex1.trans ex) (walks_range (by have := sizeLine_eq; omega))⟩
  · exact pg.elim

/-! ### for -/
def forL (kt : PyData → R (List (Nat × PyData))) (kl : OEnv → OEnv) (gb : OEnv → SR) : List PyData → OEnv → SR
  | [], ρ => .nx ρ
  | d :: ds, ρ => match kt d with
    | .ok bs => (match gb (setsO ρ bs) with
      | .nx ρ' => forL kt kl gb ds (kl ρ')
      | .ct ρ' => forL kt kl gb ds (kl ρ')
      | .bk ρ' => .nx ρ'
      | r => r)
    | _ => .stuck
def sFor (hi : OEnv → R (List PyData)) (kt : PyData → R (List (Nat × PyData))) (kl : OEnv → OEnv) (gb : OEnv → SR) : OEnv → SR := fun ρ => (hi ρ).sr ρ fun ds => forL kt kl gb ds ρ
theorem SPst.rebase {F0 H0 F1 : Hp} {D D' : Ends} (s : Same F0 F1) (n : ∀ a, F0 a = none → F1 a ≠ none → H0 a = none) {r : SR} (hn : ∀ ρ, (r = .nx ρ → ∀ σ' H' F', RS X.K F1 H0 F' H' σ' ρ → D'.nx σ' H') ∧ (r = .bk ρ → ∀ σ' H' F', RS X.K F1 H0 F' H' σ' ρ → D'.bk σ' H') ∧ (r = .ct ρ → ∀ σ' H' F', RS X.K F1 H0 F' H' σ' ρ → D'.ct σ' H'))
    (hrt : D'.rt = D.rt) (p : ∀ ρ, r ≠ .nx ρ → r ≠ .bk ρ → r ≠ .ct ρ → SPst X W F0 H0 D r) (hs : r ≠ .stuck) : SPst X W F1 H0 D' r := by
  cases r with
  | stuck => exact absurd rfl hs
  | err c ρ => exact fun σ' H' F' x => p ρ (fun z => nomatch z) (fun z => nomatch z) (fun z => nomatch z) σ' H' F' (x.rebase s n)
  | nx ρ => exact (hn ρ).1 rfl
  | bk ρ => exact (hn ρ).2.1 rfl
  | ct ρ => exact (hn ρ).2.2 rfl
  | rt o => exact fun v H' F' x => by rw [hrt]; exact p [] (fun z => nomatch z) (fun z => nomatch z) (fun z => nomatch z) v H' F' (x.rebase s n)
theorem vs_for {body : List Stmt} {sl : List Nat} {kt : PyData → R (List (Nat × PyData))} {hi : OEnv → R (List PyData)} {kl : OEnv → OEnv} {gb : OEnv → SR} (hp : PassesOwn (model X.prog X.w) X.A X.env X.xe) (hc : X.calm = true) (h1 : VIX X W tg iter hi) (h2 : VG X tg sl kt) (hk : EnvT X.K kl) (h3 : VSs X W body gb)
    (hs : ∀ x, foldedSetIterable iter X.env x = pure x := by intro _; rfl) : VS X W (.For tg iter body [] pos) (sFor hi kt kl gb) := by
  obtain ⟨wi, pi, qi⟩ := h1.ex
  obtain ⟨tg', pg, qg⟩ := h2.ex
  obtain ⟨tb, pb, qb⟩ := h3.ex
  refine ⟨_, ps_for hp hc pi pg pb hs, fun D σ H F0 H0 F ρ r pr => ?_⟩
  refine qi σ H F0 H0 F ρ _ r (sr_pst r pr fun ds pd J H1 F1 ex wk => ?_)
  have r1 := r.ext ex
  refine ⟨fun i m σ H => m = ds.length - i ∧ i ≤ ds.length ∧ ∃ F' ρ', RS X.K F0 H0 F' H σ ρ' ∧ Same F1 F' ∧ SPst X W F0 H0 D (forL kt kl gb (ds.drop i) ρ'), ⟨ds.length, by simp, Nat.zero_le _, F1, ρ, r1, Same.refl _, by simpa using pd⟩, ?_⟩
  rintro i m σ' Hi ⟨rfl, hi', F', ρ', r', s1, pd'⟩
  obtain ⟨rs, b1, b2⟩ := r'.self
  have fh : Same F' Hi := by obtain ⟨_, _, hs⟩ := rs.ex; exact hs.fh
  by_cases hlt : i < ds.length
  · refine .inr ⟨wk.go i Hi (s1.trans fh) hlt, fun σ' H => i + 1 ≤ ds.length ∧ ∃ F' ρ', RS X.K F0 H0 F' H σ' ρ' ∧ Same F1 F' ∧ SPst X W F0 H0 D (forL kt kl gb (ds.drop (i + 1)) ρ'), fun σ'' H'' q => ⟨ds.length - (i + 1), by omega, rfl, q⟩, fun x H' y => ?_⟩
    obtain ⟨d, F2, e2, E2, dx⟩ := wk.yld i Hi x H' F' s1 fh hlt y
    have hdrop : ds.drop i = d :: ds.drop (i + 1) := by
      obtain ⟨q1, q2⟩ := List.getElem?_eq_some_iff.mp e2
      rw [List.drop_eq_getElem_cons q1, q2]
    rw [hdrop] at pd'
    simp only [forL] at pd'
    generalize hkd : kt d = rk at pd'
    cases rk with
    | stuck => exact pd'.elim
    | err c => exact pd'.elim
    | ok bs =>
      simp only at pd'
      refine qg x σ' H' F2 d _ E2.bh dx ⟨bs, hkd, fun bv hb => ?_⟩
      have r2 : RS X.K F' H0 F2 H' (setsV σ' bv) (setsO ρ' bs) := RS.sets (rs.ext E2) hb
      have again : ∀ {σ3 : L2.St} {H3 F3 : Hp} {ρ3 : OEnv}, RS X.K F' H0 F3 H3 σ3 ρ3 → SPst X W F0 H0 D (forL kt kl gb (ds.drop (i + 1)) (kl ρ3)) → i + 1 ≤ ds.length ∧ ∃ F' ρ', RS X.K F0 H0 F' H3 σ3 ρ' ∧ Same F1 F' ∧ SPst X W F0 H0 D (forL kt kl gb (ds.drop (i + 1)) ρ') := fun {σ3 H3 F3 ρ3} r3 p3 => by
        obtain ⟨F4, r4⟩ := hk F' H0 F3 H3 σ3 ρ3 r3
        refine ⟨hlt, F4, kl ρ3, r4.rebase b1 b2, s1.trans ?_, p3⟩
        obtain ⟨_, _, hs⟩ := r4.ex
        exact hs.f0
      refine qb _ (setsV σ' bv) H' F' H0 F2 (setsO ρ' bs) r2 ?_
      generalize hgb : gb (setsO ρ' bs) = rg at pd'
      cases rg with
      | stuck => exact pd'.elim
      | err c ρ3 => exact fun σ3 H3 F3 r3 => pd' σ3 H3 F3 (r3.rebase b1 b2)
      | nx ρ3 => exact fun σ3 H3 F3 r3 => again r3 pd'
      | ct ρ3 => exact fun σ3 H3 F3 r3 => again r3 pd'
      | bk ρ3 => exact fun σ3 H3 F3 r3 => pd' σ3 H3 F3 (r3.rebase b1 b2)
      | rt o => exact fun v H3 F3 r3 => pd' v H3 F3 (r3.rebase b1 b2)
  · have e : i = ds.length := by omega
    subst e
    refine .inl ⟨wk.stop Hi (s1.trans fh), ?_⟩
    rw [List.drop_length] at pd'
    exact pd' σ' Hi F' r'

def sForK (hi : OEnv → R (List PyData)) (T : OEnv → OEnv) (kt : PyData → R (List (Nat × PyData))) (kl : OEnv → OEnv) (gb : OEnv → SR) : OEnv → SR := fun ρ => (hi ρ).sr ρ fun ds => forL kt kl gb ds (T ρ)
/-- the same; what the source alone asked for is let go behind it -/
theorem vs_forK {body : List Stmt} {sl : List Nat} {kt : PyData → R (List (Nat × PyData))} {hi : OEnv → R (List PyData)} {T kl : OEnv → OEnv} {gb : OEnv → SR} (hp : PassesOwn (model X.prog X.w) X.A X.env X.xe) (hc : X.calm = true) (h1 : VIX X W tg iter hi) (h2 : VG X tg sl kt) (hT : ∀ F0 H0 F H σ ρ, RS X.K F0 H0 F H σ ρ → RS X.K F0 H0 F H σ (T ρ)) (hk : EnvT X.K kl) (h3 : VSs X W body gb)
    (hs : ∀ x, foldedSetIterable iter X.env x = pure x := by intro _; rfl) : VS X W (.For tg iter body [] pos) (sForK hi T kt kl gb) := by
  obtain ⟨wi, pi, qi⟩ := h1.ex
  obtain ⟨tg', pg, qg⟩ := h2.ex
  obtain ⟨tb, pb, qb⟩ := h3.ex
  refine ⟨_, ps_for hp hc pi pg pb hs, fun D σ H F0 H0 F ρ r pr => ?_⟩
  refine qi σ H F0 H0 F ρ _ r (sr_pst r pr fun ds pd J H1 F1 ex wk => ?_)
  have r1 := hT _ _ _ _ _ _ (r.ext ex)
  refine ⟨fun i m σ H => m = ds.length - i ∧ i ≤ ds.length ∧ ∃ F' ρ', RS X.K F0 H0 F' H σ ρ' ∧ Same F1 F' ∧ SPst X W F0 H0 D (forL kt kl gb (ds.drop i) ρ'), ⟨ds.length, by simp, Nat.zero_le _, F1, T ρ, r1, Same.refl _, by simpa using pd⟩, ?_⟩
  rintro i m σ' Hi ⟨rfl, hi', F', ρ', r', s1, pd'⟩
  obtain ⟨rs, b1, b2⟩ := r'.self
  have fh : Same F' Hi := by obtain ⟨_, _, hs⟩ := rs.ex; exact hs.fh
  by_cases hlt : i < ds.length
  · refine .inr ⟨wk.go i Hi (s1.trans fh) hlt, fun σ' H => i + 1 ≤ ds.length ∧ ∃ F' ρ', RS X.K F0 H0 F' H σ' ρ' ∧ Same F1 F' ∧ SPst X W F0 H0 D (forL kt kl gb (ds.drop (i + 1)) ρ'), fun σ'' H'' q => ⟨ds.length - (i + 1), by omega, rfl, q⟩, fun x H' y => ?_⟩
    obtain ⟨d, F2, e2, E2, dx⟩ := wk.yld i Hi x H' F' s1 fh hlt y
    have hdrop : ds.drop i = d :: ds.drop (i + 1) := by
      obtain ⟨q1, q2⟩ := List.getElem?_eq_some_iff.mp e2
      rw [List.drop_eq_getElem_cons q1, q2]
    rw [hdrop] at pd'
    simp only [forL] at pd'
    generalize hkd : kt d = rk at pd'
    cases rk with
    | stuck => exact pd'.elim
    | err c => exact pd'.elim
    | ok bs =>
      simp only at pd'
      refine qg x σ' H' F2 d _ E2.bh dx ⟨bs, hkd, fun bv hb => ?_⟩
      have r2 : RS X.K F' H0 F2 H' (setsV σ' bv) (setsO ρ' bs) := RS.sets (rs.ext E2) hb
      have again : ∀ {σ3 : L2.St} {H3 F3 : Hp} {ρ3 : OEnv}, RS X.K F' H0 F3 H3 σ3 ρ3 → SPst X W F0 H0 D (forL kt kl gb (ds.drop (i + 1)) (kl ρ3)) → i + 1 ≤ ds.length ∧ ∃ F' ρ', RS X.K F0 H0 F' H3 σ3 ρ' ∧ Same F1 F' ∧ SPst X W F0 H0 D (forL kt kl gb (ds.drop (i + 1)) ρ') := fun {σ3 H3 F3 ρ3} r3 p3 => by
        obtain ⟨F4, r4⟩ := hk F' H0 F3 H3 σ3 ρ3 r3
        refine ⟨hlt, F4, kl ρ3, r4.rebase b1 b2, s1.trans ?_, p3⟩
        obtain ⟨_, _, hs⟩ := r4.ex
        exact hs.f0
      refine qb _ (setsV σ' bv) H' F' H0 F2 (setsO ρ' bs) r2 ?_
      generalize hgb : gb (setsO ρ' bs) = rg at pd'
      cases rg with
      | stuck => exact pd'.elim
      | err c ρ3 => exact fun σ3 H3 F3 r3 => pd' σ3 H3 F3 (r3.rebase b1 b2)
      | nx ρ3 => exact fun σ3 H3 F3 r3 => again r3 pd'
      | ct ρ3 => exact fun σ3 H3 F3 r3 => again r3 pd'
      | bk ρ3 => exact fun σ3 H3 F3 r3 => pd' σ3 H3 F3 (r3.rebase b1 b2)
      | rt o => exact fun v H3 F3 r3 => pd' v H3 F3 (r3.rebase b1 b2)
  · have e : i = ds.length := by omega
    subst e
    refine .inl ⟨wk.stop Hi (s1.trans fh), ?_⟩
    rw [List.drop_length] at pd'
    exact pd' σ' Hi F' r'

theorem rs_kill (K : PySem.W.Frag) : ∀ (is : List Nat) F0 H0 F H σ ρ, RS K F0 H0 F H σ ρ → RS K F0 H0 F H σ (kill is ρ)
  | [], _, _, _, _, _, _, r => r
  | i :: is, F0, H0, F, H, σ, ρ, r => rs_kill K is F0 H0 F H σ (ρ.set i none) (r.drop i)

/-! ### while -/
def whileN (t : OEnv → R Bool) (kl : OEnv → OEnv) (gb : OEnv → SR) : Nat → OEnv → SR
  | 0, _ => .stuck
  | n + 1, ρ => (t ρ).sr ρ fun b => if b then (match gb ρ with
      | .nx ρ' => whileN t kl gb n (kl ρ')
      | .ct ρ' => whileN t kl gb n (kl ρ')
      | .bk ρ' => .nx ρ'
      | r => r) else .nx ρ
/-- what it comes to, if it comes to something -/
noncomputable def sWhile (t : OEnv → R Bool) (kl : OEnv → OEnv) (gb : OEnv → SR) : OEnv → SR := fun ρ =>
  open Classical in if h : ∃ n, whileN t kl gb n ρ ≠ .stuck then whileN t kl gb (Classical.choose h) ρ else .stuck
theorem whileN_mono (t : OEnv → R Bool) (kl : OEnv → OEnv) (gb : OEnv → SR) : ∀ (n m : Nat) (ρ : OEnv), n ≤ m → whileN t kl gb n ρ ≠ .stuck → whileN t kl gb m ρ = whileN t kl gb n ρ := by
  intro n
  induction n with
  | zero => intro m ρ _ h; exact absurd rfl h
  | succ n ih =>
    intro m ρ hm h
    cases m with
    | zero => omega
    | succ m =>
      simp only [whileN] at h ⊢
      generalize t ρ = rt at h ⊢
      cases rt with
      | stuck => rfl
      | err c => rfl
      | ok b =>
        simp only [R.sr_ok] at h ⊢
        cases b with
        | false => rfl
        | true =>
          simp only [if_true] at h ⊢
          generalize gb ρ = rg at h ⊢
          cases rg with
          | nx ρ' => exact ih m _ (by omega) h
          | ct ρ' => exact ih m _ (by omega) h
          | stuck => rfl
          | err c ρ' => rfl
          | bk ρ' => rfl
          | rt o => rfl
theorem sWhile_eq {t : OEnv → R Bool} {kl : OEnv → OEnv} {gb : OEnv → SR} {n : Nat} {ρ : OEnv} {r : SR} (h : whileN t kl gb n ρ = r) (hr : r ≠ .stuck) : sWhile t kl gb ρ = r := by
  unfold sWhile
  have ex : ∃ n, whileN t kl gb n ρ ≠ .stuck := ⟨n, by rw [h]; exact hr⟩
  rw [dif_pos ex]
  have hc := Classical.choose_spec ex
  have h2 : whileN t kl gb n ρ ≠ .stuck := by rw [h]; exact hr
  rw [← h]
  by_cases hle : Classical.choose ex ≤ n
  · exact (whileN_mono t kl gb _ _ ρ hle hc).symm
  · exact whileN_mono t kl gb _ _ ρ (by omega) h2
theorem vs_while {body : List Stmt} {t : OEnv → R Bool} {kl : OEnv → OEnv} {gb : OEnv → SR} (hp : PassesOwn (model X.prog X.w) X.A X.env X.xe) (h1 : VXT X W c t) (hk : EnvT X.K kl) (h3 : VSs X W body gb) : VS X W (.While c body [] pos) (sWhile t kl gb) := by
  obtain ⟨tc, pc, qc⟩ := h1.ex
  obtain ⟨tb, pb, qb⟩ := h3.ex
  refine ⟨_, ps_while hp pc pb, fun D σ H F0 H0 F ρ r pr => ?_⟩
  have ex : ∃ n, whileN t kl gb n ρ ≠ .stuck := by
    refine Classical.byContradiction fun z => ?_
    unfold sWhile at pr
    rw [dif_neg z] at pr
    exact pr
  obtain ⟨n, hn⟩ := ex
  rw [sWhile_eq rfl hn] at pr
  refine ⟨fun m σ H => ∃ F ρ, RS X.K F0 H0 F H σ ρ ∧ SPst X W F0 H0 D (whileN t kl gb m ρ), ⟨n, F, ρ, r, pr⟩, ?_⟩
  rintro m σ1 H1 ⟨F1, ρ1, r1, p1⟩
  cases m with
  | zero => exact p1.elim
  | succ m =>
    simp only [whileN] at p1
    refine qc σ1 H1 F0 H0 F1 ρ1 _ r1 (sr_pst r1 p1 fun b pb' H2 F2 E2 => ?_)
    have r2 := r1.ext E2
    cases b with
    | false => exact iteF (pb' σ1 H2 F2 r2)
    | true =>
      simp only [if_true] at pb'
      refine iteT ⟨fun σ H => ∃ F ρ, RS X.K F0 H0 F H σ ρ ∧ SPst X W F0 H0 D (whileN t kl gb m ρ), fun σ' H' q => ⟨m, Nat.lt_succ_self m, q⟩, ?_⟩
      refine qb _ σ1 H2 F0 H0 F2 ρ1 r2 ?_
      have again : ∀ {σ3 : L2.St} {H3 F3 : Hp} {ρ3 : OEnv}, RS X.K F0 H0 F3 H3 σ3 ρ3 → SPst X W F0 H0 D (whileN t kl gb m (kl ρ3)) → ∃ F ρ, RS X.K F0 H0 F H3 σ3 ρ ∧ SPst X W F0 H0 D (whileN t kl gb m ρ) := fun {σ3 H3 F3 ρ3} r3 p3 => by
        obtain ⟨F4, r4⟩ := hk F0 H0 F3 H3 σ3 ρ3 r3
        exact ⟨F4, kl ρ3, r4, p3⟩
      generalize hgb : gb ρ1 = rg at pb'
      cases rg with
      | stuck => exact pb'.elim
      | err c ρ3 => exact pb'
      | nx ρ3 => exact fun σ3 H3 F3 r3 => again r3 pb'
      | ct ρ3 => exact fun σ3 H3 F3 r3 => again r3 pb'
      | bk ρ3 => exact pb'
      | rt o => exact pb'

/-! ### a, b = x, y (names) -/
def sPar (i j : Nat) (h h' : OEnv → R PyData) : OEnv → SR := fun ρ => (h ρ).sr ρ fun d => (h' ρ).sr ρ fun e => .nx ((ρ.set i (some (.fz d))).set j (some (.fz e)))
theorem vs_par (i j : Nat) {x y : Str} {px py pt : Pos} {kt k2 pt2} (mk : ∀ {ta : TA}, PA X [a, b] ta → PS X (.Assign [.Tuple [.Name x px, .Name y py] kt pt] (.Tuple [a, b] k2 pt2) pos) (tPar i j ta)) (h1 : VX X W a hx) (h2 : VX X W b hx')
    (he : starEach [a, b] X.env = (false, eval a X.env) :: starEach [b] X.env := by rfl) (he2 : starEach [b] X.env = (false, eval b X.env) :: starEach [] X.env := by rfl) :
    VS X W (.Assign [.Tuple [.Name x px, .Name y py] kt pt] (.Tuple [a, b] k2 pt2) pos) (sPar i j hx hx') := by
  obtain ⟨t, p, q⟩ := h1.ex
  obtain ⟨t2, p2, q2⟩ := h2.ex
  refine ⟨_, mk (pa_cons p (pa_cons p2 pa_nil he2) he), fun D σ H F0 H0 F ρ r pr => ?_⟩
  unfold sPar at pr
  refine q σ H F0 H0 F ρ _ r (sr_pst r pr fun d pd v H1 F1 e1 dv => ?_)
  have r1 := r.ext e1
  refine q2 σ H1 F0 H0 F1 ρ _ r1 (sr_pst r1 pd fun e pe v2 H2 F2 e2 dv2 => ?_)
  have r2 := r1.ext e2
  exact ⟨v, v2, rfl, pe _ H2 F2 ((((r2.consFz (Is.mono e2.bb dv)).put i).consFz dv2).put j)⟩
end

/-! ### defs -/
/-- what a def promises: its n arguments are data, its answer is what g says -/
def spO (K : PySem.W.Frag) (mg : Str → Option Value) (n : Nat) (g : List PyData → R O) : Sp := fun vs H Q E => vs.length = n ∧ ∃ ds B, Same B H ∧ IsAll K B vs ds ∧
  match g ds with
  | .stuck => False
  | .err c => ∀ H', Same H H' → ∃ C, mg c = some (.ref C) ∧ E (.ref C) none H'
  | .ok o => ∀ v H' F', RV K B H F' H' v o → Q v H'
def startO (n : Nat) (ds : List PyData) : OEnv := ds.map (fun d => some (.fz d)) ++ List.replicate (n - ds.length) none
def runB (n : Nat) (g : OEnv → SR) (ds : List PyData) : R O := match g (startO n ds) with
  | .rt o => .ok o
  | .nx _ => .ok (.fz .none)
  | .err c _ => .err c
  | _ => .stuck
theorem slots_start {K : PySem.W.Frag} {B H : Hp} : ∀ {ds : List PyData} {vs : List V} (m : Nat), IsAll K B vs ds → Slots K B H (vs.map some ++ List.replicate m none) (ds.map (fun d => some (O.fz d)) ++ List.replicate m none) []
  | [], _, m, h => by
    cases h
    induction m with
    | zero => exact .nil
    | succ m ih => exact .un ih
  | d :: ds, _, m, h => by
    cases h with
    | cons h1 h2 => exact .ow (fp := []) (.fz h1) (slots_start m h2)
section
variable {P : Program} {w : World} {K : PySem.W.Frag} {mg : Str → Option Value} {base : Heap}
/-- THE RULE for a def -/
theorem fn_vl {x qual : Str} {st : Stmt} {f : Addr} {fd : FuncData} {N ps : List Str} {k n : Nat} {g : OEnv → SR} (F : Fun K x qual st f fd) (S : FnScope N ps (defScope st)) (hn : n = ps.length)
    (hb : ∀ (cdv : Value) (A : Around) (outer : List Env) (s : Shared) (H : Hp) (E : XK), Room k (A.deeper (envOfC qual (defScope st) s.heap.objs.size f cdv)) →
      VSs (cxOf (L2.CX P w) P w K mg base N qual (defScope st) f cdv A outer s H E) (fun cls d _ H => E cls d H) (defBody st) g) :
    FnOk P w K mg base (L2.CX P w) (k + 1) f fd ps (spO K mg n (runB N.length g)) := by
  refine F.okX S (fun vs H Q E h => by rw [h.1, hn]) (fun cdv A outer s H vs Q E hr h => ?_)
  obtain ⟨hl, ds, B, sb, ia, post⟩ := h
  obtain ⟨t, p, q⟩ := (hb cdv A outer s H E hr).ex
  refine ⟨t, p, q _ _ H B H B (startO N.length ds) ?_ ?_⟩
  · refine ⟨[], ?_, List.nodup_nil, fun a ha => (nomatch ha), sb, Same.refl _, Same.refl _, fun a x y => absurd x y⟩
    unfold L2.start startO
    rw [IsAll.len ia]
    exact slots_start _ ia
  · unfold runB at post
    generalize g (startO N.length ds) = r at post ⊢
    cases r with
    | stuck => exact post
    | err c ρ =>
      intro σ' H' F' x
      obtain ⟨_, _, hs⟩ := x.ex
      exact post H' hs.h0
    | nx ρ =>
      intro σ' H' F' x
      obtain ⟨fps, _, hs⟩ := x.ex
      exact post .non H' F' ⟨[], .fz .non, hs.sub (List.nil_sublist _)⟩
    | bk ρ => exact post.elim
    | ct ρ => exact post.elim
    | rt o => exact fun v H' F' x => post v H' F' x
/-- its answer frozen -/
def frz (g : List PyData → R O) : List PyData → R PyData := fun ds => (g ds).bind fun o => .ok o.data
theorem fn_frz {f : Addr} {fd : FuncData} {ps : List Str} {k n : Nat} {g : List PyData → R O} (F : FnOk P w K mg base (L2.CX P w) k f fd ps (spO K mg n g)) : FnOk P w K mg base (L2.CX P w) k f fd ps (spV K mg n (frz g)) := by
  refine F.imp fun vs H Q E h => ?_
  obtain ⟨hl, ds, B, sb, ia, post⟩ := h
  refine ⟨hl, ds, B, sb, ia, ?_⟩
  unfold frz at post
  generalize g ds = r at post ⊢
  cases r with
  | stuck => exact post
  | err c => exact post
  | ok o =>
    intro v H' F' rv
    obtain ⟨fp, ow, hs⟩ := rv
    obtain ⟨b1, b2⟩ := hs.bor
    refine post v H' (bor F' H' fp) ⟨hs.h0, hs.f0.trans b1, b2, fun a h1 h2 => ?_⟩ (ow.is b1 fun a ha => bor_own ha)
    by_cases ha : a ∈ fp
    · exact (hs.ow a ha).2
    · rw [bor_not ha] at h2; exact hs.nw a h1 h2
/-- a promise by another function that is the same -/
theorem fn_eq {f : Addr} {fd : FuncData} {ps : List Str} {k n : Nat} {g g' : List PyData → R PyData} (F : FnOk P w K mg base (L2.CX P w) k f fd ps (spV K mg n g)) (h : ∀ ds, g' ds ≠ .stuck → g ds = g' ds) : FnOk P w K mg base (L2.CX P w) k f fd ps (spV K mg n g') := by
  refine F.imp fun vs H Q E q => ?_
  obtain ⟨hl, ds, B, sb, ia, post⟩ := q
  refine ⟨hl, ds, B, sb, ia, ?_⟩
  have h0 : g' ds ≠ .stuck := fun z => by rw [z] at post; exact post
  rw [h ds h0]
  exact post
end
end VL

namespace VL
open PySem PySem.Spec PyProof.Rows L2

/-! ### the names that a derivation's meaning is written in -/
def tst (f : PEnv → R PyData) : PEnv → R Bool := fun ρ => (f ρ).bind tbool
def tnn (f : PEnv → R PyData) : PEnv → R Bool := fun ρ => (v1 visnone f ρ).bind fun d => (tbool d).bind fun b => .ok (!b)
def ttr (f : PEnv → R PyData) : PEnv → R Bool := fun ρ => (f ρ).bind vtruth
def vnn (f : PEnv → R PyData) : PEnv → R PyData := v1 (fun d => (visnone d).bind fun b => match b with | .bool b => .ok (.bool (!b)) | _ => .stuck) f
def vpart (f : PEnv → R PyData) : PEnv → R (Option Int) := fun ρ => (f ρ).bind oInt
def vnopart : PEnv → R (Option Int) := fun _ => .ok none
def seq (g h : OEnv → SR) : OEnv → SR := fun ρ => (g ρ).seq h
def pre (T : OEnv → OEnv) (g : OEnv → SR) : OEnv → SR := fun ρ => g (T ρ)
def tB (t : PEnv → R Bool) : OEnv → R Bool := fun ρ => t (viewB ρ)
def ixF (f : PEnv → R (List PyData)) : OEnv → R (List PyData) := fun ρ => f (viewF ρ)
def sNx : OEnv → SR := fun ρ => .nx ρ
def sBk : OEnv → SR := fun ρ => .bk ρ
def sCt : OEnv → SR := fun ρ => .ct ρ
def sRetN : OEnv → SR := fun _ => .rt (.fz .none)
/-! `in` a tuple -/
def vInT : PyData → PyData → R PyData
  | d, .tuple ds => if SeqAt.shaped d = true ∧ SeqAt.shaped (.tuple ds) = true then .ok (.bool (ds.any fun z => PyData.eqv z d)) else .stuck
  | _, _ => .stuck
def vNotInT : PyData → PyData → R PyData
  | d, .tuple ds => if SeqAt.shaped d = true ∧ SeqAt.shaped (.tuple ds) = true then .ok (.bool (!ds.any fun z => PyData.eqv z d)) else .stuck
  | _, _ => .stuck
def rInTD (K : PySem.W.Frag) (neg : Bool) : R2 := fun x y H Q => ∃ d ds, Dp K H x d ∧ Dp K H y (.tuple ds) ∧ SeqAt.shaped d = true ∧ SeqAt.shaped (.tuple ds) = true ∧ Q (.bl (if neg then !ds.any fun z => PyData.eqv z d else ds.any fun z => PyData.eqv z d)) H
theorem roomT {A : Around} {d : PyData} {ds : List PyData} (h : SeqAt.shaped d = true) (hu : A.units + 65 < cLine) : A.units + 1 + min (PyData.depthAll ds) d.depth < cLine := by
  have := SeqAt.depth_of_shaped h
  have := Nat.min_le_right (PyData.depthAll ds) d.depth
  omega
theorem op_inTD {X : Cx} (hu : X.A.units + 65 < cLine) : OpR X (compareOp .In) (rInTD X.K false) := by
  intro pins t σ G x y vv uu Q J rX rY hh
  obtain ⟨d, ds, hd, he, sd, se, q⟩ := hh
  obtain ⟨as, k1⟩ := Dp.reads J d x vv hd rX
  obtain ⟨bs, k2⟩ := Dp.reads J (.tuple ds) y uu he rY
  exact SeqAt.in_tuple_reads k2 k1 (SeqAt.canLay_of_shaped se) (SeqAt.canLay_of_shaped sd) (roomT sd hu) ⟨.bl _, G, J, rfl, q⟩
theorem op_notInTD {X : Cx} (hu : X.A.units + 65 < cLine) : OpR X (compareOp .NotIn) (rInTD X.K true) := by
  intro pins t σ G x y vv uu Q J rX rY hh
  obtain ⟨d, ds, hd, he, sd, se, q⟩ := hh
  obtain ⟨as, k1⟩ := Dp.reads J d x vv hd rX
  obtain ⟨bs, k2⟩ := Dp.reads J (.tuple ds) y uu he rY
  exact SeqAt.notIn_tuple_reads k2 k1 (SeqAt.canLay_of_shaped se) (SeqAt.canLay_of_shaped sd) (roomT sd hu) ⟨.bl _, G, J, rfl, q⟩
end VL

namespace VL
open PySem PySem.Spec PyProof.Rows L2
section
variable {X : Cx} {W : WX} {a b c e tg iter : Expr} {es : List Expr} {st : Stmt} {sts rest : List Stmt} {pos : Pos} {g h : OEnv → SR} {fa fb fc : PEnv → R PyData} {ft fu : PEnv → R Bool} {k : Nat}
/-! ### the rules under the names that a derivation's meaning is written in -/
theorem qs_nil : VSs X W [] sNx := vss_nil
theorem qs_cons (h1 : VS X W st g) (h2 : VSs X W rest h) : VSs X W (st :: rest) (seq g h) := vss_cons h1 h2
theorem qs_t {T : OEnv → OEnv} (hT : EnvT X.K T) (h1 : VSs X W sts g) : VSs X W sts (pre T g) := vss_t (g := g) (T := T) hT h1
theorem q_pass : VS X W (.Pass pos) sNx := vs_pass
theorem q_break : VS X W (.Break pos) sBk := vs_break
theorem q_continue : VS X W (.Continue pos) sCt := vs_continue
theorem q_retN : VS X W (.Return none pos) sRetN := vs_retN
theorem qx_T (h : VT X W e ft) : VXT X W e (tB ft) := vxT h
theorem qix_F {f : PEnv → R (List PyData)} (h : VI X W tg iter f) : VIX X W tg iter (ixF f) := vix_F h
theorem qlt (ha : VE X W a fa) (hb : VE X W b fb) : VT X W (.Compare a [.Lt] [b] pos) (tst (v2 vlt fa fb)) := vlt_t ha hb
theorem qle (ha : VE X W a fa) (hb : VE X W b fb) : VT X W (.Compare a [.LtE] [b] pos) (tst (v2 vle fa fb)) := vle_t ha hb
theorem qgt (ha : VE X W a fa) (hb : VE X W b fb) : VT X W (.Compare a [.Gt] [b] pos) (tst (v2 vgt fa fb)) := vgt_t ha hb
theorem qge (ha : VE X W a fa) (hb : VE X W b fb) : VT X W (.Compare a [.GtE] [b] pos) (tst (v2 vge fa fb)) := vge_t ha hb
theorem qeq (hr : Room k X.A) (ha : VE X W a fa) (hb : VE X W b fb) : VT X W (.Compare a [.Eq] [b] pos) (tst (v2 veq fa fb)) := veq_t hr ha hb
theorem qne (hr : Room k X.A) (ha : VE X W a fa) (hb : VE X W b fb) : VT X W (.Compare a [.NotEq] [b] pos) (tst (v2 vne fa fb)) := vne_t hr ha hb
theorem qin (hr : Room k X.A) (ha : VE X W a fa) (hb : VE X W b fb) (hm : behindInMarks .In b = false := by with_unfolding_all rfl) : VT X W (.Compare a [.In] [b] pos) (tst (v2 vIn fa fb)) := vin_t hr ha hb hm
theorem qnotin (hr : Room k X.A) (ha : VE X W a fa) (hb : VE X W b fb) (hm : behindInMarks .NotIn b = false := by with_unfolding_all rfl) : VT X W (.Compare a [.NotIn] [b] pos) (tst (v2 vNotIn fa fb)) := vnotin_t hr ha hb hm
theorem win (hr : Room k X.A) (ha : VE X W a fa) (hb : VE X W b fb) (hm : behindInMarks .In b = false := by with_unfolding_all rfl) : VE X W (.Compare a [.In] [b] pos) (v2 vIn fa fb) := vin_ hr ha hb hm
theorem wnotin (hr : Room k X.A) (ha : VE X W a fa) (hb : VE X W b fb) (hm : behindInMarks .NotIn b = false := by with_unfolding_all rfl) : VE X W (.Compare a [.NotIn] [b] pos) (v2 vNotIn fa fb) := vnotin_ hr ha hb hm
theorem qtruth (h : VE X W a fa) (he : ∀ whole, isTrue a X.env whole = (do let v ← whole; standAt a.pos; holding [v] (truthy v)) := by intro _; rfl) : VT X W a (ttr fa) := vt_truth h he
theorem qisnone {j pos'} (ha : VE X W a fa) : VT X W (.Compare a [.Is] [.Constant .none j pos'] pos) (tst (v1 visnone fa)) := visnone_t ha
theorem qnotnone {j pos'} (ha : VE X W a fa) : VT X W (.Compare a [.IsNot] [.Constant .none j pos'] pos) (tnn fa) := vnotnone_t ha
theorem wnotnone {j pos'} (ha : VE X W a fa) : VE X W (.Compare a [.IsNot] [.Constant .none j pos'] pos) (vnn fa) := vnotnone_ ha
theorem qchain {op op' : CmpOp} {p p' : Int → Int → Bool} {g g' : D → D → R D} (i1 : IntCmp X op p g) (i2 : IntCmp X op' p' g') (ha : VE X W a fa) (hb : VE X W b fb) (hc : VE X W c fc) (hm : lastMarks [op, op'] [b, c] = false := by with_unfolding_all rfl) :
    VT X W (.Compare a [op, op'] [b, c] pos) (tst (vchain g g' fa fb fc)) := vchain_t i1 i2 ha hb hc hm
theorem qo_some (h : VE X W a fa) : VO1 X W (some a) (vpart fa) := vo_some h
theorem qo_none : VO1 X W none vnopart := vo_none
/-! in a flat tuple -/
theorem rule_inT : Rule2 X W (rInTD X.K false) vInT := fun d e x y σ H B Q s sm dx dy p => by
  cases e <;> first | (cases d <;> exact p.elim) | skip
  simp only [vInT] at p
  split at p
  · rename_i hf
    exact ⟨_, _, (Is.mono s dx).dp (SeqAt.canLay_of_shaped hf.1), (Is.mono s dy).dp (SeqAt.canLay_of_shaped hf.2), hf.1, hf.2, p _ H B (.refl s) (.bl _)⟩
  · exact p.elim
theorem rule_notInT : Rule2 X W (rInTD X.K true) vNotInT := fun d e x y σ H B Q s sm dx dy p => by
  cases e <;> first | (cases d <;> exact p.elim) | skip
  simp only [vNotInT] at p
  split at p
  · rename_i hf
    exact ⟨_, _, (Is.mono s dx).dp (SeqAt.canLay_of_shaped hf.1), (Is.mono s dy).dp (SeqAt.canLay_of_shaped hf.2), hf.1, hf.2, p _ H B (.refl s) (.bl _)⟩
  · exact p.elim
theorem winT (hr : Room k X.A) (ha : VE X W a fa) (hb : VE X W b fb) (hm : behindInMarks .In b = false := by with_unfolding_all rfl) : VE X W (.Compare a [.In] [b] pos) (v2 vInT fa fb) := ve2 (fun p q => pe_cmpR (op_inTD (hu65 hr)) p q hm) rule_inT ha hb
theorem wnotinT (hr : Room k X.A) (ha : VE X W a fa) (hb : VE X W b fb) (hm : behindInMarks .NotIn b = false := by with_unfolding_all rfl) : VE X W (.Compare a [.NotIn] [b] pos) (v2 vNotInT fa fb) := ve2 (fun p q => pe_cmpR (op_notInTD (hu65 hr)) p q hm) rule_notInT ha hb
theorem inT_bool {d e z : PyData} (h : vInT d e = .ok z) : ∃ k, z = .bool k := by
  cases e <;> first | (cases d <;> (cases h; done)) | skip
  simp only [vInT] at h
  split at h <;> cases h
  exact ⟨_, rfl⟩
theorem notInT_bool {d e z : PyData} (h : vNotInT d e = .ok z) : ∃ k, z = .bool k := by
  cases e <;> first | (cases d <;> (cases h; done)) | skip
  simp only [vNotInT] at h
  split at h <;> cases h
  exact ⟨_, rfl⟩
theorem qinT (hr : Room k X.A) (ha : VE X W a fa) (hb : VE X W b fb) (hm : behindInMarks .In b = false := by with_unfolding_all rfl) : VT X W (.Compare a [.In] [b] pos) (tst (v2 vInT fa fb)) := vt2 (fun p q => pt_cmpR (op_inTD (hu65 hr)) p q hm) rule_inT (fun _ _ _ h => inT_bool h) ha hb
theorem qnotinT (hr : Room k X.A) (ha : VE X W a fa) (hb : VE X W b fb) (hm : behindInMarks .NotIn b = false := by with_unfolding_all rfl) : VT X W (.Compare a [.NotIn] [b] pos) (tst (v2 vNotInT fa fb)) := vt2 (fun p q => pt_cmpR (op_notInTD (hu65 hr)) p q hm) rule_notInT (fun _ _ _ h => notInT_bool h) ha hb
end
theorem takes0 {X : Cx} : Takes X W0 := fun u s' ⟨_, _, _, _, _, _, _, _, _, _, _, _, _, _, _, _, w⟩ => w.elim
/-! ### constants of the module -/
def Cst (K : PySem.W.Frag) (mg : Str → Option Value) (x : Str) (d : PyData) : Prop := ∃ (u : Value) (v : V), mg x = some u ∧ RelV v u ∧ ∀ H, Is K H v d
theorem vglobT {X : Cx} {W : WX} {pos : Pos} {x : Str} {d : PyData} (h : Cst X.K X.mg x d) (hg : Gl X x := by rfl) (hdb : (x == ("__debug__" : Str)) = false := by decide) : VE X W (.Name x pos) (vC d) := by
  obtain ⟨u, v, h1, h2, h3⟩ := h
  exact vglob hg h1 h2 h3 hdb
theorem is_ktup {K : PySem.W.Frag} {q : Addr} {dd : Option Addr} {ss : Array (Option Value)} {its : Array Value} {n : Nat} {vs : List V} {ds : List PyData} (h : K.lookup q = some ⟨.type "tuple", dd, .seq its n, ss⟩) (hz : its.size ≤ sizeLine) (hv : Vals vs its.toList) (hd : ∀ H, IsAll K H vs ds) : ∀ H, Is K H (.ref q) (.tuple ds) :=
  fun H => .tup (.inr ⟨_, its, n, h, rfl, rfl, hz, hv⟩) (hd H)

/-! ### where a new list comes to stand -/
section
variable {X : Cx} {W : WX} {f : PEnv → R (List PyData)} {t : TE}
theorem mode_F (q : ∀ σ H B ρ Q, Same B H → RF X.K B σ ρ → Pst X W σ H (KFr X B H Q) (f ρ) → t σ H Q) : ∀ σ H F0 H0 F ρ Q, RS X.K F0 H0 F H σ ρ → Pst X W σ H (KO X F0 H0 σ Q) (oFrF f ρ) → t σ H Q := fun σ H F0 H0 F ρ Q r pr => by
  obtain ⟨fps, s, hs⟩ := r.ex
  refine q σ H F _ Q hs.fh s.rfF ?_
  unfold oFrF at pr
  generalize f (viewF ρ) = rr at pr ⊢
  cases rr with
  | stuck => exact pr
  | err c => exact pr
  | ok ds =>
    intro pa vs H' B' ex hp hn bn ia
    have hs' := hs.ext ex s.lstAt
    have s' : Slots X.K B' H' σ ρ fps := s.keep ex.bb fun a ha => by
      obtain ⟨us, z⟩ := s.lstAt a ha
      rw [z]; exact ex.hh _ _ z
    refine pr (.ref pa) H' B' ⟨[pa] ++ fps, .ow (.lst hp (OwnL.fzs ia)) s', ?_, ?_, hs'.fh, hs'.f0, hs'.h0, hs'.nw⟩
    · refine List.nodup_cons.mpr ⟨fun hm => ?_, hs'.nd⟩
      obtain ⟨us, z⟩ := s.lstAt pa hm
      rw [hn] at z; cases z
    · intro a ha
      rcases List.mem_cons.mp ha with e | e
      · subst e; exact ⟨bn, Same.free hs.h0 hn⟩
      · exact hs'.ow a e
theorem mode_B (q : ∀ σ H B ρ Q, Same B H → RF X.K B σ ρ → Pst X W σ H (KFr X B H Q) (f ρ) → t σ H Q) : ∀ σ H F0 H0 F ρ Q, RS X.K F0 H0 F H σ ρ → Pst X W σ H (KO X F0 H0 σ Q) (oFrB f ρ) → t σ H Q := fun σ H F0 H0 F ρ Q r pr => by
  obtain ⟨fps, s, hs⟩ := r.ex
  obtain ⟨b1, b2⟩ := hs.bor
  refine q σ H (bor F H fps) _ Q b2 (s.rfB b1 fun a ha => bor_own ha) ?_
  unfold oFrB at pr
  generalize f (viewB ρ) = rr at pr ⊢
  cases rr with
  | stuck => exact pr
  | err c => exact pr
  | ok ds =>
    simp only [R.bind_ok] at pr
    split at pr
    · rename_i hl
      intro pa vs H' B' ex hp hn bn ia
      obtain ⟨F', e1, e2, e3⟩ := hs.unbor s.lstAt ex
      have hs' := hs.ext e1 s.lstAt
      have s' : Slots X.K F' H' σ ρ fps := s.keep e1.bb fun a ha => by
        obtain ⟨us, z⟩ := s.lstAt a ha
        rw [z]; exact e1.hh _ _ z
      have hpa : pa ∉ fps := fun hm => by
        obtain ⟨us, z⟩ := s.lstAt pa hm
        rw [hn] at z; cases z
      have fn : F' pa = none := by
        cases z : F' pa with
        | none => rfl
        | some o => have w := e3 _ _ z; rw [bn] at w; cases w
      refine pr (.ref pa) H' F' ⟨[pa] ++ fps, .ow (.lst hp (OwnL.fzs (IsAll.lfree e2 hl ia))) s', ?_, ?_, hs'.fh, hs'.f0, hs'.h0, hs'.nw⟩
      · exact List.nodup_cons.mpr ⟨hpa, hs'.nd⟩
      · intro a ha
        rcases List.mem_cons.mp ha with e | e
        · subst e; exact ⟨fn, Same.free hs.h0 hn⟩
        · exact hs'.ow a e
    · exact pr.elim
theorem mode_Z (q : ∀ σ H B ρ Q, Same B H → RF X.K B σ ρ → Pst X W σ H (KFr X B H Q) (f ρ) → t σ H Q) : ∀ σ H F0 H0 F ρ Q, RS X.K F0 H0 F H σ ρ → Pst X W σ H (KO X F0 H0 σ Q) (oX (exF (vlistOf f)) ρ) → t σ H Q := fun σ H F0 H0 F ρ Q r pr => by
  have r0 := r
  obtain ⟨fps, s, hs⟩ := r.ex
  refine q σ H F _ Q hs.fh s.rfF ?_
  unfold oX exF vlistOf at pr
  generalize f (viewF ρ) = rr at pr ⊢
  cases rr with
  | stuck => exact pr
  | err c => exact pr
  | ok ds =>
    refine kfr_of fun v H' F' ex dv => ?_
    obtain ⟨fps, s, hs⟩ := (r0.ext ex).ex
    exact pr v H' F' ⟨fps, .ow (.fz dv) s, hs⟩
end
section
variable {X : Cx} {W : WX} {a b c e tg iter elt : Expr} {ifs : List Expr} {pos : Pos} {scope : Scope} {own : List (Str × Nat)} {sl ownl : List Nat} {fi : PEnv → R (List D)} {kt : D → R (List (Nat × D))} {ft : PEnv → R Bool} {fe : PEnv → R D} {k : Nat}
theorem qcomp (hc : X.calm = true) (hN : X.N.Nodup) (hi : VI X W tg iter fi) (ok : BlkOk X.N X.env.scope scope own) (ho : own.map (·.2) = ownl)
    (hg : ∀ (s : Shared) (H : Hp) (C : Addr) (cl : List (Str × Addr)) (fp : List Addr), VG (X.blk s H scope (compEnvC scope cl C X.env) fp) tg sl kt)
    (hso : ∀ i ∈ sl, i ∈ ownl)
    (ht : ∀ (s : Shared) (H : Hp) (C : Addr) (cl : List (Str × Addr)) (fp : List Addr), VTs (X.blk s H scope (compEnvC scope cl C X.env) fp) W0 ifs ft)
    (he : ∀ (s : Shared) (H : Hp) (C : Addr) (cl : List (Str × Addr)) (fp : List Addr), VE (X.blk s H scope (compEnvC scope cl C X.env) fp) W0 elt fe) (hs : ∀ x, foldedSetIterable iter X.env x = pure x := by intro _; rfl) :
    VFr X W (.ListComp elt [⟨tg, iter, ifs, 0⟩] scope pos) (vcomp ownl fi kt ft fe) := by
  subst ho
  exact vcomp_ hc hN hi ok hg hso ht he hs
theorem qsetLc {cpos : Pos} {x : Str} {py : Pos} {hh : OEnv → R (O × OEnv)} (i : Nat) (mode : ∀ {t : TE}, (∀ σ H B ρ Q, Same B H → RF X.K B σ ρ → Pst X W σ H (KFr X B H Q) (vcomp ownl fi kt ft fe ρ) → t σ H Q) → ∀ σ H F0 H0 F ρ Q, RS X.K F0 H0 F H σ ρ → Pst X W σ H (KO X F0 H0 σ Q) (hh ρ) → t σ H Q)
    (hc : X.calm = true) (hN : X.N.Nodup) (hy : X.N[i]? = some x) (hyl : X.env.scope.names.lookup x = some .local) (hsw : swapsWith (.ListComp elt [⟨tg, iter, ifs, 0⟩] scope cpos) (some (.Name x py)) pos.line X.env = pure true)
    (hi : VI X W tg iter fi) (ok : BlkOk X.N X.env.scope scope own) (ho : own.map (·.2) = ownl)
    (hg : ∀ (s : Shared) (H : Hp) (C : Addr) (cl : List (Str × Addr)) (fp : List Addr), VG (X.blk s H scope (compEnvC scope cl C X.env) fp) tg sl kt)
    (hso : ∀ i ∈ sl, i ∈ ownl)
    (ht : ∀ (s : Shared) (H : Hp) (C : Addr) (cl : List (Str × Addr)) (fp : List Addr), VTs (X.blk s H scope (compEnvC scope cl C X.env) fp) W0 ifs ft)
    (hee : ∀ (s : Shared) (H : Hp) (C : Addr) (cl : List (Str × Addr)) (fp : List Addr), VE (X.blk s H scope (compEnvC scope cl C X.env) fp) W0 elt fe) (hs : ∀ x, foldedSetIterable iter X.env x = pure x := by intro _; rfl) :
    VS X W (.Assign [.Name x py] (.ListComp elt [⟨tg, iter, ifs, 0⟩] scope cpos) pos) (sSet i hh) := by
  subst ho
  exact vs_setLc i mode hc hN hy hyl hsw hi ok hg hso ht hee hs
/-! list(range(..)) -/
theorem ints_is {K : PySem.W.Frag} {F : Hp} : ∀ ns : List Int, IsAll K F (ns.map V.int) (ns.map PyData.int)
  | [] => .nil
  | n :: ns => .cons (.int n) (ints_is ns)
theorem rgV_is {K : PySem.W.Frag} {F : Hp} (i j : Int) : IsAll K F (rgV i j) (rangeD i (j - i).toNat) := by
  have := ints_is (K := K) (F := F) ((List.range (j - i).toNat).map fun n : Nat => i + (n : Int))
  unfold rgV rangeD
  rw [List.map_map, List.map_map] at this
  exact this
theorem rgOk_of {i j : Int} (h : rngOk i j) : RgOk i j := by
  obtain ⟨h1, h2, h3, h4, h5⟩ := h
  exact ⟨by omega, by omega, by omega, by omega, by omega⟩
theorem qlist_rg1 {p p2 pos2 : Pos} {fa : PEnv → R PyData} (hc : X.calm = true) (hm : X.mg "list" = none) (hm2 : X.mg "range" = none) (ha : VE X W a fa) (hg : Gl X "list" := by rfl) (hg2 : Gl X "range" := by rfl)
    (n1 : starEach [a] X.env = (false, eval a X.env) :: starEach [] X.env := by rfl)
    (n3 : starEach [.Call (.Name "range" p2) [a] [] pos2] X.env = (false, eval (.Call (.Name "range" p2) [a] [] pos2) X.env) :: starEach [] X.env := by rfl) : VFr X W (.Call (.Name "list" p) [.Call (.Name "range" p2) [a] [] pos2] [] pos) (i1 vrange1 fa) := by
  obtain ⟨t, pt, qt⟩ := ha.ex
  refine ⟨_, pe_listRg hc hg hm (prg_1 hg2 hm2 pt n1) n3, fun σ H B ρ Q s rf pr => ?_⟩
  refine one qt s rf pr fun d x H' B' ex sm dx pg => ?_
  cases dx <;> first | exact pg.elim | skip
  rename_i j
  simp only [vrange1] at pg
  split at pg
  · rename_i hz
    refine ⟨j, rfl, rgOk_of hz, fun q hq => ?_⟩
    have pg : KFr X B H Q (rangeD 0 j.toNat) := pg
    have e := rgV_is (K := X.K) (F := B') 0 j
    rw [Int.sub_zero] at e
    exact pg q _ _ B' (ex.trans (Ext.own ex.bh hq)) upd_same (Same.free ex.hh hq) (Same.free ex.bh hq) e
  · exact pg.elim
theorem qlist_rg2 {p p2 pos2 : Pos} {fa fb : PEnv → R PyData} (hc : X.calm = true) (hm : X.mg "list" = none) (hm2 : X.mg "range" = none) (ha : VE X W a fa) (hb : VE X W b fb) (hg : Gl X "list" := by rfl) (hg2 : Gl X "range" := by rfl)
    (n1 : starEach [a, b] X.env = (false, eval a X.env) :: starEach [b] X.env := by rfl) (n2 : starEach [b] X.env = (false, eval b X.env) :: starEach [] X.env := by rfl) (hp : (backTo pos2 (starEach [b] X.env)).any (·.1) = false := by rfl)
    (n3 : starEach [.Call (.Name "range" p2) [a, b] [] pos2] X.env = (false, eval (.Call (.Name "range" p2) [a, b] [] pos2) X.env) :: starEach [] X.env := by rfl) : VFr X W (.Call (.Name "list" p) [.Call (.Name "range" p2) [a, b] [] pos2] [] pos) (i2 vrange2 fa fb) := by
  obtain ⟨t, pt, qt⟩ := ha.ex
  obtain ⟨t2, pt2, qt2⟩ := hb.ex
  refine ⟨_, pe_listRg hc hg hm (prg_2 hg2 hm2 pt pt2 n1 n2 hp) n3, fun σ H B ρ Q s rf pr => ?_⟩
  refine two qt qt2 s rf pr fun d e x y H' B' ex sm dx dy pg => ?_
  cases dx <;> first | (cases dy <;> exact pg.elim) | skip
  cases dy <;> first | exact pg.elim | skip
  rename_i i j
  simp only [vrange2] at pg
  split at pg
  · rename_i hz
    refine ⟨i, j, rfl, rfl, rgOk_of hz, fun q hq => ?_⟩
    have pg : KFr X B H Q (rangeD i (j - i).toNat) := pg
    exact pg q _ _ B' (ex.trans (Ext.own ex.bh hq)) upd_same (Same.free ex.hh hq) (Same.free ex.bh hq) (rgV_is i j)
  · exact pg.elim
end
/-! ### the law's own end -/
/-- what `law` promises: of a list of at most 63 ints, True -/
def spL : Sp := fun vs H Q _ => ∃ (a : Addr) (ns : List Int), vs = [.ref a] ∧ ns.length ≤ 63 ∧ Rd H a (.lst (ns.map V.int)) ∧ ∀ H', Same H H' → Q (.bl true) H'
def noLst (K : PySem.W.Frag) : Bool := K.all fun p => match p.2.cls with | .type "list" => false | _ => true
theorem lookup_all {K : PySem.W.Frag} {p : Addr × Obj → Bool} : ∀ {K : List (Addr × Obj)} {a : Addr} {o : Obj}, K.all p = true → K.lookup a = some o → ∃ b, p (b, o) = true
  | [], a, o, _, e => by cases e
  | (b, u) :: K, a, o, h, e => by
    rw [List.all_cons, Bool.and_eq_true] at h
    rw [List.lookup_cons] at e
    split at e
    · cases e; exact ⟨b, h.1⟩
    · exact lookup_all (K := K) h.2 e
theorem spL_of {K : PySem.W.Frag} {H : Hp} {a : Addr} {ns : List Int} (hl : ns.length ≤ 63) (hS : SqL K H a (ns.map V.int)) (hK : noLst K = true) : spL [.ref a] H (fun v _ => v = .bl true) fun _ _ _ => False := by
  rcases hS with h | ⟨o, its, n, h1, h2, _⟩
  · exact ⟨a, ns, rfl, hl, h, fun _ _ => rfl⟩
  · obtain ⟨b, hb⟩ := lookup_all (K := K) (p := fun p => match p.2.cls with | .type "list" => false | _ => true) hK h1
    simp only [h2] at hb
    cases hb
theorem fn_law {P : Program} {w : World} {K : PySem.W.Frag} {mg : Str → Option Value} {base : Heap} {f : Addr} {fd : FuncData} {ps : List Str} {k : Nat} {g : List PyData → R PyData} (F : FnOk P w K mg base (L2.CX P w) k f fd ps (spV K mg 1 g))
    (math : ∀ ns : List Int, ns.length ≤ 63 → g [.list (ns.map PyData.int)] = .ok (.bool true)) : FnOk P w K mg base (L2.CX P w) k f fd ps spL := by
  refine F.imp fun vs H Q E q => ?_
  obtain ⟨a, ns, rfl, hl, hr, post⟩ := q
  refine ⟨rfl, [.list (ns.map PyData.int)], H, Same.refl H, .cons (.lst hr (ints_is ns)) .nil, ?_⟩
  rw [math ns hl]
  intro v H' B' ex dv
  cases dv
  exact post H' ex.hh
theorem cx_false {P : Program} {w : World} {H : Hp} {s : Shared} {e : Value} {s' : Shared} (h : L2.CX P w [] H s (fun _ _ _ => False) e s') : False := by
  obtain ⟨_, _, _, _, _, _, _, _, _, _, _, _, h⟩ := h
  exact h
end VL

namespace VL
open PySem PySem.Spec PyProof.Rows

/-! ### evaluation -/
def fin : SR → R PyData
  | .rt o => .ok o.data
  | .nx _ => .ok .none
  | .err c _ => .err c
  | _ => .stuck
@[simp] theorem fin_rt (o : O) : fin (.rt o) = .ok o.data := rfl
@[simp] theorem fin_nx (ρ : OEnv) : fin (.nx ρ) = .ok .none := rfl
@[simp] theorem fin_err (c : Str) (ρ : OEnv) : fin (.err c ρ) = .err c := rfl
theorem frz_fin (n : Nat) (g : OEnv → SR) (ds : List PyData) : frz (runB n g) ds = fin (g (startO n ds)) := by
  unfold frz runB
  cases g (startO n ds) <;> rfl
@[simp] theorem seq_ap (g h : OEnv → SR) (ρ : OEnv) : seq g h ρ = (g ρ).seq h := rfl
@[simp] theorem pre_ap (T : OEnv → OEnv) (g : OEnv → SR) (ρ : OEnv) : pre T g ρ = g (T ρ) := rfl
@[simp] theorem tB_ap (t : PEnv → R Bool) (ρ : OEnv) : tB t ρ = t (viewB ρ) := rfl
@[simp] theorem ixF_ap (t : PEnv → R (List PyData)) (ρ : OEnv) : ixF t ρ = t (viewF ρ) := rfl
@[simp] theorem sRet_ap (h : OEnv → R (O × OEnv)) (ρ : OEnv) : sRet h ρ = (h ρ).sr ρ fun p => .rt p.1 := rfl
@[simp] theorem sSet_ap (i : Nat) (h : OEnv → R (O × OEnv)) (ρ : OEnv) : sSet i h ρ = (h ρ).sr ρ fun p => .nx (p.2.set i (some p.1)) := rfl
@[simp] theorem sExpr_ap (h : OEnv → R (O × OEnv)) (ρ : OEnv) : sExpr h ρ = (h ρ).sr ρ fun p => .nx p.2 := rfl
@[simp] theorem sIf_ap (t : OEnv → R Bool) (g h : OEnv → SR) (ρ : OEnv) : sIf t g h ρ = (t ρ).sr ρ fun b => if b then g ρ else h ρ := rfl
@[simp] theorem sNx_ap (ρ : OEnv) : sNx ρ = .nx ρ := rfl
@[simp] theorem sBk_ap (ρ : OEnv) : sBk ρ = .bk ρ := rfl
@[simp] theorem sCt_ap (ρ : OEnv) : sCt ρ = .ct ρ := rfl
@[simp] theorem sRetN_ap (ρ : OEnv) : sRetN ρ = .rt (.fz .none) := rfl
@[simp] theorem oX_ap (h : OEnv → R PyData) (ρ : OEnv) : oX h ρ = (h ρ).bind fun d => .ok (.fz d, ρ) := rfl
@[simp] theorem exF_ap (f : PEnv → R PyData) (ρ : OEnv) : exF f ρ = f (viewF ρ) := rfl
@[simp] theorem exB_ap (f : PEnv → R PyData) (ρ : OEnv) : exB f ρ = (f (viewB ρ)).bind lfok := rfl
@[simp] theorem oFrF_ap (f : PEnv → R (List PyData)) (ρ : OEnv) : oFrF f ρ = (f (viewF ρ)).bind fun ds => .ok (.lst (ds.map O.fz), ρ) := rfl
@[simp] theorem oFrB_ap (f : PEnv → R (List PyData)) (ρ : OEnv) : oFrB f ρ = (f (viewB ρ)).bind fun ds => if lfs ds then .ok (.lst (ds.map O.fz), ρ) else .stuck := rfl
@[simp] theorem sPar_ap (i j : Nat) (h h' : OEnv → R PyData) (ρ : OEnv) : sPar i j h h' ρ = (h ρ).sr ρ fun d => (h' ρ).sr ρ fun e => .nx ((ρ.set i (some (.fz d))).set j (some (.fz e))) := rfl
@[simp] theorem sTup_ap (k : PyData → R (List (Nat × PyData))) (h : OEnv → R PyData) (ρ : OEnv) : sTup k h ρ = (h ρ).sr ρ fun d => match k d with | .ok bd => .nx (setsO ρ bd) | _ => .stuck := rfl
@[simp] theorem sFor_ap (hi : OEnv → R (List PyData)) (kt : PyData → R (List (Nat × PyData))) (kl : OEnv → OEnv) (gb : OEnv → SR) (ρ : OEnv) : sFor hi kt kl gb ρ = (hi ρ).sr ρ fun ds => forL kt kl gb ds ρ := rfl
@[simp] theorem sForK_ap (hi : OEnv → R (List PyData)) (T : OEnv → OEnv) (kt : PyData → R (List (Nat × PyData))) (kl : OEnv → OEnv) (gb : OEnv → SR) (ρ : OEnv) : sForK hi T kt kl gb ρ = (hi ρ).sr ρ fun ds => forL kt kl gb ds (T ρ) := rfl
@[simp] theorem lfok_ap (d : PyData) : lfok d = if lf d then .ok d else .stuck := rfl
@[simp] theorem kill_nil (ρ : OEnv) : kill [] ρ = ρ := rfl
@[simp] theorem kill_cons (i : Nat) (is : List Nat) (ρ : OEnv) : kill (i :: is) ρ = kill is (ρ.set i none) := rfl
@[simp] theorem freeze_nil (ρ : OEnv) : freeze [] ρ = ρ := rfl
@[simp] theorem freeze_cons (i : Nat) (is : List Nat) (ρ : OEnv) : freeze (i :: is) ρ = freeze is (freezeAt ρ i) := rfl
@[simp] theorem setsO_nil (ρ : OEnv) : setsO ρ [] = ρ := rfl
@[simp] theorem setsO_cons (b : Nat × PyData) (bs : List (Nat × PyData)) (ρ : OEnv) : setsO ρ (b :: bs) = setsO (ρ.set b.1 (some (.fz b.2))) bs := rfl
@[simp] theorem setsD_nil (ρ : PEnv) : setsD ρ [] = ρ := rfl
@[simp] theorem setsD_cons (b : Nat × PyData) (bs : List (Nat × PyData)) (ρ : PEnv) : setsD ρ (b :: bs) = setsD (ρ.set b.1 (some b.2)) bs := rfl
@[simp] theorem wipeD_nil (ρ : PEnv) : wipeD ρ [] = ρ := rfl
@[simp] theorem wipeD_cons (i : Nat) (is : List Nat) (ρ : PEnv) : wipeD ρ (i :: is) = (wipeD ρ is).set i none := rfl
@[simp] theorem viewF_nil : viewF [] = [] := rfl
@[simp] theorem viewF_none (ρ : OEnv) : viewF (none :: ρ) = none :: viewF ρ := rfl
@[simp] theorem viewF_fz (d : PyData) (ρ : OEnv) : viewF (some (.fz d) :: ρ) = some d :: viewF ρ := rfl
@[simp] theorem viewF_lst (xs : List O) (ρ : OEnv) : viewF (some (.lst xs) :: ρ) = none :: viewF ρ := rfl
@[simp] theorem viewB_nil : viewB [] = [] := rfl
@[simp] theorem viewB_none (ρ : OEnv) : viewB (none :: ρ) = none :: viewB ρ := rfl
@[simp] theorem viewB_some (o : O) (ρ : OEnv) : viewB (some o :: ρ) = some o.data :: viewB ρ := rfl
@[simp] theorem v2_ap (g : D → D → R D) (fa fb : PEnv → R D) (ρ : PEnv) : v2 g fa fb ρ = (fa ρ).bind fun d => (fb ρ).bind fun e => g d e := rfl
@[simp] theorem v1_ap (g : D → R D) (fa : PEnv → R D) (ρ : PEnv) : v1 g fa ρ = (fa ρ).bind g := rfl
@[simp] theorem vC_ap (d : D) (ρ : PEnv) : vC d ρ = .ok d := rfl
@[simp] theorem vnn_ap (f : PEnv → R PyData) (ρ : PEnv) : vnn f ρ = (f ρ).bind fun d => .ok (.bool (match d with | .none => false | _ => true)) := by
  unfold vnn v1 visnone
  generalize f ρ = r
  cases r with
  | stuck => rfl
  | err c => rfl
  | ok d => cases d <;> rfl
@[simp] theorem tnn_ap (f : PEnv → R PyData) (ρ : PEnv) : tnn f ρ = (f ρ).bind fun d => .ok (match d with | .none => false | _ => true) := by
  unfold tnn v1 visnone
  generalize f ρ = r
  cases r with
  | stuck => rfl
  | err c => rfl
  | ok d => cases d <;> rfl
@[simp] theorem tst_ap (f : PEnv → R PyData) (ρ : PEnv) : tst f ρ = (f ρ).bind tbool := rfl
@[simp] theorem ttr_ap (f : PEnv → R PyData) (ρ : PEnv) : ttr f ρ = (f ρ).bind vtruth := rfl
@[simp] theorem vpart_ap (f : PEnv → R PyData) (ρ : PEnv) : vpart f ρ = (f ρ).bind oInt := rfl
@[simp] theorem vnopart_ap (ρ : PEnv) : vnopart ρ = .ok none := rfl
@[simp] theorem oInt_int (i : Int) : oInt (.int i) = .ok (some i) := rfl
@[simp] theorem tbool_bool (b : Bool) : tbool (.bool b) = .ok b := rfl
@[simp] theorem tand_ap (f g : PEnv → R Bool) (ρ : PEnv) : tand f g ρ = (f ρ).bind fun b => if b then g ρ else .ok false := rfl
@[simp] theorem tor_ap (f g : PEnv → R Bool) (ρ : PEnv) : tor f g ρ = (f ρ).bind fun b => if b then .ok true else g ρ := rfl
@[simp] theorem tnot_ap (f : PEnv → R Bool) (ρ : PEnv) : tnot f ρ = (f ρ).bind fun b => .ok (!b) := rfl
@[simp] theorem tyes_ap (ρ : PEnv) : tyes ρ = .ok true := rfl
@[simp] theorem vif_ap (t : PEnv → R Bool) (f g : PEnv → R D) (ρ : PEnv) : vif t f g ρ = (t ρ).bind fun b => if b then f ρ else g ρ := rfl
@[simp] theorem vand_ap (f g : PEnv → R D) (ρ : PEnv) : vand f g ρ = (f ρ).bind fun d => (tbool d).bind fun b => if b then g ρ else .ok (.bool false) := rfl
@[simp] theorem vor_ap (f g : PEnv → R D) (ρ : PEnv) : vor f g ρ = (f ρ).bind fun d => (tbool d).bind fun b => if b then .ok (.bool true) else g ρ := rfl
@[simp] theorem vnot_ap (f : PEnv → R D) (ρ : PEnv) : vnot f ρ = (f ρ).bind fun d => (tbool d).bind fun b => .ok (.bool (!b)) := rfl
@[simp] theorem vchain_ap (g g' : D → D → R D) (fa fb fc : PEnv → R D) (ρ : PEnv) : vchain g g' fa fb fc ρ = (fa ρ).bind fun d => (fb ρ).bind fun e => (g d e).bind fun z => (tbool z).bind fun k => if k then (fc ρ).bind fun f => g' e f else .ok (.bool false) := rfl
@[simp] theorem aNil_ap (ρ : PEnv) : aNil ρ = .ok [] := rfl
@[simp] theorem aCons_ap (f : PEnv → R D) (g : PEnv → R (List D)) (ρ : PEnv) : aCons f g ρ = (f ρ).bind fun d => (g ρ).bind fun ds => .ok (d :: ds) := rfl
@[simp] theorem vtup_ap (g : PEnv → R (List D)) (ρ : PEnv) : vtup g ρ = (g ρ).bind fun ds => .ok (.tuple ds) := rfl
@[simp] theorem vlistOf_ap (g : PEnv → R (List D)) (ρ : PEnv) : vlistOf g ρ = (g ρ).bind fun ds => .ok (.list ds) := rfl
@[simp] theorem vapp_ap (g : List D → R D) (f : PEnv → R (List D)) (ρ : PEnv) : vapp g f ρ = (f ρ).bind g := rfl
@[simp] theorem vslice_ap (f : PEnv → R D) (l u : PEnv → R (Option Int)) (ρ : PEnv) : vslice f l u ρ = (f ρ).bind fun d => (l ρ).bind fun lo => (u ρ).bind fun hi => vcut lo hi d := rfl
@[simp] theorem x1_ap (g : PyData → R (List PyData)) (h : OEnv → R PyData) (ρ : OEnv) : x1 g h ρ = (h ρ).bind g := rfl
@[simp] theorem x2_ap (g : PyData → PyData → R (List PyData)) (h h' : OEnv → R PyData) (ρ : OEnv) : x2 g h h' ρ = (h ρ).bind fun d => (h' ρ).bind fun e => g d e := rfl
@[simp] theorem i1_ap (g : PyData → R (List PyData)) (h : PEnv → R PyData) (ρ : PEnv) : i1 g h ρ = (h ρ).bind g := rfl
@[simp] theorem i2_ap (g : PyData → PyData → R (List PyData)) (h h' : PEnv → R PyData) (ρ : PEnv) : i2 g h h' ρ = (h ρ).bind fun d => (h' ρ).bind fun e => g d e := rfl
@[simp] theorem isq_ap (h : PEnv → R PyData) (ρ : PEnv) : isq h ρ = (h ρ).bind seqD := rfl
@[simp] theorem seqD_list (xs : List PyData) : seqD (.list xs) = .ok xs := rfl
@[simp] theorem seqD_tuple (xs : List PyData) : seqD (.tuple xs) = .ok xs := rfl
@[simp] theorem gN_ap (i : Nat) (d : PyData) : gN i d = .ok [(i, d)] := rfl
@[simp] theorem calm_okk {α : Type} (a : α) : (R.ok a).calm = .ok a := rfl
@[simp] theorem calm_ite {α : Type} (p : Prop) [Decidable p] (a b : R α) : (if p then a else b).calm = if p then a.calm else b.calm := by split <;> rfl

@[simp] theorem vadd_int (a b : Int) : vadd (.int a) (.int b) = .ok (.int (a + b)) := rfl
@[simp] theorem vsub_int (a b : Int) : vsub (.int a) (.int b) = .ok (.int (a - b)) := rfl
@[simp] theorem vlt_int (a b : Int) : vlt (.int a) (.int b) = .ok (.bool (decide (a < b))) := rfl
@[simp] theorem vle_int (a b : Int) : vle (.int a) (.int b) = .ok (.bool (decide (a ≤ b))) := rfl
@[simp] theorem vgt_int (a b : Int) : vgt (.int a) (.int b) = .ok (.bool (decide (b < a))) := rfl
@[simp] theorem vge_int (a b : Int) : vge (.int a) (.int b) = .ok (.bool (decide (b ≤ a))) := rfl
@[simp] theorem vneg_int (a : Int) : vneg (.int a) = .ok (.int (-a)) := rfl
theorem vmul_int {a b : Int} (h : IntMulOk a b) : vmul (.int a) (.int b) = .ok (.int (a * b)) := if_pos h
@[simp] theorem vfdiv_int {a b : Int} (h : 0 < b ∧ b < 2 ^ 250) : vfdiv (.int a) (.int b) = .ok (.int (a / b)) := if_pos h
@[simp] theorem vmod_int (a b : Int) : vmod (.int a) (.int b) = if 0 < b then .ok (.int (a % b)) else .stuck := rfl
@[simp] theorem vpow_int {a b : Int} (h : 0 ≤ b ∧ b ≤ 1000 ∧ a.natAbs < 2 ^ 64) : vpow (.int a) (.int b) = .ok (.int (a ^ b.toNat)) := if_pos h
@[simp] theorem veq_int (a b : Int) : veq (.int a) (.int b) = .ok (.bool (decide (a = b))) := by
  unfold veq vEq; simp [SeqAt.shaped, PyData.canLay0, PyData.depth, PyData.eqv, Bool.beq_eq_decide_eq]
@[simp] theorem vne_int (a b : Int) : vne (.int a) (.int b) = .ok (.bool (!decide (a = b))) := by
  unfold vne vEq; simp [SeqAt.shaped, PyData.canLay0, PyData.depth, PyData.eqv, Bool.beq_eq_decide_eq]
theorem veq_str {a b : Str} (ha : PyData.strOk a = true) (hb : PyData.strOk b = true) : veq (.str a) (.str b) = .ok (.bool (decide (a = b))) := by
  unfold veq vEq; simp [SeqAt.shaped, PyData.canLay0, PyData.depth, PyData.eqv, ha, hb, Bool.beq_eq_decide_eq]
theorem vne_str {a b : Str} (ha : PyData.strOk a = true) (hb : PyData.strOk b = true) : vne (.str a) (.str b) = .ok (.bool (!decide (a = b))) := by
  unfold vne vEq; simp [SeqAt.shaped, PyData.canLay0, PyData.depth, PyData.eqv, ha, hb, Bool.beq_eq_decide_eq]
@[simp] theorem veq_bool (a b : Bool) : veq (.bool a) (.bool b) = .ok (.bool (decide (a = b))) := by
  unfold veq vEq; simp [SeqAt.shaped, PyData.canLay0, PyData.depth, PyData.eqv, Bool.beq_eq_decide_eq]
@[simp] theorem vne_bool (a b : Bool) : vne (.bool a) (.bool b) = .ok (.bool (!decide (a = b))) := by
  unfold vne vEq; simp [SeqAt.shaped, PyData.canLay0, PyData.depth, PyData.eqv, Bool.beq_eq_decide_eq]
@[simp] theorem vint1_int (a : Int) : vint1 [.int a] = .ok (.int a) := rfl
@[simp] theorem vint1_bool (a : Bool) : vint1 [.bool a] = .ok (.int (if a then 1 else 0)) := rfl
@[simp] theorem vabs_int (a : Int) : vabs [.int a] = .ok (.int (if a < 0 then -a else a)) := rfl
@[simp] theorem vlen_list (a : List PyData) : vlen [.list a] = .ok (.int a.length) := rfl
@[simp] theorem vlen_tuple (a : List PyData) : vlen [.tuple a] = .ok (.int a.length) := rfl
@[simp] theorem vtuple1_list (a : List PyData) : vtuple1 [.list a] = .ok (.tuple a) := rfl
@[simp] theorem vtuple1_tuple (a : List PyData) : vtuple1 [.tuple a] = .ok (.tuple a) := rfl
@[simp] theorem vlist1_list (a : List PyData) : vlist1 [.list a] = .ok (.list a) := rfl
@[simp] theorem vlist1_tuple (a : List PyData) : vlist1 [.tuple a] = .ok (.list a) := rfl
@[simp] theorem vmax_two (i j : Int) : vmax [.int i, .int j] = .ok (.int (if j > i then j else i)) := rfl
@[simp] theorem vmin_two (i j : Int) : vmin [.int i, .int j] = .ok (.int (if j < i then j else i)) := rfl
@[simp] theorem vtruth_int (i : Int) : vtruth (.int i) = .ok (i != 0) := rfl
@[simp] theorem vtruth_bool (i : Bool) : vtruth (.bool i) = .ok i := rfl
@[simp] theorem vtruth_none : vtruth .none = .ok false := rfl
@[simp] theorem vtruth_list (i : List PyData) : vtruth (.list i) = .ok (!i.isEmpty) := rfl
@[simp] theorem vtruth_tuple (i : List PyData) : vtruth (.tuple i) = .ok (!i.isEmpty) := rfl
@[simp] theorem visnone_none : visnone .none = .ok (.bool true) := rfl
@[simp] theorem visnone_bool (b : Bool) : visnone (.bool b) = .ok (.bool false) := rfl
@[simp] theorem visnone_int (b : Int) : visnone (.int b) = .ok (.bool false) := rfl
@[simp] theorem visnone_str (b : Str) : visnone (.str b) = .ok (.bool false) := rfl
@[simp] theorem visnone_list (b : List PyData) : visnone (.list b) = .ok (.bool false) := rfl
@[simp] theorem visnone_tuple (b : List PyData) : visnone (.tuple b) = .ok (.bool false) := rfl
@[simp] theorem vrange1_int (j : Int) : vrange1 (.int j) = if rngOk 0 j then .ok (rangeD 0 j.toNat) else .stuck := rfl
@[simp] theorem vrange2_int (i j : Int) : vrange2 (.int i) (.int j) = if rngOk i j then .ok (rangeD i (j - i).toNat) else .stuck := rfl
@[simp] theorem venum_list (xs : List PyData) : venum (.list xs) = .ok (enumD xs) := rfl
@[simp] theorem vzip_list (xs ys : List PyData) : vzip (.list xs) (.list ys) = .ok (zipD xs ys) := rfl
@[simp] theorem vrev_list (xs : List PyData) : vrev (.list xs) = .ok xs.reverse := rfl
@[simp] theorem visi_int_none  : visi "int" .none = .ok (.bool false) := rfl
@[simp] theorem visi_int_bool (b : Bool) : visi "int" (.bool b) = .ok (.bool true) := rfl
@[simp] theorem visi_int_int (b : Int) : visi "int" (.int b) = .ok (.bool true) := rfl
@[simp] theorem visi_int_str (b : Str) : visi "int" (.str b) = .ok (.bool false) := rfl
@[simp] theorem visi_int_list (b : List PyData) : visi "int" (.list b) = .ok (.bool false) := rfl
@[simp] theorem visi_int_tuple (b : List PyData) : visi "int" (.tuple b) = .ok (.bool false) := rfl
@[simp] theorem visi_bool_none  : visi "bool" .none = .ok (.bool false) := rfl
@[simp] theorem visi_bool_bool (b : Bool) : visi "bool" (.bool b) = .ok (.bool true) := rfl
@[simp] theorem visi_bool_int (b : Int) : visi "bool" (.int b) = .ok (.bool false) := rfl
@[simp] theorem visi_bool_str (b : Str) : visi "bool" (.str b) = .ok (.bool false) := rfl
@[simp] theorem visi_bool_list (b : List PyData) : visi "bool" (.list b) = .ok (.bool false) := rfl
@[simp] theorem visi_bool_tuple (b : List PyData) : visi "bool" (.tuple b) = .ok (.bool false) := rfl
@[simp] theorem visi_str_none  : visi "str" .none = .ok (.bool false) := rfl
@[simp] theorem visi_str_bool (b : Bool) : visi "str" (.bool b) = .ok (.bool false) := rfl
@[simp] theorem visi_str_int (b : Int) : visi "str" (.int b) = .ok (.bool false) := rfl
@[simp] theorem visi_str_str (b : Str) : visi "str" (.str b) = .ok (.bool true) := rfl
@[simp] theorem visi_str_list (b : List PyData) : visi "str" (.list b) = .ok (.bool false) := rfl
@[simp] theorem visi_str_tuple (b : List PyData) : visi "str" (.tuple b) = .ok (.bool false) := rfl
@[simp] theorem visi_list_none  : visi "list" .none = .ok (.bool false) := rfl
@[simp] theorem visi_list_bool (b : Bool) : visi "list" (.bool b) = .ok (.bool false) := rfl
@[simp] theorem visi_list_int (b : Int) : visi "list" (.int b) = .ok (.bool false) := rfl
@[simp] theorem visi_list_str (b : Str) : visi "list" (.str b) = .ok (.bool false) := rfl
@[simp] theorem visi_list_list (b : List PyData) : visi "list" (.list b) = .ok (.bool true) := rfl
@[simp] theorem visi_list_tuple (b : List PyData) : visi "list" (.tuple b) = .ok (.bool false) := rfl
@[simp] theorem visi_tuple_none  : visi "tuple" .none = .ok (.bool false) := rfl
@[simp] theorem visi_tuple_bool (b : Bool) : visi "tuple" (.bool b) = .ok (.bool false) := rfl
@[simp] theorem visi_tuple_int (b : Int) : visi "tuple" (.int b) = .ok (.bool false) := rfl
@[simp] theorem visi_tuple_str (b : Str) : visi "tuple" (.str b) = .ok (.bool false) := rfl
@[simp] theorem visi_tuple_list (b : List PyData) : visi "tuple" (.list b) = .ok (.bool false) := rfl
@[simp] theorem visi_tuple_tuple (b : List PyData) : visi "tuple" (.tuple b) = .ok (.bool true) := rfl
@[simp] theorem vVar_0 (d : PyData) (ρ : PEnv) : vVar 0 (some d :: ρ) = .ok d := rfl
@[simp] theorem vVar_1 (x0 : Option PyData) (d : PyData) (ρ : PEnv) : vVar 1 (x0 :: some d :: ρ) = .ok d := rfl
@[simp] theorem vVar_2 (x0 x1 : Option PyData) (d : PyData) (ρ : PEnv) : vVar 2 (x0 :: x1 :: some d :: ρ) = .ok d := rfl
@[simp] theorem vVar_3 (x0 x1 x2 : Option PyData) (d : PyData) (ρ : PEnv) : vVar 3 (x0 :: x1 :: x2 :: some d :: ρ) = .ok d := rfl
@[simp] theorem vVar_4 (x0 x1 x2 x3 : Option PyData) (d : PyData) (ρ : PEnv) : vVar 4 (x0 :: x1 :: x2 :: x3 :: some d :: ρ) = .ok d := rfl
@[simp] theorem vVar_5 (x0 x1 x2 x3 x4 : Option PyData) (d : PyData) (ρ : PEnv) : vVar 5 (x0 :: x1 :: x2 :: x3 :: x4 :: some d :: ρ) = .ok d := rfl
@[simp] theorem vVar_6 (x0 x1 x2 x3 x4 x5 : Option PyData) (d : PyData) (ρ : PEnv) : vVar 6 (x0 :: x1 :: x2 :: x3 :: x4 :: x5 :: some d :: ρ) = .ok d := rfl
@[simp] theorem vVar_7 (x0 x1 x2 x3 x4 x5 x6 : Option PyData) (d : PyData) (ρ : PEnv) : vVar 7 (x0 :: x1 :: x2 :: x3 :: x4 :: x5 :: x6 :: some d :: ρ) = .ok d := rfl
@[simp] theorem vVar_8 (x0 x1 x2 x3 x4 x5 x6 x7 : Option PyData) (d : PyData) (ρ : PEnv) : vVar 8 (x0 :: x1 :: x2 :: x3 :: x4 :: x5 :: x6 :: x7 :: some d :: ρ) = .ok d := rfl
@[simp] theorem vVar_9 (x0 x1 x2 x3 x4 x5 x6 x7 x8 : Option PyData) (d : PyData) (ρ : PEnv) : vVar 9 (x0 :: x1 :: x2 :: x3 :: x4 :: x5 :: x6 :: x7 :: x8 :: some d :: ρ) = .ok d := rfl
@[simp] theorem vVar_10 (x0 x1 x2 x3 x4 x5 x6 x7 x8 x9 : Option PyData) (d : PyData) (ρ : PEnv) : vVar 10 (x0 :: x1 :: x2 :: x3 :: x4 :: x5 :: x6 :: x7 :: x8 :: x9 :: some d :: ρ) = .ok d := rfl
@[simp] theorem vVar_11 (x0 x1 x2 x3 x4 x5 x6 x7 x8 x9 x10 : Option PyData) (d : PyData) (ρ : PEnv) : vVar 11 (x0 :: x1 :: x2 :: x3 :: x4 :: x5 :: x6 :: x7 :: x8 :: x9 :: x10 :: some d :: ρ) = .ok d := rfl
@[simp] theorem vVar_12 (x0 x1 x2 x3 x4 x5 x6 x7 x8 x9 x10 x11 : Option PyData) (d : PyData) (ρ : PEnv) : vVar 12 (x0 :: x1 :: x2 :: x3 :: x4 :: x5 :: x6 :: x7 :: x8 :: x9 :: x10 :: x11 :: some d :: ρ) = .ok d := rfl
@[simp] theorem vVar_13 (x0 x1 x2 x3 x4 x5 x6 x7 x8 x9 x10 x11 x12 : Option PyData) (d : PyData) (ρ : PEnv) : vVar 13 (x0 :: x1 :: x2 :: x3 :: x4 :: x5 :: x6 :: x7 :: x8 :: x9 :: x10 :: x11 :: x12 :: some d :: ρ) = .ok d := rfl
@[simp] theorem vVar_14 (x0 x1 x2 x3 x4 x5 x6 x7 x8 x9 x10 x11 x12 x13 : Option PyData) (d : PyData) (ρ : PEnv) : vVar 14 (x0 :: x1 :: x2 :: x3 :: x4 :: x5 :: x6 :: x7 :: x8 :: x9 :: x10 :: x11 :: x12 :: x13 :: some d :: ρ) = .ok d := rfl
@[simp] theorem vVar_15 (x0 x1 x2 x3 x4 x5 x6 x7 x8 x9 x10 x11 x12 x13 x14 : Option PyData) (d : PyData) (ρ : PEnv) : vVar 15 (x0 :: x1 :: x2 :: x3 :: x4 :: x5 :: x6 :: x7 :: x8 :: x9 :: x10 :: x11 :: x12 :: x13 :: x14 :: some d :: ρ) = .ok d := rfl
@[simp] theorem vVar_16 (x0 x1 x2 x3 x4 x5 x6 x7 x8 x9 x10 x11 x12 x13 x14 x15 : Option PyData) (d : PyData) (ρ : PEnv) : vVar 16 (x0 :: x1 :: x2 :: x3 :: x4 :: x5 :: x6 :: x7 :: x8 :: x9 :: x10 :: x11 :: x12 :: x13 :: x14 :: x15 :: some d :: ρ) = .ok d := rfl
@[simp] theorem vVar_17 (x0 x1 x2 x3 x4 x5 x6 x7 x8 x9 x10 x11 x12 x13 x14 x15 x16 : Option PyData) (d : PyData) (ρ : PEnv) : vVar 17 (x0 :: x1 :: x2 :: x3 :: x4 :: x5 :: x6 :: x7 :: x8 :: x9 :: x10 :: x11 :: x12 :: x13 :: x14 :: x15 :: x16 :: some d :: ρ) = .ok d := rfl
@[simp] theorem vVar_18 (x0 x1 x2 x3 x4 x5 x6 x7 x8 x9 x10 x11 x12 x13 x14 x15 x16 x17 : Option PyData) (d : PyData) (ρ : PEnv) : vVar 18 (x0 :: x1 :: x2 :: x3 :: x4 :: x5 :: x6 :: x7 :: x8 :: x9 :: x10 :: x11 :: x12 :: x13 :: x14 :: x15 :: x16 :: x17 :: some d :: ρ) = .ok d := rfl
@[simp] theorem vVar_19 (x0 x1 x2 x3 x4 x5 x6 x7 x8 x9 x10 x11 x12 x13 x14 x15 x16 x17 x18 : Option PyData) (d : PyData) (ρ : PEnv) : vVar 19 (x0 :: x1 :: x2 :: x3 :: x4 :: x5 :: x6 :: x7 :: x8 :: x9 :: x10 :: x11 :: x12 :: x13 :: x14 :: x15 :: x16 :: x17 :: x18 :: some d :: ρ) = .ok d := rfl
@[simp] theorem vVar_20 (x0 x1 x2 x3 x4 x5 x6 x7 x8 x9 x10 x11 x12 x13 x14 x15 x16 x17 x18 x19 : Option PyData) (d : PyData) (ρ : PEnv) : vVar 20 (x0 :: x1 :: x2 :: x3 :: x4 :: x5 :: x6 :: x7 :: x8 :: x9 :: x10 :: x11 :: x12 :: x13 :: x14 :: x15 :: x16 :: x17 :: x18 :: x19 :: some d :: ρ) = .ok d := rfl
@[simp] theorem vVar_21 (x0 x1 x2 x3 x4 x5 x6 x7 x8 x9 x10 x11 x12 x13 x14 x15 x16 x17 x18 x19 x20 : Option PyData) (d : PyData) (ρ : PEnv) : vVar 21 (x0 :: x1 :: x2 :: x3 :: x4 :: x5 :: x6 :: x7 :: x8 :: x9 :: x10 :: x11 :: x12 :: x13 :: x14 :: x15 :: x16 :: x17 :: x18 :: x19 :: x20 :: some d :: ρ) = .ok d := rfl
@[simp] theorem vVar_22 (x0 x1 x2 x3 x4 x5 x6 x7 x8 x9 x10 x11 x12 x13 x14 x15 x16 x17 x18 x19 x20 x21 : Option PyData) (d : PyData) (ρ : PEnv) : vVar 22 (x0 :: x1 :: x2 :: x3 :: x4 :: x5 :: x6 :: x7 :: x8 :: x9 :: x10 :: x11 :: x12 :: x13 :: x14 :: x15 :: x16 :: x17 :: x18 :: x19 :: x20 :: x21 :: some d :: ρ) = .ok d := rfl
@[simp] theorem vVar_23 (x0 x1 x2 x3 x4 x5 x6 x7 x8 x9 x10 x11 x12 x13 x14 x15 x16 x17 x18 x19 x20 x21 x22 : Option PyData) (d : PyData) (ρ : PEnv) : vVar 23 (x0 :: x1 :: x2 :: x3 :: x4 :: x5 :: x6 :: x7 :: x8 :: x9 :: x10 :: x11 :: x12 :: x13 :: x14 :: x15 :: x16 :: x17 :: x18 :: x19 :: x20 :: x21 :: x22 :: some d :: ρ) = .ok d := rfl
@[simp] theorem vVar_24 (x0 x1 x2 x3 x4 x5 x6 x7 x8 x9 x10 x11 x12 x13 x14 x15 x16 x17 x18 x19 x20 x21 x22 x23 : Option PyData) (d : PyData) (ρ : PEnv) : vVar 24 (x0 :: x1 :: x2 :: x3 :: x4 :: x5 :: x6 :: x7 :: x8 :: x9 :: x10 :: x11 :: x12 :: x13 :: x14 :: x15 :: x16 :: x17 :: x18 :: x19 :: x20 :: x21 :: x22 :: x23 :: some d :: ρ) = .ok d := rfl
@[simp] theorem vVar_25 (x0 x1 x2 x3 x4 x5 x6 x7 x8 x9 x10 x11 x12 x13 x14 x15 x16 x17 x18 x19 x20 x21 x22 x23 x24 : Option PyData) (d : PyData) (ρ : PEnv) : vVar 25 (x0 :: x1 :: x2 :: x3 :: x4 :: x5 :: x6 :: x7 :: x8 :: x9 :: x10 :: x11 :: x12 :: x13 :: x14 :: x15 :: x16 :: x17 :: x18 :: x19 :: x20 :: x21 :: x22 :: x23 :: x24 :: some d :: ρ) = .ok d := rfl
@[simp] theorem vVar_26 (x0 x1 x2 x3 x4 x5 x6 x7 x8 x9 x10 x11 x12 x13 x14 x15 x16 x17 x18 x19 x20 x21 x22 x23 x24 x25 : Option PyData) (d : PyData) (ρ : PEnv) : vVar 26 (x0 :: x1 :: x2 :: x3 :: x4 :: x5 :: x6 :: x7 :: x8 :: x9 :: x10 :: x11 :: x12 :: x13 :: x14 :: x15 :: x16 :: x17 :: x18 :: x19 :: x20 :: x21 :: x22 :: x23 :: x24 :: x25 :: some d :: ρ) = .ok d := rfl
@[simp] theorem vVar_27 (x0 x1 x2 x3 x4 x5 x6 x7 x8 x9 x10 x11 x12 x13 x14 x15 x16 x17 x18 x19 x20 x21 x22 x23 x24 x25 x26 : Option PyData) (d : PyData) (ρ : PEnv) : vVar 27 (x0 :: x1 :: x2 :: x3 :: x4 :: x5 :: x6 :: x7 :: x8 :: x9 :: x10 :: x11 :: x12 :: x13 :: x14 :: x15 :: x16 :: x17 :: x18 :: x19 :: x20 :: x21 :: x22 :: x23 :: x24 :: x25 :: x26 :: some d :: ρ) = .ok d := rfl
@[simp] theorem vVar_28 (x0 x1 x2 x3 x4 x5 x6 x7 x8 x9 x10 x11 x12 x13 x14 x15 x16 x17 x18 x19 x20 x21 x22 x23 x24 x25 x26 x27 : Option PyData) (d : PyData) (ρ : PEnv) : vVar 28 (x0 :: x1 :: x2 :: x3 :: x4 :: x5 :: x6 :: x7 :: x8 :: x9 :: x10 :: x11 :: x12 :: x13 :: x14 :: x15 :: x16 :: x17 :: x18 :: x19 :: x20 :: x21 :: x22 :: x23 :: x24 :: x25 :: x26 :: x27 :: some d :: ρ) = .ok d := rfl
@[simp] theorem vVar_29 (x0 x1 x2 x3 x4 x5 x6 x7 x8 x9 x10 x11 x12 x13 x14 x15 x16 x17 x18 x19 x20 x21 x22 x23 x24 x25 x26 x27 x28 : Option PyData) (d : PyData) (ρ : PEnv) : vVar 29 (x0 :: x1 :: x2 :: x3 :: x4 :: x5 :: x6 :: x7 :: x8 :: x9 :: x10 :: x11 :: x12 :: x13 :: x14 :: x15 :: x16 :: x17 :: x18 :: x19 :: x20 :: x21 :: x22 :: x23 :: x24 :: x25 :: x26 :: x27 :: x28 :: some d :: ρ) = .ok d := rfl
/-! ### sizes of ints -/
def Sm (n : Nat) (a : Int) : Prop := a.natAbs < 2 ^ n
theorem Sm.mono {m n : Nat} {a : Int} (h : Sm m a) (l : m ≤ n) : Sm n a := Nat.lt_of_lt_of_le h (Nat.pow_le_pow_right (by omega) l)
theorem Sm.neg {n : Nat} {a : Int} (h : Sm n a) : Sm n (-a) := by unfold Sm at *; rw [Int.natAbs_neg]; exact h
theorem Sm.add {m : Nat} {a b : Int} (h : Sm m a) (g : Sm m b) : Sm (m + 1) (a + b) := by
  unfold Sm at *
  rw [Nat.pow_succ]
  have := Int.natAbs_add_le a b
  omega
theorem Sm.sub {m : Nat} {a b : Int} (h : Sm m a) (g : Sm m b) : Sm (m + 1) (a - b) := by
  rw [Int.sub_eq_add_neg]; exact h.add g.neg
theorem Sm.mul {m n : Nat} {a b : Int} (h : Sm m a) (g : Sm n b) : Sm (m + n) (a * b) := by
  unfold Sm at *
  rw [Int.natAbs_mul, Nat.pow_add]
  exact Nat.mul_lt_mul'' h g
theorem Sm.bits {n : Nat} {a : Int} (h : Sm n a) : Builtin.Int.intBits a ≤ n := by
  unfold Builtin.Int.intBits
  split
  · omega
  · rename_i h0
    have h1 : a.natAbs ≠ 0 := fun z => h0 (by simp; omega)
    have := (Nat.log2_lt h1).mpr h
    omega
theorem Sm.mulOk {m n : Nat} {a b : Int} (h : Sm m a) (g : Sm n b) (l : m + n ≤ 134217728 := by decide) : IntMulOk a b := by
  have h1 := h.bits
  have h2 := g.bits
  unfold IntMulOk Builtin.Int.intTooBig
  intro z
  rw [Bool.and_eq_true] at z
  have z2 := of_decide_eq_true z.2
  have : (bitsLine : Int) = 134217728 := by unfold bitsLine; decide
  omega
theorem vmul_sm {m n : Nat} {a b : Int} (h : Sm m a) (g : Sm n b) (l : m + n ≤ 134217728 := by decide) : vmul (.int a) (.int b) = .ok (.int (a * b)) := vmul_int (h.mulOk g l)
end VL

namespace VL
open PySem PySem.Spec PyProof.Rows
/-! ### items -/
theorem atI_nat {α : Type} (xs : List α) (k : Nat) : L2.atI xs (k : Int) = xs[k]? := by
  unfold L2.atI L2.ixN
  by_cases h : k < xs.length
  · simp [h]
  · simp [h]
theorem vidx_list {xs : List PyData} {k : Nat} {d : PyData} (h : xs[k]? = some d) : vidx (.list xs) (.int (k : Int)) = .ok d := by
  simp only [vidx, atI_nat, h]
theorem vidx_tuple {xs : List PyData} {k : Nat} {d : PyData} (h : xs[k]? = some d) : vidx (.tuple xs) (.int (k : Int)) = .ok d := by
  simp only [vidx, atI_nat, h]
@[simp] theorem vidx_list_0 (a : PyData) (xs : List PyData) : vidx (.list (a :: xs)) (.int 0) = .ok a := vidx_list (k := 0) rfl
@[simp] theorem vidx_list_1 (a b : PyData) (xs : List PyData) : vidx (.list (a :: b :: xs)) (.int 1) = .ok b := vidx_list (k := 1) rfl
@[simp] theorem vidx_list_2 (a b c : PyData) (xs : List PyData) : vidx (.list (a :: b :: c :: xs)) (.int 2) = .ok c := vidx_list (k := 2) rfl
@[simp] theorem vidx_list_3 (a b c d : PyData) (xs : List PyData) : vidx (.list (a :: b :: c :: d :: xs)) (.int 3) = .ok d := vidx_list (k := 3) rfl
@[simp] theorem vidx_list_4 (a b c d e : PyData) (xs : List PyData) : vidx (.list (a :: b :: c :: d :: e :: xs)) (.int 4) = .ok e := vidx_list (k := 4) rfl
@[simp] theorem vidx_list_5 (a b c d e f : PyData) (xs : List PyData) : vidx (.list (a :: b :: c :: d :: e :: f :: xs)) (.int 5) = .ok f := vidx_list (k := 5) rfl
@[simp] theorem vidx_tuple_0 (a : PyData) (xs : List PyData) : vidx (.tuple (a :: xs)) (.int 0) = .ok a := vidx_tuple (k := 0) rfl
@[simp] theorem vidx_tuple_1 (a b : PyData) (xs : List PyData) : vidx (.tuple (a :: b :: xs)) (.int 1) = .ok b := vidx_tuple (k := 1) rfl
@[simp] theorem vidx_tuple_2 (a b c : PyData) (xs : List PyData) : vidx (.tuple (a :: b :: c :: xs)) (.int 2) = .ok c := vidx_tuple (k := 2) rfl
@[simp] theorem vidx_tuple_3 (a b c d : PyData) (xs : List PyData) : vidx (.tuple (a :: b :: c :: d :: xs)) (.int 3) = .ok d := vidx_tuple (k := 3) rfl
@[simp] theorem vidx_tuple_4 (a b c d e : PyData) (xs : List PyData) : vidx (.tuple (a :: b :: c :: d :: e :: xs)) (.int 4) = .ok e := vidx_tuple (k := 4) rfl
/-! ### loops -/
theorem forL_nx {kt : PyData → R (List (Nat × PyData))} {kl : OEnv → OEnv} {gb : OEnv → SR} (P : Nat → OEnv → Prop) : ∀ (ds : List PyData) (j : Nat) (ρ : OEnv), P j ρ →
    (∀ i d ρ, ds[i]? = some d → P (j + i) ρ → ∃ bs ρ', kt d = .ok bs ∧ (gb (setsO ρ bs) = .nx ρ' ∨ gb (setsO ρ bs) = .ct ρ') ∧ P (j + i + 1) (kl ρ')) → ∃ ρ', forL kt kl gb ds ρ = .nx ρ' ∧ P (j + ds.length) ρ'
  | [], j, ρ, h, _ => ⟨ρ, rfl, h⟩
  | d :: ds, j, ρ, h, hs => by
    obtain ⟨bs, ρ', h1, h2, h3⟩ := hs 0 d ρ rfl h
    obtain ⟨ρ2, h4, h5⟩ := forL_nx P ds (j + 1) (kl ρ') h3 fun i d' ρ' hd hp => by
      have := hs (i + 1) d' ρ' (by simpa using hd) (by rw [show j + (i + 1) = j + 1 + i by omega]; exact hp)
      rw [show j + (i + 1) = j + 1 + i by omega] at this
      exact this
    refine ⟨ρ2, ?_, by rw [List.length_cons, show j + (ds.length + 1) = j + 1 + ds.length by omega]; exact h5⟩
    unfold forL
    rw [h1]
    rcases h2 with h2 | h2 <;> (simp only [h2]; exact h4)
theorem rangeD_get {lo : Int} {n i : Nat} {d : PyData} (h : (rangeD lo n)[i]? = some d) : i < n ∧ d = .int (lo + (i : Int)) := by
  have hi : i < n := by
    obtain ⟨q, _⟩ := List.getElem?_eq_some_iff.mp h
    rw [rangeD_len] at q; exact q
  rw [rangeD_at hi] at h
  cases h
  exact ⟨hi, rfl⟩
theorem rngOk_nat {n : Nat} (h : n ≤ 16777216) : rngOk 0 (n : Int) := by unfold rngOk; omega
@[simp] theorem vrange1_nat {n : Nat} (h : n ≤ 16777216) : vrange1 (.int (n : Int)) = .ok (rangeD 0 n) := by
  rw [vrange1_int, if_pos (rngOk_nat h)]; simp
theorem vmul_r {a b : Int} (h : Sm 64 b) : vmul (.int a) (.int b) = .ok (.int (a * b)) := vmul_int (IntMulOk.of_right h.bits)
theorem vmul_l {a b : Int} (h : Sm 64 a) : vmul (.int a) (.int b) = .ok (.int (a * b)) := vmul_int (IntMulOk.of_left h.bits)
theorem sm_of {n : Nat} {a : Int} (h : -(2 ^ n : Int) < a ∧ a < 2 ^ n) : Sm n a := by
  unfold Sm
  have e : ((2 ^ n : Nat) : Int) = 2 ^ n := by simp
  omega
theorem Sm.lit {n : Nat} {a : Int} (h : a.natAbs < 2 ^ n := by decide) : Sm n a := h
theorem szL : sizeLine = 16777216 := by with_unfolding_all rfl
end VL

namespace VL
open PySem PySem.Spec PyProof.Rows
@[simp] theorem gT_ap (k : List PyData → R (List (Nat × PyData))) (xs : List PyData) : gT k (.tuple xs) = k xs := rfl
@[simp] theorem gC_ap (g : PyData → R (List (Nat × PyData))) (h : List PyData → R (List (Nat × PyData))) (d : PyData) (ds : List PyData) : gC g h (d :: ds) = (g d).bind fun bs => (h ds).bind fun cs => .ok (bs ++ cs) := rfl
@[simp] theorem gE_ap : gE [] = .ok [] := rfl
/-! ### bounds found by instances -/
class Bd (a : Int) (n : outParam Nat) : Prop where
  h : Sm n a
instance bd_add {a b : Int} {m n : Nat} [ha : Bd a m] [hb : Bd b n] : Bd (a + b) (max m n + 1) := ⟨(ha.h.mono (Nat.le_max_left m n)).add (hb.h.mono (Nat.le_max_right m n))⟩
instance bd_sub {a b : Int} {m n : Nat} [ha : Bd a m] [hb : Bd b n] : Bd (a - b) (max m n + 1) := ⟨(ha.h.mono (Nat.le_max_left m n)).sub (hb.h.mono (Nat.le_max_right m n))⟩
instance bd_mul {a b : Int} {m n : Nat} [ha : Bd a m] [hb : Bd b n] : Bd (a * b) (m + n) := ⟨ha.h.mul hb.h⟩
instance bd_neg {a : Int} {m : Nat} [ha : Bd a m] : Bd (-a) m := ⟨ha.h.neg⟩
instance bd_ite {p : Prop} [Decidable p] {a b : Int} {m n : Nat} [ha : Bd a m] [hb : Bd b n] : Bd (if p then a else b) (max m n) := ⟨by
  split
  · exact ha.h.mono (Nat.le_max_left m n)
  · exact hb.h.mono (Nat.le_max_right m n)⟩
theorem bd_modl {a k : Int} {n : Nat} (h0 : 0 < k) (h : k < 2 ^ n) : Bd (a % k) n := ⟨by
  have a1 := Int.emod_nonneg a (b := k) (by omega)
  have a2 := Int.emod_lt_of_pos a h0
  exact sm_of ⟨by omega, by omega⟩⟩
@[simp] theorem vmul_bd {a b : Int} {m n : Nat} [ha : Bd a m] [hb : Bd b n] (h : m + n ≤ 134217728) : vmul (.int a) (.int b) = .ok (.int (a * b)) := vmul_sm ha.h hb.h h
theorem pick3 (x : Int) (P : PyData → Prop) {a b c : PyData} (ha : P a) (hb : P b) (hc : P c) : ∃ d, P d ∧ vidx (.list [a, b, c]) (.int (x % 3)) = .ok d := by
  have h1 := Int.emod_nonneg x (b := 3) (by omega)
  have h2 := Int.emod_lt_of_pos x (b := 3) (by omega)
  generalize x % 3 = y at h1 h2
  obtain rfl | rfl | rfl : y = 0 ∨ y = 1 ∨ y = 2 := by omega
  · exact ⟨a, ha, by simp⟩
  · exact ⟨b, hb, by simp⟩
  · exact ⟨c, hc, by simp⟩
theorem pick4 (x : Int) (P : PyData → Prop) {a b c e : PyData} (ha : P a) (hb : P b) (hc : P c) (he : P e) : ∃ d, P d ∧ vidx (.list [a, b, c, e]) (.int (x % 4)) = .ok d := by
  have h1 := Int.emod_nonneg x (b := 4) (by omega)
  have h2 := Int.emod_lt_of_pos x (b := 4) (by omega)
  generalize x % 4 = y at h1 h2
  obtain rfl | rfl | rfl | rfl : y = 0 ∨ y = 1 ∨ y = 2 ∨ y = 3 := by omega
  · exact ⟨a, ha, by simp⟩
  · exact ⟨b, hb, by simp⟩
  · exact ⟨c, hc, by simp⟩
  · exact ⟨e, he, by simp⟩
end VL

namespace VL
open PySem PySem.Spec PyProof.Rows
/-- data of a depth: no dict, texts and lists of a size -/
def okS : Nat → PyData → Prop
  | 0, _ => False
  | _ + 1, .none => True
  | _ + 1, .bool _ => True
  | _ + 1, .int _ => True
  | _ + 1, .str s => PyData.strOk s = true
  | n + 1, .list xs => xs.length ≤ 16777216 ∧ ∀ x ∈ xs, okS n x
  | n + 1, .tuple xs => xs.length ≤ 16777216 ∧ ∀ x ∈ xs, okS n x
  | _ + 1, .dict _ => False
theorem all_lay {n : Nat} (ih : ∀ {d : PyData}, okS n d → d.canLay0 = true ∧ d.depth ≤ n ∧ PyData.eqv d d = true) : ∀ ys : List PyData, (∀ x ∈ ys, okS n x) → PyData.canLayAll0 ys = true ∧ PyData.depthAll ys ≤ n ∧ PyData.eqvAll ys ys = true
  | [], _ => by simp [PyData.canLayAll0, PyData.depthAll, PyData.eqvAll]
  | y :: ys, hy => by
    have h1 := ih (hy y List.mem_cons_self)
    have h2 := all_lay ih ys fun x hx => hy x (List.mem_cons_of_mem _ hx)
    simp only [PyData.canLayAll0, PyData.depthAll, PyData.eqvAll, Bool.and_eq_true]
    exact ⟨⟨h1.1, h2.1⟩, by omega, h1.2.2, h2.2.2⟩
theorem okS.lay : ∀ {n : Nat} {d : PyData}, okS n d → d.canLay0 = true ∧ d.depth ≤ n ∧ PyData.eqv d d = true
  | 0, _, h => h.elim
  | n + 1, .none, _ => by simp [PyData.canLay0, PyData.depth, PyData.eqv]
  | n + 1, .bool _, _ => by simp [PyData.canLay0, PyData.depth, PyData.eqv]
  | n + 1, .int _, _ => by simp [PyData.canLay0, PyData.depth, PyData.eqv]
  | n + 1, .str s, h => by simp only [PyData.canLay0, PyData.depth, PyData.eqv]; exact ⟨h, Nat.zero_le _, by simp⟩
  | n + 1, .list xs, h => by
    have := all_lay (fun {d} => okS.lay (n := n) (d := d)) xs h.2
    simp only [PyData.canLay0, PyData.depth, PyData.eqv]
    exact ⟨this.1, by omega, this.2.2⟩
  | n + 1, .tuple xs, h => by
    have := all_lay (fun {d} => okS.lay (n := n) (d := d)) xs h.2
    simp only [PyData.canLay0, PyData.depth, PyData.eqv]
    exact ⟨this.1, by omega, this.2.2⟩
theorem okS.shaped {n : Nat} {d : PyData} (h : okS n d) (hn : n ≤ 64 := by decide) : SeqAt.shaped d = true := by
  have := h.lay
  unfold SeqAt.shaped
  rw [this.1, decide_eq_true (show d.depth ≤ 64 by omega)]
  rfl
theorem vEq_ok {m n : Nat} {d e : PyData} (h : okS m d) (g : okS n e) (hm : m ≤ 64 := by decide) (hn : n ≤ 64 := by decide) : vEq d e = .ok (PyData.eqv d e) := if_pos ⟨h.shaped hm, g.shaped hn⟩
theorem veq_ok {m n : Nat} {d e : PyData} (h : okS m d) (g : okS n e) (hm : m ≤ 64 := by decide) (hn : n ≤ 64 := by decide) : veq d e = .ok (.bool (PyData.eqv d e)) := by
  unfold veq; rw [vEq_ok h g hm hn]; rfl
theorem vne_ok {m n : Nat} {d e : PyData} (h : okS m d) (g : okS n e) (hm : m ≤ 64 := by decide) (hn : n ≤ 64 := by decide) : vne d e = .ok (.bool (!PyData.eqv d e)) := by
  unfold vne; rw [vEq_ok h g hm hn]; rfl
theorem vne_refl {n : Nat} {d : PyData} (h : okS n d) (hn : n ≤ 64 := by decide) : vne d d = .ok (.bool false) := by
  rw [vne_ok h h hn hn, h.lay.2.2]; rfl
theorem veq_refl {n : Nat} {d : PyData} (h : okS n d) (hn : n ≤ 64 := by decide) : veq d d = .ok (.bool true) := by
  rw [veq_ok h h hn hn, h.lay.2.2]
theorem vidx_list' {xs : List PyData} {j : Int} {k : Nat} {d : PyData} (hj : j = (k : Int)) (h : xs[k]? = some d) : vidx (.list xs) (.int j) = .ok d := by rw [hj]; exact vidx_list h
theorem vidx_tuple' {xs : List PyData} {j : Int} {k : Nat} {d : PyData} (hj : j = (k : Int)) (h : xs[k]? = some d) : vidx (.tuple xs) (.int j) = .ok d := by rw [hj]; exact vidx_tuple h
theorem vfdiv_pos {a b : Int} (h : 0 < b) (h2 : b < 2 ^ 250) : vfdiv (.int a) (.int b) = .ok (.int (a / b)) := if_pos ⟨h, h2⟩
@[simp] theorem veq_strS {a b : Str} (ha : PyData.strOk a = true) (hb : PyData.strOk b = true) : veq (.str a) (.str b) = .ok (.bool (decide (a = b))) := veq_str ha hb
@[simp] theorem vne_strS {a b : Str} (ha : PyData.strOk a = true) (hb : PyData.strOk b = true) : vne (.str a) (.str b) = .ok (.bool (!decide (a = b))) := vne_str ha hb
theorem ixN_nat {n j : Nat} (h : j < n) : L2.ixN n (j : Int) = some j := by unfold L2.ixN; simp [h]
/-- a comprehension item by item -/
theorem compL_rel {kt : PyData → R (List (Nat × PyData))} {ft : PEnv → R Bool} {fe : PEnv → R PyData} {ρ : PEnv} (S : Nat → PyData → Prop) : ∀ (ds : List PyData) (j : Nat),
    (∀ i d, ds[i]? = some d → ∃ bs y, kt d = .ok bs ∧ ft (setsD ρ bs) = .ok true ∧ fe (setsD ρ bs) = .ok y ∧ S (j + i) y) → ∃ ys, compL kt ft fe ρ ds = .ok ys ∧ ys.length = ds.length ∧ ∀ i y, ys[i]? = some y → S (j + i) y
  | [], j, _ => ⟨[], rfl, rfl, fun i y h => by simp at h⟩
  | d :: ds, j, h => by
    obtain ⟨bs, y, h1, h2, h3, h4⟩ := h 0 d rfl
    obtain ⟨ys, h5, h6, h7⟩ := compL_rel S ds (j + 1) fun i d' hd => by
      have := h (i + 1) d' (by simpa using hd)
      rw [show j + (i + 1) = j + 1 + i by omega] at this
      exact this
    refine ⟨y :: ys, ?_, by simp [h6], fun i z hz => ?_⟩
    · simp only [compL, h1, R.bind_ok, h2, h3, calm_okk, h5, if_true]
    · cases i with
      | zero => simp at hz; subst hz; exact h4
      | succ i =>
        have := h7 i z (by simpa using hz)
        rw [show j + (i + 1) = j + 1 + i by omega]
        exact this
@[simp] theorem vcomp_ap (own : List Nat) (fi : PEnv → R (List PyData)) (kt : PyData → R (List (Nat × PyData))) (ft : PEnv → R Bool) (fe : PEnv → R PyData) (ρ : PEnv) : vcomp own fi kt ft fe ρ = (fi ρ).bind fun ds => (compL kt ft fe (wipeD ρ own) ds).calm := rfl
@[simp] theorem vadd_list {xs ys : List PyData} (h : xs.length + ys.length ≤ 16777216) : vadd (.list xs) (.list ys) = .ok (.list (xs ++ ys)) := if_pos (by rw [szL]; exact h)
@[simp] theorem vadd_tuple {xs ys : List PyData} (h : xs.length + ys.length ≤ 16777216) : vadd (.tuple xs) (.tuple ys) = .ok (.tuple (xs ++ ys)) := if_pos (by rw [szL]; exact h)
end VL

namespace VL
open PySem PySem.Spec PyProof.Rows L2
/-! ### raise of an own class over ValueError, with a text -/
structure ExcF (K : PySem.W.Frag) (mg : Str → Option Value) (x : Str) (C : Addr) : Prop where
  xF : PySem.W.excIn K C [.type "ValueError", .type "Exception", .type "BaseException", .type "object"] "ValueError.__new__" = true
  gF : mg x = some (.ref C)
  kF : PySem.W.keepIn K (.ref C) = true
  bF : PySem.W.subIn K (.ref C) (.type "BaseException") = some true
  tF : PySem.W.typeIn K (.ref C) = some (.type "type")
def sRaise (c : Str) : OEnv → SR := fun ρ => .err c ρ
@[simp] theorem sRaise_ap (c : Str) (ρ : OEnv) : sRaise c ρ = .err c ρ := rfl
theorem vs_raise {X : Cx} {W : WX} {x m : Str} {j : Nat} {p p2 pos pos2 : Pos} {C : Addr} (hc : X.calm = true) (tk : Takes X W) (E : ExcF X.K X.mg x C) (hg : Gl X x := by rfl) (hdb : (x == ("__debug__" : Str)) = false := by decide) :
    VS X W (.Raise (some (.Call (.Name x p) [.Constant (.str m) j p2] [] pos)) none pos2) (sRaise x) := by
  refine ⟨_, ps_raise hc tk (pmk_own PySem.F.excBase_ValueError E.xF E.gF E.kF (raises_own E.bF E.tF) hg hdb), fun D σ H F0 H0 F ρ r pr => ?_⟩
  obtain ⟨C', e, w⟩ := pr σ H F r
  rw [E.gF] at e
  cases e
  exact w
end VL

namespace VL
open PySem PySem.Spec PyProof.Rows L2
/-! ### try: body, except C as e: suite -/
def tVS (X : Cx) (W : WX) (g : OEnv → SR) : TS := fun D σ H => ∃ F0 H0 F ρ, RS X.K F0 H0 F H σ ρ ∧ SPst X W F0 H0 D (g ρ)
theorem VSs.pss {X : Cx} {W : WX} {sts : List Stmt} {g : OEnv → SR} (h : VSs X W sts g) : PSs X sts (tVS X W g) := by
  obtain ⟨t, p, q⟩ := h.ex
  exact ⟨fun pins s σ H D I ⟨F0, H0, F, ρ, r, z⟩ => p.run pins s σ H D I (q D σ H F0 H0 F ρ r z)⟩
/-- the caught exception as data -/
def excD (a : Addr) (c : Str) : PyData := .dict [(.int (a : Int), .str c)]
/-- what comes out alike wherever the exception stands -/
noncomputable def anyA (g : Addr → SR) : SR := open Classical in if h : ∃ r, ∀ a, g a = r then Classical.choose h else .stuck
theorem anyA_eq {g : Addr → SR} {r : SR} (h : ∀ a, g a = r) : anyA g = r := by
  unfold anyA
  have ex : ∃ r, ∀ a, g a = r := ⟨r, h⟩
  rw [dif_pos ex]
  exact (Classical.choose_spec ex 0).symm.trans (h 0)
theorem anyA_at {g : Addr → SR} (h : anyA g ≠ .stuck) (a : Addr) : g a = anyA g := by
  unfold anyA at h ⊢
  split at h
  · rename_i ex
    rw [dif_pos ex]
    exact Classical.choose_spec ex a
  · exact absurd rfl h
/-- the clause's name goes -/
def SR.unset (i : Nat) : SR → SR
  | .nx ρ => .nx (ρ.set i none)
  | .bk ρ => .bk (ρ.set i none)
  | .ct ρ => .ct (ρ.set i none)
  | .rt o => .rt o
  | _ => .stuck
@[simp] theorem unset_nx (i : Nat) (ρ : OEnv) : SR.unset i (.nx ρ) = .nx (ρ.set i none) := rfl
@[simp] theorem unset_bk (i : Nat) (ρ : OEnv) : SR.unset i (.bk ρ) = .bk (ρ.set i none) := rfl
@[simp] theorem unset_ct (i : Nat) (ρ : OEnv) : SR.unset i (.ct ρ) = .ct (ρ.set i none) := rfl
@[simp] theorem unset_rt (i : Nat) (o : O) : SR.unset i (.rt o) = .rt o := rfl
/-- what the body's exception comes to -/
noncomputable def catchA (tb : Str → Option Bool) (i : Nat) (gs : Addr → Str → OEnv → SR) : SR → SR
  | .err c ρ => match tb c with
    | some true => anyA fun a => (gs a c (ρ.set i (some (.fz (excD a c))))).unset i
    | some false => .err c ρ
    | none => .stuck
  | r => r
noncomputable def sTryAs (gb : OEnv → SR) (tb : Str → Option Bool) (i : Nat) (gs : Addr → Str → OEnv → SR) : OEnv → SR := fun ρ => catchA tb i gs (gb ρ)
@[simp] theorem sTryAs_ap (gb : OEnv → SR) (tb : Str → Option Bool) (i : Nat) (gs : Addr → Str → OEnv → SR) (ρ : OEnv) : sTryAs gb tb i gs ρ = catchA tb i gs (gb ρ) := rfl
@[simp] theorem catchA_nx (tb : Str → Option Bool) (i : Nat) (gs : Addr → Str → OEnv → SR) (ρ : OEnv) : catchA tb i gs (.nx ρ) = .nx ρ := rfl
@[simp] theorem catchA_rt (tb : Str → Option Bool) (i : Nat) (gs : Addr → Str → OEnv → SR) (o : O) : catchA tb i gs (.rt o) = .rt o := rfl
@[simp] theorem catchA_ct (tb : Str → Option Bool) (i : Nat) (gs : Addr → Str → OEnv → SR) (ρ : OEnv) : catchA tb i gs (.ct ρ) = .ct ρ := rfl
@[simp] theorem catchA_bk (tb : Str → Option Bool) (i : Nat) (gs : Addr → Str → OEnv → SR) (ρ : OEnv) : catchA tb i gs (.bk ρ) = .bk ρ := rfl
theorem catchA_hit {tb : Str → Option Bool} {i : Nat} {gs : Addr → Str → OEnv → SR} {c : Str} {ρ : OEnv} {r : SR} (h : tb c = some true) (e : ∀ a, (gs a c (ρ.set i (some (.fz (excD a c))))).unset i = r) : catchA tb i gs (.err c ρ) = r := by
  simp only [catchA, h]
  exact anyA_eq e
/-- a handler's class, and which classes it takes -/
structure HTab (K : PySem.W.Frag) (mg : Str → Option Value) (x : Str) (tb : Str → Option Bool) : Prop where
  ex : ∃ c, mg x = some c ∧ ∀ cn b, tb cn = some b → ∃ C, mg cn = some (.ref C) ∧ PySem.W.exmOne K (.ref C) c = some b
theorem RS.dropN {K : PySem.W.Frag} {F0 H0 F H : Hp} {σ : L2.St} {ρ : OEnv} (r : RS K F0 H0 F H σ ρ) (i : Nat) : RS K F0 H0 F H (σ.set i none) (ρ.set i none) := by
  obtain ⟨fps, s, hs⟩ := r.ex
  obtain ⟨fpr, z1, z2⟩ := s.drop i none
  exact ⟨fpr, z1, hs.sub z2⟩
section
variable {X : Cx} {W : WX} {body suite : List Stmt} {b₀ : Stmt} {np pos pos' : Pos} {x n : Str} {gb : OEnv → SR} {gs : Addr → Str → OEnv → SR} {tb : Str → Option Bool}
theorem vs_tryAs (i : Nat) (hs : X.stack = X.env :: X.outer) (hf : X.env.frame = some X.env.locals) (hN : X.N.Nodup) (tk : Takes X W) (T : HTab X.K X.mg x tb)
    (hb : ∀ (W' : WX) (pn : List (Addr × Obj)) (xe : Value → Shared → Prop), Takes (X.tr pn xe) W' → PassesOwn (model X.prog X.w) X.A X.env xe → VSs (X.tr pn xe) W' body gb)
    (hsu : ∀ (a : Addr) (oe : Obj) (cn : Str) (C : Addr) (pn : List (Addr × Obj)), X.mg cn = some (.ref C) → Zc (.ref C) none oe → (∃ vs, oe.data = .fields vs) → VSs (X.suite a ((a, oe) :: pn)) W0 (b₀ :: suite) (gs a cn))
    (hi : X.N[i]? = some n := by rfl) (hln : X.env.kindOf n = some .local := by rfl) (hg : Gl X x := by rfl) (hdb : (x == ("__debug__" : Str)) = false := by decide) :
    VS X W (.Try body [.ExceptHandler (some (.Name x np)) (some n) (b₀ :: suite) pos'] [] [] pos) (sTryAs gb tb i gs) := by
  obtain ⟨c, hm, tab⟩ := T.ex
  refine ⟨_, ps_try_as (c := c) (i := i) (tb := fun W' => tVS X W' gb) (ts := fun a cls d => fun D σ H => ∃ cn C, cls = .ref C ∧ d = none ∧ X.mg cn = some (.ref C) ∧ tVS X W0 (gs a cn) D σ H) (Wout := W) hs hf hN hi hln ⟨hg, hdb, .inl hm⟩ tk
    (fun W' pn xe tk' hp => (hb W' pn xe tk' hp).pss) (fun a oe cls d pn hz hfd => ⟨fun pins s σ H D I ⟨cn, C, e1, e2, hmc, h⟩ => by
      subst e1 e2
      exact (hsu a oe cn C pn hmc hz hfd).pss.run pins s σ H D I h⟩), fun D σ H F0 H0 F ρ r pr => ?_⟩
  refine ⟨F0, H0, F, ρ, r, ?_⟩
  unfold sTryAs at pr
  generalize gb ρ = rr at pr ⊢
  cases rr with
  | stuck => exact pr
  | nx ρ' => exact pr
  | bk ρ' => exact pr
  | ct ρ' => exact pr
  | rt o => exact pr
  | err cn ρ' =>
    intro σ' H' F' r'
    simp only [catchA] at pr
    cases ht : tb cn with
    | none => rw [ht] at pr; exact pr.elim
    | some b =>
      obtain ⟨C, hC, he⟩ := tab cn b ht
      rw [ht] at pr
      cases b with
      | false =>
        obtain ⟨C', hC', hw⟩ := pr σ' H' F' r'
        exact ⟨C', hC', false, by rw [hC] at hC'; cases hC'; exact he, fun z => (nomatch z), fun _ => hw⟩
      | true =>
        refine ⟨C, hC, true, he, fun _ a na => ⟨cn, C, rfl, rfl, hC, F0, H0, F', _, (r'.consFz (.exc a cn)).put i, ?_⟩, fun z => (nomatch z)⟩
        have ns : anyA (fun a => (gs a cn (ρ'.set i (some (.fz (excD a cn))))).unset i) ≠ .stuck := fun z => by
          simp only [] at pr
          rw [z] at pr
          exact pr
        have ea := anyA_at ns a
        simp only [] at pr
        rw [← ea] at pr
        simp only [excD] at pr
        generalize gs a cn (ρ'.set i (some (.fz (.dict [(.int (a : Int), .str cn)])))) = rs at pr ⊢
        cases rs with
        | stuck => exact pr.elim
        | err c ρ => exact pr.elim
        | nx ρ3 => exact fun σ3 H3 F3 r3 => pr _ _ _ (r3.dropN i)
        | bk ρ3 => exact fun σ3 H3 F3 r3 => pr _ _ _ (r3.dropN i)
        | ct ρ3 => exact fun σ3 H3 F3 r3 => pr _ _ _ (r3.dropN i)
        | rt o => exact pr
/-- try: body, except C: suite -/
noncomputable def catchO (tb : Str → Option Bool) (gs : OEnv → SR) : SR → SR
  | .err c ρ => match tb c with
    | some true => (match gs ρ with
      | .err _ _ => .stuck
      | r => r)
    | some false => .err c ρ
    | none => .stuck
  | r => r
noncomputable def sTryO (gb : OEnv → SR) (tb : Str → Option Bool) (gs : OEnv → SR) : OEnv → SR := fun ρ => catchO tb gs (gb ρ)
@[simp] theorem sTryO_ap (gb : OEnv → SR) (tb : Str → Option Bool) (gs : OEnv → SR) (ρ : OEnv) : sTryO gb tb gs ρ = catchO tb gs (gb ρ) := rfl
@[simp] theorem catchO_nx (tb : Str → Option Bool) (gs : OEnv → SR) (ρ : OEnv) : catchO tb gs (.nx ρ) = .nx ρ := rfl
@[simp] theorem catchO_rt (tb : Str → Option Bool) (gs : OEnv → SR) (o : O) : catchO tb gs (.rt o) = .rt o := rfl
@[simp] theorem catchO_ct (tb : Str → Option Bool) (gs : OEnv → SR) (ρ : OEnv) : catchO tb gs (.ct ρ) = .ct ρ := rfl
@[simp] theorem catchO_bk (tb : Str → Option Bool) (gs : OEnv → SR) (ρ : OEnv) : catchO tb gs (.bk ρ) = .bk ρ := rfl
theorem catchO_hit {tb : Str → Option Bool} {gs : OEnv → SR} {c : Str} {ρ : OEnv} (h : tb c = some true) : catchO tb gs (.err c ρ) = match gs ρ with | .err _ _ => .stuck | r => r := by
  simp only [catchO, h]
theorem vs_tryO {gs : OEnv → SR} (hs : X.stack = X.env :: X.outer) (hf : X.env.frame = some X.env.locals) (tk : Takes X W) (T : HTab X.K X.mg x tb)
    (hb : ∀ (W' : WX) (pn : List (Addr × Obj)) (xe : Value → Shared → Prop), Takes (X.tr pn xe) W' → PassesOwn (model X.prog X.w) X.A X.env xe → VSs (X.tr pn xe) W' body gb)
    (hsu : ∀ (a : Addr) (oe : Obj) (pn : List (Addr × Obj)), VSs (X.suite a ((a, oe) :: pn)) W0 (b₀ :: suite) gs)
    (hg : Gl X x := by rfl) (hdb : (x == ("__debug__" : Str)) = false := by decide) :
    VS X W (.Try body [.ExceptHandler (some (.Name x np)) none (b₀ :: suite) pos'] [] [] pos) (sTryO gb tb gs) := by
  obtain ⟨c, hm, tab⟩ := T.ex
  refine ⟨_, ps_try_only (c := c) (tb := fun W' => tVS X W' gb) (ts := fun a cls d => tVS X W0 gs) (Wout := W) hs hf ⟨hg, hdb, .inl hm⟩ tk
    (fun W' pn xe tk' hp => (hb W' pn xe tk' hp).pss) (fun a oe cls d pn hz hfd => (hsu a oe pn).pss), fun D σ H F0 H0 F ρ r pr => ?_⟩
  refine ⟨F0, H0, F, ρ, r, ?_⟩
  unfold sTryO at pr
  generalize gb ρ = rr at pr ⊢
  cases rr with
  | stuck => exact pr
  | nx ρ' => exact pr
  | bk ρ' => exact pr
  | ct ρ' => exact pr
  | rt o => exact pr
  | err cn ρ' =>
    intro σ' H' F' r'
    simp only [catchO] at pr
    cases ht : tb cn with
    | none => rw [ht] at pr; exact pr.elim
    | some b =>
      obtain ⟨C, hC, he⟩ := tab cn b ht
      rw [ht] at pr
      cases b with
      | false =>
        obtain ⟨C', hC', hw⟩ := pr σ' H' F' r'
        exact ⟨C', hC', false, by rw [hC] at hC'; cases hC'; exact he, fun z => (nomatch z), fun _ => hw⟩
      | true =>
        refine ⟨C, hC, true, he, fun _ a na => ⟨F0, H0, F', _, r', ?_⟩, fun z => (nomatch z)⟩
        simp only [] at pr
        generalize gs ρ' = rs at pr ⊢
        cases rs with
        | stuck => exact pr.elim
        | err c ρ => exact pr.elim
        | nx ρ3 => exact pr
        | bk ρ3 => exact pr
        | ct ρ3 => exact pr
        | rt o => exact pr
end
/-! ### isinstance of the caught exception -/
def vIsE (a : Addr) (cn : Str) (tb : Str → Option Bool) : PyData → R PyData
  | .dict [(.int a', .str c')] => if a' = (a : Int) ∧ c' = cn then (match tb cn with | some b => .ok (.bool b) | none => .stuck) else .stuck
  | _ => .stuck
@[simp] theorem vIsE_ap (a : Addr) (cn : Str) (tb : Str → Option Bool) : vIsE a cn tb (excD a cn) = match tb cn with | some b => .ok (.bool b) | none => .stuck := by
  simp [vIsE, excD]
/-- the answers of isinstance(e, x) for the classes that tb tells of -/
structure ITab (K : PySem.W.Frag) (mg : Str → Option Value) (x : Str) (cv : Value) (tb : Str → Option Bool) : Prop where
  kt : ∀ cn D b, mg cn = some (.ref D) → tb cn = some b → ExcC K D ∧ PySem.W.kitOne K (.ref D) cv = some b
theorem kit_ref {K : PySem.W.Frag} {t : Value} {C : Addr} {b : Bool} (hd : PySem.W.hasDictIn K C = true) (ht : PySem.W.typeIn K (.ref C) = some (.type "type")) (hs : PySem.W.subIn K t (.ref C) = some b) (hn : (t == .ref C) = false ∨ b = true) : PySem.W.kitOne K t (.ref C) = some b := by
  obtain ⟨cd, hc, _⟩ := PySem.W.any_some hd
  have e : ((PySem.W.clsIn K C).isSome && PySem.W.typeIn K (.ref C) == some (.type "type")) = true := by rw [hc, ht]; rfl
  have e2 : PySem.W.kitCls K t (.ref C) = some b := by
    show (if ((PySem.W.clsIn K C).isSome && PySem.W.typeIn K (.ref C) == some (.type "type")) = true then PySem.W.subIn K t (.ref C) else none) = some b
    rw [if_pos e]; exact hs
  unfold PySem.W.kitOne
  split
  · rename_i h
    rcases hn with hn | hn
    · rw [h] at hn; cases hn
    · rw [hn]
  · exact e2
theorem kit_type {K : PySem.W.Frag} {t : Value} {T : String} {b : Bool} (hm : PySem.W.kitMeta T = true) (hs : PySem.W.subIn K t (.type T) = some b) (hn : (t == .type T) = false) : PySem.W.kitOne K t (.type T) = some b := by
  unfold PySem.W.kitOne
  rw [hn]
  show (if PySem.W.kitMeta T = true then PySem.W.subIn K t (.type T) else none) = some b
  rw [if_pos hm]; exact hs
def orT (f g : Str → Option Bool) : Str → Option Bool := fun c => match f c with
  | some true => some true
  | some false => g c
  | none => none
theorem tab_of {P : Str → Bool → Prop} {l : List (Str × Bool)} (h : ∀ p ∈ l, P p.1 p.2) : ∀ cn b, l.lookup cn = some b → P cn b := by
  induction l with
  | nil => intro cn b e; cases e
  | cons p l ih =>
    intro cn b e
    rw [List.lookup_cons] at e
    split at e
    · rename_i hb
      cases e
      rw [show cn = p.1 from by simpa using hb]
      exact h p List.mem_cons_self
    · exact ih (fun q hq => h q (List.mem_cons_of_mem _ hq)) cn b e
section
variable {X : Cx} {W : WX} {a : Addr} {oe : Obj} {pn : List (Addr × Obj)} {C : Addr} {cn : Str} {ea : Expr} {fa : PEnv → R PyData}
theorem pe_never {X : Cx} {e : Expr} : PE X e (fun _ _ _ => False) := ⟨fun _ _ _ _ _ _ h => h.elim⟩
theorem is_excD {K : PySem.W.Frag} {F : Hp} {v : V} {d : PyData} {tb : Str → Option Bool} (h : Is K F v d) (hd : vIsE a cn tb d ≠ .stuck) : v = .ref a ∧ ∃ b, tb cn = some b ∧ vIsE a cn tb d = .ok (.bool b) := by
  cases h <;> first | exact absurd rfl hd | skip
  rename_i a' c'
  simp only [vIsE] at hd ⊢
  split at hd
  · rename_i hh
    obtain ⟨h1, rfl⟩ := hh
    have : a' = a := Int.ofNat_inj.mp h1
    subst this
    refine ⟨rfl, ?_⟩
    cases ht : tb c' with
    | none => rw [ht] at hd; exact absurd rfl hd
    | some b => exact ⟨b, rfl, by simp⟩
  · exact absurd rfl hd
/-- one class -/
theorem visE (i : Nat) {x : Str} {cv : Value} {vv : V} {tb : Str → Option Bool} {p p2 pos : Pos} (hmc : X.mg cn = some (.ref C)) (hz : Zc (.ref C) none oe) (hf : ∃ vs, oe.data = .fields vs) (T : ITab X.K X.mg x cv tb) (pc : ∀ {p2 : Pos}, PE (X.suite a ((a, oe) :: pn)) (.Name x p2) (tC vv)) (hv : ∀ u, RelV vv u → u = cv)
    (hm : X.mg "isinstance" = none) (ha : VE (X.suite a ((a, oe) :: pn)) W ea (vVar i)) (hg : Gl X "isinstance" := by rfl)
    (he : starEach [ea, .Name x p2] X.env = (false, eval ea X.env) :: starEach [.Name x p2] X.env := by rfl) (he2 : starEach [.Name x p2] X.env = (false, eval (.Name x p2) X.env) :: starEach [] X.env := by rfl) (hpl : (backTo pos (starEach [.Name x p2] X.env)).any (·.1) = false := by rfl) :
    VE (X.suite a ((a, oe) :: pn)) W (.Call (.Name "isinstance" p) [ea, .Name x p2] [] pos) (v1 (vIsE a cn tb) (vVar i)) := by
  obtain ⟨ta, pa, qa⟩ := ha.ex
  cases ht : tb cn with
  | none =>
    refine VE.mk' pe_never fun σ H B ρ Q s rf pr => ?_
    have e : v1 (vIsE a cn tb) (vVar i) ρ = .stuck := by
      unfold v1 vVar
      split
      · rename_i d _
        simp only [R.bind_ok]
        unfold vIsE
        split
        · simp [ht]
        · rfl
      · rfl
    rw [e] at pr
    exact pr
  | some b =>
    obtain ⟨ec, ek⟩ := T.kt cn C b hmc ht
    refine VE.mk' (pe_callB (X := X.suite a ((a, oe) :: pn)) (call_isE ec hz hf) hg hm (by decide +kernel) (pa_cons pa (pa_cons pc pa_nil he2) he) (by decide) (by decide) he hpl) fun σ H B ρ Q s rf pr => ?_
    refine one qa s rf pr fun d v H' B' ex sm dx pg => ?_
    have h0 : vIsE a cn tb d ≠ .stuck := fun z => by rw [z] at pg; exact pg
    obtain ⟨rfl, b', hb', e'⟩ := is_excD dx h0
    rw [ht] at hb'
    cases hb'
    rw [e'] at pg
    exact ⟨vv, cv, b, rfl, hv, ek, pg _ H' B' ex (.bl _)⟩
/-- an own class x at A -/
theorem visE_own (i : Nat) {x : Str} {A : Addr} {tb : Str → Option Bool} {p p2 pos : Pos} (hmc : X.mg cn = some (.ref C)) (hz : Zc (.ref C) none oe) (hf : ∃ vs, oe.data = .fields vs) (T : ITab X.K X.mg x (.ref A) tb) (hx : X.mg x = some (.ref A))
    (hm : X.mg "isinstance" = none) (ha : VE (X.suite a ((a, oe) :: pn)) W ea (vVar i)) (hg : Gl X "isinstance" := by rfl) (hgx : Gl X x := by rfl) (hdb : (x == ("__debug__" : Str)) = false := by decide)
    (he : starEach [ea, .Name x p2] X.env = (false, eval ea X.env) :: starEach [.Name x p2] X.env := by rfl) (he2 : starEach [.Name x p2] X.env = (false, eval (.Name x p2) X.env) :: starEach [] X.env := by rfl) (hpl : (backTo pos (starEach [.Name x p2] X.env)).any (·.1) = false := by rfl) :
    VE (X.suite a ((a, oe) :: pn)) W (.Call (.Name "isinstance" p) [ea, .Name x p2] [] pos) (v1 (vIsE a cn tb) (vVar i)) :=
  visE i hmc hz hf T (pe_glob (X := X.suite a ((a, oe) :: pn)) (v := .ref A) hgx hx rfl hdb) (fun u h => h) hm ha hg he he2 hpl
/-- a built-in class -/
theorem visE_blt (i : Nat) {x : Str} {A : String} {tb : Str → Option Bool} {p p2 pos : Pos} (hmc : X.mg cn = some (.ref C)) (hz : Zc (.ref C) none oe) (hf : ∃ vs, oe.data = .fields vs) (T : ITab X.K X.mg x (.type A) tb) (hx : X.mg x = none) (hv : bootBuiltins x = some (.type A))
    (hm : X.mg "isinstance" = none) (ha : VE (X.suite a ((a, oe) :: pn)) W ea (vVar i)) (hg : Gl X "isinstance" := by rfl) (hgx : Gl X x := by rfl) (hdb : (x == ("__debug__" : Str)) = false := by decide) (hn : x ≠ "__name__" := by decide)
    (he : starEach [ea, .Name x p2] X.env = (false, eval ea X.env) :: starEach [.Name x p2] X.env := by rfl) (he2 : starEach [.Name x p2] X.env = (false, eval (.Name x p2) X.env) :: starEach [] X.env := by rfl) (hpl : (backTo pos (starEach [.Name x p2] X.env)).any (·.1) = false := by rfl) :
    VE (X.suite a ((a, oe) :: pn)) W (.Call (.Name "isinstance" p) [ea, .Name x p2] [] pos) (v1 (vIsE a cn tb) (vVar i)) :=
  visE i hmc hz hf T (pe_bltn (X := X.suite a ((a, oe) :: pn)) (v := .ty A) hgx hx hv rfl hn hdb) (fun u h => h) hm ha hg he he2 hpl
/-- isinstance(e, (c1, c2, ..)) of the suite's exception -/
def rIsEs (K : PySem.W.Frag) (D a : Addr) : List V → Hp → VK → Prop := fun xs H Q => ∃ (tp : Addr) (cs : List V) (us : List Value) (b : Bool), xs = [.ref a, .ref tp] ∧ H tp = some (.tup cs) ∧ Paired ClsV cs us ∧ PySem.W.kitAny K (.ref D) us = some b ∧ Q (.bl b) H
theorem call_isEs {D : Addr} (E : ExcC X.K D) (hz : Zc (.ref D) none oe) (hf : ∃ vs, oe.data = .fields vs) : CallR (X.suite a ((a, oe) :: pn)) (.builtin "isinstance") (rIsEs X.K D a) := by
  intro pins s σ H xs us Q J rv hh
  obtain ⟨tp, cs, ws, b, rfl, hT, k, e, q⟩ := hh
  obtain ⟨u1, u2, rfl, r1, r2⟩ := vals2 rv
  cases (show u2 = Value.ref tp from r2)
  cases (show u1 = Value.ref a from r1)
  obtain ⟨hget, _⟩ := J.pin (a, oe) (List.mem_append.mpr (.inl List.mem_cons_self))
  obtain ⟨vs, hv⟩ := hf
  have Z : PySem.W.InstAt s.heap a oe D none := by
    obtain ⟨oc, od, oda, osl⟩ := oe
    obtain ⟨h1, h2⟩ := hz
    dsimp only at h1 h2 hv
    subst h1 h2 hv
    exact ⟨hget, rfl, rfl, trivial⟩
  obtain ⟨_, its, rv', o, h1, h2, n, h3⟩ := (show ObjOk X.prog X.w H s.heap tp (.tup cs) from J.hok tp _ hT)
  have e3 := ClsV.all k rv'
  subst e3
  obtain ⟨oc, od, dt, sl⟩ := o
  simp only at h2 h3
  subst h2 h3
  exact PySem.W.kia_tup (PySem.W.handS_kitx_exc E.hg E.hk E.hs E.hd E.ha E.hn E.ht E.hm) J.kIn Z h1 e (fun z => nomatch z) fun tk => ⟨.bl b, H, J.kept (t' := tk) fun _ _ z => z, rfl, q⟩
/-- two own classes -/
theorem visE_two (i : Nat) {x y : Str} {A1 A2 : Addr} {tb tb2 : Str → Option Bool} {p p1 p2 p3 pos : Pos} {k : Nat} (hmc : X.mg cn = some (.ref C)) (hz : Zc (.ref C) none oe) (hf : ∃ vs, oe.data = .fields vs) (T : ITab X.K X.mg x (.ref A1) tb) (hx : X.mg x = some (.ref A1)) (T2 : ITab X.K X.mg y (.ref A2) tb2) (hy : X.mg y = some (.ref A2))
    (hm : X.mg "isinstance" = none) (ha : VE (X.suite a ((a, oe) :: pn)) W ea (vVar i)) (hg : Gl X "isinstance" := by rfl) (hgx : Gl X x := by rfl) (hdb : (x == ("__debug__" : Str)) = false := by decide) (hgy : Gl X y := by rfl) (hdy : (y == ("__debug__" : Str)) = false := by decide)
    (he : starEach [ea, .Tuple [.Name x p1, .Name y p2] k p3] X.env = (false, eval ea X.env) :: starEach [.Tuple [.Name x p1, .Name y p2] k p3] X.env := by rfl) (he2 : starEach [.Tuple [.Name x p1, .Name y p2] k p3] X.env = (false, eval (.Tuple [.Name x p1, .Name y p2] k p3) X.env) :: starEach [] X.env := by rfl) (hpl : (backTo pos (starEach [.Tuple [.Name x p1, .Name y p2] k p3] X.env)).any (·.1) = false := by rfl)
    (s1 : starEach [.Name x p1, .Name y p2] X.env = (false, eval (.Name x p1) X.env) :: starEach [.Name y p2] X.env := by rfl) (s2 : starEach [.Name y p2] X.env = (false, eval (.Name y p2) X.env) :: starEach [] X.env := by rfl) :
    VE (X.suite a ((a, oe) :: pn)) W (.Call (.Name "isinstance" p) [ea, .Tuple [.Name x p1, .Name y p2] k p3] [] pos) (v1 (vIsE a cn (orT tb tb2)) (vVar i)) := by
  obtain ⟨ta, pa, qa⟩ := ha.ex
  have stk : orT tb tb2 cn = none → ∀ ρ, v1 (vIsE a cn (orT tb tb2)) (vVar i) ρ = .stuck := fun ht ρ => by
    unfold v1 vVar
    split
    · rename_i d _
      simp only [R.bind_ok]
      unfold vIsE
      split
      · simp [ht]
      · rfl
    · rfl
  cases ht : orT tb tb2 cn with
  | none =>
    refine VE.mk' pe_never fun σ H B ρ Q s rf pr => ?_
    rw [stk ht ρ] at pr
    exact pr
  | some b =>
    have key : ∃ ec : ExcC X.K C, PySem.W.kitAny X.K (.ref C) [.ref A1, .ref A2] = some b := by
      unfold orT at ht
      split at ht
      · rename_i h1
        obtain ⟨ec, ek⟩ := T.kt cn C true hmc h1
        cases ht
        exact ⟨ec, by simp only [PySem.W.kitAny, ek]⟩
      · rename_i h1
        obtain ⟨ec, ek⟩ := T.kt cn C false hmc h1
        obtain ⟨_, ek2⟩ := T2.kt cn C b hmc ht
        refine ⟨ec, ?_⟩
        cases b <;> simp only [PySem.W.kitAny, ek, ek2]
      · cases ht
    obtain ⟨ec, ek⟩ := key
    have p1' : PE (X.suite a ((a, oe) :: pn)) (.Name x p1) (tC (.ref A1)) := pe_glob (X := X.suite a ((a, oe) :: pn)) (v := .ref A1) hgx hx rfl hdb
    have p2' : PE (X.suite a ((a, oe) :: pn)) (.Name y p2) (tC (.ref A2)) := pe_glob (X := X.suite a ((a, oe) :: pn)) (v := .ref A2) hgy hy rfl hdy
    refine VE.mk' (pe_callB (X := X.suite a ((a, oe) :: pn)) (call_isEs ec hz hf) hg hm (by decide +kernel) (pa_cons pa (pa_cons (pe_tup (pa_cons p1' (pa_cons p2' pa_nil s2) s1)) pa_nil he2) he) (by decide) (by decide) he hpl) fun σ H B ρ Q s rf pr => ?_
    refine one qa s rf pr fun d v H' B' ex sm dx pg => ?_
    have h0 : vIsE a cn (orT tb tb2) d ≠ .stuck := fun z => by rw [z] at pg; exact pg
    obtain ⟨rfl, b', hb', e'⟩ := is_excD dx h0
    rw [ht] at hb'
    cases hb'
    rw [e'] at pg
    refine ⟨Nat.le_of_ble_eq_true rfl, fun q hq => ?_⟩
    exact ⟨q, [.ref A1, .ref A2], [.ref A1, .ref A2], b, rfl, upd_same, .cons (.own A1) (.cons (.own A2) .nil), ek, pg _ _ _ (ex.trans (Ext.new ex.bh hq)) (.bl _)⟩
end
end VL

namespace VL
open PySem PySem.Spec PyProof.Rows
theorem vInT_ok {m n : Nat} {d : PyData} {ds : List PyData} (h : okS m d) (g : okS n (.tuple ds)) (hm : m ≤ 64 := by decide) (hn : n ≤ 64 := by decide) : vInT d (.tuple ds) = .ok (.bool (ds.any fun z => PyData.eqv z d)) := if_pos ⟨h.shaped hm, g.shaped hn⟩
theorem vNotInT_ok {m n : Nat} {d : PyData} {ds : List PyData} (h : okS m d) (g : okS n (.tuple ds)) (hm : m ≤ 64 := by decide) (hn : n ≤ 64 := by decide) : vNotInT d (.tuple ds) = .ok (.bool (!ds.any fun z => PyData.eqv z d)) := if_pos ⟨h.shaped hm, g.shaped hn⟩
theorem vin_ok {m n : Nat} {d : PyData} {ds : List PyData} (h : okS m d) (g : okS n (.list ds)) (hm : m ≤ 64 := by decide) (hn : n ≤ 64 := by decide) : vin d (.list ds) = .ok (ds.any fun z => PyData.eqv z d) := if_pos ⟨h.shaped hm, g.shaped hn⟩
theorem vIn_ok {m n : Nat} {d : PyData} {ds : List PyData} (h : okS m d) (g : okS n (.list ds)) (hm : m ≤ 64 := by decide) (hn : n ≤ 64 := by decide) : vIn d (.list ds) = .ok (.bool (ds.any fun z => PyData.eqv z d)) := by
  unfold vIn; rw [vin_ok h g hm hn]; rfl
theorem vNotIn_ok {m n : Nat} {d : PyData} {ds : List PyData} (h : okS m d) (g : okS n (.list ds)) (hm : m ≤ 64 := by decide) (hn : n ≤ 64 := by decide) : vNotIn d (.list ds) = .ok (.bool (!ds.any fun z => PyData.eqv z d)) := by
  unfold vNotIn; rw [vin_ok h g hm hn]; rfl
@[simp] theorem vcut_list (lo hi : Option Int) (xs : List PyData) : vcut lo hi (.list xs) = .ok (.list (cutL xs lo hi)) := rfl
@[simp] theorem vcut_tuple (lo hi : Option Int) (xs : List PyData) : vcut lo hi (.tuple xs) = .ok (.tuple (cutL xs lo hi)) := rfl
theorem cut_from (xs : List PyData) (k : Nat) : cutL xs (some (k : Int)) none = xs.drop k := by
  unfold cutL
  rw [HT.sIx_nat, HT.sIx_none]
  by_cases h : k ≤ xs.length
  · rw [Nat.min_eq_left h, List.take_of_length_le (by rw [List.length_drop]; omega)]
  · rw [Nat.min_eq_right (by omega), List.drop_length, List.drop_of_length_le (by omega), List.take_nil]
theorem cut_to (xs : List PyData) (k : Nat) : cutL xs none (some (k : Int)) = xs.take k := by
  unfold cutL
  rw [HT.sIx_nat, HT.sIx_none, List.drop_zero, Nat.sub_zero]
  by_cases h : k ≤ xs.length
  · rw [Nat.min_eq_left h]
  · rw [Nat.min_eq_right (by omega), List.take_of_length_le (Nat.le_refl _), List.take_of_length_le (by omega)]
theorem cut_mid (xs : List PyData) (j k : Nat) : cutL xs (some (j : Int)) (some (k : Int)) = (xs.drop j).take (k - j) := by
  unfold cutL
  rw [HT.sIx_nat, HT.sIx_nat]
  by_cases h : j ≤ xs.length
  · rw [Nat.min_eq_left h]
    by_cases h2 : k ≤ xs.length
    · rw [Nat.min_eq_left h2]
    · rw [Nat.min_eq_right (by omega), List.take_of_length_le (by rw [List.length_drop]; omega), List.take_of_length_le (by rw [List.length_drop]; omega)]
  · rw [show min j xs.length = xs.length by omega, List.drop_length, List.drop_of_length_le (show xs.length ≤ j by omega), List.take_nil, List.take_nil]
theorem mem_cut {xs : List PyData} {lo hi : Option Int} {x : PyData} (h : x ∈ cutL xs lo hi) : x ∈ xs := List.mem_of_mem_drop (List.mem_of_mem_take h)
theorem len_cut (xs : List PyData) (lo hi : Option Int) : (cutL xs lo hi).length ≤ xs.length := by
  unfold cutL
  rw [List.length_take, List.length_drop]
  omega
@[simp] theorem cut_1 (x : PyData) (xs : List PyData) : cutL (x :: xs) (some 1) none = xs := cut_from (x :: xs) 1
theorem okS.mono : ∀ {m n : Nat} {d : PyData}, m ≤ n → okS m d → okS n d
  | 0, _, _, _, h => h.elim
  | _ + 1, 0, _, hl, _ => absurd hl (by omega)
  | m + 1, n + 1, .none, _, _ => trivial
  | m + 1, n + 1, .bool _, _, _ => trivial
  | m + 1, n + 1, .int _, _, _ => trivial
  | m + 1, n + 1, .str _, _, h => h
  | m + 1, n + 1, .list xs, hl, h => ⟨h.1, fun x hx => okS.mono (by omega) (h.2 x hx)⟩
  | m + 1, n + 1, .tuple xs, hl, h => ⟨h.1, fun x hx => okS.mono (by omega) (h.2 x hx)⟩
  | m + 1, n + 1, .dict _, _, h => h.elim
end VL

namespace VL
open PySem PySem.Spec PyProof.Rows L2
/-! ### x.extend(a new list of one's own), x.reverse() -/
theorem RS.glue {K : PySem.W.Frag} {F0 H0 F H : Hp} {σ : L2.St} {ρ : OEnv} {y : V} {i : Nat} {os os2 : List O} (r : RS K F0 H0 F H (some y :: σ) (some (.lst os2) :: ρ)) (ei : ρ[i]? = some (some (.lst os))) :
    ∃ a vs b zs, σ[i]? = some (some (.ref a)) ∧ H a = some (.lst vs) ∧ vs.length = os.length ∧ y = .ref b ∧ H b = some (.lst zs) ∧ zs.length = os2.length ∧ RS K F0 H0 F (upd H a (.lst (vs ++ zs))) σ (ρ.set i (some (.lst (os ++ os2)))) := by
  obtain ⟨fps, sl, hs⟩ := r.ex
  cases sl with
  | @ow _ _ fpo _ _ fpt h1 s =>
    obtain ⟨v, fp, fpr, e1, e2, e3, e4, e5⟩ := s.split ei
    cases h1 with
    | @lst b zs _ fpb hb hlb =>
    cases e2 with
    | @lst a vs _ fpi ha hl =>
      refine ⟨a, vs, b, zs, e1, ha, hl.len, rfl, hb, hlb.len, ?_⟩
      have hp : Hs F0 H0 F H ((b :: fpb) ++ ((a :: fpi) ++ fpr)) := hs.perm (List.Perm.append_left (b :: fpb) e3)
      have hp1 : Hs F0 H0 F H (fpb ++ ((a :: fpi) ++ fpr)) := hp.sub (List.sublist_cons_self b _)
      have nd := List.nodup_append.mp hp1.nd
      have nd2 := List.nodup_append.mp nd.2.1
      have na_b : a ∉ fpb := fun m => nd.2.2 a m a (List.mem_append_left _ List.mem_cons_self) rfl
      have na_i : a ∉ fpi := (List.nodup_cons.mp nd2.1).1
      have na_r : a ∉ fpr := fun m => nd2.2.2 a List.mem_cons_self a m rfl
      have hk : ∀ c, c ≠ a → upd H a (.lst (vs ++ zs)) c = H c := fun c hc => upd_ne hc
      have l1 : OwnL K F (upd H a (.lst (vs ++ zs))) vs os fpi := hl.keep (Same.refl F) fun c hc => hk c fun e => na_i (e ▸ hc)
      have l2 : OwnL K F (upd H a (.lst (vs ++ zs))) zs os2 fpb := hlb.keep (Same.refl F) fun c hc => hk c fun e => na_b (e ▸ hc)
      obtain ⟨fps', w1, w2⟩ := e5 F (upd H a (.lst (vs ++ zs))) (.ref a) (.lst (os ++ os2)) (a :: (fpi ++ fpb)) (.lst upd_same (OwnL.append l1 l2)) (Same.refl F) fun c hc => hk c fun e => na_r (e ▸ hc)
      rw [set_same e1] at w1
      have an : F a = none ∧ H0 a = none := hp1.ow a (List.mem_append_right _ (List.mem_append_left _ List.mem_cons_self))
      have base : Hs F0 H0 F (upd H a (.lst (vs ++ zs))) (fpb ++ ((a :: fpi) ++ fpr)) := ⟨hp1.nd, hp1.ow, fun c u q => by
        rw [hk c (fun e => by rw [e, an.1] at q; cases q)]; exact hp1.fh _ _ q, hp1.f0, fun c u q => by
        rw [hk c (fun e => by rw [e, an.2] at q; cases q)]; exact hp1.h0 _ _ q, hp1.nw⟩
      have p1 : (fpb ++ ((a :: fpi) ++ fpr)).Perm ((a :: (fpi ++ fpb)) ++ fpr) := by
        have : (fpb ++ ((a :: fpi) ++ fpr)).Perm (((a :: fpi) ++ fpb) ++ fpr) := by
          rw [← List.append_assoc]
          exact List.Perm.append_right _ List.perm_append_comm
        simpa using this
      exact ⟨fps', w1, (base.perm p1).perm w2.symm⟩
section
variable {X : Cx} {W : WX} {a b c e : Expr} {pos : Pos} {fa fb fc : PEnv → R PyData} {ho : OEnv → R (O × OEnv)} {k : Nat}
/-- x.extend(e) -/
def sExt (i : Nat) (h : OEnv → R (O × OEnv)) : OEnv → SR := fun ρ => match ρ[i]? with
  | some (some (.lst _)) => (h ρ).sr ρ fun p => match p.1, p.2[i]? with
    | .lst os2, some (some (.lst os)) => if os.length + os2.length ≤ sizeLine then .nx (p.2.set i (some (.lst (os ++ os2)))) else .stuck
    | _, _ => .stuck
  | _ => .stuck
theorem vs_ext (i : Nat) {x : Str} {p1 p2 p3 : Pos} (mk : ∀ {t : TE}, PE X e t → PE X (.Call (.Attribute (.Name x p1) "extend" p2) [e] [] p3) (tBM X.K "list" rExtend (tVar i) (tCons t tNil))) (he : VO X W e ho)
    (hs : swapsWith (.Call (.Attribute (.Name x p1) "extend" p2) [e] [] p3) none pos.line X.env = pure false := by rfl) :
    VS X W (.Expr (.Call (.Attribute (.Name x p1) "extend" p2) [e] [] p3) pos) (sExt i ho) := by
  obtain ⟨t, p, q⟩ := he.ex
  refine ⟨_, ps_expr (mk p) hs, fun D σ H F0 H0 F ρ r pr => ?_⟩
  unfold sExt at pr
  split at pr
  · rename_i os0 e0
    obtain ⟨fps, sl, hss⟩ := r.ex
    obtain ⟨v, fp, fpr, e1, e2, e3, e4, e5⟩ := sl.split e0
    cases e2 with
    | @lst ad vs _ fpi ha hl =>
      refine ⟨.ref ad, e1, .inl ⟨rfl, _, .inl (.inl ha)⟩, ?_⟩
      refine q σ H F0 H0 F ρ _ r (sr_pst r pr fun o po y H' F' r' => ?_)
      obtain ⟨o1, ρ1⟩ := o
      simp only at po r'
      split at po
      · rename_i os2 os e9 eo
        split at po
        · rename_i hz
          obtain ⟨ad', vs', b', zs, e6, e7, e8, rfl, e10, e11, r2⟩ := r'.glue eo
          rw [e1] at e6
          cases e6
          exact ⟨ad, b', vs', zs, rfl, rfl, e7, e10, by rw [e8, e11]; exact hz, po _ _ _ r2⟩
        · exact po.elim
      · exact po.elim
  · exact pr.elim
theorem OwnL.rev {K : PySem.W.Frag} {F H : Hp} : ∀ {os : List O} {vs : List V} {fp : List Addr}, OwnL K F H vs os fp → ∃ fp', OwnL K F H vs.reverse os.reverse fp' ∧ fp'.Perm fp
  | [], _, _, h => by cases h; exact ⟨[], .nil, .refl _⟩
  | o :: os, _, _, h => by
    cases h with
    | @cons v vs _ _ f1 f2 h1 h2 =>
      obtain ⟨f3, z1, z2⟩ := OwnL.rev h2
      rw [List.reverse_cons, List.reverse_cons]
      exact ⟨f3 ++ (f1 ++ []), OwnL.append z1 (.cons h1 .nil), by rw [List.append_nil]; exact (List.Perm.append_right f1 z2).trans List.perm_append_comm⟩
/-! ### max, min of three ints -/
def vmax3 : List PyData → R PyData
  | [.int i, .int j, .int k] => .ok (.int (max (max i j) k))
  | _ => .stuck
def vmin3 : List PyData → R PyData
  | [.int i, .int j, .int k] => .ok (.int (min (min i j) k))
  | _ => .stuck
theorem rc_max3 : RuleC X W (rNuC3 nuMax3) vmax3 := fun ds vs σ H B Q s dx p => by
  have h0 : vmax3 ds ≠ .stuck := fun z => by rw [z] at p; exact p
  match ds, h0 with
  | [.int i, .int j, .int k], _ =>
    cases dx with
    | cons h1 dx => cases dx with
      | cons h2 dx => cases dx with
        | cons h3 dx =>
          cases dx; cases h1; cases h2; cases h3
          refine ⟨.int i, .int j, .int k, .int (max (max i j) k), rfl, ?_, p _ H B (.refl s) (.int _)⟩
          have e : ∀ i j : Int, nuMax2 (.int i) (.int j) = some (.int (max i j)) := fun i j => by
            show some (if decide (i < j) = true then V.int j else V.int i) = _
            by_cases h : i < j
            · simp [h, show max i j = j by omega]
            · simp [h, show max i j = i by omega]
          unfold nuMax3
          rw [e, Option.bind_some, e]
theorem rc_min3 : RuleC X W (rNuC3 nuMin3) vmin3 := fun ds vs σ H B Q s dx p => by
  have h0 : vmin3 ds ≠ .stuck := fun z => by rw [z] at p; exact p
  match ds, h0 with
  | [.int i, .int j, .int k], _ =>
    cases dx with
    | cons h1 dx => cases dx with
      | cons h2 dx => cases dx with
        | cons h3 dx =>
          cases dx; cases h1; cases h2; cases h3
          refine ⟨.int i, .int j, .int k, .int (min (min i j) k), rfl, ?_, p _ H B (.refl s) (.int _)⟩
          have e : ∀ i j : Int, nuMin2 (.int i) (.int j) = some (.int (min i j)) := fun i j => by
            show some (if decide (j < i) = true then V.int j else V.int i) = _
            by_cases h : j < i
            · simp [h, show min i j = j by omega]
            · simp [h, show min i j = i by omega]
          unfold nuMin3
          rw [e, Option.bind_some, e]
theorem vmax3_ {f : PEnv → R (List D)} {p : Pos} {e : Expr} {es : List Expr} (hc : X.calm = true) (hm : X.mg "max" = none) (ha : VA X W (e :: es) f) (hg : Gl X "max" := by rfl) (he : starEach (e :: es) X.env = (false, eval e X.env) :: starEach es X.env := by rfl) (hpl : (backTo pos (starEach es X.env)).any (·.1) = false := by rfl) :
    VE X W (.Call (.Name "max" p) (e :: es) [] pos) (vapp vmax3 f) := vcB (call_max3Nu hc) rc_max3 hm (by decide +kernel) ha hg (by decide) (by decide) he hpl
theorem vmin3_ {f : PEnv → R (List D)} {p : Pos} {e : Expr} {es : List Expr} (hc : X.calm = true) (hm : X.mg "min" = none) (ha : VA X W (e :: es) f) (hg : Gl X "min" := by rfl) (he : starEach (e :: es) X.env = (false, eval e X.env) :: starEach es X.env := by rfl) (hpl : (backTo pos (starEach es X.env)).any (·.1) = false := by rfl) :
    VE X W (.Call (.Name "min" p) (e :: es) [] pos) (vapp vmin3 f) := vcB (call_min3Nu hc) rc_min3 hm (by decide +kernel) ha hg (by decide) (by decide) he hpl
@[simp] theorem vmax3_ap (i j k : Int) : vmax3 [.int i, .int j, .int k] = .ok (.int (max (max i j) k)) := rfl
@[simp] theorem vmin3_ap (i j k : Int) : vmin3 [.int i, .int j, .int k] = .ok (.int (min (min i j) k)) := rfl
/-! ### new lists: a + b, a[i:j] -/
def lcat : PyData → PyData → R (List PyData)
  | .list xs, .list ys => if xs.length + ys.length ≤ sizeLine then .ok (xs ++ ys) else .stuck
  | _, _ => .stuck
def fcat (f g : PEnv → R PyData) : PEnv → R (List PyData) := fun ρ => (f ρ).bind fun d => (g ρ).bind fun e => lcat d e
@[simp] theorem fcat_ap (f g : PEnv → R PyData) (ρ : PEnv) : fcat f g ρ = (f ρ).bind fun d => (g ρ).bind fun e => lcat d e := rfl
@[simp] theorem lcat_list {xs ys : List PyData} (h : xs.length + ys.length ≤ 16777216) : lcat (.list xs) (.list ys) = .ok (xs ++ ys) := if_pos (by rw [szL]; exact h)
theorem vcat_f (ha : VE X W a fa) (hb : VE X W b fb) : VFr X W (.BinOp a .Add b pos) (fcat fa fb) := by
  obtain ⟨ta, pa, qa⟩ := ha.ex
  obtain ⟨tb, pb, qb⟩ := hb.ex
  refine ⟨_, pe_op op_catL pa pb, fun σ H B ρ Q s rf p => ?_⟩
  refine two qa qb s rf p fun d e x y H' B' ex sm dx dy pg => ?_
  cases dx <;> first | exact pg.elim | skip
  cases dy <;> first | exact pg.elim | skip
  rename_i h1 h2 _ _ _ h3 h4
  simp only [lcat] at pg
  split at pg
  · rename_i hz
    refine ⟨_, _, _, _, rfl, rfl, Rd.mono ex.bh h1, Rd.mono ex.bh h3, by rw [IsAll.len h2, IsAll.len h4]; exact hz, fun q hq => ?_⟩
    exact pg q _ _ B' (ex.trans (Ext.own ex.bh hq)) upd_same (Same.free ex.hh hq) (Same.free ex.bh hq) (IsAll.append h2 h4)
  · exact pg.elim
def lcut (lo hi : Option Int) : PyData → R (List PyData)
  | .list xs => .ok (cutL xs lo hi)
  | _ => .stuck
def fslice (f : PEnv → R PyData) (l u : PEnv → R (Option Int)) : PEnv → R (List PyData) := fun ρ => (f ρ).bind fun d => (l ρ).bind fun lo => (u ρ).bind fun hi => lcut lo hi d
@[simp] theorem fslice_ap (f : PEnv → R PyData) (l u : PEnv → R (Option Int)) (ρ : PEnv) : fslice f l u ρ = (f ρ).bind fun d => (l ρ).bind fun lo => (u ρ).bind fun hi => lcut lo hi d := rfl
@[simp] theorem lcut_list (lo hi : Option Int) (xs : List PyData) : lcut lo hi (.list xs) = .ok (cutL xs lo hi) := rfl
theorem vslice_f {lo hi : Option Expr} {p2 : Pos} {fl fu : PEnv → R (Option Int)} (ha : VE X W a fa) (hl : VO1 X W lo fl) (hu : VO1 X W hi fu) : VFr X W (.Subscript a (.Slice lo hi none p2) pos) (fslice fa fl fu) := by
  obtain ⟨ta, pa, qa⟩ := ha.ex
  obtain ⟨tl, pl, ql⟩ := hl.ex
  obtain ⟨tu, pu, qu⟩ := hu.ex
  refine ⟨_, pe_slice (SlR.or sl_list sl_tupA) pa pl pu, fun σ H B ρ Q s rf p => ?_⟩
  unfold fslice at p
  refine one qa s rf p fun d x H1 B1 e1 sm dx p1 => ?_
  refine ql σ H1 B1 ρ _ e1.bh (rf.mono e1.bb) ?_
  generalize fl ρ = rl at p1 ⊢
  cases rl with
  | stuck => exact p1
  | err c => exact p1
  | ok lo' =>
    intro H2 B2 e2
    refine qu σ H2 B2 ρ _ e2.bh (rf.mono (e1.trans e2).bb) ?_
    simp only [R.bind_ok] at p1
    generalize fu ρ = ru at p1 ⊢
    cases ru with
    | stuck => exact p1
    | err c => exact fun H' z => p1 H' (e2.hh.trans z)
    | ok hi' =>
      intro H3 B3 e3
      simp only [R.bind_ok] at p1
      have E := (e1.trans e2).trans e3
      have dx3 := Is.mono (e2.trans e3).bb dx
      cases dx3 <;> first | exact p1.elim | skip
      rename_i h1 h2
      refine .inl ⟨_, _, rfl, .inl (Rd.mono e3.bh h1), fun q hq => ?_⟩
      exact p1 q _ _ B3 (E.trans (Ext.own e3.bh hq)) upd_same (Same.free E.hh hq) (Same.free e3.bh hq) (IsAll.cut h2 _ _)
end
end VL

namespace VL
open PySem PySem.Spec PyProof.Rows L2
/-! ### a call whose result is one's own -/
theorem RS.push {K : PySem.W.Frag} {F0 H0 F H F' H' : Hp} {σ : L2.St} {ρ : OEnv} {v : V} {o : O} (r : RS K F0 H0 F H σ ρ) (q : RV K F H F' H' v o) : RS K F0 H0 F' H' (some v :: σ) (some o :: ρ) := by
  obtain ⟨fps, s, hs⟩ := r.ex
  obtain ⟨fp, ow, h1⟩ := q
  have lst := s.lstAt
  refine ⟨fp ++ fps, .ow ow (s.keep h1.f0 fun a ha => ?_), ?_, fun a ha => ?_, h1.fh, hs.f0.trans h1.f0, hs.h0.trans h1.h0, fun a z1 z2 => ?_⟩
  · obtain ⟨vs, z⟩ := lst a ha
    rw [z]; exact h1.h0 _ _ z
  · refine List.nodup_append.mpr ⟨h1.nd, hs.nd, fun a ha b hb e => ?_⟩
    subst e
    obtain ⟨vs, z⟩ := lst a hb
    rw [(h1.ow a ha).2] at z
    cases z
  · rcases List.mem_append.mp ha with m | m
    · exact ⟨(h1.ow a m).1, Same.free hs.h0 (h1.ow a m).2⟩
    · refine ⟨?_, (hs.ow a m).2⟩
      obtain ⟨vs, z⟩ := lst a m
      cases q : F' a with
      | none => rfl
      | some u =>
        have := h1.nw a (hs.ow a m).1 (by rw [q]; exact fun w => nomatch w)
        rw [z] at this
        cases this
  · cases q : F a with
    | some u => exact hs.nw a z1 (by rw [q]; exact fun w => nomatch w)
    | none => exact Same.free hs.h0 (h1.nw a q z2)
section
variable {X : Cx} {W : WX} {a b c e : Expr} {es : List Expr} {pos : Pos} {hx : OEnv → R PyData} {k : Nat}
def oCall (g : List PyData → R O) (fa : PEnv → R (List PyData)) : OEnv → R (O × OEnv) := fun ρ => (fa (viewF ρ)).bind fun ds => (g ds).bind fun o => .ok (o, ρ)
@[simp] theorem oCall_ap (g : List PyData → R O) (fa : PEnv → R (List PyData)) (ρ : OEnv) : oCall g fa ρ = (fa (viewF ρ)).bind fun ds => (g ds).bind fun o => .ok (o, ρ) := rfl
theorem vo_call {x : Str} {f : Addr} {fd : FuncData} {ps : List Str} {n : Nat} {g : List PyData → R O} {fa : PEnv → R (List PyData)} {p : Pos} {e : Expr} (F : FnOk X.prog X.w X.K X.mg X.base (L2.CX X.prog X.w) k f fd ps (spO X.K X.mg n g)) (hr : Room k X.A) (hm : X.mg x = some (.ref f)) (hk : PySem.W.keepIn X.K (.ref f) = true) (hb : Binds X.K fd ps [])
    (tk : Takes X W) (ha : VAn X W n (e :: es) fa) (hg : Gl X x := by rfl) (hdb : (x == ("__debug__" : Str)) = false := by decide) (he : starEach (e :: es) X.env = (false, eval e X.env) :: starEach es X.env := by rfl) (hpl : (backTo pos (starEach es X.env)).any (·.1) = false := by rfl) :
    VO X W (.Call (.Name x p) (e :: es) [] pos) (oCall g fa) := by
  obtain ⟨t, pt, qt⟩ := ha.va.ex
  refine ⟨_, pe_callS F hr hg hm hk hb (fun σ => passAt tk σ) pt hdb he hpl, fun σ H F0 H0 Fz ρ Q r pr => ?_⟩
  obtain ⟨fps, s, hs⟩ := id r.ex
  have hl := ha.len (viewF ρ)
  unfold oCall at pr
  generalize hfa : fa (viewF ρ) = rr at pr hl
  cases rr with
  | stuck => exact pr.elim
  | err c => exact qt σ H Fz (viewF ρ) _ hs.fh s.rfF (by rw [hfa]; exact pr)
  | ok ds =>
    refine qt σ H Fz (viewF ρ) _ hs.fh s.rfF ?_
    rw [hfa]
    intro xs H1 F1 e1 dx
    refine ⟨by rw [IsAll.len dx]; exact hl ds rfl, ds, F1, e1.bh, dx, ?_⟩
    simp only [R.bind_ok] at pr
    generalize g ds = rg at pr ⊢
    cases rg with
    | stuck => exact pr
    | err c => exact fun H' z => pr H' (e1.hh.trans z)
    | ok o => exact fun v H' F' rv => pr v H' F' ((r.ext e1).push rv)
/-! ### x.pop(), x.pop(i) -/
theorem OwnL.pick {K : PySem.W.Frag} {F H : Hp} : ∀ {os : List O} {vs : List V} {fp : List Addr} {j : Nat} {o : O}, OwnL K F H vs os fp → os[j]? = some o → ∃ y f1 f2, vs[j]? = some y ∧ Own K F H y o f1 ∧ OwnL K F H (vs.eraseIdx j) (os.eraseIdx j) f2 ∧ fp.Perm (f1 ++ f2)
  | [], _, _, _, _, h, e => by simp at e
  | p :: os, _, _, 0, o, h, e => by
    cases h with
    | @cons v vs _ _ f1 f2 h1 h2 =>
      simp at e
      subst e
      exact ⟨v, f1, f2, rfl, h1, h2, .refl _⟩
  | p :: os, _, _, j + 1, o, h, e => by
    cases h with
    | @cons v vs _ _ f1 f2 h1 h2 =>
      obtain ⟨y, g1, g2, z1, z2, z3, z4⟩ := OwnL.pick (j := j) h2 (by simpa using e)
      refine ⟨y, g1, f1 ++ g2, by simpa using z1, z2, .cons h1 z3, ?_⟩
      refine (List.Perm.append_left f1 z4).trans ?_
      rw [← List.append_assoc, ← List.append_assoc]
      exact List.Perm.append_right _ List.perm_append_comm
theorem RS.take {K : PySem.W.Frag} {F0 H0 F H : Hp} {σ : L2.St} {ρ : OEnv} {i j : Nat} {os : List O} {o : O} (r : RS K F0 H0 F H σ ρ) (ei : ρ[i]? = some (some (.lst os))) (ej : os[j]? = some o) :
    ∃ a vs y, σ[i]? = some (some (.ref a)) ∧ H a = some (.lst vs) ∧ vs.length = os.length ∧ vs[j]? = some y ∧ RS K F0 H0 F (upd H a (.lst (vs.eraseIdx j))) (some y :: σ) (some o :: ρ.set i (some (.lst (os.eraseIdx j)))) := by
  obtain ⟨fps, s, hs⟩ := r.ex
  obtain ⟨v, fp, fpr, e1, e2, e3, e4, e5⟩ := s.split ei
  cases e2 with
  | @lst a vs _ fpi ha hl =>
    obtain ⟨y, g1, g2, z1, z2, z3, z4⟩ := hl.pick ej
    refine ⟨a, vs, y, e1, ha, hl.len, z1, ?_⟩
    have hp : Hs F0 H0 F H ((a :: (g1 ++ g2)) ++ fpr) := (hs.perm e3).perm (List.Perm.append_right fpr (List.Perm.cons a z4))
    have nd := List.nodup_append.mp hp.nd
    have na := List.nodup_cons.mp nd.1
    have na_r : a ∉ fpr := fun m => nd.2.2 a List.mem_cons_self a m rfl
    have hk : ∀ c, c ≠ a → upd H a (.lst (vs.eraseIdx j)) c = H c := fun c hc => upd_ne hc
    have l1 : Own K F (upd H a (.lst (vs.eraseIdx j))) y o g1 := z2.keep (Same.refl F) fun c hc => hk c fun e => na.1 (e ▸ List.mem_append_left _ hc)
    have l2 : OwnL K F (upd H a (.lst (vs.eraseIdx j))) (vs.eraseIdx j) (os.eraseIdx j) g2 := z3.keep (Same.refl F) fun c hc => hk c fun e => na.1 (e ▸ List.mem_append_right _ hc)
    obtain ⟨fps', w1, w2⟩ := e5 F (upd H a (.lst (vs.eraseIdx j))) (.ref a) (.lst (os.eraseIdx j)) (a :: g2) (.lst upd_same l2) (Same.refl F) fun c hc => hk c fun e => na_r (e ▸ hc)
    rw [set_same e1] at w1
    have an : F a = none ∧ H0 a = none := hp.ow a (List.mem_append_left _ List.mem_cons_self)
    have base : Hs F0 H0 F (upd H a (.lst (vs.eraseIdx j))) ((a :: (g1 ++ g2)) ++ fpr) := ⟨hp.nd, hp.ow, fun c u q => by
      rw [hk c (fun e => by rw [e, an.1] at q; cases q)]; exact hp.fh _ _ q, hp.f0, fun c u q => by
      rw [hk c (fun e => by rw [e, an.2] at q; cases q)]; exact hp.h0 _ _ q, hp.nw⟩
    refine ⟨g1 ++ fps', .ow l1 w1, base.perm ?_⟩
    have p1 : ((a :: (g1 ++ g2)) ++ fpr).Perm (g1 ++ ((a :: g2) ++ fpr)) := by
      have : ((a :: (g1 ++ g2)) ++ fpr).Perm ((g1 ++ (a :: g2)) ++ fpr) := List.Perm.append_right fpr List.perm_middle.symm
      rw [List.append_assoc] at this
      exact this
    exact p1.trans (List.Perm.append_left g1 w2.symm)
/-- x.pop() -/
def oPop (i : Nat) : OEnv → R (O × OEnv) := fun ρ => match ρ[i]? with
  | some (some (.lst os)) => (match os[os.length - 1]? with
    | some o => .ok (o, ρ.set i (some (.lst (os.eraseIdx (os.length - 1)))))
    | none => .stuck)
  | _ => .stuck
theorem vo_pop (i : Nat) {x : Str} {p1 p2 p3 : Pos} (mk : PE X (.Call (.Attribute (.Name x p1) "pop" p2) [] [] p3) (tBM0 X.K "list" rPop (tVar i))) :
    VO X W (.Call (.Attribute (.Name x p1) "pop" p2) [] [] p3) (oPop i) := by
  refine ⟨_, mk, fun σ H F0 H0 F ρ Q r pr => ?_⟩
  unfold oPop at pr
  split at pr
  · rename_i os e0
    split at pr
    · rename_i o eo
      obtain ⟨ad, vs, y, e1, e2, e3, e4, r2⟩ := r.take e0 eo
      refine ⟨.ref ad, e1, .inl ⟨rfl, _, .inl (.inl e2)⟩, ad, vs, y, rfl, rfl, e2, by rw [e3]; exact e4, ?_⟩
      have : vs.dropLast = vs.eraseIdx (os.length - 1) := by rw [← e3, List.eraseIdx_length_sub_one]
      rw [this]
      exact pr y _ F r2
    · exact pr.elim
  · exact pr.elim
/-- x.pop(k) -/
noncomputable def oPopAt (i : Nat) (hk : OEnv → R PyData) : OEnv → R (O × OEnv) := fun ρ => match ρ[i]? with
  | some (some (.lst os)) => (hk ρ).bind fun d => match d with
    | .int j => @ite _ (0 ≤ j ∧ j < 16777216) (Classical.propDecidable _) (match os[j.toNat]? with
      | some o => .ok (o, ρ.set i (some (.lst (os.eraseIdx j.toNat))))
      | none => .stuck) .stuck
    | _ => .stuck
  | _ => .stuck
theorem vo_popAt (i : Nat) {x : Str} {p1 p2 p3 : Pos} (mk : ∀ {t : TE}, PE X e t → PE X (.Call (.Attribute (.Name x p1) "pop" p2) [e] [] p3) (tBM X.K "list" rPopAt (tVar i) (tCons t tNil))) (he : VX X W e hx) :
    VO X W (.Call (.Attribute (.Name x p1) "pop" p2) [e] [] p3) (oPopAt i hx) := by
  obtain ⟨t, p, q⟩ := he.ex
  refine ⟨_, mk p, fun σ H F0 H0 F ρ Q r pr => ?_⟩
  unfold oPopAt at pr
  split at pr
  · rename_i os e0
    obtain ⟨fps, sl, hss⟩ := id r.ex
    obtain ⟨v, fp, fpr, e1, e2, e3, e4, e5⟩ := sl.split e0
    cases e2 with
    | @lst ad vs0 _ fpi ha hl =>
      refine ⟨.ref ad, e1, .inl ⟨rfl, _, .inl (.inl ha)⟩, ?_⟩
      refine q σ H F0 H0 F ρ _ r ?_
      generalize hx ρ = rk at pr ⊢
      cases rk with
      | stuck => exact pr
      | err c => exact pr
      | ok d =>
        intro y0 H' F' ex dx
        simp only [R.bind_ok] at pr
        cases dx <;> first | exact pr.elim | skip
        rename_i j
        simp only at pr
        split at pr
        · rename_i hj
          split at pr
          · rename_i o eo
            obtain ⟨ad', vs, y, w1, w2, w3, w4, r2⟩ := (r.ext ex).take e0 eo
            rw [e1] at w1
            cases w1
            obtain ⟨hjl, _⟩ := List.getElem?_eq_some_iff.mp eo
            refine ⟨ad, vs, j, j.toNat, y, rfl, rfl, w2, by omega, by omega, ?_, w4, pr y _ F' r2⟩
            unfold seqIndex?
            have hb : (decide (0 ≤ j) && decide (j < (os.length : Int))) = true := by
              rw [Bool.and_eq_true, decide_eq_true_eq, decide_eq_true_eq]; omega
            rw [w3, if_neg (show ¬ j < 0 by omega)]
            exact if_pos hb
          · exact pr.elim
        · exact pr.elim
  · exact pr.elim
theorem oPopAt_ok {i : Nat} {hk : OEnv → R PyData} {ρ : OEnv} {os : List O} {j : Nat} {o : O} (e : ρ[i]? = some (some (.lst os))) (hkv : hk ρ = .ok (.int (j : Int))) (hj : j < 16777216) (ho : os[j]? = some o) : oPopAt i hk ρ = .ok (o, ρ.set i (some (.lst (os.eraseIdx j)))) := by
  unfold oPopAt
  simp only [e, hkv, R.bind_ok]
  rw [if_pos (by omega)]
  simp only [Int.toNat_natCast, ho]
theorem erase_map {α β : Type} (f : α → β) : ∀ (l : List α) (m : Nat), (l.map f).eraseIdx m = (l.eraseIdx m).map f
  | [], _ => rfl
  | _ :: _, 0 => rfl
  | x :: l, m + 1 => by
    show f x :: (l.map f).eraseIdx m = f x :: (l.eraseIdx m).map f
    rw [erase_map f l m]
/-! ### x.reverse() -/
theorem RS.revAt {K : PySem.W.Frag} {F0 H0 F H : Hp} {σ : L2.St} {ρ : OEnv} {i : Nat} {os : List O} (r : RS K F0 H0 F H σ ρ) (ei : ρ[i]? = some (some (.lst os))) :
    ∃ a vs, σ[i]? = some (some (.ref a)) ∧ H a = some (.lst vs) ∧ RS K F0 H0 F (upd H a (.lst vs.reverse)) σ (ρ.set i (some (.lst os.reverse))) := by
  obtain ⟨fps, s, hs⟩ := r.ex
  obtain ⟨v, fp, fpr, e1, e2, e3, e4, e5⟩ := s.split ei
  cases e2 with
  | @lst a vs _ fpi ha hl =>
    obtain ⟨fp', z1, z2⟩ := hl.rev
    refine ⟨a, vs, e1, ha, ?_⟩
    have hp : Hs F0 H0 F H ((a :: fpi) ++ fpr) := hs.perm e3
    have nd := List.nodup_append.mp hp.nd
    have na := List.nodup_cons.mp nd.1
    have na_r : a ∉ fpr := fun m => nd.2.2 a List.mem_cons_self a m rfl
    have hk : ∀ c, c ≠ a → upd H a (.lst vs.reverse) c = H c := fun c hc => upd_ne hc
    have l2 : OwnL K F (upd H a (.lst vs.reverse)) vs.reverse os.reverse fp' := z1.keep (Same.refl F) fun c hc => hk c fun e => na.1 (z2.mem_iff.mp (e ▸ hc))
    obtain ⟨fps', w1, w2⟩ := e5 F (upd H a (.lst vs.reverse)) (.ref a) (.lst os.reverse) (a :: fp') (.lst upd_same l2) (Same.refl F) fun c hc => hk c fun e => na_r (e ▸ hc)
    rw [set_same e1] at w1
    have an : F a = none ∧ H0 a = none := hp.ow a (List.mem_append_left _ List.mem_cons_self)
    have base : Hs F0 H0 F (upd H a (.lst vs.reverse)) ((a :: fpi) ++ fpr) := ⟨hp.nd, hp.ow, fun c u q => by
      rw [hk c (fun e => by rw [e, an.1] at q; cases q)]; exact hp.fh _ _ q, hp.f0, fun c u q => by
      rw [hk c (fun e => by rw [e, an.2] at q; cases q)]; exact hp.h0 _ _ q, hp.nw⟩
    exact ⟨fps', w1, base.perm ((List.Perm.append_right fpr (List.Perm.cons a z2.symm)).trans w2.symm)⟩
def sRev (i : Nat) : OEnv → SR := fun ρ => match ρ[i]? with
  | some (some (.lst os)) => .nx (ρ.set i (some (.lst os.reverse)))
  | _ => .stuck
theorem vs_rev (i : Nat) {x : Str} {p1 p2 p3 : Pos} (mk : PE X (.Call (.Attribute (.Name x p1) "reverse" p2) [] [] p3) (tBM0 X.K "list" rReverse (tVar i))) (hs : swapsWith (.Call (.Attribute (.Name x p1) "reverse" p2) [] [] p3) none pos.line X.env = pure false := by rfl) :
    VS X W (.Expr (.Call (.Attribute (.Name x p1) "reverse" p2) [] [] p3) pos) (sRev i) := by
  refine ⟨_, ps_expr mk hs, fun D σ H F0 H0 F ρ r pr => ?_⟩
  unfold sRev at pr
  split at pr
  · rename_i os e0
    obtain ⟨ad, vs, e1, e2, r2⟩ := r.revAt e0
    exact ⟨.ref ad, e1, .inl ⟨rfl, _, .inl (.inl e2)⟩, ad, vs, rfl, rfl, e2, pr _ _ _ r2⟩
  · exact pr.elim
end
/-! ### evaluation -/
def finO : SR → R O
  | .rt o => .ok o
  | .nx _ => .ok (.fz .none)
  | .err c _ => .err c
  | _ => .stuck
@[simp] theorem finO_rt (o : O) : finO (.rt o) = .ok o := rfl
@[simp] theorem finO_nx (ρ : OEnv) : finO (.nx ρ) = .ok (.fz .none) := rfl
@[simp] theorem finO_err (c : Str) (ρ : OEnv) : finO (.err c ρ) = .err c := rfl
theorem runB_fin (n : Nat) (g : OEnv → SR) (ds : List PyData) : runB n g ds = finO (g (startO n ds)) := by
  unfold runB
  cases g (startO n ds) <;> rfl
theorem frz_of {n : Nat} {g : OEnv → SR} {ds : List PyData} {o : O} (h : runB n g ds = .ok o) : frz (runB n g) ds = .ok o.data := by
  unfold frz; rw [h]; rfl
end VL

namespace LW
open PySem PySem.Spec PyProof.Rows L2 VL
def topS (i : Nat) : Stmt := PySem.Challenge.pw_trackswhole_k62_moves_of_a_yard.main.body.getD i (.Pass ⟨0, 0, 0, 0⟩)
instance lit_0 : Bd (0 : Int) 4 := ⟨.lit⟩
instance lit_1 : Bd (1 : Int) 4 := ⟨.lit⟩
instance mod_1 (a : Int) : Bd (a % 1) 4 := bd_modl (by decide) (by decide)
instance lit_2 : Bd (2 : Int) 4 := ⟨.lit⟩
instance mod_2 (a : Int) : Bd (a % 2) 4 := bd_modl (by decide) (by decide)
instance lit_3 : Bd (3 : Int) 4 := ⟨.lit⟩
instance mod_3 (a : Int) : Bd (a % 3) 4 := bd_modl (by decide) (by decide)
instance lit_4 : Bd (4 : Int) 4 := ⟨.lit⟩
instance mod_4 (a : Int) : Bd (a % 4) 4 := bd_modl (by decide) (by decide)
instance lit_5 : Bd (5 : Int) 4 := ⟨.lit⟩
instance mod_5 (a : Int) : Bd (a % 5) 4 := bd_modl (by decide) (by decide)
instance lit_6 : Bd (6 : Int) 4 := ⟨.lit⟩
instance mod_6 (a : Int) : Bd (a % 6) 4 := bd_modl (by decide) (by decide)
instance lit_7 : Bd (7 : Int) 4 := ⟨.lit⟩
instance mod_7 (a : Int) : Bd (a % 7) 4 := bd_modl (by decide) (by decide)
instance lit_8 : Bd (8 : Int) 5 := ⟨.lit⟩
instance mod_8 (a : Int) : Bd (a % 8) 5 := bd_modl (by decide) (by decide)
instance lit_9 : Bd (9 : Int) 5 := ⟨.lit⟩
instance mod_9 (a : Int) : Bd (a % 9) 5 := bd_modl (by decide) (by decide)
instance lit_10 : Bd (10 : Int) 5 := ⟨.lit⟩
instance mod_10 (a : Int) : Bd (a % 10) 5 := bd_modl (by decide) (by decide)
instance lit_11 : Bd (11 : Int) 5 := ⟨.lit⟩
instance mod_11 (a : Int) : Bd (a % 11) 5 := bd_modl (by decide) (by decide)
instance lit_18 : Bd (18 : Int) 6 := ⟨.lit⟩
instance mod_18 (a : Int) : Bd (a % 18) 6 := bd_modl (by decide) (by decide)
instance lit_20 : Bd (20 : Int) 6 := ⟨.lit⟩
instance mod_20 (a : Int) : Bd (a % 20) 6 := bd_modl (by decide) (by decide)
instance lit_31 : Bd (31 : Int) 6 := ⟨.lit⟩
instance mod_31 (a : Int) : Bd (a % 31) 6 := bd_modl (by decide) (by decide)
instance lit_32 : Bd (32 : Int) 7 := ⟨.lit⟩
instance mod_32 (a : Int) : Bd (a % 32) 7 := bd_modl (by decide) (by decide)
instance lit_16807 : Bd (16807 : Int) 16 := ⟨.lit⟩
instance mod_16807 (a : Int) : Bd (a % 16807) 16 := bd_modl (by decide) (by decide)
instance lit_20160 : Bd (20160 : Int) 16 := ⟨.lit⟩
instance mod_20160 (a : Int) : Bd (a % 20160) 16 := bd_modl (by decide) (by decide)
instance lit_40692 : Bd (40692 : Int) 17 := ⟨.lit⟩
instance mod_40692 (a : Int) : Bd (a % 40692) 17 := bd_modl (by decide) (by decide)
instance lit_48271 : Bd (48271 : Int) 17 := ⟨.lit⟩
instance mod_48271 (a : Int) : Bd (a % 48271) 17 := bd_modl (by decide) (by decide)
instance lit_69621 : Bd (69621 : Int) 18 := ⟨.lit⟩
instance mod_69621 (a : Int) : Bd (a % 69621) 18 := bd_modl (by decide) (by decide)
instance lit_2147483399 : Bd (2147483399 : Int) 32 := ⟨.lit⟩
instance mod_2147483399 (a : Int) : Bd (a % 2147483399) 32 := bd_modl (by decide) (by decide)
instance lit_2147483647 : Bd (2147483647 : Int) 32 := ⟨.lit⟩
instance mod_2147483647 (a : Int) : Bd (a % 2147483647) 32 := bd_modl (by decide) (by decide)
@[simp] theorem sok_0 : PyData.strOk "the move cannot be made" = true := by decide +kernel
abbrev ltb_TrackError : List (Str × Bool) := [("InvalidMove", true)]
def tb_TrackError : Str → Option Bool := fun c => ltb_TrackError.lookup c
@[simp] theorem tb_TrackError_InvalidMove : tb_TrackError "InvalidMove" = some true := by decide +kernel
abbrev lis_InvalidMove : List (Str × Bool) := [("InvalidMove", true)]
def is_InvalidMove : Str → Option Bool := fun c => lis_InvalidMove.lookup c
@[simp] theorem is_InvalidMove_InvalidMove : is_InvalidMove "InvalidMove" = some true := by decide +kernel
abbrev lis_Occupied : List (Str × Bool) := [("InvalidMove", false)]
def is_Occupied : Str → Option Bool := fun c => lis_Occupied.lookup c
@[simp] theorem is_Occupied_InvalidMove : is_Occupied "InvalidMove" = some false := by decide +kernel
abbrev lis_ValueError : List (Str × Bool) := [("InvalidMove", true)]
def is_ValueError : Str → Option Bool := fun c => lis_ValueError.lookup c
@[simp] theorem is_ValueError_InvalidMove : is_ValueError "InvalidMove" = some true := by decide +kernel
noncomputable section
abbrev s_yard_moves : Stmt := topS 5
abbrev N_yard_moves : List Str := ["capacities", "reach", "state", "found", "i", "j", "most", "n"]
def e_yard_moves_1 : PEnv → R PyData := (vtup (aCons (vVar 4) (aCons (vVar 5) (aCons (vVar 7) aNil))))
def b_yard_moves_2 : OEnv → SR := (sIf (tB (tst (v2 vne (vVar 4) (vVar 5))))
    (seq (sSet 6 (oX (exF (vapp vmin3 (aCons (vVar 1) (aCons (vapp vlen (aCons (v2 vidx (vVar 2) (vVar 4)) aNil)) (aCons (v2 vsub (v2 vidx (vVar 0) (vVar 5)) (vapp vlen (aCons (v2 vidx (vVar 2) (vVar 5)) aNil))) aNil)))))))
    (sExt 3 (oFrF (vcomp [7] (i2 vrange2 (vC (.int 1)) (v2 vadd (vVar 6) (vC (.int 1)))) (gN 7) tyes (e_yard_moves_1)))))
    sNx)
def b_yard_moves_3 : OEnv → SR := (sFor (x1 vrange1 (exF (vapp vlen (aCons (vVar 2) aNil)))) (gN 5) (kill [5, 6]) (b_yard_moves_2))
def g_yard_moves : OEnv → SR := (seq (sSet 3 (oFrF aNil))
    (seq (sFor (x1 vrange1 (exF (vapp vlen (aCons (vVar 2) aNil)))) (gN 4) (kill [4, 5, 6]) (b_yard_moves_3))
    (pre (kill [0, 1, 2, 4, 5, 6]) (sRet (oMv 3)))))
def mo_yard_moves : List PyData → R O := runB 8 g_yard_moves
def m_yard_moves : List PyData → R PyData := frz (runB 8 g_yard_moves)
theorem r_yard_moves (a0 a1 a2 : PyData) : m_yard_moves [a0, a1, a2] = fin (g_yard_moves [some (.fz a0), some (.fz a1), some (.fz a2), none, none, none, none, none]) := frz_fin _ _ _
theorem ro_yard_moves (a0 a1 a2 : PyData) : mo_yard_moves [a0, a1, a2] = finO (g_yard_moves [some (.fz a0), some (.fz a1), some (.fz a2), none, none, none, none, none]) := runB_fin _ _ _
abbrev s_pushed : Stmt := topS 6
abbrev N_pushed : List Str := ["state", "move", "i", "j", "n", "found"]
def g_pushed : OEnv → SR := (seq (sTup (gT (gC (gN 2) (gC (gN 3) (gC (gN 4) gE)))) (exF (vVar 1)))
    (seq (sSet 5 (oFrF (isq (vVar 0))))
    (seq (sSetI 5 (exF (vVar 2)) (oX (exF (vslice (v2 vidx (vVar 0) (vVar 2)) (vpart (vVar 4)) vnopart))))
    (seq (sSetI 5 (exF (vVar 3)) (oX (exF (v2 vadd (vslice (v2 vidx (vVar 0) (vVar 2)) vnopart (vpart (vVar 4))) (v2 vidx (vVar 0) (vVar 3))))))
    (pre (freeze [5]) (sRet (oX (exF (vapp vtuple1 (aCons (vVar 5) aNil))))))))))
def m_pushed : List PyData → R PyData := frz (runB 6 g_pushed)
theorem r_pushed (a0 a1 : PyData) : m_pushed [a0, a1] = fin (g_pushed [some (.fz a0), some (.fz a1), none, none, none, none]) := frz_fin _ _ _
abbrev s_moved : Stmt := topS 7
abbrev N_moved : List Str := ["capacities", "reach", "state", "move"]
def g_moved : OEnv → SR := (seq (sIf (tB (tst (v2 vNotIn (vVar 3) (vapp m_yard_moves (aCons (vVar 0) (aCons (vVar 1) (aCons (vVar 2) aNil)))))))
    (sRaise "InvalidMove")
    sNx)
    (pre (kill [0, 1]) (sRet (oX (exF (vapp m_pushed (aCons (vVar 2) (aCons (vVar 3) aNil))))))))
def m_moved : List PyData → R PyData := frz (runB 4 g_moved)
theorem r_moved (a0 a1 a2 a3 : PyData) : m_moved [a0, a1, a2, a3] = fin (g_moved [some (.fz a0), some (.fz a1), some (.fz a2), some (.fz a3)]) := frz_fin _ _ _
abbrev s_law_cell : Stmt := topS 9
abbrev N_law_cell : List Str := ["script", "k"]
def g_law_cell : OEnv → SR := (seq (sIf (tB (tst (v2 vlt (vVar 1) (vapp vlen (aCons (vVar 0) aNil)))))
    (sRet (oX (exF (vapp vint1 (aCons (v2 vidx (vVar 0) (vVar 1)) aNil)))))
    sNx)
    (pre (kill [0]) (sRet (oX (exF (v2 vadd (v2 vmul (vC (.int 31)) (vVar 1)) (vC (.int 5))))))))
def m_law_cell : List PyData → R PyData := frz (runB 2 g_law_cell)
theorem r_law_cell (a0 a1 : PyData) : m_law_cell [a0, a1] = fin (g_law_cell [some (.fz a0), some (.fz a1)]) := frz_fin _ _ _
abbrev s_law_numbers : Stmt := topS 10
abbrev N_law_numbers : List Str := ["cell", "count", "limit", "found", "k", "mixed"]
def b_law_numbers_1 : OEnv → SR := (seq (sApp 3 (oX (exF (v2 vmod (vapp vint1 (aCons (vVar 0) aNil)) (vVar 2)))))
    (sSet 0 (oX (exF (v2 vfdiv (vapp vint1 (aCons (vVar 0) aNil)) (vVar 2))))))
def b_law_numbers_2 : OEnv → SR := (seq (sSet 5 (oX (exF (v2 vmod (vapp vint1 (aCons (v2 vadd (v2 vadd (v2 vmul (vVar 0) (vC (.int 48271))) (v2 vmul (vVar 4) (vC (.int 69621)))) (vC (.int 7))) aNil)) (vC (.int 2147483647))))))
    (seq (sSet 5 (oX (exF (v2 vmod (vapp vint1 (aCons (v2 vadd (v2 vadd (v2 vadd (v2 vmul (vVar 5) (vVar 5)) (v2 vmul (vVar 5) (vC (.int 40692)))) (v2 vmul (vVar 4) (vC (.int 16807)))) (vC (.int 11))) aNil)) (vC (.int 2147483399))))))
    (sApp 3 (oX (exF (v2 vmod (vapp vint1 (aCons (v2 vfdiv (vVar 5) (vC (.int 32))) aNil)) (vVar 2)))))))
def g_law_numbers : OEnv → SR := (seq (sSet 3 (oFrF aNil))
    (seq (sIf (tB (tst (v2 vge (vVar 0) (v2 vpow (vC (.int 10)) (vC (.int 18))))))
    (seq (sSet 0 (oX (exF (v2 vsub (vVar 0) (v2 vpow (vC (.int 10)) (vC (.int 18)))))))
    (seq (sForK (x1 vrange1 (exF (vVar 1))) (kill [1]) (gN 4) (kill [4]) (b_law_numbers_1))
    (pre (kill [0, 2, 4]) (pre (freeze [3]) (sRet (oX (exF (vVar 3))))))))
    sNx)
    (seq (sForK (x1 vrange1 (exF (vVar 1))) (kill [1]) (gN 4) (kill [4, 5]) (b_law_numbers_2))
    (pre (kill [0, 2, 4, 5]) (pre (freeze [3]) (sRet (oX (exF (vVar 3)))))))))
def m_law_numbers : List PyData → R PyData := frz (runB 6 g_law_numbers)
theorem r_law_numbers (a0 a1 a2 : PyData) : m_law_numbers [a0, a1, a2] = fin (g_law_numbers [some (.fz a0), some (.fz a1), some (.fz a2), none, none, none]) := frz_fin _ _ _
abbrev s_law_yard_moves : Stmt := topS 11
abbrev N_law_yard_moves : List Str := ["capacities", "reach", "state", "found", "i", "j", "n"]
def b_law_yard_moves_1 : OEnv → SR := (sIf (tB (tand (tst (v2 vne (vVar 4) (vVar 5))) (tand (tst (v2 vle (vVar 6) (vVar 1))) (tst (v2 vle (v2 vadd (vapp vlen (aCons (v2 vidx (vVar 2) (vVar 5)) aNil)) (vVar 6)) (v2 vidx (vVar 0) (vVar 5)))))))
    (sApp 3 (oX (exF (vtup (aCons (vVar 4) (aCons (vVar 5) (aCons (vVar 6) aNil)))))))
    sNx)
def b_law_yard_moves_2 : OEnv → SR := (sFor (x2 vrange2 (exF (vC (.int 1))) (exF (v2 vadd (vapp vlen (aCons (v2 vidx (vVar 2) (vVar 4)) aNil)) (vC (.int 1))))) (gN 6) (kill [6]) (b_law_yard_moves_1))
def b_law_yard_moves_3 : OEnv → SR := (sFor (x1 vrange1 (exF (vapp vlen (aCons (vVar 2) aNil)))) (gN 5) (kill [5, 6]) (b_law_yard_moves_2))
def g_law_yard_moves : OEnv → SR := (seq (sSet 3 (oFrF aNil))
    (seq (sFor (x1 vrange1 (exF (vapp vlen (aCons (vVar 2) aNil)))) (gN 4) (kill [4, 5, 6]) (b_law_yard_moves_3))
    (pre (kill [0, 1, 2, 4, 5, 6]) (pre (freeze [3]) (sRet (oX (exF (vVar 3))))))))
def m_law_yard_moves : List PyData → R PyData := frz (runB 7 g_law_yard_moves)
theorem r_law_yard_moves (a0 a1 a2 : PyData) : m_law_yard_moves [a0, a1, a2] = fin (g_law_yard_moves [some (.fz a0), some (.fz a1), some (.fz a2), none, none, none, none]) := frz_fin _ _ _
abbrev s_law_pushed : Stmt := topS 12
abbrev N_law_pushed : List Str := ["state", "move", "i", "j", "n", "found", "k"]
def b_law_pushed_1 : OEnv → SR := (sIf (tB (tst (v2 veq (vVar 6) (vVar 2))))
    (sApp 5 (oX (exF (vslice (v2 vidx (vVar 0) (vVar 6)) (vpart (vVar 4)) vnopart))))
    (sIf (tB (tst (v2 veq (vVar 6) (vVar 3))))
    (sApp 5 (oX (exF (v2 vadd (vslice (v2 vidx (vVar 0) (vVar 2)) (vpart (vC (.int 0))) (vpart (vVar 4))) (v2 vidx (vVar 0) (vVar 6))))))
    (sApp 5 (oX (exF (v2 vidx (vVar 0) (vVar 6)))))))
def g_law_pushed : OEnv → SR := (seq (sTup (gT (gC (gN 2) (gC (gN 3) (gC (gN 4) gE)))) (exF (vVar 1)))
    (seq (sSet 5 (oFrF aNil))
    (pre (kill [1]) (seq (sFor (x1 vrange1 (exF (vapp vlen (aCons (vVar 0) aNil)))) (gN 6) (kill [6]) (b_law_pushed_1))
    (pre (kill [0, 2, 3, 4, 6]) (pre (freeze [5]) (sRet (oX (exF (vapp vtuple1 (aCons (vVar 5) aNil)))))))))))
def m_law_pushed : List PyData → R PyData := frz (runB 7 g_law_pushed)
theorem r_law_pushed (a0 a1 : PyData) : m_law_pushed [a0, a1] = fin (g_law_pushed [some (.fz a0), some (.fz a1), none, none, none, none, none]) := frz_fin _ _ _
abbrev s_law_placed : Stmt := topS 13
abbrev N_law_placed : List Str := ["wagons", "capacities", "draws", "found", "k", "fits", "i", "place"]
def e_law_placed_1 : PEnv → R PyData := (vtup aNil)
def e_law_placed_2 : PEnv → R PyData := (vVar 6)
def t_law_placed_2 : PEnv → R Bool := (tst (v2 vlt (vapp vlen (aCons (v2 vidx (vVar 3) (vVar 6)) aNil)) (v2 vidx (vVar 1) (vVar 6))))
def b_law_placed_3 : OEnv → SR := (seq (sSet 5 (oFrB (vcomp [6] (i1 vrange1 (vapp vlen (aCons (vVar 1) aNil))) (gN 6) (t_law_placed_2) (e_law_placed_2))))
    (pre (freeze [5]) (sIf (tB (tst (v2 vgt (vapp vlen (aCons (vVar 5) aNil)) (vC (.int 0)))))
    (seq (sSet 6 (oX (exF (v2 vidx (vVar 5) (v2 vmod (v2 vidx (vVar 2) (vVar 4)) (vapp vlen (aCons (vVar 5) aNil)))))))
    (sSetI 3 (exF (vVar 6)) (oX (exB (v2 vadd (vtup (aCons (v2 vidx (vVar 0) (vVar 4)) aNil)) (v2 vidx (vVar 3) (vVar 6)))))))
    sNx)))
def g_law_placed : OEnv → SR := (seq (sSet 3 (oFrF (vcomp [7] (isq (vVar 1)) (gN 7) tyes (e_law_placed_1))))
    (seq (sFor (x1 vrange1 (exF (vapp vlen (aCons (vVar 0) aNil)))) (gN 4) (kill [4, 5]) (b_law_placed_3))
    (pre (kill [0, 1, 2, 4, 5, 6]) (pre (freeze [3]) (sRet (oX (exF (vapp vtuple1 (aCons (vVar 3) aNil)))))))))
def m_law_placed : List PyData → R PyData := frz (runB 8 g_law_placed)
theorem r_law_placed (a0 a1 a2 : PyData) : m_law_placed [a0, a1, a2] = fin (g_law_placed [some (.fz a0), some (.fz a1), some (.fz a2), none, none, none, none, none]) := frz_fin _ _ _
abbrev s_law_wagons : Stmt := topS 14
abbrev N_law_wagons : List Str := ["cell", "count", "great", "draws", "rest", "found", "k", "wagon"]
def b_law_wagons_1 : OEnv → SR := (seq (sSet 7 (oPopAt 4 (exB (v2 vmod (v2 vidx (vVar 3) (vVar 6)) (vapp vlen (aCons (vVar 4) aNil))))))
    (seq (sIf (tB (tand (ttr (vVar 2)) (tst (v2 veq (v2 vmod (v2 vidx (vVar 3) (v2 vadd (vVar 1) (vVar 6))) (vC (.int 2))) (vC (.int 0))))))
    (sSet 7 (oX (exF (v2 vsub (vVar 7) (v2 vmul (v2 vpow (vC (.int 10)) (vC (.int 20))) (v2 vadd (vC (.int 1)) (v2 vmod (v2 vidx (vVar 3) (v2 vadd (vVar 1) (vVar 6))) (vC (.int 3)))))))))
    sNx)
    (pre (kill [6]) (sApp 5 (oX (exF (vVar 7)))))))
def g_law_wagons : OEnv → SR := (seq (sSet 3 (oX (exF (vapp m_law_numbers (aCons (vVar 0) (aCons (v2 vmul (vC (.int 2)) (vVar 1)) (aCons (vC (.int 20160)) aNil)))))))
    (seq (sSet 4 (oFrF (i2 vrange2 (vC (.int 1)) (v2 vadd (v2 vmul (vC (.int 2)) (vVar 1)) (vC (.int 1))))))
    (seq (sSet 5 (oFrF aNil))
    (pre (kill [0]) (seq (sFor (x1 vrange1 (exF (vVar 1))) (gN 6) (kill [6, 7]) (b_law_wagons_1))
    (pre (kill [1, 2, 3, 4, 7]) (pre (freeze [5]) (sRet (oX (exF (vVar 5)))))))))))
def m_law_wagons : List PyData → R PyData := frz (runB 8 g_law_wagons)
theorem r_law_wagons (a0 a1 a2 : PyData) : m_law_wagons [a0, a1, a2] = fin (g_law_wagons [some (.fz a0), some (.fz a1), some (.fz a2), none, none, none, none, none]) := frz_fin _ _ _
abbrev s_law_same : Stmt := topS 15
abbrev N_law_same : List Str := ["told", "due", "k"]
def b_law_same_1 (self : List PyData → R PyData) : OEnv → SR := (sIf (tB (tnot (ttr (vapp self (aCons (v2 vidx (vVar 0) (vVar 2)) (aCons (v2 vidx (vVar 1) (vVar 2)) aNil))))))
    (sRet (oX (exF (vC (.bool false)))))
    sNx)
def g_law_same (self : List PyData → R PyData) : OEnv → SR := (seq (sIf (tB (ttr (v1 (visi "list") (vVar 1))))
    (sIf (tB (tor (tnot (ttr (v1 (visi "list") (vVar 0)))) (tst (v2 vne (vapp vlen (aCons (vVar 0) aNil)) (vapp vlen (aCons (vVar 1) aNil))))))
    (sRet (oX (exF (vC (.bool false)))))
    sNx)
    (sIf (tB (ttr (v1 (visi "tuple") (vVar 1))))
    (sIf (tB (tor (tnot (ttr (v1 (visi "tuple") (vVar 0)))) (tst (v2 vne (vapp vlen (aCons (vVar 0) aNil)) (vapp vlen (aCons (vVar 1) aNil))))))
    (sRet (oX (exF (vC (.bool false)))))
    sNx)
    (sIf (tB (tst (v1 visnone (vVar 1))))
    (sRet (oX (exF (v1 visnone (vVar 0)))))
    (sIf (tB (ttr (v1 (visi "bool") (vVar 1))))
    (sRet (oX (exF (vand (v1 (visi "bool") (vVar 0)) (v2 veq (vVar 0) (vVar 1))))))
    (sIf (tB (ttr (v1 (visi "int") (vVar 1))))
    (sRet (oX (exF (vand (v1 (visi "int") (vVar 0)) (vand (vnot (v1 (visi "bool") (vVar 0))) (v2 veq (vVar 0) (vVar 1)))))))
    (sRet (oX (exF (vand (v1 (visi "str") (vVar 0)) (v2 veq (vVar 0) (vVar 1)))))))))))
    (seq (sFor (x1 vrange1 (exF (vapp vlen (aCons (vVar 1) aNil)))) (gN 2) (kill [2]) (b_law_same_1 self))
    (pre (kill [0, 1, 2]) (sRet (oX (exF (vC (.bool true))))))))
def m_law_same : Nat → List PyData → R PyData
  | 0 => fun _ => .stuck
  | n + 1 => frz (runB 3 (g_law_same (m_law_same n)))
theorem r_law_same (n : Nat) (a0 a1 : PyData) : m_law_same (n + 1) [a0, a1] = fin (g_law_same (m_law_same n) [some (.fz a0), some (.fz a1), none]) := frz_fin _ _ _
abbrev s_law_refuses : Stmt := topS 16
abbrev N_law_refuses : List Str := ["capacities", "reach", "state", "move", "e"]
def g_law_refuses : OEnv → SR := (seq (sTryAs (sExpr (oX (exF (vapp m_moved (aCons (vVar 0) (aCons (vVar 1) (aCons (vVar 2) (aCons (vVar 3) aNil)))))))) tb_TrackError 4 (fun a cn => (sRet (oX (exF (vand (v1 (vIsE a cn is_InvalidMove) (vVar 4)) (vand (v1 (vIsE a cn is_ValueError) (vVar 4)) (vnot (v1 (vIsE a cn is_Occupied) (vVar 4))))))))))
    (pre (kill [0, 1, 2, 3]) (sRet (oX (exF (vC (.bool false)))))))
def m_law_refuses : List PyData → R PyData := frz (runB 5 g_law_refuses)
theorem r_law_refuses (a0 a1 a2 a3 : PyData) : m_law_refuses [a0, a1, a2, a3] = fin (g_law_refuses [some (.fz a0), some (.fz a1), some (.fz a2), some (.fz a3), none]) := frz_fin _ _ _
abbrev s_law_asks : Stmt := topS 17
abbrev N_law_asks : List Str := ["capacities", "reach", "state", "kept", "moves", "k", "told", "count", "i", "j", "n"]
def b_law_asks_1 : OEnv → SR := (seq (sSet 6 (oCall mo_yard_moves (aCons (vVar 0) (aCons (vVar 1) (aCons (vVar 2) aNil)))))
    (seq (sIf (tB (tnot (ttr (vapp (m_law_same 10) (aCons (vVar 6) (aCons (vVar 4) aNil))))))
    (pre (freeze [6]) (sRet (oX (exF (vC (.bool false))))))
    sNx)
    (pre (kill [5]) (sApp 6 (oX (exF (vtup (aCons (vC (.int 0)) (aCons (vC (.int 0)) (aCons (vC (.int 0)) aNil))))))))))
def b_law_asks_2 : OEnv → SR := (sIf (tB (tst (v2 vIn (vtup (aCons (vVar 8) (aCons (vVar 9) (aCons (vVar 10) aNil)))) (vVar 4))))
    (sIf (tB (tnot (ttr (vapp (m_law_same 10) (aCons (vapp m_moved (aCons (vVar 0) (aCons (vVar 1) (aCons (vVar 2) (aCons (vtup (aCons (vVar 8) (aCons (vVar 9) (aCons (vVar 10) aNil)))) aNil))))) (aCons (vapp m_law_pushed (aCons (vVar 2) (aCons (vtup (aCons (vVar 8) (aCons (vVar 9) (aCons (vVar 10) aNil)))) aNil))) aNil))))))
    (sRet (oX (exF (vC (.bool false)))))
    sNx)
    (sIf (tB (tnot (ttr (vapp m_law_refuses (aCons (vVar 0) (aCons (vVar 1) (aCons (vVar 2) (aCons (vtup (aCons (vVar 8) (aCons (vVar 9) (aCons (vVar 10) aNil)))) aNil))))))))
    (sRet (oX (exF (vC (.bool false)))))
    sNx))
def b_law_asks_3 : OEnv → SR := (sFor (ixF (isq (v2 vadd (vlistOf (i2 vrange2 (v1 vneg (vC (.int 1))) (vC (.int 9)))) (vlistOf (aCons (v2 vpow (vC (.int 10)) (vC (.int 20))) aNil))))) (gN 10) (kill [10]) (b_law_asks_2))
def b_law_asks_4 : OEnv → SR := (sFor (x2 vrange2 (exF (v1 vneg (vC (.int 1)))) (exF (v2 vadd (vVar 7) (vC (.int 1))))) (gN 9) (kill [9, 10]) (b_law_asks_3))
def g_law_asks : OEnv → SR := (seq (sSet 3 (oX (exF (vlistOf (isq (vVar 0))))))
    (seq (sSet 4 (oX (exF (vapp m_law_yard_moves (aCons (vVar 3) (aCons (vVar 1) (aCons (vVar 2) aNil)))))))
    (seq (sFor (x1 vrange1 (exF (vC (.int 2)))) (gN 5) (kill [5, 6]) (b_law_asks_1))
    (pre (kill [6]) (seq (sSet 7 (oX (exF (vapp vlen (aCons (vVar 2) aNil)))))
    (seq (sFor (x2 vrange2 (exF (v1 vneg (vC (.int 1)))) (exF (v2 vadd (vVar 7) (vC (.int 1))))) (gN 8) (kill [8, 9, 10]) (b_law_asks_4))
    (pre (kill [1, 2, 4, 7, 8, 9, 10]) (sRet (oX (exF (v2 veq (vVar 0) (vVar 3))))))))))))
def m_law_asks : List PyData → R PyData := frz (runB 11 g_law_asks)
theorem r_law_asks (a0 a1 a2 : PyData) : m_law_asks [a0, a1, a2] = fin (g_law_asks [some (.fz a0), some (.fz a1), some (.fz a2), none, none, none, none, none, none, none, none]) := frz_fin _ _ _
abbrev s_law : Stmt := topS 18
abbrev N_law : List Str := ["script", "shape", "capacities", "reach", "wagons", "draws", "state", "draw", "moves", "k"]
def e_law_1 : PEnv → R PyData := (v2 vadd (vC (.int 1)) (v2 vmod (v2 vidx (vVar 1) (vVar 9)) (v2 vidx (vlistOf (aCons (vC (.int 3)) (aCons (vC (.int 2)) (aCons (vC (.int 7)) aNil)))) (v2 vmod (v2 vidx (vVar 1) (vC (.int 5))) (vC (.int 3))))))
def b_law_2 : OEnv → SR := (seq (sSet 8 (oX (exF (vapp m_law_yard_moves (aCons (vVar 2) (aCons (vVar 3) (aCons (vVar 6) aNil)))))))
    (sIf (tB (tst (v2 vgt (vapp vlen (aCons (vVar 8) aNil)) (vC (.int 0)))))
    (seq (sSet 6 (oX (exF (vapp m_law_pushed (aCons (vVar 6) (aCons (v2 vidx (vVar 8) (v2 vmod (vVar 7) (vapp vlen (aCons (vVar 8) aNil)))) aNil))))))
    (sIf (tB (tnot (ttr (vapp m_law_asks (aCons (vVar 2) (aCons (vVar 3) (aCons (vVar 6) aNil)))))))
    (sRet (oX (exF (vC (.bool false)))))
    sNx))
    sNx))
def g_law : OEnv → SR := (seq (sSet 1 (oX (exF (vapp m_law_numbers (aCons (vapp m_law_cell (aCons (vVar 0) (aCons (vC (.int 0)) aNil))) (aCons (vC (.int 8)) (aCons (vC (.int 20160)) aNil)))))))
    (seq (sSet 2 (oX (exF (vlistOf (vcomp [9] (i1 vrange1 (v2 vadd (vC (.int 1)) (v2 vmod (v2 vidx (vVar 1) (vC (.int 4))) (vC (.int 4))))) (gN 9) tyes (e_law_1))))))
    (seq (sSet 3 (oX (exF (v2 vadd (vC (.int 1)) (v2 vmod (v2 vidx (vVar 1) (vC (.int 6))) (vC (.int 3)))))))
    (seq (sIf (tB (tst (v2 veq (v2 vmod (v2 vidx (vVar 1) (vC (.int 6))) (vC (.int 5))) (vC (.int 0)))))
    (sSet 3 (oX (exF (v2 vadd (vC (.int 1)) (v2 vidx (vVar 1) (vC (.int 6)))))))
    sNx)
    (seq (sSet 4 (oX (exF (vapp m_law_wagons (aCons (vapp m_law_cell (aCons (vVar 0) (aCons (vC (.int 1)) aNil))) (aCons (vapp vmin3 (aCons (vC (.int 6)) (aCons (vapp vsum (aCons (vVar 2) aNil)) (aCons (v2 vmod (v2 vidx (vVar 1) (vC (.int 7))) (vC (.int 7))) aNil)))) (aCons (v2 veq (v2 vmod (v2 vidx (vVar 1) (vC (.int 5))) (vC (.int 2))) (vC (.int 1))) aNil)))))))
    (seq (sSet 5 (oX (exF (vapp m_law_numbers (aCons (vapp m_law_cell (aCons (vVar 0) (aCons (vC (.int 2)) aNil))) (aCons (vC (.int 9)) (aCons (vC (.int 20160)) aNil)))))))
    (seq (sSet 6 (oX (exF (vapp m_law_placed (aCons (vVar 4) (aCons (vVar 2) (aCons (vslice (vVar 5) (vpart (vC (.int 0))) (vpart (vC (.int 6)))) aNil)))))))
    (seq (sIf (tB (tnot (ttr (vapp m_law_asks (aCons (vVar 2) (aCons (vVar 3) (aCons (vVar 6) aNil)))))))
    (sRet (oX (exF (vC (.bool false)))))
    sNx)
    (pre (kill [0, 1, 4]) (seq (sForK (ixF (isq (vslice (vVar 5) (vpart (vC (.int 6))) (vpart (vC (.int 9)))))) (kill [5]) (gN 7) (kill [7, 8]) (b_law_2))
    (pre (kill [2, 3, 6, 7, 8]) (sRet (oX (exF (vC (.bool true))))))))))))))))
def m_law : List PyData → R PyData := frz (runB 10 g_law)
theorem r_law (a0 : PyData) : m_law [a0] = fin (g_law [some (.fz a0), none, none, none, none, none, none, none, none, none]) := frz_fin _ _ _
end
structure Txt (K : PySem.W.Frag) (mg : Str → Option Value) where
  f_yard_moves : Addr
  d_yard_moves : FuncData
  F_yard_moves : Fun K "yard_moves" "yard_moves" s_yard_moves f_yard_moves d_yard_moves
  g_yard_moves : mg "yard_moves" = some (.ref f_yard_moves)
  B_yard_moves : Binds K d_yard_moves ["capacities", "reach", "state"] []
  f_pushed : Addr
  d_pushed : FuncData
  F_pushed : Fun K "pushed" "pushed" s_pushed f_pushed d_pushed
  g_pushed : mg "pushed" = some (.ref f_pushed)
  B_pushed : Binds K d_pushed ["state", "move"] []
  f_moved : Addr
  d_moved : FuncData
  F_moved : Fun K "moved" "moved" s_moved f_moved d_moved
  g_moved : mg "moved" = some (.ref f_moved)
  B_moved : Binds K d_moved ["capacities", "reach", "state", "move"] []
  f__law_cell : Addr
  d__law_cell : FuncData
  F__law_cell : Fun K "_law_cell" "_law_cell" s_law_cell f__law_cell d__law_cell
  g__law_cell : mg "_law_cell" = some (.ref f__law_cell)
  B__law_cell : Binds K d__law_cell ["script", "k"] []
  f__law_numbers : Addr
  d__law_numbers : FuncData
  F__law_numbers : Fun K "_law_numbers" "_law_numbers" s_law_numbers f__law_numbers d__law_numbers
  g__law_numbers : mg "_law_numbers" = some (.ref f__law_numbers)
  B__law_numbers : Binds K d__law_numbers ["cell", "count", "limit"] []
  f__law_yard_moves : Addr
  d__law_yard_moves : FuncData
  F__law_yard_moves : Fun K "_law_yard_moves" "_law_yard_moves" s_law_yard_moves f__law_yard_moves d__law_yard_moves
  g__law_yard_moves : mg "_law_yard_moves" = some (.ref f__law_yard_moves)
  B__law_yard_moves : Binds K d__law_yard_moves ["capacities", "reach", "state"] []
  f__law_pushed : Addr
  d__law_pushed : FuncData
  F__law_pushed : Fun K "_law_pushed" "_law_pushed" s_law_pushed f__law_pushed d__law_pushed
  g__law_pushed : mg "_law_pushed" = some (.ref f__law_pushed)
  B__law_pushed : Binds K d__law_pushed ["state", "move"] []
  f__law_placed : Addr
  d__law_placed : FuncData
  F__law_placed : Fun K "_law_placed" "_law_placed" s_law_placed f__law_placed d__law_placed
  g__law_placed : mg "_law_placed" = some (.ref f__law_placed)
  B__law_placed : Binds K d__law_placed ["wagons", "capacities", "draws"] []
  f__law_wagons : Addr
  d__law_wagons : FuncData
  F__law_wagons : Fun K "_law_wagons" "_law_wagons" s_law_wagons f__law_wagons d__law_wagons
  g__law_wagons : mg "_law_wagons" = some (.ref f__law_wagons)
  B__law_wagons : Binds K d__law_wagons ["cell", "count", "great"] []
  f__law_same : Addr
  d__law_same : FuncData
  F__law_same : Fun K "_law_same" "_law_same" s_law_same f__law_same d__law_same
  g__law_same : mg "_law_same" = some (.ref f__law_same)
  B__law_same : Binds K d__law_same ["told", "due"] []
  f__law_refuses : Addr
  d__law_refuses : FuncData
  F__law_refuses : Fun K "_law_refuses" "_law_refuses" s_law_refuses f__law_refuses d__law_refuses
  g__law_refuses : mg "_law_refuses" = some (.ref f__law_refuses)
  B__law_refuses : Binds K d__law_refuses ["capacities", "reach", "state", "move"] []
  f__law_asks : Addr
  d__law_asks : FuncData
  F__law_asks : Fun K "_law_asks" "_law_asks" s_law_asks f__law_asks d__law_asks
  g__law_asks : mg "_law_asks" = some (.ref f__law_asks)
  B__law_asks : Binds K d__law_asks ["capacities", "reach", "state"] []
  f_law : Addr
  d_law : FuncData
  F_law : Fun K "law" "law" s_law f_law d_law
  g_law : mg "law" = some (.ref f_law)
  B_law : Binds K d_law ["script"] []
  b_ValueError : mg "ValueError" = none
  b_bool : mg "bool" = none
  b_int : mg "int" = none
  b_isinstance : mg "isinstance" = none
  b_len : mg "len" = none
  b_list : mg "list" = none
  b_min : mg "min" = none
  b_range : mg "range" = none
  b_str : mg "str" = none
  b_sum : mg "sum" = none
  b_tuple : mg "tuple" = none
  x_InvalidMove : Addr
  E_InvalidMove : ExcF K mg "InvalidMove" x_InvalidMove
  x_Occupied : Addr
  E_Occupied : ExcF K mg "Occupied" x_Occupied
  x_TrackError : Addr
  E_TrackError : ExcF K mg "TrackError" x_TrackError
  h_TrackError : HTab K mg "TrackError" tb_TrackError
  i_InvalidMove : ITab K mg "InvalidMove" (.ref x_InvalidMove) is_InvalidMove
  i_Occupied : ITab K mg "Occupied" (.ref x_Occupied) is_Occupied
  i_ValueError : ITab K mg "ValueError" (.type "ValueError") is_ValueError
section
variable {P : Program} {w : World} {K : PySem.W.Frag} {mg : Str → Option Value} {base : Heap}
theorem sc_yard_moves : FnScope N_yard_moves ["capacities", "reach", "state"] (defScope s_yard_moves) := ⟨rfl, rfl, rfl, by decide +kernel, rfl, by decide +kernel, by decide +kernel⟩
theorem okO_yard_moves (T : Txt K mg) : FnOk P w K mg base (L2.CX P w) 1 T.f_yard_moves T.d_yard_moves ["capacities", "reach", "state"] (spO K mg 3 mo_yard_moves) := by
  refine fn_vl T.F_yard_moves sc_yard_moves rfl fun cdv A outer s H E hr => ?_
  have nd := sc_yard_moves.nd
  have tk := takes_of (X := cxOf (L2.CX P w) P w K mg base N_yard_moves "yard_moves" (defScope s_yard_moves) T.f_yard_moves cdv A outer s H E) rfl rfl rfl rfl
  have hp := passes_of (X := cxOf (L2.CX P w) P w K mg base N_yard_moves "yard_moves" (defScope s_yard_moves) T.f_yard_moves cdv A outer s H E) rfl
  exact (qs_cons (vs_set 3 nd (vo_frF (vlst_f van_nil)))
      (qs_cons (vs_for hp rfl (vix_range1 T.b_range (vxF (vlen_ T.b_len (VAn.va (van_cons (vv 2) van_nil))))) (vg 4 nd) (envT_kill _ [4, 5, 6])
      (vss_one (vs_for hp rfl (vix_range1 T.b_range (vxF (vlen_ T.b_len (VAn.va (van_cons (vv 2) van_nil))))) (vg 5 nd) (envT_kill _ [5, 6])
      (vss_one (vs_if (qx_T (qne hr (vv 4) (vv 5)))
      (qs_cons (vs_set 6 nd (vo_x (vxF (vmin3_ rfl T.b_min (VAn.va (van_cons (vv 1) (van_cons (vlen_ T.b_len (VAn.va (van_cons (vidx_ (vv 2) (vv 4)) van_nil))) (van_cons (vsub_ (vidx_ (vv 0) (vv 5)) (vlen_ T.b_len (VAn.va (van_cons (vidx_ (vv 2) (vv 5)) van_nil)))) van_nil))))))))
      (vss_one (vs_ext 3 (fun p => pe_bm PySem.F.plainAttrs_list PySem.F.slot_list_extend PySem.F.type_list_extend mt_extend (pv 3) (pa_cons p pa_nil)) (vo_frF (qcomp rfl nd (vi_range2 T.b_range vint (vadd_ (vv 6) vint)) (blkOk_by (own := [("n", 7)]) (N := N_yard_moves) (sc := defScope s_yard_moves) (by decide +kernel)) rfl (fun _ _ _ _ _ => (vg 7 nd)) (by decide) (fun _ _ _ _ _ => vts_nil) (fun _ _ _ _ _ => (vtup_ (van_cons (vv 4) (van_cons (vv 5) (van_cons (vv 7) van_nil))))))))))
      qs_nil)))))
      (qs_t (envT_kill _ [0, 1, 2, 4, 5, 6]) (vss_one (vs_ret (vo_mv 3))))))
theorem ok_yard_moves (T : Txt K mg) : FnOk P w K mg base (L2.CX P w) 1 T.f_yard_moves T.d_yard_moves ["capacities", "reach", "state"] (spV K mg 3 m_yard_moves) := fn_frz (okO_yard_moves T)
theorem sc_pushed : FnScope N_pushed ["state", "move"] (defScope s_pushed) := ⟨rfl, rfl, rfl, by decide +kernel, rfl, by decide +kernel, by decide +kernel⟩
theorem ok_pushed (T : Txt K mg) : FnOk P w K mg base (L2.CX P w) 1 T.f_pushed T.d_pushed ["state", "move"] (spV K mg 2 m_pushed) := by
  refine fn_frz (g := runB 6 g_pushed) ?_
  refine fn_vl T.F_pushed sc_pushed rfl fun cdv A outer s H E hr => ?_
  have nd := sc_pushed.nd
  have tk := takes_of (X := cxOf (L2.CX P w) P w K mg base N_pushed "pushed" (defScope s_pushed) T.f_pushed cdv A outer s H E) rfl rfl rfl rfl
  have hp := passes_of (X := cxOf (L2.CX P w) P w K mg base N_pushed "pushed" (defScope s_pushed) T.f_pushed cdv A outer s H E) rfl
  exact (qs_cons (vs_tup (vg_tup rfl (vgs_cons (vg 2 nd) (vgs_cons (vg 3 nd) (vgs_cons (vg 4 nd) vgs_nil)))) (vxF (vv 1)))
      (qs_cons (vs_set 5 nd (vo_frF (vlist_f T.b_list (vv 0))))
      (qs_cons (vs_setI 5 (fun p q => ps_asg p (pg_sub (pv 5) q set_list)) (vxF (vv 2)) (vo_x (vxF (vslice_ (vidx_ (vv 0) (vv 2)) (qo_some (vv 4)) qo_none))))
      (qs_cons (vs_setI 5 (fun p q => ps_asg p (pg_sub (pv 5) q set_list)) (vxF (vv 3)) (vo_x (vxF (vadd_ (vslice_ (vidx_ (vv 0) (vv 2)) qo_none (qo_some (vv 4))) (vidx_ (vv 0) (vv 3))))))
      (qs_t (envT_freeze _ [5]) (vss_one (vs_ret (vo_x (vxF (vtuple_ T.b_tuple (VAn.va (van_cons (vv 5) van_nil))))))))))))
theorem sc_moved : FnScope N_moved ["capacities", "reach", "state", "move"] (defScope s_moved) := ⟨rfl, rfl, rfl, by decide +kernel, rfl, by decide +kernel, by decide +kernel⟩
theorem ok_moved (T : Txt K mg) : FnOk P w K mg base (L2.CX P w) 2 T.f_moved T.d_moved ["capacities", "reach", "state", "move"] (spV K mg 4 m_moved) := by
  refine fn_frz (g := runB 4 g_moved) ?_
  refine fn_vl T.F_moved sc_moved rfl fun cdv A outer s H E hr => ?_
  have nd := sc_moved.nd
  have tk := takes_of (X := cxOf (L2.CX P w) P w K mg base N_moved "moved" (defScope s_moved) T.f_moved cdv A outer s H E) rfl rfl rfl rfl
  have hp := passes_of (X := cxOf (L2.CX P w) P w K mg base N_moved "moved" (defScope s_moved) T.f_moved cdv A outer s H E) rfl
  exact (qs_cons (vs_if (qx_T (qnotin hr (vv 3) (vcall (ok_yard_moves T) (hr.mono (by decide)) T.g_yard_moves T.F_yard_moves.kp T.B_yard_moves tk (van_cons (vv 0) (van_cons (vv 1) (van_cons (vv 2) van_nil))))))
      (vss_one (vs_raise rfl tk T.E_InvalidMove))
      qs_nil)
      (qs_t (envT_kill _ [0, 1]) (vss_one (vs_ret (vo_x (vxF (vcall (ok_pushed T) (hr.mono (by decide)) T.g_pushed T.F_pushed.kp T.B_pushed tk (van_cons (vv 2) (van_cons (vv 3) van_nil)))))))))
theorem sc_law_cell : FnScope N_law_cell ["script", "k"] (defScope s_law_cell) := ⟨rfl, rfl, rfl, by decide +kernel, rfl, by decide +kernel, by decide +kernel⟩
theorem ok_law_cell (T : Txt K mg) : FnOk P w K mg base (L2.CX P w) 1 T.f__law_cell T.d__law_cell ["script", "k"] (spV K mg 2 m_law_cell) := by
  refine fn_frz (g := runB 2 g_law_cell) ?_
  refine fn_vl T.F__law_cell sc_law_cell rfl fun cdv A outer s H E hr => ?_
  have nd := sc_law_cell.nd
  have tk := takes_of (X := cxOf (L2.CX P w) P w K mg base N_law_cell "_law_cell" (defScope s_law_cell) T.f__law_cell cdv A outer s H E) rfl rfl rfl rfl
  have hp := passes_of (X := cxOf (L2.CX P w) P w K mg base N_law_cell "_law_cell" (defScope s_law_cell) T.f__law_cell cdv A outer s H E) rfl
  exact (qs_cons (vs_if (qx_T (qlt (vv 1) (vlen_ T.b_len (VAn.va (van_cons (vv 0) van_nil)))))
      (vss_one (vs_ret (vo_x (vxF (vint_ T.b_int (VAn.va (van_cons (vidx_ (vv 0) (vv 1)) van_nil)))))))
      qs_nil)
      (qs_t (envT_kill _ [0]) (vss_one (vs_ret (vo_x (vxF (vadd_ (vmul_ vint (vv 1)) vint)))))))
theorem sc_law_numbers : FnScope N_law_numbers ["cell", "count", "limit"] (defScope s_law_numbers) := ⟨rfl, rfl, rfl, by decide +kernel, rfl, by decide +kernel, by decide +kernel⟩
theorem ok_law_numbers (T : Txt K mg) : FnOk P w K mg base (L2.CX P w) 1 T.f__law_numbers T.d__law_numbers ["cell", "count", "limit"] (spV K mg 3 m_law_numbers) := by
  refine fn_frz (g := runB 6 g_law_numbers) ?_
  refine fn_vl T.F__law_numbers sc_law_numbers rfl fun cdv A outer s H E hr => ?_
  have nd := sc_law_numbers.nd
  have tk := takes_of (X := cxOf (L2.CX P w) P w K mg base N_law_numbers "_law_numbers" (defScope s_law_numbers) T.f__law_numbers cdv A outer s H E) rfl rfl rfl rfl
  have hp := passes_of (X := cxOf (L2.CX P w) P w K mg base N_law_numbers "_law_numbers" (defScope s_law_numbers) T.f__law_numbers cdv A outer s H E) rfl
  exact (qs_cons (vs_set 3 nd (vo_frF (vlst_f van_nil)))
      (qs_cons (vs_if (qx_T (qge (vv 0) (vpow_ vint vint)))
      (qs_cons (vs_set 0 nd (vo_x (vxF (vsub_ (vv 0) (vpow_ vint vint)))))
      (qs_cons (vs_forK hp rfl (vix_range1 T.b_range (vxF (vv 1))) (vg 4 nd) (rs_kill _ [1]) (envT_kill _ [4])
      (qs_cons (vs_app 3 (fun p => pe_bm PySem.F.plainAttrs_list PySem.F.slot_list_append PySem.F.type_list_append mt_append (pv 3) (pa_cons p pa_nil)) (vo_x (vxF (vmod_ (vint_ T.b_int (VAn.va (van_cons (vv 0) van_nil))) (vv 2)))))
      (vss_one (vs_set 0 nd (vo_x (vxF (vfdiv_ (vint_ T.b_int (VAn.va (van_cons (vv 0) van_nil))) (vv 2))))))))
      (qs_t (envT_kill _ [0, 2, 4]) (qs_t (envT_freeze _ [3]) (vss_one (vs_ret (vo_x (vxF (vv 3)))))))))
      qs_nil)
      (qs_cons (vs_forK hp rfl (vix_range1 T.b_range (vxF (vv 1))) (vg 4 nd) (rs_kill _ [1]) (envT_kill _ [4, 5])
      (qs_cons (vs_set 5 nd (vo_x (vxF (vmod_ (vint_ T.b_int (VAn.va (van_cons (vadd_ (vadd_ (vmul_ (vv 0) vint) (vmul_ (vv 4) vint)) vint) van_nil))) vint))))
      (qs_cons (vs_set 5 nd (vo_x (vxF (vmod_ (vint_ T.b_int (VAn.va (van_cons (vadd_ (vadd_ (vadd_ (vmul_ (vv 5) (vv 5)) (vmul_ (vv 5) vint)) (vmul_ (vv 4) vint)) vint) van_nil))) vint))))
      (vss_one (vs_app 3 (fun p => pe_bm PySem.F.plainAttrs_list PySem.F.slot_list_append PySem.F.type_list_append mt_append (pv 3) (pa_cons p pa_nil)) (vo_x (vxF (vmod_ (vint_ T.b_int (VAn.va (van_cons (vfdiv_ (vv 5) vint) van_nil))) (vv 2)))))))))
      (qs_t (envT_kill _ [0, 2, 4, 5]) (qs_t (envT_freeze _ [3]) (vss_one (vs_ret (vo_x (vxF (vv 3))))))))))
theorem sc_law_yard_moves : FnScope N_law_yard_moves ["capacities", "reach", "state"] (defScope s_law_yard_moves) := ⟨rfl, rfl, rfl, by decide +kernel, rfl, by decide +kernel, by decide +kernel⟩
theorem ok_law_yard_moves (T : Txt K mg) : FnOk P w K mg base (L2.CX P w) 1 T.f__law_yard_moves T.d__law_yard_moves ["capacities", "reach", "state"] (spV K mg 3 m_law_yard_moves) := by
  refine fn_frz (g := runB 7 g_law_yard_moves) ?_
  refine fn_vl T.F__law_yard_moves sc_law_yard_moves rfl fun cdv A outer s H E hr => ?_
  have nd := sc_law_yard_moves.nd
  have tk := takes_of (X := cxOf (L2.CX P w) P w K mg base N_law_yard_moves "_law_yard_moves" (defScope s_law_yard_moves) T.f__law_yard_moves cdv A outer s H E) rfl rfl rfl rfl
  have hp := passes_of (X := cxOf (L2.CX P w) P w K mg base N_law_yard_moves "_law_yard_moves" (defScope s_law_yard_moves) T.f__law_yard_moves cdv A outer s H E) rfl
  exact (qs_cons (vs_set 3 nd (vo_frF (vlst_f van_nil)))
      (qs_cons (vs_for hp rfl (vix_range1 T.b_range (vxF (vlen_ T.b_len (VAn.va (van_cons (vv 2) van_nil))))) (vg 4 nd) (envT_kill _ [4, 5, 6])
      (vss_one (vs_for hp rfl (vix_range1 T.b_range (vxF (vlen_ T.b_len (VAn.va (van_cons (vv 2) van_nil))))) (vg 5 nd) (envT_kill _ [5, 6])
      (vss_one (vs_for hp rfl (vix_range2 T.b_range (vxF vint) (vxF (vadd_ (vlen_ T.b_len (VAn.va (van_cons (vidx_ (vv 2) (vv 4)) van_nil))) vint))) (vg 6 nd) (envT_kill _ [6])
      (vss_one (vs_if (qx_T (VW.vt (vw_and (qne hr (vv 4) (vv 5)) (vw_and (qle (vv 6) (vv 1)) (vw_and1 (qle (vadd_ (vlen_ T.b_len (VAn.va (van_cons (vidx_ (vv 2) (vv 5)) van_nil))) (vv 6)) (vidx_ (vv 0) (vv 5))))))))
      (vss_one (vs_app 3 (fun p => pe_bm PySem.F.plainAttrs_list PySem.F.slot_list_append PySem.F.type_list_append mt_append (pv 3) (pa_cons p pa_nil)) (vo_x (vxF (vtup_ (van_cons (vv 4) (van_cons (vv 5) (van_cons (vv 6) van_nil))))))))
      qs_nil)))))))
      (qs_t (envT_kill _ [0, 1, 2, 4, 5, 6]) (qs_t (envT_freeze _ [3]) (vss_one (vs_ret (vo_x (vxF (vv 3)))))))))
theorem sc_law_pushed : FnScope N_law_pushed ["state", "move"] (defScope s_law_pushed) := ⟨rfl, rfl, rfl, by decide +kernel, rfl, by decide +kernel, by decide +kernel⟩
theorem ok_law_pushed (T : Txt K mg) : FnOk P w K mg base (L2.CX P w) 1 T.f__law_pushed T.d__law_pushed ["state", "move"] (spV K mg 2 m_law_pushed) := by
  refine fn_frz (g := runB 7 g_law_pushed) ?_
  refine fn_vl T.F__law_pushed sc_law_pushed rfl fun cdv A outer s H E hr => ?_
  have nd := sc_law_pushed.nd
  have tk := takes_of (X := cxOf (L2.CX P w) P w K mg base N_law_pushed "_law_pushed" (defScope s_law_pushed) T.f__law_pushed cdv A outer s H E) rfl rfl rfl rfl
  have hp := passes_of (X := cxOf (L2.CX P w) P w K mg base N_law_pushed "_law_pushed" (defScope s_law_pushed) T.f__law_pushed cdv A outer s H E) rfl
  exact (qs_cons (vs_tup (vg_tup rfl (vgs_cons (vg 2 nd) (vgs_cons (vg 3 nd) (vgs_cons (vg 4 nd) vgs_nil)))) (vxF (vv 1)))
      (qs_cons (vs_set 5 nd (vo_frF (vlst_f van_nil)))
      (qs_t (envT_kill _ [1]) (qs_cons (vs_for hp rfl (vix_range1 T.b_range (vxF (vlen_ T.b_len (VAn.va (van_cons (vv 0) van_nil))))) (vg 6 nd) (envT_kill _ [6])
      (vss_one (vs_if (qx_T (qeq hr (vv 6) (vv 2)))
      (vss_one (vs_app 5 (fun p => pe_bm PySem.F.plainAttrs_list PySem.F.slot_list_append PySem.F.type_list_append mt_append (pv 5) (pa_cons p pa_nil)) (vo_x (vxF (vslice_ (vidx_ (vv 0) (vv 6)) (qo_some (vv 4)) qo_none)))))
      (vss_one (vs_if (qx_T (qeq hr (vv 6) (vv 3)))
      (vss_one (vs_app 5 (fun p => pe_bm PySem.F.plainAttrs_list PySem.F.slot_list_append PySem.F.type_list_append mt_append (pv 5) (pa_cons p pa_nil)) (vo_x (vxF (vadd_ (vslice_ (vidx_ (vv 0) (vv 2)) (qo_some vint) (qo_some (vv 4))) (vidx_ (vv 0) (vv 6)))))))
      (vss_one (vs_app 5 (fun p => pe_bm PySem.F.plainAttrs_list PySem.F.slot_list_append PySem.F.type_list_append mt_append (pv 5) (pa_cons p pa_nil)) (vo_x (vxF (vidx_ (vv 0) (vv 6)))))))))))
      (qs_t (envT_kill _ [0, 2, 3, 4, 6]) (qs_t (envT_freeze _ [5]) (vss_one (vs_ret (vo_x (vxF (vtuple_ T.b_tuple (VAn.va (van_cons (vv 5) van_nil)))))))))))))
theorem sc_law_placed : FnScope N_law_placed ["wagons", "capacities", "draws"] (defScope s_law_placed) := ⟨rfl, rfl, rfl, by decide +kernel, rfl, by decide +kernel, by decide +kernel⟩
theorem ok_law_placed (T : Txt K mg) : FnOk P w K mg base (L2.CX P w) 1 T.f__law_placed T.d__law_placed ["wagons", "capacities", "draws"] (spV K mg 3 m_law_placed) := by
  refine fn_frz (g := runB 8 g_law_placed) ?_
  refine fn_vl T.F__law_placed sc_law_placed rfl fun cdv A outer s H E hr => ?_
  have nd := sc_law_placed.nd
  have tk := takes_of (X := cxOf (L2.CX P w) P w K mg base N_law_placed "_law_placed" (defScope s_law_placed) T.f__law_placed cdv A outer s H E) rfl rfl rfl rfl
  have hp := passes_of (X := cxOf (L2.CX P w) P w K mg base N_law_placed "_law_placed" (defScope s_law_placed) T.f__law_placed cdv A outer s H E) rfl
  exact (qs_cons (vs_set 3 nd (vo_frF (qcomp rfl nd (vi_seq (vv 1)) (blkOk_by (own := [("place", 7)]) (N := N_law_placed) (sc := defScope s_law_placed) (by decide +kernel)) rfl (fun _ _ _ _ _ => (vg 7 nd)) (by decide) (fun _ _ _ _ _ => vts_nil) (fun _ _ _ _ _ => (vtup_ van_nil)))))
      (qs_cons (vs_for hp rfl (vix_range1 T.b_range (vxF (vlen_ T.b_len (VAn.va (van_cons (vv 0) van_nil))))) (vg 4 nd) (envT_kill _ [4, 5])
      (qs_cons (qsetLc 5 mode_B rfl nd rfl rfl (sw_true rfl rfl rfl (by decide +kernel)) (vi_range1 T.b_range (vlen_ T.b_len (VAn.va (van_cons (vv 1) van_nil)))) (blkOk_by (own := [("i", 6)]) (N := N_law_placed) (sc := defScope s_law_placed) (by decide +kernel)) rfl (fun _ _ _ _ _ => (vg 6 nd)) (by decide) (fun _ _ _ _ _ => (vts_one (qlt (vlen_ T.b_len (VAn.va (van_cons (vidx_ (vv 3) (vv 6)) van_nil))) (vidx_ (vv 1) (vv 6))))) (fun _ _ _ _ _ => (vv 6)))
      (qs_t (envT_freeze _ [5]) (vss_one (vs_if (qx_T (qgt (vlen_ T.b_len (VAn.va (van_cons (vv 5) van_nil))) vint))
      (qs_cons (vs_set 6 nd (vo_x (vxF (vidx_ (vv 5) (vmod_ (vidx_ (vv 2) (vv 4)) (vlen_ T.b_len (VAn.va (van_cons (vv 5) van_nil))))))))
      (vss_one (vs_setI 3 (fun p q => ps_asg p (pg_sub (pv 3) q set_list)) (vxF (vv 6)) (vo_x (vxB (vadd_ (vtup_ (van_cons (vidx_ (vv 0) (vv 4)) van_nil)) (vidx_ (vv 3) (vv 6))))))))
      qs_nil)))))
      (qs_t (envT_kill _ [0, 1, 2, 4, 5, 6]) (qs_t (envT_freeze _ [3]) (vss_one (vs_ret (vo_x (vxF (vtuple_ T.b_tuple (VAn.va (van_cons (vv 3) van_nil)))))))))))
theorem sc_law_wagons : FnScope N_law_wagons ["cell", "count", "great"] (defScope s_law_wagons) := ⟨rfl, rfl, rfl, by decide +kernel, rfl, by decide +kernel, by decide +kernel⟩
theorem ok_law_wagons (T : Txt K mg) : FnOk P w K mg base (L2.CX P w) 2 T.f__law_wagons T.d__law_wagons ["cell", "count", "great"] (spV K mg 3 m_law_wagons) := by
  refine fn_frz (g := runB 8 g_law_wagons) ?_
  refine fn_vl T.F__law_wagons sc_law_wagons rfl fun cdv A outer s H E hr => ?_
  have nd := sc_law_wagons.nd
  have tk := takes_of (X := cxOf (L2.CX P w) P w K mg base N_law_wagons "_law_wagons" (defScope s_law_wagons) T.f__law_wagons cdv A outer s H E) rfl rfl rfl rfl
  have hp := passes_of (X := cxOf (L2.CX P w) P w K mg base N_law_wagons "_law_wagons" (defScope s_law_wagons) T.f__law_wagons cdv A outer s H E) rfl
  exact (qs_cons (vs_set 3 nd (vo_x (vxF (vcall (ok_law_numbers T) (hr.mono (by decide)) T.g__law_numbers T.F__law_numbers.kp T.B__law_numbers tk (van_cons (vv 0) (van_cons (vmul_ vint (vv 1)) (van_cons vint van_nil)))))))
      (qs_cons (vs_set 4 nd (vo_frF (qlist_rg2 rfl T.b_list T.b_range vint (vadd_ (vmul_ vint (vv 1)) vint))))
      (qs_cons (vs_set 5 nd (vo_frF (vlst_f van_nil)))
      (qs_t (envT_kill _ [0]) (qs_cons (vs_for hp rfl (vix_range1 T.b_range (vxF (vv 1))) (vg 6 nd) (envT_kill _ [6, 7])
      (qs_cons (vs_set 7 nd (vo_popAt 4 (fun p => pe_bm PySem.F.plainAttrs_list PySem.F.slot_list_pop PySem.F.type_list_pop mt_popAt (pv 4) (pa_cons p pa_nil)) (vxB (vmod_ (vidx_ (vv 3) (vv 6)) (vlen_ T.b_len (VAn.va (van_cons (vv 4) van_nil)))))))
      (qs_cons (vs_if (qx_T (VW.vt (vw_and (qtruth (vv 2)) (vw_and1 (qeq hr (vmod_ (vidx_ (vv 3) (vadd_ (vv 1) (vv 6))) vint) vint)))))
      (vss_one (vs_set 7 nd (vo_x (vxF (vsub_ (vv 7) (vmul_ (vpow_ vint vint) (vadd_ vint (vmod_ (vidx_ (vv 3) (vadd_ (vv 1) (vv 6))) vint))))))))
      qs_nil)
      (qs_t (envT_kill _ [6]) (vss_one (vs_app 5 (fun p => pe_bm PySem.F.plainAttrs_list PySem.F.slot_list_append PySem.F.type_list_append mt_append (pv 5) (pa_cons p pa_nil)) (vo_x (vxF (vv 7)))))))))
      (qs_t (envT_kill _ [1, 2, 3, 4, 7]) (qs_t (envT_freeze _ [5]) (vss_one (vs_ret (vo_x (vxF (vv 5))))))))))))
theorem sc_law_same : FnScope N_law_same ["told", "due"] (defScope s_law_same) := ⟨rfl, rfl, rfl, by decide +kernel, rfl, by decide +kernel, by decide +kernel⟩
theorem ok_law_same (T : Txt K mg) : ∀ n : Nat, FnOk P w K mg base (L2.CX P w) (n + 0) T.f__law_same T.d__law_same ["told", "due"] (spV K mg 2 (m_law_same n))
  | 0 => ⟨fun vs H Q E h => by obtain ⟨_, _, _, _, _, z⟩ := h; exact z.elim, fun A outer s H ar us vs Q E _ _ _ _ h => by obtain ⟨_, _, _, _, _, z⟩ := h; exact z.elim⟩
  | n + 1 => by
    have IH := ok_law_same T n
    have e : n + 1 + 0 = (n + 0) + 1 := by omega
    rw [e]
    refine fn_frz ?_
    refine fn_vl T.F__law_same sc_law_same rfl fun cdv A outer s H E hr => ?_
    have nd := sc_law_same.nd
    have tk := takes_of (X := cxOf (L2.CX P w) P w K mg base N_law_same "_law_same" (defScope s_law_same) T.f__law_same cdv A outer s H E) rfl rfl rfl rfl
    have hp := passes_of (X := cxOf (L2.CX P w) P w K mg base N_law_same "_law_same" (defScope s_law_same) T.f__law_same cdv A outer s H E) rfl
    exact (qs_cons (vs_if (qx_T (qtruth (visi_ ty_list T.b_isinstance T.b_list (by decide +kernel) (vv 1))))
        (vss_one (vs_if (qx_T (VW.vt (vw_or (vt_not (qtruth (visi_ ty_list T.b_isinstance T.b_list (by decide +kernel) (vv 0)))) (vw_or1 (qne hr (vlen_ T.b_len (VAn.va (van_cons (vv 0) van_nil))) (vlen_ T.b_len (VAn.va (van_cons (vv 1) van_nil))))))))
        (vss_one (vs_ret (vo_x (vxF vbool))))
        qs_nil))
        (vss_one (vs_if (qx_T (qtruth (visi_ ty_tuple T.b_isinstance T.b_tuple (by decide +kernel) (vv 1))))
        (vss_one (vs_if (qx_T (VW.vt (vw_or (vt_not (qtruth (visi_ ty_tuple T.b_isinstance T.b_tuple (by decide +kernel) (vv 0)))) (vw_or1 (qne hr (vlen_ T.b_len (VAn.va (van_cons (vv 0) van_nil))) (vlen_ T.b_len (VAn.va (van_cons (vv 1) van_nil))))))))
        (vss_one (vs_ret (vo_x (vxF vbool))))
        qs_nil))
        (vss_one (vs_if (qx_T (qisnone (vv 1)))
        (vss_one (vs_ret (vo_x (vxF (visnone_ (vv 0))))))
        (vss_one (vs_if (qx_T (qtruth (visi_ ty_bool T.b_isinstance T.b_bool (by decide +kernel) (vv 1))))
        (vss_one (vs_ret (vo_x (vxF (vand_ (visi_ ty_bool T.b_isinstance T.b_bool (by decide +kernel) (vv 0)) (vone (veq_ hr (vv 0) (vv 1))))))))
        (vss_one (vs_if (qx_T (qtruth (visi_ ty_int T.b_isinstance T.b_int (by decide +kernel) (vv 1))))
        (vss_one (vs_ret (vo_x (vxF (vand_ (visi_ ty_int T.b_isinstance T.b_int (by decide +kernel) (vv 0)) (vand_ (vnot_ (visi_ ty_bool T.b_isinstance T.b_bool (by decide +kernel) (vv 0))) (vone (veq_ hr (vv 0) (vv 1)))))))))
        (vss_one (vs_ret (vo_x (vxF (vand_ (visi_ ty_str T.b_isinstance T.b_str (by decide +kernel) (vv 0)) (vone (veq_ hr (vv 0) (vv 1)))))))))))))))))
        (qs_cons (vs_for hp rfl (vix_range1 T.b_range (vxF (vlen_ T.b_len (VAn.va (van_cons (vv 1) van_nil))))) (vg 2 nd) (envT_kill _ [2])
        (vss_one (vs_if (qx_T (vt_not (qtruth (vcall IH hr T.g__law_same T.F__law_same.kp T.B__law_same tk (van_cons (vidx_ (vv 0) (vv 2)) (van_cons (vidx_ (vv 1) (vv 2)) van_nil))))))
        (vss_one (vs_ret (vo_x (vxF vbool))))
        qs_nil)))
        (qs_t (envT_kill _ [0, 1, 2]) (vss_one (vs_ret (vo_x (vxF vbool)))))))
theorem sc_law_refuses : FnScope N_law_refuses ["capacities", "reach", "state", "move"] (defScope s_law_refuses) := ⟨rfl, rfl, rfl, by decide +kernel, rfl, by decide +kernel, by decide +kernel⟩
theorem ok_law_refuses (T : Txt K mg) : FnOk P w K mg base (L2.CX P w) 3 T.f__law_refuses T.d__law_refuses ["capacities", "reach", "state", "move"] (spV K mg 4 m_law_refuses) := by
  refine fn_frz (g := runB 5 g_law_refuses) ?_
  refine fn_vl T.F__law_refuses sc_law_refuses rfl fun cdv A outer s H E hr => ?_
  have nd := sc_law_refuses.nd
  have tk := takes_of (X := cxOf (L2.CX P w) P w K mg base N_law_refuses "_law_refuses" (defScope s_law_refuses) T.f__law_refuses cdv A outer s H E) rfl rfl rfl rfl
  have hp := passes_of (X := cxOf (L2.CX P w) P w K mg base N_law_refuses "_law_refuses" (defScope s_law_refuses) T.f__law_refuses cdv A outer s H E) rfl
  exact (qs_cons (vs_tryAs 4 rfl rfl nd tk T.h_TrackError (fun W2 pn2 xe2 tk hp => (vss_one (vs_expr (vo_x (vxF (vcall (ok_moved T) (hr.mono (by decide)) T.g_moved T.F_moved.kp T.B_moved tk (van_cons (vv 0) (van_cons (vv 1) (van_cons (vv 2) (van_cons (vv 3) van_nil))))))))))
      (fun a oe cn C pn hmc hz hfd => (vss_one (vs_ret (vo_x (vxF (vand_ (visE_own 4 hmc hz hfd T.i_InvalidMove T.E_InvalidMove.gF T.b_isinstance (vv 4)) (vand_ (visE_blt 4 hmc hz hfd T.i_ValueError T.b_ValueError (by decide +kernel) T.b_isinstance (vv 4)) (vone (vnot_ (visE_own 4 hmc hz hfd T.i_Occupied T.E_Occupied.gF T.b_isinstance (vv 4))))))))))))
      (qs_t (envT_kill _ [0, 1, 2, 3]) (vss_one (vs_ret (vo_x (vxF vbool))))))
theorem sc_law_asks : FnScope N_law_asks ["capacities", "reach", "state"] (defScope s_law_asks) := ⟨rfl, rfl, rfl, by decide +kernel, rfl, by decide +kernel, by decide +kernel⟩
theorem ok_law_asks (T : Txt K mg) : FnOk P w K mg base (L2.CX P w) 12 T.f__law_asks T.d__law_asks ["capacities", "reach", "state"] (spV K mg 3 m_law_asks) := by
  refine fn_frz (g := runB 11 g_law_asks) ?_
  refine fn_vl T.F__law_asks sc_law_asks rfl fun cdv A outer s H E hr => ?_
  have nd := sc_law_asks.nd
  have tk := takes_of (X := cxOf (L2.CX P w) P w K mg base N_law_asks "_law_asks" (defScope s_law_asks) T.f__law_asks cdv A outer s H E) rfl rfl rfl rfl
  have hp := passes_of (X := cxOf (L2.CX P w) P w K mg base N_law_asks "_law_asks" (defScope s_law_asks) T.f__law_asks cdv A outer s H E) rfl
  exact (qs_cons (vs_set 3 nd (vo_x (vxF (VFr.ve (vlist_f T.b_list (vv 0))))))
      (qs_cons (vs_set 4 nd (vo_x (vxF (vcall (ok_law_yard_moves T) (hr.mono (by decide)) T.g__law_yard_moves T.F__law_yard_moves.kp T.B__law_yard_moves tk (van_cons (vv 3) (van_cons (vv 1) (van_cons (vv 2) van_nil)))))))
      (qs_cons (vs_for hp rfl (vix_range1 T.b_range (vxF vint)) (vg 5 nd) (envT_kill _ [5, 6])
      (qs_cons (vs_set 6 nd (vo_call (okO_yard_moves T) (hr.mono (by decide)) T.g_yard_moves T.F_yard_moves.kp T.B_yard_moves tk (van_cons (vv 0) (van_cons (vv 1) (van_cons (vv 2) van_nil)))))
      (qs_cons (vs_if (qx_T (vt_not (qtruth (vcall (ok_law_same T 10) (hr.mono (by decide)) T.g__law_same T.F__law_same.kp T.B__law_same tk (van_cons (vv 6) (van_cons (vv 4) van_nil))))))
      (qs_t (envT_freeze _ [6]) (vss_one (vs_ret (vo_x (vxF vbool)))))
      qs_nil)
      (qs_t (envT_kill _ [5]) (vss_one (vs_app 6 (fun p => pe_bm PySem.F.plainAttrs_list PySem.F.slot_list_append PySem.F.type_list_append mt_append (pv 6) (pa_cons p pa_nil)) (vo_x (vxF (vtup_ (van_cons vint (van_cons vint (van_cons vint van_nil))))))))))))
      (qs_t (envT_kill _ [6]) (qs_cons (vs_set 7 nd (vo_x (vxF (vlen_ T.b_len (VAn.va (van_cons (vv 2) van_nil))))))
      (qs_cons (vs_for hp rfl (vix_range2 T.b_range (vxF (vneg_ vint)) (vxF (vadd_ (vv 7) vint))) (vg 8 nd) (envT_kill _ [8, 9, 10])
      (vss_one (vs_for hp rfl (vix_range2 T.b_range (vxF (vneg_ vint)) (vxF (vadd_ (vv 7) vint))) (vg 9 nd) (envT_kill _ [9, 10])
      (vss_one (vs_for hp rfl (qix_F (vi_seq (vadd_ (VFr.ve (qlist_rg2 rfl T.b_list T.b_range (vneg_ vint) vint)) (VFr.ve (vlst_f (van_cons (vpow_ vint vint) van_nil)))))) (vg 10 nd) (envT_kill _ [10])
      (vss_one (vs_if (qx_T (qin hr (vtup_ (van_cons (vv 8) (van_cons (vv 9) (van_cons (vv 10) van_nil)))) (vv 4)))
      (vss_one (vs_if (qx_T (vt_not (qtruth (vcall (ok_law_same T 10) (hr.mono (by decide)) T.g__law_same T.F__law_same.kp T.B__law_same tk (van_cons (vcall (ok_moved T) (hr.mono (by decide)) T.g_moved T.F_moved.kp T.B_moved tk (van_cons (vv 0) (van_cons (vv 1) (van_cons (vv 2) (van_cons (vtup_ (van_cons (vv 8) (van_cons (vv 9) (van_cons (vv 10) van_nil)))) van_nil))))) (van_cons (vcall (ok_law_pushed T) (hr.mono (by decide)) T.g__law_pushed T.F__law_pushed.kp T.B__law_pushed tk (van_cons (vv 2) (van_cons (vtup_ (van_cons (vv 8) (van_cons (vv 9) (van_cons (vv 10) van_nil)))) van_nil))) van_nil))))))
      (vss_one (vs_ret (vo_x (vxF vbool))))
      qs_nil))
      (vss_one (vs_if (qx_T (vt_not (qtruth (vcall (ok_law_refuses T) (hr.mono (by decide)) T.g__law_refuses T.F__law_refuses.kp T.B__law_refuses tk (van_cons (vv 0) (van_cons (vv 1) (van_cons (vv 2) (van_cons (vtup_ (van_cons (vv 8) (van_cons (vv 9) (van_cons (vv 10) van_nil)))) van_nil))))))))
      (vss_one (vs_ret (vo_x (vxF vbool))))
      qs_nil)))))))))
      (qs_t (envT_kill _ [1, 2, 4, 7, 8, 9, 10]) (vss_one (vs_ret (vo_x (vxF (veq_ hr (vv 0) (vv 3)))))))))))))
theorem sc_law : FnScope N_law ["script"] (defScope s_law) := ⟨rfl, rfl, rfl, by decide +kernel, rfl, by decide +kernel, by decide +kernel⟩
theorem ok_law (T : Txt K mg) : FnOk P w K mg base (L2.CX P w) 13 T.f_law T.d_law ["script"] (spV K mg 1 m_law) := by
  refine fn_frz (g := runB 10 g_law) ?_
  refine fn_vl T.F_law sc_law rfl fun cdv A outer s H E hr => ?_
  have nd := sc_law.nd
  have tk := takes_of (X := cxOf (L2.CX P w) P w K mg base N_law "law" (defScope s_law) T.f_law cdv A outer s H E) rfl rfl rfl rfl
  have hp := passes_of (X := cxOf (L2.CX P w) P w K mg base N_law "law" (defScope s_law) T.f_law cdv A outer s H E) rfl
  exact (qs_cons (vs_set 1 nd (vo_x (vxF (vcall (ok_law_numbers T) (hr.mono (by decide)) T.g__law_numbers T.F__law_numbers.kp T.B__law_numbers tk (van_cons (vcall (ok_law_cell T) (hr.mono (by decide)) T.g__law_cell T.F__law_cell.kp T.B__law_cell tk (van_cons (vv 0) (van_cons vint van_nil))) (van_cons vint (van_cons vint van_nil)))))))
      (qs_cons (qsetLc 2 mode_Z rfl nd rfl rfl (sw_true rfl rfl rfl (by decide +kernel)) (vi_range1 T.b_range (vadd_ vint (vmod_ (vidx_ (vv 1) vint) vint))) (blkOk_by (own := [("k", 9)]) (N := N_law) (sc := defScope s_law) (by decide +kernel)) rfl (fun _ _ _ _ _ => (vg 9 nd)) (by decide) (fun _ _ _ _ _ => vts_nil) (fun _ _ _ _ _ => (vadd_ vint (vmod_ (vidx_ (vv 1) (vv 9)) (vidx_ (VFr.ve (vlst_f (van_cons vint (van_cons vint (van_cons vint van_nil))))) (vmod_ (vidx_ (vv 1) vint) vint))))))
      (qs_cons (vs_set 3 nd (vo_x (vxF (vadd_ vint (vmod_ (vidx_ (vv 1) vint) vint)))))
      (qs_cons (vs_if (qx_T (qeq hr (vmod_ (vidx_ (vv 1) vint) vint) vint))
      (vss_one (vs_set 3 nd (vo_x (vxF (vadd_ vint (vidx_ (vv 1) vint))))))
      qs_nil)
      (qs_cons (vs_set 4 nd (vo_x (vxF (vcall (ok_law_wagons T) (hr.mono (by decide)) T.g__law_wagons T.F__law_wagons.kp T.B__law_wagons tk (van_cons (vcall (ok_law_cell T) (hr.mono (by decide)) T.g__law_cell T.F__law_cell.kp T.B__law_cell tk (van_cons (vv 0) (van_cons vint van_nil))) (van_cons (vmin3_ rfl T.b_min (VAn.va (van_cons vint (van_cons (vsum_ rfl T.b_sum (VAn.va (van_cons (vv 2) van_nil))) (van_cons (vmod_ (vidx_ (vv 1) vint) vint) van_nil))))) (van_cons (veq_ hr (vmod_ (vidx_ (vv 1) vint) vint) vint) van_nil)))))))
      (qs_cons (vs_set 5 nd (vo_x (vxF (vcall (ok_law_numbers T) (hr.mono (by decide)) T.g__law_numbers T.F__law_numbers.kp T.B__law_numbers tk (van_cons (vcall (ok_law_cell T) (hr.mono (by decide)) T.g__law_cell T.F__law_cell.kp T.B__law_cell tk (van_cons (vv 0) (van_cons vint van_nil))) (van_cons vint (van_cons vint van_nil)))))))
      (qs_cons (vs_set 6 nd (vo_x (vxF (vcall (ok_law_placed T) (hr.mono (by decide)) T.g__law_placed T.F__law_placed.kp T.B__law_placed tk (van_cons (vv 4) (van_cons (vv 2) (van_cons (vslice_ (vv 5) (qo_some vint) (qo_some vint)) van_nil)))))))
      (qs_cons (vs_if (qx_T (vt_not (qtruth (vcall (ok_law_asks T) (hr.mono (by decide)) T.g__law_asks T.F__law_asks.kp T.B__law_asks tk (van_cons (vv 2) (van_cons (vv 3) (van_cons (vv 6) van_nil)))))))
      (vss_one (vs_ret (vo_x (vxF vbool))))
      qs_nil)
      (qs_t (envT_kill _ [0, 1, 4]) (qs_cons (vs_forK hp rfl (qix_F (vi_seq (vslice_ (vv 5) (qo_some vint) (qo_some vint)))) (vg 7 nd) (rs_kill _ [5]) (envT_kill _ [7, 8])
      (qs_cons (vs_set 8 nd (vo_x (vxF (vcall (ok_law_yard_moves T) (hr.mono (by decide)) T.g__law_yard_moves T.F__law_yard_moves.kp T.B__law_yard_moves tk (van_cons (vv 2) (van_cons (vv 3) (van_cons (vv 6) van_nil)))))))
      (vss_one (vs_if (qx_T (qgt (vlen_ T.b_len (VAn.va (van_cons (vv 8) van_nil))) vint))
      (qs_cons (vs_set 6 nd (vo_x (vxF (vcall (ok_law_pushed T) (hr.mono (by decide)) T.g__law_pushed T.F__law_pushed.kp T.B__law_pushed tk (van_cons (vv 6) (van_cons (vidx_ (vv 8) (vmod_ (vv 7) (vlen_ T.b_len (VAn.va (van_cons (vv 8) van_nil))))) van_nil))))))
      (vss_one (vs_if (qx_T (vt_not (qtruth (vcall (ok_law_asks T) (hr.mono (by decide)) T.g__law_asks T.F__law_asks.kp T.B__law_asks tk (van_cons (vv 2) (van_cons (vv 3) (van_cons (vv 6) van_nil)))))))
      (vss_one (vs_ret (vo_x (vxF vbool))))
      qs_nil)))
      qs_nil))))
      (qs_t (envT_kill _ [2, 3, 6, 7, 8]) (vss_one (vs_ret (vo_x (vxF vbool)))))))))))))))
end
end LW
namespace LW
open PySem PySem.Spec PyProof.Rows VL
theorem cell_eq (ns : List Int) (k : Nat) : ∃ c : Int, m_law_cell [.list (ns.map .int), .int k] = .ok (.int c) := by
  rw [r_law_cell]
  by_cases h1 : k < ns.length
  · have e : (ns.map PyData.int)[k]? = some (.int ns[k]) := by simp [h1]
    exact ⟨ns[k], by simp [g_law_cell, h1, vidx_list e]⟩
  · have m : vmul (.int 31) (.int (k : Int)) = .ok (.int (31 * k)) := vmul_l .lit
    exact ⟨31 * k + 5, by simp [g_law_cell, h1, m]⟩
/-- what the drawn numbers are -/
def Drawn (n : Nat) (lim : Int) (ds : List Int) : Prop := ds.length = n ∧ ∀ d ∈ ds, 0 ≤ d ∧ d < lim
theorem Drawn.snoc {n : Nat} {lim d : Int} {ds : List Int} (h : Drawn n lim ds) (h0 : 0 ≤ d) (h1 : d < lim) : Drawn (n + 1) lim (ds ++ [d]) :=
  ⟨by rw [List.length_append, h.1]; rfl, fun x hx => by
    rcases List.mem_append.mp hx with q | q
    · exact h.2 x q
    · rw [List.mem_singleton.mp q]; exact ⟨h0, h1⟩⟩
theorem Drawn.get {n : Nat} {lim : Int} {ds : List Int} (h : Drawn n lim ds) {i : Nat} (hi : i < n) : ∃ d, (ds.map PyData.int)[i]? = some (.int d) ∧ 0 ≤ d ∧ d < lim := by
  have hl : i < ds.length := by rw [h.1]; exact hi
  exact ⟨ds[i], by simp [hl], h.2 _ (List.getElem_mem hl)⟩
theorem numbers_ok (c : Int) (n : Nat) (lim : Int) (hn : n ≤ 100000) (h0 : 0 < lim) (h1 : lim < 2 ^ 250) : ∃ ds, Drawn n lim ds ∧ m_law_numbers [.int c, .int n, .int lim] = .ok (.list (ds.map .int)) := by
  have hn' : n ≤ 16777216 := by omega
  rw [r_law_numbers]
  by_cases hb : c ≥ 10 ^ 18
  · have hb' : 1000000000000000000 ≤ c := by omega
    obtain ⟨ρ', e1, c', ds, e2, hd⟩ := forL_nx (kt := gN 4) (kl := kill [4]) (gb := b_law_numbers_1) (fun i ρ => ∃ (c' : Int) (ds : List Int), ρ = [some (.fz (.int c')), none, some (.fz (.int lim)), some (.lst (ds.map fun d => .fz (.int d))), none, none] ∧ Drawn i lim ds)
      (rangeD 0 n) 0 [some (.fz (.int (c - 1000000000000000000))), none, some (.fz (.int lim)), some (.lst []), none, none] ⟨_, [], rfl, rfl, fun _ h => nomatch h⟩ (fun i d ρ hd ⟨c', ds, e, h⟩ => by
        obtain ⟨hi, rfl⟩ := rangeD_get hd
        subst e
        have hl : ds.length < 16777216 := by rw [h.1]; omega
        have m1 : vfdiv (.int c') (.int lim) = .ok (.int (c' / lim)) := if_pos ⟨h0, h1⟩
        refine ⟨_, _, gN_ap _ _, .inl (by simp [b_law_numbers_1, sApp, h0, -vfdiv_int, m1, szL, hl]; rfl), c' / lim, ds ++ [c' % lim], by simp, ?_⟩
        exact h.snoc (Int.emod_nonneg _ (by omega)) (Int.emod_lt_of_pos _ h0))
    refine ⟨ds, by rw [Nat.zero_add, rangeD_len] at hd; exact hd, ?_⟩
    subst e2
    simp [g_law_numbers, vrange1_nat hn', hb', e1, freezeAt]
  · have hb' : ¬ 1000000000000000000 ≤ c := by omega
    obtain ⟨ρ', e1, c', ds, e2, hd⟩ := forL_nx (kt := gN 4) (kl := kill [4, 5]) (gb := b_law_numbers_2) (fun i ρ => ∃ (c' : Int) (ds : List Int), ρ = [some (.fz (.int c)), none, some (.fz (.int lim)), some (.lst (ds.map fun d => .fz (.int d))), none, none] ∧ Drawn i lim ds)
      (rangeD 0 n) 0 [some (.fz (.int c)), none, some (.fz (.int lim)), some (.lst []), none, none] ⟨c, [], rfl, rfl, fun _ h => nomatch h⟩ (fun i d ρ hd ⟨c', ds, e, h⟩ => by
        obtain ⟨hi, rfl⟩ := rangeD_get hd
        subst e
        have hl : ds.length < 16777216 := by rw [h.1]; omega
        have m1 : vmul (.int c) (.int 48271) = .ok (.int (c * 48271)) := vmul_r .lit
        have m2 : vmul (.int (i : Int)) (.int 69621) = .ok (.int (i * 69621)) := vmul_r .lit
        have m3 : vmul (.int (i : Int)) (.int 16807) = .ok (.int (i * 16807)) := vmul_r .lit
        have m4 : ∀ x, vmul (.int (x % 2147483647)) (.int 40692) = .ok (.int (x % 2147483647 * 40692)) := fun x => vmul_r .lit
        have m5 : ∀ x, vmul (.int (x % 2147483647)) (.int (x % 2147483647)) = .ok (.int (x % 2147483647 * (x % 2147483647))) := fun x => vmul_r (sm_of (by
          have a1 := Int.emod_nonneg x (b := 2147483647) (by omega)
          have a2 := Int.emod_lt_of_pos x (b := 2147483647) (by omega)
          omega))
        refine ⟨_, _, gN_ap _ _, .inl (by simp [b_law_numbers_2, sApp, h0, szL, hl, m1, m2, m3, m4, m5]; rfl), 0, ds ++ [_], by simp; rfl, ?_⟩
        exact h.snoc (Int.emod_nonneg _ (by omega)) (Int.emod_lt_of_pos _ h0))
    refine ⟨ds, by rw [Nat.zero_add, rangeD_len] at hd; exact hd, ?_⟩
    subst e2
    simp [g_law_numbers, vrange1_nat hn', hb', e1, freezeAt]
/-! ### a yard -/
def wag (w : List Int) : PyData := .tuple (w.map .int)
def stD (st : List (List Int)) : PyData := .tuple (st.map wag)
def capD (cs : List Int) : PyData := .list (cs.map .int)
structure Yard (cs : List Int) (r : Int) (st : List (List Int)) : Prop where
  len : cs.length = st.length
  few : st.length ≤ 100
  cap : ∀ c ∈ cs, 1 ≤ c ∧ c ≤ 100
  rch : 1 ≤ r
  wgn : ∀ w ∈ st, w.length ≤ 100
/-- how many may go from i to j -/
def most (cs : List Int) (r : Int) (st : List (List Int)) (i j : Nat) : Nat := (min (min r ((st.getD i []).length : Int)) (cs.getD j 0 - ((st.getD j []).length : Int))).toNat
def mvD (m : Nat × Nat × Nat) : PyData := .tuple [.int m.1, .int m.2.1, .int m.2.2]
def rowM (cs : List Int) (r : Int) (st : List (List Int)) (i j : Nat) : List (Nat × Nat × Nat) := if i ≠ j then (List.range (most cs r st i j)).map fun t => (i, j, t + 1) else []
def allM (cs : List Int) (r : Int) (st : List (List Int)) : List (Nat × Nat × Nat) := (List.range st.length).flatMap fun i => (List.range st.length).flatMap fun j => rowM cs r st i j
theorem most_le {cs : List Int} {r : Int} {st : List (List Int)} (Y : Yard cs r st) (i j : Nat) : most cs r st i j ≤ 100 := by
  have h : (st.getD i []).length ≤ 100 := by
    by_cases hi : i < st.length
    · rw [List.getD_eq_getElem?_getD, List.getElem?_eq_getElem hi]; exact Y.wgn _ (List.getElem_mem hi)
    · rw [List.getD_eq_getElem?_getD, List.getElem?_eq_none (by omega)]; simp
  unfold most
  omega
theorem row_len {cs : List Int} {r : Int} {st : List (List Int)} (Y : Yard cs r st) (i j : Nat) : (rowM cs r st i j).length ≤ 100 := by
  unfold rowM
  split
  · rw [List.length_map, List.length_range]; exact most_le Y i j
  · simp
theorem flat_len {α : Type} (f : Nat → List α) (b : Nat) (h : ∀ i, (f i).length ≤ b) : ∀ n, ((List.range n).flatMap f).length ≤ n * b
  | 0 => by simp
  | n + 1 => by
    have := flat_len f b h n
    have := h n
    rw [List.range_succ, List.flatMap_append, List.length_append, List.flatMap_singleton, Nat.succ_mul]
    omega
theorem st_at {st : List (List Int)} {i : Nat} (hi : i < st.length) : vidx (stD st) (.int (i : Int)) = .ok (wag (st.getD i [])) := by
  refine vidx_tuple ?_
  rw [List.getElem?_map, List.getD_eq_getElem?_getD, List.getElem?_eq_getElem hi]
  rfl
theorem cap_at {cs : List Int} {i : Nat} (hi : i < cs.length) : vidx (capD cs) (.int (i : Int)) = .ok (.int (cs.getD i 0)) := by
  refine vidx_list ?_
  rw [List.getElem?_map, List.getD_eq_getElem?_getD, List.getElem?_eq_getElem hi]
  rfl
theorem wag_len (w : List Int) : vlen [wag w] = .ok (.int w.length) := by simp [wag]
theorem st_len (st : List (List Int)) : vlen [stD st] = .ok (.int st.length) := by simp [stD]
/-! the moves by the program -/
theorem compL_map {kt : PyData → R (List (Nat × PyData))} {ft : PEnv → R Bool} {fe : PEnv → R PyData} {ρ : PEnv} (f : PyData → PyData) : ∀ {ds : List PyData}, (∀ d ∈ ds, ∃ bs, kt d = .ok bs ∧ ft (setsD ρ bs) = .ok true ∧ fe (setsD ρ bs) = .ok (f d)) → compL kt ft fe ρ ds = .ok (ds.map f)
  | [], _ => rfl
  | d :: ds, h => by
    obtain ⟨bs, h1, h2, h3⟩ := h d List.mem_cons_self
    have ih := compL_map f (ds := ds) fun x hx => h x (List.mem_cons_of_mem _ hx)
    simp only [compL, h1, R.bind_ok, h2, h3, calm_okk, ih, if_true, List.map_cons]
abbrev acc (ms : List (Nat × Nat × Nat)) : O := .lst (ms.map fun m => .fz (mvD m))
theorem row_data (i j n : Nat) : (rangeD 1 n).map (fun d => PyData.tuple [.int (i : Int), .int (j : Int), d]) = ((List.range n).map fun t => ((i, j, t + 1) : Nat × Nat × Nat)).map mvD := by
  unfold rangeD
  rw [List.map_map, List.map_map]
  refine List.map_congr_left fun t _ => ?_
  simp only [Function.comp, mvD]
  rw [show ((t + 1 : Nat) : Int) = 1 + (t : Int) by omega]
theorem prog_row {cs : List Int} {r : Int} {st : List (List Int)} (Y : Yard cs r st) {i j : Nat} (hi : i < st.length) (hj : j < st.length) (ms : List (Nat × Nat × Nat)) (hm : ms.length ≤ 2000000) :
    ∃ ρ', b_yard_moves_2 [some (.fz (capD cs)), some (.fz (.int r)), some (.fz (stD st)), some (acc ms), some (.fz (.int (i : Int))), some (.fz (.int (j : Int))), none, none] = .nx ρ' ∧
      kill [5, 6] ρ' = [some (.fz (capD cs)), some (.fz (.int r)), some (.fz (stD st)), some (acc (ms ++ rowM cs r st i j)), some (.fz (.int (i : Int))), none, none, none] := by
  by_cases hij : i = j
  · subst hij
    exact ⟨_, by simp [b_yard_moves_2]; rfl, by simp [rowM]⟩
  · have hij' : ¬ (i : Int) = (j : Int) := by omega
    have e1 := st_at hi
    have e2 := st_at hj
    have e3 := cap_at (cs := cs) (i := j) (by rw [Y.len]; exact hj)
    have e4 := wag_len (st.getD i [])
    have e5 := wag_len (st.getD j [])
    have hml := most_le Y i j
    generalize hmm : min (min r ((st.getD i []).length : Int)) (cs.getD j 0 - ((st.getD j []).length : Int)) = mm
    have hmost : most cs r st i j = mm.toNat := by unfold most; rw [hmm]
    have hw : (st.getD i []).length ≤ 100 := Y.wgn _ (by rw [List.getD_eq_getElem?_getD, List.getElem?_eq_getElem hi]; exact List.getElem_mem hi)
    have hw2 : (st.getD j []).length ≤ 100 := Y.wgn _ (by rw [List.getD_eq_getElem?_getD, List.getElem?_eq_getElem hj]; exact List.getElem_mem hj)
    have hc := Y.cap (cs.getD j 0) (by rw [List.getD_eq_getElem?_getD, List.getElem?_eq_getElem (by rw [Y.len]; exact hj)]; exact List.getElem_mem _)
    have hr := Y.rch
    have rg : rngOk 1 (mm + 1) := by unfold rngOk; omega
    have tn := hmost.symm
    have ec := compL_map (kt := gN 7) (ft := tyes) (fe := e_yard_moves_1) (ρ := [some (capD cs), some (.int r), some (stD st), none, some (.int (i : Int)), some (.int (j : Int)), some (.int mm), none]) (fun d => .tuple [.int (i : Int), .int (j : Int), d]) (ds := rangeD 1 (most cs r st i j)) (fun d _ => ⟨_, gN_ap _ _, rfl, by simp [e_yard_moves_1]⟩)
    rw [row_data] at ec
    have hz : ms.length + most cs r st i j ≤ 16777216 := by omega
    generalize st.getD i [] = wi at e1 e4 hmm
    generalize st.getD j [] = wj at e2 e5 hmm
    generalize cs.getD j 0 = cj at e3 hmm
    refine ⟨[some (.fz (capD cs)), some (.fz (.int r)), some (.fz (stD st)), some (acc (ms ++ rowM cs r st i j)), some (.fz (.int (i : Int))), some (.fz (.int (j : Int))), some (.fz (.int mm)), none], ?_, by simp⟩
    simp [b_yard_moves_2, hij', hij, e1, e2, e3, e4, e5, hmm, rg, tn, ec, sExt, szL, hz, rowM, acc, Function.comp_def]
theorem flat_succ {α : Type} (f : Nat → List α) (n : Nat) : (List.range (n + 1)).flatMap f = (List.range n).flatMap f ++ f n := by
  rw [List.range_succ, List.flatMap_append, List.flatMap_singleton]
theorem prog_i {cs : List Int} {r : Int} {st : List (List Int)} (Y : Yard cs r st) {i : Nat} (hi : i < st.length) (ms : List (Nat × Nat × Nat)) (hm : ms.length ≤ 1000000) :
    ∃ ρ', b_yard_moves_3 [some (.fz (capD cs)), some (.fz (.int r)), some (.fz (stD st)), some (acc ms), some (.fz (.int (i : Int))), none, none, none] = .nx ρ' ∧
      kill [4, 5, 6] ρ' = [some (.fz (capD cs)), some (.fz (.int r)), some (.fz (stD st)), some (acc (ms ++ (List.range st.length).flatMap (rowM cs r st i))), none, none, none, none] := by
  have few := Y.few
  obtain ⟨ρ', e1, e2⟩ := forL_nx (kt := gN 5) (kl := kill [5, 6]) (gb := b_yard_moves_2) (fun j ρ => ρ = [some (.fz (capD cs)), some (.fz (.int r)), some (.fz (stD st)), some (acc (ms ++ (List.range j).flatMap (rowM cs r st i))), some (.fz (.int (i : Int))), none, none, none])
    (rangeD 0 st.length) 0 [some (.fz (capD cs)), some (.fz (.int r)), some (.fz (stD st)), some (acc ms), some (.fz (.int (i : Int))), none, none, none] (by simp) (fun j d ρ hd e => by
      obtain ⟨hj, rfl⟩ := rangeD_get hd
      subst e
      have hl := flat_len (rowM cs r st i) 100 (fun j => row_len Y i j) j
      obtain ⟨ρ', h1, h2⟩ := prog_row Y hi hj (ms ++ (List.range j).flatMap (rowM cs r st i)) (by rw [List.length_append]; omega)
      refine ⟨_, ρ', gN_ap _ _, .inl ?_, ?_⟩
      · simp only [setsO_cons, setsO_nil, Int.zero_add, Nat.zero_add]
        exact h1
      · rw [h2, Nat.zero_add, flat_succ, List.append_assoc])
  rw [Nat.zero_add, rangeD_len] at e2
  subst e2
  exact ⟨_, by simp [b_yard_moves_3, st_len, vrange1_nat (show st.length ≤ 16777216 by omega), e1]; rfl, by simp⟩
theorem prog_moves {cs : List Int} {r : Int} {st : List (List Int)} (Y : Yard cs r st) : mo_yard_moves [capD cs, .int r, stD st] = .ok (acc (allM cs r st)) := by
  have few := Y.few
  obtain ⟨ρ', e1, e2⟩ := forL_nx (kt := gN 4) (kl := kill [4, 5, 6]) (gb := b_yard_moves_3) (fun i ρ => ρ = [some (.fz (capD cs)), some (.fz (.int r)), some (.fz (stD st)), some (acc ((List.range i).flatMap fun i => (List.range st.length).flatMap (rowM cs r st i))), none, none, none, none])
    (rangeD 0 st.length) 0 [some (.fz (capD cs)), some (.fz (.int r)), some (.fz (stD st)), some (.lst []), none, none, none, none] (by simp) (fun i d ρ hd e => by
      obtain ⟨hi, rfl⟩ := rangeD_get hd
      subst e
      have hl := flat_len (fun i => (List.range st.length).flatMap (rowM cs r st i)) 10000 (fun i => Nat.le_trans (flat_len (rowM cs r st i) 100 (fun j => row_len Y i j) st.length) (by omega)) i
      obtain ⟨ρ', h1, h2⟩ := prog_i Y hi ((List.range i).flatMap fun i => (List.range st.length).flatMap (rowM cs r st i)) (by omega)
      refine ⟨_, ρ', gN_ap _ _, .inl ?_, ?_⟩
      · simp only [setsO_cons, setsO_nil, Int.zero_add, Nat.zero_add]
        exact h1
      · rw [h2, Nat.zero_add, flat_succ])
  rw [Nat.zero_add, rangeD_len] at e2
  subst e2
  rw [ro_yard_moves]
  simp [g_yard_moves, st_len, vrange1_nat (show st.length ≤ 16777216 by omega), e1, oMv, allM]
theorem prog_movesV {cs : List Int} {r : Int} {st : List (List Int)} (Y : Yard cs r st) : m_yard_moves [capD cs, .int r, stD st] = .ok (.list ((allM cs r st).map mvD)) := by
  have h := frz_of (prog_moves Y)
  show frz mo_yard_moves _ = _
  rw [show mo_yard_moves = runB 8 g_yard_moves from rfl, h]
  simp [Function.comp_def]
theorem law_row {cs : List Int} {r : Int} {st : List (List Int)} (Y : Yard cs r st) {i j : Nat} (hi : i < st.length) (hj : j < st.length) (ms : List (Nat × Nat × Nat)) (hm : ms.length ≤ 2000000) :
    ∃ ρ', b_law_yard_moves_2 [some (.fz (capD cs)), some (.fz (.int r)), some (.fz (stD st)), some (acc ms), some (.fz (.int (i : Int))), some (.fz (.int (j : Int))), none] = .nx ρ' ∧
      kill [5, 6] ρ' = [some (.fz (capD cs)), some (.fz (.int r)), some (.fz (stD st)), some (acc (ms ++ rowM cs r st i j)), some (.fz (.int (i : Int))), none, none] := by
  have e1 := st_at hi
  have e2 := st_at hj
  have e3 := cap_at (cs := cs) (i := j) (by rw [Y.len]; exact hj)
  have e4 := wag_len (st.getD i [])
  have e5 := wag_len (st.getD j [])
  have hml := most_le Y i j
  have hw : (st.getD i []).length ≤ 100 := Y.wgn _ (by rw [List.getD_eq_getElem?_getD, List.getElem?_eq_getElem hi]; exact List.getElem_mem hi)
  have hmost : most cs r st i j = (min (min r ((st.getD i []).length : Int)) (cs.getD j 0 - ((st.getD j []).length : Int))).toNat := rfl
  obtain ⟨R, hRd⟩ : ∃ R : Nat → List (Nat × Nat × Nat), ∀ t, R t = (List.range (min t (most cs r st i j))).map fun t => ((i, j, t + 1) : Nat × Nat × Nat) := ⟨_, fun _ => rfl⟩
  have hrow : rowM cs r st i j = if i ≠ j then R (st.getD i []).length else [] := by
    unfold rowM
    split
    · rw [hRd, Nat.min_eq_right (by omega)]
    · rfl
  have hR0 : R 0 = [] := by rw [hRd, Nat.zero_min]; rfl
  have hRl : ∀ t, (R t).length ≤ 100 := fun t => by rw [hRd, List.length_map, List.length_range]; omega
  have hRs : ∀ t, t < most cs r st i j → R (t + 1) = R t ++ [(i, j, t + 1)] := fun t ht => by
    rw [hRd, hRd, Nat.min_eq_left (show t + 1 ≤ most cs r st i j by omega), Nat.min_eq_left (show t ≤ most cs r st i j by omega), List.range_succ, List.map_append]
    rfl
  have hRk : ∀ t, ¬ t < most cs r st i j → R (t + 1) = R t := fun t ht => by
    rw [hRd, hRd, Nat.min_eq_right (show most cs r st i j ≤ t + 1 by omega), Nat.min_eq_right (show most cs r st i j ≤ t by omega)]
  clear hRd
  obtain ⟨ρ', f1, f2⟩ := forL_nx (kt := gN 6) (kl := kill [6]) (gb := b_law_yard_moves_1) (fun t ρ => ρ = [some (.fz (capD cs)), some (.fz (.int r)), some (.fz (stD st)), some (acc (ms ++ if i ≠ j then R t else [])), some (.fz (.int (i : Int))), some (.fz (.int (j : Int))), none])
    (rangeD 1 (st.getD i []).length) 0 [some (.fz (capD cs)), some (.fz (.int r)), some (.fz (stD st)), some (acc ms), some (.fz (.int (i : Int))), some (.fz (.int (j : Int))), none] (by simp [hR0]) (fun t d ρ hd e => by
      obtain ⟨ht, rfl⟩ := rangeD_get hd
      subst e
      rw [Nat.zero_add]
      by_cases hij : i = j
      · subst hij
        exact ⟨_, _, gN_ap _ _, .inl (by simp [b_law_yard_moves_1]; rfl), by simp⟩
      · have hij' : ¬ (i : Int) = (j : Int) := by omega
        have hz : (ms ++ R t).length < 16777216 := by rw [List.length_append]; have := hRl t; omega
        rw [List.length_append] at hz
        by_cases hc : t < most cs r st i j
        · have c1 : (1 : Int) + t ≤ r := by omega
          have c2 : ((st.getD j []).length : Int) + (1 + (t : Int)) ≤ cs.getD j 0 := by omega
          have c3 : mvD (i, j, t + 1) = .tuple [.int (i : Int), .int (j : Int), .int (1 + (t : Int))] := by simp only [mvD]; rw [show ((t + 1 : Nat) : Int) = 1 + (t : Int) by omega]
          generalize st.getD j [] = wj at e2 e5 c2
          generalize cs.getD j 0 = cj at e3 c2
          refine ⟨_, [some (.fz (capD cs)), some (.fz (.int r)), some (.fz (stD st)), some (acc (ms ++ R (t + 1))), some (.fz (.int (i : Int))), some (.fz (.int (j : Int))), some (.fz (.int (1 + (t : Int))))], gN_ap _ _, .inl ?_, by simp [hij]⟩
          simp [b_law_yard_moves_1, hij, hij', c1, e2, e5, e3, c2, sApp, szL, hz, hRs t hc, c3, acc]
        · by_cases c1 : (1 : Int) + t ≤ r
          · have c2 : ¬ ((st.getD j []).length : Int) + (1 + (t : Int)) ≤ cs.getD j 0 := by omega
            generalize st.getD j [] = wj at e2 e5 c2
            generalize cs.getD j 0 = cj at e3 c2
            exact ⟨_, _, gN_ap _ _, .inl (by simp [b_law_yard_moves_1, hij, hij', c1, e2, e5, e3, c2]; rfl), by simp [hij, hRk t hc]⟩
          · exact ⟨_, _, gN_ap _ _, .inl (by simp [b_law_yard_moves_1, hij, hij', c1]; rfl), by simp [hij, hRk t hc]⟩)
  rw [Nat.zero_add, rangeD_len, ← hrow] at f2
  subst f2
  have rg : vrange2 (.int 1) (.int (((st.getD i []).length : Int) + 1)) = .ok (rangeD 1 (st.getD i []).length) := by
    have q : rngOk 1 (((st.getD i []).length : Int) + 1) := by unfold rngOk; omega
    rw [vrange2_int, if_pos q]
    congr 2
    omega
  generalize st.getD i [] = wi at e1 e4 rg f1
  refine ⟨[some (.fz (capD cs)), some (.fz (.int r)), some (.fz (stD st)), some (acc (ms ++ rowM cs r st i j)), some (.fz (.int (i : Int))), some (.fz (.int (j : Int))), none], ?_, by simp⟩
  simp only [b_law_yard_moves_2, sFor_ap, x2_ap, exF_ap, vC_ap, VL.R.bind_ok, v2_ap, vapp_ap, aCons_ap, aNil_ap, viewF_fz, viewF_lst, viewF_none, viewF_nil, vVar_2, vVar_4, e1, e4, vadd_int, rg, VL.R.sr_ok]
  exact f1
theorem law_i {cs : List Int} {r : Int} {st : List (List Int)} (Y : Yard cs r st) {i : Nat} (hi : i < st.length) (ms : List (Nat × Nat × Nat)) (hm : ms.length ≤ 1000000) :
    ∃ ρ', b_law_yard_moves_3 [some (.fz (capD cs)), some (.fz (.int r)), some (.fz (stD st)), some (acc ms), some (.fz (.int (i : Int))), none, none] = .nx ρ' ∧
      kill [4, 5, 6] ρ' = [some (.fz (capD cs)), some (.fz (.int r)), some (.fz (stD st)), some (acc (ms ++ (List.range st.length).flatMap (rowM cs r st i))), none, none, none] := by
  have few := Y.few
  obtain ⟨ρ', e1, e2⟩ := forL_nx (kt := gN 5) (kl := kill [5, 6]) (gb := b_law_yard_moves_2) (fun j ρ => ρ = [some (.fz (capD cs)), some (.fz (.int r)), some (.fz (stD st)), some (acc (ms ++ (List.range j).flatMap (rowM cs r st i))), some (.fz (.int (i : Int))), none, none])
    (rangeD 0 st.length) 0 [some (.fz (capD cs)), some (.fz (.int r)), some (.fz (stD st)), some (acc ms), some (.fz (.int (i : Int))), none, none] (by simp) (fun j d ρ hd e => by
      obtain ⟨hj, rfl⟩ := rangeD_get hd
      subst e
      have hl := flat_len (rowM cs r st i) 100 (fun j => row_len Y i j) j
      obtain ⟨ρ', h1, h2⟩ := law_row Y hi hj (ms ++ (List.range j).flatMap (rowM cs r st i)) (by rw [List.length_append]; omega)
      refine ⟨_, ρ', gN_ap _ _, .inl ?_, ?_⟩
      · simp only [setsO_cons, setsO_nil, Int.zero_add, Nat.zero_add]
        exact h1
      · rw [h2, Nat.zero_add, flat_succ, List.append_assoc])
  rw [Nat.zero_add, rangeD_len] at e2
  subst e2
  exact ⟨_, by simp [b_law_yard_moves_3, st_len, vrange1_nat (show st.length ≤ 16777216 by omega), e1]; rfl, by simp⟩
theorem law_moves {cs : List Int} {r : Int} {st : List (List Int)} (Y : Yard cs r st) : m_law_yard_moves [capD cs, .int r, stD st] = .ok (.list ((allM cs r st).map mvD)) := by
  have few := Y.few
  obtain ⟨ρ', e1, e2⟩ := forL_nx (kt := gN 4) (kl := kill [4, 5, 6]) (gb := b_law_yard_moves_3) (fun i ρ => ρ = [some (.fz (capD cs)), some (.fz (.int r)), some (.fz (stD st)), some (acc ((List.range i).flatMap fun i => (List.range st.length).flatMap (rowM cs r st i))), none, none, none])
    (rangeD 0 st.length) 0 [some (.fz (capD cs)), some (.fz (.int r)), some (.fz (stD st)), some (.lst []), none, none, none] (by simp) (fun i d ρ hd e => by
      obtain ⟨hi, rfl⟩ := rangeD_get hd
      subst e
      have hl := flat_len (fun i => (List.range st.length).flatMap (rowM cs r st i)) 10000 (fun i => Nat.le_trans (flat_len (rowM cs r st i) 100 (fun j => row_len Y i j) st.length) (by omega)) i
      obtain ⟨ρ', h1, h2⟩ := law_i Y hi ((List.range i).flatMap fun i => (List.range st.length).flatMap (rowM cs r st i)) (by omega)
      refine ⟨_, ρ', gN_ap _ _, .inl ?_, ?_⟩
      · simp only [setsO_cons, setsO_nil, Int.zero_add, Nat.zero_add]
        exact h1
      · rw [h2, Nat.zero_add, flat_succ])
  rw [Nat.zero_add, rangeD_len] at e2
  subst e2
  rw [r_law_yard_moves]
  simp [g_law_yard_moves, st_len, vrange1_nat (show st.length ≤ 16777216 by omega), e1, freezeAt, allM, Function.comp_def]
/-! ### a move made -/
def push (st : List (List Int)) (i j n : Nat) : List (List Int) := (st.set i ((st.getD i []).drop n)).set j ((st.getD i []).take n ++ st.getD j [])
theorem cut_wag_from (w : List Int) (n : Nat) : vcut (some (n : Int)) none (wag w) = .ok (wag (w.drop n)) := by
  show R.ok (PyData.tuple _) = _
  rw [cut_from, ← List.map_drop]; rfl
theorem cut_wag_to (w : List Int) (n : Nat) : vcut none (some (n : Int)) (wag w) = .ok (wag (w.take n)) := by
  show R.ok (PyData.tuple _) = _
  rw [cut_to, ← List.map_take]; rfl
theorem cut_wag_0 (w : List Int) (n : Nat) : vcut (some 0) (some (n : Int)) (wag w) = .ok (wag (w.take n)) := by
  show R.ok (PyData.tuple _) = _
  rw [show (some (0 : Int)) = some ((0 : Nat) : Int) from rfl, cut_mid, List.drop_zero, Nat.sub_zero, ← List.map_take]; rfl
theorem add_wag (u w : List Int) (h : u.length + w.length ≤ 1000) : vadd (wag u) (wag w) = .ok (wag (u ++ w)) := by
  unfold wag
  rw [vadd_tuple (by rw [List.length_map, List.length_map]; omega), List.map_append]
theorem pushed_eq {st : List (List Int)} {i j n : Nat} (hi : i < st.length) (hj : j < st.length) (hl : ∀ w ∈ st, w.length ≤ 100) : m_pushed [stD st, mvD (i, j, n)] = .ok (stD (push st i j n)) := by
  have e1 := st_at hi
  have e2 := st_at hj
  have m1 : (st.getD i []).length ≤ 100 := hl _ (by rw [List.getD_eq_getElem?_getD, List.getElem?_eq_getElem hi]; exact List.getElem_mem hi)
  have m2 : (st.getD j []).length ≤ 100 := hl _ (by rw [List.getD_eq_getElem?_getD, List.getElem?_eq_getElem hj]; exact List.getElem_mem hj)
  have a1 := add_wag ((st.getD i []).take n) (st.getD j []) (by rw [List.length_take]; omega)
  have c1 := cut_wag_from (st.getD i []) n
  have c2 := cut_wag_to (st.getD i []) n
  have un : (gT (gC (gN 2) (gC (gN 3) (gC (gN 4) gE)))) (mvD (i, j, n)) = .ok [(2, .int (i : Int)), (3, .int (j : Int)), (4, .int (n : Int))] := rfl
  have sq : seqD (stD st) = .ok (st.map wag) := rfl
  have x1 : L2.ixN (st.map wag).length (i : Int) = some i := ixN_nat (by simpa using hi)
  have x2 : L2.ixN ((st.map wag).map O.fz).length (i : Int) = some i := ixN_nat (by simpa using hi)
  have x3 : L2.ixN st.length (i : Int) = some i := ixN_nat hi
  have x4 : L2.ixN st.length (j : Int) = some j := ixN_nat hj
  rw [r_pushed]
  have ep : stD (push st i j n) = .tuple (((st.map wag).set i (wag ((st.getD i []).drop n))).set j (wag ((st.getD i []).take n ++ st.getD j []))) := by
    simp only [stD, push, List.map_set]
  rw [ep]
  generalize st.getD i [] = wi at e1 a1 c1 c2
  generalize st.getD j [] = wj at e2 a1
  simp [g_pushed, un, sq, e1, e2, c1, c2, a1, sSetI, x3, x4, freezeAt, List.map_set, Function.comp_def]
theorem same_items {n : Nat} {d : PyData} {xs : List PyData} (hv : ∀ (i : Nat) x, xs[i]? = some x → vidx d (.int (i : Int)) = .ok x) (ih : ∀ x ∈ xs, m_law_same n [x, x] = .ok (.bool true)) :
    forL (gN 2) (kill [2]) (b_law_same_1 (m_law_same n)) (rangeD 0 xs.length) [some (.fz d), some (.fz d), none] = .nx [some (.fz d), some (.fz d), none] := by
  obtain ⟨ρ', e1, e2⟩ := forL_nx (kt := gN 2) (kl := kill [2]) (gb := b_law_same_1 (m_law_same n)) (fun _ ρ => ρ = [some (.fz d), some (.fz d), none]) (rangeD 0 xs.length) 0 _ rfl (fun i x ρ hx e => by
    obtain ⟨hi, rfl⟩ := rangeD_get hx
    subst e
    have e3 : xs[i]? = some xs[i] := by simp [hi]
    have e4 := hv i _ e3
    have e5 := ih xs[i] (List.getElem_mem hi)
    exact ⟨_, _, gN_ap _ _, .inl (by simp [b_law_same_1, e4, e5]; rfl), by simp⟩)
  rw [e1, e2]
theorem same_refl : ∀ (n : Nat) (d : PyData), okS n d → m_law_same n [d, d] = .ok (.bool true)
  | 0, _, h => h.elim
  | n + 1, d, h => by
    rw [r_law_same]
    cases d with
    | none => simp [g_law_same]
    | bool b => simp [g_law_same]
    | int b => simp [g_law_same]
    | str b => simp [g_law_same, veq_str h h]
    | list xs =>
      have e := same_items (n := n) (fun i x hx => vidx_list hx) fun x hx => same_refl n x (h.2 x hx)
      simp [g_law_same, vrange1_nat h.1, e]
    | tuple xs =>
      have e := same_items (n := n) (fun i x hx => vidx_tuple hx) fun x hx => same_refl n x (h.2 x hx)
      simp [g_law_same, vrange1_nat h.1, e]
    | dict _ => exact h.elim
theorem push_at {st : List (List Int)} {i j n k : Nat} (hi : i < st.length) (hj : j < st.length) (hij : i ≠ j) (hk : k < st.length) : (push st i j n).getD k [] = if k = i then (st.getD i []).drop n else if k = j then (st.getD i []).take n ++ st.getD j [] else st.getD k [] := by
  unfold push
  simp only [List.getD_eq_getElem?_getD]
  by_cases h1 : k = i
  · subst h1
    rw [if_pos rfl, List.getElem?_set_ne (Ne.symm hij), List.getElem?_set_self hi]
    rfl
  · rw [if_neg h1]
    by_cases h2 : k = j
    · subst h2
      rw [if_pos rfl, List.getElem?_set_self (by rw [List.length_set]; exact hj)]
      rfl
    · rw [if_neg h2, List.getElem?_set_ne (Ne.symm h2), List.getElem?_set_ne (Ne.symm h1)]
theorem push_len (st : List (List Int)) (i j n : Nat) : (push st i j n).length = st.length := by unfold push; simp
theorem law_pushed_eq {st : List (List Int)} {i j n : Nat} (hi : i < st.length) (hj : j < st.length) (hij : i ≠ j) (hl : ∀ w ∈ st, w.length ≤ 100) (few : st.length ≤ 100) : m_law_pushed [stD st, mvD (i, j, n)] = .ok (stD (push st i j n)) := by
  have m1 : (st.getD i []).length ≤ 100 := hl _ (by rw [List.getD_eq_getElem?_getD, List.getElem?_eq_getElem hi]; exact List.getElem_mem hi)
  have m2 : (st.getD j []).length ≤ 100 := hl _ (by rw [List.getD_eq_getElem?_getD, List.getElem?_eq_getElem hj]; exact List.getElem_mem hj)
  have un : (gT (gC (gN 2) (gC (gN 3) (gC (gN 4) gE)))) (mvD (i, j, n)) = .ok [(2, .int (i : Int)), (3, .int (j : Int)), (4, .int (n : Int))] := rfl
  have ei := st_at hi
  have a1 := add_wag ((st.getD i []).take n) (st.getD j []) (by rw [List.length_take]; omega)
  have c1 := cut_wag_from (st.getD i []) n
  have c2 := cut_wag_0 (st.getD i []) n
  obtain ⟨ρ', e1, e2⟩ := forL_nx (kt := gN 6) (kl := kill [6]) (gb := b_law_pushed_1) (fun k ρ => ρ = [some (.fz (stD st)), none, some (.fz (.int (i : Int))), some (.fz (.int (j : Int))), some (.fz (.int (n : Int))), some (.lst (((List.range k).map fun k => wag ((push st i j n).getD k [])).map .fz)), none])
    (rangeD 0 st.length) 0 [some (.fz (stD st)), none, some (.fz (.int (i : Int))), some (.fz (.int (j : Int))), some (.fz (.int (n : Int))), some (.lst []), none] (by simp) (fun k d ρ hd e => by
      obtain ⟨hk, rfl⟩ := rangeD_get hd
      subst e
      rw [Nat.zero_add]
      have ek := st_at hk
      have hp := push_at (n := n) hi hj hij hk
      have hz : k < 16777216 := by omega
      have suc : ∀ x, wag ((push st i j n).getD k []) = x → (((List.range (k + 1)).map fun k => wag ((push st i j n).getD k [])).map O.fz) = (((List.range k).map fun k => wag ((push st i j n).getD k [])).map O.fz) ++ [O.fz x] := fun x hx => by
        rw [List.range_succ, List.map_append, List.map_append, ← hx]; rfl
      have hlen : (((List.range k).map fun k => wag ((push st i j n).getD k [])).map O.fz).length = k := by simp
      generalize hL : (((List.range k).map fun k => wag ((push st i j n).getD k [])).map O.fz) = L at suc hlen
      by_cases h1 : k = i
      · subst h1
        rw [if_pos rfl] at hp
        have s := suc _ (congrArg wag hp)
        generalize st.getD k [] = wi at ek ei c1 c2 a1 s
        refine ⟨_, _, gN_ap _ _, .inl (by simp [b_law_pushed_1, ek, c1, sApp, szL, hlen, hz]; rfl), by rw [s]; simp⟩
      · rw [if_neg h1] at hp
        have h1' : ¬ (k : Int) = (i : Int) := by omega
        by_cases h2 : k = j
        · subst h2
          rw [if_pos rfl] at hp
          have s := suc _ (congrArg wag hp)
          generalize st.getD i [] = wi at ei c1 c2 a1 s
          generalize st.getD k [] = wk at ek a1 s
          refine ⟨_, _, gN_ap _ _, .inl (by simp [b_law_pushed_1, h1, h1', ei, ek, c2, a1, sApp, szL, hlen, hz]; rfl), by rw [s]; simp⟩
        · rw [if_neg h2] at hp
          have h2' : ¬ (k : Int) = (j : Int) := by omega
          have s := suc _ (congrArg wag hp)
          generalize st.getD k [] = wk at ek s
          refine ⟨_, _, gN_ap _ _, .inl (by simp [b_law_pushed_1, h1, h1', h2, h2', ek, sApp, szL, hlen, hz]; rfl), by rw [s]; simp⟩)
  rw [Nat.zero_add, rangeD_len] at e2
  subst e2
  have all : ((List.range st.length).map fun k => wag ((push st i j n).getD k [])) = (push st i j n).map wag := by
    refine List.ext_getElem (by simp [push_len]) fun k h1 h2 => ?_
    simp only [List.getElem_map, List.getElem_range]
    rw [List.getD_eq_getElem?_getD, List.getElem?_eq_getElem (by simpa using h2)]
    rfl
  rw [all] at e1
  rw [r_law_pushed]
  have fin : stD (push st i j n) = .tuple ((push st i j n).map wag) := rfl
  rw [fin]
  generalize (push st i j n).map wag = P at e1
  simp [g_law_pushed, un, st_len, vrange1_nat (show st.length ≤ 16777216 by omega), e1, freezeAt, Function.comp_def]
/-! ### a move that is or is not there -/
theorem mv_ok (m : Nat × Nat × Nat) : okS 3 (mvD m) := by simp [mvD, okS]
theorem all_len {cs : List Int} {r : Int} {st : List (List Int)} (Y : Yard cs r st) : (allM cs r st).length ≤ 1000000 := by
  have few := Y.few
  have := flat_len (fun i => (List.range st.length).flatMap (rowM cs r st i)) 10000 (fun i => Nat.le_trans (flat_len (rowM cs r st i) 100 (fun j => row_len Y i j) st.length) (by omega)) st.length
  show ((List.range st.length).flatMap fun i => (List.range st.length).flatMap (rowM cs r st i)).length ≤ _
  omega
theorem moves_ok {cs : List Int} {r : Int} {st : List (List Int)} (Y : Yard cs r st) : okS 4 (.list ((allM cs r st).map mvD)) := ⟨by rw [List.length_map]; have := all_len Y; omega, fun x hx => by
  obtain ⟨m, _, rfl⟩ := List.mem_map.mp hx
  exact mv_ok m⟩
theorem mem_all {cs : List Int} {r : Int} {st : List (List Int)} {m : Nat × Nat × Nat} (h : m ∈ allM cs r st) : m.1 < st.length ∧ m.2.1 < st.length ∧ m.1 ≠ m.2.1 ∧ m.2.2 ≤ most cs r st m.1 m.2.1 := by
  unfold allM at h
  obtain ⟨i, hi, h⟩ := List.mem_flatMap.mp h
  obtain ⟨j, hj, h⟩ := List.mem_flatMap.mp h
  unfold rowM at h
  split at h
  · rename_i hij
    obtain ⟨t, ht, rfl⟩ := List.mem_map.mp h
    have := List.mem_range.mp ht
    exact ⟨List.mem_range.mp hi, List.mem_range.mp hj, hij, by show t + 1 ≤ most cs r st i j; omega⟩
  · cases h
theorem eqv_mv (m : Nat × Nat × Nat) (a b c : Int) : PyData.eqv (mvD m) (.tuple [.int a, .int b, .int c]) = true ↔ mvD m = .tuple [.int a, .int b, .int c] := by
  simp [mvD, PyData.eqv, PyData.eqvAll]
theorem asked {cs : List Int} {r : Int} {st : List (List Int)} (Y : Yard cs r st) (a b c : Int) :
    (∃ m ∈ allM cs r st, mvD m = .tuple [.int a, .int b, .int c] ∧ vIn (.tuple [.int a, .int b, .int c]) (.list ((allM cs r st).map mvD)) = .ok (.bool true) ∧ m_moved [capD cs, .int r, stD st, .tuple [.int a, .int b, .int c]] = .ok (stD (push st m.1 m.2.1 m.2.2)) ∧ m_law_pushed [stD st, .tuple [.int a, .int b, .int c]] = .ok (stD (push st m.1 m.2.1 m.2.2))) ∨
    (vIn (.tuple [.int a, .int b, .int c]) (.list ((allM cs r st).map mvD)) = .ok (.bool false) ∧ m_moved [capD cs, .int r, stD st, .tuple [.int a, .int b, .int c]] = .err "InvalidMove") := by
  have ok3 : okS 2 (.tuple [.int a, .int b, .int c]) := by simp [okS]
  have v1 := vIn_ok ok3 (moves_ok Y)
  have v2 := vNotIn_ok ok3 (moves_ok Y)
  have pm := prog_movesV Y
  generalize hany : (((allM cs r st).map mvD).any fun z => PyData.eqv z (.tuple [.int a, .int b, .int c])) = an at v1 v2
  cases an with
  | true =>
    obtain ⟨z, hz, he⟩ := List.any_eq_true.mp hany
    obtain ⟨m, hm, rfl⟩ := List.mem_map.mp hz
    have e := (eqv_mv m a b c).mp he
    obtain ⟨h1, h2, h3, h4⟩ := mem_all hm
    have p1 := pushed_eq (n := m.2.2) h1 h2 Y.wgn
    have p2 := law_pushed_eq (n := m.2.2) h1 h2 h3 Y.wgn Y.few
    rw [show ((m.1, m.2.1, m.2.2) : Nat × Nat × Nat) = m from rfl, e] at p1 p2
    refine .inl ⟨m, hm, e, v1, ?_, p2⟩
    rw [r_moved]
    simp [g_moved, pm, v2, p1]
  | false =>
    refine .inr ⟨v1, ?_⟩
    rw [r_moved]
    simp [g_moved, pm, v2]
theorem stD_ok {st : List (List Int)} (few : st.length ≤ 100) (hl : ∀ w ∈ st, w.length ≤ 100) : okS 4 (stD st) := ⟨by rw [List.length_map]; omega, fun x hx => by
  obtain ⟨w, hw, rfl⟩ := List.mem_map.mp hx
  exact ⟨by rw [List.length_map]; have := hl w hw; omega, fun y hy => by
    obtain ⟨z, _, rfl⟩ := List.mem_map.mp hy
    trivial⟩⟩
theorem push_yard {cs : List Int} {r : Int} {st : List (List Int)} (Y : Yard cs r st) {m : Nat × Nat × Nat} (h : m ∈ allM cs r st) : Yard cs r (push st m.1 m.2.1 m.2.2) := by
  obtain ⟨h1, h2, h3, h4⟩ := mem_all h
  refine ⟨by rw [push_len]; exact Y.len, by rw [push_len]; exact Y.few, Y.cap, Y.rch, fun w hw => ?_⟩
  obtain ⟨k, hk, rfl⟩ := List.mem_iff_getElem.mp hw
  rw [push_len] at hk
  have e := push_at (n := m.2.2) h1 h2 h3 hk
  rw [List.getD_eq_getElem?_getD, List.getElem?_eq_getElem (by rw [push_len]; exact hk)] at e
  simp only [Option.getD_some] at e
  rw [e]
  have at_ : ∀ i, i < st.length → (st.getD i []).length ≤ 100 := fun i hi => Y.wgn _ (by rw [List.getD_eq_getElem?_getD, List.getElem?_eq_getElem hi]; exact List.getElem_mem hi)
  split
  · rw [List.length_drop]; have := at_ _ h1; omega
  · split
    · rw [List.length_append, List.length_take]
      have hc := Y.cap (cs.getD m.2.1 0) (by rw [List.getD_eq_getElem?_getD, List.getElem?_eq_getElem (by rw [Y.len]; exact h2)]; exact List.getElem_mem _)
      have := at_ _ h2
      unfold most at h4
      omega
    · exact at_ _ hk
theorem refuses_ok {cs : List Int} {r : Int} {st : List (List Int)} {d : PyData} (h : m_moved [capD cs, .int r, stD st, d] = .err "InvalidMove") : m_law_refuses [capD cs, .int r, stD st, d] = .ok (.bool true) := by
  rw [r_law_refuses]
  have e : catchA tb_TrackError 4 (fun a cn => (sRet (oX (exF (vand (v1 (vIsE a cn is_InvalidMove) (vVar 4)) (vand (v1 (vIsE a cn is_ValueError) (vVar 4)) (vnot (v1 (vIsE a cn is_Occupied) (vVar 4))))))))) (.err "InvalidMove" [some (.fz (capD cs)), some (.fz (.int r)), some (.fz (stD st)), some (.fz d), none]) = .rt (.fz (.bool true)) := catchA_hit (by simp) fun a => by simp
  simp [g_law_refuses, h, e]
abbrev asksE (cs : List Int) (r : Int) (st : List (List Int)) (a b c : Option O) (x : Option O) : OEnv := [some (.fz (capD cs)), some (.fz (.int r)), some (.fz (stD st)), some (.fz (capD cs)), some (.fz (.list ((allM cs r st).map mvD))), none, none, x, a, b, c]
theorem ask1 {cs : List Int} {r : Int} {st : List (List Int)} (Y : Yard cs r st) (a b c : Int) (x : PyData) : ∃ ρ', b_law_asks_2 (asksE cs r st (some (.fz (.int a))) (some (.fz (.int b))) (some (.fz (.int c))) (some (.fz x))) = .nx ρ' ∧ kill [10] ρ' = asksE cs r st (some (.fz (.int a))) (some (.fz (.int b))) none (some (.fz x)) := by
  rcases asked Y a b c with ⟨m, hm, e, v, p, q⟩ | ⟨v, p⟩
  · have Y2 := push_yard Y hm
    have s := same_refl 10 (stD (push st m.1 m.2.1 m.2.2)) ((stD_ok Y2.few Y2.wgn).mono (by decide))
    exact ⟨_, by simp [b_law_asks_2, v, p, q, s]; rfl, by simp⟩
  · have s := refuses_ok p
    exact ⟨_, by simp [b_law_asks_2, v, s]; rfl, by simp⟩
theorem asks_ok {cs : List Int} {r : Int} {st : List (List Int)} (Y : Yard cs r st) : m_law_asks [capD cs, .int r, stD st] = .ok (.bool true) := by
  have few := Y.few
  rw [r_law_asks]
  have lm := law_moves Y
  have pm := prog_moves Y
  have okm := moves_ok Y
  have s0 := same_refl 10 (.list ((allM cs r st).map mvD)) (okm.mono (by decide))
  have al := all_len Y
  have okc : okS 2 (capD cs) := ⟨by rw [List.length_map, Y.len]; omega, fun x hx => by
    obtain ⟨z, _, rfl⟩ := List.mem_map.mp hx
    trivial⟩
  have vc := veq_refl okc
  have sq : seqD (capD cs) = .ok (cs.map .int) := rfl
  have rr : PyData.list (cs.map .int) = capD cs := rfl
  obtain ⟨ρ1, e1, e2⟩ := forL_nx (kt := gN 5) (kl := kill [5, 6]) (gb := b_law_asks_1) (fun _ ρ => ρ = asksE cs r st none none none none)
    (rangeD 0 2) 0 _ rfl (fun k d ρ hd e => by
      subst e
      have hz : (allM cs r st).length < 16777216 := by omega
      have em : ((allM cs r st).map (O.data ∘ fun m => O.fz (mvD m))) = (allM cs r st).map mvD := by refine List.map_congr_left fun m _ => ?_; simp
      exact ⟨_, _, gN_ap _ _, .inl (by simp [b_law_asks_1, pm, acc, em, s0, sApp, szL, hz]; rfl), by simp⟩)
  subst e2
  obtain ⟨ρ2, e3, e4⟩ := forL_nx (kt := gN 8) (kl := kill [8, 9, 10]) (gb := b_law_asks_4) (fun _ ρ => ρ = asksE cs r st none none none (some (.fz (.int st.length))))
    (rangeD (-1) (st.length + 2)) 0 _ rfl (fun k d ρ hd e => by
      obtain ⟨_, rfl⟩ := rangeD_get hd
      subst e
      generalize (-1 : Int) + (k : Int) = a
      have rg : vrange2 (.int (-1)) (.int ((st.length : Int) + 1)) = .ok (rangeD (-1) (st.length + 2)) := by
        rw [vrange2_int, if_pos (by unfold rngOk; omega)]; congr 2
      obtain ⟨ρ3, f1, f2⟩ := forL_nx (kt := gN 9) (kl := kill [9, 10]) (gb := b_law_asks_3) (fun _ ρ => ρ = asksE cs r st (some (.fz (.int a))) none none (some (.fz (.int st.length))))
        (rangeD (-1) (st.length + 2)) 0 _ rfl (fun k d ρ hd e => by
          obtain ⟨_, rfl⟩ := rangeD_get hd
          subst e
          generalize (-1 : Int) + (k : Int) = b
          have rg9 : vrange2 (.int (-1)) (.int 9) = .ok (rangeD (-1) 10) := by
            rw [vrange2_int, if_pos (by unfold rngOk; omega)]; rfl
          have ad : vadd (.list (rangeD (-1) 10)) (.list [.int 100000000000000000000]) = .ok (.list (rangeD (-1) 10 ++ [.int 100000000000000000000])) := vadd_list (by simp [rangeD])
          obtain ⟨ρ4, g1, g2⟩ := forL_nx (kt := gN 10) (kl := kill [10]) (gb := b_law_asks_2) (fun _ ρ => ρ = asksE cs r st (some (.fz (.int a))) (some (.fz (.int b))) none (some (.fz (.int st.length))))
            (rangeD (-1) 10 ++ [.int 100000000000000000000]) 0 _ rfl (fun k d ρ hd e => by
              subst e
              obtain ⟨c, rfl⟩ : ∃ c : Int, d = .int c := by
                rcases List.mem_append.mp (List.mem_of_getElem? hd) with h | h
                · obtain ⟨i, hi⟩ := List.getElem?_of_mem h
                  exact ⟨_, (rangeD_get hi).2⟩
                · exact ⟨_, List.mem_singleton.mp h⟩
              obtain ⟨ρ', h1, h2⟩ := ask1 Y a b c (.int st.length)
              exact ⟨_, ρ', gN_ap _ _, .inl h1, h2⟩)
          subst g2
          exact ⟨_, _, gN_ap _ _, .inl (by simp [b_law_asks_3, rg9, -vrange2_int, ad, g1]; rfl), by simp⟩)
      subst f2
      exact ⟨_, _, gN_ap _ _, .inl (by simp [b_law_asks_4, rg, -vrange2_int, f1]; rfl), by simp⟩)
  subst e4
  have rg : vrange2 (.int (-1)) (.int ((st.length : Int) + 1)) = .ok (rangeD (-1) (st.length + 2)) := by
    rw [vrange2_int, if_pos (by unfold rngOk; omega)]; congr 2
  simp [g_law_asks, sq, rr, lm, rngOk, e1, st_len, rg, -vrange2_int, e3, vc]
theorem cs_of {L : List PyData} {lo hi : Int} (h : ∀ y ∈ L, ∃ c : Int, y = .int c ∧ lo ≤ c ∧ c ≤ hi) : ∃ cs : List Int, L = cs.map .int ∧ ∀ c ∈ cs, lo ≤ c ∧ c ≤ hi := by
  induction L with
  | nil => exact ⟨[], rfl, fun _ h => nomatch h⟩
  | cons y L ih =>
    obtain ⟨c, rfl, h1⟩ := h y List.mem_cons_self
    obtain ⟨cs, rfl, h2⟩ := ih fun z hz => h z (List.mem_cons_of_mem _ hz)
    exact ⟨c :: cs, rfl, fun x hx => by
      rcases List.mem_cons.mp hx with e | e
      · subst e; exact h1
      · exact h2 x e⟩
theorem wagons_ok (c : Int) (n : Nat) (hn : n ≤ 1000) (g : Bool) : ∃ ws : List Int, m_law_wagons [.int c, .int n, .bool g] = .ok (.list (ws.map .int)) ∧ ws.length = n := by
  rw [r_law_wagons]
  obtain ⟨ds, hd, ed⟩ := numbers_ok c (2 * n) 20160 (by omega) (by omega) (by omega)
  have m2 : vmul (.int 2) (.int (n : Int)) = .ok (.int (2 * n)) := vmul_l .lit
  rw [show ((2 * n : Nat) : Int) = 2 * (n : Int) by omega] at ed
  have rg : vrange2 (.int 1) (.int (2 * (n : Int) + 1)) = .ok (rangeD 1 (2 * n)) := by
    rw [vrange2_int, if_pos (by unfold rngOk; omega)]; congr 2; omega
  obtain ⟨L0, hL0, hl0⟩ : ∃ L : List Int, rangeD 1 (2 * n) = L.map .int ∧ L.length = 2 * n := ⟨(List.range (2 * n)).map fun k : Nat => 1 + (k : Int), by unfold rangeD; rw [List.map_map]; rfl, by simp⟩
  obtain ⟨ρ', e1, L, ws, e2, hL, hw⟩ := forL_nx (kt := gN 6) (kl := kill [6, 7]) (gb := b_law_wagons_1) (fun k ρ => ∃ (L ws : List Int), ρ = [none, some (.fz (.int n)), some (.fz (.bool g)), some (.fz (.list (ds.map .int))), some (.lst (L.map fun z => .fz (.int z))), some (.lst (ws.map fun z => .fz (.int z))), none, none] ∧ L.length = 2 * n - k ∧ ws.length = k)
    (rangeD 0 n) 0 [none, some (.fz (.int n)), some (.fz (.bool g)), some (.fz (.list (ds.map .int))), some (.lst (L0.map fun z => .fz (.int z))), some (.lst []), none, none] ⟨L0, [], rfl, by omega, rfl⟩ (fun k d ρ hdd ⟨L, ws, e, hL, hw⟩ => by
      obtain ⟨hk, rfl⟩ := rangeD_get hdd
      subst e
      rw [Nat.zero_add] at hL hw
      obtain ⟨x, hx, hx0, _⟩ := hd.get (i := k) (by omega)
      obtain ⟨y, hy, _⟩ := hd.get (i := n + k) (by omega)
      have v1 : vidx (.list (ds.map .int)) (.int (k : Int)) = .ok (.int x) := vidx_list hx
      have w2 : vidx (.list (ds.map .int)) (.int ((n : Int) + (k : Int))) = .ok (.int y) := vidx_list' (k := n + k) (by omega) hy
      have hpos : (0 : Int) < (L.length : Int) := by omega
      obtain ⟨m, hm, hml⟩ : ∃ m : Nat, x % (L.length : Int) = m ∧ m < L.length := by
        have b1 := Int.emod_nonneg x (b := (L.length : Int)) (by omega)
        have b2 := Int.emod_lt_of_pos x hpos
        exact ⟨(x % (L.length : Int)).toNat, by omega, by omega⟩
      have vm : vmod (.int x) (.int (L.length : Int)) = .ok (.int (m : Int)) := by rw [vmod_int, if_pos hpos, hm]
      have hm2 : m < 16777216 := by omega
      have er : (L.map fun z => O.fz (.int z)).eraseIdx m = (L.eraseIdx m).map fun z => O.fz (.int z) := erase_map _ L m
      have hz : ws.length < 16777216 := by omega
      have q5 : vmul (.int 100000000000000000000) (.int (1 + y % 3)) = .ok (.int (100000000000000000000 * (1 + y % 3))) := vmul_r (sm_of (by omega))
      have le : (L.eraseIdx m).length = 2 * n - (0 + k + 1) := by rw [List.length_eraseIdx, if_pos hml]; omega
      have pop : ∀ r7 : Option O, oPopAt 4 (exB (v2 vmod (v2 vidx (vVar 3) (vVar 6)) (vapp vlen (aCons (vVar 4) aNil)))) [none, some (.fz (.int n)), some (.fz (.bool g)), some (.fz (.list (ds.map .int))), some (.lst (L.map fun z => .fz (.int z))), some (.lst (ws.map fun z => .fz (.int z))), some (.fz (.int (k : Int))), r7] = .ok (.fz (.int L[m]), [none, some (.fz (.int n)), some (.fz (.bool g)), some (.fz (.list (ds.map .int))), some (.lst ((L.eraseIdx m).map fun z => .fz (.int z))), some (.lst (ws.map fun z => .fz (.int z))), some (.fz (.int (k : Int))), r7]) := fun r7 => by
        rw [oPopAt_ok (j := m) (os := L.map fun z => .fz (.int z)) (o := .fz (.int L[m])) rfl ?_ hm2 (by simp [hml]), er]
        · rfl
        · cases r7 <;> simp [v1, vm]
      cases g with
      | false => exact ⟨_, _, gN_ap _ _, .inl (by simp [b_law_wagons_1, pop, sApp, szL, hz]; rfl), L.eraseIdx m, ws ++ [L[m]], by simp, le, by simp; omega⟩
      | true =>
        by_cases h2 : y % 2 = 0
        · exact ⟨_, _, gN_ap _ _, .inl (by simp [b_law_wagons_1, pop, w2, h2, q5, sApp, szL, hz]; rfl), L.eraseIdx m, ws ++ [_], by simp; rfl, le, by simp; omega⟩
        · exact ⟨_, _, gN_ap _ _, .inl (by simp [b_law_wagons_1, pop, w2, h2, sApp, szL, hz]; rfl), L.eraseIdx m, ws ++ [L[m]], by simp, le, by simp; omega⟩)
  subst e2
  rw [Nat.zero_add, rangeD_len] at hw
  refine ⟨ws, ?_, hw⟩
  simp [g_law_wagons, m2, ed, rg, -vrange2_int, hL0, vrange1_nat (show n ≤ 16777216 by omega), Function.comp_def, e1, freezeAt]
theorem compL_sub {kt : PyData → R (List (Nat × PyData))} {ft : PEnv → R Bool} {fe : PEnv → R PyData} {ρ : PEnv} (S : PyData → Prop) : ∀ {ds : List PyData}, (∀ d ∈ ds, ∃ bs b y, kt d = .ok bs ∧ ft (setsD ρ bs) = .ok b ∧ fe (setsD ρ bs) = .ok y ∧ S y) → ∃ ys, compL kt ft fe ρ ds = .ok ys ∧ (∀ y ∈ ys, S y) ∧ ys.length ≤ ds.length
  | [], _ => ⟨[], rfl, fun _ h => (nomatch h), Nat.le_refl _⟩
  | d :: ds, h => by
    obtain ⟨bs, b, y, h1, h2, h3, h4⟩ := h d List.mem_cons_self
    obtain ⟨ys, e, hs, hl⟩ := compL_sub S (ds := ds) fun x hx => h x (List.mem_cons_of_mem _ hx)
    cases b with
    | true =>
      exact ⟨y :: ys, by simp only [compL, h1, R.bind_ok, h2, h3, calm_okk, e, if_true], fun z hz => by
        rcases List.mem_cons.mp hz with q | q
        · subst q; exact h4
        · exact hs z q, by simp; omega⟩
    | false => exact ⟨ys, by simp only [compL, h1, R.bind_ok, h2, calm_okk, e]; rfl, hs, by simp; omega⟩
theorem lfs_ints {ys : List PyData} (h : ∀ y ∈ ys, ∃ i : Nat, y = .int i ∧ i < 100) : lfs ys = true := by
  induction ys with
  | nil => rfl
  | cons y ys ih =>
    obtain ⟨i, rfl, _⟩ := h y List.mem_cons_self
    simp [ih fun z hz => h z (List.mem_cons_of_mem _ hz)]
theorem placed_ok {ws cs : List Int} {ds : List Int} (hd : Drawn 6 20160 ds) (hw : ws.length ≤ 6) (hc : cs.length < 100) : ∃ st : List (List Int), m_law_placed [.list (ws.map .int), capD cs, .list (ds.map .int)] = .ok (stD st) ∧ st.length = cs.length ∧ ∀ w ∈ st, w.length ≤ 100 := by
  rw [r_law_placed]
  have e0 := compL_map (kt := gN 7) (ft := tyes) (fe := e_law_placed_1) (ρ := [some (.list (ws.map .int)), some (capD cs), some (.list (ds.map .int)), none, none, none, none, none]) (fun _ => .tuple []) (ds := cs.map .int) (fun d _ => ⟨_, gN_ap _ _, rfl, by simp [e_law_placed_1]⟩)
  obtain ⟨ρ', e1, st, r6, e2, _, hl, hk⟩ := forL_nx (kt := gN 4) (kl := kill [4, 5]) (gb := b_law_placed_3) (fun k ρ => ∃ (st : List (List Int)) (r6 : Option O), ρ = [some (.fz (.list (ws.map .int))), some (.fz (capD cs)), some (.fz (.list (ds.map .int))), some (.lst (st.map fun w => .fz (wag w))), none, none, r6, none] ∧ (r6 = none ∨ ∃ x : Int, r6 = some (.fz (.int x))) ∧ st.length = cs.length ∧ ∀ w ∈ st, w.length ≤ k)
    (rangeD 0 ws.length) 0 [some (.fz (.list (ws.map .int))), some (.fz (capD cs)), some (.fz (.list (ds.map .int))), some (.lst ((cs.map fun _ => ([] : List Int)).map fun w => .fz (wag w))), none, none, none, none] ⟨_, none, rfl, .inl rfl, by simp, fun w hw => by simp at hw; rw [hw.2]; simp⟩ (fun k d ρ hdd ⟨st, r6, e, h6, hl, hk⟩ => by
      obtain ⟨hkw, rfl⟩ := rangeD_get hdd
      subst e
      rw [Nat.zero_add] at hk
      have few : st.length < 100 := by omega
      obtain ⟨x, hx, _⟩ := hd.get (i := k) (by omega)
      have v1 : vidx (.list (ds.map .int)) (.int (k : Int)) = .ok (.int x) := vidx_list hx
      have v2' : vidx (.list (ws.map .int)) (.int (k : Int)) = .ok (.int ws[k]) := vidx_list (by simp [hkw])
      have la : ∀ i, i < st.length → vidx (.list (st.map wag)) (.int (i : Int)) = .ok (wag (st.getD i [])) := fun i hi => vidx_list (by rw [List.getElem?_map, List.getD_eq_getElem?_getD, List.getElem?_eq_getElem hi]; rfl)
      have em : st.map (O.data ∘ fun w => O.fz (wag w)) = st.map wag := by refine List.map_congr_left fun m _ => ?_; simp
      have em2 : (st.map fun w => O.fz (wag w)).map O.data = st.map wag := by rw [List.map_map]; exact em
      obtain ⟨ys, ey, hy, hyl⟩ := compL_sub (kt := gN 6) (ft := t_law_placed_2) (fe := e_law_placed_2) (ρ := [some (.list (ws.map .int)), some (capD cs), some (.list (ds.map .int)), some (.list (st.map wag)), some (.int (k : Int)), none, none, none]) (fun y => ∃ i : Nat, y = .int i ∧ i < cs.length) (ds := rangeD 0 cs.length) (fun d hd => by
        obtain ⟨i, hi⟩ := List.getElem?_of_mem hd
        obtain ⟨h, rfl⟩ := rangeD_get hi
        have q1 := la i (by omega)
        have q2 := wag_len (st.getD i [])
        have q3 := cap_at h
        generalize st.getD i [] = wi at q1 q2
        generalize cs.getD i 0 = ci at q3
        exact ⟨_, _, _, gN_ap _ _, by simp [t_law_placed_2, q1, q2, q3]; rfl, by simp [e_law_placed_2]; rfl, i, by simp, h⟩)
      rw [rangeD_len] at hyl
      have lfy : lfs ys = true := lfs_ints fun y h => by obtain ⟨i, e, h⟩ := hy y h; exact ⟨i, e, by omega⟩
      have cl : vlen [capD cs] = .ok (.int cs.length) := by simp [capD]
      have ed : ys.map (O.data ∘ O.fz) = ys := by rw [show (O.data ∘ O.fz) = (id : PyData → PyData) by funext d; simp, List.map_id]
      by_cases h0 : ys.length = 0
      · have h0' : ¬ (0 : Int) < (ys.length : Int) := by omega
        refine ⟨_, [some (.fz (.list (ws.map .int))), some (.fz (capD cs)), some (.fz (.list (ds.map .int))), some (.lst (st.map fun w => .fz (wag w))), some (.fz (.int (k : Int))), some (.fz (.list ys)), r6, none], gN_ap _ _, .inl ?_, st, r6, by simp, h6, hl, fun w hw => by have := hk w hw; omega⟩
        rcases h6 with rfl | ⟨z, rfl⟩
        · simp [b_law_placed_3, em, cl, vrange1_nat (show cs.length ≤ 16777216 by omega), ey, lfy, freezeAt, ed, h0]
        · simp [b_law_placed_3, em, cl, vrange1_nat (show cs.length ≤ 16777216 by omega), ey, lfy, freezeAt, ed, h0]
      · have hpos : (0 : Int) < (ys.length : Int) := by omega
        obtain ⟨m, hm, hml⟩ : ∃ m : Nat, x % (ys.length : Int) = m ∧ m < ys.length := by
          have b1 := Int.emod_nonneg x (b := (ys.length : Int)) (by omega)
          have b2 := Int.emod_lt_of_pos x hpos
          exact ⟨(x % (ys.length : Int)).toNat, by omega, by omega⟩
        have vm : vmod (.int x) (.int (ys.length : Int)) = .ok (.int (m : Int)) := by rw [vmod_int, if_pos hpos, hm]
        obtain ⟨i, ei, hi⟩ := hy ys[m] (List.getElem_mem hml)
        have vy : vidx (.list ys) (.int (m : Int)) = .ok (.int (i : Int)) := vidx_list (by simp [hml, ei])
        have q1 := la i (by omega)
        have hwl : (st.getD i []).length ≤ k := hk _ (by rw [List.getD_eq_getElem?_getD, List.getElem?_eq_getElem (show i < st.length by omega)]; exact List.getElem_mem _)
        have q2 : vadd (.tuple [.int ws[k]]) (wag (st.getD i [])) = .ok (wag (ws[k] :: st.getD i [])) := add_wag [ws[k]] (st.getD i []) (by rw [List.length_singleton]; omega)
        have x3 : L2.ixN st.length (i : Int) = some i := ixN_nat (by omega)
        have hne : ys ≠ [] := fun z => h0 (by rw [z]; rfl)
        have lfw : lf (wag (ws[k] :: st.getD i [])) = true := by
          unfold wag
          rw [lf_tuple]
          generalize ws[k] :: st.getD i [] = u
          induction u with
          | nil => rfl
          | cons a u ih => simp [ih]
        generalize hu : ws[k] :: st.getD i [] = u at q2 lfw
        generalize st.getD i [] = wi at q1 q2 hwl hu
        refine ⟨_, [some (.fz (.list (ws.map .int))), some (.fz (capD cs)), some (.fz (.list (ds.map .int))), some (.lst ((st.set i u).map fun w => .fz (wag w))), some (.fz (.int (k : Int))), some (.fz (.list ys)), some (.fz (.int (i : Int))), none], gN_ap _ _, .inl ?_, st.set i u, some (.fz (.int (i : Int))), by simp, .inr ⟨_, rfl⟩, by simpa using hl, fun w hw => ?_⟩
        · rcases h6 with rfl | ⟨z, rfl⟩
          · simp [b_law_placed_3, em, cl, vrange1_nat (show cs.length ≤ 16777216 by omega), ey, lfy, freezeAt, ed, hpos, hne, v1, v2', vm, vy, q1, q2, x3, sSetI, lfw, List.map_set]
          · simp [b_law_placed_3, em, cl, vrange1_nat (show cs.length ≤ 16777216 by omega), ey, lfy, freezeAt, ed, hpos, hne, v1, v2', vm, vy, q1, q2, x3, sSetI, lfw, List.map_set]
        · rcases List.mem_or_eq_of_mem_set hw with h | h
          · have := hk w h; omega
          · rw [h, ← hu, List.length_cons]; omega)
  rw [Nat.zero_add, rangeD_len] at hk
  subst e2
  refine ⟨st, ?_, hl, fun w hw => by have := hk w hw; omega⟩
  have em : st.map (O.data ∘ fun w => O.fz (wag w)) = st.map wag := by refine List.map_congr_left fun m _ => ?_; simp
  have sq : seqD (capD cs) = .ok (cs.map .int) := rfl
  have e0' : (cs.map PyData.int).map (fun _ => PyData.tuple []) = cs.map fun _ => PyData.tuple [] := by rw [List.map_map]; rfl
  rw [e0'] at e0
  have i0 : ((cs.map fun _ => ([] : List Int)).map fun w => O.fz (wag w)) = cs.map fun _ => O.fz (.tuple []) := by rw [List.map_map]; rfl
  rw [i0] at e1
  simp [g_law_placed, sq, e0, vrange1_nat (show ws.length ≤ 16777216 by omega), Function.comp_def, e1, freezeAt, stD]
theorem body2 {cs : List Int} {r : Int} {st : List (List Int)} (Y : Yard cs r st) (x : Int) (hx : 0 ≤ x) : ∃ ρ' st', b_law_2 [none, none, some (.fz (capD cs)), some (.fz (.int r)), none, none, some (.fz (stD st)), some (.fz (.int x)), none, none] = .nx ρ' ∧ kill [7, 8] ρ' = [none, none, some (.fz (capD cs)), some (.fz (.int r)), none, none, some (.fz (stD st')), none, none, none] ∧ Yard cs r st' := by
  have lm := law_moves Y
  by_cases h0 : allM cs r st = []
  · rw [h0] at lm
    exact ⟨_, st, by simp [b_law_2, lm]; rfl, by simp, Y⟩
  · have hp : 0 < (allM cs r st).length := List.length_pos_iff.mpr h0
    have hpos : (0 : Int) < ((allM cs r st).length : Int) := by omega
    obtain ⟨k, hk, hkl⟩ : ∃ k : Nat, x % ((allM cs r st).length : Int) = k ∧ k < (allM cs r st).length := by
      have b1 := Int.emod_nonneg x (b := ((allM cs r st).length : Int)) (by omega)
      have b2 := Int.emod_lt_of_pos x hpos
      exact ⟨(x % ((allM cs r st).length : Int)).toNat, by omega, by omega⟩
    have vm : vmod (.int x) (.int ((allM cs r st).length : Int)) = .ok (.int (k : Int)) := by rw [vmod_int, if_pos hpos, hk]
    have hm := List.getElem_mem hkl
    have vi : vidx (.list ((allM cs r st).map mvD)) (.int (k : Int)) = .ok (mvD (allM cs r st)[k]) := vidx_list (by simp [hkl])
    generalize (allM cs r st)[k] = m at hm vi
    obtain ⟨h1, h2, h3, h4⟩ := mem_all hm
    have p2 := law_pushed_eq (n := m.2.2) h1 h2 h3 Y.wgn Y.few
    rw [show ((m.1, m.2.1, m.2.2) : Nat × Nat × Nat) = m from rfl] at p2
    have Y2 := push_yard Y hm
    have a2 := asks_ok Y2
    exact ⟨_, _, by simp [b_law_2, lm, hpos, hp, h0, vm, vi, p2, a2]; rfl, by simp, Y2⟩
theorem math (ns : List Int) (hn : ns.length ≤ 63) : m_law [.list (ns.map .int)] = .ok (.bool true) := by
  rw [r_law]
  obtain ⟨c0, ec0⟩ := cell_eq ns 0
  change m_law_cell [_, .int 0] = _ at ec0
  obtain ⟨c1, ec1⟩ := cell_eq ns 1
  change m_law_cell [_, .int 1] = _ at ec1
  obtain ⟨c2, ec2⟩ := cell_eq ns 2
  change m_law_cell [_, .int 2] = _ at ec2
  obtain ⟨ss, hs, es⟩ := numbers_ok c0 8 20160 (by omega) (by omega) (by omega)
  change m_law_numbers [.int _, .int 8, .int 20160] = _ at es
  obtain ⟨ds, hd, ed⟩ := numbers_ok c2 9 20160 (by omega) (by omega) (by omega)
  change m_law_numbers [.int _, .int 9, .int 20160] = _ at ed
  obtain ⟨s4, h4, _⟩ := hs.get (i := 4) (by omega)
  have v4 : vidx (.list (ss.map .int)) (.int 4) = .ok (.int s4) := vidx_list (k := 4) h4
  obtain ⟨s5, h5, _⟩ := hs.get (i := 5) (by omega)
  have v5 : vidx (.list (ss.map .int)) (.int 5) = .ok (.int s5) := vidx_list (k := 5) h5
  obtain ⟨s6, h6, b6, _⟩ := hs.get (i := 6) (by omega)
  have v6 : vidx (.list (ss.map .int)) (.int 6) = .ok (.int s6) := vidx_list (k := 6) h6
  obtain ⟨s7, h7, _⟩ := hs.get (i := 7) (by omega)
  have v7 : vidx (.list (ss.map .int)) (.int 7) = .ok (.int s7) := vidx_list (k := 7) h7
  obtain ⟨nc, hnc, hnc4⟩ : ∃ nc : Nat, 1 + s4 % 4 = (nc : Int) ∧ nc ≤ 4 := by
    have b1 := Int.emod_nonneg s4 (b := 4) (by omega)
    have b2 := Int.emod_lt_of_pos s4 (b := 4) (by omega)
    exact ⟨(1 + s4 % 4).toNat, by omega, by omega⟩
  obtain ⟨C, eC, lC, hC⟩ := compL_rel (kt := gN 9) (ft := tyes) (fe := e_law_1) (ρ := [some (.list (ns.map .int)), some (.list (ss.map .int)), none, none, none, none, none, none, none, none]) (fun _ y => ∃ c : Int, y = .int c ∧ 1 ≤ c ∧ c ≤ 7) (rangeD 0 nc) 0 (fun i d hi => by
    obtain ⟨h, rfl⟩ := rangeD_get hi
    clear hi
    obtain ⟨x, hx, _⟩ := hs.get (i := i) (by omega)
    have v1 : vidx (.list (ss.map .int)) (.int (i : Int)) = .ok (.int x) := vidx_list hx
    obtain ⟨_, ⟨p, rfl, hp1, hp2⟩, ep⟩ := pick3 s5 (fun z => ∃ p : Int, z = .int p ∧ 0 < p ∧ p ≤ 7) (a := .int 3) (b := .int 2) (c := .int 7) ⟨_, rfl, by omega, by omega⟩ ⟨_, rfl, by omega, by omega⟩ ⟨_, rfl, by omega, by omega⟩
    have b1 := Int.emod_nonneg x (b := p) (by omega)
    have b2 := Int.emod_lt_of_pos x hp1
    exact ⟨_, _, gN_ap _ _, rfl, by simp [e_law_1, v1, v5, ep, hp1]; rfl, _, rfl, by omega, by omega⟩)
  rw [rangeD_len] at lC
  obtain ⟨cs, rfl, hcs⟩ := cs_of (L := C) (lo := 1) (hi := 7) fun y hy => by
    obtain ⟨i, hi⟩ := List.getElem?_of_mem hy
    exact hC i y hi
  rw [List.length_map] at lC
  obtain ⟨r, hr, hr1⟩ : ∃ r : Int, r = (if s6 % 5 = 0 then 1 + s6 else 1 + s6 % 3) ∧ 1 ≤ r := ⟨_, rfl, by
    have b1 := Int.emod_nonneg s6 (b := 3) (by omega)
    split <;> omega⟩
  have hsum : 0 ≤ cs.sum := by
    clear eC lC hC
    induction cs with
    | nil => simp
    | cons c cs ih =>
      have := ih fun x hx => hcs x (List.mem_cons_of_mem _ hx)
      have := hcs c List.mem_cons_self
      rw [List.sum_cons]; omega
  have vs : vsum [capD cs] = .ok (.int cs.sum) := by simp only [vsum, capD, intsOf_map]
  obtain ⟨nw, hnw, hnw6⟩ : ∃ nw : Nat, min (min 6 cs.sum) (s7 % 7) = (nw : Int) ∧ nw ≤ 6 := by
    have b1 := Int.emod_nonneg s7 (b := 7) (by omega)
    exact ⟨(min (min 6 cs.sum) (s7 % 7)).toNat, by omega, by omega⟩
  obtain ⟨ws, ew, lw⟩ := wagons_ok c1 nw (by omega) (decide (s5 % 2 = 1))
  obtain ⟨es6, he6, hl6⟩ : ∃ es6 : List Int, cutL (ds.map .int) (some 0) (some 6) = es6.map .int ∧ Drawn 6 20160 es6 := ⟨ds.take 6, by
    rw [show (some (0 : Int)) = some ((0 : Nat) : Int) from rfl, show (some (6 : Int)) = some ((6 : Nat) : Int) from rfl, cut_mid, List.drop_zero, ← List.map_take], by rw [List.length_take, hd.1]; rfl, fun d hd' => hd.2 d (List.mem_of_mem_take hd')⟩
  obtain ⟨st, est, lst, hst⟩ := placed_ok (ws := ws) (cs := cs) hl6 (by omega) (by omega)
  have Y : Yard cs r st := ⟨lst.symm, by omega, fun c hc => by have := hcs c hc; omega, hr1, hst⟩
  have a1 := asks_ok Y
  have rr : PyData.list (cs.map .int) = capD cs := rfl
  obtain ⟨ρ', e1, st', e2⟩ := forL_nx (kt := gN 7) (kl := kill [7, 8]) (gb := b_law_2) (fun _ ρ => ∃ st, ρ = [none, none, some (.fz (capD cs)), some (.fz (.int r)), none, none, some (.fz (stD st)), none, none, none] ∧ Yard cs r st)
    (cutL (ds.map .int) (some 6) (some 9)) 0 _ ⟨st, rfl, Y⟩ (fun i d ρ hdd ⟨st, e, Y⟩ => by
      subst e
      obtain ⟨x, hx, rfl⟩ := List.mem_map.mp (mem_cut (List.mem_of_getElem? hdd))
      obtain ⟨ρ', st', h1, h2, h3⟩ := body2 Y x (hd.2 x hx).1
      exact ⟨_, ρ', gN_ap _ _, .inl h1, st', h2, h3⟩)
  obtain ⟨e2, _⟩ := e2
  subst e2
  by_cases h65 : s6 % 5 = 0
  · rw [if_pos h65] at hr
    subst hr
    simp [g_law, ec0, es, v4, hnc, vrange1_nat (show nc ≤ 16777216 by omega), eC, rr, v6, h65, ec1, vs, v7, hnw, v5, ew, ec2, ed, he6, est, a1, e1]
  · rw [if_neg h65] at hr
    subst hr
    simp [g_law, ec0, es, v4, hnc, vrange1_nat (show nc ≤ 16777216 by omega), eC, rr, v6, h65, ec1, vs, v7, hnw, v5, ew, ec2, ed, he6, est, a1, e1]

end LW
namespace LW
open PySem PySem.Spec PyProof.Rows L2 VL
theorem txt_mk {K : PySem.W.Frag} {h : Heap} {mg : Str → Option Value} (X : K.In h) (G : h.Ns mainGlobals mg)
    {f1 : Addr} {od1 an1 : Option Addr} {sl1 : Array (Option Value)} {oc1 kV1 dc1 pm1 cd1 ct1 : Value}
    (a1 : PySem.W.nsIn K mainGlobals "yard_moves" = some (some (.ref f1)))
    (l1 : K.lookup f1 = some ⟨oc1, od1, .func (PySem.W.fnOf "yard_moves" "yard_moves" (defArgs s_yard_moves) (defBody s_yard_moves) (defScope s_yard_moves) .none kV1 dc1 pm1 an1 cd1 ct1), sl1⟩) (c1 : PySem.W.codeIn K cd1 "yard_moves" = true) (k1 : PySem.W.keepIn K (.ref f1) = true)
    {f2 : Addr} {od2 an2 : Option Addr} {sl2 : Array (Option Value)} {oc2 kV2 dc2 pm2 cd2 ct2 : Value}
    (a2 : PySem.W.nsIn K mainGlobals "pushed" = some (some (.ref f2)))
    (l2 : K.lookup f2 = some ⟨oc2, od2, .func (PySem.W.fnOf "pushed" "pushed" (defArgs s_pushed) (defBody s_pushed) (defScope s_pushed) .none kV2 dc2 pm2 an2 cd2 ct2), sl2⟩) (c2 : PySem.W.codeIn K cd2 "pushed" = true) (k2 : PySem.W.keepIn K (.ref f2) = true)
    {f3 : Addr} {od3 an3 : Option Addr} {sl3 : Array (Option Value)} {oc3 kV3 dc3 pm3 cd3 ct3 : Value}
    (a3 : PySem.W.nsIn K mainGlobals "moved" = some (some (.ref f3)))
    (l3 : K.lookup f3 = some ⟨oc3, od3, .func (PySem.W.fnOf "moved" "moved" (defArgs s_moved) (defBody s_moved) (defScope s_moved) .none kV3 dc3 pm3 an3 cd3 ct3), sl3⟩) (c3 : PySem.W.codeIn K cd3 "moved" = true) (k3 : PySem.W.keepIn K (.ref f3) = true)
    {f4 : Addr} {od4 an4 : Option Addr} {sl4 : Array (Option Value)} {oc4 kV4 dc4 pm4 cd4 ct4 : Value}
    (a4 : PySem.W.nsIn K mainGlobals "_law_cell" = some (some (.ref f4)))
    (l4 : K.lookup f4 = some ⟨oc4, od4, .func (PySem.W.fnOf "_law_cell" "_law_cell" (defArgs s_law_cell) (defBody s_law_cell) (defScope s_law_cell) .none kV4 dc4 pm4 an4 cd4 ct4), sl4⟩) (c4 : PySem.W.codeIn K cd4 "_law_cell" = true) (k4 : PySem.W.keepIn K (.ref f4) = true)
    {f5 : Addr} {od5 an5 : Option Addr} {sl5 : Array (Option Value)} {oc5 kV5 dc5 pm5 cd5 ct5 : Value}
    (a5 : PySem.W.nsIn K mainGlobals "_law_numbers" = some (some (.ref f5)))
    (l5 : K.lookup f5 = some ⟨oc5, od5, .func (PySem.W.fnOf "_law_numbers" "_law_numbers" (defArgs s_law_numbers) (defBody s_law_numbers) (defScope s_law_numbers) .none kV5 dc5 pm5 an5 cd5 ct5), sl5⟩) (c5 : PySem.W.codeIn K cd5 "_law_numbers" = true) (k5 : PySem.W.keepIn K (.ref f5) = true)
    {f6 : Addr} {od6 an6 : Option Addr} {sl6 : Array (Option Value)} {oc6 kV6 dc6 pm6 cd6 ct6 : Value}
    (a6 : PySem.W.nsIn K mainGlobals "_law_yard_moves" = some (some (.ref f6)))
    (l6 : K.lookup f6 = some ⟨oc6, od6, .func (PySem.W.fnOf "_law_yard_moves" "_law_yard_moves" (defArgs s_law_yard_moves) (defBody s_law_yard_moves) (defScope s_law_yard_moves) .none kV6 dc6 pm6 an6 cd6 ct6), sl6⟩) (c6 : PySem.W.codeIn K cd6 "_law_yard_moves" = true) (k6 : PySem.W.keepIn K (.ref f6) = true)
    {f7 : Addr} {od7 an7 : Option Addr} {sl7 : Array (Option Value)} {oc7 kV7 dc7 pm7 cd7 ct7 : Value}
    (a7 : PySem.W.nsIn K mainGlobals "_law_pushed" = some (some (.ref f7)))
    (l7 : K.lookup f7 = some ⟨oc7, od7, .func (PySem.W.fnOf "_law_pushed" "_law_pushed" (defArgs s_law_pushed) (defBody s_law_pushed) (defScope s_law_pushed) .none kV7 dc7 pm7 an7 cd7 ct7), sl7⟩) (c7 : PySem.W.codeIn K cd7 "_law_pushed" = true) (k7 : PySem.W.keepIn K (.ref f7) = true)
    {f8 : Addr} {od8 an8 : Option Addr} {sl8 : Array (Option Value)} {oc8 kV8 dc8 pm8 cd8 ct8 : Value}
    (a8 : PySem.W.nsIn K mainGlobals "_law_placed" = some (some (.ref f8)))
    (l8 : K.lookup f8 = some ⟨oc8, od8, .func (PySem.W.fnOf "_law_placed" "_law_placed" (defArgs s_law_placed) (defBody s_law_placed) (defScope s_law_placed) .none kV8 dc8 pm8 an8 cd8 ct8), sl8⟩) (c8 : PySem.W.codeIn K cd8 "_law_placed" = true) (k8 : PySem.W.keepIn K (.ref f8) = true)
    {f9 : Addr} {od9 an9 : Option Addr} {sl9 : Array (Option Value)} {oc9 kV9 dc9 pm9 cd9 ct9 : Value}
    (a9 : PySem.W.nsIn K mainGlobals "_law_wagons" = some (some (.ref f9)))
    (l9 : K.lookup f9 = some ⟨oc9, od9, .func (PySem.W.fnOf "_law_wagons" "_law_wagons" (defArgs s_law_wagons) (defBody s_law_wagons) (defScope s_law_wagons) .none kV9 dc9 pm9 an9 cd9 ct9), sl9⟩) (c9 : PySem.W.codeIn K cd9 "_law_wagons" = true) (k9 : PySem.W.keepIn K (.ref f9) = true)
    {f10 : Addr} {od10 an10 : Option Addr} {sl10 : Array (Option Value)} {oc10 kV10 dc10 pm10 cd10 ct10 : Value}
    (a10 : PySem.W.nsIn K mainGlobals "_law_same" = some (some (.ref f10)))
    (l10 : K.lookup f10 = some ⟨oc10, od10, .func (PySem.W.fnOf "_law_same" "_law_same" (defArgs s_law_same) (defBody s_law_same) (defScope s_law_same) .none kV10 dc10 pm10 an10 cd10 ct10), sl10⟩) (c10 : PySem.W.codeIn K cd10 "_law_same" = true) (k10 : PySem.W.keepIn K (.ref f10) = true)
    {f11 : Addr} {od11 an11 : Option Addr} {sl11 : Array (Option Value)} {oc11 kV11 dc11 pm11 cd11 ct11 : Value}
    (a11 : PySem.W.nsIn K mainGlobals "_law_refuses" = some (some (.ref f11)))
    (l11 : K.lookup f11 = some ⟨oc11, od11, .func (PySem.W.fnOf "_law_refuses" "_law_refuses" (defArgs s_law_refuses) (defBody s_law_refuses) (defScope s_law_refuses) .none kV11 dc11 pm11 an11 cd11 ct11), sl11⟩) (c11 : PySem.W.codeIn K cd11 "_law_refuses" = true) (k11 : PySem.W.keepIn K (.ref f11) = true)
    {f12 : Addr} {od12 an12 : Option Addr} {sl12 : Array (Option Value)} {oc12 kV12 dc12 pm12 cd12 ct12 : Value}
    (a12 : PySem.W.nsIn K mainGlobals "_law_asks" = some (some (.ref f12)))
    (l12 : K.lookup f12 = some ⟨oc12, od12, .func (PySem.W.fnOf "_law_asks" "_law_asks" (defArgs s_law_asks) (defBody s_law_asks) (defScope s_law_asks) .none kV12 dc12 pm12 an12 cd12 ct12), sl12⟩) (c12 : PySem.W.codeIn K cd12 "_law_asks" = true) (k12 : PySem.W.keepIn K (.ref f12) = true)
    {f13 : Addr} {od13 an13 : Option Addr} {sl13 : Array (Option Value)} {oc13 kV13 dc13 pm13 cd13 ct13 : Value}
    (a13 : PySem.W.nsIn K mainGlobals "law" = some (some (.ref f13)))
    (l13 : K.lookup f13 = some ⟨oc13, od13, .func (PySem.W.fnOf "law" "law" (defArgs s_law) (defBody s_law) (defScope s_law) .none kV13 dc13 pm13 an13 cd13 ct13), sl13⟩) (c13 : PySem.W.codeIn K cd13 "law" = true) (k13 : PySem.W.keepIn K (.ref f13) = true)
    (z_ValueError : PySem.W.nsIn K mainGlobals "ValueError" = some none)
    (z_bool : PySem.W.nsIn K mainGlobals "bool" = some none)
    (z_int : PySem.W.nsIn K mainGlobals "int" = some none)
    (z_isinstance : PySem.W.nsIn K mainGlobals "isinstance" = some none)
    (z_len : PySem.W.nsIn K mainGlobals "len" = some none)
    (z_list : PySem.W.nsIn K mainGlobals "list" = some none)
    (z_min : PySem.W.nsIn K mainGlobals "min" = some none)
    (z_range : PySem.W.nsIn K mainGlobals "range" = some none)
    (z_str : PySem.W.nsIn K mainGlobals "str" = some none)
    (z_sum : PySem.W.nsIn K mainGlobals "sum" = some none)
    (z_tuple : PySem.W.nsIn K mainGlobals "tuple" = some none)
    {x_InvalidMove : Addr} (ax_InvalidMove : PySem.W.nsIn K mainGlobals "InvalidMove" = some (some (.ref x_InvalidMove)))
    (xx_InvalidMove : PySem.W.excIn K x_InvalidMove [.type "ValueError", .type "Exception", .type "BaseException", .type "object"] "ValueError.__new__" = true) (xk_InvalidMove : PySem.W.keepIn K (.ref x_InvalidMove) = true) (xb_InvalidMove : PySem.W.subIn K (.ref x_InvalidMove) (.type "BaseException") = some true) (xt_InvalidMove : PySem.W.typeIn K (.ref x_InvalidMove) = some (.type "type"))
    {x_Occupied : Addr} (ax_Occupied : PySem.W.nsIn K mainGlobals "Occupied" = some (some (.ref x_Occupied)))
    (xx_Occupied : PySem.W.excIn K x_Occupied [.type "ValueError", .type "Exception", .type "BaseException", .type "object"] "ValueError.__new__" = true) (xk_Occupied : PySem.W.keepIn K (.ref x_Occupied) = true) (xb_Occupied : PySem.W.subIn K (.ref x_Occupied) (.type "BaseException") = some true) (xt_Occupied : PySem.W.typeIn K (.ref x_Occupied) = some (.type "type"))
    {x_TrackError : Addr} (ax_TrackError : PySem.W.nsIn K mainGlobals "TrackError" = some (some (.ref x_TrackError)))
    (xx_TrackError : PySem.W.excIn K x_TrackError [.type "ValueError", .type "Exception", .type "BaseException", .type "object"] "ValueError.__new__" = true) (xk_TrackError : PySem.W.keepIn K (.ref x_TrackError) = true) (xb_TrackError : PySem.W.subIn K (.ref x_TrackError) (.type "BaseException") = some true) (xt_TrackError : PySem.W.typeIn K (.ref x_TrackError) = some (.type "type"))
    (xc_InvalidMove : ExcC K x_InvalidMove)
    (xd_TrackError : PySem.W.hasDictIn K x_TrackError = true)
    (xs_TrackError_InvalidMove : PySem.W.subIn K (.ref x_InvalidMove) (.ref x_TrackError) = some true)
    (xd_InvalidMove : PySem.W.hasDictIn K x_InvalidMove = true)
    (xs_InvalidMove_InvalidMove : PySem.W.subIn K (.ref x_InvalidMove) (.ref x_InvalidMove) = some true)
    (xd_Occupied : PySem.W.hasDictIn K x_Occupied = true)
    (xs_Occupied_InvalidMove : PySem.W.subIn K (.ref x_InvalidMove) (.ref x_Occupied) = some false)
    (xn_Occupied_InvalidMove : (Value.ref x_InvalidMove == Value.ref x_Occupied) = false)
    (xs_ValueError_InvalidMove : PySem.W.subIn K (.ref x_InvalidMove) (.type "ValueError") = some true) : ∃ T : Txt K mg, T.f_law = f13 ∧ ∀ (s : Shared) (v : Value), BindsTo s T.d_law ⟨[v], []⟩ [("script", v)] :=
  ⟨{ f_yard_moves := f1, d_yard_moves := _, F_yard_moves := fun_mk (st := s_yard_moves) l1 c1 k1, g_yard_moves := PySem.W.mg_of X G a1, B_yard_moves := ((fun_mk (st := s_yard_moves) l1 c1 k1).binds fun _ _ _ _ _ _ us hl => match us, hl with | [_, _, _], _ => rfl),
        f_pushed := f2, d_pushed := _, F_pushed := fun_mk (st := s_pushed) l2 c2 k2, g_pushed := PySem.W.mg_of X G a2, B_pushed := ((fun_mk (st := s_pushed) l2 c2 k2).binds fun _ _ _ _ _ _ us hl => match us, hl with | [_, _], _ => rfl),
        f_moved := f3, d_moved := _, F_moved := fun_mk (st := s_moved) l3 c3 k3, g_moved := PySem.W.mg_of X G a3, B_moved := ((fun_mk (st := s_moved) l3 c3 k3).binds fun _ _ _ _ _ _ us hl => match us, hl with | [_, _, _, _], _ => rfl),
        f__law_cell := f4, d__law_cell := _, F__law_cell := fun_mk (st := s_law_cell) l4 c4 k4, g__law_cell := PySem.W.mg_of X G a4, B__law_cell := ((fun_mk (st := s_law_cell) l4 c4 k4).binds fun _ _ _ _ _ _ us hl => match us, hl with | [_, _], _ => rfl),
        f__law_numbers := f5, d__law_numbers := _, F__law_numbers := fun_mk (st := s_law_numbers) l5 c5 k5, g__law_numbers := PySem.W.mg_of X G a5, B__law_numbers := ((fun_mk (st := s_law_numbers) l5 c5 k5).binds fun _ _ _ _ _ _ us hl => match us, hl with | [_, _, _], _ => rfl),
        f__law_yard_moves := f6, d__law_yard_moves := _, F__law_yard_moves := fun_mk (st := s_law_yard_moves) l6 c6 k6, g__law_yard_moves := PySem.W.mg_of X G a6, B__law_yard_moves := ((fun_mk (st := s_law_yard_moves) l6 c6 k6).binds fun _ _ _ _ _ _ us hl => match us, hl with | [_, _, _], _ => rfl),
        f__law_pushed := f7, d__law_pushed := _, F__law_pushed := fun_mk (st := s_law_pushed) l7 c7 k7, g__law_pushed := PySem.W.mg_of X G a7, B__law_pushed := ((fun_mk (st := s_law_pushed) l7 c7 k7).binds fun _ _ _ _ _ _ us hl => match us, hl with | [_, _], _ => rfl),
        f__law_placed := f8, d__law_placed := _, F__law_placed := fun_mk (st := s_law_placed) l8 c8 k8, g__law_placed := PySem.W.mg_of X G a8, B__law_placed := ((fun_mk (st := s_law_placed) l8 c8 k8).binds fun _ _ _ _ _ _ us hl => match us, hl with | [_, _, _], _ => rfl),
        f__law_wagons := f9, d__law_wagons := _, F__law_wagons := fun_mk (st := s_law_wagons) l9 c9 k9, g__law_wagons := PySem.W.mg_of X G a9, B__law_wagons := ((fun_mk (st := s_law_wagons) l9 c9 k9).binds fun _ _ _ _ _ _ us hl => match us, hl with | [_, _, _], _ => rfl),
        f__law_same := f10, d__law_same := _, F__law_same := fun_mk (st := s_law_same) l10 c10 k10, g__law_same := PySem.W.mg_of X G a10, B__law_same := ((fun_mk (st := s_law_same) l10 c10 k10).binds fun _ _ _ _ _ _ us hl => match us, hl with | [_, _], _ => rfl),
        f__law_refuses := f11, d__law_refuses := _, F__law_refuses := fun_mk (st := s_law_refuses) l11 c11 k11, g__law_refuses := PySem.W.mg_of X G a11, B__law_refuses := ((fun_mk (st := s_law_refuses) l11 c11 k11).binds fun _ _ _ _ _ _ us hl => match us, hl with | [_, _, _, _], _ => rfl),
        f__law_asks := f12, d__law_asks := _, F__law_asks := fun_mk (st := s_law_asks) l12 c12 k12, g__law_asks := PySem.W.mg_of X G a12, B__law_asks := ((fun_mk (st := s_law_asks) l12 c12 k12).binds fun _ _ _ _ _ _ us hl => match us, hl with | [_, _, _], _ => rfl),
        f_law := f13, d_law := _, F_law := fun_mk (st := s_law) l13 c13 k13, g_law := PySem.W.mg_of X G a13, B_law := ((fun_mk (st := s_law) l13 c13 k13).binds fun _ _ _ _ _ _ us hl => match us, hl with | [_], _ => rfl),
        b_ValueError := PySem.W.mg_none_of X G z_ValueError,
        b_bool := PySem.W.mg_none_of X G z_bool,
        b_int := PySem.W.mg_none_of X G z_int,
        b_isinstance := PySem.W.mg_none_of X G z_isinstance,
        b_len := PySem.W.mg_none_of X G z_len,
        b_list := PySem.W.mg_none_of X G z_list,
        b_min := PySem.W.mg_none_of X G z_min,
        b_range := PySem.W.mg_none_of X G z_range,
        b_str := PySem.W.mg_none_of X G z_str,
        b_sum := PySem.W.mg_none_of X G z_sum,
        b_tuple := PySem.W.mg_none_of X G z_tuple,
        x_InvalidMove := x_InvalidMove, E_InvalidMove := ⟨xx_InvalidMove, PySem.W.mg_of X G ax_InvalidMove, xk_InvalidMove, xb_InvalidMove, xt_InvalidMove⟩,
        x_Occupied := x_Occupied, E_Occupied := ⟨xx_Occupied, PySem.W.mg_of X G ax_Occupied, xk_Occupied, xb_Occupied, xt_Occupied⟩,
        x_TrackError := x_TrackError, E_TrackError := ⟨xx_TrackError, PySem.W.mg_of X G ax_TrackError, xk_TrackError, xb_TrackError, xt_TrackError⟩,
        h_TrackError := ⟨⟨.ref x_TrackError, PySem.W.mg_of X G ax_TrackError, tab_of (P := fun cn b => ∃ C, mg cn = some (.ref C) ∧ PySem.W.exmOne K (.ref C) (.ref x_TrackError) = some b) (List.forall_mem_cons.mpr ⟨⟨x_InvalidMove, PySem.W.mg_of X G ax_InvalidMove, PySem.W.exm_ref xb_TrackError xd_TrackError xt_TrackError xs_TrackError_InvalidMove⟩, (fun _ h => absurd h List.not_mem_nil)⟩)⟩⟩,
        i_InvalidMove := ⟨fun cn D b hD hb => tab_of (P := fun cn b => ∀ D, mg cn = some (.ref D) → ExcC K D ∧ PySem.W.kitOne K (.ref D) (.ref x_InvalidMove) = some b) (List.forall_mem_cons.mpr ⟨fun D hD => by (have e := hD.symm.trans (PySem.W.mg_of X G ax_InvalidMove)); cases e; exact ⟨xc_InvalidMove, (kit_ref xd_InvalidMove xt_InvalidMove xs_InvalidMove_InvalidMove (.inr rfl))⟩, (fun _ h => absurd h List.not_mem_nil)⟩) cn b hb D hD⟩,
        i_Occupied := ⟨fun cn D b hD hb => tab_of (P := fun cn b => ∀ D, mg cn = some (.ref D) → ExcC K D ∧ PySem.W.kitOne K (.ref D) (.ref x_Occupied) = some b) (List.forall_mem_cons.mpr ⟨fun D hD => by (have e := hD.symm.trans (PySem.W.mg_of X G ax_InvalidMove)); cases e; exact ⟨xc_InvalidMove, (kit_ref xd_Occupied xt_Occupied xs_Occupied_InvalidMove (.inl xn_Occupied_InvalidMove))⟩, (fun _ h => absurd h List.not_mem_nil)⟩) cn b hb D hD⟩,
        i_ValueError := ⟨fun cn D b hD hb => tab_of (P := fun cn b => ∀ D, mg cn = some (.ref D) → ExcC K D ∧ PySem.W.kitOne K (.ref D) (.type "ValueError") = some b) (List.forall_mem_cons.mpr ⟨fun D hD => by (have e := hD.symm.trans (PySem.W.mg_of X G ax_InvalidMove)); cases e; exact ⟨xc_InvalidMove, (kit_type (by decide +kernel) xs_ValueError_InvalidMove rfl)⟩, (fun _ h => absurd h List.not_mem_nil)⟩) cn b hb D hD⟩ }, rfl, fun s v => .of_eq rfl⟩
theorem law_ok {P : Program} {w : World} {K : PySem.W.Frag} {mg : Str → Option Value} {base : Heap} (T : Txt K mg) (math : ∀ ns : List Int, ns.length ≤ 63 → m_law [.list (ns.map PyData.int)] = .ok (.bool true)) : FnOk P w K mg base (L2.CX P w) 13 T.f_law T.d_law ["script"] spL := fn_law (ok_law T) math
end LW
open PySem PySem.W PyProof.Rows
set_option maxHeartbeats 0 in
theorem PySem.Challenge.cw_trackswhole_k62_moves_of_a_yard_holds : PySem.Challenge.rw_trackswhole_k62_moves_of_a_yard.Holds := by
  w_on; o_law; k_head; (case hw => w_witness2)
  k_fill
  refine L2.walk_of (l := PySem.Challenge.rw_trackswhole_k62_moves_of_a_yard) (n := 63) (k := 13) (x := "script") (CX := fun w => L2.CX PySem.Challenge.rw_trackswhole_k62_moves_of_a_yard.prog w) (sp := fun _ => VL.spL) rfl (by decide) rfl ⟨rfl, by decide, by decide⟩ (fun w h Y => PySem.W.kIn_of Y) ?F ?S (fun _ _ _ _ _ h => VL.cx_false h)
  case S =>
    intro w H a ns hl hO hS
    exact VL.spL_of hl hS (by kernel_rfl)
  case F =>
    intro w mg fa h KX G hmg
    obtain ⟨T, e, hb⟩ := LW.txt_mk KX G (a1 := by k_is) (l1 := by k_is) (c1 := by k_is) (k1 := by k_is) (a2 := by k_is) (l2 := by k_is) (c2 := by k_is) (k2 := by k_is) (a3 := by k_is) (l3 := by k_is) (c3 := by k_is) (k3 := by k_is) (a4 := by k_is) (l4 := by k_is) (c4 := by k_is) (k4 := by k_is) (a5 := by k_is) (l5 := by k_is) (c5 := by k_is) (k5 := by k_is) (a6 := by k_is) (l6 := by k_is) (c6 := by k_is) (k6 := by k_is) (a7 := by k_is) (l7 := by k_is) (c7 := by k_is) (k7 := by k_is) (a8 := by k_is) (l8 := by k_is) (c8 := by k_is) (k8 := by k_is) (a9 := by k_is) (l9 := by k_is) (c9 := by k_is) (k9 := by k_is) (a10 := by k_is) (l10 := by k_is) (c10 := by k_is) (k10 := by k_is) (a11 := by k_is) (l11 := by k_is) (c11 := by k_is) (k11 := by k_is) (a12 := by k_is) (l12 := by k_is) (c12 := by k_is) (k12 := by k_is) (a13 := by k_is) (l13 := by k_is) (c13 := by k_is) (k13 := by k_is) (z_ValueError := by k_is) (z_bool := by k_is) (z_int := by k_is) (z_isinstance := by k_is) (z_len := by k_is) (z_list := by k_is) (z_min := by k_is) (z_range := by k_is) (z_str := by k_is) (z_sum := by k_is) (z_tuple := by k_is) (ax_InvalidMove := by k_is) (xx_InvalidMove := by k_exc) (xk_InvalidMove := by k_is) (xb_InvalidMove := by k_is) (xt_InvalidMove := by k_is) (ax_Occupied := by k_is) (xx_Occupied := by k_exc) (xk_Occupied := by k_is) (xb_Occupied := by k_is) (xt_Occupied := by k_is) (ax_TrackError := by k_is) (xx_TrackError := by k_exc) (xk_TrackError := by k_is) (xb_TrackError := by k_is) (xt_TrackError := by k_is) (xc_InvalidMove := by exact ⟨by k_is, by k_is, by k_is, by k_is, by k_is, by k_is, by k_is, by k_is⟩) (xd_TrackError := by k_is) (xs_TrackError_InvalidMove := by k_is) (xd_InvalidMove := by k_is) (xs_InvalidMove_InvalidMove := by k_is) (xd_Occupied := by k_is) (xs_Occupied_InvalidMove := by k_is) (xn_Occupied_InvalidMove := by first | rfl | decide | k_is) (xs_ValueError_InvalidMove := by k_is)
    have e2 := hmg.symm.trans T.g_law
    cases e2
    exact ⟨T.d_law, hb, fun base _ _ => LW.law_ok T LW.math⟩
