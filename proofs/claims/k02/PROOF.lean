import PyProof.Rows.All
import HandS.ForMost
import HandS.Deep
import HandS.Exc
import HandS.ExcOwn
import HandS.TryOnly
import HandS.CallSlots
import HandS.WordsExc
import HandS.TupAny
import HandS.Wide
import HandS.IsInst
import HandS.Flow
import HandS.Conv
import HandS.Ends
import HandS.ExcIs
import Open.Row
import PySem.Challenge.RW_trackswhole_k02_what_is_a_piece
set_option Elab.async false
set_option linter.all false
set_option maxRecDepth 100000
set_option maxHeartbeats 1000000
namespace VL
open PySem PySem.Spec PyProof.Rows L2

/-! ### results -/
inductive R (α : Type) where
  | stuck
  | err (c : Str)
  | ok (a : α)
def R.bind {α β : Type} (x : R α) (f : α → R β) : R β := match x with
  | .stuck => .stuck
  | .err c => .err c
  | .ok a => f a
instance : Monad R where
  pure := R.ok
  bind := R.bind
@[simp] theorem R.bind_ok {α β : Type} (a : α) (f : α → R β) : R.bind (.ok a) f = f a := rfl
@[simp] theorem R.bind_err {α β : Type} (c : Str) (f : α → R β) : R.bind (.err c) f = .err c := rfl
@[simp] theorem R.bind_stuck {α β : Type} (f : α → R β) : R.bind .stuck f = .stuck := rfl
abbrev D := PyData

mutual
/- the value v is the data d, its lists and tuples in the heap F -/
inductive Is (K : PySem.W.Frag) (F : Hp) : V → D → Prop
  | non : Is K F .non .none
  | bl (b : Bool) : Is K F (.bl b) (.bool b)
  | int (i : Int) : Is K F (.int i) (.int i)
  | str (x : Str) : Is K F (.str x) (.str x)
  | lst {a : Addr} {xs : List V} {ds : List D} : Rd F a (.lst xs) → IsAll K F xs ds → Is K F (.ref a) (.list ds)
  | tup {a : Addr} {xs : List V} {ds : List D} : SqT K F a xs → IsAll K F xs ds → Is K F (.ref a) (.tuple ds)
  /- a caught exception at a, of the class that stands under the name c -/
  | exc (a : Addr) (c : Str) : Is K F (.ref a) (.dict [(.int (a : Int), .str c)])
inductive IsAll (K : PySem.W.Frag) (F : Hp) : List V → List D → Prop
  | nil : IsAll K F [] []
  | cons {v : V} {vs : List V} {d : D} {ds : List D} : Is K F v d → IsAll K F vs ds → IsAll K F (v :: vs) (d :: ds)
end
mutual
theorem Is.dp {K : PySem.W.Frag} {F : Hp} : ∀ {d : D} {v : V}, d.canLay0 = true → Is K F v d → Dp K F v d
  | .none, _, _, h => by cases h; exact .non
  | .bool b, _, _, h => by cases h; exact .bl b
  | .int i, _, _, h => by cases h; exact .int i
  | .str x, _, _, h => by cases h; exact .str x
  | .list ds, _, l, h => by cases h with | lst hs ha => exact .lst (.inl hs) (IsAll.dp (by simpa only [PyData.canLay0] using l) ha)
  | .tuple ds, _, l, h => by cases h with | tup hs ha => exact .tup hs (IsAll.dp (by simpa only [PyData.canLay0] using l) ha)
  | .dict _, _, l, h => by simp [PyData.canLay0] at l
theorem IsAll.dp {K : PySem.W.Frag} {F : Hp} : ∀ {ds : List D} {vs : List V}, PyData.canLayAll0 ds = true → IsAll K F vs ds → DpAll K F vs ds
  | [], _, _, h => by cases h; exact .nil
  | d :: ds, _, l, h => by
    cases h with
    | cons h1 h2 =>
      simp only [PyData.canLayAll0, Bool.and_eq_true] at l
      exact .cons (Is.dp l.1 h1) (IsAll.dp l.2 h2)
end
theorem Rd.mono {H H' : Hp} {a : Addr} {o : HO} (e : Same H H') (h : Rd H a o) : Rd H' a o := by
  rcases h with h | ⟨u, h⟩
  · exact .inl (e _ _ h)
  · exact .inr ⟨u, e _ _ h⟩
/-! ### heaps that grow -/
theorem Same.tupl {K : PySem.W.Frag} {H H' : Hp} {a : Addr} {xs : List V} (e : Same H H') (h : SqT K H a xs) : SqT K H' a xs := by
  rcases h with (z | ⟨u, z⟩) | z
  · exact .inl (.inl (e _ _ z))
  · exact .inl (.inr ⟨u, e _ _ z⟩)
  · exact .inr z
mutual
theorem Is.mono {K : PySem.W.Frag} {F F' : Hp} (e : Same F F') : ∀ {d : D} {v : V}, Is K F v d → Is K F' v d
  | .none, _, h => by cases h; exact .non
  | .bool b, _, h => by cases h; exact .bl b
  | .int i, _, h => by cases h; exact .int i
  | .str x, _, h => by cases h; exact .str x
  | .list ds, _, h => by cases h with | lst hs ha => exact .lst (Rd.mono e hs) (IsAll.mono e ha)
  | .tuple ds, _, h => by cases h with | tup hs ha => exact .tup (Same.tupl e hs) (IsAll.mono e ha)
  | .dict _, _, h => by cases h; exact .exc _ _
theorem IsAll.mono {K : PySem.W.Frag} {F F' : Hp} (e : Same F F') : ∀ {ds : List D} {vs : List V}, IsAll K F vs ds → IsAll K F' vs ds
  | [], _, h => by cases h; exact .nil
  | d :: ds, _, h => by cases h with | cons h1 h2 => exact .cons (Is.mono e h1) (IsAll.mono e h2)
end
theorem IsAll.len {K : PySem.W.Frag} {F : Hp} : ∀ {ds : List D} {vs : List V}, IsAll K F vs ds → vs.length = ds.length
  | [], _, h => by cases h; rfl
  | d :: ds, _, h => by
    cases h with
    | cons h1 h2 => rw [List.length_cons, List.length_cons, IsAll.len h2]
theorem IsAll.get {K : PySem.W.Frag} {F : Hp} : ∀ {ds : List D} {vs : List V} {i : Nat} {v : V}, IsAll K F vs ds → vs[i]? = some v → ∃ d, ds[i]? = some d ∧ Is K F v d
  | [], _, i, v, h, e => by cases h; simp at e
  | d :: ds, _, 0, v, h, e => by
    cases h with
    | cons h1 h2 => simp at e; subst e; exact ⟨d, rfl, h1⟩
  | d :: ds, _, i + 1, v, h, e => by
    cases h with
    | cons h1 h2 =>
      obtain ⟨x, h3, h4⟩ := IsAll.get (i := i) h2 (by simpa using e)
      exact ⟨x, by simpa using h3, h4⟩
theorem IsAll.get' {K : PySem.W.Frag} {F : Hp} : ∀ {ds : List D} {vs : List V} {i : Nat} {d : D}, IsAll K F vs ds → ds[i]? = some d → ∃ v, vs[i]? = some v ∧ Is K F v d
  | [], _, i, v, h, e => by simp at e
  | d :: ds, _, 0, v, h, e => by
    cases h with
    | cons h1 h2 => simp at e; subst e; exact ⟨_, rfl, h1⟩
  | d :: ds, _, i + 1, v, h, e => by
    cases h with
    | cons h1 h2 =>
      obtain ⟨x, h3, h4⟩ := IsAll.get' (i := i) h2 (by simpa using e)
      exact ⟨x, by simpa using h3, h4⟩
theorem IsAll.append {K : PySem.W.Frag} {F : Hp} : ∀ {ds es : List D} {vs us : List V}, IsAll K F vs ds → IsAll K F us es → IsAll K F (vs ++ us) (ds ++ es)
  | [], _, _, _, h, g => by cases h; exact g
  | d :: ds, es, _, us, h, g => by
    cases h with
    | cons h1 h2 => exact .cons h1 (IsAll.append h2 g)
theorem IsAll.take {K : PySem.W.Frag} {F : Hp} : ∀ (n : Nat) {ds : List D} {vs : List V}, IsAll K F vs ds → IsAll K F (vs.take n) (ds.take n)
  | 0, _, _, h => by simp; exact .nil
  | n + 1, [], _, h => by cases h; simp; exact .nil
  | n + 1, d :: ds, _, h => by
    cases h with
    | cons h1 h2 => exact .cons h1 (IsAll.take n h2)
theorem IsAll.drop {K : PySem.W.Frag} {F : Hp} : ∀ (n : Nat) {ds : List D} {vs : List V}, IsAll K F vs ds → IsAll K F (vs.drop n) (ds.drop n)
  | 0, _, _, h => by simpa using h
  | n + 1, [], _, h => by cases h; simp; exact .nil
  | n + 1, d :: ds, _, h => by
    cases h with
    | cons h1 h2 => simpa using IsAll.drop n h2
theorem IsAll.set {K : PySem.W.Frag} {F : Hp} {x : D} {u : V} (hx : Is K F u x) : ∀ (n : Nat) {ds : List D} {vs : List V}, IsAll K F vs ds → IsAll K F (vs.set n u) (ds.set n x)
  | _, [], _, h => by cases h; simp; exact .nil
  | 0, d :: ds, _, h => by
    cases h with
    | cons h1 h2 => exact .cons hx h2
  | n + 1, d :: ds, _, h => by
    cases h with
    | cons h1 h2 => exact .cons h1 (IsAll.set hx n h2)
theorem IsAll.reverse {K : PySem.W.Frag} {F : Hp} : ∀ {ds : List D} {vs : List V}, IsAll K F vs ds → IsAll K F vs.reverse ds.reverse
  | [], _, h => by cases h; exact .nil
  | d :: ds, _, h => by
    cases h with
    | cons h1 h2 =>
      rw [List.reverse_cons, List.reverse_cons]
      exact IsAll.append (IsAll.reverse h2) (.cons h1 .nil)
/- data without lists -/
mutual
def lf : D → Bool
  | .list _ => false
  | .dict _ => false
  | .tuple xs => lfs xs
  | _ => true
def lfs : List D → Bool
  | [] => true
  | x :: xs => lf x && lfs xs
end
@[simp] theorem lf_int (i : Int) : lf (.int i) = true := by simp [lf]
@[simp] theorem lf_bool (i : Bool) : lf (.bool i) = true := by simp [lf]
@[simp] theorem lf_str (i : Str) : lf (.str i) = true := by simp [lf]
@[simp] theorem lf_none : lf .none = true := by simp [lf]
@[simp] theorem lf_tuple (xs : List D) : lf (.tuple xs) = lfs xs := by simp [lf]
@[simp] theorem lf_list (xs : List D) : lf (.list xs) = false := by simp [lf]
@[simp] theorem lfs_nil : lfs [] = true := by simp [lfs]
@[simp] theorem lfs_cons (x : D) (xs : List D) : lfs (x :: xs) = (lf x && lfs xs) := by simp [lfs]
theorem rd_keep {F F' : Hp} {a : Addr} {xs : List V} (e : ∀ b, (∃ ys, Rd F b (.tup ys)) → F' b = F b) (h : Rd F a (.tup xs)) : Rd F' a (.tup xs) := by
  have := e a ⟨xs, h⟩
  rcases h with h | ⟨o, h⟩
  · exact .inl (by rw [this]; exact h)
  · exact .inr ⟨o, by rw [this]; exact h⟩
mutual
theorem Is.lfree {K : PySem.W.Frag} {F F' : Hp} (e : ∀ b, (∃ ys, Rd F b (.tup ys)) → F' b = F b) : ∀ {d : D} {v : V}, lf d = true → Is K F v d → Is K F' v d
  | .none, _, _, h => by cases h; exact .non
  | .bool b, _, _, h => by cases h; exact .bl b
  | .int i, _, _, h => by cases h; exact .int i
  | .str x, _, _, h => by cases h; exact .str x
  | .list ds, _, l, h => by simp at l
  | .tuple ds, _, l, h => by
    cases h with
    | tup hs ha =>
      refine .tup ?_ (IsAll.lfree e (by simpa using l) ha)
      rcases hs with hs | hs
      · exact .inl (rd_keep e hs)
      · exact .inr hs
  | .dict _, _, l, h => by simp [lf] at l
theorem IsAll.lfree {K : PySem.W.Frag} {F F' : Hp} (e : ∀ b, (∃ ys, Rd F b (.tup ys)) → F' b = F b) : ∀ {ds : List D} {vs : List V}, lfs ds = true → IsAll K F vs ds → IsAll K F' vs ds
  | [], _, _, h => by cases h; exact .nil
  | d :: ds, _, l, h => by
    cases h with
    | cons h1 h2 =>
      simp at l
      exact .cons (Is.lfree e l.1 h1) (IsAll.lfree e l.2 h2)
end

/-- the heap has grown, and so has its frozen part; what is newly frozen is new -/
structure Ext (B H B' H' : Hp) : Prop where
  hh : Same H H'
  bb : Same B B'
  bh : Same B' H'
  nw : ∀ a, B a = none → B' a ≠ none → H a = none
theorem Ext.refl {B H : Hp} (h : Same B H) : Ext B H B H := ⟨Same.refl H, Same.refl B, h, fun a x y => absurd x y⟩
theorem Ext.trans {B H B1 H1 B2 H2 : Hp} (a : Ext B H B1 H1) (b : Ext B1 H1 B2 H2) : Ext B H B2 H2 :=
  ⟨a.hh.trans b.hh, a.bb.trans b.bb, b.bh, fun x h1 h2 => by
    cases e : B1 x with
    | none => exact Same.free a.hh (b.nw x e h2)
    | some o => exact a.nw x h1 (by rw [e]; exact fun z => nomatch z)⟩
theorem same_upd {H : Hp} {p : Addr} {o : HO} (h : H p = none) : Same H (upd H p o) := fun b u e => by
  rw [upd_ne (ne_of_none e h)]
  exact e
/-- a new object, frozen at once -/
theorem Ext.new {B H : Hp} {p : Addr} {o : HO} (h : Same B H) (n : H p = none) : Ext B H (upd B p o) (upd H p o) := by
  refine ⟨same_upd n, same_upd (Same.free h n), fun b x e => ?_, fun a h1 h2 => ?_⟩
  · by_cases hb : b = p
    · subst hb; rw [upd_same] at e ⊢; exact e
    · rw [upd_ne hb] at e ⊢; exact h _ _ e
  · by_cases hb : a = p
    · subst hb; exact n
    · rw [upd_ne hb] at h2; exact absurd h1 h2
/-- a new object that stays one's own -/
theorem Ext.own {B H : Hp} {p : Addr} {o : HO} (h : Same B H) (n : H p = none) : Ext B H B (upd H p o) :=
  ⟨same_upd n, Same.refl B, h.trans (same_upd n), fun a x y => absurd x y⟩

/-! ### sizes that every state knows -/
def Small (K : PySem.W.Frag) (H : Hp) : Prop := ∀ a xs, SqL K H a xs ∨ SqT K H a xs → xs.length ≤ sizeLine
theorem Inv.small {X : Cx} {pins : List (Addr × Obj)} {σ : L2.St} {H : Hp} {s : Shared} (I : Inv X pins σ H s) : Small X.K H := fun a xs h => by
  rcases h with h | h
  · obtain ⟨_, _, _, z⟩ := I.list h; exact z
  · obtain ⟨_, _, _, z⟩ := I.tuple h; exact z
theorem pe_small {X : Cx} {e : Expr} {t : TE} (h : PE X e t) : PE X e (fun σ H Q => t σ H fun v H' => Small X.K H' → Q v H') := ⟨fun pins s σ H Q I hw =>
  thn (h.run pins s σ H _ I hw) fun u s' ⟨v, H', I', r, q⟩ => ⟨v, H', I', r, q (Inv.small I')⟩⟩
theorem pi_small {X : Cx} {tg it : Expr} {t : TI} (h : PI X tg it t) : PI X tg it (fun σ H Q => t σ H fun J H' => Small X.K H' → Q J H') := ⟨fun pins s σ H R I hw =>
  thn (h.run pins s σ H _ I hw) fun v s1 h1 => thn h1 fun itv s2 ⟨it, fp, tn, J, H', e1, I2, T, st, fo, q⟩ => ⟨it, fp, tn, J, H', e1, I2, T, st, fo, q (Inv.small I2)⟩⟩
theorem Small.list {K : PySem.W.Frag} {B H : Hp} {v : V} {ds : List D} (s : Small K H) (e : Same B H) (h : Is K B v (.list ds)) : ds.length ≤ sizeLine := by
  cases h with
  | lst hs ha => rw [← IsAll.len ha]; exact s _ _ (.inl (.inl (Rd.mono e hs)))
theorem Small.tuple {K : PySem.W.Frag} {B H : Hp} {v : V} {ds : List D} (s : Small K H) (e : Same B H) (h : Is K B v (.tuple ds)) : ds.length ≤ sizeLine := by
  cases h with
  | tup hs ha => rw [← IsAll.len ha]; exact s _ _ (.inr (Same.tupl e hs))

/-! ### pure expressions -/
abbrev PEnv := List (Option D)
structure RF (K : PySem.W.Frag) (B : Hp) (σ : L2.St) (ρ : PEnv) : Prop where
  len : σ.length = ρ.length
  at_ : ∀ (i : Nat) (d : D), ρ[i]? = some (some d) → ∃ v, σ[i]? = some (some v) ∧ Is K B v d
theorem RF.mono {K : PySem.W.Frag} {B B' : Hp} {σ : L2.St} {ρ : PEnv} (h : RF K B σ ρ) (e : Same B B') : RF K B' σ ρ := ⟨h.len, fun i d x => by
  obtain ⟨v, h1, h2⟩ := h.at_ i d x
  exact ⟨v, h1, Is.mono e h2⟩⟩
/-- an error of the class that stands under the name c -/
def ErrAt (X : Cx) (W : WX) (c : Str) (σ : L2.St) (H : Hp) : Prop := ∃ C, X.mg c = some (.ref C) ∧ W (.ref C) none σ H
def Pst {α : Type} (X : Cx) (W : WX) (σ : L2.St) (H : Hp) (k : α → Prop) : R α → Prop
  | .stuck => False
  | .err c => ∀ H', Same H H' → ErrAt X W c σ H'
  | .ok a => k a
theorem Pst.imp {α : Type} {X : Cx} {W : WX} {σ : L2.St} {H : Hp} {k k' : α → Prop} (h : ∀ a, k a → k' a) : ∀ {r : R α}, Pst X W σ H k r → Pst X W σ H k' r
  | .stuck, x => x
  | .err _, x => x
  | .ok a, x => h a x
/-- the wanted end for a pure value -/
def KV1 (X : Cx) (B H : Hp) (Q : VK) (d : D) : Prop := ∀ v H' B', Ext B H B' H' → Small X.K H' → Is X.K B' v d → Q v H'
structure VE (X : Cx) (W : WX) (e : Expr) (f : PEnv → R D) : Prop where
  ex : ∃ t, PE X e t ∧ ∀ σ H B ρ Q, Same B H → RF X.K B σ ρ → Pst X W σ H (KV1 X B H Q) (f ρ) → t σ H Q
def KB1 (B H : Hp) (Q : Bool → Hp → Prop) (b : Bool) : Prop := ∀ H' B', Ext B H B' H' → Q b H'
structure VT (X : Cx) (W : WX) (e : Expr) (f : PEnv → R Bool) : Prop where
  ex : ∃ t, PT X e t ∧ ∀ σ H B ρ Q, Same B H → RF X.K B σ ρ → Pst X W σ H (KB1 B H Q) (f ρ) → t σ H Q
def KA1 (X : Cx) (B H : Hp) (Q : List V → Hp → Prop) (ds : List D) : Prop := ∀ vs H' B', Ext B H B' H' → IsAll X.K B' vs ds → Q vs H'
structure VA (X : Cx) (W : WX) (es : List Expr) (f : PEnv → R (List D)) : Prop where
  ex : ∃ t, PA X es t ∧ ∀ σ H B ρ Q, Same B H → RF X.K B σ ρ → Pst X W σ H (KA1 X B H Q) (f ρ) → t σ H Q

section
variable {X : Cx} {W : WX} {a b c : Expr} {es : List Expr} {pos : Pos} {fa fb fc : PEnv → R D}
/-- a rule for VE from a PE; the small sizes come by themselves -/
theorem VE.mk' {e : Expr} {f : PEnv → R D} {t : TE} (h : PE X e t)
    (q : ∀ σ H B ρ Q, Same B H → RF X.K B σ ρ → Pst X W σ H (fun d => ∀ v H' B', Ext B H B' H' → Is X.K B' v d → Q v H') (f ρ) → t σ H Q) : VE X W e f :=
  ⟨_, pe_small h, fun σ H B ρ Q s r p => q σ H B ρ _ s r (Pst.imp (fun d k v H' B' e dp sm => k v H' B' e sm dp) p)⟩

def vVar (i : Nat) : PEnv → R D := fun ρ => match ρ[i]? with
  | some (some d) => .ok d
  | _ => .stuck
def vC (d : D) : PEnv → R D := fun _ => .ok d
theorem vv (i : Nat) {x : Str} (hN : X.N[i]? = some x := by rfl) (hv : Vis X.env.scope x := by first | exact Or.inl rfl | exact Or.inr (Or.inl rfl) | exact Or.inr (Or.inr rfl)) (hd : (x == ("__debug__" : Str)) = false := by decide)
    (hcd : (x == ("__classdict__" : Str)) = false := by decide) : VE X W (.Name x pos) (vVar i) := by
  refine VE.mk' (pe_var hN hv hd hcd) fun σ H B ρ Q s r p => ?_
  unfold vVar at p
  split at p
  · rename_i d e
    obtain ⟨v, e1, dp⟩ := r.at_ i d e
    exact ⟨v, e1, p v H B (.refl s) dp⟩
  · exact p.elim
theorem vint {i j} : VE X W (.Constant (.int i) j pos) (vC (.int i)) := VE.mk' pe_int fun σ H B ρ Q s r p => p _ H B (.refl s) (.int i)
theorem vbool {i j} : VE X W (.Constant (.bool i) j pos) (vC (.bool i)) := VE.mk' pe_bl fun σ H B ρ Q s r p => p _ H B (.refl s) (.bl i)
theorem vnone {j} : VE X W (.Constant .none j pos) (vC .none) := VE.mk' pe_non fun σ H B ρ Q s r p => p _ H B (.refl s) .non
theorem vstr {i j} : VE X W (.Constant (.str i) j pos) (vC (.str i)) := VE.mk' pe_str fun σ H B ρ Q s r p => p _ H B (.refl s) (.str i)
/-- a constant of the module: a value that stands by itself in the written part -/
theorem vglob {x : Str} {v : V} {u : Value} {d : D} (hg : Gl X x) (hm : X.mg x = some u) (r : RelV v u) (hd : ∀ H, Is X.K H v d) (hdb : (x == ("__debug__" : Str)) = false := by decide) : VE X W (.Name x pos) (vC d) :=
  VE.mk' (pe_glob hg hm r hdb) fun σ H B ρ Q s _ p => p v H B (.refl s) (hd B)

/-! two values -/
def v2 (g : D → D → R D) (fa fb : PEnv → R D) : PEnv → R D := fun ρ => (fa ρ).bind fun d => (fb ρ).bind fun e => g d e
def v1 (g : D → R D) (fa : PEnv → R D) : PEnv → R D := fun ρ => (fa ρ).bind g
/-- from the state, two values one after another -/
theorem two {ta tb : TE} (ha : ∀ σ H B ρ Q, Same B H → RF X.K B σ ρ → Pst X W σ H (KV1 X B H Q) (fa ρ) → ta σ H Q) (hb : ∀ σ H B ρ Q, Same B H → RF X.K B σ ρ → Pst X W σ H (KV1 X B H Q) (fb ρ) → tb σ H Q)
    {α : Type} {σ : L2.St} {H B : Hp} {ρ : PEnv} {g : D → D → R α} {K : α → Prop} {Q : V → V → Hp → Prop} (s : Same B H) (r : RF X.K B σ ρ)
    (p : Pst X W σ H K ((fa ρ).bind fun d => (fb ρ).bind fun e => g d e))
    (q : ∀ d e x y H' B', Ext B H B' H' → Small X.K H' → Is X.K B' x d → Is X.K B' y e → Pst X W σ H' K (g d e) → Q x y H') : ta σ H fun x H1 => tb σ H1 fun y H2 => Q x y H2 := by
  refine ha σ H B ρ _ s r ?_
  generalize hfa : fa ρ = ra at p ⊢
  cases ra with
  | stuck => exact p
  | err c => exact p
  | ok d =>
    intro x H1 B1 e1 sm1 d1
    refine hb σ H1 B1 ρ _ e1.bh (r.mono e1.bb) ?_
    simp only [R.bind_ok] at p
    generalize hfb : fb ρ = rb at p ⊢
    cases rb with
    | stuck => exact p
    | err c => exact fun H' z => p H' (e1.hh.trans z)
    | ok e =>
      intro y H2 B2 e2 sm2 d2
      refine q d e x y H2 B2 (e1.trans e2) sm2 (Is.mono e2.bb d1) d2 ?_
      simp only [R.bind_ok] at p
      generalize g d e = rg at p ⊢
      cases rg with
      | stuck => exact p
      | err c => exact fun H' z => p H' ((e1.trans e2).hh.trans z)
      | ok z => exact p
theorem one {ta : TE} (ha : ∀ σ H B ρ Q, Same B H → RF X.K B σ ρ → Pst X W σ H (KV1 X B H Q) (fa ρ) → ta σ H Q)
    {α : Type} {σ : L2.St} {H B : Hp} {ρ : PEnv} {g : D → R α} {K : α → Prop} {Q : V → Hp → Prop} (s : Same B H) (r : RF X.K B σ ρ)
    (p : Pst X W σ H K ((fa ρ).bind g))
    (q : ∀ d x H' B', Ext B H B' H' → Small X.K H' → Is X.K B' x d → Pst X W σ H' K (g d) → Q x H') : ta σ H Q := by
  refine ha σ H B ρ _ s r ?_
  generalize hfa : fa ρ = ra at p ⊢
  cases ra with
  | stuck => exact p
  | err c => exact p
  | ok d =>
    intro x H1 B1 e1 sm1 d1
    refine q d x H1 B1 e1 sm1 d1 ?_
    simp only [R.bind_ok] at p
    generalize g d = rg at p ⊢
    cases rg with
    | stuck => exact p
    | err c => exact fun H' z => p H' (e1.hh.trans z)
    | ok z => exact p
/-- what a two-place rule asks is given by g -/
def Rule2 (X : Cx) (W : WX) (r : R2) (g : D → D → R D) : Prop := ∀ d e x y σ H B Q, Same B H → Small X.K H → Is X.K B x d → Is X.K B y e → Pst X W σ H (fun d' => ∀ v H' B', Ext B H B' H' → Is X.K B' v d' → Q v H') (g d e) → r x y H Q
def Rule1 (X : Cx) (W : WX) (r : V → Hp → VK → Prop) (g : D → R D) : Prop := ∀ d x σ H B Q, Same B H → Small X.K H → Is X.K B x d → Pst X W σ H (fun d' => ∀ v H' B', Ext B H B' H' → Is X.K B' v d' → Q v H') (g d) → r x H Q
theorem kv_ext {B H B1 H1 : Hp} {Q : VK} {d : D} (e : Ext B H B1 H1) (p : ∀ v H' B', Ext B H B' H' → Is X.K B' v d → Q v H') : ∀ v H' B', Ext B1 H1 B' H' → Is X.K B' v d → Q v H' := fun v H' B' e' dp => p v H' B' (e.trans e') dp
theorem ve2 {e : Expr} {r : R2} {g : D → D → R D} (mk : ∀ {ta tb : TE}, PE X a ta → PE X b tb → PE X e (tOp r ta tb)) (hr : Rule2 X W r g) (ha : VE X W a fa) (hb : VE X W b fb) : VE X W e (v2 g fa fb) := by
  obtain ⟨ta, pa, qa⟩ := ha.ex
  obtain ⟨tb, pb, qb⟩ := hb.ex
  refine VE.mk' (mk pa pb) fun σ H B ρ Q s rf p => ?_
  exact two qa qb s rf p fun d e x y H' B' ex sm dx dy pg => hr d e x y σ H' B' Q ex.bh sm dx dy (Pst.imp (fun a k => kv_ext ex k) pg)
theorem ve1 {e : Expr} {r : V → Hp → VK → Prop} {g : D → R D} (mk : ∀ {ta : TE}, PE X a ta → PE X e (tUn r ta)) (hr : Rule1 X W r g) (ha : VE X W a fa) : VE X W e (v1 g fa) := by
  obtain ⟨ta, pa, qa⟩ := ha.ex
  refine VE.mk' (mk pa) fun σ H B ρ Q s rf p => ?_
  exact one qa s rf p fun d x H' B' ex sm dx pg => hr d x σ H' B' Q ex.bh sm dx (Pst.imp (fun a k => kv_ext ex k) pg)
end
end VL

namespace VL
open PySem PySem.Spec PyProof.Rows L2

instance (a b : Int) : Decidable (IntMulOk a b) := by unfold IntMulOk; infer_instance

/-! ### what the operators give on data -/
def vadd : D → D → R D
  | .int i, .int j => .ok (.int (i + j))
  | .str x, .str y => if x.length + y.length ≤ sizeLine then .ok (.str (x ++ y)) else .stuck
  | .list xs, .list ys => if xs.length + ys.length ≤ sizeLine then .ok (.list (xs ++ ys)) else .stuck
  | .tuple xs, .tuple ys => if xs.length + ys.length ≤ sizeLine then .ok (.tuple (xs ++ ys)) else .stuck
  | _, _ => .stuck
def vsub : D → D → R D
  | .int i, .int j => .ok (.int (i - j))
  | _, _ => .stuck
def vmul : D → D → R D
  | .int i, .int j => if IntMulOk i j then .ok (.int (i * j)) else .stuck
  | _, _ => .stuck
def vfdiv : D → D → R D
  | .int i, .int j => if 0 < j ∧ j < 2 ^ 250 then .ok (.int (i / j)) else .stuck
  | _, _ => .stuck
def vmod : D → D → R D
  | .int i, .int j => if 0 < j then .ok (.int (i % j)) else .stuck
  | _, _ => .stuck
def vpow : D → D → R D
  | .int i, .int j => if 0 ≤ j ∧ j ≤ 1000 ∧ i.natAbs < 2 ^ 64 then .ok (.int (i ^ j.toNat)) else .stuck
  | _, _ => .stuck
def vneg : D → R D
  | .int i => .ok (.int (-i))
  | _ => .stuck
def vlt : D → D → R D
  | .int i, .int j => .ok (.bool (decide (i < j)))
  | _, _ => .stuck
def vle : D → D → R D
  | .int i, .int j => .ok (.bool (decide (i ≤ j)))
  | _, _ => .stuck
def vgt : D → D → R D
  | .int i, .int j => .ok (.bool (decide (j < i)))
  | _, _ => .stuck
def vge : D → D → R D
  | .int i, .int j => .ok (.bool (decide (j ≤ i)))
  | _, _ => .stuck
/-- == -/
def vEq (d e : D) : R Bool := if SeqAt.shaped d = true ∧ SeqAt.shaped e = true then .ok (PyData.eqv d e) else .stuck
def veq (d e : D) : R D := (vEq d e).bind fun b => .ok (.bool b)
def vne (d e : D) : R D := (vEq d e).bind fun b => .ok (.bool (!b))
def visnone : D → R D := fun d => .ok (.bool (match d with | .none => true | _ => false))
def vidx : D → D → R D
  | .list xs, .int i => match atI xs i with | some d => .ok d | none => .stuck
  | .tuple xs, .int i => match atI xs i with | some d => .ok d | none => .stuck
  | .str z, .int i => match atI z.cps.toList i with | some c => if z.length ≤ sizeLine then .ok (.str ⟨#[c]⟩) else .stuck | none => .stuck
  | _, _ => .stuck
def vin (d : D) : D → R Bool
  | .list ds => if SeqAt.shaped d = true ∧ SeqAt.shaped (.list ds) = true then .ok (ds.any fun z => PyData.eqv z d) else .stuck
  | _ => .stuck

section
variable {X : Cx} {W : WX} {a b c : Expr} {es : List Expr} {pos : Pos} {fa fb fc : PEnv → R D} {k : Nat}

theorem atI_all {K : PySem.W.Frag} {F : Hp} {vs : List V} {ds : List D} {i : Int} {d : D} (h : IsAll K F vs ds) (e : atI ds i = some d) : ∃ v, atI vs i = some v ∧ Is K F v d := by
  unfold atI at e ⊢
  rw [IsAll.len h]
  cases q : ixN ds.length i with
  | none => rw [q] at e; simp at e
  | some j =>
    rw [q] at e
    simp only [Option.bind_some] at e ⊢
    exact IsAll.get' h e

theorem r_int {K : Int → Int → Prop} {g : Int → Int → V} {G : D → D → R D} {T : Int → Int → D} (hG : ∀ d e, G d e ≠ .stuck → ∃ i j, d = .int i ∧ e = .int j ∧ K i j ∧ G d e = .ok (T i j)) (hg : ∀ i j F, Is X.K F (g i j) (T i j)) : Rule2 X W (rI K g) G := by
  intro d e x y σ H B Q s sm dx dy p
  have h0 : G d e ≠ .stuck := fun z => by rw [z] at p; exact p
  obtain ⟨i, j, rfl, rfl, hk, eG⟩ := hG d e h0
  rw [eG] at p
  cases dx
  cases dy
  exact ⟨i, j, rfl, rfl, hk, p _ H B (.refl s) (hg i j B)⟩
theorem r_int0 {g : Int → Int → V} {G : D → D → R D} {T : Int → Int → D} (hG : ∀ d e, G d e ≠ .stuck → ∃ i j, d = .int i ∧ e = .int j ∧ G d e = .ok (T i j)) (hg : ∀ i j F, Is X.K F (g i j) (T i j)) : Rule2 X W (rI0 g) G := by
  intro d e x y σ H B Q s sm dx dy p
  have h0 : G d e ≠ .stuck := fun z => by rw [z] at p; exact p
  obtain ⟨i, j, rfl, rfl, eG⟩ := hG d e h0
  rw [eG] at p
  cases dx
  cases dy
  exact ⟨i, j, rfl, rfl, p _ H B (.refl s) (hg i j B)⟩

theorem vsub_ (ha : VE X W a fa) (hb : VE X W b fb) : VE X W (.BinOp a .Sub b pos) (v2 vsub fa fb) :=
  ve2 (fun p q => pe_op op_sub p q) (r_int0 (T := fun i j => .int (i - j)) (fun d e h => by cases d <;> first | exact absurd rfl h | (cases e <;> first | exact absurd rfl h | exact ⟨_, _, rfl, rfl, rfl⟩)) fun _ _ _ => .int _) ha hb
theorem vmul_ (ha : VE X W a fa) (hb : VE X W b fb) : VE X W (.BinOp a .Mult b pos) (v2 vmul fa fb) :=
  ve2 (fun p q => pe_op (r := rI IntMulOk fun i j => .int (i * j)) (opI fun _ _ _ _ _ _ _ hc q => mul_int q hc) p q) (r_int (T := fun i j => .int (i * j)) (fun d e h => by
    cases d <;> first | exact absurd rfl h | (cases e <;> first | exact absurd rfl h | skip)
    simp only [vmul] at h ⊢
    split at h
    · rename_i hm; exact ⟨_, _, rfl, rfl, hm, if_pos hm⟩
    · exact absurd rfl h) fun _ _ _ => .int _) ha hb
theorem log2_250 {j : Int} (h0 : 0 < j) (h : j < 2 ^ 250) : CDivW 0 j := wide_div h0 (b := 250) (by omega) (by omega) (by omega)
theorem vfdiv_ (ha : VE X W a fa) (hb : VE X W b fb) : VE X W (.BinOp a .FloorDiv b pos) (v2 vfdiv fa fb) :=
  ve2 (fun p q => pe_op op_fdivW p q) (r_int (K := CDivW) (T := fun i j => .int (i / j)) (fun d e h => by
    cases d <;> first | exact absurd rfl h | (cases e <;> first | exact absurd rfl h | skip)
    simp only [vfdiv] at h ⊢
    split at h
    · rename_i hm; exact ⟨_, _, rfl, rfl, log2_250 hm.1 hm.2, if_pos hm⟩
    · exact absurd rfl h) fun _ _ _ => .int _) ha hb
theorem vmod_ (ha : VE X W a fa) (hb : VE X W b fb) : VE X W (.BinOp a .Mod b pos) (v2 vmod fa fb) :=
  ve2 (fun p q => pe_op op_mod p q) (r_int (T := fun i j => .int (i % j)) (fun d e h => by
    cases d <;> first | exact absurd rfl h | (cases e <;> first | exact absurd rfl h | skip)
    simp only [vmod] at h ⊢
    split at h
    · rename_i hm; exact ⟨_, _, rfl, rfl, hm, if_pos hm⟩
    · exact absurd rfl h) fun _ _ _ => .int _) ha hb
theorem vpow_ (ha : VE X W a fa) (hb : VE X W b fb) : VE X W (.BinOp a .Pow b pos) (v2 vpow fa fb) :=
  ve2 (fun p q => pe_op op_pow p q) (r_int (T := fun i j => .int (i ^ j.toNat)) (fun d e h => by
    cases d <;> first | exact absurd rfl h | (cases e <;> first | exact absurd rfl h | skip)
    simp only [vpow] at h ⊢
    split at h
    · rename_i hm; exact ⟨_, _, rfl, rfl, ⟨hm.1, by omega, hm.2.2⟩, if_pos hm⟩
    · exact absurd rfl h) fun _ _ _ => .int _) ha hb
theorem vneg_ (ha : VE X W a fa) : VE X W (.UnaryOp .USub a pos) (v1 vneg fa) :=
  ve1 (fun p => pe_un un_neg p) (fun d x σ H B Q s sm dx p => by
    cases dx <;> first | exact p.elim | exact ⟨_, rfl, p _ H B (.refl s) (.int _)⟩) ha
/-- comparisons of ints -/
theorem vlt_ (ha : VE X W a fa) (hb : VE X W b fb) : VE X W (.Compare a [.Lt] [b] pos) (v2 vlt fa fb) :=
  ve2 (fun p q => pe_cmpR op_lt p q (nomark _)) (r_int0 (T := fun i j => .bool (decide (i < j))) (fun d e h => by cases d <;> first | exact absurd rfl h | (cases e <;> first | exact absurd rfl h | exact ⟨_, _, rfl, rfl, rfl⟩)) fun _ _ _ => .bl _) ha hb
theorem vle_ (ha : VE X W a fa) (hb : VE X W b fb) : VE X W (.Compare a [.LtE] [b] pos) (v2 vle fa fb) :=
  ve2 (fun p q => pe_cmpR op_le p q (nomark _)) (r_int0 (T := fun i j => .bool (decide (i ≤ j))) (fun d e h => by cases d <;> first | exact absurd rfl h | (cases e <;> first | exact absurd rfl h | exact ⟨_, _, rfl, rfl, rfl⟩)) fun _ _ _ => .bl _) ha hb
theorem vgt_ (ha : VE X W a fa) (hb : VE X W b fb) : VE X W (.Compare a [.Gt] [b] pos) (v2 vgt fa fb) :=
  ve2 (fun p q => pe_cmpR op_gt p q (nomark _)) (r_int0 (T := fun i j => .bool (decide (j < i))) (fun d e h => by cases d <;> first | exact absurd rfl h | (cases e <;> first | exact absurd rfl h | exact ⟨_, _, rfl, rfl, rfl⟩)) fun _ _ _ => .bl _) ha hb
theorem vge_ (ha : VE X W a fa) (hb : VE X W b fb) : VE X W (.Compare a [.GtE] [b] pos) (v2 vge fa fb) :=
  ve2 (fun p q => pe_cmpR op_ge p q (nomark _)) (r_int0 (T := fun i j => .bool (decide (j ≤ i))) (fun d e h => by cases d <;> first | exact absurd rfl h | (cases e <;> first | exact absurd rfl h | exact ⟨_, _, rfl, rfl, rfl⟩)) fun _ _ _ => .bl _) ha hb
theorem rule_eq : Rule2 X W (rEqD X.K) veq := fun d e x y σ H B Q s sm dx dy p => by
  unfold veq vEq at p
  split at p
  · rename_i h
    exact ⟨d, e, (Is.mono s dx).dp (SeqAt.canLay_of_shaped h.1), (Is.mono s dy).dp (SeqAt.canLay_of_shaped h.2), h.1, h.2, p _ H B (.refl s) (.bl _)⟩
  · exact p.elim
theorem rule_ne : Rule2 X W (rNeD X.K) vne := fun d e x y σ H B Q s sm dx dy p => by
  unfold vne vEq at p
  split at p
  · rename_i h
    exact ⟨d, e, (Is.mono s dx).dp (SeqAt.canLay_of_shaped h.1), (Is.mono s dy).dp (SeqAt.canLay_of_shaped h.2), h.1, h.2, p _ H B (.refl s) (.bl _)⟩
  · exact p.elim
theorem veq_ (hr : Room k X.A) (ha : VE X W a fa) (hb : VE X W b fb) : VE X W (.Compare a [.Eq] [b] pos) (v2 veq fa fb) := ve2 (fun p q => pe_cmpR (op_eqD hr.units) p q (nomark _)) rule_eq ha hb
theorem vne_ (hr : Room k X.A) (ha : VE X W a fa) (hb : VE X W b fb) : VE X W (.Compare a [.NotEq] [b] pos) (v2 vne fa fb) := ve2 (fun p q => pe_cmpR (op_neD hr.units) p q (nomark _)) rule_ne ha hb
theorem hu65 (hr : Room k X.A) : X.A.units + 65 < cLine := by have := hr.un; omega
theorem vin_ (hr : Room k X.A) (ha : VE X W a fa) (hb : VE X W b fb) (hm : behindInMarks .In b = false := by with_unfolding_all rfl) : VE X W (.Compare a [.In] [b] pos) (v2 (fun d e => (vin d e).bind fun b => .ok (.bool b)) fa fb) :=
  ve2 (fun p q => pe_cmpR (op_inD (hu65 hr)) p q hm) (fun d e x y σ H B Q s sm dx dy p => by
    unfold vin at p
    cases e <;> first | exact p.elim | skip
    dsimp only at p
    split at p
    · rename_i h
      exact ⟨_, _, (Is.mono s dx).dp (SeqAt.canLay_of_shaped h.1), (Is.mono s dy).dp (SeqAt.canLay_of_shaped h.2), h.1, h.2, p _ H B (.refl s) (.bl _)⟩
    · exact p.elim) ha hb
theorem vnotin_ (hr : Room k X.A) (ha : VE X W a fa) (hb : VE X W b fb) (hm : behindInMarks .NotIn b = false := by with_unfolding_all rfl) : VE X W (.Compare a [.NotIn] [b] pos) (v2 (fun d e => (vin d e).bind fun b => .ok (.bool (!b))) fa fb) :=
  ve2 (fun p q => pe_cmpR (op_notInD (hu65 hr)) p q hm) (fun d e x y σ H B Q s sm dx dy p => by
    unfold vin at p
    cases e <;> first | exact p.elim | skip
    dsimp only at p
    split at p
    · rename_i h
      exact ⟨_, _, (Is.mono s dx).dp (SeqAt.canLay_of_shaped h.1), (Is.mono s dy).dp (SeqAt.canLay_of_shaped h.2), h.1, h.2, p _ H B (.refl s) (.bl _)⟩
    · exact p.elim) ha hb
theorem visnone_ {j pos'} (ha : VE X W a fa) : VE X W (.Compare a [.Is] [.Constant .none j pos'] pos) (v1 visnone fa) := by
  obtain ⟨ta, pa, qa⟩ := ha.ex
  refine VE.mk' (pe_cmp (pc_isN pa) rfl) fun σ H B ρ Q s rf p => ?_
  refine one qa s rf p fun d x H' B' ex sm dx pg => ?_
  unfold visnone at pg
  cases dx <;> exact pg _ H' B' ex (.bl _)
theorem vnotnone_ {j pos'} (ha : VE X W a fa) : VE X W (.Compare a [.IsNot] [.Constant .none j pos'] pos) (v1 (fun d => (visnone d).bind fun b => match b with | .bool b => .ok (.bool (!b)) | _ => .stuck) fa) := by
  obtain ⟨ta, pa, qa⟩ := ha.ex
  refine VE.mk' (pe_cmp (pc_notN pa) rfl) fun σ H B ρ Q s rf p => ?_
  refine one qa s rf p fun d x H' B' ex sm dx pg => ?_
  unfold visnone at pg
  cases dx <;> exact pg _ H' B' ex (.bl _)

/-! a + b of ints, texts, lists, tuples -/
def rCatL : R2 := fun x y H Q => ∃ l b xs zs, x = .ref l ∧ y = .ref b ∧ Rd H l (.lst xs) ∧ Rd H b (.lst zs) ∧ xs.length + zs.length ≤ sizeLine ∧ ∀ p, H p = none → Q (.ref p) (upd H p (.lst (xs ++ zs)))
theorem op_catL : OpR X (binaryOp .Add) rCatL := by
  intro pins t σ G x y vv uu Q J rX rY hh
  obtain ⟨a, b, xs, zs, rfl, rfl, hH, hB, hz, q⟩ := hh
  cases rX
  cases rY
  obtain ⟨z, us, n, r, e1⟩ : xs.length ≤ sizeLine ∧ ∃ (us : List Value) (n : Nat), Vals xs us ∧ t.heap.get? a = some { cls := .type "list", data := .seq us.toArray n } := hH.ok J.hok
  obtain ⟨z2, us2, n2, r2, e2⟩ : zs.length ≤ sizeLine ∧ ∃ (us : List Value) (n : Nat), Vals zs us ∧ t.heap.get? b = some { cls := .type "list", data := .seq us.toArray n } := hB.ok J.hok
  have hl := r.length
  have hl2 := r2.length
  refine PySem.P.add_list e1 e2 ?_ (by rw [List.size_toArray, List.size_toArray]; omega)
  have eu : us.toArray ++ us2.toArray = (us ++ us2).toArray := by simp
  rw [eu]
  exact ⟨.ref _, _, J.lnew (t' := t.toks) (r.append r2) (by rw [List.length_append]; omega), rfl, q _ J.fresh⟩
theorem vadd_ (ha : VE X W a fa) (hb : VE X W b fb) : VE X W (.BinOp a .Add b pos) (v2 vadd fa fb) := by
  refine ve2 (fun p q => pe_op (L2.OpR.or op_add (L2.OpR.or op_add_str (L2.OpR.or op_catL op_catA))) p q) (fun d e x y σ H B Q s sm dx dy p => ?_) ha hb
  cases dx with
  | int i =>
    cases dy <;> first | exact p.elim | exact .inl ⟨_, _, rfl, rfl, p _ H B (.refl s) (.int _)⟩
  | str z =>
    cases dy <;> first | exact p.elim | skip
    simp only [vadd] at p
    split at p
    · rename_i hz
      exact .inr (.inl ⟨_, _, rfl, rfl, hz, p _ H B (.refl s) (.str _)⟩)
    · exact p.elim
  | lst h1 h2 =>
    cases dy <;> first | exact p.elim | skip
    rename_i h3 h4
    simp only [vadd] at p
    split at p
    · rename_i hz
      refine .inr (.inr (.inl ⟨_, _, _, _, rfl, rfl, Rd.mono s h1, Rd.mono s h3, by rw [IsAll.len h2, IsAll.len h4]; exact hz, fun q hq => ?_⟩))
      exact p _ _ _ (Ext.new s hq) (.lst (.inl upd_same) (IsAll.append (IsAll.mono (Ext.new s hq).bb h2) (IsAll.mono (Ext.new s hq).bb h4)))
    · exact p.elim
  | tup h1 h2 =>
    cases dy <;> first | exact p.elim | skip
    rename_i ds1 a2 xs2 ds2 h3 h4
    simp only [vadd] at p
    split at p
    · rename_i hz
      have l1 := IsAll.len h2
      have l2 := IsAll.len h4
      refine .inr (.inr (.inr ⟨_, _, _, _, rfl, rfl, Same.tupl s h1, Same.tupl s h3, by rw [l1, l2]; exact hz, fun e1 => ?_, fun _ e2 => ?_, fun _ _ q hq => ?_⟩))
      · subst e1
        have : ds1 = [] := List.eq_nil_of_length_eq_zero (by rw [← l1]; rfl)
        subst this
        exact p _ H B (.refl s) (.tup h3 h4)
      · subst e2
        have : ds2 = [] := List.eq_nil_of_length_eq_zero (by rw [← l2]; rfl)
        subst this
        rw [List.append_nil] at p
        exact p _ H B (.refl s) (.tup h1 h2)
      · exact p _ _ _ (Ext.new s hq) (.tup (.inl (.inl upd_same)) (IsAll.append (IsAll.mono (Ext.new s hq).bb h2) (IsAll.mono (Ext.new s hq).bb h4)))
    · exact p.elim
  | non => cases dy <;> exact p.elim
  | bl _ => cases dy <;> exact p.elim
  | exc _ _ => cases dy <;> exact p.elim

/-! a[i] -/
theorem vidx_ (ha : VE X W a fa) (hb : VE X W b fb) (hs : PlainIx b := by exact fun _ _ => rfl) : VE X W (.Subscript a b pos) (v2 vidx fa fb) := by
  refine ve2 (fun p q => pe_ix ix_seq p q hs) (fun d e x y σ H B Q s sm dx dy p => ?_) ha hb
  cases dx with
  | lst h1 h2 =>
    cases dy <;> first | exact p.elim | skip
    simp only [vidx] at p
    split at p
    · rename_i d' he
      obtain ⟨v, e1, dp⟩ := atI_all h2 he
      exact .inl ⟨_, _, _, v, rfl, rfl, .inl (Rd.mono s h1), e1, p v H B (.refl s) dp⟩
    · exact p.elim
  | tup h1 h2 =>
    cases dy <;> first | exact p.elim | skip
    simp only [vidx] at p
    split at p
    · rename_i d' he
      obtain ⟨v, e1, dp⟩ := atI_all h2 he
      exact .inr (.inl ⟨_, _, _, v, rfl, rfl, Same.tupl s h1, e1, p v H B (.refl s) dp⟩)
    · exact p.elim
  | str z =>
    cases dy <;> first | exact p.elim | skip
    simp only [vidx] at p
    split at p
    · rename_i c' he
      split at p
      · rename_i hz
        exact .inr (.inr ⟨_, _, _, rfl, rfl, hz, he, p _ H B (.refl s) (.str _)⟩)
      · exact p.elim
    · exact p.elim
  | int _ => cases dy <;> exact p.elim
  | non => cases dy <;> exact p.elim
  | bl _ => cases dy <;> exact p.elim
  | exc _ _ => cases dy <;> exact p.elim

/-! ### argument lists, displays -/
def aNil : PEnv → R (List D) := fun _ => .ok []
def aCons (f : PEnv → R D) (g : PEnv → R (List D)) : PEnv → R (List D) := fun ρ => (f ρ).bind fun d => (g ρ).bind fun ds => .ok (d :: ds)
theorem va_nil : VA X W [] aNil := ⟨tNil, pa_nil, fun σ H B ρ Q s r p => p [] H B (.refl s) .nil⟩
theorem va_cons {e : Expr} {f : PEnv → R D} {g : PEnv → R (List D)} (h : VE X W e f) (t : VA X W es g) (hs : starEach (e :: es) X.env = (false, eval e X.env) :: starEach es X.env := by rfl) : VA X W (e :: es) (aCons f g) := by
  obtain ⟨ta, pa, qa⟩ := h.ex
  obtain ⟨tb, pb, qb⟩ := t.ex
  refine ⟨_, pa_cons pa pb hs, fun σ H B ρ Q s r p => ?_⟩
  refine qa σ H B ρ _ s r ?_
  unfold aCons at p
  generalize f ρ = rf at p ⊢
  cases rf with
  | stuck => exact p
  | err c => exact p
  | ok d =>
    intro x H1 B1 e1 sm1 d1
    refine qb σ H1 B1 ρ _ e1.bh (r.mono e1.bb) ?_
    simp only [R.bind_ok] at p
    generalize g ρ = rg at p ⊢
    cases rg with
    | stuck => exact p
    | err c => exact fun H' z => p H' (e1.hh.trans z)
    | ok ds =>
      intro xs H2 B2 e2 d2
      exact p _ _ _ (e1.trans e2) (.cons (Is.mono e2.bb d1) d2)
/-- from the state, the arguments, then something of them -/
theorem args {g : PEnv → R (List D)} {t : TA} (ht : ∀ σ H B ρ Q, Same B H → RF X.K B σ ρ → Pst X W σ H (KA1 X B H Q) (g ρ) → t σ H Q)
    {α : Type} {σ : L2.St} {H B : Hp} {ρ : PEnv} {G : List D → R α} {K : α → Prop} {Q : List V → Hp → Prop} (s : Same B H) (r : RF X.K B σ ρ)
    (p : Pst X W σ H K ((g ρ).bind G))
    (q : ∀ ds xs H' B', Ext B H B' H' → IsAll X.K B' xs ds → Pst X W σ H' K (G ds) → Q xs H') : t σ H Q := by
  refine ht σ H B ρ _ s r ?_
  generalize g ρ = rg at p ⊢
  cases rg with
  | stuck => exact p
  | err c => exact p
  | ok ds =>
    intro xs H1 B1 e1 d1
    refine q ds xs H1 B1 e1 d1 ?_
    simp only [R.bind_ok] at p
    generalize G ds = rr at p ⊢
    cases rr with
    | stuck => exact p
    | err c => exact fun H' z => p H' (e1.hh.trans z)
    | ok z => exact p
def vtup (g : PEnv → R (List D)) : PEnv → R D := fun ρ => (g ρ).bind fun ds => .ok (.tuple ds)
def vlst (g : PEnv → R (List D)) : PEnv → R D := fun ρ => (g ρ).bind fun ds => .ok (.list ds)
theorem es_len {es : List Expr} {t : TA} (hz : es.length ≤ 1000) : es.length ≤ sizeLine := Nat.le_trans hz (by decide)
/-- the number of the arguments -/
structure VAn (X : Cx) (W : WX) (n : Nat) (es : List Expr) (f : PEnv → R (List D)) : Prop where
  va : VA X W es f
  len : ∀ ρ ds, f ρ = .ok ds → ds.length = n
theorem van_nil : VAn X W 0 [] aNil := ⟨va_nil, fun ρ ds h => by cases h; rfl⟩
theorem van_cons {n : Nat} {e : Expr} {f : PEnv → R D} {g : PEnv → R (List D)} (h : VE X W e f) (t : VAn X W n es g) (hs : starEach (e :: es) X.env = (false, eval e X.env) :: starEach es X.env := by rfl) : VAn X W (n + 1) (e :: es) (aCons f g) :=
  ⟨va_cons h t.va hs, fun ρ ds q => by
    unfold aCons at q
    generalize f ρ = rf at q
    cases rf with
    | stuck => cases q
    | err c => cases q
    | ok d =>
      simp only [R.bind_ok] at q
      generalize hg : g ρ = rg at q
      cases rg with
      | stuck => cases q
      | err c => cases q
      | ok es' =>
        cases q
        rw [List.length_cons, t.len ρ es' hg]⟩
theorem vtup_ {n : Nat} {x1} {g : PEnv → R (List D)} (h : VAn X W n es g) (hz : n ≤ 1000 := by decide) : VE X W (.Tuple es x1 pos) (vtup g) := by
  obtain ⟨t, pt, qt⟩ := h.va.ex
  refine VE.mk' (pe_tup pt) fun σ H B ρ Q s r p => ?_
  cases hg : g ρ with
  | stuck => unfold vtup at p; rw [hg] at p; exact p.elim
  | err c => unfold vtup at p; rw [hg] at p; exact qt σ H B ρ _ s r (by rw [hg]; exact p)
  | ok ds =>
    unfold vtup at p
    rw [hg] at p
    refine qt σ H B ρ _ s r ?_
    rw [hg]
    intro xs H1 B1 e1 d1
    refine ⟨by rw [IsAll.len d1, h.len ρ ds hg]; exact Nat.le_trans hz (by decide), fun q hq => ?_⟩
    have E := Ext.new (o := HO.tup xs) e1.bh hq
    exact p _ _ _ (e1.trans E) (.tup (.inl (.inl upd_same)) (IsAll.mono E.bb d1))
theorem vlst_ {n : Nat} {g : PEnv → R (List D)} (h : VAn X W n es g) (hz : n ≤ 1000 := by decide) : VE X W (.List es pos) (vlst g) := by
  obtain ⟨t, pt, qt⟩ := h.va.ex
  refine VE.mk' (pe_lst pt) fun σ H B ρ Q s r p => ?_
  cases hg : g ρ with
  | stuck => unfold vlst at p; rw [hg] at p; exact p.elim
  | err c => unfold vlst at p; rw [hg] at p; exact qt σ H B ρ _ s r (by rw [hg]; exact p)
  | ok ds =>
    unfold vlst at p
    rw [hg] at p
    refine qt σ H B ρ _ s r ?_
    rw [hg]
    intro xs H1 B1 e1 d1
    refine ⟨by rw [IsAll.len d1, h.len ρ ds hg]; exact Nat.le_trans hz (by decide), fun q hq => ?_⟩
    have E := Ext.new (o := HO.lst xs) e1.bh hq
    exact p _ _ _ (e1.trans E) (.lst (.inl upd_same) (IsAll.mono E.bb d1))
end
end VL

namespace VL
open PySem PySem.Spec PyProof.Rows L2

/-! ### tests -/
def tbool : D → R Bool
  | .bool b => .ok b
  | _ => .stuck
def vtruth : D → R Bool
  | .none => .ok false
  | .bool b => .ok b
  | .int i => .ok (i != 0)
  | .str y => if y.length ≤ sizeLine then .ok ((y.length : Int) != 0) else .stuck
  | .list xs => .ok (!xs.isEmpty)
  | .tuple xs => .ok (!xs.isEmpty)
  | .dict _ => .stuck
section
variable {X : Cx} {W : WX} {a b c : Expr} {es : List Expr} {pos : Pos} {fa fb fc : PEnv → R D} {ft fu : PEnv → R Bool} {k : Nat}

/-- a test that is a comparison -/
theorem vt2 {e : Expr} {r : R2} {g : D → D → R D} (mk : ∀ {ta tb : TE}, PE X a ta → PE X b tb → PT X e (tTest (tOp r ta tb))) (hr : Rule2 X W r g) (hg : ∀ d e z, g d e = .ok z → ∃ k, z = .bool k) (ha : VE X W a fa) (hb : VE X W b fb) :
    VT X W e (fun ρ => (v2 g fa fb ρ).bind tbool) := by
  obtain ⟨ta, pa, qa⟩ := ha.ex
  obtain ⟨tb, pb, qb⟩ := hb.ex
  refine ⟨_, mk pa pb, fun σ H B ρ Q s rf p => ?_⟩
  have p' : Pst X W σ H (KB1 B H Q) ((fa ρ).bind fun d => (fb ρ).bind fun e => (g d e).bind tbool) := by
    unfold v2 at p
    generalize fa ρ = ra at p ⊢
    cases ra with
    | stuck => exact p
    | err c => exact p
    | ok d =>
      simp only [R.bind_ok] at p ⊢
      generalize fb ρ = rb at p ⊢
      cases rb <;> exact p
  refine two qa qb s rf p' fun d e x y H' B' ex sm dx dy pg => ?_
  refine hr d e x y σ H' B' _ ex.bh sm dx dy ?_
  generalize hge : g d e = rg at pg ⊢
  cases rg with
  | stuck => exact pg
  | err c => exact pg
  | ok z =>
    obtain ⟨k, rfl⟩ := hg d e z hge
    intro v H2 B2 e2 dv
    cases dv
    exact ⟨k, rfl, pg H2 B2 (ex.trans e2)⟩
theorem vlt_t (ha : VE X W a fa) (hb : VE X W b fb) : VT X W (.Compare a [.Lt] [b] pos) (fun ρ => (v2 vlt fa fb ρ).bind tbool) :=
  vt2 (fun p q => pt_cmpR op_lt p q (nomark _)) (r_int0 (T := fun i j => .bool (decide (i < j))) (fun d e h => by cases d <;> first | exact absurd rfl h | (cases e <;> first | exact absurd rfl h | exact ⟨_, _, rfl, rfl, rfl⟩)) fun _ _ _ => .bl _) (fun d e z h => by cases d <;> first | (cases h; done) | (cases e <;> first | (cases h; done) | (cases h; exact ⟨_, rfl⟩))) ha hb
theorem vle_t (ha : VE X W a fa) (hb : VE X W b fb) : VT X W (.Compare a [.LtE] [b] pos) (fun ρ => (v2 vle fa fb ρ).bind tbool) :=
  vt2 (fun p q => pt_cmpR op_le p q (nomark _)) (r_int0 (T := fun i j => .bool (decide (i ≤ j))) (fun d e h => by cases d <;> first | exact absurd rfl h | (cases e <;> first | exact absurd rfl h | exact ⟨_, _, rfl, rfl, rfl⟩)) fun _ _ _ => .bl _) (fun d e z h => by cases d <;> first | (cases h; done) | (cases e <;> first | (cases h; done) | (cases h; exact ⟨_, rfl⟩))) ha hb
theorem vgt_t (ha : VE X W a fa) (hb : VE X W b fb) : VT X W (.Compare a [.Gt] [b] pos) (fun ρ => (v2 vgt fa fb ρ).bind tbool) :=
  vt2 (fun p q => pt_cmpR op_gt p q (nomark _)) (r_int0 (T := fun i j => .bool (decide (j < i))) (fun d e h => by cases d <;> first | exact absurd rfl h | (cases e <;> first | exact absurd rfl h | exact ⟨_, _, rfl, rfl, rfl⟩)) fun _ _ _ => .bl _) (fun d e z h => by cases d <;> first | (cases h; done) | (cases e <;> first | (cases h; done) | (cases h; exact ⟨_, rfl⟩))) ha hb
theorem vge_t (ha : VE X W a fa) (hb : VE X W b fb) : VT X W (.Compare a [.GtE] [b] pos) (fun ρ => (v2 vge fa fb ρ).bind tbool) :=
  vt2 (fun p q => pt_cmpR op_ge p q (nomark _)) (r_int0 (T := fun i j => .bool (decide (j ≤ i))) (fun d e h => by cases d <;> first | exact absurd rfl h | (cases e <;> first | exact absurd rfl h | exact ⟨_, _, rfl, rfl, rfl⟩)) fun _ _ _ => .bl _) (fun d e z h => by cases d <;> first | (cases h; done) | (cases e <;> first | (cases h; done) | (cases h; exact ⟨_, rfl⟩))) ha hb
theorem veq_t (hr : Room k X.A) (ha : VE X W a fa) (hb : VE X W b fb) : VT X W (.Compare a [.Eq] [b] pos) (fun ρ => (v2 veq fa fb ρ).bind tbool) :=
  vt2 (fun p q => pt_cmpR (op_eqD hr.units) p q (nomark _)) rule_eq (fun d e z h => by
    unfold veq at h
    generalize vEq d e = r at h
    cases r <;> first | (cases h; done) | (cases h; exact ⟨_, rfl⟩)) ha hb
theorem vne_t (hr : Room k X.A) (ha : VE X W a fa) (hb : VE X W b fb) : VT X W (.Compare a [.NotEq] [b] pos) (fun ρ => (v2 vne fa fb ρ).bind tbool) :=
  vt2 (fun p q => pt_cmpR (op_neD hr.units) p q (nomark _)) rule_ne (fun d e z h => by
    unfold vne at h
    generalize vEq d e = r at h
    cases r <;> first | (cases h; done) | (cases h; exact ⟨_, rfl⟩)) ha hb
def vIn (d e : D) : R D := (vin d e).bind fun b => .ok (.bool b)
def vNotIn (d e : D) : R D := (vin d e).bind fun b => .ok (.bool (!b))
theorem rule_in : Rule2 X W (rInD X.K) vIn := fun d e x y σ H B Q s sm dx dy p => by
  unfold vIn at p
  cases e <;> first | exact p.elim | skip
  simp only [vin] at p
  split at p
  · rename_i h
    exact ⟨_, _, (Is.mono s dx).dp (SeqAt.canLay_of_shaped h.1), (Is.mono s dy).dp (SeqAt.canLay_of_shaped h.2), h.1, h.2, p _ H B (.refl s) (.bl _)⟩
  · exact p.elim
theorem rule_notin : Rule2 X W (rNotInD X.K) vNotIn := fun d e x y σ H B Q s sm dx dy p => by
  unfold vNotIn at p
  cases e <;> first | exact p.elim | skip
  simp only [vin] at p
  split at p
  · rename_i h
    exact ⟨_, _, (Is.mono s dx).dp (SeqAt.canLay_of_shaped h.1), (Is.mono s dy).dp (SeqAt.canLay_of_shaped h.2), h.1, h.2, p _ H B (.refl s) (.bl _)⟩
  · exact p.elim
theorem vin_t (hr : Room k X.A) (ha : VE X W a fa) (hb : VE X W b fb) (hm : behindInMarks .In b = false := by with_unfolding_all rfl) : VT X W (.Compare a [.In] [b] pos) (fun ρ => (v2 vIn fa fb ρ).bind tbool) :=
  vt2 (fun p q => pt_cmpR (op_inD (hu65 hr)) p q hm) rule_in (fun d e z h => by
    unfold vIn at h
    generalize vin d e = r at h
    cases r <;> first | (cases h; done) | (cases h; exact ⟨_, rfl⟩)) ha hb
theorem vnotin_t (hr : Room k X.A) (ha : VE X W a fa) (hb : VE X W b fb) (hm : behindInMarks .NotIn b = false := by with_unfolding_all rfl) : VT X W (.Compare a [.NotIn] [b] pos) (fun ρ => (v2 vNotIn fa fb ρ).bind tbool) :=
  vt2 (fun p q => pt_cmpR (op_notInD (hu65 hr)) p q hm) rule_notin (fun d e z h => by
    unfold vNotIn at h
    generalize vin d e = r at h
    cases r <;> first | (cases h; done) | (cases h; exact ⟨_, rfl⟩)) ha hb
/-- any value, by its truth -/
theorem vt_truth (h : VE X W a fa) (he : ∀ whole, isTrue a X.env whole = (do let v ← whole; standAt a.pos; holding [v] (truthy v)) := by intro _; rfl) : VT X W a (fun ρ => (fa ρ).bind vtruth) := by
  obtain ⟨ta, pa, qa⟩ := h.ex
  refine ⟨_, pt_truth pa he, fun σ H B ρ Q s rf p => ?_⟩
  refine one qa s rf p fun d x H' B' ex sm dx pg => ?_
  cases dx with
  | non => exact ⟨_, rfl, pg H' B' ex⟩
  | exc _ _ => exact pg.elim
  | bl b => exact ⟨_, rfl, pg H' B' ex⟩
  | int i => exact ⟨_, rfl, pg H' B' ex⟩
  | str y =>
    simp only [vtruth] at pg
    split at pg
    · rename_i hz
      exact ⟨_, ⟨hz, rfl⟩, pg H' B' ex⟩
    · exact pg.elim
  | lst h1 h2 => 
    refine ⟨_, .inl ⟨_, .inl (Rd.mono ex.bh h1), rfl⟩, ?_⟩
    have e : ∀ {vs : List V} {ds : List D}, IsAll X.K B' vs ds → (!vs.isEmpty) = (!ds.isEmpty) := fun h => by cases h <;> rfl
    rw [e h2]
    exact pg H' B' ex
  | tup h1 h2 =>
    refine ⟨_, .inr (.inl ⟨_, Same.tupl ex.bh h1, rfl⟩), ?_⟩
    have e : ∀ {vs : List V} {ds : List D}, IsAll X.K B' vs ds → (!vs.isEmpty) = (!ds.isEmpty) := fun h => by cases h <;> rfl
    rw [e h2]
    exact pg H' B' ex
/-- x is None, x is not None as tests -/
theorem visnone_t {j pos'} (ha : VE X W a fa) : VT X W (.Compare a [.Is] [.Constant .none j pos'] pos) (fun ρ => (v1 visnone fa ρ).bind tbool) := by
  obtain ⟨ta, pa, qa⟩ := ha.ex
  refine ⟨_, pt_cmp (pc_isN pa) rfl, fun σ H B ρ Q s rf p => ?_⟩
  have p' : Pst X W σ H (KB1 B H Q) ((fa ρ).bind fun d => (visnone d).bind tbool) := by
    unfold v1 at p
    generalize fa ρ = ra at p ⊢
    cases ra <;> exact p
  refine one qa s rf p' fun d x H' B' ex sm dx pg => ?_
  unfold visnone at pg
  cases dx <;> exact ⟨_, rfl, pg H' B' ex⟩
theorem vnotnone_t {j pos'} (ha : VE X W a fa) : VT X W (.Compare a [.IsNot] [.Constant .none j pos'] pos) (fun ρ => (v1 visnone fa ρ).bind fun d => (tbool d).bind fun b => .ok (!b)) := by
  obtain ⟨ta, pa, qa⟩ := ha.ex
  refine ⟨_, pt_cmp (pc_notN pa) rfl, fun σ H B ρ Q s rf p => ?_⟩
  have p' : Pst X W σ H (KB1 B H Q) ((fa ρ).bind fun d => (visnone d).bind fun d => (tbool d).bind fun b => .ok (!b)) := by
    unfold v1 at p
    generalize fa ρ = ra at p ⊢
    cases ra <;> exact p
  refine one qa s rf p' fun d x H' B' ex sm dx pg => ?_
  unfold visnone at pg
  cases dx <;> exact ⟨_, rfl, pg H' B' ex⟩

/-! and, or, not -/
structure VW (X : Cx) (W : WX) (e : Expr) (f : PEnv → R Bool) : Prop where
  ex : ∃ t, PW X e t ∧ ∀ σ H B ρ Q, Same B H → RF X.K B σ ρ → Pst X W σ H (KB1 B H Q) (f ρ) → t σ H Q
theorem VW.vt {e : Expr} (h : VW X W e ft) : VT X W e ft := by
  obtain ⟨t, p, q⟩ := h.ex
  exact ⟨t, p.pt, q⟩
def tand (f g : PEnv → R Bool) : PEnv → R Bool := fun ρ => (f ρ).bind fun b => if b then g ρ else .ok false
def tor (f g : PEnv → R Bool) : PEnv → R Bool := fun ρ => (f ρ).bind fun b => if b then .ok true else g ρ
def tnot (f : PEnv → R Bool) : PEnv → R Bool := fun ρ => (f ρ).bind fun b => .ok (!b)
theorem oneT {ta : TT} (ha : ∀ σ H B ρ Q, Same B H → RF X.K B σ ρ → Pst X W σ H (KB1 B H Q) (ft ρ) → ta σ H Q)
    {α : Type} {σ : L2.St} {H B : Hp} {ρ : PEnv} {g : Bool → R α} {K : α → Prop} {Q : Bool → Hp → Prop} (s : Same B H) (r : RF X.K B σ ρ)
    (p : Pst X W σ H K ((ft ρ).bind g))
    (q : ∀ b H' B', Ext B H B' H' → Pst X W σ H' K (g b) → Q b H') : ta σ H Q := by
  refine ha σ H B ρ _ s r ?_
  generalize ft ρ = ra at p ⊢
  cases ra with
  | stuck => exact p
  | err c => exact p
  | ok d =>
    intro H1 B1 e1
    refine q d H1 B1 e1 ?_
    simp only [R.bind_ok] at p
    generalize g d = rg at p ⊢
    cases rg with
    | stuck => exact p
    | err c => exact fun H' z => p H' (e1.hh.trans z)
    | ok z => exact p
theorem kb_ext {B H B1 H1 : Hp} {Q : Bool → Hp → Prop} {d : Bool} (e : Ext B H B1 H1) (p : KB1 B H Q d) : KB1 B1 H1 Q d := fun H' B' e' => p H' B' (e.trans e')
theorem kv1_ext {B H B1 H1 : Hp} {Q : VK} {d : D} (e : Ext B H B1 H1) (p : KV1 X B H Q d) : KV1 X B1 H1 Q d := fun v H' B' e' sm dp => p v H' B' (e.trans e') sm dp
theorem vw_and1 (h : VT X W a ft) : VW X W (.BoolOp .And [a] pos) ft := by
  obtain ⟨t, p, q⟩ := h.ex
  exact ⟨t, pw_and1 p, q⟩
theorem vw_or1 (h : VT X W a ft) : VW X W (.BoolOp .Or [a] pos) ft := by
  obtain ⟨t, p, q⟩ := h.ex
  exact ⟨t, pw_or1 p, q⟩
theorem vw_and (h : VT X W a ft) (g : VW X W (.BoolOp .And (b :: es) pos) fu) : VW X W (.BoolOp .And (a :: b :: es) pos) (tand ft fu) := by
  obtain ⟨t, p, q⟩ := h.ex
  obtain ⟨t2, p2, q2⟩ := g.ex
  refine ⟨_, pw_and p p2, fun σ H B ρ Q s rf pr => ?_⟩
  refine oneT q s rf pr fun d H' B' ex pg => ?_
  cases d with
  | true => exact iteT (q2 σ H' B' ρ Q ex.bh (rf.mono ex.bb) (Pst.imp (fun a k => kb_ext ex k) pg))
  | false => exact iteF (pg H' B' ex)
theorem vw_or (h : VT X W a ft) (g : VW X W (.BoolOp .Or (b :: es) pos) fu) : VW X W (.BoolOp .Or (a :: b :: es) pos) (tor ft fu) := by
  obtain ⟨t, p, q⟩ := h.ex
  obtain ⟨t2, p2, q2⟩ := g.ex
  refine ⟨_, pw_or p p2, fun σ H B ρ Q s rf pr => ?_⟩
  refine oneT q s rf pr fun d H' B' ex pg => ?_
  cases d with
  | false => exact iteF (q2 σ H' B' ρ Q ex.bh (rf.mono ex.bb) (Pst.imp (fun a k => kb_ext ex k) pg))
  | true => exact iteT (pg H' B' ex)
theorem vt_not (h : VT X W a ft) : VT X W (.UnaryOp .Not a pos) (tnot ft) := by
  obtain ⟨t, p, q⟩ := h.ex
  refine ⟨_, pt_not p, fun σ H B ρ Q s rf pr => ?_⟩
  exact oneT q s rf pr fun d H' B' ex pg => pg H' B' ex
/-- a if t else b -/
def vif (t : PEnv → R Bool) (f g : PEnv → R D) : PEnv → R D := fun ρ => (t ρ).bind fun b => if b then f ρ else g ρ
theorem vif_ (h : VT X W c ft) (ha : VE X W a fa) (hb : VE X W b fb) : VE X W (.IfExp c a b pos) (vif ft fa fb) := by
  obtain ⟨t, p, q⟩ := h.ex
  obtain ⟨ta, pa, qa⟩ := ha.ex
  obtain ⟨tb, pb, qb⟩ := hb.ex
  refine ⟨_, pe_ifExp p pa pb, fun σ H B ρ Q s rf pr => ?_⟩
  refine oneT q s rf pr fun d H' B' ex pg => ?_
  cases d with
  | true => exact iteT (qa σ H' B' ρ Q ex.bh (rf.mono ex.bb) (Pst.imp (fun a k => kv1_ext ex k) pg))
  | false => exact iteF (qb σ H' B' ρ Q ex.bh (rf.mono ex.bb) (Pst.imp (fun a k => kv1_ext ex k) pg))
/-! .. as values -/
def vand (f g : PEnv → R D) : PEnv → R D := fun ρ => (f ρ).bind fun d => (tbool d).bind fun b => if b then g ρ else .ok (.bool false)
def vor (f g : PEnv → R D) : PEnv → R D := fun ρ => (f ρ).bind fun d => (tbool d).bind fun b => if b then .ok (.bool true) else g ρ
def vnot (f : PEnv → R D) : PEnv → R D := fun ρ => (f ρ).bind fun d => (tbool d).bind fun b => .ok (.bool (!b))
theorem vone {op} (h : VE X W a fa) : VE X W (.BoolOp op [a] pos) fa := by
  obtain ⟨t, p, q⟩ := h.ex
  exact ⟨t, pe_one p, q⟩
theorem vand_ (h : VE X W a fa) (g : VE X W (.BoolOp .And (b :: es) pos) fb) : VE X W (.BoolOp .And (a :: b :: es) pos) (vand fa fb) := by
  obtain ⟨t, p, q⟩ := h.ex
  obtain ⟨t2, p2, q2⟩ := g.ex
  refine ⟨_, pe_and p p2, fun σ H B ρ Q s rf pr => ?_⟩
  refine one q s rf pr fun d x H' B' ex sm dx pg => ?_
  cases dx <;> first | exact pg.elim | skip
  rename_i b
  refine ⟨b, rfl, ?_⟩
  cases b with
  | true => exact iteT (q2 σ H' B' ρ Q ex.bh (rf.mono ex.bb) (Pst.imp (fun a k => kv1_ext ex k) pg))
  | false => exact iteF (pg _ H' B' ex sm (.bl _))
theorem vor_ (h : VE X W a fa) (g : VE X W (.BoolOp .Or (b :: es) pos) fb) : VE X W (.BoolOp .Or (a :: b :: es) pos) (vor fa fb) := by
  obtain ⟨t, p, q⟩ := h.ex
  obtain ⟨t2, p2, q2⟩ := g.ex
  refine ⟨_, pe_or p p2, fun σ H B ρ Q s rf pr => ?_⟩
  refine one q s rf pr fun d x H' B' ex sm dx pg => ?_
  cases dx <;> first | exact pg.elim | skip
  rename_i b
  refine ⟨b, rfl, ?_⟩
  cases b with
  | false => exact iteF (q2 σ H' B' ρ Q ex.bh (rf.mono ex.bb) (Pst.imp (fun a k => kv1_ext ex k) pg))
  | true => exact iteT (pg _ H' B' ex sm (.bl _))
theorem vnot_ (h : VE X W a fa) : VE X W (.UnaryOp .Not a pos) (vnot fa) := by
  obtain ⟨t, p, q⟩ := h.ex
  refine VE.mk' (pe_not p) fun σ H B ρ Q s rf pr => ?_
  refine one q s rf pr fun d x H' B' ex sm dx pg => ?_
  cases dx <;> first | exact pg.elim | exact ⟨_, rfl, pg _ H' B' ex (.bl _)⟩
/-! a op b op' c, ints -/
def vchain (g g' : D → D → R D) (fa fb fc : PEnv → R D) : PEnv → R D := fun ρ => (fa ρ).bind fun d => (fb ρ).bind fun e => (g d e).bind fun z => (tbool z).bind fun k => if k then (fc ρ).bind fun f => g' e f else .ok (.bool false)
/-- what a comparison of ints asks and gives -/
structure IntCmp (X : Cx) (op : CmpOp) (p : Int → Int → Bool) (g : D → D → R D) : Prop where
  op : OpR X (compareOp op) (rI0 fun i j => .bl (p i j))
  g : ∀ d e, g d e ≠ .stuck → ∃ i j, d = .int i ∧ e = .int j ∧ g d e = .ok (.bool (p i j))
theorem ic_lt : IntCmp X .Lt (fun i j => decide (i < j)) vlt := ⟨op_lt, fun d e h => by cases d <;> first | exact absurd rfl h | (cases e <;> first | exact absurd rfl h | exact ⟨_, _, rfl, rfl, rfl⟩)⟩
theorem ic_le : IntCmp X .LtE (fun i j => decide (i ≤ j)) vle := ⟨op_le, fun d e h => by cases d <;> first | exact absurd rfl h | (cases e <;> first | exact absurd rfl h | exact ⟨_, _, rfl, rfl, rfl⟩)⟩
theorem ic_gt : IntCmp X .Gt (fun i j => decide (j < i)) vgt := ⟨op_gt, fun d e h => by cases d <;> first | exact absurd rfl h | (cases e <;> first | exact absurd rfl h | exact ⟨_, _, rfl, rfl, rfl⟩)⟩
theorem ic_ge : IntCmp X .GtE (fun i j => decide (j ≤ i)) vge := ⟨op_ge, fun d e h => by cases d <;> first | exact absurd rfl h | (cases e <;> first | exact absurd rfl h | exact ⟨_, _, rfl, rfl, rfl⟩)⟩
theorem chain_ok {op op' : CmpOp} {p p' : Int → Int → Bool} {g g' : D → D → R D} {ta tb tc : TE} (i1 : IntCmp X op p g) (i2 : IntCmp X op' p' g') (ha : ∀ σ H B ρ Q, Same B H → RF X.K B σ ρ → Pst X W σ H (KV1 X B H Q) (fa ρ) → ta σ H Q) (hb : ∀ σ H B ρ Q, Same B H → RF X.K B σ ρ → Pst X W σ H (KV1 X B H Q) (fb ρ) → tb σ H Q)
    (hc : ∀ σ H B ρ Q, Same B H → RF X.K B σ ρ → Pst X W σ H (KV1 X B H Q) (fc ρ) → tc σ H Q) {σ : L2.St} {H B : Hp} {ρ : PEnv} {Q : VK} (s : Same B H) (rf : RF X.K B σ ρ)
    (pr : Pst X W σ H (fun d => ∀ v H' B', Ext B H B' H' → Is X.K B' v d → Q v H') (vchain g g' fa fb fc ρ)) : tChain (rI0 fun i j => .bl (p i j)) (rI0 fun i j => .bl (p' i j)) ta tb tc σ H Q := by
  unfold vchain at pr
  refine two ha hb s rf pr fun d e x y H' B' ex sm dx dy pg => ?_
  have h0 : g d e ≠ .stuck := fun z => by rw [z] at pg; exact pg
  obtain ⟨i, j, rfl, rfl, eg⟩ := i1.g d e h0
  rw [eg] at pg
  cases dx
  cases dy
  refine ⟨i, j, rfl, rfl, p i j, rfl, ?_⟩
  simp only [R.bind_ok, tbool] at pg
  cases hp : p i j with
  | false =>
    rw [hp] at pg
    exact iteF (pg _ H' B' ex (.bl _))
  | true =>
    rw [hp] at pg
    refine iteT ?_
    simp only [if_true] at pg
    refine one hc ex.bh (rf.mono ex.bb) pg fun f z H2 B2 ex2 sm2 dz pg2 => ?_
    have h1 : g' (.int j) f ≠ .stuck := fun z => by rw [z] at pg2; exact pg2
    obtain ⟨j', m, ej, rfl, eg2⟩ := i2.g _ f h1
    cases ej
    rw [eg2] at pg2
    cases dz
    exact ⟨_, m, rfl, rfl, pg2 _ H2 B2 (ex.trans ex2) (.bl _)⟩
theorem vchain_ {op op' : CmpOp} {p p' : Int → Int → Bool} {g g' : D → D → R D} (i1 : IntCmp X op p g) (i2 : IntCmp X op' p' g') (ha : VE X W a fa) (hb : VE X W b fb) (hc : VE X W c fc) (hm : lastMarks [op, op'] [b, c] = false := by with_unfolding_all rfl) :
    VE X W (.Compare a [op, op'] [b, c] pos) (vchain g g' fa fb fc) := by
  obtain ⟨ta, pa, qa⟩ := ha.ex
  obtain ⟨tb, pb, qb⟩ := hb.ex
  obtain ⟨tc, pc, qc⟩ := hc.ex
  exact VE.mk' (pe_chain i1.op i2.op pa pb pc hm) fun σ H B ρ Q s rf pr => chain_ok i1 i2 qa qb qc s rf pr
theorem vchain_t {op op' : CmpOp} {p p' : Int → Int → Bool} {g g' : D → D → R D} (i1 : IntCmp X op p g) (i2 : IntCmp X op' p' g') (ha : VE X W a fa) (hb : VE X W b fb) (hc : VE X W c fc) (hm : lastMarks [op, op'] [b, c] = false := by with_unfolding_all rfl) :
    VT X W (.Compare a [op, op'] [b, c] pos) (fun ρ => (vchain g g' fa fb fc ρ).bind tbool) := by
  obtain ⟨ta, pa, qa⟩ := ha.ex
  obtain ⟨tb, pb, qb⟩ := hb.ex
  obtain ⟨tc, pc, qc⟩ := hc.ex
  refine ⟨_, pt_chain i1.op i2.op pa pb pc hm, fun σ H B ρ Q s rf pr => ?_⟩
  refine chain_ok i1 i2 qa qb qc s rf ?_
  generalize vchain g g' fa fb fc ρ = r at pr ⊢
  cases r with
  | stuck => exact pr
  | err c => exact pr
  | ok z =>
    intro v H' B' ex dz
    simp only [R.bind_ok] at pr
    cases dz <;> first | exact pr.elim | exact ⟨_, rfl, pr H' B' ex⟩

/-! ### calls -/
/-- what a built-in's rule asks is given by g -/
def RuleC (X : Cx) (W : WX) (r : List V → Hp → VK → Prop) (g : List D → R D) : Prop := ∀ ds vs σ H B Q, Same B H → IsAll X.K B vs ds → Pst X W σ H (fun d' => ∀ v H' B', Ext B H B' H' → Is X.K B' v d' → Q v H') (g ds) → r vs H Q
def vapp (g : List D → R D) (f : PEnv → R (List D)) : PEnv → R D := fun ρ => (f ρ).bind g
theorem vcB {x : Str} {id : String} {r : List V → Hp → VK → Prop} {g : List D → R D} {f : PEnv → R (List D)} {p : Pos} {e : Expr} (hc : CallR X (.builtin id) r) (hr : RuleC X W r g) (hm : X.mg x = none) (hv : bootBuiltins x = some (.builtin id)) (ha : VA X W (e :: es) f)
    (hg : Gl X x := by rfl) (hn : x ≠ "__name__" := by decide) (hdb : (x == ("__debug__" : Str)) = false := by decide)
    (he : starEach (e :: es) X.env = (false, eval e X.env) :: starEach es X.env := by rfl) (hpl : (backTo pos (starEach es X.env)).any (·.1) = false := by rfl) : VE X W (.Call (.Name x p) (e :: es) [] pos) (vapp g f) := by
  obtain ⟨t, pt, qt⟩ := ha.ex
  refine VE.mk' (pe_callB hc hg hm hv pt hn hdb he hpl) fun σ H B ρ Q s rf pr => ?_
  exact args qt s rf pr fun ds xs H' B' ex dx pg => hr ds xs σ H' B' Q ex.bh dx (Pst.imp (fun a k => kv_ext ex k) pg)
theorem vcT {x : Str} {T : String} {r : List V → Hp → VK → Prop} {g : List D → R D} {f : PEnv → R (List D)} {p : Pos} {e : Expr} (hc : CallR X (.type T) r) (hr : RuleC X W r g) (hm : X.mg x = none) (hv : bootBuiltins x = some (.type T)) (ha : VA X W (e :: es) f)
    (hg : Gl X x := by rfl) (hn : x ≠ "__name__" := by decide) (hdb : (x == ("__debug__" : Str)) = false := by decide)
    (he : starEach (e :: es) X.env = (false, eval e X.env) :: starEach es X.env := by rfl) (hpl : (backTo pos (starEach es X.env)).any (·.1) = false := by rfl) : VE X W (.Call (.Name x p) (e :: es) [] pos) (vapp g f) := by
  obtain ⟨t, pt, qt⟩ := ha.ex
  refine VE.mk' (pe_callTy hc hg hm hv pt hn hdb he hpl) fun σ H B ρ Q s rf pr => ?_
  exact args qt s rf pr fun ds xs H' B' ex dx pg => hr ds xs σ H' B' Q ex.bh dx (Pst.imp (fun a k => kv_ext ex k) pg)
/-- what a def promises: its n arguments are data, its answer is g of them -/
def spV (K : PySem.W.Frag) (mg : Str → Option Value) (n : Nat) (g : List D → R D) : Sp := fun vs H Q E => vs.length = n ∧ ∃ ds B, Same B H ∧ IsAll K B vs ds ∧
  match g ds with
  | .stuck => False
  | .err c => ∀ H', Same H H' → ∃ C, mg c = some (.ref C) ∧ E (.ref C) none H'
  | .ok d => ∀ v H' B', Ext B H B' H' → Is K B' v d → Q v H'
theorem vcall {x : Str} {f : Addr} {fd : FuncData} {ps : List Str} {n : Nat} {g : List D → R D} {fa : PEnv → R (List D)} {p : Pos} {e : Expr} (F : FnOk X.prog X.w X.K X.mg X.base (L2.CX X.prog X.w) k f fd ps (spV X.K X.mg n g)) (hr : Room k X.A) (hm : X.mg x = some (.ref f)) (hk : PySem.W.keepIn X.K (.ref f) = true) (hb : Binds X.K fd ps [])
    (tk : Takes X W) (ha : VAn X W n (e :: es) fa) (hg : Gl X x := by rfl) (hdb : (x == ("__debug__" : Str)) = false := by decide) (he : starEach (e :: es) X.env = (false, eval e X.env) :: starEach es X.env := by rfl) (hpl : (backTo pos (starEach es X.env)).any (·.1) = false := by rfl) :
    VE X W (.Call (.Name x p) (e :: es) [] pos) (vapp g fa) := by
  obtain ⟨t, pt, qt⟩ := ha.va.ex
  refine VE.mk' (pe_callS F hr hg hm hk hb (fun σ => passAt tk σ) pt hdb he hpl) fun σ H B ρ Q s rf pr => ?_
  have hl := ha.len ρ
  unfold vapp at pr
  generalize hfa : fa ρ = rr at pr hl
  cases rr with
  | stuck => exact pr.elim
  | err c => exact qt σ H B ρ _ s rf (by rw [hfa]; exact pr)
  | ok ds =>
    refine qt σ H B ρ _ s rf ?_
    rw [hfa]
    intro xs H1 B1 e1 dx
    refine ⟨by rw [IsAll.len dx]; exact hl ds rfl, ds, B1, e1.bh, dx, ?_⟩
    simp only [R.bind_ok] at pr
    generalize g ds = rg at pr ⊢
    cases rg with
    | stuck => exact pr
    | err c => exact fun H' z => pr H' (e1.hh.trans z)
    | ok d => exact fun v H' B' e' dv => pr v H' B' (e1.trans e') dv
theorem vcall0 {x : Str} {f : Addr} {fd : FuncData} {ps : List Str} {g : List D → R D} {p : Pos} (F : FnOk X.prog X.w X.K X.mg X.base (L2.CX X.prog X.w) k f fd ps (spV X.K X.mg 0 g)) (hr : Room k X.A) (hm : X.mg x = some (.ref f)) (hk : PySem.W.keepIn X.K (.ref f) = true) (hb : Binds X.K fd ps [])
    (tk : Takes X W) (hg : Gl X x := by rfl) (hdb : (x == ("__debug__" : Str)) = false := by decide) : VE X W (.Call (.Name x p) [] [] pos) (fun _ => g []) := by
  have mk : PE X (.Call (.Name x p) [] [] pos) (tCallS (spV X.K X.mg 0 g) (WE W) tNil) := by
    refine ⟨fun pins s σ H Q J hh => wpAny_Call_Name_kw (ld_glob J hg hm ?_ hdb)⟩
    exact PySem.W.callWith_K0 J.kIn hk (run_fnS (us := []) (E := WE W) F hr hb (passAt tk σ) J .nil hh)
  refine VE.mk' mk fun σ H B ρ Q s rf pr => ?_
  refine ⟨rfl, [], B, s, .nil, ?_⟩
  generalize g [] = rg at pr ⊢
  cases rg <;> exact pr
end
end VL

namespace VL
open PySem PySem.Spec PyProof.Rows L2

/-! ### built-ins on data -/
def vlen : List D → R D
  | [.list xs] => .ok (.int xs.length)
  | [.tuple xs] => .ok (.int xs.length)
  | [.str z] => if z.length ≤ sizeLine then .ok (.int z.length) else .stuck
  | _ => .stuck
def vint1 : List D → R D
  | [.int i] => .ok (.int i)
  | [.bool k] => .ok (.int (if k then 1 else 0))
  | _ => .stuck
def vabs : List D → R D
  | [.int i] => .ok (.int (if i < 0 then -i else i))
  | _ => .stuck
def vtuple1 : List D → R D
  | [.list xs] => .ok (.tuple xs)
  | [.tuple xs] => .ok (.tuple xs)
  | _ => .stuck
def vlist1 : List D → R D
  | [.list xs] => .ok (.list xs)
  | [.tuple xs] => .ok (.list xs)
  | _ => .stuck
/-- the ints of a list of data -/
def intsOf : List D → Option (List Int)
  | [] => some []
  | .int i :: r => (intsOf r).map (i :: ·)
  | _ :: _ => none
def boolsOf : List D → Option (List Bool)
  | [] => some []
  | .bool i :: r => (boolsOf r).map (i :: ·)
  | _ :: _ => none
def vsum : List D → R D
  | [.list xs] => match intsOf xs with | some ns => .ok (.int ns.sum) | none => .stuck
  | _ => .stuck
def vmax1 (ns : List Int) : R D := match ns.max? with | some m => .ok (.int m) | none => .stuck
def vmin1 (ns : List Int) : R D := match ns.min? with | some m => .ok (.int m) | none => .stuck
def vmax : List D → R D
  | [.list xs] => match intsOf xs with | some ns => vmax1 ns | none => .stuck
  | [.int i, .int j] => .ok (.int (if j > i then j else i))
  | _ => .stuck
def vmin : List D → R D
  | [.list xs] => match intsOf xs with | some ns => vmin1 ns | none => .stuck
  | [.int i, .int j] => .ok (.int (if j < i then j else i))
  | _ => .stuck
def vall : List D → R D
  | [.list xs] => match boolsOf xs with | some bs => .ok (.bool (bs.all id)) | none => .stuck
  | _ => .stuck
def vany : List D → R D
  | [.list xs] => match boolsOf xs with | some bs => .ok (.bool (bs.any id)) | none => .stuck
  | _ => .stuck
theorem intsOf_some : ∀ {ds : List D} {ns : List Int}, intsOf ds = some ns → ds = ns.map PyData.int
  | [], ns, h => by cases h; rfl
  | .int i :: r, ns, h => by
    simp only [intsOf] at h
    cases q : intsOf r with
    | none => rw [q] at h; cases h
    | some ms =>
      rw [q] at h
      cases h
      rw [List.map_cons, intsOf_some q]
  | .none :: _, _, h => by cases h
  | .bool _ :: _, _, h => by cases h
  | .str _ :: _, _, h => by cases h
  | .list _ :: _, _, h => by cases h
  | .tuple _ :: _, _, h => by cases h
  | .dict _ :: _, _, h => by cases h
theorem boolsOf_some : ∀ {ds : List D} {ns : List Bool}, boolsOf ds = some ns → ds = ns.map PyData.bool
  | [], ns, h => by cases h; rfl
  | .bool i :: r, ns, h => by
    simp only [boolsOf] at h
    cases q : boolsOf r with
    | none => rw [q] at h; cases h
    | some ms =>
      rw [q] at h
      cases h
      rw [List.map_cons, boolsOf_some q]
  | .none :: _, _, h => by cases h
  | .int _ :: _, _, h => by cases h
  | .str _ :: _, _, h => by cases h
  | .list _ :: _, _, h => by cases h
  | .tuple _ :: _, _, h => by cases h
  | .dict _ :: _, _, h => by cases h
theorem intsOf_map (ns : List Int) : intsOf (ns.map PyData.int) = some ns := by
  induction ns with
  | nil => rfl
  | cons n r ih => rw [List.map_cons]; simp only [intsOf, ih]; rfl
theorem boolsOf_map (ns : List Bool) : boolsOf (ns.map PyData.bool) = some ns := by
  induction ns with
  | nil => rfl
  | cons n r ih => rw [List.map_cons]; simp only [boolsOf, ih]; rfl
theorem is_ints {K : PySem.W.Frag} {F : Hp} : ∀ {ns : List Int} {vs : List V}, IsAll K F vs (ns.map PyData.int) → vs = ns.map V.int
  | [], _, h => by cases h; rfl
  | n :: r, _, h => by
    rw [List.map_cons] at h
    cases h with
    | cons h1 h2 => cases h1; rw [is_ints h2, List.map_cons]
theorem is_bools {K : PySem.W.Frag} {F : Hp} : ∀ {ns : List Bool} {vs : List V}, IsAll K F vs (ns.map PyData.bool) → vs = ns.map V.bl
  | [], _, h => by cases h; rfl
  | n :: r, _, h => by
    rw [List.map_cons] at h
    cases h with
    | cons h1 h2 => cases h1; rw [is_bools h2, List.map_cons]
theorem CallR.or {X : Cx} {f : Value} {r r' : List V → Hp → VK → Prop} (h : CallR X f r) (h' : CallR X f r') : CallR X f (fun xs H Q => r xs H Q ∨ r' xs H Q) := L2.CallR.or h h'

section
variable {X : Cx} {W : WX} {a b c : Expr} {es : List Expr} {pos : Pos} {fa fb fc : PEnv → R D} {ft fu : PEnv → R Bool} {k : Nat}

theorem rc_len : RuleC X W (fun xs H Q => (∃ p ys, xs = [.ref p] ∧ (SqL X.K H p ys ∨ SqT X.K H p ys) ∧ Q (.int ys.length) H) ∨ ∃ z, xs = [.str z] ∧ z.length ≤ sizeLine ∧ Q (.int z.length) H) vlen := fun ds vs σ H B Q s dx p => by
  cases dx with
  | nil => exact p.elim
  | cons h1 h2 =>
    cases h2 with
    | cons _ _ => cases h1 <;> exact p.elim
    | nil =>
      cases h1 <;> first | exact p.elim | skip
      · simp only [vlen] at p
        split at p
        · rename_i hz
          exact .inr ⟨_, rfl, hz, p _ H B (.refl s) (.int _)⟩
        · exact p.elim
      · rename_i h3 h4
        refine .inl ⟨_, _, rfl, .inl (.inl (Rd.mono s h3)), ?_⟩
        rw [IsAll.len h4]
        exact p _ H B (.refl s) (.int _)
      · rename_i h3 h4
        refine .inl ⟨_, _, rfl, .inr (Same.tupl s h3), ?_⟩
        rw [IsAll.len h4]
        exact p _ H B (.refl s) (.int _)
theorem vlen_ {f : PEnv → R (List D)} {p : Pos} {e : Expr} (hm : X.mg "len" = none) (ha : VA X W [e] f) (hg : Gl X "len" := by rfl) (he : starEach [e] X.env = (false, eval e X.env) :: starEach [] X.env := by rfl) (hpl : (backTo pos (starEach [] X.env)).any (·.1) = false := by rfl) :
    VE X W (.Call (.Name "len" p) [e] [] pos) (vapp vlen f) := vcB (L2.CallR.or call_len_seq call_len_str) rc_len hm boot_len ha hg (by decide) (by decide) he hpl
theorem rc_int : RuleC X W (fun xs H Q => (∃ i, xs = [.int i] ∧ Q (.int i) H) ∨ ∃ k, xs = [.bl k] ∧ Q (.int (if k then 1 else 0)) H) vint1 := fun ds vs σ H B Q s dx p => by
  cases dx with
  | nil => exact p.elim
  | cons h1 h2 =>
    cases h2 with
    | cons _ _ => cases h1 <;> exact p.elim
    | nil =>
      cases h1 <;> first | exact p.elim | skip
      · exact .inr ⟨_, rfl, p _ H B (.refl s) (.int _)⟩
      · exact .inl ⟨_, rfl, p _ H B (.refl s) (.int _)⟩
theorem vint_ {f : PEnv → R (List D)} {p : Pos} {e : Expr} (hm : X.mg "int" = none) (ha : VA X W [e] f) (hg : Gl X "int" := by rfl) (he : starEach [e] X.env = (false, eval e X.env) :: starEach [] X.env := by rfl) (hpl : (backTo pos (starEach [] X.env)).any (·.1) = false := by rfl) :
    VE X W (.Call (.Name "int" p) [e] [] pos) (vapp vint1 f) := vcT call_int1 rc_int hm boot_int ha hg (by decide) (by decide) he hpl
theorem rc_abs : RuleC X W (fun xs H Q => ∃ i, xs = [.int i] ∧ Q (.int (if i < 0 then -i else i)) H) vabs := fun ds vs σ H B Q s dx p => by
  cases dx with
  | nil => exact p.elim
  | cons h1 h2 =>
    cases h2 with
    | cons _ _ => cases h1 <;> exact p.elim
    | nil =>
      cases h1 <;> first | exact p.elim | exact ⟨_, rfl, p _ H B (.refl s) (.int _)⟩
theorem vabs_ {f : PEnv → R (List D)} {p : Pos} {e : Expr} (hm : X.mg "abs" = none) (ha : VA X W [e] f) (hg : Gl X "abs" := by rfl) (he : starEach [e] X.env = (false, eval e X.env) :: starEach [] X.env := by rfl) (hpl : (backTo pos (starEach [] X.env)).any (·.1) = false := by rfl) :
    VE X W (.Call (.Name "abs" p) [e] [] pos) (vapp vabs f) := vcB call_abs rc_abs hm (by decide +kernel) ha hg (by decide) (by decide) he hpl
def rTup1 (K : PySem.W.Frag) : List V → Hp → VK → Prop := fun xs H Q => ∃ p ys, xs = [.ref p] ∧ ((SqL K H p ys ∧ ∀ l, H l = none → Q (.ref l) (upd H l (.tup ys))) ∨ (SqT K H p ys ∧ Q (.ref p) H))
theorem rc_tuple : RuleC X W (rTup1 X.K) vtuple1 := fun ds vs σ H B Q s dx p => by
  cases dx with
  | nil => exact p.elim
  | cons h1 h2 =>
    cases h2 with
    | cons _ _ => cases h1 <;> exact p.elim
    | nil =>
      cases h1 <;> first | exact p.elim | skip
      · rename_i h3 h4
        exact ⟨_, _, rfl, .inl ⟨.inl (Rd.mono s h3), fun l hl => p _ _ _ (Ext.new s hl) (.tup (.inl (.inl upd_same)) (IsAll.mono (Ext.new s hl).bb h4))⟩⟩
      · rename_i h3 h4
        exact ⟨_, _, rfl, .inr ⟨Same.tupl s h3, p _ H B (.refl s) (.tup h3 h4)⟩⟩
theorem vtuple_ {f : PEnv → R (List D)} {p : Pos} {e : Expr} (hm : X.mg "tuple" = none) (ha : VA X W [e] f) (hg : Gl X "tuple" := by rfl) (he : starEach [e] X.env = (false, eval e X.env) :: starEach [] X.env := by rfl) (hpl : (backTo pos (starEach [] X.env)).any (·.1) = false := by rfl) :
    VE X W (.Call (.Name "tuple" p) [e] [] pos) (vapp vtuple1 f) := vcT call_tuple_of rc_tuple hm (by decide +kernel) ha hg (by decide) (by decide) he hpl
def rList1 (K : PySem.W.Frag) : List V → Hp → VK → Prop := fun xs H Q => ∃ p ys, xs = [.ref p] ∧ (SqL K H p ys ∨ SqT K H p ys) ∧ ∀ l, H l = none → Q (.ref l) (upd H l (.lst ys))
theorem rc_list : RuleC X W (rList1 X.K) vlist1 := fun ds vs σ H B Q s dx p => by
  cases dx with
  | nil => exact p.elim
  | cons h1 h2 =>
    cases h2 with
    | cons _ _ => cases h1 <;> exact p.elim
    | nil =>
      cases h1 <;> first | exact p.elim | skip
      · rename_i h3 h4
        exact ⟨_, _, rfl, .inl (.inl (Rd.mono s h3)), fun l hl => p _ _ _ (Ext.new s hl) (.lst (.inl upd_same) (IsAll.mono (Ext.new s hl).bb h4))⟩
      · rename_i h3 h4
        exact ⟨_, _, rfl, .inr (Same.tupl s h3), fun l hl => p _ _ _ (Ext.new s hl) (.lst (.inl upd_same) (IsAll.mono (Ext.new s hl).bb h4))⟩
theorem vlist_ {f : PEnv → R (List D)} {p : Pos} {e : Expr} (hm : X.mg "list" = none) (ha : VA X W [e] f) (hg : Gl X "list" := by rfl) (he : starEach [e] X.env = (false, eval e X.env) :: starEach [] X.env := by rfl) (hpl : (backTo pos (starEach [] X.env)).any (·.1) = false := by rfl) :
    VE X W (.Call (.Name "list" p) [e] [] pos) (vapp vlist1 f) := vcT call_list_of rc_list hm (by decide +kernel) ha hg (by decide) (by decide) he hpl
/-- one list of ints -/
theorem one_list {r : List V → Hp → VK → Prop} {g : List D → R D} {h : List Int → R D} (hg : ∀ ds, g ds ≠ .stuck → ∃ xs ns, ds = [.list xs] ∧ intsOf xs = some ns ∧ g ds = h ns)
    (hr : ∀ a ns σ H B Q, Same B H → SqL X.K H a (ns.map V.int) → Pst X W σ H (fun d' => ∀ v H' B', Ext B H B' H' → Is X.K B' v d' → Q v H') (h ns) → r [.ref a] H Q) : RuleC X W r g := fun ds vs σ H B Q s dx p => by
  have h0 : g ds ≠ .stuck := fun z => by rw [z] at p; exact p
  obtain ⟨xs, ns, rfl, hi, eg⟩ := hg ds h0
  rw [eg] at p
  cases dx with
  | cons h1 h2 =>
    cases h2
    cases h1 with
    | lst h3 h4 =>
      rw [intsOf_some hi] at h4
      have e := is_ints h4
      subst e
      exact hr _ ns σ H B Q s (.inl (Rd.mono s h3)) p
theorem list_case {g : List D → R D} {h : List Int → R D} {g' : List D → R D} (e1 : ∀ xs, g [.list xs] = match intsOf xs with | some ns => h ns | none => .stuck) (ds : List D) (h0 : g ds ≠ .stuck) (hd : ∃ xs, ds = [.list xs]) : ∃ xs ns, ds = [.list xs] ∧ intsOf xs = some ns ∧ g ds = h ns := by
  obtain ⟨xs, rfl⟩ := hd
  rw [e1] at h0 ⊢
  cases q : intsOf xs with
  | none => rw [q] at h0; exact absurd rfl h0
  | some ns => exact ⟨xs, ns, rfl, q, rfl⟩
theorem rc_sum : RuleC X W (rSum X.K) vsum := one_list (h := fun ns => .ok (.int ns.sum)) (fun ds h0 => list_case (g' := vsum) (fun xs => rfl) ds h0 (by
    cases ds with
    | nil => exact absurd rfl h0
    | cons d r => cases r with
      | nil => cases d <;> first | exact absurd rfl h0 | exact ⟨_, rfl⟩
      | cons _ _ => cases d <;> exact absurd rfl h0))
  fun a ns σ H B Q s h p => ⟨a, ns, rfl, h, p _ H B (.refl s) (.int _)⟩
theorem vsum_ {f : PEnv → R (List D)} {p : Pos} {e : Expr} (hc : X.calm = true) (hm : X.mg "sum" = none) (ha : VA X W [e] f) (hg : Gl X "sum" := by rfl) (he : starEach [e] X.env = (false, eval e X.env) :: starEach [] X.env := by rfl) (hpl : (backTo pos (starEach [] X.env)).any (·.1) = false := by rfl) :
    VE X W (.Call (.Name "sum" p) [e] [] pos) (vapp vsum f) := vcB (cr_sum hc) rc_sum hm (by decide +kernel) ha hg (by decide) (by decide) he hpl
theorem max_eq {ns : List Int} {m : Int} (h : m ∈ ns) (hl : ∀ y, y ∈ ns → y ≤ m) : ns.max? = some m := (List.max?_eq_some_iff).mpr ⟨h, hl⟩
theorem min_eq {ns : List Int} {m : Int} (h : m ∈ ns) (hl : ∀ y, y ∈ ns → m ≤ y) : ns.min? = some m := (List.min?_eq_some_iff).mpr ⟨h, hl⟩
theorem rc_max : RuleC X W (fun xs H Q => rMax X.K xs H Q ∨ ∃ i j, xs = [.int i, .int j] ∧ Q (.int (if j > i then j else i)) H) vmax := fun ds vs σ H B Q s dx p => by
  cases dx with
  | nil => exact p.elim
  | cons h1 h2 =>
    cases h2 with
    | cons h3 h4 =>
      cases h4 with
      | nil => cases h1 <;> first | exact p.elim | (cases h3 <;> first | exact p.elim | exact .inr ⟨_, _, rfl, p _ H B (.refl s) (.int _)⟩)
      | cons _ _ => cases h1 <;> first | exact p.elim | (cases h3 <;> exact p.elim)
    | nil =>
      cases h1 <;> first | exact p.elim | skip
      rename_i h3 h4
      simp only [vmax] at p
      split at p
      · rename_i ns hi
        rw [intsOf_some hi] at h4
        have e := is_ints h4
        subst e
        refine .inl ⟨_, ns, rfl, .inl (Rd.mono s h3), ?_, fun m hm hl => ?_⟩
        · cases ns with
          | nil => exact p.elim
          | cons _ _ => simp
        · unfold vmax1 at p
          rw [max_eq hm hl] at p
          exact p _ H B (.refl s) (.int _)
      · exact p.elim
theorem rc_min : RuleC X W (fun xs H Q => rMin X.K xs H Q ∨ ∃ i j, xs = [.int i, .int j] ∧ Q (.int (if j < i then j else i)) H) vmin := fun ds vs σ H B Q s dx p => by
  cases dx with
  | nil => exact p.elim
  | cons h1 h2 =>
    cases h2 with
    | cons h3 h4 =>
      cases h4 with
      | nil => cases h1 <;> first | exact p.elim | (cases h3 <;> first | exact p.elim | exact .inr ⟨_, _, rfl, p _ H B (.refl s) (.int _)⟩)
      | cons _ _ => cases h1 <;> first | exact p.elim | (cases h3 <;> exact p.elim)
    | nil =>
      cases h1 <;> first | exact p.elim | skip
      rename_i h3 h4
      simp only [vmin] at p
      split at p
      · rename_i ns hi
        rw [intsOf_some hi] at h4
        have e := is_ints h4
        subst e
        refine .inl ⟨_, ns, rfl, .inl (Rd.mono s h3), ?_, fun m hm hl => ?_⟩
        · cases ns with
          | nil => exact p.elim
          | cons _ _ => simp
        · unfold vmin1 at p
          rw [min_eq hm hl] at p
          exact p _ H B (.refl s) (.int _)
      · exact p.elim
theorem vmax_ {f : PEnv → R (List D)} {p : Pos} {e : Expr} (hc : X.calm = true) (hm : X.mg "max" = none) (ha : VA X W (e :: es) f) (hg : Gl X "max" := by rfl) (he : starEach (e :: es) X.env = (false, eval e X.env) :: starEach es X.env := by rfl) (hpl : (backTo pos (starEach es X.env)).any (·.1) = false := by rfl) :
    VE X W (.Call (.Name "max" p) (e :: es) [] pos) (vapp vmax f) := vcB (L2.CallR.or (cr_max hc) (call_max2 hc)) rc_max hm (by decide +kernel) ha hg (by decide) (by decide) he hpl
theorem vmin_ {f : PEnv → R (List D)} {p : Pos} {e : Expr} (hc : X.calm = true) (hm : X.mg "min" = none) (ha : VA X W (e :: es) f) (hg : Gl X "min" := by rfl) (he : starEach (e :: es) X.env = (false, eval e X.env) :: starEach es X.env := by rfl) (hpl : (backTo pos (starEach es X.env)).any (·.1) = false := by rfl) :
    VE X W (.Call (.Name "min" p) (e :: es) [] pos) (vapp vmin f) := vcB (L2.CallR.or (cr_min hc) (call_min2 hc)) rc_min hm (by decide +kernel) ha hg (by decide) (by decide) he hpl
theorem rc_all : RuleC X W (rAll X.K) vall := fun ds vs σ H B Q s dx p => by
  cases dx with
  | nil => exact p.elim
  | cons h1 h2 =>
    cases h2 with
    | cons _ _ => cases h1 <;> exact p.elim
    | nil =>
      cases h1 <;> first | exact p.elim | skip
      rename_i h3 h4
      simp only [vall] at p
      split at p
      · rename_i ns hi
        rw [boolsOf_some hi] at h4
        have e := is_bools h4
        subst e
        exact ⟨_, ns, rfl, .inl (Rd.mono s h3), p _ H B (.refl s) (.bl _)⟩
      · exact p.elim
theorem rc_any : RuleC X W (rAny X.K) vany := fun ds vs σ H B Q s dx p => by
  cases dx with
  | nil => exact p.elim
  | cons h1 h2 =>
    cases h2 with
    | cons _ _ => cases h1 <;> exact p.elim
    | nil =>
      cases h1 <;> first | exact p.elim | skip
      rename_i h3 h4
      simp only [vany] at p
      split at p
      · rename_i ns hi
        rw [boolsOf_some hi] at h4
        have e := is_bools h4
        subst e
        exact ⟨_, ns, rfl, .inl (Rd.mono s h3), p _ H B (.refl s) (.bl _)⟩
      · exact p.elim
theorem vall_ {f : PEnv → R (List D)} {p : Pos} {e : Expr} (hc : X.calm = true) (hm : X.mg "all" = none) (ha : VA X W [e] f) (hg : Gl X "all" := by rfl) (he : starEach [e] X.env = (false, eval e X.env) :: starEach [] X.env := by rfl) (hpl : (backTo pos (starEach [] X.env)).any (·.1) = false := by rfl) :
    VE X W (.Call (.Name "all" p) [e] [] pos) (vapp vall f) := vcB (cr_all hc) rc_all hm (by decide +kernel) ha hg (by decide) (by decide) he hpl
theorem vany_ {f : PEnv → R (List D)} {p : Pos} {e : Expr} (hc : X.calm = true) (hm : X.mg "any" = none) (ha : VA X W [e] f) (hg : Gl X "any" := by rfl) (he : starEach [e] X.env = (false, eval e X.env) :: starEach [] X.env := by rfl) (hpl : (backTo pos (starEach [] X.env)).any (·.1) = false := by rfl) :
    VE X W (.Call (.Name "any" p) [e] [] pos) (vapp vany f) := vcB (cr_any hc) rc_any hm (by decide +kernel) ha hg (by decide) (by decide) he hpl

/-! isinstance of a built-in type -/
def tyName : D → String
  | .none => "NoneType"
  | .bool _ => "bool"
  | .int _ => "int"
  | .str _ => "str"
  | .list _ => "list"
  | .tuple _ => "tuple"
  | .dict _ => "dict"
def isiT (T : String) (n : String) : Bool := n == T || (n == "bool" && T == "int")
def visi (T : String) : D → R D
  | .dict _ => .stuck
  | d => .ok (.bool (isiT T (tyName d)))
/-- the type T is asked about -/
structure TyOk (T : String) : Prop where
  k : ∀ n ∈ ["NoneType", "bool", "int", "str", "list", "tuple"], kitB n T = some (isiT T n)
theorem ty_int : TyOk "int" := ⟨by decide +kernel⟩
theorem ty_bool : TyOk "bool" := ⟨by decide +kernel⟩
theorem ty_str : TyOk "str" := ⟨by decide +kernel⟩
theorem ty_list : TyOk "list" := ⟨by decide +kernel⟩
theorem ty_tuple : TyOk "tuple" := ⟨by decide +kernel⟩
theorem is_ty {K : PySem.W.Frag} {B H : Hp} (s : Same B H) {d : D} {v : V} (nd : ∀ k, d ≠ .dict k) (h : Is K B v d) : TyX K H v (.type (tyName d)) := by
  cases h with
  | non => exact .base .non
  | bl b => exact .base (.bl b)
  | int i => exact .base (.int i)
  | str z => exact .base (.str z)
  | lst h1 h2 =>
    rcases h1 with h | ⟨o, h⟩
    · exact .base (.lst (s _ _ h))
    · exact .base (.frz (s _ _ h))
  | exc _ _ => exact absurd rfl (nd _)
  | tup h1 h2 =>
    rcases h1 with (h | ⟨o, h⟩) | ⟨o, its, n, h, c, _⟩
    · exact .base (.tup (s _ _ h))
    · exact .fTuple (s _ _ h)
    · exact .kTuple h c
theorem visi_ {T : String} {p p2 : Pos} (hT : TyOk T) (hm : X.mg "isinstance" = none) {x : Str} (hx : X.mg x = none) (hv : bootBuiltins x = some (.type T)) (ha : VE X W a fa)
    (hg : Gl X "isinstance" := by rfl) (hgx : Gl X x := by rfl) (hn : x ≠ "__name__" := by decide) (hdb : (x == ("__debug__" : Str)) = false := by decide)
    (he : starEach [a, .Name x p2] X.env = (false, eval a X.env) :: starEach [.Name x p2] X.env := by rfl) (he2 : starEach [.Name x p2] X.env = (false, eval (.Name x p2) X.env) :: starEach [] X.env := by rfl) (hpl : (backTo pos (starEach [.Name x p2] X.env)).any (·.1) = false := by rfl) :
    VE X W (.Call (.Name "isinstance" p) [a, .Name x p2] [] pos) (v1 (visi T) fa) := by
  obtain ⟨ta, pa, qa⟩ := ha.ex
  have p2' : PE X (.Name x p2) (tC (.ty T)) := pe_bltn hgx hx hv rfl hn hdb
  refine VE.mk' (pe_callB call_isi hg hm (by decide +kernel) (pa_cons pa (pa_cons p2' pa_nil he2) he) (by decide) (by decide) he hpl) fun σ H B ρ Q s rf p => ?_
  refine one qa s rf p fun d v H' B' ex sm dx pg => ?_
  have nd : ∀ k, d ≠ .dict k := fun k e => by subst e; exact pg.elim
  have ev : visi T d = .ok (.bool (isiT T (tyName d))) := by
    cases d <;> first | rfl | exact absurd rfl (nd _)
  rw [ev] at pg
  refine ⟨v, .ty T, .type (tyName d), .type T, isiT T (tyName d), rfl, .ty T, is_ty ex.bh nd dx, kit_ty (hT.k _ ?_), pg _ H' B' ex (.bl _)⟩
  cases dx <;> first | exact absurd rfl (nd _) | simp [tyName]

/-! slices -/
def cutL (xs : List D) (lo hi : Option Int) : List D := (xs.drop (HT.sIx xs.length 0 lo)).take (HT.sIx xs.length xs.length hi - HT.sIx xs.length 0 lo)
theorem IsAll.cut {K : PySem.W.Frag} {F : Hp} {vs : List V} {ds : List D} (h : IsAll K F vs ds) (lo hi : Option Int) : IsAll K F (cutV vs lo hi) (cutL ds lo hi) := by
  unfold cutV cutL
  rw [IsAll.len h]
  exact IsAll.take _ (IsAll.drop _ h)
def vcut (lo hi : Option Int) : D → R D
  | .list xs => .ok (.list (cutL xs lo hi))
  | .tuple xs => .ok (.tuple (cutL xs lo hi))
  | _ => .stuck
structure VO1 (X : Cx) (W : WX) (e : Option Expr) (f : PEnv → R (Option Int)) : Prop where
  ex : ∃ t, PO X e t ∧ ∀ σ H B ρ Q, Same B H → RF X.K B σ ρ → Pst X W σ H (fun i => ∀ H' B', Ext B H B' H' → Q i H') (f ρ) → t σ H Q
def oInt : D → R (Option Int)
  | .int i => .ok (some i)
  | _ => .stuck
theorem vo_none : VO1 X W none (fun _ => .ok none) := ⟨_, po_none, fun σ H B ρ Q s rf p => p H B (.refl s)⟩
theorem vo_some (h : VE X W a fa) : VO1 X W (some a) (fun ρ => (fa ρ).bind oInt) := by
  obtain ⟨t, p, q⟩ := h.ex
  refine ⟨_, po_some p, fun σ H B ρ Q s rf pr => ?_⟩
  refine one q s rf pr fun d x H' B' ex sm dx pg => ?_
  cases dx <;> first | exact pg.elim | exact ⟨_, rfl, pg H' B' ex⟩
def vslice (f : PEnv → R D) (l u : PEnv → R (Option Int)) : PEnv → R D := fun ρ => (f ρ).bind fun d => (l ρ).bind fun lo => (u ρ).bind fun hi => vcut lo hi d
theorem whole_cut (xs : List D) (lo hi : Option Int) (h : HT.sIx xs.length 0 lo = 0 ∧ HT.sIx xs.length xs.length hi = xs.length) : cutL xs lo hi = xs := by
  unfold cutL
  rw [h.1, h.2]
  simp
theorem vslice_ {lo hi : Option Expr} {p2 : Pos} {fl fu : PEnv → R (Option Int)} (ha : VE X W a fa) (hl : VO1 X W lo fl) (hu : VO1 X W hi fu) : VE X W (.Subscript a (.Slice lo hi none p2) pos) (vslice fa fl fu) := by
  obtain ⟨ta, pa, qa⟩ := ha.ex
  obtain ⟨tl, pl, ql⟩ := hl.ex
  obtain ⟨tu, pu, qu⟩ := hu.ex
  refine VE.mk' (pe_slice (SlR.or sl_list sl_tupA) pa pl pu) fun σ H B ρ Q s rf p => ?_
  unfold vslice at p
  refine one qa s rf p fun d x H1 B1 e1 sm dx p1 => ?_
  refine ql σ H1 B1 ρ _ e1.bh (rf.mono e1.bb) ?_
  generalize fl ρ = rl at p1 ⊢
  cases rl with
  | stuck => exact p1
  | err c => exact p1
  | ok lo' =>
    intro H2 B2 e2
    refine qu σ H2 B2 ρ _ e2.bh (rf.mono (e1.trans e2).bb) ?_
    simp only [R.bind_ok] at p1
    generalize fu ρ = ru at p1 ⊢
    cases ru with
    | stuck => exact p1
    | err c => exact fun H' z => p1 H' (e2.hh.trans z)
    | ok hi' =>
      intro H3 B3 e3
      simp only [R.bind_ok] at p1
      have E := (e1.trans e2).trans e3
      have dx3 := Is.mono (e2.trans e3).bb dx
      cases dx3 <;> first | exact p1.elim | skip
      · rename_i h1 h2
        refine .inl ⟨_, _, rfl, .inl (Rd.mono e3.bh h1), fun q hq => ?_⟩
        exact p1 _ _ _ (E.trans (Ext.new e3.bh hq)) (.lst (.inl upd_same) (IsAll.cut (IsAll.mono (Ext.new e3.bh hq).bb h2) _ _))
      · rename_i h1 h2
        refine .inr ⟨_, _, rfl, Same.tupl e3.bh h1, fun hw => ?_, fun _ q hq => ?_⟩
        · rw [IsAll.len h2] at hw
          rw [show vcut lo' hi' (.tuple _) = .ok (.tuple (cutL _ lo' hi')) from rfl, whole_cut _ _ _ hw] at p1
          exact p1 _ H3 B3 E (.tup h1 h2)
        · exact p1 _ _ _ (E.trans (Ext.new e3.bh hq)) (.tup (.inl (.inl upd_same)) (IsAll.cut (IsAll.mono (Ext.new e3.bh hq).bb h2) _ _))
end
end VL

namespace VL
open PySem PySem.Spec PyProof.Rows L2

/-! ### what is walked -/
structure Walks (K : PySem.W.Frag) (J : It) (ds : List D) (B : Hp) : Prop where
  go : ∀ i H, Same B H → i < ds.length → J.go i H
  yld : ∀ i H x H' B1, Same B B1 → Same B1 H → i < ds.length → J.yld i H x H' → ∃ d B2, ds[i]? = some d ∧ Ext B1 H B2 H' ∧ Is K B2 x d
  stop : ∀ H, Same B H → J.stop ds.length H
  small : ds.length ≤ sizeLine
def KI1 (X : Cx) (B H : Hp) (Rr : It → Hp → Prop) (ds : List D) : Prop := ∀ J H' B', Ext B H B' H' → Walks X.K J ds B' → Rr J H'
structure VI (X : Cx) (W : WX) (tg iter : Expr) (f : PEnv → R (List D)) : Prop where
  ex : ∃ wi, PI X tg iter wi ∧ ∀ σ H B ρ Rr, Same B H → RF X.K B σ ρ → Pst X W σ H (KI1 X B H Rr) (f ρ) → wi σ H Rr
theorem walks_list {K : PySem.W.Frag} {B : Hp} {a : Addr} {vs : List V} {ds : List D} (h : Rd B a (.lst vs)) (hd : IsAll K B vs ds) (hz : ds.length ≤ sizeLine) : Walks K (Itl K a) ds B where
  go := fun i H s hi => by
    have hl := IsAll.len hd
    exact ⟨vs, vs[i]'(by omega), .inl (Rd.mono s h), by simp⟩
  yld := fun i H x H' B1 s1 s2 hi y => by
    obtain ⟨rfl, y⟩ := y
    have e := y vs (.inl (Rd.mono (s1.trans s2) h))
    obtain ⟨d, e2, e3⟩ := IsAll.get hd e
    exact ⟨d, B1, e2, .refl s2, Is.mono s1 e3⟩
  stop := fun H s => ⟨vs, .inl (Rd.mono s h), by rw [IsAll.len hd]; exact Nat.le_refl _⟩
  small := hz
theorem walks_tup {K : PySem.W.Frag} {B : Hp} {a : Addr} {vs : List V} {ds : List D} (h : SqT K B a vs) (hd : IsAll K B vs ds) (hz : ds.length ≤ sizeLine) : Walks K (Itt K a) ds B where
  go := fun i H s hi => by
    have hl := IsAll.len hd
    exact ⟨vs, vs[i]'(by omega), Same.tupl s h, by simp⟩
  yld := fun i H x H' B1 s1 s2 hi y => by
    obtain ⟨rfl, y⟩ := y
    have e := y vs (Same.tupl (s1.trans s2) h)
    obtain ⟨d, e2, e3⟩ := IsAll.get hd e
    exact ⟨d, B1, e2, .refl s2, Is.mono s1 e3⟩
  stop := fun H s => ⟨vs, Same.tupl s h, by rw [IsAll.len hd]; exact Nat.le_refl _⟩
  small := hz
def rangeD (lo : Int) (n : Nat) : List D := (List.range n).map fun (i : Nat) => PyData.int (lo + (i : Int))
theorem rangeD_len (lo : Int) (n : Nat) : (rangeD lo n).length = n := by unfold rangeD; simp
theorem rangeD_at {lo : Int} {n i : Nat} (h : i < n) : (rangeD lo n)[i]? = some (.int (lo + (i : Int))) := by
  unfold rangeD
  rw [List.getElem?_map, List.getElem?_range h]
  rfl
theorem walks_range {K : PySem.W.Frag} {B : Hp} {lo : Int} {n : Nat} (hz : n ≤ sizeLine) : Walks K (Itr lo n) (rangeD lo n) B where
  go := fun i H s hi => by rw [rangeD_len] at hi; exact hi
  yld := fun i H x H' B1 s1 s2 hi y => by
    obtain ⟨rfl, rfl⟩ := y
    rw [rangeD_len] at hi
    exact ⟨_, B1, rangeD_at hi, .refl s2, .int _⟩
  stop := fun H s => by rw [rangeD_len]; exact Nat.le_refl _
  small := by rw [rangeD_len]; exact hz
def rangeCD (lo c : Int) (n : Nat) : List D := (List.range n).map fun (i : Nat) => PyData.int (lo + (i : Int) * c)
theorem rangeCD_len (lo c : Int) (n : Nat) : (rangeCD lo c n).length = n := by unfold rangeCD; simp
theorem rangeCD_at {lo c : Int} {n i : Nat} (h : i < n) : (rangeCD lo c n)[i]? = some (.int (lo + (i : Int) * c)) := by
  unfold rangeCD
  rw [List.getElem?_map, List.getElem?_range h]
  rfl
theorem walks_rangeC {K : PySem.W.Frag} {B : Hp} {lo c : Int} {n : Nat} (hz : n ≤ sizeLine) : Walks K (Itc lo c n) (rangeCD lo c n) B where
  go := fun i H s hi => by rw [rangeCD_len] at hi; exact hi
  yld := fun i H x H' B1 s1 s2 hi y => by
    obtain ⟨rfl, rfl⟩ := y
    rw [rangeCD_len] at hi
    exact ⟨_, B1, rangeCD_at hi, .refl s2, .int _⟩
  stop := fun H s => by rw [rangeCD_len]; exact Nat.le_refl _
  small := by rw [rangeCD_len]; exact hz
theorem walks_rev {K : PySem.W.Frag} {B : Hp} {a : Addr} {vs : List V} {ds : List D} (h : Rd B a (.lst vs)) (hd : IsAll K B vs ds) (hz : ds.length ≤ sizeLine) : Walks K (Itv K a vs.length) ds.reverse B where
  go := fun i H s hi => by
    have hl := IsAll.len hd
    rw [List.length_reverse] at hi
    exact ⟨by omega, vs, vs[vs.length - 1 - i]'(by omega), .inl (Rd.mono s h), by simp⟩
  yld := fun i H x H' B1 s1 s2 hi y => by
    obtain ⟨rfl, y⟩ := y
    have hl := IsAll.len hd
    rw [List.length_reverse] at hi
    have e := y vs (.inl (Rd.mono (s1.trans s2) h))
    obtain ⟨d, e2, e3⟩ := IsAll.get hd e
    refine ⟨d, B1, ?_, .refl s2, Is.mono s1 e3⟩
    rw [List.getElem?_reverse hi, ← hl]
    exact e2
  stop := fun H s => by
    have hl := IsAll.len hd
    show vs.length ≤ ds.reverse.length
    rw [List.length_reverse]; omega
  small := by rw [List.length_reverse]; exact hz
def enumD (ds : List D) : List D := ds.mapIdx fun i d => PyData.tuple [.int (i : Int), d]
theorem enumD_len (ds : List D) : (enumD ds).length = ds.length := by unfold enumD; simp
theorem walks_enum {K : PySem.W.Frag} {B : Hp} {a : Addr} {vs : List V} {ds : List D} (h : Rd B a (.lst vs)) (hd : IsAll K B vs ds) (hz : ds.length ≤ sizeLine) : Walks K (Ite K a) (enumD ds) B where
  go := fun i H s hi => by
    have hl := IsAll.len hd
    rw [enumD_len] at hi
    exact ⟨vs, vs[i]'(by omega), .inl (Rd.mono s h), by simp⟩
  yld := fun i H x H' B1 s1 s2 hi y => by
    obtain ⟨T, x', rfl, nT, rfl, y⟩ := y
    have e := y vs (.inl (Rd.mono (s1.trans s2) h))
    obtain ⟨d, e2, e3⟩ := IsAll.get hd e
    refine ⟨.tuple [.int (i : Int), d], _, ?_, Ext.new s2 nT, .tup (.inl (.inl upd_same)) (.cons (.int _) (.cons (Is.mono (s1.trans (Ext.new s2 nT).bb) e3) .nil))⟩
    unfold enumD
    rw [List.getElem?_mapIdx, e2]
    rfl
  stop := fun H s => ⟨vs, .inl (Rd.mono s h), by rw [enumD_len, IsAll.len hd]; exact Nat.le_refl _⟩
  small := by rw [enumD_len]; exact hz
def zipD (ds es : List D) : List D := List.zipWith (fun d e => PyData.tuple [d, e]) ds es
theorem zipD_len (ds es : List D) : (zipD ds es).length = min ds.length es.length := by unfold zipD; simp
theorem walks_zip {K : PySem.W.Frag} {B : Hp} {a b : Addr} {vs us : List V} {ds es : List D} (h : Rd B a (.lst vs)) (hd : IsAll K B vs ds) (h' : Rd B b (.lst us)) (he : IsAll K B us es) (hz : ds.length ≤ sizeLine) : Walks K (Itz K a b) (zipD ds es) B where
  go := fun i H s hi => by
    have hl := IsAll.len hd
    have hl' := IsAll.len he
    rw [zipD_len] at hi
    exact ⟨vs, us, vs[i]'(by omega), us[i]'(by omega), .inl (Rd.mono s h), .inl (Rd.mono s h'), by simp, by simp⟩
  yld := fun i H x H' B1 s1 s2 hi y => by
    obtain ⟨T, x', y', rfl, nT, rfl, q1, q2⟩ := y
    have e := q1 vs (.inl (Rd.mono (s1.trans s2) h))
    have e' := q2 us (.inl (Rd.mono (s1.trans s2) h'))
    obtain ⟨d, e2, e3⟩ := IsAll.get hd e
    obtain ⟨d', e2', e3'⟩ := IsAll.get he e'
    refine ⟨.tuple [d, d'], _, ?_, Ext.new s2 nT, .tup (.inl (.inl upd_same)) (.cons (Is.mono (s1.trans (Ext.new s2 nT).bb) e3) (.cons (Is.mono (s1.trans (Ext.new s2 nT).bb) e3') .nil))⟩
    unfold zipD
    rw [List.getElem?_zipWith, e2, e2']
  stop := fun H s => ⟨vs, us, .inl (Rd.mono s h), .inl (Rd.mono s h'), by rw [zipD_len, IsAll.len hd, IsAll.len he]; omega⟩
  small := by rw [zipD_len]; omega

/-! sources -/
def seqD : D → R (List D)
  | .list xs => .ok xs
  | .tuple xs => .ok xs
  | _ => .stuck
def rngOk (i j : Int) : Prop := -16777216 ≤ i ∧ i ≤ 16777216 ∧ -16777216 ≤ j ∧ j ≤ 16777216 ∧ j - i ≤ 16777216
instance (i j : Int) : Decidable (rngOk i j) := by unfold rngOk; infer_instance
def vrange1 : D → R (List D)
  | .int j => if rngOk 0 j then .ok (rangeD 0 j.toNat) else .stuck
  | _ => .stuck
def vrange2 : D → D → R (List D)
  | .int i, .int j => if rngOk i j then .ok (rangeD i (j - i).toNat) else .stuck
  | _, _ => .stuck
def vrangeN : D → D → R (List D)
  | .int i, .int j => if rngOk i j ∧ i - j ≤ 16777216 then .ok (rangeCD i (-1) (i - j).toNat) else .stuck
  | _, _ => .stuck
def venum : D → R (List D)
  | .list xs => .ok (enumD xs)
  | _ => .stuck
def vzip : D → D → R (List D)
  | .list xs, .list ys => .ok (zipD xs ys)
  | _, _ => .stuck
def vrev : D → R (List D)
  | .list xs => .ok xs.reverse
  | _ => .stuck
/-! ### targets -/
def setsV (σ : L2.St) (bs : List (Nat × V)) : L2.St := bs.foldl (fun σ b => σ.set b.1 (some b.2)) σ
def setsD (ρ : PEnv) (bs : List (Nat × D)) : PEnv := bs.foldl (fun ρ b => ρ.set b.1 (some b.2)) ρ
abbrev Bds (K : PySem.W.Frag) (B : Hp) : List (Nat × V) → List (Nat × D) → Prop := Paired fun p q => p.1 = q.1 ∧ Is K B p.2 q.2
theorem RF.set {K : PySem.W.Frag} {B : Hp} {σ : L2.St} {ρ : PEnv} (h : RF K B σ ρ) (i : Nat) {v : V} {d : D} (hd : Is K B v d) : RF K B (σ.set i (some v)) (ρ.set i (some d)) := ⟨by rw [List.length_set, List.length_set]; exact h.len, fun j e x => by
  by_cases hj : j = i
  · subst hj
    have hl : j < ρ.length := by
      obtain ⟨q, _⟩ := List.getElem?_eq_some_iff.mp x
      rw [List.length_set] at q; exact q
    rw [List.getElem?_set_self hl] at x
    cases x
    rw [List.getElem?_set_self (by rw [h.len]; exact hl)]
    exact ⟨v, rfl, hd⟩
  · rw [List.getElem?_set_ne (Ne.symm hj)] at x
    obtain ⟨u, e1, e2⟩ := h.at_ j e x
    exact ⟨u, by rw [List.getElem?_set_ne (Ne.symm hj)]; exact e1, e2⟩⟩
theorem RF.sets {K : PySem.W.Frag} {B : Hp} : ∀ {bv : List (Nat × V)} {bd : List (Nat × D)} {σ : L2.St} {ρ : PEnv}, RF K B σ ρ → Bds K B bv bd → RF K B (setsV σ bv) (setsD ρ bd)
  | _, _, _, _, h, .nil => h
  | _, _, _, _, h, .cons (a := p) (b := q) r t => by
    obtain ⟨r1, r2⟩ := r
    unfold setsV setsD
    rw [List.foldl_cons, List.foldl_cons, r1]
    exact RF.sets (RF.set h q.1 r2) t
structure VG (X : Cx) (tg : Expr) (sl : List Nat) (k : D → R (List (Nat × D))) : Prop where
  ex : ∃ t, PG X tg t ∧ ∀ v σ H B d Q, Same B H → Is X.K B v d → (∃ bd, k d = .ok bd ∧ ∀ bv, Bds X.K B bv bd → Q (setsV σ bv) H) → t v σ H Q
  sl : ∀ d bs, k d = .ok bs → bs.map (·.1) = sl
structure VGs (X : Cx) (ts : List Expr) (sl : List Nat) (k : List D → R (List (Nat × D))) : Prop where
  ex : ∃ t, PGs X ts t ∧ ∀ vs σ H B ds Q, Same B H → IsAll X.K B vs ds → (∃ bd, k ds = .ok bd ∧ ∀ bv, Bds X.K B bv bd → Q (setsV σ bv) H) → t vs σ H Q
  sl : ∀ ds bs, k ds = .ok bs → bs.map (·.1) = sl ∧ ds.length = ts.length
def gN (i : Nat) : D → R (List (Nat × D)) := fun d => .ok [(i, d)]
def gC (g : D → R (List (Nat × D))) (h : List D → R (List (Nat × D))) : List D → R (List (Nat × D))
  | [] => .stuck
  | d :: ds => (g d).bind fun bs => (h ds).bind fun cs => .ok (bs ++ cs)
def gE : List D → R (List (Nat × D))
  | [] => .ok []
  | _ => .stuck
def gT (h : List D → R (List (Nat × D))) : D → R (List (Nat × D))
  | .tuple xs => h xs
  | _ => .stuck
section
variable {X : Cx} {pos : Pos} {e : Expr} {es : List Expr} {g : D → R (List (Nat × D))} {h : List D → R (List (Nat × D))} {sl sl' : List Nat}
theorem vg (i : Nat) {x : Str} (hN : X.N.Nodup) (hi : X.N[i]? = some x := by rfl) (hx : Loc X.env.scope x := by first | exact Or.inl rfl | exact Or.inr rfl) (hf : X.fn x = true ∨ X.env.scope.names.lookup x = some .local := by first | exact .inl rfl | exact .inr rfl) : VG X (.Name x pos) [i] (gN i) :=
  ⟨⟨_, pg_name hN hi hx hf, fun v σ H B d Q s dv ⟨bd, e, q⟩ => by
    cases e
    exact q [(i, v)] (.cons ⟨rfl, dv⟩ .nil)⟩, fun d bs e => by cases e; rfl⟩
theorem vgs_nil : VGs X [] [] gE := ⟨⟨_, pgs_nil, fun vs σ H B ds Q s dv ⟨bd, e, q⟩ => by
  cases dv with
  | nil => cases e; exact ⟨rfl, q [] .nil⟩
  | cons _ _ => cases e⟩, fun ds bs e => by cases ds <;> first | (cases e; exact ⟨rfl, rfl⟩) | cases e⟩
theorem vgs_cons (h1 : VG X e sl g) (h2 : VGs X es sl' h) (hs : (assignEach (e :: es) X.env).map (·.2) = assign e X.env :: (assignEach es X.env).map (·.2) := by rfl) : VGs X (e :: es) (sl ++ sl') (gC g h) := by
  obtain ⟨t, p, q⟩ := h1.ex
  obtain ⟨t2, p2, q2⟩ := h2.ex
  refine ⟨⟨_, pgs_cons p p2 hs, fun vs σ H B ds Q s dv ⟨bd, eb, qq⟩ => ?_⟩, fun ds bs eb => ?_⟩
  · cases dv with
    | nil => cases eb
    | @cons v vs d ds d1 d2 =>
      refine ⟨v, vs, rfl, ?_⟩
      simp only [gC] at eb
      generalize hg : g d = rg at eb
      cases rg with
      | stuck => cases eb
      | err c => cases eb
      | ok b1 =>
        simp only [R.bind_ok] at eb
        generalize hh : h ds = rh at eb
        cases rh with
        | stuck => cases eb
        | err c => cases eb
        | ok b2 =>
          cases eb
          refine q v σ H B d _ s d1 ⟨b1, hg, fun bv1 hb1 => ?_⟩
          refine q2 vs _ H B ds _ s d2 ⟨b2, hh, fun bv2 hb2 => ?_⟩
          have z := qq (bv1 ++ bv2) (by
            have app : ∀ {l1 l2 l3 l4}, Bds X.K B l1 l2 → Bds X.K B l3 l4 → Bds X.K B (l1 ++ l3) (l2 ++ l4) := by
              intro l1 l2 l3 l4 a b
              induction a with
              | nil => exact b
              | cons r t ih => exact .cons r ih
            exact app hb1 hb2)
          unfold setsV at z
          rw [List.foldl_append] at z
          exact z
  · cases ds with
    | nil => cases eb
    | cons d ds =>
      simp only [gC] at eb
      generalize hg : g d = rg at eb
      cases rg with
      | stuck => cases eb
      | err c => cases eb
      | ok b1 =>
        simp only [R.bind_ok] at eb
        generalize hh : h ds = rh at eb
        cases rh with
        | stuck => cases eb
        | err c => cases eb
        | ok b2 =>
          cases eb
          obtain ⟨z1, z2⟩ := h2.sl ds b2 hh
          rw [List.map_append, h1.sl d b1 hg, z1, List.length_cons, List.length_cons, z2]
          exact ⟨rfl, rfl⟩
theorem vg_tup {k : Nat} {n : Nat} (hc : X.calm = true) (hh : VGs X es sl h) (hn : (assignEach es X.env).length = n := by rfl) (hst : (assignEach es X.env).findIdx? (·.1) = none := by rfl) (hl : es.length = n := by rfl) : VG X (.Tuple es k pos) sl (gT h) := by
  obtain ⟨t, p, q⟩ := hh.ex
  refine ⟨⟨_, pg_tup hc p hn hst, fun v σ H B d Q s dv ⟨bd, eb, qq⟩ => ?_⟩, fun d bs eb => ?_⟩
  · cases dv with
    | @tup a xs ds h1 h2 => exact ⟨a, xs, rfl, Same.tupl s h1, by rw [IsAll.len h2, (hh.sl ds bd eb).2, hl], q xs σ H B ds Q s h2 ⟨bd, eb, qq⟩⟩
    | _ => cases eb
  · cases d <;> first | (cases eb; done) | exact (hh.sl _ bs eb).1
end
section
variable {X : Cx} {W : WX} {a b c : Expr} {es : List Expr} {pos : Pos} {fa fb fc : PEnv → R D} {ft fu : PEnv → R Bool} {k : Nat} {tg : Expr}
theorem pi_seq {l : Expr} {tl : TE} (hl : PE X l tl) : PI X tg l (fun σ H Rr => tl σ H fun x G1 => ∃ a, x = .ref a ∧ (((∃ xs, SqL X.K G1 a xs) ∧ Rr (Itl X.K a) G1) ∨ ((∃ xs, SqT X.K G1 a xs) ∧ Rr (Itt X.K a) G1))) := by
  refine ⟨fun pins s σ H R J hh => ?_⟩
  refine thn (hl.run pins s σ H _ J hh) fun v t1 ⟨x, G1, J1, rr, qq⟩ => ?_
  obtain ⟨a, ee, q⟩ := qq
  subst ee
  cases rr
  rcases q with ⟨⟨xs, hq⟩, q⟩ | ⟨⟨xs, hq⟩, q⟩
  · obtain ⟨its, rv, p, hz⟩ := J1.list hq
    refine wpAny_pyIter_list p.isList ?_
    refine ⟨t1.heap.objs.size, [t1.heap.objs.size], _, _, G1, rfl, J1.kept (t' := t1.toks) fun bb o ee => Heap.get?_push_of_some _ ee, turn_list a _, ⟨_, Heap.get?_push_size _ rfl, rfl, rfl⟩, fun bb hb => ?_, q⟩
    have ee : bb = t1.heap.objs.size := by simpa using hb
    subst ee
    exact J1.fpOk (Nat.le_refl _) (J1.hok.fresh (Nat.le_refl _))
  · obtain ⟨its, rv, p, hz⟩ := J1.tuple hq
    refine wpAny_pyIter_tuple (show t1.heap.IsTuple a its.toArray from p) ?_
    refine ⟨t1.heap.objs.size, [t1.heap.objs.size], _, _, G1, rfl, J1.kept (t' := t1.toks) fun bb o ee => Heap.get?_push_of_some _ ee, turn_tuple a _, ⟨_, Heap.get?_push_size _ rfl, rfl, rfl⟩, fun bb hb => ?_, q⟩
    have ee : bb = t1.heap.objs.size := by simpa using hb
    subst ee
    exact J1.fpOk (Nat.le_refl _) (J1.hok.fresh (Nat.le_refl _))
def isq (f : PEnv → R D) : PEnv → R (List D) := fun ρ => (f ρ).bind seqD
theorem vi_seq (h : VE X W a fa) : VI X W tg a (isq fa) := by
  obtain ⟨t, p, q⟩ := h.ex
  refine ⟨_, pi_seq p, fun σ H B ρ Rr s rf pr => ?_⟩
  refine one q s rf pr fun d x H' B' ex sm dx pg => ?_
  have dx0 := dx
  cases dx <;> first | exact pg.elim | skip
  · rename_i h1 h2
    exact ⟨_, rfl, .inl ⟨⟨_, .inl (Rd.mono ex.bh h1)⟩, pg _ H' B' ex (walks_list h1 h2 (Small.list sm ex.bh dx0))⟩⟩
  · rename_i h1 h2
    exact ⟨_, rfl, .inr ⟨⟨_, Same.tupl ex.bh h1⟩, pg _ H' B' ex (walks_tup h1 h2 (Small.tuple sm ex.bh dx0))⟩⟩
def i1 (g : D → R (List D)) (f : PEnv → R D) : PEnv → R (List D) := fun ρ => (f ρ).bind g
def i2 (g : D → D → R (List D)) (f f' : PEnv → R D) : PEnv → R (List D) := fun ρ => (f ρ).bind fun d => (f' ρ).bind fun e => g d e
theorem vi_range1 {p pos : Pos} (hm : X.mg "range" = none) (ha : VE X W a fa) (hg : Gl X "range" := by rfl) (hs : starEach [a] X.env = [(false, eval a X.env)] := by rfl) (he : starEach [a] X.env = (false, eval a X.env) :: starEach [] X.env := by rfl) : VI X W tg (.Call (.Name "range" p) [a] [] pos) (i1 vrange1 fa) := by
  obtain ⟨t, pt, qt⟩ := ha.ex
  refine ⟨_, pi_range1 hg hm (pa_cons pt pa_nil he) hs, fun σ H B ρ Rr s rf pr => ?_⟩
  refine one qt s rf pr fun d x H' B' ex sm dx pg => ?_
  cases dx <;> first | exact pg.elim | skip
  rename_i i
  simp only [vrange1] at pg
  split at pg
  · rename_i hz
    have hz' : -16777216 ≤ (0:Int) ∧ (0:Int) ≤ 16777216 ∧ -16777216 ≤ i ∧ i ≤ 16777216 ∧ i - 0 ≤ 16777216 := hz
    exact ⟨_, rfl, by omega, by omega, pg _ H' B' ex (walks_range (by have := sizeLine_eq; omega))⟩
  · exact pg.elim
theorem vi_range2 {p pos : Pos} (hm : X.mg "range" = none) (ha : VE X W a fa) (hb : VE X W b fb) (hg : Gl X "range" := by rfl) (hs : starEach [a, b] X.env = [(false, eval a X.env), (false, eval b X.env)] := by rfl) (hs2 : starEach [b] X.env = [(false, eval b X.env)] := by rfl)
    (he : starEach [a, b] X.env = (false, eval a X.env) :: starEach [b] X.env := by rfl) (he2 : starEach [b] X.env = (false, eval b X.env) :: starEach [] X.env := by rfl) : VI X W tg (.Call (.Name "range" p) [a, b] [] pos) (i2 vrange2 fa fb) := by
  obtain ⟨t, pt, qt⟩ := ha.ex
  obtain ⟨t2, pt2, qt2⟩ := hb.ex
  refine ⟨_, pi_range2 hg hm (pa_cons pt (pa_cons pt2 pa_nil he2) he) hs hs2, fun σ H B ρ Rr s rf pr => ?_⟩
  refine two qt qt2 s rf pr fun d e x y H' B' ex sm dx dy pg => ?_
  cases dx <;> first | (cases dy <;> exact pg.elim) | skip
  cases dy <;> first | exact pg.elim | skip
  rename_i i j
  simp only [vrange2] at pg
  split at pg
  · rename_i hz
    have hz' : -16777216 ≤ i ∧ i ≤ 16777216 ∧ -16777216 ≤ j ∧ j ≤ 16777216 ∧ j - i ≤ 16777216 := hz
    exact ⟨i, j, rfl, ⟨by omega, by omega, by omega, by omega⟩, pg _ H' B' ex (walks_range (by have := sizeLine_eq; omega))⟩
  · exact pg.elim
theorem vi_rangeN {p pos pos2 pos3 : Pos} {m : Nat} (hm : X.mg "range" = none) (ha : VE X W a fa) (hb : VE X W b fb) (hg : Gl X "range" := by rfl)
    (hs : starEach [a, b, .UnaryOp .USub (.Constant (.int 1) m pos3) pos2] X.env = (false, eval a X.env) :: starEach [b, .UnaryOp .USub (.Constant (.int 1) m pos3) pos2] X.env := by rfl)
    (hs2 : starEach [b, .UnaryOp .USub (.Constant (.int 1) m pos3) pos2] X.env = (false, eval b X.env) :: starEach [.UnaryOp .USub (.Constant (.int 1) m pos3) pos2] X.env := by rfl)
    (hpl : (backTo pos (starEach [b, .UnaryOp .USub (.Constant (.int 1) m pos3) pos2] X.env)).any (·.1) = false := by rfl) :
    VI X W tg (.Call (.Name "range" p) [a, b, .UnaryOp .USub (.Constant (.int 1) m pos3) pos2] [] pos) (i2 vrangeN fa fb) := by
  obtain ⟨t, pt, qt⟩ := ha.ex
  obtain ⟨t2, pt2, qt2⟩ := hb.ex
  have p3 : PE X (.UnaryOp .USub (.Constant (.int 1) m pos3) pos2) (tUn (rU fun i => .int (-i)) (tC (.int 1))) := pe_un un_neg pe_int
  refine ⟨_, pi_range3 hg hm (pa_cons pt (pa_cons pt2 (pa_cons p3 pa_nil) hs2) hs) (hs := hs) (hpl := hpl), fun σ H B ρ Rr s rf pr => ?_⟩
  refine two qt qt2 s rf pr fun d e x y H' B' ex sm dx dy pg => ?_
  cases dx <;> first | (cases dy <;> exact pg.elim) | skip
  cases dy <;> first | exact pg.elim | skip
  rename_i i j
  simp only [vrangeN] at pg
  split at pg
  · rename_i hz
    have hz' : (-16777216 ≤ i ∧ i ≤ 16777216 ∧ -16777216 ≤ j ∧ j ≤ 16777216 ∧ j - i ≤ 16777216) ∧ i - j ≤ 16777216 := hz
    exact ⟨1, rfl, i, j, -1, (i - j).toNat, rfl, RgC.neg (by omega) (by omega) (by omega) (by omega), pg _ H' B' ex (walks_rangeC (by have := sizeLine_eq; omega))⟩
  · exact pg.elim
theorem vi_enum {p pos tpos : Pos} {elts : List Expr} {kk : Nat} (hm : X.mg "enumerate" = none) (ha : VE X W a fa) (hg : Gl X "enumerate" := by rfl) (hs : starEach [a] X.env = [(false, eval a X.env)] := by rfl) (he : starEach [a] X.env = (false, eval a X.env) :: starEach [] X.env := by rfl) : VI X W (.Tuple elts kk tpos) (.Call (.Name "enumerate" p) [a] [] pos) (i1 venum fa) := by
  obtain ⟨t, pt, qt⟩ := ha.ex
  refine ⟨_, pi_enum hg hm (pa_cons pt pa_nil he) hs, fun σ H B ρ Rr s rf pr => ?_⟩
  refine one qt s rf pr fun d x H' B' ex sm dx pg => ?_
  have dx0 := dx
  cases dx <;> first | exact pg.elim | skip
  rename_i h1 h2
  exact ⟨_, _, rfl, .inl (Rd.mono ex.bh h1), pg _ H' B' ex (walks_enum h1 h2 (Small.list sm ex.bh dx0))⟩
theorem vi_zip {p pos tpos : Pos} {elts : List Expr} {kk : Nat} (hm : X.mg "zip" = none) (ha : VE X W a fa) (hb : VE X W b fb) (hg : Gl X "zip" := by rfl) (he : starEach [a, b] X.env = (false, eval a X.env) :: starEach [b] X.env := by rfl) (he2 : starEach [b] X.env = (false, eval b X.env) :: starEach [] X.env := by rfl) (hpl : (backTo pos (starEach [b] X.env)).any (·.1) = false := by rfl) :
    VI X W (.Tuple elts kk tpos) (.Call (.Name "zip" p) [a, b] [] pos) (i2 vzip fa fb) := by
  obtain ⟨t, pt, qt⟩ := ha.ex
  obtain ⟨t2, pt2, qt2⟩ := hb.ex
  refine ⟨_, pi_zip hg hm (pa_cons pt (pa_cons pt2 pa_nil he2) he) he hpl, fun σ H B ρ Rr s rf pr => ?_⟩
  refine two qt qt2 s rf pr fun d e x y H' B' ex sm dx dy pg => ?_
  have dx0 := dx
  cases dx <;> first | (cases dy <;> exact pg.elim) | skip
  cases dy <;> first | exact pg.elim | skip
  rename_i h1 h2 _ _ _ h3 h4
  exact ⟨_, _, _, _, rfl, .inl (Rd.mono ex.bh h1), .inl (Rd.mono ex.bh h3), pg _ H' B' ex (walks_zip h1 h2 h3 h4 (Small.list sm ex.bh dx0))⟩
theorem vi_rev {p pos : Pos} (hm : X.mg "reversed" = none) (ha : VE X W a fa) (hg : Gl X "reversed" := by rfl) (hs : starEach [a] X.env = [(false, eval a X.env)] := by rfl) (he : starEach [a] X.env = (false, eval a X.env) :: starEach [] X.env := by rfl) : VI X W tg (.Call (.Name "reversed" p) [a] [] pos) (i1 vrev fa) := by
  obtain ⟨t, pt, qt⟩ := ha.ex
  refine ⟨_, pi_reversed hg hm (pa_cons pt pa_nil he) hs, fun σ H B ρ Rr s rf pr => ?_⟩
  refine one qt s rf pr fun d x H' B' ex sm dx pg => ?_
  have dx0 := dx
  cases dx <;> first | exact pg.elim | skip
  rename_i h1 h2
  exact ⟨_, _, rfl, .inl (Rd.mono ex.bh h1), pg _ H' B' ex (walks_rev h1 h2 (Small.list sm ex.bh dx0))⟩

/-! ### comprehensions -/
def wipeD (ρ : PEnv) : List Nat → PEnv
  | [] => ρ
  | v :: vs => (wipeD ρ vs).set v none
theorem RF.wipe {K : PySem.W.Frag} {B : Hp} {σ : L2.St} {ρ : PEnv} (h : RF K B σ ρ) : ∀ vs : List Nat, RF K B (L2.wipe σ vs) (wipeD ρ vs)
  | [] => h
  | v :: vs => by
    have ih := RF.wipe h vs
    unfold L2.wipe wipeD
    refine ⟨by rw [List.length_set, List.length_set]; exact ih.len, fun j e x => ?_⟩
    by_cases hj : j = v
    · subst hj
      have hl : j < (wipeD ρ vs).length := by
        obtain ⟨q, _⟩ := List.getElem?_eq_some_iff.mp x
        rw [List.length_set] at q; exact q
      rw [List.getElem?_set_self hl] at x
      cases x
    · rw [List.getElem?_set_ne (Ne.symm hj)] at x
      obtain ⟨u, e1, e2⟩ := ih.at_ j e x
      exact ⟨u, by rw [List.getElem?_set_ne (Ne.symm hj)]; exact e1, e2⟩
theorem wipe_at {σ : L2.St} {i : Nat} : ∀ {vs : List Nat}, i ∈ vs → ∀ x, (L2.wipe σ vs)[i]? ≠ some (some x)
  | [], h, _ => by cases h
  | v :: vs, h, x => by
    unfold L2.wipe
    by_cases hv : v = i
    · subst hv
      intro q
      obtain ⟨q1, _⟩ := List.getElem?_eq_some_iff.mp q
      rw [List.getElem?_set_self (by rw [List.length_set] at q1; exact q1)] at q
      cases q
    · rw [List.getElem?_set_ne hv]
      rcases List.mem_cons.mp h with e | e
      · exact absurd e.symm hv
      · exact wipe_at e x
theorem wipe_set {σ : L2.St} {i : Nat} {x : Option V} : ∀ {vs : List Nat}, i ∈ vs → L2.wipe (σ.set i x) vs = L2.wipe σ vs
  | [], h => by cases h
  | v :: vs, h => by
    show (L2.wipe (σ.set i x) vs).set v none = (L2.wipe σ vs).set v none
    by_cases hm : i ∈ vs
    · rw [wipe_set hm]
    · have hv : i = v := by
        rcases List.mem_cons.mp h with e | e
        · exact e
        · exact absurd e hm
      subst hv
      have sw : ∀ ws : List Nat, i ∉ ws → L2.wipe (σ.set i x) ws = (L2.wipe σ ws).set i x := by
        intro ws
        induction ws with
        | nil => intro _; rfl
        | cons w ws ih =>
          intro hw
          have h1 : i ≠ w := fun e => hw (e ▸ List.mem_cons_self)
          show (L2.wipe (σ.set i x) ws).set w none = ((L2.wipe σ ws).set w none).set i x
          rw [ih (fun q => hw (List.mem_cons_of_mem _ q)), List.set_comm _ _ h1]
      rw [sw vs hm, List.set_set]
theorem wipe_idem {σ : L2.St} (vs : List Nat) : L2.wipe (L2.wipe σ vs) vs = L2.wipe σ vs := by
  have : ∀ ws, (∀ w ∈ ws, w ∈ vs) → L2.wipe (L2.wipe σ ws) vs = L2.wipe σ vs := by
    intro ws
    induction ws with
    | nil => intro _; rfl
    | cons w ws ih =>
      intro h
      show L2.wipe ((L2.wipe σ ws).set w none) vs = _
      rw [wipe_set (h w List.mem_cons_self), ih fun x hx => h x (List.mem_cons_of_mem _ hx)]
  exact this vs fun _ h => h
theorem wipe_sets {vs : List Nat} : ∀ {bs : List (Nat × V)} {σ : L2.St}, (∀ b ∈ bs, b.1 ∈ vs) → L2.wipe (setsV σ bs) vs = L2.wipe σ vs
  | [], _, _ => rfl
  | b :: bs, σ, h => by
    show L2.wipe (setsV (σ.set b.1 (some b.2)) bs) vs = _
    rw [wipe_sets fun x hx => h x (List.mem_cons_of_mem _ hx), wipe_set (h b List.mem_cons_self)]
/-- an error within a comprehension is not carried -/
def R.calm {α : Type} : R α → R α
  | .err _ => .stuck
  | r => r
def tyes : PEnv → R Bool := fun _ => .ok true
def compL (kt : D → R (List (Nat × D))) (ft : PEnv → R Bool) (fe : PEnv → R D) (ρ : PEnv) : List D → R (List D)
  | [] => .ok []
  | d :: ds => (kt d).bind fun bs => ((ft (setsD ρ bs)).calm).bind fun b => if b then ((fe (setsD ρ bs)).calm).bind fun y => (compL kt ft fe ρ ds).bind fun ys => .ok (y :: ys) else compL kt ft fe ρ ds
def vcomp (own : List Nat) (fi : PEnv → R (List D)) (kt : D → R (List (Nat × D))) (ft : PEnv → R Bool) (fe : PEnv → R D) : PEnv → R (List D) := fun ρ => (fi ρ).bind fun ds => (compL kt ft fe (wipeD ρ own) ds).calm
abbrev W0 : WX := fun _ _ _ _ => False
structure VTs (X : Cx) (W : WX) (ifs : List Expr) (f : PEnv → R Bool) : Prop where
  ex : ∃ t, PTs X ifs t ∧ ∀ σ H B ρ Q, Same B H → RF X.K B σ ρ → Pst X W σ H (KB1 B H Q) (f ρ) → t σ H Q
theorem vts_nil : VTs X W [] tyes := ⟨_, pts_nil, fun σ H B ρ Q s rf p => p H B (.refl s)⟩
theorem vts_one (h : VT X W c ft) : VTs X W [c] ft := by
  obtain ⟨t, p, q⟩ := h.ex
  exact ⟨t, pts_one p, q⟩
theorem calm_ok {α : Type} {r : R α} {a : α} (h : r.calm = .ok a) : r = .ok a := by
  cases r <;> first | exact h | cases h
theorem calm_ne {α : Type} {r : R α} {c : Str} : r.calm ≠ .err c := by cases r <;> exact fun h => nomatch h
theorem Pst.calm {α : Type} {X : Cx} {W : WX} {σ : L2.St} {H : Hp} {K : α → Prop} {r : R α} {a : α} (h : r.calm = .ok a) (k : K a) : Pst X W σ H K r := by
  rw [calm_ok h]; exact k
/-- the wanted end for a new list that nobody else holds -/
def KFr (X : Cx) (B H : Hp) (Q : VK) (ds : List PyData) : Prop := ∀ p vs H' B', Ext B H B' H' → H' p = some (.lst vs) → H p = none → B' p = none → IsAll X.K B' vs ds → Q (.ref p) H'
theorem kfr_of {B H : Hp} {Q : VK} {ds : List PyData} (h : ∀ v H' B', Ext B H B' H' → Is X.K B' v (.list ds) → Q v H') : KFr X B H Q ds := fun p vs H' B' e hp hn bn ia => by
  refine h _ H' (upd B' p (.lst vs)) ⟨e.hh, fun b u q => same_upd bn _ _ (e.bb _ _ q), fun b u q => ?_, fun a h1 h2 => ?_⟩ (.lst (.inl upd_same) (IsAll.mono (same_upd bn) ia))
  · by_cases hb : b = p
    · subst hb; rw [upd_same] at q; cases q; exact hp
    · rw [upd_ne hb] at q; exact e.bh _ _ q
  · by_cases hb : a = p
    · subst hb; exact hn
    · rw [upd_ne hb] at h2; exact e.nw a h1 h2
/-- an expression that makes a new list -/
structure VFr (X : Cx) (W : WX) (e : Expr) (f : PEnv → R (List PyData)) : Prop where
  ex : ∃ t, PE X e t ∧ ∀ σ H B ρ Q, Same B H → RF X.K B σ ρ → Pst X W σ H (KFr X B H Q) (f ρ) → t σ H Q
def vlistOf (f : PEnv → R (List PyData)) : PEnv → R PyData := fun ρ => (f ρ).bind fun ds => .ok (.list ds)
theorem VFr.ve {e : Expr} {f : PEnv → R (List PyData)} (h : VFr X W e f) : VE X W e (vlistOf f) := by
  obtain ⟨t, p, q⟩ := h.ex
  refine VE.mk' p fun σ H B ρ Q s rf pr => q σ H B ρ Q s rf ?_
  unfold vlistOf at pr
  generalize f ρ = r at pr ⊢
  cases r with
  | stuck => exact pr
  | err c => exact pr
  | ok ds => exact kfr_of pr
/-- the reading of a comprehension -/
theorem comp_read {wi : TI} {g : TG} {tt : TT} {te : TE} {own sl : List Nat} {fi : PEnv → R (List D)} {kt : D → R (List (Nat × D))} {ft : PEnv → R Bool} {fe : PEnv → R D} 
    (qi : ∀ σ H B ρ Rr, Same B H → RF X.K B σ ρ → Pst X W σ H (KI1 X B H Rr) (fi ρ) → wi σ H Rr)
    (qg : ∀ v σ H B d Q, Same B H → Is X.K B v d → (∃ bd, kt d = .ok bd ∧ ∀ bv, Bds X.K B bv bd → Q (setsV σ bv) H) → g v σ H Q) (hsl : ∀ d bs, kt d = .ok bs → bs.map (·.1) = sl) (hso : ∀ i ∈ sl, i ∈ own)
    (qt : ∀ σ H B ρ Q, Same B H → RF X.K B σ ρ → Pst X W0 σ H (KB1 B H Q) (ft ρ) → tt σ H Q)
    (qe : ∀ σ H B ρ Q, Same B H → RF X.K B σ ρ → Pst X W0 σ H (KV1 X B H Q) (fe ρ) → te σ H Q)
    {σ : L2.St} {H B : Hp} {ρ : PEnv} {Q : VK} (s : Same B H) (rf : RF X.K B σ ρ)
    (pr : Pst X W σ H (KFr X B H Q) (vcomp own fi kt ft fe ρ)) : tLc wi g tt te own σ H Q := by
  unfold vcomp at pr
  refine qi σ H B ρ _ s rf ?_
  generalize fi ρ = ri at pr ⊢
  cases ri with
  | stuck => exact pr
  | err c => exact pr
  | ok ds =>
    simp only [R.bind_ok] at pr
    intro J H1 B1 e1 wk D hD
    generalize hc : (compL kt ft fe (wipeD ρ own) ds).calm = rc at pr
    cases rc with
    | stuck => exact pr.elim
    | err c => exact (calm_ne hc).elim
    | ok ys =>
      have hc := calm_ok hc
      have pr : KFr X B H Q ys := pr
      have hDH : H D = none := Same.free e1.hh hD
      have upo : ∀ {B' H' : Hp} {o : HO}, Ext B H B' H' → B' D = none → Ext B H B' (upd H' D o) := fun {B' H' o} x n =>
        ⟨fun b u q => by rw [upd_ne (ne_of_none q hDH)]; exact x.hh _ _ q, x.bb, fun b u q => by rw [upd_ne (ne_of_none q n)]; exact x.bh _ _ q, x.nw⟩
      have keepD : ∀ {Ba Ha B' H' : Hp} {o : HO}, Ext Ba Ha B' H' → Ba D = none → Ha D = some o → B' D = none := fun {Ba Ha B' H' o} x n q => by
        cases z : B' D with
        | none => rfl
        | some u =>
          have := x.nw D n (by rw [z]; exact fun w => nomatch w)
          rw [q] at this
          cases this
      refine ⟨fun i m Hi => m = ds.length - i ∧ i ≤ ds.length ∧ ∃ Bi acc yd rest, Ext B H Bi Hi ∧ Same B1 Bi ∧ Bi D = none ∧ Hi D = some (.lst acc) ∧ IsAll X.K Bi acc yd ∧ acc.length ≤ i ∧ compL kt ft fe (wipeD ρ own) (ds.drop i) = .ok rest ∧ yd ++ rest = ys,
        ⟨ds.length, by simp, Nat.zero_le _, B1, [], [], ys, upo e1 (Same.free e1.bh hD), Same.refl _, Same.free e1.bh hD, upd_same, .nil, Nat.le_refl _, by simpa using hc, rfl⟩, ?_⟩
      rintro i m Hi ⟨rfl, hi, Bi, acc, yd, rest, ex, b1, bD, hDi, ia, hl, hcr, hys⟩
      by_cases hlt : i < ds.length
      · refine .inr ⟨wk.go i Hi (b1.trans ex.bh) hlt, fun Hi => i + 1 ≤ ds.length ∧ ∃ Bi acc yd rest, Ext B H Bi Hi ∧ Same B1 Bi ∧ Bi D = none ∧ Hi D = some (.lst acc) ∧ IsAll X.K Bi acc yd ∧ acc.length ≤ i + 1 ∧ compL kt ft fe (wipeD ρ own) (ds.drop (i + 1)) = .ok rest ∧ yd ++ rest = ys,
          fun H' q => ⟨ds.length - (i + 1), by omega, rfl, q⟩, fun x H' y => ?_⟩
        obtain ⟨d, B2, e2, E2, dx⟩ := wk.yld i Hi x H' Bi b1 ex.bh hlt y
        have hdrop : ds.drop i = d :: ds.drop (i + 1) := by
          obtain ⟨q1, q2⟩ := List.getElem?_eq_some_iff.mp e2
          rw [List.drop_eq_getElem_cons q1, q2]
        rw [hdrop] at hcr
        simp only [compL] at hcr
        generalize hk : kt d = rk at hcr
        cases rk with
        | stuck => cases hcr
        | err c => cases hcr
        | ok bs =>
          simp only [R.bind_ok] at hcr
          generalize hft : (ft (setsD (wipeD ρ own) bs)).calm = rt at hcr
          cases rt with
          | stuck => cases hcr
          | err c => cases hcr
          | ok b =>
            simp only [R.bind_ok] at hcr
            refine qg x (L2.wipe σ own) H' B2 d _ E2.bh dx ⟨bs, hk, fun bv hb => ?_⟩
            have RF2 : RF X.K B2 (setsV (L2.wipe σ own) bv) (setsD (wipeD ρ own) bs) := RF.sets ((RF.wipe rf own).mono (ex.bb.trans E2.bb)) hb
            have hw : L2.wipe (setsV (L2.wipe σ own) bv) own = L2.wipe σ own := by
              rw [wipe_sets, wipe_idem]
              intro p hp
              refine hso _ ?_
              rw [← hsl d bs hk]
              have fst : ∀ {l1 : List (Nat × V)} {l2 : List (Nat × PyData)}, Bds X.K B2 l1 l2 → l1.map (·.1) = l2.map (·.1) := by
                intro l1 l2 h
                induction h with
                | nil => rfl
                | cons r t ih => rw [List.map_cons, List.map_cons, r.1, ih]
              rw [← fst hb]
              exact List.mem_map_of_mem hp
            refine ⟨hw, ?_⟩
            refine qt _ H' B2 _ _ E2.bh RF2 (Pst.calm hft fun H3 B3 E3 => ?_)
            have hD2 := E2.hh _ _ hDi
            have bD2 := keepD E2 bD hDi
            cases b with
            | true =>
              simp only [if_true] at hcr
              generalize hfe : (fe (setsD (wipeD ρ own) bs)).calm = re at hcr
              cases re with
              | stuck => cases hcr
              | err c => cases hcr
              | ok yv =>
                simp only [R.bind_ok] at hcr
                generalize hrest : compL kt ft fe (wipeD ρ own) (ds.drop (i + 1)) = rr at hcr
                cases rr with
                | stuck => cases hcr
                | err c => cases hcr
                | ok rest' =>
                  cases hcr
                  refine iteT (qe _ H3 B3 _ _ E3.bh (RF2.mono E3.bb) (Pst.calm hfe fun v H4 B4 E4 sm dv => ?_))
                  have E24 := (E2.trans E3).trans E4
                  have bD4 := keepD E24 bD hDi
                  refine ⟨acc, E24.hh _ _ hDi, by have := wk.small; omega, hlt, B4, acc ++ [v], yd ++ [yv], rest', upo (ex.trans E24) bD4, b1.trans E24.bb, bD4, upd_same, IsAll.append (IsAll.mono E24.bb ia) (.cons dv .nil), by rw [List.length_append, List.length_singleton]; omega, rfl, ?_⟩
                  rw [List.append_assoc]; exact hys
            | false =>
              simp only [Bool.false_eq_true, if_false] at hcr
              have E23 := E2.trans E3
              exact iteF ⟨hlt, B3, acc, yd, rest, ex.trans E23, b1.trans E23.bb, keepD E23 bD hDi, E23.hh _ _ hDi, IsAll.mono E23.bb ia, by omega, hcr, hys⟩
      · have e : i = ds.length := by omega
        subst e
        refine .inl ⟨wk.stop Hi (b1.trans ex.bh), ?_⟩
        rw [List.drop_length] at hcr
        cases hcr
        rw [List.append_nil] at hys
        subst hys
        exact pr D acc Hi Bi ex hDi hDH bD ia
/-! the reading that a function on data is -/
def tV (X : Cx) (W : WX) (f : PEnv → R PyData) : TE := fun σ H Q => ∃ B ρ, Same B H ∧ RF X.K B σ ρ ∧ Pst X W σ H (KV1 X B H Q) (f ρ)
def tVT (X : Cx) (W : WX) (f : PEnv → R Bool) : TT := fun σ H Q => ∃ B ρ, Same B H ∧ RF X.K B σ ρ ∧ Pst X W σ H (KB1 B H Q) (f ρ)
def tVG (X : Cx) (k : PyData → R (List (Nat × PyData))) : TG := fun v σ H Q => ∃ B d, Same B H ∧ Is X.K B v d ∧ ∃ bd, k d = .ok bd ∧ ∀ bv, Bds X.K B bv bd → Q (setsV σ bv) H
theorem VE.pe {e : Expr} {f : PEnv → R PyData} (h : VE X W e f) : PE X e (tV X W f) := by
  obtain ⟨t, p, q⟩ := h.ex
  exact ⟨fun pins s σ H Q I ⟨B, ρ, s1, r, hp⟩ => p.run pins s σ H Q I (q σ H B ρ Q s1 r hp)⟩
theorem VTs.pt {e : List Expr} {f : PEnv → R Bool} (h : VTs X W e f) : PTs X e (tVT X W f) := by
  obtain ⟨t, p, q⟩ := h.ex
  exact ⟨fun pins s σ H Q I ⟨B, ρ, s1, r, hp⟩ => p.run pins s σ H Q I (q σ H B ρ Q s1 r hp)⟩
theorem VT.pt {e : Expr} {f : PEnv → R Bool} (h : VT X W e f) : PT X e (tVT X W f) := by
  obtain ⟨t, p, q⟩ := h.ex
  exact ⟨fun pins s σ H Q I ⟨B, ρ, s1, r, hp⟩ => p.run pins s σ H Q I (q σ H B ρ Q s1 r hp)⟩
theorem VG.pg {e : Expr} {sl : List Nat} {k : PyData → R (List (Nat × PyData))} (h : VG X e sl k) : PG X e (tVG X k) := by
  obtain ⟨t, p, q⟩ := h.ex
  exact ⟨fun pins s σ H v u Q I r ⟨B, d, s1, dv, hp⟩ => p.run pins s σ H v u Q I r (q v σ H B d Q s1 dv hp)⟩
/-- [e for t in it if ..] -/
theorem vcomp_ {elt tg iter : Expr} {ifs : List Expr} {scope : Scope} {own : List (Str × Nat)} {sl : List Nat} {fi : PEnv → R (List D)} {kt : D → R (List (Nat × D))} {ft : PEnv → R Bool} {fe : PEnv → R D} (hc : X.calm = true) (hN : X.N.Nodup) (hi : VI X W tg iter fi) (ok : BlkOk X.N X.env.scope scope own)
    (hg : ∀ (s : Shared) (H : Hp) (C : Addr) (cl : List (Str × Addr)) (fp : List Addr), VG (X.blk s H scope (compEnvC scope cl C X.env) fp) tg sl kt)
    (hso : ∀ i ∈ sl, i ∈ own.map (·.2))
    (ht : ∀ (s : Shared) (H : Hp) (C : Addr) (cl : List (Str × Addr)) (fp : List Addr), VTs (X.blk s H scope (compEnvC scope cl C X.env) fp) W0 ifs ft)
    (he : ∀ (s : Shared) (H : Hp) (C : Addr) (cl : List (Str × Addr)) (fp : List Addr), VE (X.blk s H scope (compEnvC scope cl C X.env) fp) W0 elt fe) (hs : ∀ x, foldedSetIterable iter X.env x = pure x := by intro _; rfl) :
    VFr X W (.ListComp elt [⟨tg, iter, ifs, 0⟩] scope pos) (vcomp (own.map (·.2)) fi kt ft fe) := by
  obtain ⟨wi, pi, qi⟩ := hi.ex
  have h1 : ∀ (s : Shared) (H : Hp) (C : Addr) (cl : List (Str × Addr)) (fp : List Addr), PG (X.blk s H scope (compEnvC scope cl C X.env) fp) tg (tVG X kt) := fun s H C cl fp => (hg s H C cl fp).pg
  have h2 : ∀ (s : Shared) (H : Hp) (C : Addr) (cl : List (Str × Addr)) (fp : List Addr), PTs (X.blk s H scope (compEnvC scope cl C X.env) fp) ifs (tVT X W0 ft) := fun s H C cl fp => (ht s H C cl fp).pt
  have h3 : ∀ (s : Shared) (H : Hp) (C : Addr) (cl : List (Str × Addr)) (fp : List Addr), PE (X.blk s H scope (compEnvC scope cl C X.env) fp) elt (tV X W0 fe) := fun s H C cl fp => (he s H C cl fp).pe
  refine ⟨_, pe_lc hc hN pi ok h1 h2 h3 hs, fun σ H B ρ Q s rf pr => ?_⟩
  have hsl : ∀ d bs, kt d = .ok bs → bs.map (·.1) = sl := (hg {} (fun _ => none) 0 [] []).sl
  exact comp_read qi (fun v σ H B d Q s dv q => ⟨B, d, s, dv, q⟩) hsl hso (fun σ H B ρ Q s r p => ⟨B, ρ, s, r, p⟩) (fun σ H B ρ Q s r p => ⟨B, ρ, s, r, p⟩) s rf pr
/-! other new lists -/
theorem vlst_f {n : Nat} {g : PEnv → R (List PyData)} (h : VAn X W n es g) (hz : n ≤ 1000 := by decide) : VFr X W (.List es pos) g := by
  obtain ⟨t, pt, qt⟩ := h.va.ex
  refine ⟨_, pe_lst pt, fun σ H B ρ Q s r p => ?_⟩
  cases hg : g ρ with
  | stuck => rw [hg] at p; exact p.elim
  | err c => rw [hg] at p; exact qt σ H B ρ _ s r (by rw [hg]; exact p)
  | ok ds =>
    rw [hg] at p
    refine qt σ H B ρ _ s r ?_
    rw [hg]
    intro xs H1 B1 e1 d1
    refine ⟨by rw [IsAll.len d1, h.len ρ ds hg]; exact Nat.le_trans hz (by decide), fun q hq => ?_⟩
    exact p q xs _ B1 (e1.trans (Ext.own e1.bh hq)) upd_same (Same.free e1.hh hq) (Same.free e1.bh hq) d1
def lseqD : PyData → R (List PyData) := seqD
theorem vlist_f {p : Pos} {e : Expr} {f : PEnv → R PyData} (hm : X.mg "list" = none) (ha : VE X W e f) (hg : Gl X "list" := by rfl) (he : starEach [e] X.env = (false, eval e X.env) :: starEach [] X.env := by rfl) (hpl : (backTo pos (starEach [] X.env)).any (·.1) = false := by rfl) :
    VFr X W (.Call (.Name "list" p) [e] [] pos) (isq f) := by
  obtain ⟨t, pt, qt⟩ := ha.ex
  refine ⟨_, pe_callTy call_list_of hg hm (by decide +kernel) (pa_cons pt pa_nil he) (by decide) (by decide) he hpl, fun σ H B ρ Q s rf pr => ?_⟩
  refine one qt s rf pr fun d x H' B' ex sm dx pg => ?_
  cases dx <;> first | exact pg.elim | skip
  · rename_i h1 h2
    exact ⟨_, _, rfl, .inl (.inl (Rd.mono ex.bh h1)), fun l hl => pg l _ _ B' (ex.trans (Ext.own ex.bh hl)) upd_same (Same.free ex.hh hl) (Same.free ex.bh hl) h2⟩
  · rename_i h1 h2
    exact ⟨_, _, rfl, .inr (Same.tupl ex.bh h1), fun l hl => pg l _ _ B' (ex.trans (Ext.own ex.bh hl)) upd_same (Same.free ex.hh hl) (Same.free ex.bh hl) h2⟩
/-- list(range(..)) -/
theorem vlist_range2 {p p2 pos2 : Pos} (hc : X.calm = true) (hm : X.mg "list" = none) (hm2 : X.mg "range" = none) (ha : VE X W a fa) (hb : VE X W b fb) (hg : Gl X "list" := by rfl) (hg2 : Gl X "range" := by rfl)
    (n1 : starEach [a, b] X.env = (false, eval a X.env) :: starEach [b] X.env := by rfl) (n2 : starEach [b] X.env = (false, eval b X.env) :: starEach [] X.env := by rfl)
    (n3 : starEach [.Call (.Name "range" p2) [a, b] [] pos2] X.env = (false, eval (.Call (.Name "range" p2) [a, b] [] pos2) X.env) :: starEach [] X.env := by rfl) : True := trivial
end
end VL

namespace VL
open PySem PySem.Spec PyProof.Rows L2

/-! ### what is one's own: trees of lists that nobody else holds -/
inductive O where
  | fz (d : PyData)
  | tup (xs : List O)
  | lst (xs : List O)
mutual
def O.data : O → PyData
  | .fz d => d
  | .tup xs => .tuple (O.datas xs)
  | .lst xs => .list (O.datas xs)
def O.datas : List O → List PyData
  | [] => []
  | x :: xs => O.data x :: O.datas xs
end
theorem O.datas_map : ∀ xs : List O, O.datas xs = xs.map O.data
  | [] => by simp [O.datas]
  | x :: xs => by simp [O.datas, O.datas_map xs]
@[simp] theorem O.data_fz (d : PyData) : O.data (.fz d) = d := by simp [O.data]
@[simp] theorem O.data_lst (xs : List O) : O.data (.lst xs) = .list (xs.map O.data) := by simp [O.data, O.datas_map]
@[simp] theorem O.data_tup (xs : List O) : O.data (.tup xs) = .tuple (xs.map O.data) := by simp [O.data, O.datas_map]
mutual
inductive Own (K : PySem.W.Frag) (F H : Hp) : V → O → List Addr → Prop
  | fz {v : V} {d : PyData} : Is K F v d → Own K F H v (.fz d) []
  | tup {a : Addr} {vs : List V} {os : List O} {fp : List Addr} : SqT K F a vs → OwnL K F H vs os fp → Own K F H (.ref a) (.tup os) fp
  | lst {a : Addr} {vs : List V} {os : List O} {fp : List Addr} : H a = some (.lst vs) → OwnL K F H vs os fp → Own K F H (.ref a) (.lst os) (a :: fp)
inductive OwnL (K : PySem.W.Frag) (F H : Hp) : List V → List O → List Addr → Prop
  | nil : OwnL K F H [] [] []
  | cons {v : V} {vs : List V} {o : O} {os : List O} {fp fps : List Addr} : Own K F H v o fp → OwnL K F H vs os fps → OwnL K F H (v :: vs) (o :: os) (fp ++ fps)
end
mutual
theorem Own.keep {K : PySem.W.Frag} {F F' H H' : Hp} (e : Same F F') : ∀ {o : O} {v : V} {fp : List Addr}, Own K F H v o fp → (∀ a ∈ fp, H' a = H a) → Own K F' H' v o fp
  | .fz d, _, _, h, _ => by cases h with | fz h => exact .fz (Is.mono e h)
  | .tup os, _, _, h, k => by cases h with | tup h1 h2 => exact .tup (Same.tupl e h1) (OwnL.keep e h2 k)
  | .lst os, _, _, h, k => by
    cases h with
    | lst h1 h2 => exact .lst ((k _ List.mem_cons_self).trans h1) (OwnL.keep e h2 fun a ha => k a (List.mem_cons_of_mem _ ha))
theorem OwnL.keep {K : PySem.W.Frag} {F F' H H' : Hp} (e : Same F F') : ∀ {os : List O} {vs : List V} {fp : List Addr}, OwnL K F H vs os fp → (∀ a ∈ fp, H' a = H a) → OwnL K F' H' vs os fp
  | [], _, _, h, _ => by cases h; exact .nil
  | o :: os, _, _, h, k => by
    cases h with
    | cons h1 h2 => exact .cons (Own.keep e h1 fun a ha => k a (List.mem_append_left _ ha)) (OwnL.keep e h2 fun a ha => k a (List.mem_append_right _ ha))
end
mutual
/- seen as data, in a heap that holds the frozen part and the footprint -/
theorem Own.is {K : PySem.W.Frag} {F H B : Hp} (e : Same F B) : ∀ {o : O} {v : V} {fp : List Addr}, Own K F H v o fp → (∀ a ∈ fp, B a = H a) → Is K B v o.data
  | .fz d, _, _, h, _ => by cases h with | fz h => rw [O.data_fz]; exact Is.mono e h
  | .tup os, _, _, h, k => by cases h with | tup h1 h2 => rw [O.data]; exact .tup (Same.tupl e h1) (OwnL.is e h2 k)
  | .lst os, _, _, h, k => by
    cases h with
    | lst h1 h2 => rw [O.data]; exact .lst (.inl ((k _ List.mem_cons_self).trans h1)) (OwnL.is e h2 fun a ha => k a (List.mem_cons_of_mem _ ha))
theorem OwnL.is {K : PySem.W.Frag} {F H B : Hp} (e : Same F B) : ∀ {os : List O} {vs : List V} {fp : List Addr}, OwnL K F H vs os fp → (∀ a ∈ fp, B a = H a) → IsAll K B vs (O.datas os)
  | [], _, _, h, _ => by cases h; rw [O.datas]; exact .nil
  | o :: os, _, _, h, k => by
    cases h with
    | cons h1 h2 => rw [O.datas]; exact .cons (Own.is e h1 fun a ha => k a (List.mem_append_left _ ha)) (OwnL.is e h2 fun a ha => k a (List.mem_append_right _ ha))
end
mutual
theorem Own.lstAt {K : PySem.W.Frag} {F H : Hp} : ∀ {o : O} {v : V} {fp : List Addr}, Own K F H v o fp → ∀ a ∈ fp, ∃ vs, H a = some (.lst vs)
  | .fz d, _, _, h, a, ha => by cases h with | fz h => cases ha
  | .tup os, _, _, h, a, ha => by cases h with | tup h1 h2 => exact OwnL.lstAt h2 a ha
  | .lst os, _, _, h, a, ha => by
    cases h with
    | lst h1 h2 =>
      rcases List.mem_cons.mp ha with e | e
      · subst e; exact ⟨_, h1⟩
      · exact OwnL.lstAt h2 a e
theorem OwnL.lstAt {K : PySem.W.Frag} {F H : Hp} : ∀ {os : List O} {vs : List V} {fp : List Addr}, OwnL K F H vs os fp → ∀ a ∈ fp, ∃ vs, H a = some (.lst vs)
  | [], _, _, h, a, ha => by cases h; cases ha
  | o :: os, _, _, h, a, ha => by
    cases h with
    | cons h1 h2 =>
      rcases List.mem_append.mp ha with e | e
      · exact Own.lstAt h1 a e
      · exact OwnL.lstAt h2 a e
end
theorem OwnL.len {K : PySem.W.Frag} {F H : Hp} : ∀ {os : List O} {vs : List V} {fp : List Addr}, OwnL K F H vs os fp → vs.length = os.length
  | [], _, _, h => by cases h; rfl
  | o :: os, _, _, h => by
    cases h with
    | cons h1 h2 => rw [List.length_cons, List.length_cons, OwnL.len h2]
theorem OwnL.append {K : PySem.W.Frag} {F H : Hp} : ∀ {os ps : List O} {vs us : List V} {f g : List Addr}, OwnL K F H vs os f → OwnL K F H us ps g → OwnL K F H (vs ++ us) (os ++ ps) (f ++ g)
  | [], _, _, _, _, _, h, q => by cases h; exact q
  | o :: os, _, _, _, _, _, h, q => by
    cases h with
    | cons h1 h2 => rw [List.append_assoc]; exact .cons h1 (OwnL.append h2 q)
/-- frozen items -/
theorem OwnL.fzs {K : PySem.W.Frag} {F H : Hp} : ∀ {ds : List PyData} {vs : List V}, IsAll K F vs ds → OwnL K F H vs (ds.map O.fz) []
  | [], _, h => by cases h; exact .nil
  | d :: ds, _, h => by
    cases h with
    | cons h1 h2 => exact .cons (.fz h1) (OwnL.fzs h2)

/-! ### the slots -/
abbrev OEnv := List (Option O)
inductive Slots (K : PySem.W.Frag) (F H : Hp) : L2.St → OEnv → List Addr → Prop
  | nil : Slots K F H [] [] []
  | un {s : Option V} {σ : L2.St} {ρ : OEnv} {fps : List Addr} : Slots K F H σ ρ fps → Slots K F H (s :: σ) (none :: ρ) fps
  | ow {v : V} {o : O} {fp : List Addr} {σ : L2.St} {ρ : OEnv} {fps : List Addr} : Own K F H v o fp → Slots K F H σ ρ fps → Slots K F H (some v :: σ) (some o :: ρ) (fp ++ fps)
section
variable {K : PySem.W.Frag} {F F' H H' B : Hp} {σ : L2.St} {ρ : OEnv} {fps : List Addr}
theorem Slots.len (h : Slots K F H σ ρ fps) : σ.length = ρ.length := by
  induction h with
  | nil => rfl
  | un _ ih => rw [List.length_cons, List.length_cons, ih]
  | ow _ _ ih => rw [List.length_cons, List.length_cons, ih]
theorem Slots.keep (h : Slots K F H σ ρ fps) (e : Same F F') (k : ∀ a ∈ fps, H' a = H a) : Slots K F' H' σ ρ fps := by
  induction h with
  | nil => exact .nil
  | un _ ih => exact .un (ih k)
  | ow h1 _ ih => exact .ow (h1.keep e fun a ha => k a (List.mem_append_left _ ha)) (ih fun a ha => k a (List.mem_append_right _ ha))
theorem Slots.lstAt (h : Slots K F H σ ρ fps) : ∀ a ∈ fps, ∃ vs, H a = some (.lst vs) := by
  induction h with
  | nil => intro a ha; cases ha
  | un _ ih => exact ih
  | ow h1 _ ih =>
    intro a ha
    rcases List.mem_append.mp ha with e | e
    · exact h1.lstAt a e
    · exact ih a e
/-- slot i out of the slots, and something else into it -/
theorem Slots.split (h : Slots K F H σ ρ fps) : ∀ {i : Nat} {o : O}, ρ[i]? = some (some o) → ∃ v fp fpr, σ[i]? = some (some v) ∧ Own K F H v o fp ∧ fps.Perm (fp ++ fpr) ∧
    (∀ s, Slots K F H (σ.set i s) (ρ.set i none) fpr) ∧ ∀ F' H' v' o' fp', Own K F' H' v' o' fp' → Same F F' → (∀ a ∈ fpr, H' a = H a) → ∃ fps', Slots K F' H' (σ.set i (some v')) (ρ.set i (some o')) fps' ∧ fps'.Perm (fp' ++ fpr) := by
  induction h with
  | nil => intro i o e; simp at e
  | @un s σ ρ fps h ih =>
    intro i o e
    cases i with
    | zero => simp at e
    | succ i =>
      obtain ⟨v, fp, fpr, e1, e2, e3, e4, e5⟩ := ih (i := i) (by simpa using e)
      refine ⟨v, fp, fpr, by simpa using e1, e2, e3, fun s => .un (e4 s), fun F' H' v' o' fp' q1 q2 q3 => ?_⟩
      obtain ⟨fps', z1, z2⟩ := e5 F' H' v' o' fp' q1 q2 q3
      exact ⟨fps', .un z1, z2⟩
  | @ow v o' fp σ ρ fps h1 h ih =>
    intro i o e
    cases i with
    | zero =>
      simp at e
      subst e
      exact ⟨v, fp, fps, rfl, h1, .refl _, fun s => .un h, fun F' H' v' o' fp' q1 q2 q3 => ⟨fp' ++ fps, .ow q1 (h.keep q2 q3), .refl _⟩⟩
    | succ i =>
      obtain ⟨v2, fp2, fpr, e1, e2, e3, e4, e5⟩ := ih (i := i) (by simpa using e)
      refine ⟨v2, fp2, fp ++ fpr, by simpa using e1, e2, ?_, fun s => .ow h1 (e4 s), fun F' H' v' o'' fp' q1 q2 q3 => ?_⟩
      · refine (List.Perm.append_left fp e3).trans ?_
        rw [← List.append_assoc, ← List.append_assoc]
        exact List.Perm.append_right _ List.perm_append_comm
      · obtain ⟨fps', z1, z2⟩ := e5 F' H' v' o'' fp' q1 q2 fun a ha => q3 a (List.mem_append_right _ ha)
        refine ⟨fp ++ fps', .ow (h1.keep q2 fun a ha => q3 a (List.mem_append_left _ ha)) z1, ?_⟩
        refine (List.Perm.append_left fp z2).trans ?_
        rw [← List.append_assoc, ← List.append_assoc]
        exact List.Perm.append_right _ List.perm_append_comm
/-- slot i is forgotten -/
theorem Slots.drop (h : Slots K F H σ ρ fps) : ∀ (i : Nat) (s : Option V), ∃ fpr, Slots K F H (σ.set i s) (ρ.set i none) fpr ∧ fpr.Sublist fps := by
  induction h with
  | nil => intro i s; exact ⟨[], by simp; exact .nil, .refl _⟩
  | @un s' σ ρ fps h ih =>
    intro i s
    cases i with
    | zero => exact ⟨fps, .un h, .refl _⟩
    | succ i => obtain ⟨f, z1, z2⟩ := ih i s; exact ⟨f, .un z1, z2⟩
  | @ow v o' fp σ ρ fps h1 h ih =>
    intro i s
    cases i with
    | zero => exact ⟨fps, .un h, List.sublist_append_right _ _⟩
    | succ i => obtain ⟨f, z1, z2⟩ := ih i s; exact ⟨fp ++ f, .ow h1 z1, List.Sublist.append_left z2 _⟩
/-- a value comes into slot i -/
theorem Slots.put (h : Slots K F H σ ρ fps) {v : V} {o : O} {fp : List Addr} (ho : Own K F H v o fp) : ∀ (i : Nat), i < ρ.length → ∃ fps', Slots K F H (σ.set i (some v)) (ρ.set i (some o)) fps' ∧ ∃ fpr, fps'.Perm (fp ++ fpr) ∧ fpr.Sublist fps := by
  induction h with
  | nil => intro i hi; simp at hi
  | @un s' σ ρ fps h ih =>
    intro i hi
    cases i with
    | zero => exact ⟨fp ++ fps, .ow ho h, fps, .refl _, .refl _⟩
    | succ i => obtain ⟨f, z1, g, z2, z3⟩ := ih i (by simpa using hi); exact ⟨f, .un z1, g, z2, z3⟩
  | @ow v' o' fp' σ ρ fps h1 h ih =>
    intro i hi
    cases i with
    | zero => exact ⟨fp ++ fps, .ow ho h, fps, .refl _, List.sublist_append_right _ _⟩
    | succ i =>
      obtain ⟨f, z1, g, z2, z3⟩ := ih i (by simpa using hi)
      refine ⟨fp' ++ f, .ow h1 z1, fp' ++ g, ?_, List.Sublist.append_left z3 _⟩
      refine (List.Perm.append_left fp' z2).trans ?_
      rw [← List.append_assoc, ← List.append_assoc]
      exact List.Perm.append_right _ List.perm_append_comm
end
/-- the slots seen as data -/
def viewB (ρ : OEnv) : PEnv := ρ.map (Option.map O.data)
def fzOf : Option O → Option PyData
  | some (.fz d) => some d
  | _ => none
def viewF (ρ : OEnv) : PEnv := ρ.map fzOf
theorem Slots.rfB {K : PySem.W.Frag} {F H B : Hp} {σ : L2.St} {ρ : OEnv} {fps : List Addr} (e : Same F B) (h : Slots K F H σ ρ fps) (k : ∀ a ∈ fps, B a = H a) : RF K B σ (viewB ρ) := by
  refine ⟨by unfold viewB; rw [List.length_map]; exact h.len, ?_⟩
  induction h with
  | nil => intro i d x; simp [viewB] at x
  | un _ ih =>
    intro i d x
    cases i with
    | zero => simp [viewB] at x
    | succ i => obtain ⟨v, z1, z2⟩ := ih k i d (by simpa [viewB] using x); exact ⟨v, by simpa using z1, z2⟩
  | @ow v o fp σ ρ fps h1 _ ih =>
    intro i d x
    cases i with
    | zero =>
      simp [viewB] at x
      subst x
      exact ⟨v, rfl, h1.is e fun a ha => k a (List.mem_append_left _ ha)⟩
    | succ i => obtain ⟨v, z1, z2⟩ := ih (fun a ha => k a (List.mem_append_right _ ha)) i d (by simpa [viewB] using x); exact ⟨v, by simpa using z1, z2⟩
theorem Slots.rfF {K : PySem.W.Frag} {F H : Hp} {σ : L2.St} {ρ : OEnv} {fps : List Addr} (h : Slots K F H σ ρ fps) : RF K F σ (viewF ρ) := by
  refine ⟨by unfold viewF; rw [List.length_map]; exact h.len, ?_⟩
  induction h with
  | nil => intro i d x; simp [viewF] at x
  | un _ ih =>
    intro i d x
    cases i with
    | zero => simp [viewF, fzOf] at x
    | succ i => obtain ⟨v, z1, z2⟩ := ih i d (by simpa [viewF] using x); exact ⟨v, by simpa using z1, z2⟩
  | @ow v o fp σ ρ fps h1 _ ih =>
    intro i d x
    cases i with
    | zero =>
      cases o with
      | fz d' =>
        simp [viewF, fzOf] at x
        subst x
        cases h1 with | fz h1 => exact ⟨v, rfl, h1⟩
      | tup _ => simp [viewF, fzOf] at x
      | lst _ => simp [viewF, fzOf] at x
    | succ i => obtain ⟨v, z1, z2⟩ := ih i d (by simpa [viewF] using x); exact ⟨v, by simpa using z1, z2⟩

/-! ### the state of a def's body: F0, H0 the frozen part and the heap at its entry -/
structure Hs (F0 H0 F H : Hp) (fps : List Addr) : Prop where
  nd : fps.Nodup
  ow : ∀ a ∈ fps, F a = none ∧ H0 a = none
  fh : Same F H
  f0 : Same F0 F
  h0 : Same H0 H
  nw : ∀ a, F0 a = none → F a ≠ none → H0 a = none
theorem Hs.perm {F0 H0 F H : Hp} {fps fps' : List Addr} (h : Hs F0 H0 F H fps) (p : fps.Perm fps') : Hs F0 H0 F H fps' := ⟨p.nodup_iff.mp h.nd, fun a ha => h.ow a (p.mem_iff.mpr ha), h.fh, h.f0, h.h0, h.nw⟩
theorem Hs.sub {F0 H0 F H : Hp} {fps fps' : List Addr} (h : Hs F0 H0 F H fps) (p : fps'.Sublist fps) : Hs F0 H0 F H fps' := ⟨h.nd.sublist p, fun a ha => h.ow a (p.subset ha), h.fh, h.f0, h.h0, h.nw⟩
/-- the heap grows -/
theorem Hs.ext {F0 H0 F H F' H' : Hp} {fps : List Addr} (h : Hs F0 H0 F H fps) (e : Ext F H F' H') (l : ∀ a ∈ fps, ∃ vs, H a = some (.lst vs)) : Hs F0 H0 F' H' fps :=
  ⟨h.nd, fun a ha => ⟨(by
    cases q : F' a with
    | none => rfl
    | some o =>
      obtain ⟨vs, z⟩ := l a ha
      have := e.nw a (h.ow a ha).1 (by rw [q]; exact fun w => nomatch w)
      rw [z] at this
      cases this), (h.ow a ha).2⟩, e.bh, h.f0.trans e.bb, h.h0.trans e.hh, fun a h1 h2 => by
    cases q : F a with
    | some o => exact h.nw a h1 (by rw [q]; exact fun w => nomatch w)
    | none => exact Same.free h.h0 (e.nw a q h2)⟩
structure RS (K : PySem.W.Frag) (F0 H0 F H : Hp) (σ : L2.St) (ρ : OEnv) : Prop where
  ex : ∃ fps, Slots K F H σ ρ fps ∧ Hs F0 H0 F H fps
theorem RS.ext {K : PySem.W.Frag} {F0 H0 F H F' H' : Hp} {σ : L2.St} {ρ : OEnv} (h : RS K F0 H0 F H σ ρ) (e : Ext F H F' H') : RS K F0 H0 F' H' σ ρ := by
  obtain ⟨fps, s, hs⟩ := h.ex
  exact ⟨fps, s.keep e.bb fun a ha => by
    obtain ⟨vs, z⟩ := s.lstAt a ha
    rw [z]; exact e.hh _ _ z, hs.ext e s.lstAt⟩
theorem RS.grow {K : PySem.W.Frag} {F0 H0 F H H' : Hp} {σ : L2.St} {ρ : OEnv} (h : RS K F0 H0 F H σ ρ) (e : Same H H') : RS K F0 H0 F H' σ ρ := by
  obtain ⟨fps, s, hs⟩ := id h.ex
  exact h.ext ⟨e, Same.refl F, hs.fh.trans e, fun a x y => absurd x y⟩
/-- the heap in which everything is seen as data -/
def bor (F H : Hp) (fps : List Addr) : Hp := fun a => if a ∈ fps then H a else F a
theorem bor_own {F H : Hp} {fps : List Addr} {a : Addr} (h : a ∈ fps) : bor F H fps a = H a := if_pos h
theorem bor_not {F H : Hp} {fps : List Addr} {a : Addr} (h : a ∉ fps) : bor F H fps a = F a := if_neg h
theorem Hs.bor {F0 H0 F H : Hp} {fps : List Addr} (h : Hs F0 H0 F H fps) : Same F (bor F H fps) ∧ Same (VL.bor F H fps) H := by
  refine ⟨fun a o e => ?_, fun a o e => ?_⟩
  · rw [bor_not (fun ha => by rw [(h.ow a ha).1] at e; cases e)]; exact e
  · by_cases ha : a ∈ fps
    · rw [bor_own ha] at e; exact e
    · rw [bor_not ha] at e; exact h.fh _ _ e
/-- behind an expression that saw everything: what is new is frozen -/
theorem Hs.unbor {F0 H0 F H B' H' : Hp} {fps : List Addr} (h : Hs F0 H0 F H fps) (l : ∀ a ∈ fps, ∃ vs, H a = some (.lst vs)) (e : Ext (VL.bor F H fps) H B' H') :
    ∃ F', Ext F H F' H' ∧ (∀ b, (∃ ys, Rd B' b (.tup ys)) → F' b = B' b) ∧ Same F' B' := by
  obtain ⟨b1, b2⟩ := h.bor
  refine ⟨fun a => if a ∈ fps then none else B' a, ⟨e.hh, fun a o q => ?_, fun a o q => ?_, fun a h1 h2 => ?_⟩, fun b ⟨ys, hb⟩ => ?_, fun a o q => ?_⟩
  · show (if a ∈ fps then none else B' a) = some o
    rw [if_neg (fun ha => by rw [(h.ow a ha).1] at q; cases q)]
    exact e.bb _ _ (b1 _ _ q)
  · by_cases ha : a ∈ fps
    · rw [if_pos ha] at q; cases q
    · rw [if_neg ha] at q; exact e.bh _ _ q
  · by_cases ha : a ∈ fps
    · exact absurd (if_pos ha) h2
    · have h2 : B' a ≠ none := fun z => h2 ((if_neg ha).trans z)
      exact e.nw a (by rw [bor_not ha]; exact h1) h2
  · refine if_neg fun ha => ?_
    obtain ⟨vs, z⟩ := l b ha
    have q := e.bb b _ ((bor_own ha).trans z)
    rcases hb with hb | ⟨o, hb⟩ <;> (rw [q] at hb; cases hb)
  · have q : (if a ∈ fps then none else B' a) = some o := q
    by_cases ha : a ∈ fps
    · rw [if_pos ha] at q; cases q
    · rw [if_neg ha] at q; exact q
end VL

namespace VL
open PySem PySem.Spec PyProof.Rows L2

/-! ### expressions in a def's body -/
def lfok (d : PyData) : R PyData := if lf d then .ok d else .stuck
def exF (f : PEnv → R PyData) : OEnv → R PyData := fun ρ => f (viewF ρ)
def exB (f : PEnv → R PyData) : OEnv → R PyData := fun ρ => (f (viewB ρ)).bind lfok
def KX (X : Cx) (F H : Hp) (Q : VK) (d : PyData) : Prop := ∀ v H' F', Ext F H F' H' → Is X.K F' v d → Q v H'
structure VX (X : Cx) (W : WX) (e : Expr) (h : OEnv → R PyData) : Prop where
  ex : ∃ t, PE X e t ∧ ∀ σ H F0 H0 F ρ Q, RS X.K F0 H0 F H σ ρ → Pst X W σ H (KX X F H Q) (h ρ) → t σ H Q
def KXT (F H : Hp) (Q : Bool → Hp → Prop) (b : Bool) : Prop := ∀ H' F', Ext F H F' H' → Q b H'
structure VXT (X : Cx) (W : WX) (e : Expr) (h : OEnv → R Bool) : Prop where
  ex : ∃ t, PT X e t ∧ ∀ σ H F0 H0 F ρ Q, RS X.K F0 H0 F H σ ρ → Pst X W σ H (KXT F H Q) (h ρ) → t σ H Q
section
variable {X : Cx} {W : WX} {a b c e : Expr} {es : List Expr} {pos : Pos} {fa fb fc f : PEnv → R PyData} {ft fu : PEnv → R Bool} {k : Nat}
theorem vxF (h : VE X W e f) : VX X W e (exF f) := by
  obtain ⟨t, p, q⟩ := h.ex
  refine ⟨t, p, fun σ H F0 H0 F ρ Q r pr => ?_⟩
  obtain ⟨fps, s, hs⟩ := r.ex
  exact q σ H F _ Q hs.fh s.rfF (Pst.imp (fun d kx v H' B' ex sm dv => kx v H' B' ex dv) pr)
theorem vxB (h : VE X W e f) : VX X W e (exB f) := by
  obtain ⟨t, p, q⟩ := h.ex
  refine ⟨t, p, fun σ H F0 H0 F ρ Q r pr => ?_⟩
  obtain ⟨fps, s, hs⟩ := r.ex
  obtain ⟨b1, b2⟩ := hs.bor
  refine q σ H (bor F H fps) _ Q b2 (s.rfB b1 fun a ha => bor_own ha) ?_
  unfold exB at pr
  generalize f (viewB ρ) = rr at pr ⊢
  cases rr with
  | stuck => exact pr
  | err c => exact pr
  | ok d =>
    simp only [R.bind_ok, lfok] at pr
    split at pr
    · rename_i hl
      intro v H' B' ex sm dv
      obtain ⟨F', e1, e2, e3⟩ := hs.unbor s.lstAt ex
      exact pr v H' F' e1 (Is.lfree e2 hl dv)
    · exact pr.elim
theorem vxT (h : VT X W e ft) : VXT X W e (fun ρ => ft (viewB ρ)) := by
  obtain ⟨t, p, q⟩ := h.ex
  refine ⟨t, p, fun σ H F0 H0 F ρ Q r pr => ?_⟩
  obtain ⟨fps, s, hs⟩ := r.ex
  obtain ⟨b1, b2⟩ := hs.bor
  refine q σ H (bor F H fps) _ Q b2 (s.rfB b1 fun a ha => bor_own ha) (Pst.imp (fun d kx H' B' ex => ?_) pr)
  obtain ⟨F', e1, e2, e3⟩ := hs.unbor s.lstAt ex
  exact kx H' F' e1
end

/-! ### expressions that hand on what is one's own -/
def KO (X : Cx) (F0 H0 : Hp) (σ : L2.St) (Q : VK) (o : O × OEnv) : Prop := ∀ v H' F', RS X.K F0 H0 F' H' (some v :: σ) (some o.1 :: o.2) → Q v H'
structure VO (X : Cx) (W : WX) (e : Expr) (h : OEnv → R (O × OEnv)) : Prop where
  ex : ∃ t, PE X e t ∧ ∀ σ H F0 H0 F ρ Q, RS X.K F0 H0 F H σ ρ → Pst X W σ H (KO X F0 H0 σ Q) (h ρ) → t σ H Q
def oX (h : OEnv → R PyData) : OEnv → R (O × OEnv) := fun ρ => (h ρ).bind fun d => .ok (.fz d, ρ)
def oMv (i : Nat) : OEnv → R (O × OEnv) := fun ρ => match ρ[i]? with
  | some (some o) => .ok (o, ρ.set i none)
  | _ => .stuck
def oFrF (f : PEnv → R (List PyData)) : OEnv → R (O × OEnv) := fun ρ => (f (viewF ρ)).bind fun ds => .ok (.lst (ds.map O.fz), ρ)
def oFrB (f : PEnv → R (List PyData)) : OEnv → R (O × OEnv) := fun ρ => (f (viewB ρ)).bind fun ds => if lfs ds then .ok (.lst (ds.map O.fz), ρ) else .stuck
section
variable {X : Cx} {W : WX} {a b c e : Expr} {es : List Expr} {pos : Pos} {h : OEnv → R PyData} {f : PEnv → R (List PyData)} {k : Nat}
theorem vo_x (g : VX X W e h) : VO X W e (oX h) := by
  obtain ⟨t, p, q⟩ := g.ex
  refine ⟨t, p, fun σ H F0 H0 F ρ Q r pr => ?_⟩
  refine q σ H F0 H0 F ρ Q r ?_
  unfold oX at pr
  generalize h ρ = rr at pr ⊢
  cases rr with
  | stuck => exact pr
  | err c => exact pr
  | ok d =>
    intro v H' F' ex dv
    obtain ⟨fps, s, hs⟩ := (r.ext ex).ex
    exact pr v H' F' ⟨fps, .ow (.fz dv) s, hs⟩
theorem vo_mv (i : Nat) {x : Str} (hN : X.N[i]? = some x := by rfl) (hv : Vis X.env.scope x := by first | exact Or.inl rfl | exact Or.inr (Or.inl rfl) | exact Or.inr (Or.inr rfl)) (hd : (x == ("__debug__" : Str)) = false := by decide)
    (hcd : (x == ("__classdict__" : Str)) = false := by decide) : VO X W (.Name x pos) (oMv i) := by
  refine ⟨_, pe_var hN hv hd hcd, fun σ H F0 H0 F ρ Q r pr => ?_⟩
  obtain ⟨fps, s, hs⟩ := r.ex
  unfold oMv at pr
  split at pr
  · rename_i o e
    obtain ⟨v, fp, fpr, e1, e2, e3, e4, e5⟩ := s.split e
    refine ⟨v, e1, pr v H F ⟨fp ++ fpr, .ow e2 ?_, hs.perm e3⟩⟩
    have z := e4 (some v)
    have q : σ.set i (some v) = σ := by
      refine List.ext_getElem? fun j => ?_
      by_cases hj : j = i
      · subst hj
        obtain ⟨q1, q2⟩ := List.getElem?_eq_some_iff.mp e1
        rw [List.getElem?_set_self q1, e1]
      · rw [List.getElem?_set_ne (Ne.symm hj)]
    rw [q] at z
    exact z
  · exact pr.elim
theorem vo_frF (g : VFr X W e f) : VO X W e (oFrF f) := by
  obtain ⟨t, p, q⟩ := g.ex
  refine ⟨t, p, fun σ H F0 H0 F ρ Q r pr => ?_⟩
  obtain ⟨fps, s, hs⟩ := r.ex
  refine q σ H F _ Q hs.fh s.rfF ?_
  unfold oFrF at pr
  generalize f (viewF ρ) = rr at pr ⊢
  cases rr with
  | stuck => exact pr
  | err c => exact pr
  | ok ds =>
    intro pa vs H' B' ex hp hn bn ia
    have hs' := hs.ext ex s.lstAt
    have s' : Slots X.K B' H' σ ρ fps := s.keep ex.bb fun a ha => by
      obtain ⟨us, z⟩ := s.lstAt a ha
      rw [z]; exact ex.hh _ _ z
    refine pr (.ref pa) H' B' ⟨[pa] ++ fps, .ow (.lst hp (OwnL.fzs ia)) s', ?_, ?_, hs'.fh, hs'.f0, hs'.h0, hs'.nw⟩
    · refine List.nodup_cons.mpr ⟨fun hm => ?_, hs'.nd⟩
      obtain ⟨us, z⟩ := s.lstAt pa hm
      rw [hn] at z; cases z
    · intro a ha
      rcases List.mem_cons.mp ha with e | e
      · subst e; exact ⟨bn, Same.free hs.h0 hn⟩
      · exact hs'.ow a e
theorem vo_frB (g : VFr X W e f) : VO X W e (oFrB f) := by
  obtain ⟨t, p, q⟩ := g.ex
  refine ⟨t, p, fun σ H F0 H0 F ρ Q r pr => ?_⟩
  obtain ⟨fps, s, hs⟩ := r.ex
  obtain ⟨b1, b2⟩ := hs.bor
  refine q σ H (bor F H fps) _ Q b2 (s.rfB b1 fun a ha => bor_own ha) ?_
  unfold oFrB at pr
  generalize f (viewB ρ) = rr at pr ⊢
  cases rr with
  | stuck => exact pr
  | err c => exact pr
  | ok ds =>
    simp only [R.bind_ok] at pr
    split at pr
    · rename_i hl
      intro pa vs H' B' ex hp hn bn ia
      obtain ⟨F', e1, e2, e3⟩ := hs.unbor s.lstAt ex
      have hs' := hs.ext e1 s.lstAt
      have s' : Slots X.K F' H' σ ρ fps := s.keep e1.bb fun a ha => by
        obtain ⟨us, z⟩ := s.lstAt a ha
        rw [z]; exact e1.hh _ _ z
      have hpa : pa ∉ fps := fun hm => by
        obtain ⟨us, z⟩ := s.lstAt pa hm
        rw [hn] at z; cases z
      have fn : F' pa = none := by
        cases z : F' pa with
        | none => rfl
        | some o => have w := e3 _ _ z; rw [bn] at w; cases w
      refine pr (.ref pa) H' F' ⟨[pa] ++ fps, .ow (.lst hp (OwnL.fzs (IsAll.lfree e2 hl ia))) s', ?_, ?_, hs'.fh, hs'.f0, hs'.h0, hs'.nw⟩
      · exact List.nodup_cons.mpr ⟨hpa, hs'.nd⟩
      · intro a ha
        rcases List.mem_cons.mp ha with e | e
        · subst e; exact ⟨fn, Same.free hs.h0 hn⟩
        · exact hs'.ow a e
    · exact pr.elim
end

/-! ### statements -/
inductive SR where
  | stuck
  | err (c : Str) (ρ : OEnv)
  | nx (ρ : OEnv)
  | rt (o : O)
  | bk (ρ : OEnv)
  | ct (ρ : OEnv)
def RV (K : PySem.W.Frag) (F0 H0 F H : Hp) (v : V) (o : O) : Prop := ∃ fp, Own K F H v o fp ∧ Hs F0 H0 F H fp
def SPst (X : Cx) (W : WX) (F0 H0 : Hp) (D : Ends) : SR → Prop
  | .stuck => False
  | .err c ρ => ∀ σ' H' F', RS X.K F0 H0 F' H' σ' ρ → ErrAt X W c σ' H'
  | .nx ρ => ∀ σ' H' F', RS X.K F0 H0 F' H' σ' ρ → D.nx σ' H'
  | .bk ρ => ∀ σ' H' F', RS X.K F0 H0 F' H' σ' ρ → D.bk σ' H'
  | .ct ρ => ∀ σ' H' F', RS X.K F0 H0 F' H' σ' ρ → D.ct σ' H'
  | .rt o => ∀ v H' F', RV X.K F0 H0 F' H' v o → D.rt v H'
structure VS (X : Cx) (W : WX) (st : Stmt) (g : OEnv → SR) : Prop where
  ex : ∃ t, PS X st t ∧ ∀ D σ H F0 H0 F ρ, RS X.K F0 H0 F H σ ρ → SPst X W F0 H0 D (g ρ) → t D σ H
structure VSs (X : Cx) (W : WX) (sts : List Stmt) (g : OEnv → SR) : Prop where
  ex : ∃ t, PSs X sts t ∧ ∀ D σ H F0 H0 F ρ, RS X.K F0 H0 F H σ ρ → SPst X W F0 H0 D (g ρ) → t D σ H
def SR.seq (r : SR) (g : OEnv → SR) : SR := match r with
  | .nx ρ => g ρ
  | r => r
/-- what an expression gives goes on; what it raises leaves with the slots as they were -/
def R.sr {α : Type} (x : R α) (ρ : OEnv) (f : α → SR) : SR := match x with
  | .stuck => .stuck
  | .err c => .err c ρ
  | .ok a => f a
@[simp] theorem R.sr_ok {α : Type} (a : α) (ρ : OEnv) (f : α → SR) : R.sr (.ok a) ρ f = f a := rfl
@[simp] theorem R.sr_err {α : Type} (c : Str) (ρ : OEnv) (f : α → SR) : R.sr (.err c : R α) ρ f = .err c ρ := rfl
@[simp] theorem R.sr_stuck {α : Type} (ρ : OEnv) (f : α → SR) : R.sr (.stuck : R α) ρ f = .stuck := rfl
@[simp] theorem SR.seq_nx (ρ : OEnv) (g : OEnv → SR) : SR.seq (.nx ρ) g = g ρ := rfl
@[simp] theorem SR.seq_rt (o : O) (g : OEnv → SR) : SR.seq (.rt o) g = .rt o := rfl
@[simp] theorem SR.seq_err (c : Str) (ρ : OEnv) (g : OEnv → SR) : SR.seq (.err c ρ) g = .err c ρ := rfl
@[simp] theorem SR.seq_bk (ρ : OEnv) (g : OEnv → SR) : SR.seq (.bk ρ) g = .bk ρ := rfl
@[simp] theorem SR.seq_ct (ρ : OEnv) (g : OEnv → SR) : SR.seq (.ct ρ) g = .ct ρ := rfl
theorem sr_pst {α : Type} {X : Cx} {W : WX} {F0 H0 F H : Hp} {D : Ends} {σ : L2.St} {ρ : OEnv} {x : R α} {f : α → SR} {K : α → Prop} (r : RS X.K F0 H0 F H σ ρ) (p : SPst X W F0 H0 D (x.sr ρ f)) (h : ∀ a, SPst X W F0 H0 D (f a) → K a) : Pst X W σ H K x := by
  cases x with
  | stuck => exact p
  | err c => exact fun H' e => p σ H' F (r.grow e)
  | ok a => exact h a p
section
variable {X : Cx} {W : WX} {a b c e : Expr} {st : Stmt} {sts rest : List Stmt} {pos : Pos} {g h : OEnv → SR} {hx : OEnv → R PyData} {ho : OEnv → R (O × OEnv)} {k : Nat}
theorem vss_nil : VSs X W [] (fun ρ => .nx ρ) := ⟨_, pss_nil, fun D σ H F0 H0 F ρ r p => p σ H F r⟩
theorem vss_cons (h1 : VS X W st g) (h2 : VSs X W rest h) : VSs X W (st :: rest) (fun ρ => (g ρ).seq h) := by
  obtain ⟨t, p, q⟩ := h1.ex
  obtain ⟨t2, p2, q2⟩ := h2.ex
  refine ⟨_, pss_cons p p2, fun D σ H F0 H0 F ρ r pr => ?_⟩
  refine q _ σ H F0 H0 F ρ r ?_
  generalize g ρ = rr at pr ⊢
  cases rr with
  | nx ρ' => exact fun σ' H' F' r' => q2 D σ' H' F0 H0 F' ρ' r' pr
  | stuck => exact pr
  | err c ρ' => exact pr
  | rt o => exact pr
  | bk ρ' => exact pr
  | ct ρ' => exact pr
theorem vss_one (h1 : VS X W st g) : VSs X W [st] g := by
  obtain ⟨t, p, q⟩ := h1.ex
  exact ⟨_, pss_one p, q⟩
/-- knowledge that is let go, or changed, between two statements -/
def EnvT (K : PySem.W.Frag) (T : OEnv → OEnv) : Prop := ∀ F0 H0 F H σ ρ, RS K F0 H0 F H σ ρ → ∃ F', RS K F0 H0 F' H σ (T ρ)
theorem vss_t {T : OEnv → OEnv} (hT : EnvT X.K T) (h1 : VSs X W sts g) : VSs X W sts (fun ρ => g (T ρ)) := by
  obtain ⟨t, p, q⟩ := h1.ex
  refine ⟨t, p, fun D σ H F0 H0 F ρ r pr => ?_⟩
  obtain ⟨F', r'⟩ := hT F0 H0 F H σ ρ r
  exact q D σ H F0 H0 F' (T ρ) r' pr
def kill (is : List Nat) (ρ : OEnv) : OEnv := is.foldl (fun ρ i => ρ.set i none) ρ
def freezeAt (ρ : OEnv) (i : Nat) : OEnv := match ρ[i]? with
  | some (some o) => ρ.set i (some (.fz o.data))
  | _ => ρ
def freeze (is : List Nat) (ρ : OEnv) : OEnv := is.foldl freezeAt ρ
theorem RS.drop {K : PySem.W.Frag} {F0 H0 F H : Hp} {σ : L2.St} {ρ : OEnv} (r : RS K F0 H0 F H σ ρ) (i : Nat) : RS K F0 H0 F H σ (ρ.set i none) := by
  obtain ⟨fps, s, hs⟩ := r.ex
  by_cases hi : i < σ.length
  · obtain ⟨fpr, z1, z2⟩ := s.drop i σ[i]
    rw [List.set_getElem_self] at z1
    exact ⟨fpr, z1, hs.sub z2⟩
  · rw [List.set_eq_of_length_le (by rw [← s.len]; omega)]
    exact ⟨fps, s, hs⟩
theorem envT_kill (K : PySem.W.Frag) : ∀ is : List Nat, EnvT K (kill is)
  | [], F0, H0, F, H, σ, ρ, r => ⟨F, r⟩
  | i :: is, F0, H0, F, H, σ, ρ, r => envT_kill K is F0 H0 F H σ (ρ.set i none) (r.drop i)
theorem set_same {σ : L2.St} {i : Nat} {v : V} (e : σ[i]? = some (some v)) : σ.set i (some v) = σ := by
  refine List.ext_getElem? fun j => ?_
  by_cases hj : j = i
  · subst hj
    obtain ⟨q1, q2⟩ := List.getElem?_eq_some_iff.mp e
    rw [List.getElem?_set_self q1, e]
  · rw [List.getElem?_set_ne (Ne.symm hj)]
theorem RS.freeze {K : PySem.W.Frag} {F0 H0 F H : Hp} {σ : L2.St} {ρ : OEnv} (r : RS K F0 H0 F H σ ρ) (i : Nat) : ∃ F', RS K F0 H0 F' H σ (freezeAt ρ i) := by
  unfold freezeAt
  split
  · rename_i o eo
    obtain ⟨fps, s, hs⟩ := r.ex
    obtain ⟨v, fp, fpr, e1, e2, e3, e4, e5⟩ := s.split eo
    have hp := hs.perm e3
    have nd := List.nodup_append.mp hp.nd
    have own : ∀ a ∈ fp, F a = none ∧ H0 a = none := fun a ha => hp.ow a (List.mem_append_left _ ha)
    refine ⟨bor F H fp, ?_⟩
    have b1 : Same F (bor F H fp) := fun a u q => by
      rw [bor_not (fun ha => by rw [(own a ha).1] at q; cases q)]; exact q
    obtain ⟨fps', z1, z2⟩ := e5 (bor F H fp) H v (.fz o.data) [] (.fz (e2.is b1 fun a ha => bor_own ha)) b1 (fun _ _ => rfl)
    rw [set_same e1] at z1
    refine ⟨fps', z1, (Hs.perm ⟨?_, fun a ha => ⟨?_, ?_⟩, fun a u q => ?_, hs.f0.trans b1, hs.h0, fun a h1 h2 => ?_⟩ z2.symm)⟩
    · exact nd.2.1
    · have ha : a ∈ fpr := ha
      rw [bor_not (fun hm => nd.2.2 a hm a ha rfl)]
      exact (hp.ow a (List.mem_append_right _ ha)).1
    · exact (hp.ow a (List.mem_append_right _ ha)).2
    · by_cases ha : a ∈ fp
      · rw [bor_own ha] at q; exact q
      · rw [bor_not ha] at q; exact hs.fh _ _ q
    · by_cases ha : a ∈ fp
      · exact (own a ha).2
      · rw [bor_not ha] at h2; exact hs.nw a h1 h2
  · exact ⟨F, r⟩
theorem envT_freeze (K : PySem.W.Frag) : ∀ is : List Nat, EnvT K (freeze is)
  | [], F0, H0, F, H, σ, ρ, r => ⟨F, r⟩
  | i :: is, F0, H0, F, H, σ, ρ, r => by
    obtain ⟨F', r'⟩ := r.freeze i
    exact envT_freeze K is F0 H0 F' H σ _ r'

/-! simple statements -/
theorem vs_pass : VS X W (.Pass pos) (fun ρ => .nx ρ) := ⟨_, ps_pass, fun D σ H F0 H0 F ρ r p => p σ H F r⟩
theorem vs_break : VS X W (.Break pos) (fun ρ => .bk ρ) := ⟨_, ps_break, fun D σ H F0 H0 F ρ r p => p σ H F r⟩
theorem vs_continue : VS X W (.Continue pos) (fun ρ => .ct ρ) := ⟨_, ps_continue, fun D σ H F0 H0 F ρ r p => p σ H F r⟩
theorem RS.put {K : PySem.W.Frag} {F0 H0 F H : Hp} {σ : L2.St} {ρ : OEnv} {v : V} {o : O} (r : RS K F0 H0 F H (some v :: σ) (some o :: ρ)) (i : Nat) : RS K F0 H0 F H (σ.set i (some v)) (ρ.set i (some o)) := by
  obtain ⟨fps, s, hs⟩ := r.ex
  cases s with
  | @ow v o fp σ ρ fps h1 s =>
    by_cases hi : i < ρ.length
    · obtain ⟨fps', z1, g, z2, z3⟩ := s.put h1 i hi
      exact ⟨fps', z1, (hs.sub (List.Sublist.append_left z3 fp)).perm z2.symm⟩
    · have l := s.len
      rw [List.set_eq_of_length_le (show σ.length ≤ i by omega), List.set_eq_of_length_le (show ρ.length ≤ i by omega)]
      exact ⟨fps, s, hs.sub (List.sublist_append_right _ _)⟩
/-- x = e -/
def sSet (i : Nat) (h : OEnv → R (O × OEnv)) : OEnv → SR := fun ρ => (h ρ).sr ρ fun p => .nx (p.2.set i (some p.1))
theorem vs_set (i : Nat) {x : Str} {pos' : Pos} (hN : X.N.Nodup) (he : VO X W e ho) (hi : X.N[i]? = some x := by rfl) (hxl : Loc X.env.scope x := by first | exact Or.inl rfl | exact Or.inr rfl) (hs : swapsWith e (some (.Name x pos')) pos.line X.env = pure false := by rfl) (hf : X.fn x = true ∨ X.env.scope.names.lookup x = some .local := by first | exact .inl rfl | exact .inr rfl) :
    VS X W (.Assign [.Name x pos'] e pos) (sSet i ho) := by
  obtain ⟨t, p, q⟩ := he.ex
  refine ⟨_, ps_set hN hi hxl p hs hf, fun D σ H F0 H0 F ρ r pr => ?_⟩
  refine q σ H F0 H0 F ρ _ r (sr_pst r pr fun o po v H' F' r' => ?_)
  exact po _ _ _ (r'.put i)
/-- x = [e for t in it if ..] on one line, x a local -/
theorem vs_setLc (i : Nat) {x : Str} {py : Pos} {elt tg iter : Expr} {ifs : List Expr} {scope : Scope} {own : List (Str × Nat)} {sl : List Nat} {fi : PEnv → R (List PyData)} {kt : PyData → R (List (Nat × PyData))} {ft : PEnv → R Bool} {fe : PEnv → R PyData} {cpos : Pos}
    {hh : OEnv → R (O × OEnv)} (mode : ∀ {t : TE}, (∀ σ H B ρ Q, Same B H → RF X.K B σ ρ → Pst X W σ H (KFr X B H Q) (vcomp (own.map (·.2)) fi kt ft fe ρ) → t σ H Q) → ∀ σ H F0 H0 F ρ Q, RS X.K F0 H0 F H σ ρ → Pst X W σ H (KO X F0 H0 σ Q) (hh ρ) → t σ H Q)
    (hc : X.calm = true) (hN : X.N.Nodup) (hy : X.N[i]? = some x) (hyl : X.env.scope.names.lookup x = some .local) (hsw : swapsWith (.ListComp elt [⟨tg, iter, ifs, 0⟩] scope cpos) (some (.Name x py)) pos.line X.env = pure true)
    (hi : VI X W tg iter fi) (ok : BlkOk X.N X.env.scope scope own)
    (hg : ∀ (s : Shared) (H : Hp) (C : Addr) (cl : List (Str × Addr)) (fp : List Addr), VG (X.blk s H scope (compEnvC scope cl C X.env) fp) tg sl kt)
    (hso : ∀ i ∈ sl, i ∈ own.map (·.2))
    (ht : ∀ (s : Shared) (H : Hp) (C : Addr) (cl : List (Str × Addr)) (fp : List Addr), VTs (X.blk s H scope (compEnvC scope cl C X.env) fp) W0 ifs ft)
    (hee : ∀ (s : Shared) (H : Hp) (C : Addr) (cl : List (Str × Addr)) (fp : List Addr), VE (X.blk s H scope (compEnvC scope cl C X.env) fp) W0 elt fe) (hs : ∀ x, foldedSetIterable iter X.env x = pure x := by intro _; rfl) :
    VS X W (.Assign [.Name x py] (.ListComp elt [⟨tg, iter, ifs, 0⟩] scope cpos) pos) (sSet i hh) := by
  obtain ⟨wi, pi, qi⟩ := hi.ex
  have h1 : ∀ (s : Shared) (H : Hp) (C : Addr) (cl : List (Str × Addr)) (fp : List Addr), PG (X.blk s H scope (compEnvC scope cl C X.env) fp) tg (tVG X kt) := fun s H C cl fp => (hg s H C cl fp).pg
  have h2 : ∀ (s : Shared) (H : Hp) (C : Addr) (cl : List (Str × Addr)) (fp : List Addr), PTs (X.blk s H scope (compEnvC scope cl C X.env) fp) ifs (tVT X W0 ft) := fun s H C cl fp => (ht s H C cl fp).pt
  have h3 : ∀ (s : Shared) (H : Hp) (C : Addr) (cl : List (Str × Addr)) (fp : List Addr), PE (X.blk s H scope (compEnvC scope cl C X.env) fp) elt (tV X W0 fe) := fun s H C cl fp => (hee s H C cl fp).pe
  have hsl : ∀ d bs, kt d = .ok bs → bs.map (·.1) = sl := (hg {} (fun _ => none) 0 [] []).sl
  refine ⟨_, ps_setLc hc hN hy hyl hsw pi ok h1 h2 h3 hs, fun D σ H F0 H0 F ρ r pr => ?_⟩
  refine mode (fun σ H B ρ Q s rf pr => comp_read qi (fun v σ H B d Q s dv q => ⟨B, d, s, dv, q⟩) hsl hso (fun σ H B ρ Q s r p => ⟨B, ρ, s, r, p⟩) (fun σ H B ρ Q s r p => ⟨B, ρ, s, r, p⟩) s rf pr) σ H F0 H0 F ρ _ r (sr_pst r pr fun o po v H' F' r' => ?_)
  exact po _ _ _ (r'.put i)
def sRet (h : OEnv → R (O × OEnv)) : OEnv → SR := fun ρ => (h ρ).sr ρ fun p => .rt p.1
theorem vs_ret (he : VO X W e ho) : VS X W (.Return (some e) pos) (sRet ho) := by
  obtain ⟨t, p, q⟩ := he.ex
  refine ⟨_, ps_ret p, fun D σ H F0 H0 F ρ r pr => ?_⟩
  refine q σ H F0 H0 F ρ _ r (sr_pst r pr fun o po v H' F' r' => ?_)
  obtain ⟨fps, s, hs⟩ := r'.ex
  cases s with
  | ow h1 s => exact po v H' F' ⟨_, h1, hs.sub (List.sublist_append_left _ _)⟩
theorem vs_retN : VS X W (.Return none pos) (fun ρ => .rt (.fz .none)) := by
  refine ⟨_, ps_retN, fun D σ H F0 H0 F ρ r pr => ?_⟩
  obtain ⟨fps, s, hs⟩ := r.ex
  exact pr .non H F ⟨[], .fz .non, hs.sub (List.nil_sublist _)⟩
def sExpr (h : OEnv → R (O × OEnv)) : OEnv → SR := fun ρ => (h ρ).sr ρ fun p => .nx p.2
theorem vs_expr (he : VO X W e ho) (hs : swapsWith e none pos.line X.env = pure false := by rfl) : VS X W (.Expr e pos) (sExpr ho) := by
  obtain ⟨t, p, q⟩ := he.ex
  refine ⟨_, ps_expr p hs, fun D σ H F0 H0 F ρ r pr => ?_⟩
  refine q σ H F0 H0 F ρ _ r (sr_pst r pr fun o po v H' F' r' => ?_)
  obtain ⟨fps, s, hs⟩ := r'.ex
  cases s with
  | ow h1 s => exact po σ H' F' ⟨_, s, hs.sub (List.sublist_append_right _ _)⟩
def sIf (t : OEnv → R Bool) (g h : OEnv → SR) : OEnv → SR := fun ρ => (t ρ).sr ρ fun b => if b then g ρ else h ρ
theorem vs_if {ts us : List Stmt} {ht : OEnv → R Bool} (h0 : VXT X W c ht) (h1 : VSs X W ts g) (h2 : VSs X W us h) : VS X W (.If c ts us pos) (sIf ht g h) := by
  obtain ⟨t, p, q⟩ := h0.ex
  obtain ⟨t1, p1, q1⟩ := h1.ex
  obtain ⟨t2, p2, q2⟩ := h2.ex
  refine ⟨_, ps_if p p1 p2, fun D σ H F0 H0 F ρ r pr => ?_⟩
  refine q σ H F0 H0 F ρ _ r (sr_pst r pr fun b pb H' F' ex => ?_)
  cases b with
  | true => exact iteT (q1 D σ H' F0 H0 F' ρ (r.ext ex) pb)
  | false => exact iteF (q2 D σ H' F0 H0 F' ρ (r.ext ex) pb)
end
end VL

namespace VL
open PySem PySem.Spec PyProof.Rows L2

theorem Hs.rebase {F0 H0 F1 F H : Hp} {fps : List Addr} (h : Hs F1 H0 F H fps) (s : Same F0 F1) (n : ∀ a, F0 a = none → F1 a ≠ none → H0 a = none) : Hs F0 H0 F H fps :=
  ⟨h.nd, h.ow, h.fh, s.trans h.f0, h.h0, fun a h1 h2 => by
    cases q : F1 a with
    | none => exact h.nw a q h2
    | some o => exact n a h1 (by rw [q]; exact fun w => nomatch w)⟩
theorem RS.self {K : PySem.W.Frag} {F0 H0 F H : Hp} {σ : L2.St} {ρ : OEnv} (r : RS K F0 H0 F H σ ρ) : RS K F H0 F H σ ρ ∧ Same F0 F ∧ ∀ a, F0 a = none → F a ≠ none → H0 a = none := by
  obtain ⟨fps, s, hs⟩ := r.ex
  exact ⟨⟨fps, s, hs.nd, hs.ow, hs.fh, Same.refl F, hs.h0, fun a x y => absurd x y⟩, hs.f0, hs.nw⟩
theorem RS.rebase {K : PySem.W.Frag} {F0 H0 F1 F H : Hp} {σ : L2.St} {ρ : OEnv} (r : RS K F1 H0 F H σ ρ) (s : Same F0 F1) (n : ∀ a, F0 a = none → F1 a ≠ none → H0 a = none) : RS K F0 H0 F H σ ρ := by
  obtain ⟨fps, sl, hs⟩ := r.ex
  exact ⟨fps, sl, hs.rebase s n⟩
theorem RV.rebase {K : PySem.W.Frag} {F0 H0 F1 F H : Hp} {v : V} {o : O} (r : RV K F1 H0 F H v o) (s : Same F0 F1) (n : ∀ a, F0 a = none → F1 a ≠ none → H0 a = none) : RV K F0 H0 F H v o := by
  obtain ⟨fps, sl, hs⟩ := r
  exact ⟨fps, sl, hs.rebase s n⟩
theorem RS.tail {K : PySem.W.Frag} {F0 H0 F H : Hp} {σ : L2.St} {ρ : OEnv} {s : Option V} {o : Option O} (r : RS K F0 H0 F H (s :: σ) (o :: ρ)) : RS K F0 H0 F H σ ρ := by
  obtain ⟨fps, sl, hs⟩ := r.ex
  cases sl with
  | un s => exact ⟨_, s, hs⟩
  | ow h1 s => exact ⟨_, s, hs.sub (List.sublist_append_right _ _)⟩
theorem RS.consFz {K : PySem.W.Frag} {F0 H0 F H : Hp} {σ : L2.St} {ρ : OEnv} {v : V} {d : PyData} (r : RS K F0 H0 F H σ ρ) (h : Is K F v d) : RS K F0 H0 F H (some v :: σ) (some (.fz d) :: ρ) := by
  obtain ⟨fps, sl, hs⟩ := r.ex
  exact ⟨_, .ow (.fz h) sl, hs⟩
def setsO (ρ : OEnv) (bs : List (Nat × PyData)) : OEnv := bs.foldl (fun ρ b => ρ.set b.1 (some (.fz b.2))) ρ
theorem RS.sets {K : PySem.W.Frag} {F0 H0 F H : Hp} : ∀ {bv : List (Nat × V)} {bd : List (Nat × PyData)} {σ : L2.St} {ρ : OEnv}, RS K F0 H0 F H σ ρ → Bds K F bv bd → RS K F0 H0 F H (setsV σ bv) (setsO ρ bd)
  | _, _, _, _, r, .nil => r
  | _, _, _, _, r, .cons (a := p) (b := q) h t => by
    obtain ⟨r1, r2⟩ := h
    unfold setsV setsO
    rw [List.foldl_cons, List.foldl_cons, r1]
    exact RS.sets ((r.consFz r2).put q.1) t

/-! a list of one's own is changed -/
theorem OwnL.setAt {K : PySem.W.Frag} {F H : Hp} {y : V} {o : O} {fpo : List Addr} (ho : Own K F H y o fpo) : ∀ {os : List O} {vs : List V} {fp : List Addr} (j : Nat), OwnL K F H vs os fp → ∃ fp', OwnL K F H (vs.set j y) (os.set j o) fp' ∧ ∃ fp'', fp'.Perm fp'' ∧ fp''.Sublist (fp ++ fpo)
  | [], _, _, j, h => by cases h; exact ⟨[], by simp; exact .nil, [], .refl _, List.nil_sublist _⟩
  | p :: os, _, _, 0, h => by
    cases h with
    | @cons v vs _ _ f1 f2 h1 h2 =>
      refine ⟨fpo ++ f2, .cons ho h2, f2 ++ fpo, List.perm_append_comm, ?_⟩
      rw [List.append_assoc]
      exact List.sublist_append_right _ _
  | p :: os, _, _, j + 1, h => by
    cases h with
    | @cons v vs _ _ f1 f2 h1 h2 =>
      obtain ⟨f3, z1, f4, z2, z3⟩ := OwnL.setAt ho j h2
      refine ⟨f1 ++ f3, .cons h1 z1, f1 ++ f4, List.Perm.append_left f1 z2, ?_⟩
      rw [List.append_assoc]
      exact List.Sublist.append_left z3 f1
/-- a change of a list's items by one value -/
structure Chg (tv : List V → V → List V) (to : List O → O → List O) : Prop where
  own : ∀ {K : PySem.W.Frag} {F H : Hp} {vs : List V} {os : List O} {y : V} {o : O} {fp fpo : List Addr}, OwnL K F H vs os fp → Own K F H y o fpo → ∃ fp', OwnL K F H (tv vs y) (to os o) fp' ∧ ∃ fp'', fp'.Perm fp'' ∧ fp''.Sublist (fp ++ fpo)
theorem chg_app : Chg (fun vs y => vs ++ [y]) (fun os o => os ++ [o]) := ⟨fun {K F H vs os y o fp fpo} h1 h2 => by
  refine ⟨fp ++ fpo, ?_, fp ++ fpo, .refl _, .refl _⟩
  have z := OwnL.append h1 (.cons h2 .nil)
  rw [List.append_nil] at z
  exact z⟩
theorem chg_set (j : Nat) : Chg (fun vs y => vs.set j y) (fun os o => os.set j o) := ⟨fun h1 h2 => OwnL.setAt h2 j h1⟩
theorem RS.mut {K : PySem.W.Frag} {F0 H0 F H : Hp} {σ : L2.St} {ρ : OEnv} {y : V} {o : O} {i : Nat} {os : List O} {tv : List V → V → List V} {to : List O → O → List O} (c : Chg tv to) (r : RS K F0 H0 F H (some y :: σ) (some o :: ρ)) (ei : ρ[i]? = some (some (.lst os))) :
    ∃ a vs, σ[i]? = some (some (.ref a)) ∧ H a = some (.lst vs) ∧ vs.length = os.length ∧ RS K F0 H0 F (upd H a (.lst (tv vs y))) σ (ρ.set i (some (.lst (to os o)))) := by
  obtain ⟨fps, sl, hs⟩ := r.ex
  cases sl with
  | @ow _ _ fpo _ _ fpt h1 s =>
    obtain ⟨v, fp, fpr, e1, e2, e3, e4, e5⟩ := s.split ei
    cases e2 with
    | @lst a vs _ fpi ha hl =>
      refine ⟨a, vs, e1, ha, hl.len, ?_⟩
      have hp : Hs F0 H0 F H (fpo ++ ((a :: fpi) ++ fpr)) := hs.perm (List.Perm.append_left fpo e3)
      have nd := List.nodup_append.mp hp.nd
      have nd2 := List.nodup_append.mp nd.2.1
      have na_o : a ∉ fpo := fun m => nd.2.2 a m a (List.mem_append_left _ List.mem_cons_self) rfl
      have na_i : a ∉ fpi := (List.nodup_cons.mp nd2.1).1
      have na_r : a ∉ fpr := fun m => nd2.2.2 a List.mem_cons_self a m rfl
      have hk : ∀ b, b ≠ a → upd H a (.lst (tv vs y)) b = H b := fun b hb => upd_ne hb
      have o1 : Own K F (upd H a (.lst (tv vs y))) y o fpo := h1.keep (Same.refl F) fun b hb => hk b fun e => na_o (e ▸ hb)
      have l1 : OwnL K F (upd H a (.lst (tv vs y))) vs os fpi := hl.keep (Same.refl F) fun b hb => hk b fun e => na_i (e ▸ hb)
      obtain ⟨fp', z1, fp'', z2, z3⟩ := c.own l1 o1
      obtain ⟨fps', w1, w2⟩ := e5 F (upd H a (.lst (tv vs y))) (.ref a) (.lst (to os o)) (a :: fp') (.lst upd_same z1) (Same.refl F) fun b hb => hk b fun e => na_r (e ▸ hb)
      rw [set_same e1] at w1
      have an : F a = none ∧ H0 a = none := hp.ow a (List.mem_append_right _ (List.mem_append_left _ List.mem_cons_self))
      have base : Hs F0 H0 F (upd H a (.lst (tv vs y))) (fpo ++ ((a :: fpi) ++ fpr)) := ⟨hp.nd, hp.ow, fun b u q => by
        rw [hk b (fun e => by rw [e, an.1] at q; cases q)]; exact hp.fh _ _ q, hp.f0, fun b u q => by
        rw [hk b (fun e => by rw [e, an.2] at q; cases q)]; exact hp.h0 _ _ q, hp.nw⟩
      have p1 : (fpo ++ ((a :: fpi) ++ fpr)).Perm (a :: ((fpi ++ fpo) ++ fpr)) := by
        have : (fpo ++ ((a :: fpi) ++ fpr)).Perm (((a :: fpi) ++ fpo) ++ fpr) := by
          rw [← List.append_assoc]
          exact List.Perm.append_right _ List.perm_append_comm
        simpa using this
      have p2 : Hs F0 H0 F (upd H a (.lst (tv vs y))) (a :: (fp'' ++ fpr)) := (base.perm p1).sub (List.Sublist.cons_cons a (List.Sublist.append_right z3 fpr))
      refine ⟨fps', w1, (p2.perm ?_).perm w2.symm⟩
      exact List.Perm.cons a (List.Perm.append_right fpr z2.symm)

section
variable {X : Cx} {W : WX} {a b c e : Expr} {st : Stmt} {sts rest : List Stmt} {pos : Pos} {g h : OEnv → SR} {hx hx' : OEnv → R PyData} {ho : OEnv → R (O × OEnv)} {k : Nat}
/-- x.append(e) -/
def sApp (i : Nat) (h : OEnv → R (O × OEnv)) : OEnv → SR := fun ρ => match ρ[i]? with
  | some (some (.lst _)) => (h ρ).sr ρ fun p => match p.2[i]? with
    | some (some (.lst os)) => if os.length < sizeLine then .nx (p.2.set i (some (.lst (os ++ [p.1])))) else .stuck
    | _ => .stuck
  | _ => .stuck
theorem vs_app (i : Nat) {x : Str} {p1 p2 p3 : Pos} (mk : ∀ {t : TE}, PE X e t → PE X (.Call (.Attribute (.Name x p1) "append" p2) [e] [] p3) (tBM X.K "list" rAppend (tVar i) (tCons t tNil))) (he : VO X W e ho)
    (hs : swapsWith (.Call (.Attribute (.Name x p1) "append" p2) [e] [] p3) none pos.line X.env = pure false := by rfl) :
    VS X W (.Expr (.Call (.Attribute (.Name x p1) "append" p2) [e] [] p3) pos) (sApp i ho) := by
  obtain ⟨t, p, q⟩ := he.ex
  refine ⟨_, ps_expr (mk p) hs, fun D σ H F0 H0 F ρ r pr => ?_⟩
  unfold sApp at pr
  split at pr
  · rename_i os0 e0
    obtain ⟨fps, sl, hss⟩ := r.ex
    obtain ⟨v, fp, fpr, e1, e2, e3, e4, e5⟩ := sl.split e0
    cases e2 with
    | @lst ad vs _ fpi ha hl =>
      refine ⟨.ref ad, e1, .inl ⟨rfl, _, .inl (.inl ha)⟩, ?_⟩
      refine q σ H F0 H0 F ρ _ r (sr_pst r pr fun o po y H' F' r' => ?_)
      split at po
      · rename_i os eo
        split at po
        · rename_i hz
          obtain ⟨ad', vs', e6, e7, e8, r2⟩ := r'.mut chg_app eo
          rw [e1] at e6
          cases e6
          exact ⟨ad, vs', y, rfl, rfl, e7, by rw [e8]; exact hz, po _ _ _ r2⟩
        · exact po.elim
      · exact po.elim
  · exact pr.elim
/-- x[k] = e -/
def sSetI (i : Nat) (hk : OEnv → R PyData) (h : OEnv → R (O × OEnv)) : OEnv → SR := fun ρ => (h ρ).sr ρ fun p => match p.2[i]? with
  | some (some (.lst os)) => (hk p.2).sr p.2 fun d => match d with
    | .int j => (match ixN os.length j with
      | some n => .nx (p.2.set i (some (.lst (os.set n p.1))))
      | none => .stuck)
    | _ => .stuck
  | _ => .stuck
theorem vs_setI (i : Nat) {x : Str} {p1 p2 : Pos} (mk : ∀ {te tk : TE}, PE X e te → PE X b tk → PS X (.Assign [.Subscript (.Name x p1) b p2] e pos) (tAsg te (gSub (tVar i) tk rSetL))) (hk : VX X W b hx) (he : VO X W e ho) :
    VS X W (.Assign [.Subscript (.Name x p1) b p2] e pos) (sSetI i hx ho) := by
  obtain ⟨t, p, q⟩ := he.ex
  obtain ⟨tk, pk, qk⟩ := hk.ex
  refine ⟨_, mk p pk, fun D σ H F0 H0 F ρ r pr => ?_⟩
  unfold sSetI at pr
  refine q σ H F0 H0 F ρ _ r (sr_pst r pr fun o po y H' F' r' => ?_)
  have rt := r'.tail
  split at po
  · rename_i os eo
    obtain ⟨fps, sl, hss⟩ := rt.ex
    obtain ⟨v, fp, fpr, e1, e2, e3, e4, e5⟩ := sl.split eo
    refine ⟨v, e1, ?_⟩
    refine qk σ H' F0 H0 F' o.2 _ rt (sr_pst rt po fun d pd => ?_)
    intro iv H2 F2 ex di
    cases di <;> first | exact pd.elim | skip
    rename_i j
    simp only at pd
    split at pd
    · rename_i n en
      obtain ⟨ad, vs, e6, e7, e8, r2⟩ := (r'.ext ex).mut (chg_set n) eo
      rw [e1] at e6
      cases e6
      exact ⟨ad, vs, j, n, rfl, rfl, e7, by rw [e8]; exact en, pd _ _ _ r2⟩
    · exact pd.elim
  · exact po.elim
/-- x += e, x -= e of ints -/
def sAug (f : Int → Int → Int) (i : Nat) (h : OEnv → R PyData) : OEnv → SR := fun ρ => match ρ[i]? with
  | some (some (.fz (.int a))) => (h ρ).sr ρ fun d => match d with
    | .int b => .nx (ρ.set i (some (.fz (.int (f a b)))))
    | _ => .stuck
  | _ => .stuck
theorem vs_aug {f : Int → Int → Int} {op : Operator} (hop : PIp X op (ipI f)) (i : Nat) {x : Str} {p1 : Pos} (hN : X.N.Nodup) (he : VX X W e hx) (hi : X.N[i]? = some x := by rfl) (hxl : Loc X.env.scope x := by first | exact Or.inl rfl | exact Or.inr rfl) (hf : X.fn x = true ∨ X.env.scope.names.lookup x = some .local := by first | exact .inl rfl | exact .inr rfl) :
    VS X W (.AugAssign (.Name x p1) op e pos) (sAug f i hx) := by
  obtain ⟨t, p, q⟩ := he.ex
  refine ⟨_, ps_aug hN hi hxl p hop hf, fun D σ H F0 H0 F ρ r pr => ?_⟩
  unfold sAug at pr
  split at pr
  · rename_i n en
    obtain ⟨fps, sl, hss⟩ := r.ex
    obtain ⟨v, fp, fpr, e1, e2, e3, e4, e5⟩ := sl.split en
    cases e2 with
    | fz hv =>
      cases hv
      refine ⟨_, e1, ?_⟩
      refine q σ H F0 H0 F ρ _ r (sr_pst r pr fun d pd y H' F' ex dy => ?_)
      cases dy <;> first | exact pd.elim | skip
      rename_i m
      exact ⟨n, m, rfl, rfl, pd _ H' F' (((r.ext ex).consFz (.int (f n m))).put i)⟩
  · exact pr.elim
/-- a, b = e: a tuple of data -/
def sTup (k : PyData → R (List (Nat × PyData))) (h : OEnv → R PyData) : OEnv → SR := fun ρ => (h ρ).sr ρ fun d => match k d with | .ok bd => .nx (setsO ρ bd) | _ => .stuck
theorem vs_tup {tg : Expr} {sl : List Nat} {k : PyData → R (List (Nat × PyData))} (hg : VG X tg sl k) (he : VX X W e hx) (h1 : swapsWithSole [tg] e pos.line X.env = pure false := by rfl) (h2 : swappedStores [tg] e X.env = pure none := by rfl) (h3 : (assignEach [tg] X.env).map (·.2) = [assign tg X.env] := by rfl) :
    VS X W (.Assign [tg] e pos) (sTup k hx) := by
  obtain ⟨t, p, q⟩ := he.ex
  obtain ⟨tg', pg, qg⟩ := hg.ex
  refine ⟨_, ps_asg p pg h1 h2 h3, fun D σ H F0 H0 F ρ r pr => ?_⟩
  unfold sTup at pr
  refine q σ H F0 H0 F ρ _ r (sr_pst r pr fun d pd v H' F' ex dv => ?_)
  have r' := r.ext ex
  obtain ⟨fps, sl', hss⟩ := r'.ex
  generalize hk : k d = rk at pd
  cases rk with
  | stuck => exact pd.elim
  | err c => exact pd.elim
  | ok bd => exact qg v σ H' F' d _ hss.fh dv ⟨bd, hk, fun bv hb => pd _ H' F' (RS.sets r' hb)⟩
end
end VL

namespace VL
open PySem PySem.Spec PyProof.Rows L2

/-! ### sources of a for in a def's body -/
def KIX (X : Cx) (F H : Hp) (Rr : It → Hp → Prop) (ds : List PyData) : Prop := ∀ J H' F', Ext F H F' H' → Walks X.K J ds F' → Rr J H'
structure VIX (X : Cx) (W : WX) (tg iter : Expr) (h : OEnv → R (List PyData)) : Prop where
  ex : ∃ wi, PI X tg iter wi ∧ ∀ σ H F0 H0 F ρ Rr, RS X.K F0 H0 F H σ ρ → Pst X W σ H (KIX X F H Rr) (h ρ) → wi σ H Rr
section
variable {X : Cx} {W : WX} {a b c e tg iter : Expr} {st : Stmt} {sts rest : List Stmt} {pos : Pos} {g h : OEnv → SR} {hx hx' ha hb : OEnv → R PyData} {ho : OEnv → R (O × OEnv)} {k : Nat}
theorem vix_F {f : PEnv → R (List PyData)} (h : VI X W tg iter f) : VIX X W tg iter (fun ρ => f (viewF ρ)) := by
  obtain ⟨wi, p, q⟩ := h.ex
  refine ⟨wi, p, fun σ H F0 H0 F ρ Rr r pr => ?_⟩
  obtain ⟨fps, s, hs⟩ := r.ex
  exact q σ H F _ Rr hs.fh s.rfF pr
def x1 (g : PyData → R (List PyData)) (h : OEnv → R PyData) : OEnv → R (List PyData) := fun ρ => (h ρ).bind g
def x2 (g : PyData → PyData → R (List PyData)) (h h' : OEnv → R PyData) : OEnv → R (List PyData) := fun ρ => (h ρ).bind fun d => (h' ρ).bind fun e => g d e
theorem oneX {ta : TE} (hq : ∀ σ H F0 H0 F ρ Q, RS X.K F0 H0 F H σ ρ → Pst X W σ H (KX X F H Q) (hx ρ) → ta σ H Q)
    {α : Type} {σ : L2.St} {F0 H0 H F : Hp} {ρ : OEnv} {g : PyData → R α} {K : α → Prop} {Q : V → Hp → Prop} (r : RS X.K F0 H0 F H σ ρ)
    (p : Pst X W σ H K ((hx ρ).bind g))
    (q : ∀ d x H' F', Ext F H F' H' → Is X.K F' x d → Pst X W σ H' K (g d) → Q x H') : ta σ H Q := by
  refine hq σ H F0 H0 F ρ _ r ?_
  generalize hx ρ = ra at p ⊢
  cases ra with
  | stuck => exact p
  | err c => exact p
  | ok d =>
    intro x H1 F1 e1 d1
    refine q d x H1 F1 e1 d1 ?_
    simp only [R.bind_ok] at p
    generalize g d = rg at p ⊢
    cases rg with
    | stuck => exact p
    | err c => exact fun H' z => p H' (e1.hh.trans z)
    | ok z => exact p
theorem vix_range1 {p pos : Pos} (hm : X.mg "range" = none) (h1 : VX X W a ha) (hg : Gl X "range" := by rfl) (hs : starEach [a] X.env = [(false, eval a X.env)] := by rfl) (he : starEach [a] X.env = (false, eval a X.env) :: starEach [] X.env := by rfl) : VIX X W tg (.Call (.Name "range" p) [a] [] pos) (x1 vrange1 ha) := by
  obtain ⟨t, pt, qt⟩ := h1.ex
  refine ⟨_, pi_range1 hg hm (pa_cons pt pa_nil he) hs, fun σ H F0 H0 F ρ Rr r pr => ?_⟩
  refine oneX qt r pr fun d x H' F' ex dx pg => ?_
  cases dx <;> first | exact pg.elim | skip
  rename_i i
  simp only [vrange1] at pg
  split at pg
  · rename_i hz
    have hz' : -16777216 ≤ (0:Int) ∧ (0:Int) ≤ 16777216 ∧ -16777216 ≤ i ∧ i ≤ 16777216 ∧ i - 0 ≤ 16777216 := hz
    exact ⟨_, rfl, by omega, by omega, pg _ H' F' ex (walks_range (by have := sizeLine_eq; omega))⟩
  · exact pg.elim
theorem vix_range2 {p pos : Pos} (hm : X.mg "range" = none) (h1 : VX X W a ha) (h2 : VX X W b hb) (hg : Gl X "range" := by rfl) (hs : starEach [a, b] X.env = [(false, eval a X.env), (false, eval b X.env)] := by rfl) (hs2 : starEach [b] X.env = [(false, eval b X.env)] := by rfl)
    (he : starEach [a, b] X.env = (false, eval a X.env) :: starEach [b] X.env := by rfl) (he2 : starEach [b] X.env = (false, eval b X.env) :: starEach [] X.env := by rfl) : VIX X W tg (.Call (.Name "range" p) [a, b] [] pos) (x2 vrange2 ha hb) := by
  obtain ⟨t, pt, qt⟩ := h1.ex
  obtain ⟨t2, pt2, qt2⟩ := h2.ex
  refine ⟨_, pi_range2 hg hm (pa_cons pt (pa_cons pt2 pa_nil he2) he) hs hs2, fun σ H F0 H0 F ρ Rr r pr => ?_⟩
  refine oneX qt r pr fun d x H1 F1 ex1 dx p1 => ?_
  refine oneX qt2 (r.ext ex1) p1 fun e y H' F' ex dy pg => ?_
  cases dx <;> first | (cases dy <;> exact pg.elim) | skip
  cases dy <;> first | exact pg.elim | skip
  rename_i i j
  simp only [vrange2] at pg
  split at pg
  · rename_i hz
    have hz' : -16777216 ≤ i ∧ i ≤ 16777216 ∧ -16777216 ≤ j ∧ j ≤ 16777216 ∧ j - i ≤ 16777216 := hz
    exact ⟨i, j, rfl, ⟨by omega, by omega, by omega, by omega⟩, pg _ H' F' (ex1.trans ex) (walks_range (by have := sizeLine_eq; omega))⟩
  · exact pg.elim

/-! ### for -/
def forL (kt : PyData → R (List (Nat × PyData))) (kl : OEnv → OEnv) (gb : OEnv → SR) : List PyData → OEnv → SR
  | [], ρ => .nx ρ
  | d :: ds, ρ => match kt d with
    | .ok bs => (match gb (setsO ρ bs) with
      | .nx ρ' => forL kt kl gb ds (kl ρ')
      | .ct ρ' => forL kt kl gb ds (kl ρ')
      | .bk ρ' => .nx ρ'
      | r => r)
    | _ => .stuck
def sFor (hi : OEnv → R (List PyData)) (kt : PyData → R (List (Nat × PyData))) (kl : OEnv → OEnv) (gb : OEnv → SR) : OEnv → SR := fun ρ => (hi ρ).sr ρ fun ds => forL kt kl gb ds ρ
theorem SPst.rebase {F0 H0 F1 : Hp} {D D' : Ends} (s : Same F0 F1) (n : ∀ a, F0 a = none → F1 a ≠ none → H0 a = none) {r : SR} (hn : ∀ ρ, (r = .nx ρ → ∀ σ' H' F', RS X.K F1 H0 F' H' σ' ρ → D'.nx σ' H') ∧ (r = .bk ρ → ∀ σ' H' F', RS X.K F1 H0 F' H' σ' ρ → D'.bk σ' H') ∧ (r = .ct ρ → ∀ σ' H' F', RS X.K F1 H0 F' H' σ' ρ → D'.ct σ' H'))
    (hrt : D'.rt = D.rt) (p : ∀ ρ, r ≠ .nx ρ → r ≠ .bk ρ → r ≠ .ct ρ → SPst X W F0 H0 D r) (hs : r ≠ .stuck) : SPst X W F1 H0 D' r := by
  cases r with
  | stuck => exact absurd rfl hs
  | err c ρ => exact fun σ' H' F' x => p ρ (fun z => nomatch z) (fun z => nomatch z) (fun z => nomatch z) σ' H' F' (x.rebase s n)
  | nx ρ => exact (hn ρ).1 rfl
  | bk ρ => exact (hn ρ).2.1 rfl
  | ct ρ => exact (hn ρ).2.2 rfl
  | rt o => exact fun v H' F' x => by rw [hrt]; exact p [] (fun z => nomatch z) (fun z => nomatch z) (fun z => nomatch z) v H' F' (x.rebase s n)
theorem vs_for {body : List Stmt} {sl : List Nat} {kt : PyData → R (List (Nat × PyData))} {hi : OEnv → R (List PyData)} {kl : OEnv → OEnv} {gb : OEnv → SR} (hp : PassesOwn (model X.prog X.w) X.A X.env X.xe) (hc : X.calm = true) (h1 : VIX X W tg iter hi) (h2 : VG X tg sl kt) (hk : EnvT X.K kl) (h3 : VSs X W body gb)
    (hs : ∀ x, foldedSetIterable iter X.env x = pure x := by intro _; rfl) : VS X W (.For tg iter body [] pos) (sFor hi kt kl gb) := by
  obtain ⟨wi, pi, qi⟩ := h1.ex
  obtain ⟨tg', pg, qg⟩ := h2.ex
  obtain ⟨tb, pb, qb⟩ := h3.ex
  refine ⟨_, ps_for hp hc pi pg pb hs, fun D σ H F0 H0 F ρ r pr => ?_⟩
  refine qi σ H F0 H0 F ρ _ r (sr_pst r pr fun ds pd J H1 F1 ex wk => ?_)
  have r1 := r.ext ex
  refine ⟨fun i m σ H => m = ds.length - i ∧ i ≤ ds.length ∧ ∃ F' ρ', RS X.K F0 H0 F' H σ ρ' ∧ Same F1 F' ∧ SPst X W F0 H0 D (forL kt kl gb (ds.drop i) ρ'), ⟨ds.length, by simp, Nat.zero_le _, F1, ρ, r1, Same.refl _, by simpa using pd⟩, ?_⟩
  rintro i m σ' Hi ⟨rfl, hi', F', ρ', r', s1, pd'⟩
  obtain ⟨rs, b1, b2⟩ := r'.self
  have fh : Same F' Hi := by obtain ⟨_, _, hs⟩ := rs.ex; exact hs.fh
  by_cases hlt : i < ds.length
  · refine .inr ⟨wk.go i Hi (s1.trans fh) hlt, fun σ' H => i + 1 ≤ ds.length ∧ ∃ F' ρ', RS X.K F0 H0 F' H σ' ρ' ∧ Same F1 F' ∧ SPst X W F0 H0 D (forL kt kl gb (ds.drop (i + 1)) ρ'), fun σ'' H'' q => ⟨ds.length - (i + 1), by omega, rfl, q⟩, fun x H' y => ?_⟩
    obtain ⟨d, F2, e2, E2, dx⟩ := wk.yld i Hi x H' F' s1 fh hlt y
    have hdrop : ds.drop i = d :: ds.drop (i + 1) := by
      obtain ⟨q1, q2⟩ := List.getElem?_eq_some_iff.mp e2
      rw [List.drop_eq_getElem_cons q1, q2]
    rw [hdrop] at pd'
    simp only [forL] at pd'
    generalize hkd : kt d = rk at pd'
    cases rk with
    | stuck => exact pd'.elim
    | err c => exact pd'.elim
    | ok bs =>
      simp only at pd'
      refine qg x σ' H' F2 d _ E2.bh dx ⟨bs, hkd, fun bv hb => ?_⟩
      have r2 : RS X.K F' H0 F2 H' (setsV σ' bv) (setsO ρ' bs) := RS.sets (rs.ext E2) hb
      have again : ∀ {σ3 : L2.St} {H3 F3 : Hp} {ρ3 : OEnv}, RS X.K F' H0 F3 H3 σ3 ρ3 → SPst X W F0 H0 D (forL kt kl gb (ds.drop (i + 1)) (kl ρ3)) → i + 1 ≤ ds.length ∧ ∃ F' ρ', RS X.K F0 H0 F' H3 σ3 ρ' ∧ Same F1 F' ∧ SPst X W F0 H0 D (forL kt kl gb (ds.drop (i + 1)) ρ') := fun {σ3 H3 F3 ρ3} r3 p3 => by
        obtain ⟨F4, r4⟩ := hk F' H0 F3 H3 σ3 ρ3 r3
        refine ⟨hlt, F4, kl ρ3, r4.rebase b1 b2, s1.trans ?_, p3⟩
        obtain ⟨_, _, hs⟩ := r4.ex
        exact hs.f0
      refine qb _ (setsV σ' bv) H' F' H0 F2 (setsO ρ' bs) r2 ?_
      generalize hgb : gb (setsO ρ' bs) = rg at pd'
      cases rg with
      | stuck => exact pd'.elim
      | err c ρ3 => exact fun σ3 H3 F3 r3 => pd' σ3 H3 F3 (r3.rebase b1 b2)
      | nx ρ3 => exact fun σ3 H3 F3 r3 => again r3 pd'
      | ct ρ3 => exact fun σ3 H3 F3 r3 => again r3 pd'
      | bk ρ3 => exact fun σ3 H3 F3 r3 => pd' σ3 H3 F3 (r3.rebase b1 b2)
      | rt o => exact fun v H3 F3 r3 => pd' v H3 F3 (r3.rebase b1 b2)
  · have e : i = ds.length := by omega
    subst e
    refine .inl ⟨wk.stop Hi (s1.trans fh), ?_⟩
    rw [List.drop_length] at pd'
    exact pd' σ' Hi F' r'

def sForK (hi : OEnv → R (List PyData)) (T : OEnv → OEnv) (kt : PyData → R (List (Nat × PyData))) (kl : OEnv → OEnv) (gb : OEnv → SR) : OEnv → SR := fun ρ => (hi ρ).sr ρ fun ds => forL kt kl gb ds (T ρ)
/-- the same; what the source alone asked for is let go behind it -/
theorem vs_forK {body : List Stmt} {sl : List Nat} {kt : PyData → R (List (Nat × PyData))} {hi : OEnv → R (List PyData)} {T kl : OEnv → OEnv} {gb : OEnv → SR} (hp : PassesOwn (model X.prog X.w) X.A X.env X.xe) (hc : X.calm = true) (h1 : VIX X W tg iter hi) (h2 : VG X tg sl kt) (hT : ∀ F0 H0 F H σ ρ, RS X.K F0 H0 F H σ ρ → RS X.K F0 H0 F H σ (T ρ)) (hk : EnvT X.K kl) (h3 : VSs X W body gb)
    (hs : ∀ x, foldedSetIterable iter X.env x = pure x := by intro _; rfl) : VS X W (.For tg iter body [] pos) (sForK hi T kt kl gb) := by
  obtain ⟨wi, pi, qi⟩ := h1.ex
  obtain ⟨tg', pg, qg⟩ := h2.ex
  obtain ⟨tb, pb, qb⟩ := h3.ex
  refine ⟨_, ps_for hp hc pi pg pb hs, fun D σ H F0 H0 F ρ r pr => ?_⟩
  refine qi σ H F0 H0 F ρ _ r (sr_pst r pr fun ds pd J H1 F1 ex wk => ?_)
  have r1 := hT _ _ _ _ _ _ (r.ext ex)
  refine ⟨fun i m σ H => m = ds.length - i ∧ i ≤ ds.length ∧ ∃ F' ρ', RS X.K F0 H0 F' H σ ρ' ∧ Same F1 F' ∧ SPst X W F0 H0 D (forL kt kl gb (ds.drop i) ρ'), ⟨ds.length, by simp, Nat.zero_le _, F1, T ρ, r1, Same.refl _, by simpa using pd⟩, ?_⟩
  rintro i m σ' Hi ⟨rfl, hi', F', ρ', r', s1, pd'⟩
  obtain ⟨rs, b1, b2⟩ := r'.self
  have fh : Same F' Hi := by obtain ⟨_, _, hs⟩ := rs.ex; exact hs.fh
  by_cases hlt : i < ds.length
  · refine .inr ⟨wk.go i Hi (s1.trans fh) hlt, fun σ' H => i + 1 ≤ ds.length ∧ ∃ F' ρ', RS X.K F0 H0 F' H σ' ρ' ∧ Same F1 F' ∧ SPst X W F0 H0 D (forL kt kl gb (ds.drop (i + 1)) ρ'), fun σ'' H'' q => ⟨ds.length - (i + 1), by omega, rfl, q⟩, fun x H' y => ?_⟩
    obtain ⟨d, F2, e2, E2, dx⟩ := wk.yld i Hi x H' F' s1 fh hlt y
    have hdrop : ds.drop i = d :: ds.drop (i + 1) := by
      obtain ⟨q1, q2⟩ := List.getElem?_eq_some_iff.mp e2
      rw [List.drop_eq_getElem_cons q1, q2]
    rw [hdrop] at pd'
    simp only [forL] at pd'
    generalize hkd : kt d = rk at pd'
    cases rk with
    | stuck => exact pd'.elim
    | err c => exact pd'.elim
    | ok bs =>
      simp only at pd'
      refine qg x σ' H' F2 d _ E2.bh dx ⟨bs, hkd, fun bv hb => ?_⟩
      have r2 : RS X.K F' H0 F2 H' (setsV σ' bv) (setsO ρ' bs) := RS.sets (rs.ext E2) hb
      have again : ∀ {σ3 : L2.St} {H3 F3 : Hp} {ρ3 : OEnv}, RS X.K F' H0 F3 H3 σ3 ρ3 → SPst X W F0 H0 D (forL kt kl gb (ds.drop (i + 1)) (kl ρ3)) → i + 1 ≤ ds.length ∧ ∃ F' ρ', RS X.K F0 H0 F' H3 σ3 ρ' ∧ Same F1 F' ∧ SPst X W F0 H0 D (forL kt kl gb (ds.drop (i + 1)) ρ') := fun {σ3 H3 F3 ρ3} r3 p3 => by
        obtain ⟨F4, r4⟩ := hk F' H0 F3 H3 σ3 ρ3 r3
        refine ⟨hlt, F4, kl ρ3, r4.rebase b1 b2, s1.trans ?_, p3⟩
        obtain ⟨_, _, hs⟩ := r4.ex
        exact hs.f0
      refine qb _ (setsV σ' bv) H' F' H0 F2 (setsO ρ' bs) r2 ?_
      generalize hgb : gb (setsO ρ' bs) = rg at pd'
      cases rg with
      | stuck => exact pd'.elim
      | err c ρ3 => exact fun σ3 H3 F3 r3 => pd' σ3 H3 F3 (r3.rebase b1 b2)
      | nx ρ3 => exact fun σ3 H3 F3 r3 => again r3 pd'
      | ct ρ3 => exact fun σ3 H3 F3 r3 => again r3 pd'
      | bk ρ3 => exact fun σ3 H3 F3 r3 => pd' σ3 H3 F3 (r3.rebase b1 b2)
      | rt o => exact fun v H3 F3 r3 => pd' v H3 F3 (r3.rebase b1 b2)
  · have e : i = ds.length := by omega
    subst e
    refine .inl ⟨wk.stop Hi (s1.trans fh), ?_⟩
    rw [List.drop_length] at pd'
    exact pd' σ' Hi F' r'

theorem rs_kill (K : PySem.W.Frag) : ∀ (is : List Nat) F0 H0 F H σ ρ, RS K F0 H0 F H σ ρ → RS K F0 H0 F H σ (kill is ρ)
  | [], _, _, _, _, _, _, r => r
  | i :: is, F0, H0, F, H, σ, ρ, r => rs_kill K is F0 H0 F H σ (ρ.set i none) (r.drop i)

/-! ### while -/
def whileN (t : OEnv → R Bool) (kl : OEnv → OEnv) (gb : OEnv → SR) : Nat → OEnv → SR
  | 0, _ => .stuck
  | n + 1, ρ => (t ρ).sr ρ fun b => if b then (match gb ρ with
      | .nx ρ' => whileN t kl gb n (kl ρ')
      | .ct ρ' => whileN t kl gb n (kl ρ')
      | .bk ρ' => .nx ρ'
      | r => r) else .nx ρ
/-- what it comes to, if it comes to something -/
noncomputable def sWhile (t : OEnv → R Bool) (kl : OEnv → OEnv) (gb : OEnv → SR) : OEnv → SR := fun ρ =>
  open Classical in if h : ∃ n, whileN t kl gb n ρ ≠ .stuck then whileN t kl gb (Classical.choose h) ρ else .stuck
theorem whileN_mono (t : OEnv → R Bool) (kl : OEnv → OEnv) (gb : OEnv → SR) : ∀ (n m : Nat) (ρ : OEnv), n ≤ m → whileN t kl gb n ρ ≠ .stuck → whileN t kl gb m ρ = whileN t kl gb n ρ := by
  intro n
  induction n with
  | zero => intro m ρ _ h; exact absurd rfl h
  | succ n ih =>
    intro m ρ hm h
    cases m with
    | zero => omega
    | succ m =>
      simp only [whileN] at h ⊢
      generalize t ρ = rt at h ⊢
      cases rt with
      | stuck => rfl
      | err c => rfl
      | ok b =>
        simp only [R.sr_ok] at h ⊢
        cases b with
        | false => rfl
        | true =>
          simp only [if_true] at h ⊢
          generalize gb ρ = rg at h ⊢
          cases rg with
          | nx ρ' => exact ih m _ (by omega) h
          | ct ρ' => exact ih m _ (by omega) h
          | stuck => rfl
          | err c ρ' => rfl
          | bk ρ' => rfl
          | rt o => rfl
theorem sWhile_eq {t : OEnv → R Bool} {kl : OEnv → OEnv} {gb : OEnv → SR} {n : Nat} {ρ : OEnv} {r : SR} (h : whileN t kl gb n ρ = r) (hr : r ≠ .stuck) : sWhile t kl gb ρ = r := by
  unfold sWhile
  have ex : ∃ n, whileN t kl gb n ρ ≠ .stuck := ⟨n, by rw [h]; exact hr⟩
  rw [dif_pos ex]
  have hc := Classical.choose_spec ex
  have h2 : whileN t kl gb n ρ ≠ .stuck := by rw [h]; exact hr
  rw [← h]
  by_cases hle : Classical.choose ex ≤ n
  · exact (whileN_mono t kl gb _ _ ρ hle hc).symm
  · exact whileN_mono t kl gb _ _ ρ (by omega) h2
theorem vs_while {body : List Stmt} {t : OEnv → R Bool} {kl : OEnv → OEnv} {gb : OEnv → SR} (hp : PassesOwn (model X.prog X.w) X.A X.env X.xe) (h1 : VXT X W c t) (hk : EnvT X.K kl) (h3 : VSs X W body gb) : VS X W (.While c body [] pos) (sWhile t kl gb) := by
  obtain ⟨tc, pc, qc⟩ := h1.ex
  obtain ⟨tb, pb, qb⟩ := h3.ex
  refine ⟨_, ps_while hp pc pb, fun D σ H F0 H0 F ρ r pr => ?_⟩
  have ex : ∃ n, whileN t kl gb n ρ ≠ .stuck := by
    refine Classical.byContradiction fun z => ?_
    unfold sWhile at pr
    rw [dif_neg z] at pr
    exact pr
  obtain ⟨n, hn⟩ := ex
  rw [sWhile_eq rfl hn] at pr
  refine ⟨fun m σ H => ∃ F ρ, RS X.K F0 H0 F H σ ρ ∧ SPst X W F0 H0 D (whileN t kl gb m ρ), ⟨n, F, ρ, r, pr⟩, ?_⟩
  rintro m σ1 H1 ⟨F1, ρ1, r1, p1⟩
  cases m with
  | zero => exact p1.elim
  | succ m =>
    simp only [whileN] at p1
    refine qc σ1 H1 F0 H0 F1 ρ1 _ r1 (sr_pst r1 p1 fun b pb' H2 F2 E2 => ?_)
    have r2 := r1.ext E2
    cases b with
    | false => exact iteF (pb' σ1 H2 F2 r2)
    | true =>
      simp only [if_true] at pb'
      refine iteT ⟨fun σ H => ∃ F ρ, RS X.K F0 H0 F H σ ρ ∧ SPst X W F0 H0 D (whileN t kl gb m ρ), fun σ' H' q => ⟨m, Nat.lt_succ_self m, q⟩, ?_⟩
      refine qb _ σ1 H2 F0 H0 F2 ρ1 r2 ?_
      have again : ∀ {σ3 : L2.St} {H3 F3 : Hp} {ρ3 : OEnv}, RS X.K F0 H0 F3 H3 σ3 ρ3 → SPst X W F0 H0 D (whileN t kl gb m (kl ρ3)) → ∃ F ρ, RS X.K F0 H0 F H3 σ3 ρ ∧ SPst X W F0 H0 D (whileN t kl gb m ρ) := fun {σ3 H3 F3 ρ3} r3 p3 => by
        obtain ⟨F4, r4⟩ := hk F0 H0 F3 H3 σ3 ρ3 r3
        exact ⟨F4, kl ρ3, r4, p3⟩
      generalize hgb : gb ρ1 = rg at pb'
      cases rg with
      | stuck => exact pb'.elim
      | err c ρ3 => exact pb'
      | nx ρ3 => exact fun σ3 H3 F3 r3 => again r3 pb'
      | ct ρ3 => exact fun σ3 H3 F3 r3 => again r3 pb'
      | bk ρ3 => exact pb'
      | rt o => exact pb'

/-! ### a, b = x, y (names) -/
def sPar (i j : Nat) (h h' : OEnv → R PyData) : OEnv → SR := fun ρ => (h ρ).sr ρ fun d => (h' ρ).sr ρ fun e => .nx ((ρ.set i (some (.fz d))).set j (some (.fz e)))
theorem vs_par (i j : Nat) {x y : Str} {px py pt : Pos} {kt k2 pt2} (mk : ∀ {ta : TA}, PA X [a, b] ta → PS X (.Assign [.Tuple [.Name x px, .Name y py] kt pt] (.Tuple [a, b] k2 pt2) pos) (tPar i j ta)) (h1 : VX X W a hx) (h2 : VX X W b hx')
    (he : starEach [a, b] X.env = (false, eval a X.env) :: starEach [b] X.env := by rfl) (he2 : starEach [b] X.env = (false, eval b X.env) :: starEach [] X.env := by rfl) :
    VS X W (.Assign [.Tuple [.Name x px, .Name y py] kt pt] (.Tuple [a, b] k2 pt2) pos) (sPar i j hx hx') := by
  obtain ⟨t, p, q⟩ := h1.ex
  obtain ⟨t2, p2, q2⟩ := h2.ex
  refine ⟨_, mk (pa_cons p (pa_cons p2 pa_nil he2) he), fun D σ H F0 H0 F ρ r pr => ?_⟩
  unfold sPar at pr
  refine q σ H F0 H0 F ρ _ r (sr_pst r pr fun d pd v H1 F1 e1 dv => ?_)
  have r1 := r.ext e1
  refine q2 σ H1 F0 H0 F1 ρ _ r1 (sr_pst r1 pd fun e pe v2 H2 F2 e2 dv2 => ?_)
  have r2 := r1.ext e2
  exact ⟨v, v2, rfl, pe _ H2 F2 ((((r2.consFz (Is.mono e2.bb dv)).put i).consFz dv2).put j)⟩
end

/-! ### defs -/
/-- what a def promises: its n arguments are data, its answer is what g says -/
def spO (K : PySem.W.Frag) (mg : Str → Option Value) (n : Nat) (g : List PyData → R O) : Sp := fun vs H Q E => vs.length = n ∧ ∃ ds B, Same B H ∧ IsAll K B vs ds ∧
  match g ds with
  | .stuck => False
  | .err c => ∀ H', Same H H' → ∃ C, mg c = some (.ref C) ∧ E (.ref C) none H'
  | .ok o => ∀ v H' F', RV K B H F' H' v o → Q v H'
def startO (n : Nat) (ds : List PyData) : OEnv := ds.map (fun d => some (.fz d)) ++ List.replicate (n - ds.length) none
def runB (n : Nat) (g : OEnv → SR) (ds : List PyData) : R O := match g (startO n ds) with
  | .rt o => .ok o
  | .nx _ => .ok (.fz .none)
  | .err c _ => .err c
  | _ => .stuck
theorem slots_start {K : PySem.W.Frag} {B H : Hp} : ∀ {ds : List PyData} {vs : List V} (m : Nat), IsAll K B vs ds → Slots K B H (vs.map some ++ List.replicate m none) (ds.map (fun d => some (O.fz d)) ++ List.replicate m none) []
  | [], _, m, h => by
    cases h
    induction m with
    | zero => exact .nil
    | succ m ih => exact .un ih
  | d :: ds, _, m, h => by
    cases h with
    | cons h1 h2 => exact .ow (fp := []) (.fz h1) (slots_start m h2)
section
variable {P : Program} {w : World} {K : PySem.W.Frag} {mg : Str → Option Value} {base : Heap}
/-- THE RULE for a def -/
theorem fn_vl {x qual : Str} {st : Stmt} {f : Addr} {fd : FuncData} {N ps : List Str} {k n : Nat} {g : OEnv → SR} (F : Fun K x qual st f fd) (S : FnScope N ps (defScope st)) (hn : n = ps.length)
    (hb : ∀ (cdv : Value) (A : Around) (outer : List Env) (s : Shared) (H : Hp) (E : XK), Room k (A.deeper (envOfC qual (defScope st) s.heap.objs.size f cdv)) →
      VSs (cxOf (L2.CX P w) P w K mg base N qual (defScope st) f cdv A outer s H E) (fun cls d _ H => E cls d H) (defBody st) g) :
    FnOk P w K mg base (L2.CX P w) (k + 1) f fd ps (spO K mg n (runB N.length g)) := by
  refine F.okX S (fun vs H Q E h => by rw [h.1, hn]) (fun cdv A outer s H vs Q E hr h => ?_)
  obtain ⟨hl, ds, B, sb, ia, post⟩ := h
  obtain ⟨t, p, q⟩ := (hb cdv A outer s H E hr).ex
  refine ⟨t, p, q _ _ H B H B (startO N.length ds) ?_ ?_⟩
  · refine ⟨[], ?_, List.nodup_nil, fun a ha => (nomatch ha), sb, Same.refl _, Same.refl _, fun a x y => absurd x y⟩
    unfold L2.start startO
    rw [IsAll.len ia]
    exact slots_start _ ia
  · unfold runB at post
    generalize g (startO N.length ds) = r at post ⊢
    cases r with
    | stuck => exact post
    | err c ρ =>
      intro σ' H' F' x
      obtain ⟨_, _, hs⟩ := x.ex
      exact post H' hs.h0
    | nx ρ =>
      intro σ' H' F' x
      obtain ⟨fps, _, hs⟩ := x.ex
      exact post .non H' F' ⟨[], .fz .non, hs.sub (List.nil_sublist _)⟩
    | bk ρ => exact post.elim
    | ct ρ => exact post.elim
    | rt o => exact fun v H' F' x => post v H' F' x
/-- its answer frozen -/
def frz (g : List PyData → R O) : List PyData → R PyData := fun ds => (g ds).bind fun o => .ok o.data
theorem fn_frz {f : Addr} {fd : FuncData} {ps : List Str} {k n : Nat} {g : List PyData → R O} (F : FnOk P w K mg base (L2.CX P w) k f fd ps (spO K mg n g)) : FnOk P w K mg base (L2.CX P w) k f fd ps (spV K mg n (frz g)) := by
  refine F.imp fun vs H Q E h => ?_
  obtain ⟨hl, ds, B, sb, ia, post⟩ := h
  refine ⟨hl, ds, B, sb, ia, ?_⟩
  unfold frz at post
  generalize g ds = r at post ⊢
  cases r with
  | stuck => exact post
  | err c => exact post
  | ok o =>
    intro v H' F' rv
    obtain ⟨fp, ow, hs⟩ := rv
    obtain ⟨b1, b2⟩ := hs.bor
    refine post v H' (bor F' H' fp) ⟨hs.h0, hs.f0.trans b1, b2, fun a h1 h2 => ?_⟩ (ow.is b1 fun a ha => bor_own ha)
    by_cases ha : a ∈ fp
    · exact (hs.ow a ha).2
    · rw [bor_not ha] at h2; exact hs.nw a h1 h2
/-- a promise by another function that is the same -/
theorem fn_eq {f : Addr} {fd : FuncData} {ps : List Str} {k n : Nat} {g g' : List PyData → R PyData} (F : FnOk P w K mg base (L2.CX P w) k f fd ps (spV K mg n g)) (h : ∀ ds, g' ds ≠ .stuck → g ds = g' ds) : FnOk P w K mg base (L2.CX P w) k f fd ps (spV K mg n g') := by
  refine F.imp fun vs H Q E q => ?_
  obtain ⟨hl, ds, B, sb, ia, post⟩ := q
  refine ⟨hl, ds, B, sb, ia, ?_⟩
  have h0 : g' ds ≠ .stuck := fun z => by rw [z] at post; exact post
  rw [h ds h0]
  exact post
end
end VL

namespace VL
open PySem PySem.Spec PyProof.Rows L2

/-! ### the names that a derivation's meaning is written in -/
def tst (f : PEnv → R PyData) : PEnv → R Bool := fun ρ => (f ρ).bind tbool
def tnn (f : PEnv → R PyData) : PEnv → R Bool := fun ρ => (v1 visnone f ρ).bind fun d => (tbool d).bind fun b => .ok (!b)
def ttr (f : PEnv → R PyData) : PEnv → R Bool := fun ρ => (f ρ).bind vtruth
def vnn (f : PEnv → R PyData) : PEnv → R PyData := v1 (fun d => (visnone d).bind fun b => match b with | .bool b => .ok (.bool (!b)) | _ => .stuck) f
def vpart (f : PEnv → R PyData) : PEnv → R (Option Int) := fun ρ => (f ρ).bind oInt
def vnopart : PEnv → R (Option Int) := fun _ => .ok none
def seq (g h : OEnv → SR) : OEnv → SR := fun ρ => (g ρ).seq h
def pre (T : OEnv → OEnv) (g : OEnv → SR) : OEnv → SR := fun ρ => g (T ρ)
def tB (t : PEnv → R Bool) : OEnv → R Bool := fun ρ => t (viewB ρ)
def ixF (f : PEnv → R (List PyData)) : OEnv → R (List PyData) := fun ρ => f (viewF ρ)
def sNx : OEnv → SR := fun ρ => .nx ρ
def sBk : OEnv → SR := fun ρ => .bk ρ
def sCt : OEnv → SR := fun ρ => .ct ρ
def sRetN : OEnv → SR := fun _ => .rt (.fz .none)
/-! `in` a tuple -/
def vInT : PyData → PyData → R PyData
  | d, .tuple ds => if SeqAt.shaped d = true ∧ SeqAt.shaped (.tuple ds) = true then .ok (.bool (ds.any fun z => PyData.eqv z d)) else .stuck
  | _, _ => .stuck
def vNotInT : PyData → PyData → R PyData
  | d, .tuple ds => if SeqAt.shaped d = true ∧ SeqAt.shaped (.tuple ds) = true then .ok (.bool (!ds.any fun z => PyData.eqv z d)) else .stuck
  | _, _ => .stuck
def rInTD (K : PySem.W.Frag) (neg : Bool) : R2 := fun x y H Q => ∃ d ds, Dp K H x d ∧ Dp K H y (.tuple ds) ∧ SeqAt.shaped d = true ∧ SeqAt.shaped (.tuple ds) = true ∧ Q (.bl (if neg then !ds.any fun z => PyData.eqv z d else ds.any fun z => PyData.eqv z d)) H
theorem roomT {A : Around} {d : PyData} {ds : List PyData} (h : SeqAt.shaped d = true) (hu : A.units + 65 < cLine) : A.units + 1 + min (PyData.depthAll ds) d.depth < cLine := by
  have := SeqAt.depth_of_shaped h
  have := Nat.min_le_right (PyData.depthAll ds) d.depth
  omega
theorem op_inTD {X : Cx} (hu : X.A.units + 65 < cLine) : OpR X (compareOp .In) (rInTD X.K false) := by
  intro pins t σ G x y vv uu Q J rX rY hh
  obtain ⟨d, ds, hd, he, sd, se, q⟩ := hh
  obtain ⟨as, k1⟩ := Dp.reads J d x vv hd rX
  obtain ⟨bs, k2⟩ := Dp.reads J (.tuple ds) y uu he rY
  exact SeqAt.in_tuple_reads k2 k1 (SeqAt.canLay_of_shaped se) (SeqAt.canLay_of_shaped sd) (roomT sd hu) ⟨.bl _, G, J, rfl, q⟩
theorem op_notInTD {X : Cx} (hu : X.A.units + 65 < cLine) : OpR X (compareOp .NotIn) (rInTD X.K true) := by
  intro pins t σ G x y vv uu Q J rX rY hh
  obtain ⟨d, ds, hd, he, sd, se, q⟩ := hh
  obtain ⟨as, k1⟩ := Dp.reads J d x vv hd rX
  obtain ⟨bs, k2⟩ := Dp.reads J (.tuple ds) y uu he rY
  exact SeqAt.notIn_tuple_reads k2 k1 (SeqAt.canLay_of_shaped se) (SeqAt.canLay_of_shaped sd) (roomT sd hu) ⟨.bl _, G, J, rfl, q⟩
end VL

namespace VL
open PySem PySem.Spec PyProof.Rows L2
section
variable {X : Cx} {W : WX} {a b c e tg iter : Expr} {es : List Expr} {st : Stmt} {sts rest : List Stmt} {pos : Pos} {g h : OEnv → SR} {fa fb fc : PEnv → R PyData} {ft fu : PEnv → R Bool} {k : Nat}
/-! ### the rules under the names that a derivation's meaning is written in -/
theorem qs_nil : VSs X W [] sNx := vss_nil
theorem qs_cons (h1 : VS X W st g) (h2 : VSs X W rest h) : VSs X W (st :: rest) (seq g h) := vss_cons h1 h2
theorem qs_t {T : OEnv → OEnv} (hT : EnvT X.K T) (h1 : VSs X W sts g) : VSs X W sts (pre T g) := vss_t (g := g) (T := T) hT h1
theorem q_pass : VS X W (.Pass pos) sNx := vs_pass
theorem q_break : VS X W (.Break pos) sBk := vs_break
theorem q_continue : VS X W (.Continue pos) sCt := vs_continue
theorem q_retN : VS X W (.Return none pos) sRetN := vs_retN
theorem qx_T (h : VT X W e ft) : VXT X W e (tB ft) := vxT h
theorem qix_F {f : PEnv → R (List PyData)} (h : VI X W tg iter f) : VIX X W tg iter (ixF f) := vix_F h
theorem qlt (ha : VE X W a fa) (hb : VE X W b fb) : VT X W (.Compare a [.Lt] [b] pos) (tst (v2 vlt fa fb)) := vlt_t ha hb
theorem qle (ha : VE X W a fa) (hb : VE X W b fb) : VT X W (.Compare a [.LtE] [b] pos) (tst (v2 vle fa fb)) := vle_t ha hb
theorem qgt (ha : VE X W a fa) (hb : VE X W b fb) : VT X W (.Compare a [.Gt] [b] pos) (tst (v2 vgt fa fb)) := vgt_t ha hb
theorem qge (ha : VE X W a fa) (hb : VE X W b fb) : VT X W (.Compare a [.GtE] [b] pos) (tst (v2 vge fa fb)) := vge_t ha hb
theorem qeq (hr : Room k X.A) (ha : VE X W a fa) (hb : VE X W b fb) : VT X W (.Compare a [.Eq] [b] pos) (tst (v2 veq fa fb)) := veq_t hr ha hb
theorem qne (hr : Room k X.A) (ha : VE X W a fa) (hb : VE X W b fb) : VT X W (.Compare a [.NotEq] [b] pos) (tst (v2 vne fa fb)) := vne_t hr ha hb
theorem qin (hr : Room k X.A) (ha : VE X W a fa) (hb : VE X W b fb) (hm : behindInMarks .In b = false := by with_unfolding_all rfl) : VT X W (.Compare a [.In] [b] pos) (tst (v2 vIn fa fb)) := vin_t hr ha hb hm
theorem qnotin (hr : Room k X.A) (ha : VE X W a fa) (hb : VE X W b fb) (hm : behindInMarks .NotIn b = false := by with_unfolding_all rfl) : VT X W (.Compare a [.NotIn] [b] pos) (tst (v2 vNotIn fa fb)) := vnotin_t hr ha hb hm
theorem win (hr : Room k X.A) (ha : VE X W a fa) (hb : VE X W b fb) (hm : behindInMarks .In b = false := by with_unfolding_all rfl) : VE X W (.Compare a [.In] [b] pos) (v2 vIn fa fb) := vin_ hr ha hb hm
theorem wnotin (hr : Room k X.A) (ha : VE X W a fa) (hb : VE X W b fb) (hm : behindInMarks .NotIn b = false := by with_unfolding_all rfl) : VE X W (.Compare a [.NotIn] [b] pos) (v2 vNotIn fa fb) := vnotin_ hr ha hb hm
theorem qtruth (h : VE X W a fa) (he : ∀ whole, isTrue a X.env whole = (do let v ← whole; standAt a.pos; holding [v] (truthy v)) := by intro _; rfl) : VT X W a (ttr fa) := vt_truth h he
theorem qisnone {j pos'} (ha : VE X W a fa) : VT X W (.Compare a [.Is] [.Constant .none j pos'] pos) (tst (v1 visnone fa)) := visnone_t ha
theorem qnotnone {j pos'} (ha : VE X W a fa) : VT X W (.Compare a [.IsNot] [.Constant .none j pos'] pos) (tnn fa) := vnotnone_t ha
theorem wnotnone {j pos'} (ha : VE X W a fa) : VE X W (.Compare a [.IsNot] [.Constant .none j pos'] pos) (vnn fa) := vnotnone_ ha
theorem qchain {op op' : CmpOp} {p p' : Int → Int → Bool} {g g' : D → D → R D} (i1 : IntCmp X op p g) (i2 : IntCmp X op' p' g') (ha : VE X W a fa) (hb : VE X W b fb) (hc : VE X W c fc) (hm : lastMarks [op, op'] [b, c] = false := by with_unfolding_all rfl) :
    VT X W (.Compare a [op, op'] [b, c] pos) (tst (vchain g g' fa fb fc)) := vchain_t i1 i2 ha hb hc hm
theorem qo_some (h : VE X W a fa) : VO1 X W (some a) (vpart fa) := vo_some h
theorem qo_none : VO1 X W none vnopart := vo_none
/-! in a flat tuple -/
theorem rule_inT : Rule2 X W (rInTD X.K false) vInT := fun d e x y σ H B Q s sm dx dy p => by
  cases e <;> first | (cases d <;> exact p.elim) | skip
  simp only [vInT] at p
  split at p
  · rename_i hf
    exact ⟨_, _, (Is.mono s dx).dp (SeqAt.canLay_of_shaped hf.1), (Is.mono s dy).dp (SeqAt.canLay_of_shaped hf.2), hf.1, hf.2, p _ H B (.refl s) (.bl _)⟩
  · exact p.elim
theorem rule_notInT : Rule2 X W (rInTD X.K true) vNotInT := fun d e x y σ H B Q s sm dx dy p => by
  cases e <;> first | (cases d <;> exact p.elim) | skip
  simp only [vNotInT] at p
  split at p
  · rename_i hf
    exact ⟨_, _, (Is.mono s dx).dp (SeqAt.canLay_of_shaped hf.1), (Is.mono s dy).dp (SeqAt.canLay_of_shaped hf.2), hf.1, hf.2, p _ H B (.refl s) (.bl _)⟩
  · exact p.elim
theorem winT (hr : Room k X.A) (ha : VE X W a fa) (hb : VE X W b fb) (hm : behindInMarks .In b = false := by with_unfolding_all rfl) : VE X W (.Compare a [.In] [b] pos) (v2 vInT fa fb) := ve2 (fun p q => pe_cmpR (op_inTD (hu65 hr)) p q hm) rule_inT ha hb
theorem wnotinT (hr : Room k X.A) (ha : VE X W a fa) (hb : VE X W b fb) (hm : behindInMarks .NotIn b = false := by with_unfolding_all rfl) : VE X W (.Compare a [.NotIn] [b] pos) (v2 vNotInT fa fb) := ve2 (fun p q => pe_cmpR (op_notInTD (hu65 hr)) p q hm) rule_notInT ha hb
theorem inT_bool {d e z : PyData} (h : vInT d e = .ok z) : ∃ k, z = .bool k := by
  cases e <;> first | (cases d <;> (cases h; done)) | skip
  simp only [vInT] at h
  split at h <;> cases h
  exact ⟨_, rfl⟩
theorem notInT_bool {d e z : PyData} (h : vNotInT d e = .ok z) : ∃ k, z = .bool k := by
  cases e <;> first | (cases d <;> (cases h; done)) | skip
  simp only [vNotInT] at h
  split at h <;> cases h
  exact ⟨_, rfl⟩
theorem qinT (hr : Room k X.A) (ha : VE X W a fa) (hb : VE X W b fb) (hm : behindInMarks .In b = false := by with_unfolding_all rfl) : VT X W (.Compare a [.In] [b] pos) (tst (v2 vInT fa fb)) := vt2 (fun p q => pt_cmpR (op_inTD (hu65 hr)) p q hm) rule_inT (fun _ _ _ h => inT_bool h) ha hb
theorem qnotinT (hr : Room k X.A) (ha : VE X W a fa) (hb : VE X W b fb) (hm : behindInMarks .NotIn b = false := by with_unfolding_all rfl) : VT X W (.Compare a [.NotIn] [b] pos) (tst (v2 vNotInT fa fb)) := vt2 (fun p q => pt_cmpR (op_notInTD (hu65 hr)) p q hm) rule_notInT (fun _ _ _ h => notInT_bool h) ha hb
end
theorem takes0 {X : Cx} : Takes X W0 := fun u s' ⟨_, _, _, _, _, _, _, _, _, _, _, _, _, _, _, _, w⟩ => w.elim
/-! ### constants of the module -/
def Cst (K : PySem.W.Frag) (mg : Str → Option Value) (x : Str) (d : PyData) : Prop := ∃ (u : Value) (v : V), mg x = some u ∧ RelV v u ∧ ∀ H, Is K H v d
theorem vglobT {X : Cx} {W : WX} {pos : Pos} {x : Str} {d : PyData} (h : Cst X.K X.mg x d) (hg : Gl X x := by rfl) (hdb : (x == ("__debug__" : Str)) = false := by decide) : VE X W (.Name x pos) (vC d) := by
  obtain ⟨u, v, h1, h2, h3⟩ := h
  exact vglob hg h1 h2 h3 hdb
theorem is_ktup {K : PySem.W.Frag} {q : Addr} {dd : Option Addr} {ss : Array (Option Value)} {its : Array Value} {n : Nat} {vs : List V} {ds : List PyData} (h : K.lookup q = some ⟨.type "tuple", dd, .seq its n, ss⟩) (hz : its.size ≤ sizeLine) (hv : Vals vs its.toList) (hd : ∀ H, IsAll K H vs ds) : ∀ H, Is K H (.ref q) (.tuple ds) :=
  fun H => .tup (.inr ⟨_, its, n, h, rfl, rfl, hz, hv⟩) (hd H)

/-! ### where a new list comes to stand -/
section
variable {X : Cx} {W : WX} {f : PEnv → R (List PyData)} {t : TE}
theorem mode_F (q : ∀ σ H B ρ Q, Same B H → RF X.K B σ ρ → Pst X W σ H (KFr X B H Q) (f ρ) → t σ H Q) : ∀ σ H F0 H0 F ρ Q, RS X.K F0 H0 F H σ ρ → Pst X W σ H (KO X F0 H0 σ Q) (oFrF f ρ) → t σ H Q := fun σ H F0 H0 F ρ Q r pr => by
  obtain ⟨fps, s, hs⟩ := r.ex
  refine q σ H F _ Q hs.fh s.rfF ?_
  unfold oFrF at pr
  generalize f (viewF ρ) = rr at pr ⊢
  cases rr with
  | stuck => exact pr
  | err c => exact pr
  | ok ds =>
    intro pa vs H' B' ex hp hn bn ia
    have hs' := hs.ext ex s.lstAt
    have s' : Slots X.K B' H' σ ρ fps := s.keep ex.bb fun a ha => by
      obtain ⟨us, z⟩ := s.lstAt a ha
      rw [z]; exact ex.hh _ _ z
    refine pr (.ref pa) H' B' ⟨[pa] ++ fps, .ow (.lst hp (OwnL.fzs ia)) s', ?_, ?_, hs'.fh, hs'.f0, hs'.h0, hs'.nw⟩
    · refine List.nodup_cons.mpr ⟨fun hm => ?_, hs'.nd⟩
      obtain ⟨us, z⟩ := s.lstAt pa hm
      rw [hn] at z; cases z
    · intro a ha
      rcases List.mem_cons.mp ha with e | e
      · subst e; exact ⟨bn, Same.free hs.h0 hn⟩
      · exact hs'.ow a e
theorem mode_B (q : ∀ σ H B ρ Q, Same B H → RF X.K B σ ρ → Pst X W σ H (KFr X B H Q) (f ρ) → t σ H Q) : ∀ σ H F0 H0 F ρ Q, RS X.K F0 H0 F H σ ρ → Pst X W σ H (KO X F0 H0 σ Q) (oFrB f ρ) → t σ H Q := fun σ H F0 H0 F ρ Q r pr => by
  obtain ⟨fps, s, hs⟩ := r.ex
  obtain ⟨b1, b2⟩ := hs.bor
  refine q σ H (bor F H fps) _ Q b2 (s.rfB b1 fun a ha => bor_own ha) ?_
  unfold oFrB at pr
  generalize f (viewB ρ) = rr at pr ⊢
  cases rr with
  | stuck => exact pr
  | err c => exact pr
  | ok ds =>
    simp only [R.bind_ok] at pr
    split at pr
    · rename_i hl
      intro pa vs H' B' ex hp hn bn ia
      obtain ⟨F', e1, e2, e3⟩ := hs.unbor s.lstAt ex
      have hs' := hs.ext e1 s.lstAt
      have s' : Slots X.K F' H' σ ρ fps := s.keep e1.bb fun a ha => by
        obtain ⟨us, z⟩ := s.lstAt a ha
        rw [z]; exact e1.hh _ _ z
      have hpa : pa ∉ fps := fun hm => by
        obtain ⟨us, z⟩ := s.lstAt pa hm
        rw [hn] at z; cases z
      have fn : F' pa = none := by
        cases z : F' pa with
        | none => rfl
        | some o => have w := e3 _ _ z; rw [bn] at w; cases w
      refine pr (.ref pa) H' F' ⟨[pa] ++ fps, .ow (.lst hp (OwnL.fzs (IsAll.lfree e2 hl ia))) s', ?_, ?_, hs'.fh, hs'.f0, hs'.h0, hs'.nw⟩
      · exact List.nodup_cons.mpr ⟨hpa, hs'.nd⟩
      · intro a ha
        rcases List.mem_cons.mp ha with e | e
        · subst e; exact ⟨fn, Same.free hs.h0 hn⟩
        · exact hs'.ow a e
    · exact pr.elim
theorem mode_Z (q : ∀ σ H B ρ Q, Same B H → RF X.K B σ ρ → Pst X W σ H (KFr X B H Q) (f ρ) → t σ H Q) : ∀ σ H F0 H0 F ρ Q, RS X.K F0 H0 F H σ ρ → Pst X W σ H (KO X F0 H0 σ Q) (oX (exF (vlistOf f)) ρ) → t σ H Q := fun σ H F0 H0 F ρ Q r pr => by
  have r0 := r
  obtain ⟨fps, s, hs⟩ := r.ex
  refine q σ H F _ Q hs.fh s.rfF ?_
  unfold oX exF vlistOf at pr
  generalize f (viewF ρ) = rr at pr ⊢
  cases rr with
  | stuck => exact pr
  | err c => exact pr
  | ok ds =>
    refine kfr_of fun v H' F' ex dv => ?_
    obtain ⟨fps, s, hs⟩ := (r0.ext ex).ex
    exact pr v H' F' ⟨fps, .ow (.fz dv) s, hs⟩
end
section
variable {X : Cx} {W : WX} {a b c e tg iter elt : Expr} {ifs : List Expr} {pos : Pos} {scope : Scope} {own : List (Str × Nat)} {sl ownl : List Nat} {fi : PEnv → R (List D)} {kt : D → R (List (Nat × D))} {ft : PEnv → R Bool} {fe : PEnv → R D} {k : Nat}
theorem qcomp (hc : X.calm = true) (hN : X.N.Nodup) (hi : VI X W tg iter fi) (ok : BlkOk X.N X.env.scope scope own) (ho : own.map (·.2) = ownl)
    (hg : ∀ (s : Shared) (H : Hp) (C : Addr) (cl : List (Str × Addr)) (fp : List Addr), VG (X.blk s H scope (compEnvC scope cl C X.env) fp) tg sl kt)
    (hso : ∀ i ∈ sl, i ∈ ownl)
    (ht : ∀ (s : Shared) (H : Hp) (C : Addr) (cl : List (Str × Addr)) (fp : List Addr), VTs (X.blk s H scope (compEnvC scope cl C X.env) fp) W0 ifs ft)
    (he : ∀ (s : Shared) (H : Hp) (C : Addr) (cl : List (Str × Addr)) (fp : List Addr), VE (X.blk s H scope (compEnvC scope cl C X.env) fp) W0 elt fe) (hs : ∀ x, foldedSetIterable iter X.env x = pure x := by intro _; rfl) :
    VFr X W (.ListComp elt [⟨tg, iter, ifs, 0⟩] scope pos) (vcomp ownl fi kt ft fe) := by
  subst ho
  exact vcomp_ hc hN hi ok hg hso ht he hs
theorem qsetLc {cpos : Pos} {x : Str} {py : Pos} {hh : OEnv → R (O × OEnv)} (i : Nat) (mode : ∀ {t : TE}, (∀ σ H B ρ Q, Same B H → RF X.K B σ ρ → Pst X W σ H (KFr X B H Q) (vcomp ownl fi kt ft fe ρ) → t σ H Q) → ∀ σ H F0 H0 F ρ Q, RS X.K F0 H0 F H σ ρ → Pst X W σ H (KO X F0 H0 σ Q) (hh ρ) → t σ H Q)
    (hc : X.calm = true) (hN : X.N.Nodup) (hy : X.N[i]? = some x) (hyl : X.env.scope.names.lookup x = some .local) (hsw : swapsWith (.ListComp elt [⟨tg, iter, ifs, 0⟩] scope cpos) (some (.Name x py)) pos.line X.env = pure true)
    (hi : VI X W tg iter fi) (ok : BlkOk X.N X.env.scope scope own) (ho : own.map (·.2) = ownl)
    (hg : ∀ (s : Shared) (H : Hp) (C : Addr) (cl : List (Str × Addr)) (fp : List Addr), VG (X.blk s H scope (compEnvC scope cl C X.env) fp) tg sl kt)
    (hso : ∀ i ∈ sl, i ∈ ownl)
    (ht : ∀ (s : Shared) (H : Hp) (C : Addr) (cl : List (Str × Addr)) (fp : List Addr), VTs (X.blk s H scope (compEnvC scope cl C X.env) fp) W0 ifs ft)
    (hee : ∀ (s : Shared) (H : Hp) (C : Addr) (cl : List (Str × Addr)) (fp : List Addr), VE (X.blk s H scope (compEnvC scope cl C X.env) fp) W0 elt fe) (hs : ∀ x, foldedSetIterable iter X.env x = pure x := by intro _; rfl) :
    VS X W (.Assign [.Name x py] (.ListComp elt [⟨tg, iter, ifs, 0⟩] scope cpos) pos) (sSet i hh) := by
  subst ho
  exact vs_setLc i mode hc hN hy hyl hsw hi ok hg hso ht hee hs
/-! list(range(..)) -/
theorem ints_is {K : PySem.W.Frag} {F : Hp} : ∀ ns : List Int, IsAll K F (ns.map V.int) (ns.map PyData.int)
  | [] => .nil
  | n :: ns => .cons (.int n) (ints_is ns)
theorem rgV_is {K : PySem.W.Frag} {F : Hp} (i j : Int) : IsAll K F (rgV i j) (rangeD i (j - i).toNat) := by
  have := ints_is (K := K) (F := F) ((List.range (j - i).toNat).map fun n : Nat => i + (n : Int))
  unfold rgV rangeD
  rw [List.map_map, List.map_map] at this
  exact this
theorem rgOk_of {i j : Int} (h : rngOk i j) : RgOk i j := by
  obtain ⟨h1, h2, h3, h4, h5⟩ := h
  exact ⟨by omega, by omega, by omega, by omega, by omega⟩
theorem qlist_rg1 {p p2 pos2 : Pos} {fa : PEnv → R PyData} (hc : X.calm = true) (hm : X.mg "list" = none) (hm2 : X.mg "range" = none) (ha : VE X W a fa) (hg : Gl X "list" := by rfl) (hg2 : Gl X "range" := by rfl)
    (n1 : starEach [a] X.env = (false, eval a X.env) :: starEach [] X.env := by rfl)
    (n3 : starEach [.Call (.Name "range" p2) [a] [] pos2] X.env = (false, eval (.Call (.Name "range" p2) [a] [] pos2) X.env) :: starEach [] X.env := by rfl) : VFr X W (.Call (.Name "list" p) [.Call (.Name "range" p2) [a] [] pos2] [] pos) (i1 vrange1 fa) := by
  obtain ⟨t, pt, qt⟩ := ha.ex
  refine ⟨_, pe_listRg hc hg hm (prg_1 hg2 hm2 pt n1) n3, fun σ H B ρ Q s rf pr => ?_⟩
  refine one qt s rf pr fun d x H' B' ex sm dx pg => ?_
  cases dx <;> first | exact pg.elim | skip
  rename_i j
  simp only [vrange1] at pg
  split at pg
  · rename_i hz
    refine ⟨j, rfl, rgOk_of hz, fun q hq => ?_⟩
    have pg : KFr X B H Q (rangeD 0 j.toNat) := pg
    have e := rgV_is (K := X.K) (F := B') 0 j
    rw [Int.sub_zero] at e
    exact pg q _ _ B' (ex.trans (Ext.own ex.bh hq)) upd_same (Same.free ex.hh hq) (Same.free ex.bh hq) e
  · exact pg.elim
theorem qlist_rg2 {p p2 pos2 : Pos} {fa fb : PEnv → R PyData} (hc : X.calm = true) (hm : X.mg "list" = none) (hm2 : X.mg "range" = none) (ha : VE X W a fa) (hb : VE X W b fb) (hg : Gl X "list" := by rfl) (hg2 : Gl X "range" := by rfl)
    (n1 : starEach [a, b] X.env = (false, eval a X.env) :: starEach [b] X.env := by rfl) (n2 : starEach [b] X.env = (false, eval b X.env) :: starEach [] X.env := by rfl) (hp : (backTo pos2 (starEach [b] X.env)).any (·.1) = false := by rfl)
    (n3 : starEach [.Call (.Name "range" p2) [a, b] [] pos2] X.env = (false, eval (.Call (.Name "range" p2) [a, b] [] pos2) X.env) :: starEach [] X.env := by rfl) : VFr X W (.Call (.Name "list" p) [.Call (.Name "range" p2) [a, b] [] pos2] [] pos) (i2 vrange2 fa fb) := by
  obtain ⟨t, pt, qt⟩ := ha.ex
  obtain ⟨t2, pt2, qt2⟩ := hb.ex
  refine ⟨_, pe_listRg hc hg hm (prg_2 hg2 hm2 pt pt2 n1 n2 hp) n3, fun σ H B ρ Q s rf pr => ?_⟩
  refine two qt qt2 s rf pr fun d e x y H' B' ex sm dx dy pg => ?_
  cases dx <;> first | (cases dy <;> exact pg.elim) | skip
  cases dy <;> first | exact pg.elim | skip
  rename_i i j
  simp only [vrange2] at pg
  split at pg
  · rename_i hz
    refine ⟨i, j, rfl, rfl, rgOk_of hz, fun q hq => ?_⟩
    have pg : KFr X B H Q (rangeD i (j - i).toNat) := pg
    exact pg q _ _ B' (ex.trans (Ext.own ex.bh hq)) upd_same (Same.free ex.hh hq) (Same.free ex.bh hq) (rgV_is i j)
  · exact pg.elim
end
/-! ### the law's own end -/
/-- what `law` promises: of a list of at most 63 ints, True -/
def spL : Sp := fun vs H Q _ => ∃ (a : Addr) (ns : List Int), vs = [.ref a] ∧ ns.length ≤ 63 ∧ Rd H a (.lst (ns.map V.int)) ∧ ∀ H', Same H H' → Q (.bl true) H'
def noLst (K : PySem.W.Frag) : Bool := K.all fun p => match p.2.cls with | .type "list" => false | _ => true
theorem lookup_all {K : PySem.W.Frag} {p : Addr × Obj → Bool} : ∀ {K : List (Addr × Obj)} {a : Addr} {o : Obj}, K.all p = true → K.lookup a = some o → ∃ b, p (b, o) = true
  | [], a, o, _, e => by cases e
  | (b, u) :: K, a, o, h, e => by
    rw [List.all_cons, Bool.and_eq_true] at h
    rw [List.lookup_cons] at e
    split at e
    · cases e; exact ⟨b, h.1⟩
    · exact lookup_all (K := K) h.2 e
theorem spL_of {K : PySem.W.Frag} {H : Hp} {a : Addr} {ns : List Int} (hl : ns.length ≤ 63) (hS : SqL K H a (ns.map V.int)) (hK : noLst K = true) : spL [.ref a] H (fun v _ => v = .bl true) fun _ _ _ => False := by
  rcases hS with h | ⟨o, its, n, h1, h2, _⟩
  · exact ⟨a, ns, rfl, hl, h, fun _ _ => rfl⟩
  · obtain ⟨b, hb⟩ := lookup_all (K := K) (p := fun p => match p.2.cls with | .type "list" => false | _ => true) hK h1
    simp only [h2] at hb
    cases hb
theorem fn_law {P : Program} {w : World} {K : PySem.W.Frag} {mg : Str → Option Value} {base : Heap} {f : Addr} {fd : FuncData} {ps : List Str} {k : Nat} {g : List PyData → R PyData} (F : FnOk P w K mg base (L2.CX P w) k f fd ps (spV K mg 1 g))
    (math : ∀ ns : List Int, ns.length ≤ 63 → g [.list (ns.map PyData.int)] = .ok (.bool true)) : FnOk P w K mg base (L2.CX P w) k f fd ps spL := by
  refine F.imp fun vs H Q E q => ?_
  obtain ⟨a, ns, rfl, hl, hr, post⟩ := q
  refine ⟨rfl, [.list (ns.map PyData.int)], H, Same.refl H, .cons (.lst hr (ints_is ns)) .nil, ?_⟩
  rw [math ns hl]
  intro v H' B' ex dv
  cases dv
  exact post H' ex.hh
theorem cx_false {P : Program} {w : World} {H : Hp} {s : Shared} {e : Value} {s' : Shared} (h : L2.CX P w [] H s (fun _ _ _ => False) e s') : False := by
  obtain ⟨_, _, _, _, _, _, _, _, _, _, _, _, h⟩ := h
  exact h
end VL

namespace VL
open PySem PySem.Spec PyProof.Rows

/-! ### evaluation -/
def fin : SR → R PyData
  | .rt o => .ok o.data
  | .nx _ => .ok .none
  | .err c _ => .err c
  | _ => .stuck
@[simp] theorem fin_rt (o : O) : fin (.rt o) = .ok o.data := rfl
@[simp] theorem fin_nx (ρ : OEnv) : fin (.nx ρ) = .ok .none := rfl
@[simp] theorem fin_err (c : Str) (ρ : OEnv) : fin (.err c ρ) = .err c := rfl
theorem frz_fin (n : Nat) (g : OEnv → SR) (ds : List PyData) : frz (runB n g) ds = fin (g (startO n ds)) := by
  unfold frz runB
  cases g (startO n ds) <;> rfl
@[simp] theorem seq_ap (g h : OEnv → SR) (ρ : OEnv) : seq g h ρ = (g ρ).seq h := rfl
@[simp] theorem pre_ap (T : OEnv → OEnv) (g : OEnv → SR) (ρ : OEnv) : pre T g ρ = g (T ρ) := rfl
@[simp] theorem tB_ap (t : PEnv → R Bool) (ρ : OEnv) : tB t ρ = t (viewB ρ) := rfl
@[simp] theorem ixF_ap (t : PEnv → R (List PyData)) (ρ : OEnv) : ixF t ρ = t (viewF ρ) := rfl
@[simp] theorem sRet_ap (h : OEnv → R (O × OEnv)) (ρ : OEnv) : sRet h ρ = (h ρ).sr ρ fun p => .rt p.1 := rfl
@[simp] theorem sSet_ap (i : Nat) (h : OEnv → R (O × OEnv)) (ρ : OEnv) : sSet i h ρ = (h ρ).sr ρ fun p => .nx (p.2.set i (some p.1)) := rfl
@[simp] theorem sExpr_ap (h : OEnv → R (O × OEnv)) (ρ : OEnv) : sExpr h ρ = (h ρ).sr ρ fun p => .nx p.2 := rfl
@[simp] theorem sIf_ap (t : OEnv → R Bool) (g h : OEnv → SR) (ρ : OEnv) : sIf t g h ρ = (t ρ).sr ρ fun b => if b then g ρ else h ρ := rfl
@[simp] theorem sNx_ap (ρ : OEnv) : sNx ρ = .nx ρ := rfl
@[simp] theorem sBk_ap (ρ : OEnv) : sBk ρ = .bk ρ := rfl
@[simp] theorem sCt_ap (ρ : OEnv) : sCt ρ = .ct ρ := rfl
@[simp] theorem sRetN_ap (ρ : OEnv) : sRetN ρ = .rt (.fz .none) := rfl
@[simp] theorem oX_ap (h : OEnv → R PyData) (ρ : OEnv) : oX h ρ = (h ρ).bind fun d => .ok (.fz d, ρ) := rfl
@[simp] theorem exF_ap (f : PEnv → R PyData) (ρ : OEnv) : exF f ρ = f (viewF ρ) := rfl
@[simp] theorem exB_ap (f : PEnv → R PyData) (ρ : OEnv) : exB f ρ = (f (viewB ρ)).bind lfok := rfl
@[simp] theorem oFrF_ap (f : PEnv → R (List PyData)) (ρ : OEnv) : oFrF f ρ = (f (viewF ρ)).bind fun ds => .ok (.lst (ds.map O.fz), ρ) := rfl
@[simp] theorem oFrB_ap (f : PEnv → R (List PyData)) (ρ : OEnv) : oFrB f ρ = (f (viewB ρ)).bind fun ds => if lfs ds then .ok (.lst (ds.map O.fz), ρ) else .stuck := rfl
@[simp] theorem sPar_ap (i j : Nat) (h h' : OEnv → R PyData) (ρ : OEnv) : sPar i j h h' ρ = (h ρ).sr ρ fun d => (h' ρ).sr ρ fun e => .nx ((ρ.set i (some (.fz d))).set j (some (.fz e))) := rfl
@[simp] theorem sTup_ap (k : PyData → R (List (Nat × PyData))) (h : OEnv → R PyData) (ρ : OEnv) : sTup k h ρ = (h ρ).sr ρ fun d => match k d with | .ok bd => .nx (setsO ρ bd) | _ => .stuck := rfl
@[simp] theorem sFor_ap (hi : OEnv → R (List PyData)) (kt : PyData → R (List (Nat × PyData))) (kl : OEnv → OEnv) (gb : OEnv → SR) (ρ : OEnv) : sFor hi kt kl gb ρ = (hi ρ).sr ρ fun ds => forL kt kl gb ds ρ := rfl
@[simp] theorem sForK_ap (hi : OEnv → R (List PyData)) (T : OEnv → OEnv) (kt : PyData → R (List (Nat × PyData))) (kl : OEnv → OEnv) (gb : OEnv → SR) (ρ : OEnv) : sForK hi T kt kl gb ρ = (hi ρ).sr ρ fun ds => forL kt kl gb ds (T ρ) := rfl
@[simp] theorem lfok_ap (d : PyData) : lfok d = if lf d then .ok d else .stuck := rfl
@[simp] theorem kill_nil (ρ : OEnv) : kill [] ρ = ρ := rfl
@[simp] theorem kill_cons (i : Nat) (is : List Nat) (ρ : OEnv) : kill (i :: is) ρ = kill is (ρ.set i none) := rfl
@[simp] theorem freeze_nil (ρ : OEnv) : freeze [] ρ = ρ := rfl
@[simp] theorem freeze_cons (i : Nat) (is : List Nat) (ρ : OEnv) : freeze (i :: is) ρ = freeze is (freezeAt ρ i) := rfl
@[simp] theorem setsO_nil (ρ : OEnv) : setsO ρ [] = ρ := rfl
@[simp] theorem setsO_cons (b : Nat × PyData) (bs : List (Nat × PyData)) (ρ : OEnv) : setsO ρ (b :: bs) = setsO (ρ.set b.1 (some (.fz b.2))) bs := rfl
@[simp] theorem setsD_nil (ρ : PEnv) : setsD ρ [] = ρ := rfl
@[simp] theorem setsD_cons (b : Nat × PyData) (bs : List (Nat × PyData)) (ρ : PEnv) : setsD ρ (b :: bs) = setsD (ρ.set b.1 (some b.2)) bs := rfl
@[simp] theorem wipeD_nil (ρ : PEnv) : wipeD ρ [] = ρ := rfl
@[simp] theorem wipeD_cons (i : Nat) (is : List Nat) (ρ : PEnv) : wipeD ρ (i :: is) = (wipeD ρ is).set i none := rfl
@[simp] theorem viewF_nil : viewF [] = [] := rfl
@[simp] theorem viewF_none (ρ : OEnv) : viewF (none :: ρ) = none :: viewF ρ := rfl
@[simp] theorem viewF_fz (d : PyData) (ρ : OEnv) : viewF (some (.fz d) :: ρ) = some d :: viewF ρ := rfl
@[simp] theorem viewF_lst (xs : List O) (ρ : OEnv) : viewF (some (.lst xs) :: ρ) = none :: viewF ρ := rfl
@[simp] theorem viewB_nil : viewB [] = [] := rfl
@[simp] theorem viewB_none (ρ : OEnv) : viewB (none :: ρ) = none :: viewB ρ := rfl
@[simp] theorem viewB_some (o : O) (ρ : OEnv) : viewB (some o :: ρ) = some o.data :: viewB ρ := rfl
@[simp] theorem v2_ap (g : D → D → R D) (fa fb : PEnv → R D) (ρ : PEnv) : v2 g fa fb ρ = (fa ρ).bind fun d => (fb ρ).bind fun e => g d e := rfl
@[simp] theorem v1_ap (g : D → R D) (fa : PEnv → R D) (ρ : PEnv) : v1 g fa ρ = (fa ρ).bind g := rfl
@[simp] theorem vC_ap (d : D) (ρ : PEnv) : vC d ρ = .ok d := rfl
@[simp] theorem vnn_ap (f : PEnv → R PyData) (ρ : PEnv) : vnn f ρ = (f ρ).bind fun d => .ok (.bool (match d with | .none => false | _ => true)) := by
  unfold vnn v1 visnone
  generalize f ρ = r
  cases r with
  | stuck => rfl
  | err c => rfl
  | ok d => cases d <;> rfl
@[simp] theorem tnn_ap (f : PEnv → R PyData) (ρ : PEnv) : tnn f ρ = (f ρ).bind fun d => .ok (match d with | .none => false | _ => true) := by
  unfold tnn v1 visnone
  generalize f ρ = r
  cases r with
  | stuck => rfl
  | err c => rfl
  | ok d => cases d <;> rfl
@[simp] theorem tst_ap (f : PEnv → R PyData) (ρ : PEnv) : tst f ρ = (f ρ).bind tbool := rfl
@[simp] theorem ttr_ap (f : PEnv → R PyData) (ρ : PEnv) : ttr f ρ = (f ρ).bind vtruth := rfl
@[simp] theorem vpart_ap (f : PEnv → R PyData) (ρ : PEnv) : vpart f ρ = (f ρ).bind oInt := rfl
@[simp] theorem vnopart_ap (ρ : PEnv) : vnopart ρ = .ok none := rfl
@[simp] theorem oInt_int (i : Int) : oInt (.int i) = .ok (some i) := rfl
@[simp] theorem tbool_bool (b : Bool) : tbool (.bool b) = .ok b := rfl
@[simp] theorem tand_ap (f g : PEnv → R Bool) (ρ : PEnv) : tand f g ρ = (f ρ).bind fun b => if b then g ρ else .ok false := rfl
@[simp] theorem tor_ap (f g : PEnv → R Bool) (ρ : PEnv) : tor f g ρ = (f ρ).bind fun b => if b then .ok true else g ρ := rfl
@[simp] theorem tnot_ap (f : PEnv → R Bool) (ρ : PEnv) : tnot f ρ = (f ρ).bind fun b => .ok (!b) := rfl
@[simp] theorem tyes_ap (ρ : PEnv) : tyes ρ = .ok true := rfl
@[simp] theorem vif_ap (t : PEnv → R Bool) (f g : PEnv → R D) (ρ : PEnv) : vif t f g ρ = (t ρ).bind fun b => if b then f ρ else g ρ := rfl
@[simp] theorem vand_ap (f g : PEnv → R D) (ρ : PEnv) : vand f g ρ = (f ρ).bind fun d => (tbool d).bind fun b => if b then g ρ else .ok (.bool false) := rfl
@[simp] theorem vor_ap (f g : PEnv → R D) (ρ : PEnv) : vor f g ρ = (f ρ).bind fun d => (tbool d).bind fun b => if b then .ok (.bool true) else g ρ := rfl
@[simp] theorem vnot_ap (f : PEnv → R D) (ρ : PEnv) : vnot f ρ = (f ρ).bind fun d => (tbool d).bind fun b => .ok (.bool (!b)) := rfl
@[simp] theorem vchain_ap (g g' : D → D → R D) (fa fb fc : PEnv → R D) (ρ : PEnv) : vchain g g' fa fb fc ρ = (fa ρ).bind fun d => (fb ρ).bind fun e => (g d e).bind fun z => (tbool z).bind fun k => if k then (fc ρ).bind fun f => g' e f else .ok (.bool false) := rfl
@[simp] theorem aNil_ap (ρ : PEnv) : aNil ρ = .ok [] := rfl
@[simp] theorem aCons_ap (f : PEnv → R D) (g : PEnv → R (List D)) (ρ : PEnv) : aCons f g ρ = (f ρ).bind fun d => (g ρ).bind fun ds => .ok (d :: ds) := rfl
@[simp] theorem vtup_ap (g : PEnv → R (List D)) (ρ : PEnv) : vtup g ρ = (g ρ).bind fun ds => .ok (.tuple ds) := rfl
@[simp] theorem vlistOf_ap (g : PEnv → R (List D)) (ρ : PEnv) : vlistOf g ρ = (g ρ).bind fun ds => .ok (.list ds) := rfl
@[simp] theorem vapp_ap (g : List D → R D) (f : PEnv → R (List D)) (ρ : PEnv) : vapp g f ρ = (f ρ).bind g := rfl
@[simp] theorem vslice_ap (f : PEnv → R D) (l u : PEnv → R (Option Int)) (ρ : PEnv) : vslice f l u ρ = (f ρ).bind fun d => (l ρ).bind fun lo => (u ρ).bind fun hi => vcut lo hi d := rfl
@[simp] theorem x1_ap (g : PyData → R (List PyData)) (h : OEnv → R PyData) (ρ : OEnv) : x1 g h ρ = (h ρ).bind g := rfl
@[simp] theorem x2_ap (g : PyData → PyData → R (List PyData)) (h h' : OEnv → R PyData) (ρ : OEnv) : x2 g h h' ρ = (h ρ).bind fun d => (h' ρ).bind fun e => g d e := rfl
@[simp] theorem i1_ap (g : PyData → R (List PyData)) (h : PEnv → R PyData) (ρ : PEnv) : i1 g h ρ = (h ρ).bind g := rfl
@[simp] theorem i2_ap (g : PyData → PyData → R (List PyData)) (h h' : PEnv → R PyData) (ρ : PEnv) : i2 g h h' ρ = (h ρ).bind fun d => (h' ρ).bind fun e => g d e := rfl
@[simp] theorem isq_ap (h : PEnv → R PyData) (ρ : PEnv) : isq h ρ = (h ρ).bind seqD := rfl
@[simp] theorem seqD_list (xs : List PyData) : seqD (.list xs) = .ok xs := rfl
@[simp] theorem seqD_tuple (xs : List PyData) : seqD (.tuple xs) = .ok xs := rfl
@[simp] theorem gN_ap (i : Nat) (d : PyData) : gN i d = .ok [(i, d)] := rfl
@[simp] theorem calm_okk {α : Type} (a : α) : (R.ok a).calm = .ok a := rfl
@[simp] theorem calm_ite {α : Type} (p : Prop) [Decidable p] (a b : R α) : (if p then a else b).calm = if p then a.calm else b.calm := by split <;> rfl

@[simp] theorem vadd_int (a b : Int) : vadd (.int a) (.int b) = .ok (.int (a + b)) := rfl
@[simp] theorem vsub_int (a b : Int) : vsub (.int a) (.int b) = .ok (.int (a - b)) := rfl
@[simp] theorem vlt_int (a b : Int) : vlt (.int a) (.int b) = .ok (.bool (decide (a < b))) := rfl
@[simp] theorem vle_int (a b : Int) : vle (.int a) (.int b) = .ok (.bool (decide (a ≤ b))) := rfl
@[simp] theorem vgt_int (a b : Int) : vgt (.int a) (.int b) = .ok (.bool (decide (b < a))) := rfl
@[simp] theorem vge_int (a b : Int) : vge (.int a) (.int b) = .ok (.bool (decide (b ≤ a))) := rfl
@[simp] theorem vneg_int (a : Int) : vneg (.int a) = .ok (.int (-a)) := rfl
theorem vmul_int {a b : Int} (h : IntMulOk a b) : vmul (.int a) (.int b) = .ok (.int (a * b)) := if_pos h
@[simp] theorem vfdiv_int (a b : Int) : vfdiv (.int a) (.int b) = if 0 < b ∧ b < 2 ^ 250 then .ok (.int (a / b)) else .stuck := rfl
@[simp] theorem vmod_int (a b : Int) : vmod (.int a) (.int b) = if 0 < b then .ok (.int (a % b)) else .stuck := rfl
@[simp] theorem vpow_int (a b : Int) : vpow (.int a) (.int b) = if 0 ≤ b ∧ b ≤ 1000 ∧ a.natAbs < 2 ^ 64 then .ok (.int (a ^ b.toNat)) else .stuck := rfl
@[simp] theorem veq_int (a b : Int) : veq (.int a) (.int b) = .ok (.bool (decide (a = b))) := by
  unfold veq vEq; simp [SeqAt.shaped, PyData.canLay0, PyData.depth, PyData.eqv, Bool.beq_eq_decide_eq]
@[simp] theorem vne_int (a b : Int) : vne (.int a) (.int b) = .ok (.bool (!decide (a = b))) := by
  unfold vne vEq; simp [SeqAt.shaped, PyData.canLay0, PyData.depth, PyData.eqv, Bool.beq_eq_decide_eq]
theorem veq_str {a b : Str} (ha : PyData.strOk a = true) (hb : PyData.strOk b = true) : veq (.str a) (.str b) = .ok (.bool (decide (a = b))) := by
  unfold veq vEq; simp [SeqAt.shaped, PyData.canLay0, PyData.depth, PyData.eqv, ha, hb, Bool.beq_eq_decide_eq]
theorem vne_str {a b : Str} (ha : PyData.strOk a = true) (hb : PyData.strOk b = true) : vne (.str a) (.str b) = .ok (.bool (!decide (a = b))) := by
  unfold vne vEq; simp [SeqAt.shaped, PyData.canLay0, PyData.depth, PyData.eqv, ha, hb, Bool.beq_eq_decide_eq]
@[simp] theorem veq_bool (a b : Bool) : veq (.bool a) (.bool b) = .ok (.bool (decide (a = b))) := by
  unfold veq vEq; simp [SeqAt.shaped, PyData.canLay0, PyData.depth, PyData.eqv, Bool.beq_eq_decide_eq]
@[simp] theorem vne_bool (a b : Bool) : vne (.bool a) (.bool b) = .ok (.bool (!decide (a = b))) := by
  unfold vne vEq; simp [SeqAt.shaped, PyData.canLay0, PyData.depth, PyData.eqv, Bool.beq_eq_decide_eq]
@[simp] theorem vint1_int (a : Int) : vint1 [.int a] = .ok (.int a) := rfl
@[simp] theorem vint1_bool (a : Bool) : vint1 [.bool a] = .ok (.int (if a then 1 else 0)) := rfl
@[simp] theorem vabs_int (a : Int) : vabs [.int a] = .ok (.int (if a < 0 then -a else a)) := rfl
@[simp] theorem vlen_list (a : List PyData) : vlen [.list a] = .ok (.int a.length) := rfl
@[simp] theorem vlen_tuple (a : List PyData) : vlen [.tuple a] = .ok (.int a.length) := rfl
@[simp] theorem vtuple1_list (a : List PyData) : vtuple1 [.list a] = .ok (.tuple a) := rfl
@[simp] theorem vtuple1_tuple (a : List PyData) : vtuple1 [.tuple a] = .ok (.tuple a) := rfl
@[simp] theorem vlist1_list (a : List PyData) : vlist1 [.list a] = .ok (.list a) := rfl
@[simp] theorem vlist1_tuple (a : List PyData) : vlist1 [.tuple a] = .ok (.list a) := rfl
@[simp] theorem vmax_two (i j : Int) : vmax [.int i, .int j] = .ok (.int (if j > i then j else i)) := rfl
@[simp] theorem vmin_two (i j : Int) : vmin [.int i, .int j] = .ok (.int (if j < i then j else i)) := rfl
@[simp] theorem vtruth_int (i : Int) : vtruth (.int i) = .ok (i != 0) := rfl
@[simp] theorem vtruth_bool (i : Bool) : vtruth (.bool i) = .ok i := rfl
@[simp] theorem vtruth_none : vtruth .none = .ok false := rfl
@[simp] theorem vtruth_list (i : List PyData) : vtruth (.list i) = .ok (!i.isEmpty) := rfl
@[simp] theorem vtruth_tuple (i : List PyData) : vtruth (.tuple i) = .ok (!i.isEmpty) := rfl
@[simp] theorem visnone_none : visnone .none = .ok (.bool true) := rfl
@[simp] theorem visnone_bool (b : Bool) : visnone (.bool b) = .ok (.bool false) := rfl
@[simp] theorem visnone_int (b : Int) : visnone (.int b) = .ok (.bool false) := rfl
@[simp] theorem visnone_str (b : Str) : visnone (.str b) = .ok (.bool false) := rfl
@[simp] theorem visnone_list (b : List PyData) : visnone (.list b) = .ok (.bool false) := rfl
@[simp] theorem visnone_tuple (b : List PyData) : visnone (.tuple b) = .ok (.bool false) := rfl
@[simp] theorem vrange1_int (j : Int) : vrange1 (.int j) = if rngOk 0 j then .ok (rangeD 0 j.toNat) else .stuck := rfl
@[simp] theorem vrange2_int (i j : Int) : vrange2 (.int i) (.int j) = if rngOk i j then .ok (rangeD i (j - i).toNat) else .stuck := rfl
@[simp] theorem venum_list (xs : List PyData) : venum (.list xs) = .ok (enumD xs) := rfl
@[simp] theorem vzip_list (xs ys : List PyData) : vzip (.list xs) (.list ys) = .ok (zipD xs ys) := rfl
@[simp] theorem vrev_list (xs : List PyData) : vrev (.list xs) = .ok xs.reverse := rfl
@[simp] theorem visi_int_none  : visi "int" .none = .ok (.bool false) := rfl
@[simp] theorem visi_int_bool (b : Bool) : visi "int" (.bool b) = .ok (.bool true) := rfl
@[simp] theorem visi_int_int (b : Int) : visi "int" (.int b) = .ok (.bool true) := rfl
@[simp] theorem visi_int_str (b : Str) : visi "int" (.str b) = .ok (.bool false) := rfl
@[simp] theorem visi_int_list (b : List PyData) : visi "int" (.list b) = .ok (.bool false) := rfl
@[simp] theorem visi_int_tuple (b : List PyData) : visi "int" (.tuple b) = .ok (.bool false) := rfl
@[simp] theorem visi_bool_none  : visi "bool" .none = .ok (.bool false) := rfl
@[simp] theorem visi_bool_bool (b : Bool) : visi "bool" (.bool b) = .ok (.bool true) := rfl
@[simp] theorem visi_bool_int (b : Int) : visi "bool" (.int b) = .ok (.bool false) := rfl
@[simp] theorem visi_bool_str (b : Str) : visi "bool" (.str b) = .ok (.bool false) := rfl
@[simp] theorem visi_bool_list (b : List PyData) : visi "bool" (.list b) = .ok (.bool false) := rfl
@[simp] theorem visi_bool_tuple (b : List PyData) : visi "bool" (.tuple b) = .ok (.bool false) := rfl
@[simp] theorem visi_str_none  : visi "str" .none = .ok (.bool false) := rfl
@[simp] theorem visi_str_bool (b : Bool) : visi "str" (.bool b) = .ok (.bool false) := rfl
@[simp] theorem visi_str_int (b : Int) : visi "str" (.int b) = .ok (.bool false) := rfl
@[simp] theorem visi_str_str (b : Str) : visi "str" (.str b) = .ok (.bool true) := rfl
@[simp] theorem visi_str_list (b : List PyData) : visi "str" (.list b) = .ok (.bool false) := rfl
@[simp] theorem visi_str_tuple (b : List PyData) : visi "str" (.tuple b) = .ok (.bool false) := rfl
@[simp] theorem visi_list_none  : visi "list" .none = .ok (.bool false) := rfl
@[simp] theorem visi_list_bool (b : Bool) : visi "list" (.bool b) = .ok (.bool false) := rfl
@[simp] theorem visi_list_int (b : Int) : visi "list" (.int b) = .ok (.bool false) := rfl
@[simp] theorem visi_list_str (b : Str) : visi "list" (.str b) = .ok (.bool false) := rfl
@[simp] theorem visi_list_list (b : List PyData) : visi "list" (.list b) = .ok (.bool true) := rfl
@[simp] theorem visi_list_tuple (b : List PyData) : visi "list" (.tuple b) = .ok (.bool false) := rfl
@[simp] theorem visi_tuple_none  : visi "tuple" .none = .ok (.bool false) := rfl
@[simp] theorem visi_tuple_bool (b : Bool) : visi "tuple" (.bool b) = .ok (.bool false) := rfl
@[simp] theorem visi_tuple_int (b : Int) : visi "tuple" (.int b) = .ok (.bool false) := rfl
@[simp] theorem visi_tuple_str (b : Str) : visi "tuple" (.str b) = .ok (.bool false) := rfl
@[simp] theorem visi_tuple_list (b : List PyData) : visi "tuple" (.list b) = .ok (.bool false) := rfl
@[simp] theorem visi_tuple_tuple (b : List PyData) : visi "tuple" (.tuple b) = .ok (.bool true) := rfl
@[simp] theorem vVar_0 (d : PyData) (ρ : PEnv) : vVar 0 (some d :: ρ) = .ok d := rfl
@[simp] theorem vVar_1 (x0 : Option PyData) (d : PyData) (ρ : PEnv) : vVar 1 (x0 :: some d :: ρ) = .ok d := rfl
@[simp] theorem vVar_2 (x0 x1 : Option PyData) (d : PyData) (ρ : PEnv) : vVar 2 (x0 :: x1 :: some d :: ρ) = .ok d := rfl
@[simp] theorem vVar_3 (x0 x1 x2 : Option PyData) (d : PyData) (ρ : PEnv) : vVar 3 (x0 :: x1 :: x2 :: some d :: ρ) = .ok d := rfl
@[simp] theorem vVar_4 (x0 x1 x2 x3 : Option PyData) (d : PyData) (ρ : PEnv) : vVar 4 (x0 :: x1 :: x2 :: x3 :: some d :: ρ) = .ok d := rfl
@[simp] theorem vVar_5 (x0 x1 x2 x3 x4 : Option PyData) (d : PyData) (ρ : PEnv) : vVar 5 (x0 :: x1 :: x2 :: x3 :: x4 :: some d :: ρ) = .ok d := rfl
@[simp] theorem vVar_6 (x0 x1 x2 x3 x4 x5 : Option PyData) (d : PyData) (ρ : PEnv) : vVar 6 (x0 :: x1 :: x2 :: x3 :: x4 :: x5 :: some d :: ρ) = .ok d := rfl
@[simp] theorem vVar_7 (x0 x1 x2 x3 x4 x5 x6 : Option PyData) (d : PyData) (ρ : PEnv) : vVar 7 (x0 :: x1 :: x2 :: x3 :: x4 :: x5 :: x6 :: some d :: ρ) = .ok d := rfl
@[simp] theorem vVar_8 (x0 x1 x2 x3 x4 x5 x6 x7 : Option PyData) (d : PyData) (ρ : PEnv) : vVar 8 (x0 :: x1 :: x2 :: x3 :: x4 :: x5 :: x6 :: x7 :: some d :: ρ) = .ok d := rfl
@[simp] theorem vVar_9 (x0 x1 x2 x3 x4 x5 x6 x7 x8 : Option PyData) (d : PyData) (ρ : PEnv) : vVar 9 (x0 :: x1 :: x2 :: x3 :: x4 :: x5 :: x6 :: x7 :: x8 :: some d :: ρ) = .ok d := rfl
@[simp] theorem vVar_10 (x0 x1 x2 x3 x4 x5 x6 x7 x8 x9 : Option PyData) (d : PyData) (ρ : PEnv) : vVar 10 (x0 :: x1 :: x2 :: x3 :: x4 :: x5 :: x6 :: x7 :: x8 :: x9 :: some d :: ρ) = .ok d := rfl
@[simp] theorem vVar_11 (x0 x1 x2 x3 x4 x5 x6 x7 x8 x9 x10 : Option PyData) (d : PyData) (ρ : PEnv) : vVar 11 (x0 :: x1 :: x2 :: x3 :: x4 :: x5 :: x6 :: x7 :: x8 :: x9 :: x10 :: some d :: ρ) = .ok d := rfl
@[simp] theorem vVar_12 (x0 x1 x2 x3 x4 x5 x6 x7 x8 x9 x10 x11 : Option PyData) (d : PyData) (ρ : PEnv) : vVar 12 (x0 :: x1 :: x2 :: x3 :: x4 :: x5 :: x6 :: x7 :: x8 :: x9 :: x10 :: x11 :: some d :: ρ) = .ok d := rfl
@[simp] theorem vVar_13 (x0 x1 x2 x3 x4 x5 x6 x7 x8 x9 x10 x11 x12 : Option PyData) (d : PyData) (ρ : PEnv) : vVar 13 (x0 :: x1 :: x2 :: x3 :: x4 :: x5 :: x6 :: x7 :: x8 :: x9 :: x10 :: x11 :: x12 :: some d :: ρ) = .ok d := rfl
@[simp] theorem vVar_14 (x0 x1 x2 x3 x4 x5 x6 x7 x8 x9 x10 x11 x12 x13 : Option PyData) (d : PyData) (ρ : PEnv) : vVar 14 (x0 :: x1 :: x2 :: x3 :: x4 :: x5 :: x6 :: x7 :: x8 :: x9 :: x10 :: x11 :: x12 :: x13 :: some d :: ρ) = .ok d := rfl
@[simp] theorem vVar_15 (x0 x1 x2 x3 x4 x5 x6 x7 x8 x9 x10 x11 x12 x13 x14 : Option PyData) (d : PyData) (ρ : PEnv) : vVar 15 (x0 :: x1 :: x2 :: x3 :: x4 :: x5 :: x6 :: x7 :: x8 :: x9 :: x10 :: x11 :: x12 :: x13 :: x14 :: some d :: ρ) = .ok d := rfl
@[simp] theorem vVar_16 (x0 x1 x2 x3 x4 x5 x6 x7 x8 x9 x10 x11 x12 x13 x14 x15 : Option PyData) (d : PyData) (ρ : PEnv) : vVar 16 (x0 :: x1 :: x2 :: x3 :: x4 :: x5 :: x6 :: x7 :: x8 :: x9 :: x10 :: x11 :: x12 :: x13 :: x14 :: x15 :: some d :: ρ) = .ok d := rfl
@[simp] theorem vVar_17 (x0 x1 x2 x3 x4 x5 x6 x7 x8 x9 x10 x11 x12 x13 x14 x15 x16 : Option PyData) (d : PyData) (ρ : PEnv) : vVar 17 (x0 :: x1 :: x2 :: x3 :: x4 :: x5 :: x6 :: x7 :: x8 :: x9 :: x10 :: x11 :: x12 :: x13 :: x14 :: x15 :: x16 :: some d :: ρ) = .ok d := rfl
@[simp] theorem vVar_18 (x0 x1 x2 x3 x4 x5 x6 x7 x8 x9 x10 x11 x12 x13 x14 x15 x16 x17 : Option PyData) (d : PyData) (ρ : PEnv) : vVar 18 (x0 :: x1 :: x2 :: x3 :: x4 :: x5 :: x6 :: x7 :: x8 :: x9 :: x10 :: x11 :: x12 :: x13 :: x14 :: x15 :: x16 :: x17 :: some d :: ρ) = .ok d := rfl
@[simp] theorem vVar_19 (x0 x1 x2 x3 x4 x5 x6 x7 x8 x9 x10 x11 x12 x13 x14 x15 x16 x17 x18 : Option PyData) (d : PyData) (ρ : PEnv) : vVar 19 (x0 :: x1 :: x2 :: x3 :: x4 :: x5 :: x6 :: x7 :: x8 :: x9 :: x10 :: x11 :: x12 :: x13 :: x14 :: x15 :: x16 :: x17 :: x18 :: some d :: ρ) = .ok d := rfl
@[simp] theorem vVar_20 (x0 x1 x2 x3 x4 x5 x6 x7 x8 x9 x10 x11 x12 x13 x14 x15 x16 x17 x18 x19 : Option PyData) (d : PyData) (ρ : PEnv) : vVar 20 (x0 :: x1 :: x2 :: x3 :: x4 :: x5 :: x6 :: x7 :: x8 :: x9 :: x10 :: x11 :: x12 :: x13 :: x14 :: x15 :: x16 :: x17 :: x18 :: x19 :: some d :: ρ) = .ok d := rfl
@[simp] theorem vVar_21 (x0 x1 x2 x3 x4 x5 x6 x7 x8 x9 x10 x11 x12 x13 x14 x15 x16 x17 x18 x19 x20 : Option PyData) (d : PyData) (ρ : PEnv) : vVar 21 (x0 :: x1 :: x2 :: x3 :: x4 :: x5 :: x6 :: x7 :: x8 :: x9 :: x10 :: x11 :: x12 :: x13 :: x14 :: x15 :: x16 :: x17 :: x18 :: x19 :: x20 :: some d :: ρ) = .ok d := rfl
@[simp] theorem vVar_22 (x0 x1 x2 x3 x4 x5 x6 x7 x8 x9 x10 x11 x12 x13 x14 x15 x16 x17 x18 x19 x20 x21 : Option PyData) (d : PyData) (ρ : PEnv) : vVar 22 (x0 :: x1 :: x2 :: x3 :: x4 :: x5 :: x6 :: x7 :: x8 :: x9 :: x10 :: x11 :: x12 :: x13 :: x14 :: x15 :: x16 :: x17 :: x18 :: x19 :: x20 :: x21 :: some d :: ρ) = .ok d := rfl
@[simp] theorem vVar_23 (x0 x1 x2 x3 x4 x5 x6 x7 x8 x9 x10 x11 x12 x13 x14 x15 x16 x17 x18 x19 x20 x21 x22 : Option PyData) (d : PyData) (ρ : PEnv) : vVar 23 (x0 :: x1 :: x2 :: x3 :: x4 :: x5 :: x6 :: x7 :: x8 :: x9 :: x10 :: x11 :: x12 :: x13 :: x14 :: x15 :: x16 :: x17 :: x18 :: x19 :: x20 :: x21 :: x22 :: some d :: ρ) = .ok d := rfl
@[simp] theorem vVar_24 (x0 x1 x2 x3 x4 x5 x6 x7 x8 x9 x10 x11 x12 x13 x14 x15 x16 x17 x18 x19 x20 x21 x22 x23 : Option PyData) (d : PyData) (ρ : PEnv) : vVar 24 (x0 :: x1 :: x2 :: x3 :: x4 :: x5 :: x6 :: x7 :: x8 :: x9 :: x10 :: x11 :: x12 :: x13 :: x14 :: x15 :: x16 :: x17 :: x18 :: x19 :: x20 :: x21 :: x22 :: x23 :: some d :: ρ) = .ok d := rfl
@[simp] theorem vVar_25 (x0 x1 x2 x3 x4 x5 x6 x7 x8 x9 x10 x11 x12 x13 x14 x15 x16 x17 x18 x19 x20 x21 x22 x23 x24 : Option PyData) (d : PyData) (ρ : PEnv) : vVar 25 (x0 :: x1 :: x2 :: x3 :: x4 :: x5 :: x6 :: x7 :: x8 :: x9 :: x10 :: x11 :: x12 :: x13 :: x14 :: x15 :: x16 :: x17 :: x18 :: x19 :: x20 :: x21 :: x22 :: x23 :: x24 :: some d :: ρ) = .ok d := rfl
@[simp] theorem vVar_26 (x0 x1 x2 x3 x4 x5 x6 x7 x8 x9 x10 x11 x12 x13 x14 x15 x16 x17 x18 x19 x20 x21 x22 x23 x24 x25 : Option PyData) (d : PyData) (ρ : PEnv) : vVar 26 (x0 :: x1 :: x2 :: x3 :: x4 :: x5 :: x6 :: x7 :: x8 :: x9 :: x10 :: x11 :: x12 :: x13 :: x14 :: x15 :: x16 :: x17 :: x18 :: x19 :: x20 :: x21 :: x22 :: x23 :: x24 :: x25 :: some d :: ρ) = .ok d := rfl
@[simp] theorem vVar_27 (x0 x1 x2 x3 x4 x5 x6 x7 x8 x9 x10 x11 x12 x13 x14 x15 x16 x17 x18 x19 x20 x21 x22 x23 x24 x25 x26 : Option PyData) (d : PyData) (ρ : PEnv) : vVar 27 (x0 :: x1 :: x2 :: x3 :: x4 :: x5 :: x6 :: x7 :: x8 :: x9 :: x10 :: x11 :: x12 :: x13 :: x14 :: x15 :: x16 :: x17 :: x18 :: x19 :: x20 :: x21 :: x22 :: x23 :: x24 :: x25 :: x26 :: some d :: ρ) = .ok d := rfl
@[simp] theorem vVar_28 (x0 x1 x2 x3 x4 x5 x6 x7 x8 x9 x10 x11 x12 x13 x14 x15 x16 x17 x18 x19 x20 x21 x22 x23 x24 x25 x26 x27 : Option PyData) (d : PyData) (ρ : PEnv) : vVar 28 (x0 :: x1 :: x2 :: x3 :: x4 :: x5 :: x6 :: x7 :: x8 :: x9 :: x10 :: x11 :: x12 :: x13 :: x14 :: x15 :: x16 :: x17 :: x18 :: x19 :: x20 :: x21 :: x22 :: x23 :: x24 :: x25 :: x26 :: x27 :: some d :: ρ) = .ok d := rfl
@[simp] theorem vVar_29 (x0 x1 x2 x3 x4 x5 x6 x7 x8 x9 x10 x11 x12 x13 x14 x15 x16 x17 x18 x19 x20 x21 x22 x23 x24 x25 x26 x27 x28 : Option PyData) (d : PyData) (ρ : PEnv) : vVar 29 (x0 :: x1 :: x2 :: x3 :: x4 :: x5 :: x6 :: x7 :: x8 :: x9 :: x10 :: x11 :: x12 :: x13 :: x14 :: x15 :: x16 :: x17 :: x18 :: x19 :: x20 :: x21 :: x22 :: x23 :: x24 :: x25 :: x26 :: x27 :: x28 :: some d :: ρ) = .ok d := rfl
/-! ### sizes of ints -/
def Sm (n : Nat) (a : Int) : Prop := a.natAbs < 2 ^ n
theorem Sm.mono {m n : Nat} {a : Int} (h : Sm m a) (l : m ≤ n) : Sm n a := Nat.lt_of_lt_of_le h (Nat.pow_le_pow_right (by omega) l)
theorem Sm.neg {n : Nat} {a : Int} (h : Sm n a) : Sm n (-a) := by unfold Sm at *; rw [Int.natAbs_neg]; exact h
theorem Sm.add {m : Nat} {a b : Int} (h : Sm m a) (g : Sm m b) : Sm (m + 1) (a + b) := by
  unfold Sm at *
  rw [Nat.pow_succ]
  have := Int.natAbs_add_le a b
  omega
theorem Sm.sub {m : Nat} {a b : Int} (h : Sm m a) (g : Sm m b) : Sm (m + 1) (a - b) := by
  rw [Int.sub_eq_add_neg]; exact h.add g.neg
theorem Sm.mul {m n : Nat} {a b : Int} (h : Sm m a) (g : Sm n b) : Sm (m + n) (a * b) := by
  unfold Sm at *
  rw [Int.natAbs_mul, Nat.pow_add]
  exact Nat.mul_lt_mul'' h g
theorem Sm.bits {n : Nat} {a : Int} (h : Sm n a) : Builtin.Int.intBits a ≤ n := by
  unfold Builtin.Int.intBits
  split
  · omega
  · rename_i h0
    have h1 : a.natAbs ≠ 0 := fun z => h0 (by simp; omega)
    have := (Nat.log2_lt h1).mpr h
    omega
theorem Sm.mulOk {m n : Nat} {a b : Int} (h : Sm m a) (g : Sm n b) (l : m + n ≤ 134217728 := by decide) : IntMulOk a b := by
  have h1 := h.bits
  have h2 := g.bits
  unfold IntMulOk Builtin.Int.intTooBig
  intro z
  rw [Bool.and_eq_true] at z
  have z2 := of_decide_eq_true z.2
  have : (bitsLine : Int) = 134217728 := by unfold bitsLine; decide
  omega
theorem vmul_sm {m n : Nat} {a b : Int} (h : Sm m a) (g : Sm n b) (l : m + n ≤ 134217728 := by decide) : vmul (.int a) (.int b) = .ok (.int (a * b)) := vmul_int (h.mulOk g l)
end VL

namespace VL
open PySem PySem.Spec PyProof.Rows
/-! ### items -/
theorem atI_nat {α : Type} (xs : List α) (k : Nat) : L2.atI xs (k : Int) = xs[k]? := by
  unfold L2.atI L2.ixN
  by_cases h : k < xs.length
  · simp [h]
  · simp [h]
theorem vidx_list {xs : List PyData} {k : Nat} {d : PyData} (h : xs[k]? = some d) : vidx (.list xs) (.int (k : Int)) = .ok d := by
  simp only [vidx, atI_nat, h]
theorem vidx_tuple {xs : List PyData} {k : Nat} {d : PyData} (h : xs[k]? = some d) : vidx (.tuple xs) (.int (k : Int)) = .ok d := by
  simp only [vidx, atI_nat, h]
@[simp] theorem vidx_list_0 (a : PyData) (xs : List PyData) : vidx (.list (a :: xs)) (.int 0) = .ok a := vidx_list (k := 0) rfl
@[simp] theorem vidx_list_1 (a b : PyData) (xs : List PyData) : vidx (.list (a :: b :: xs)) (.int 1) = .ok b := vidx_list (k := 1) rfl
@[simp] theorem vidx_list_2 (a b c : PyData) (xs : List PyData) : vidx (.list (a :: b :: c :: xs)) (.int 2) = .ok c := vidx_list (k := 2) rfl
@[simp] theorem vidx_list_3 (a b c d : PyData) (xs : List PyData) : vidx (.list (a :: b :: c :: d :: xs)) (.int 3) = .ok d := vidx_list (k := 3) rfl
@[simp] theorem vidx_list_4 (a b c d e : PyData) (xs : List PyData) : vidx (.list (a :: b :: c :: d :: e :: xs)) (.int 4) = .ok e := vidx_list (k := 4) rfl
@[simp] theorem vidx_list_5 (a b c d e f : PyData) (xs : List PyData) : vidx (.list (a :: b :: c :: d :: e :: f :: xs)) (.int 5) = .ok f := vidx_list (k := 5) rfl
@[simp] theorem vidx_tuple_0 (a : PyData) (xs : List PyData) : vidx (.tuple (a :: xs)) (.int 0) = .ok a := vidx_tuple (k := 0) rfl
@[simp] theorem vidx_tuple_1 (a b : PyData) (xs : List PyData) : vidx (.tuple (a :: b :: xs)) (.int 1) = .ok b := vidx_tuple (k := 1) rfl
@[simp] theorem vidx_tuple_2 (a b c : PyData) (xs : List PyData) : vidx (.tuple (a :: b :: c :: xs)) (.int 2) = .ok c := vidx_tuple (k := 2) rfl
@[simp] theorem vidx_tuple_3 (a b c d : PyData) (xs : List PyData) : vidx (.tuple (a :: b :: c :: d :: xs)) (.int 3) = .ok d := vidx_tuple (k := 3) rfl
@[simp] theorem vidx_tuple_4 (a b c d e : PyData) (xs : List PyData) : vidx (.tuple (a :: b :: c :: d :: e :: xs)) (.int 4) = .ok e := vidx_tuple (k := 4) rfl
/-! ### loops -/
theorem forL_nx {kt : PyData → R (List (Nat × PyData))} {kl : OEnv → OEnv} {gb : OEnv → SR} (P : Nat → OEnv → Prop) : ∀ (ds : List PyData) (j : Nat) (ρ : OEnv), P j ρ →
    (∀ i d ρ, ds[i]? = some d → P (j + i) ρ → ∃ bs ρ', kt d = .ok bs ∧ (gb (setsO ρ bs) = .nx ρ' ∨ gb (setsO ρ bs) = .ct ρ') ∧ P (j + i + 1) (kl ρ')) → ∃ ρ', forL kt kl gb ds ρ = .nx ρ' ∧ P (j + ds.length) ρ'
  | [], j, ρ, h, _ => ⟨ρ, rfl, h⟩
  | d :: ds, j, ρ, h, hs => by
    obtain ⟨bs, ρ', h1, h2, h3⟩ := hs 0 d ρ rfl h
    obtain ⟨ρ2, h4, h5⟩ := forL_nx P ds (j + 1) (kl ρ') h3 fun i d' ρ' hd hp => by
      have := hs (i + 1) d' ρ' (by simpa using hd) (by rw [show j + (i + 1) = j + 1 + i by omega]; exact hp)
      rw [show j + (i + 1) = j + 1 + i by omega] at this
      exact this
    refine ⟨ρ2, ?_, by rw [List.length_cons, show j + (ds.length + 1) = j + 1 + ds.length by omega]; exact h5⟩
    unfold forL
    rw [h1]
    rcases h2 with h2 | h2 <;> (simp only [h2]; exact h4)
theorem rangeD_get {lo : Int} {n i : Nat} {d : PyData} (h : (rangeD lo n)[i]? = some d) : i < n ∧ d = .int (lo + (i : Int)) := by
  have hi : i < n := by
    obtain ⟨q, _⟩ := List.getElem?_eq_some_iff.mp h
    rw [rangeD_len] at q; exact q
  rw [rangeD_at hi] at h
  cases h
  exact ⟨hi, rfl⟩
theorem rngOk_nat {n : Nat} (h : n ≤ 16777216) : rngOk 0 (n : Int) := by unfold rngOk; omega
@[simp] theorem vrange1_nat {n : Nat} (h : n ≤ 16777216) : vrange1 (.int (n : Int)) = .ok (rangeD 0 n) := by
  rw [vrange1_int, if_pos (rngOk_nat h)]; simp
theorem vmul_r {a b : Int} (h : Sm 64 b) : vmul (.int a) (.int b) = .ok (.int (a * b)) := vmul_int (IntMulOk.of_right h.bits)
theorem vmul_l {a b : Int} (h : Sm 64 a) : vmul (.int a) (.int b) = .ok (.int (a * b)) := vmul_int (IntMulOk.of_left h.bits)
theorem sm_of {n : Nat} {a : Int} (h : -(2 ^ n : Int) < a ∧ a < 2 ^ n) : Sm n a := by
  unfold Sm
  have e : ((2 ^ n : Nat) : Int) = 2 ^ n := by simp
  omega
theorem Sm.lit {n : Nat} {a : Int} (h : a.natAbs < 2 ^ n := by decide) : Sm n a := h
theorem szL : sizeLine = 16777216 := by with_unfolding_all rfl
end VL

namespace VL
open PySem PySem.Spec PyProof.Rows
@[simp] theorem gT_ap (k : List PyData → R (List (Nat × PyData))) (xs : List PyData) : gT k (.tuple xs) = k xs := rfl
@[simp] theorem gC_ap (g : PyData → R (List (Nat × PyData))) (h : List PyData → R (List (Nat × PyData))) (d : PyData) (ds : List PyData) : gC g h (d :: ds) = (g d).bind fun bs => (h ds).bind fun cs => .ok (bs ++ cs) := rfl
@[simp] theorem gE_ap : gE [] = .ok [] := rfl
/-! ### bounds found by instances -/
class Bd (a : Int) (n : outParam Nat) : Prop where
  h : Sm n a
instance bd_add {a b : Int} {m n : Nat} [ha : Bd a m] [hb : Bd b n] : Bd (a + b) (max m n + 1) := ⟨(ha.h.mono (Nat.le_max_left m n)).add (hb.h.mono (Nat.le_max_right m n))⟩
instance bd_sub {a b : Int} {m n : Nat} [ha : Bd a m] [hb : Bd b n] : Bd (a - b) (max m n + 1) := ⟨(ha.h.mono (Nat.le_max_left m n)).sub (hb.h.mono (Nat.le_max_right m n))⟩
instance bd_mul {a b : Int} {m n : Nat} [ha : Bd a m] [hb : Bd b n] : Bd (a * b) (m + n) := ⟨ha.h.mul hb.h⟩
instance bd_neg {a : Int} {m : Nat} [ha : Bd a m] : Bd (-a) m := ⟨ha.h.neg⟩
instance bd_ite {p : Prop} [Decidable p] {a b : Int} {m n : Nat} [ha : Bd a m] [hb : Bd b n] : Bd (if p then a else b) (max m n) := ⟨by
  split
  · exact ha.h.mono (Nat.le_max_left m n)
  · exact hb.h.mono (Nat.le_max_right m n)⟩
theorem bd_modl {a k : Int} {n : Nat} (h0 : 0 < k) (h : k < 2 ^ n) : Bd (a % k) n := ⟨by
  have a1 := Int.emod_nonneg a (b := k) (by omega)
  have a2 := Int.emod_lt_of_pos a h0
  exact sm_of ⟨by omega, by omega⟩⟩
@[simp] theorem vmul_bd {a b : Int} {m n : Nat} [ha : Bd a m] [hb : Bd b n] (h : m + n ≤ 134217728) : vmul (.int a) (.int b) = .ok (.int (a * b)) := vmul_sm ha.h hb.h h
theorem pick3 (x : Int) (P : PyData → Prop) {a b c : PyData} (ha : P a) (hb : P b) (hc : P c) : ∃ d, P d ∧ vidx (.list [a, b, c]) (.int (x % 3)) = .ok d := by
  have h1 := Int.emod_nonneg x (b := 3) (by omega)
  have h2 := Int.emod_lt_of_pos x (b := 3) (by omega)
  generalize x % 3 = y at h1 h2
  obtain rfl | rfl | rfl : y = 0 ∨ y = 1 ∨ y = 2 := by omega
  · exact ⟨a, ha, by simp⟩
  · exact ⟨b, hb, by simp⟩
  · exact ⟨c, hc, by simp⟩
theorem pick4 (x : Int) (P : PyData → Prop) {a b c e : PyData} (ha : P a) (hb : P b) (hc : P c) (he : P e) : ∃ d, P d ∧ vidx (.list [a, b, c, e]) (.int (x % 4)) = .ok d := by
  have h1 := Int.emod_nonneg x (b := 4) (by omega)
  have h2 := Int.emod_lt_of_pos x (b := 4) (by omega)
  generalize x % 4 = y at h1 h2
  obtain rfl | rfl | rfl | rfl : y = 0 ∨ y = 1 ∨ y = 2 ∨ y = 3 := by omega
  · exact ⟨a, ha, by simp⟩
  · exact ⟨b, hb, by simp⟩
  · exact ⟨c, hc, by simp⟩
  · exact ⟨e, he, by simp⟩
end VL

namespace VL
open PySem PySem.Spec PyProof.Rows
/-- data of a depth: no dict, texts and lists of a size -/
def okS : Nat → PyData → Prop
  | 0, _ => False
  | _ + 1, .none => True
  | _ + 1, .bool _ => True
  | _ + 1, .int _ => True
  | _ + 1, .str s => PyData.strOk s = true
  | n + 1, .list xs => xs.length ≤ 16777216 ∧ ∀ x ∈ xs, okS n x
  | n + 1, .tuple xs => xs.length ≤ 16777216 ∧ ∀ x ∈ xs, okS n x
  | _ + 1, .dict _ => False
theorem all_lay {n : Nat} (ih : ∀ {d : PyData}, okS n d → d.canLay0 = true ∧ d.depth ≤ n ∧ PyData.eqv d d = true) : ∀ ys : List PyData, (∀ x ∈ ys, okS n x) → PyData.canLayAll0 ys = true ∧ PyData.depthAll ys ≤ n ∧ PyData.eqvAll ys ys = true
  | [], _ => by simp [PyData.canLayAll0, PyData.depthAll, PyData.eqvAll]
  | y :: ys, hy => by
    have h1 := ih (hy y List.mem_cons_self)
    have h2 := all_lay ih ys fun x hx => hy x (List.mem_cons_of_mem _ hx)
    simp only [PyData.canLayAll0, PyData.depthAll, PyData.eqvAll, Bool.and_eq_true]
    exact ⟨⟨h1.1, h2.1⟩, by omega, h1.2.2, h2.2.2⟩
theorem okS.lay : ∀ {n : Nat} {d : PyData}, okS n d → d.canLay0 = true ∧ d.depth ≤ n ∧ PyData.eqv d d = true
  | 0, _, h => h.elim
  | n + 1, .none, _ => by simp [PyData.canLay0, PyData.depth, PyData.eqv]
  | n + 1, .bool _, _ => by simp [PyData.canLay0, PyData.depth, PyData.eqv]
  | n + 1, .int _, _ => by simp [PyData.canLay0, PyData.depth, PyData.eqv]
  | n + 1, .str s, h => by simp only [PyData.canLay0, PyData.depth, PyData.eqv]; exact ⟨h, Nat.zero_le _, by simp⟩
  | n + 1, .list xs, h => by
    have := all_lay (fun {d} => okS.lay (n := n) (d := d)) xs h.2
    simp only [PyData.canLay0, PyData.depth, PyData.eqv]
    exact ⟨this.1, by omega, this.2.2⟩
  | n + 1, .tuple xs, h => by
    have := all_lay (fun {d} => okS.lay (n := n) (d := d)) xs h.2
    simp only [PyData.canLay0, PyData.depth, PyData.eqv]
    exact ⟨this.1, by omega, this.2.2⟩
theorem okS.shaped {n : Nat} {d : PyData} (h : okS n d) (hn : n ≤ 64 := by decide) : SeqAt.shaped d = true := by
  have := h.lay
  unfold SeqAt.shaped
  rw [this.1, decide_eq_true (show d.depth ≤ 64 by omega)]
  rfl
theorem vEq_ok {m n : Nat} {d e : PyData} (h : okS m d) (g : okS n e) (hm : m ≤ 64 := by decide) (hn : n ≤ 64 := by decide) : vEq d e = .ok (PyData.eqv d e) := if_pos ⟨h.shaped hm, g.shaped hn⟩
theorem veq_ok {m n : Nat} {d e : PyData} (h : okS m d) (g : okS n e) (hm : m ≤ 64 := by decide) (hn : n ≤ 64 := by decide) : veq d e = .ok (.bool (PyData.eqv d e)) := by
  unfold veq; rw [vEq_ok h g hm hn]; rfl
theorem vne_ok {m n : Nat} {d e : PyData} (h : okS m d) (g : okS n e) (hm : m ≤ 64 := by decide) (hn : n ≤ 64 := by decide) : vne d e = .ok (.bool (!PyData.eqv d e)) := by
  unfold vne; rw [vEq_ok h g hm hn]; rfl
theorem vne_refl {n : Nat} {d : PyData} (h : okS n d) (hn : n ≤ 64 := by decide) : vne d d = .ok (.bool false) := by
  rw [vne_ok h h hn hn, h.lay.2.2]; rfl
theorem veq_refl {n : Nat} {d : PyData} (h : okS n d) (hn : n ≤ 64 := by decide) : veq d d = .ok (.bool true) := by
  rw [veq_ok h h hn hn, h.lay.2.2]
theorem vidx_list' {xs : List PyData} {j : Int} {k : Nat} {d : PyData} (hj : j = (k : Int)) (h : xs[k]? = some d) : vidx (.list xs) (.int j) = .ok d := by rw [hj]; exact vidx_list h
theorem vidx_tuple' {xs : List PyData} {j : Int} {k : Nat} {d : PyData} (hj : j = (k : Int)) (h : xs[k]? = some d) : vidx (.tuple xs) (.int j) = .ok d := by rw [hj]; exact vidx_tuple h
theorem vfdiv_pos {a b : Int} (h : 0 < b) (h2 : b < 2 ^ 250) : vfdiv (.int a) (.int b) = .ok (.int (a / b)) := if_pos ⟨h, h2⟩
@[simp] theorem veq_strS {a b : Str} (ha : PyData.strOk a = true) (hb : PyData.strOk b = true) : veq (.str a) (.str b) = .ok (.bool (decide (a = b))) := veq_str ha hb
@[simp] theorem vne_strS {a b : Str} (ha : PyData.strOk a = true) (hb : PyData.strOk b = true) : vne (.str a) (.str b) = .ok (.bool (!decide (a = b))) := vne_str ha hb
theorem ixN_nat {n j : Nat} (h : j < n) : L2.ixN n (j : Int) = some j := by unfold L2.ixN; simp [h]
/-- a comprehension item by item -/
theorem compL_rel {kt : PyData → R (List (Nat × PyData))} {ft : PEnv → R Bool} {fe : PEnv → R PyData} {ρ : PEnv} (S : Nat → PyData → Prop) : ∀ (ds : List PyData) (j : Nat),
    (∀ i d, ds[i]? = some d → ∃ bs y, kt d = .ok bs ∧ ft (setsD ρ bs) = .ok true ∧ fe (setsD ρ bs) = .ok y ∧ S (j + i) y) → ∃ ys, compL kt ft fe ρ ds = .ok ys ∧ ys.length = ds.length ∧ ∀ i y, ys[i]? = some y → S (j + i) y
  | [], j, _ => ⟨[], rfl, rfl, fun i y h => by simp at h⟩
  | d :: ds, j, h => by
    obtain ⟨bs, y, h1, h2, h3, h4⟩ := h 0 d rfl
    obtain ⟨ys, h5, h6, h7⟩ := compL_rel S ds (j + 1) fun i d' hd => by
      have := h (i + 1) d' (by simpa using hd)
      rw [show j + (i + 1) = j + 1 + i by omega] at this
      exact this
    refine ⟨y :: ys, ?_, by simp [h6], fun i z hz => ?_⟩
    · simp only [compL, h1, R.bind_ok, h2, h3, calm_okk, h5, if_true]
    · cases i with
      | zero => simp at hz; subst hz; exact h4
      | succ i =>
        have := h7 i z (by simpa using hz)
        rw [show j + (i + 1) = j + 1 + i by omega]
        exact this
@[simp] theorem vcomp_ap (own : List Nat) (fi : PEnv → R (List PyData)) (kt : PyData → R (List (Nat × PyData))) (ft : PEnv → R Bool) (fe : PEnv → R PyData) (ρ : PEnv) : vcomp own fi kt ft fe ρ = (fi ρ).bind fun ds => (compL kt ft fe (wipeD ρ own) ds).calm := rfl
@[simp] theorem vadd_list {xs ys : List PyData} (h : xs.length + ys.length ≤ 16777216) : vadd (.list xs) (.list ys) = .ok (.list (xs ++ ys)) := if_pos (by rw [szL]; exact h)
@[simp] theorem vadd_tuple {xs ys : List PyData} (h : xs.length + ys.length ≤ 16777216) : vadd (.tuple xs) (.tuple ys) = .ok (.tuple (xs ++ ys)) := if_pos (by rw [szL]; exact h)
end VL

namespace VL
open PySem PySem.Spec PyProof.Rows L2
/-! ### raise of an own class over ValueError, with a text -/
structure ExcF (K : PySem.W.Frag) (mg : Str → Option Value) (x : Str) (C : Addr) : Prop where
  xF : PySem.W.excIn K C [.type "ValueError", .type "Exception", .type "BaseException", .type "object"] "ValueError.__new__" = true
  gF : mg x = some (.ref C)
  kF : PySem.W.keepIn K (.ref C) = true
  bF : PySem.W.subIn K (.ref C) (.type "BaseException") = some true
  tF : PySem.W.typeIn K (.ref C) = some (.type "type")
def sRaise (c : Str) : OEnv → SR := fun ρ => .err c ρ
@[simp] theorem sRaise_ap (c : Str) (ρ : OEnv) : sRaise c ρ = .err c ρ := rfl
theorem vs_raise {X : Cx} {W : WX} {x m : Str} {j : Nat} {p p2 pos pos2 : Pos} {C : Addr} (hc : X.calm = true) (tk : Takes X W) (E : ExcF X.K X.mg x C) (hg : Gl X x := by rfl) (hdb : (x == ("__debug__" : Str)) = false := by decide) :
    VS X W (.Raise (some (.Call (.Name x p) [.Constant (.str m) j p2] [] pos)) none pos2) (sRaise x) := by
  refine ⟨_, ps_raise hc tk (pmk_own PySem.F.excBase_ValueError E.xF E.gF E.kF (raises_own E.bF E.tF) hg hdb), fun D σ H F0 H0 F ρ r pr => ?_⟩
  obtain ⟨C', e, w⟩ := pr σ H F r
  rw [E.gF] at e
  cases e
  exact w
end VL

namespace VL
open PySem PySem.Spec PyProof.Rows L2
/-! ### try: body, except C as e: suite -/
def tVS (X : Cx) (W : WX) (g : OEnv → SR) : TS := fun D σ H => ∃ F0 H0 F ρ, RS X.K F0 H0 F H σ ρ ∧ SPst X W F0 H0 D (g ρ)
theorem VSs.pss {X : Cx} {W : WX} {sts : List Stmt} {g : OEnv → SR} (h : VSs X W sts g) : PSs X sts (tVS X W g) := by
  obtain ⟨t, p, q⟩ := h.ex
  exact ⟨fun pins s σ H D I ⟨F0, H0, F, ρ, r, z⟩ => p.run pins s σ H D I (q D σ H F0 H0 F ρ r z)⟩
/-- the caught exception as data -/
def excD (a : Addr) (c : Str) : PyData := .dict [(.int (a : Int), .str c)]
/-- what comes out alike wherever the exception stands -/
noncomputable def anyA (g : Addr → SR) : SR := open Classical in if h : ∃ r, ∀ a, g a = r then Classical.choose h else .stuck
theorem anyA_eq {g : Addr → SR} {r : SR} (h : ∀ a, g a = r) : anyA g = r := by
  unfold anyA
  have ex : ∃ r, ∀ a, g a = r := ⟨r, h⟩
  rw [dif_pos ex]
  exact (Classical.choose_spec ex 0).symm.trans (h 0)
theorem anyA_at {g : Addr → SR} (h : anyA g ≠ .stuck) (a : Addr) : g a = anyA g := by
  unfold anyA at h ⊢
  split at h
  · rename_i ex
    rw [dif_pos ex]
    exact Classical.choose_spec ex a
  · exact absurd rfl h
/-- the clause's name goes -/
def SR.unset (i : Nat) : SR → SR
  | .nx ρ => .nx (ρ.set i none)
  | .bk ρ => .bk (ρ.set i none)
  | .ct ρ => .ct (ρ.set i none)
  | .rt o => .rt o
  | _ => .stuck
@[simp] theorem unset_nx (i : Nat) (ρ : OEnv) : SR.unset i (.nx ρ) = .nx (ρ.set i none) := rfl
@[simp] theorem unset_bk (i : Nat) (ρ : OEnv) : SR.unset i (.bk ρ) = .bk (ρ.set i none) := rfl
@[simp] theorem unset_ct (i : Nat) (ρ : OEnv) : SR.unset i (.ct ρ) = .ct (ρ.set i none) := rfl
@[simp] theorem unset_rt (i : Nat) (o : O) : SR.unset i (.rt o) = .rt o := rfl
/-- what the body's exception comes to -/
noncomputable def catchA (tb : Str → Option Bool) (i : Nat) (gs : Addr → Str → OEnv → SR) : SR → SR
  | .err c ρ => match tb c with
    | some true => anyA fun a => (gs a c (ρ.set i (some (.fz (excD a c))))).unset i
    | some false => .err c ρ
    | none => .stuck
  | r => r
noncomputable def sTryAs (gb : OEnv → SR) (tb : Str → Option Bool) (i : Nat) (gs : Addr → Str → OEnv → SR) : OEnv → SR := fun ρ => catchA tb i gs (gb ρ)
@[simp] theorem sTryAs_ap (gb : OEnv → SR) (tb : Str → Option Bool) (i : Nat) (gs : Addr → Str → OEnv → SR) (ρ : OEnv) : sTryAs gb tb i gs ρ = catchA tb i gs (gb ρ) := rfl
@[simp] theorem catchA_nx (tb : Str → Option Bool) (i : Nat) (gs : Addr → Str → OEnv → SR) (ρ : OEnv) : catchA tb i gs (.nx ρ) = .nx ρ := rfl
@[simp] theorem catchA_rt (tb : Str → Option Bool) (i : Nat) (gs : Addr → Str → OEnv → SR) (o : O) : catchA tb i gs (.rt o) = .rt o := rfl
@[simp] theorem catchA_ct (tb : Str → Option Bool) (i : Nat) (gs : Addr → Str → OEnv → SR) (ρ : OEnv) : catchA tb i gs (.ct ρ) = .ct ρ := rfl
@[simp] theorem catchA_bk (tb : Str → Option Bool) (i : Nat) (gs : Addr → Str → OEnv → SR) (ρ : OEnv) : catchA tb i gs (.bk ρ) = .bk ρ := rfl
theorem catchA_hit {tb : Str → Option Bool} {i : Nat} {gs : Addr → Str → OEnv → SR} {c : Str} {ρ : OEnv} {r : SR} (h : tb c = some true) (e : ∀ a, (gs a c (ρ.set i (some (.fz (excD a c))))).unset i = r) : catchA tb i gs (.err c ρ) = r := by
  simp only [catchA, h]
  exact anyA_eq e
/-- a handler's class, and which classes it takes -/
structure HTab (K : PySem.W.Frag) (mg : Str → Option Value) (x : Str) (tb : Str → Option Bool) : Prop where
  ex : ∃ c, mg x = some c ∧ ∀ cn b, tb cn = some b → ∃ C, mg cn = some (.ref C) ∧ PySem.W.exmOne K (.ref C) c = some b
theorem RS.dropN {K : PySem.W.Frag} {F0 H0 F H : Hp} {σ : L2.St} {ρ : OEnv} (r : RS K F0 H0 F H σ ρ) (i : Nat) : RS K F0 H0 F H (σ.set i none) (ρ.set i none) := by
  obtain ⟨fps, s, hs⟩ := r.ex
  obtain ⟨fpr, z1, z2⟩ := s.drop i none
  exact ⟨fpr, z1, hs.sub z2⟩
section
variable {X : Cx} {W : WX} {body suite : List Stmt} {b₀ : Stmt} {np pos pos' : Pos} {x n : Str} {gb : OEnv → SR} {gs : Addr → Str → OEnv → SR} {tb : Str → Option Bool}
theorem vs_tryAs (i : Nat) (hs : X.stack = X.env :: X.outer) (hf : X.env.frame = some X.env.locals) (hN : X.N.Nodup) (tk : Takes X W) (T : HTab X.K X.mg x tb)
    (hb : ∀ (W' : WX) (pn : List (Addr × Obj)) (xe : Value → Shared → Prop), Takes (X.tr pn xe) W' → PassesOwn (model X.prog X.w) X.A X.env xe → VSs (X.tr pn xe) W' body gb)
    (hsu : ∀ (a : Addr) (oe : Obj) (cn : Str) (C : Addr) (pn : List (Addr × Obj)), X.mg cn = some (.ref C) → Zc (.ref C) none oe → (∃ vs, oe.data = .fields vs) → VSs (X.suite a ((a, oe) :: pn)) W0 (b₀ :: suite) (gs a cn))
    (hi : X.N[i]? = some n := by rfl) (hln : X.env.kindOf n = some .local := by rfl) (hg : Gl X x := by rfl) (hdb : (x == ("__debug__" : Str)) = false := by decide) :
    VS X W (.Try body [.ExceptHandler (some (.Name x np)) (some n) (b₀ :: suite) pos'] [] [] pos) (sTryAs gb tb i gs) := by
  obtain ⟨c, hm, tab⟩ := T.ex
  refine ⟨_, ps_try_as (c := c) (i := i) (tb := fun W' => tVS X W' gb) (ts := fun a cls d => fun D σ H => ∃ cn C, cls = .ref C ∧ d = none ∧ X.mg cn = some (.ref C) ∧ tVS X W0 (gs a cn) D σ H) (Wout := W) hs hf hN hi hln ⟨hg, hdb, .inl hm⟩ tk
    (fun W' pn xe tk' hp => (hb W' pn xe tk' hp).pss) (fun a oe cls d pn hz hfd => ⟨fun pins s σ H D I ⟨cn, C, e1, e2, hmc, h⟩ => by
      subst e1 e2
      exact (hsu a oe cn C pn hmc hz hfd).pss.run pins s σ H D I h⟩), fun D σ H F0 H0 F ρ r pr => ?_⟩
  refine ⟨F0, H0, F, ρ, r, ?_⟩
  unfold sTryAs at pr
  generalize gb ρ = rr at pr ⊢
  cases rr with
  | stuck => exact pr
  | nx ρ' => exact pr
  | bk ρ' => exact pr
  | ct ρ' => exact pr
  | rt o => exact pr
  | err cn ρ' =>
    intro σ' H' F' r'
    simp only [catchA] at pr
    cases ht : tb cn with
    | none => rw [ht] at pr; exact pr.elim
    | some b =>
      obtain ⟨C, hC, he⟩ := tab cn b ht
      rw [ht] at pr
      cases b with
      | false =>
        obtain ⟨C', hC', hw⟩ := pr σ' H' F' r'
        exact ⟨C', hC', false, by rw [hC] at hC'; cases hC'; exact he, fun z => (nomatch z), fun _ => hw⟩
      | true =>
        refine ⟨C, hC, true, he, fun _ a na => ⟨cn, C, rfl, rfl, hC, F0, H0, F', _, (r'.consFz (.exc a cn)).put i, ?_⟩, fun z => (nomatch z)⟩
        have ns : anyA (fun a => (gs a cn (ρ'.set i (some (.fz (excD a cn))))).unset i) ≠ .stuck := fun z => by
          simp only [] at pr
          rw [z] at pr
          exact pr
        have ea := anyA_at ns a
        simp only [] at pr
        rw [← ea] at pr
        simp only [excD] at pr
        generalize gs a cn (ρ'.set i (some (.fz (.dict [(.int (a : Int), .str cn)])))) = rs at pr ⊢
        cases rs with
        | stuck => exact pr.elim
        | err c ρ => exact pr.elim
        | nx ρ3 => exact fun σ3 H3 F3 r3 => pr _ _ _ (r3.dropN i)
        | bk ρ3 => exact fun σ3 H3 F3 r3 => pr _ _ _ (r3.dropN i)
        | ct ρ3 => exact fun σ3 H3 F3 r3 => pr _ _ _ (r3.dropN i)
        | rt o => exact pr
/-- try: body, except C: suite -/
noncomputable def catchO (tb : Str → Option Bool) (gs : OEnv → SR) : SR → SR
  | .err c ρ => match tb c with
    | some true => (match gs ρ with
      | .err _ _ => .stuck
      | r => r)
    | some false => .err c ρ
    | none => .stuck
  | r => r
noncomputable def sTryO (gb : OEnv → SR) (tb : Str → Option Bool) (gs : OEnv → SR) : OEnv → SR := fun ρ => catchO tb gs (gb ρ)
@[simp] theorem sTryO_ap (gb : OEnv → SR) (tb : Str → Option Bool) (gs : OEnv → SR) (ρ : OEnv) : sTryO gb tb gs ρ = catchO tb gs (gb ρ) := rfl
@[simp] theorem catchO_nx (tb : Str → Option Bool) (gs : OEnv → SR) (ρ : OEnv) : catchO tb gs (.nx ρ) = .nx ρ := rfl
@[simp] theorem catchO_rt (tb : Str → Option Bool) (gs : OEnv → SR) (o : O) : catchO tb gs (.rt o) = .rt o := rfl
@[simp] theorem catchO_ct (tb : Str → Option Bool) (gs : OEnv → SR) (ρ : OEnv) : catchO tb gs (.ct ρ) = .ct ρ := rfl
@[simp] theorem catchO_bk (tb : Str → Option Bool) (gs : OEnv → SR) (ρ : OEnv) : catchO tb gs (.bk ρ) = .bk ρ := rfl
theorem catchO_hit {tb : Str → Option Bool} {gs : OEnv → SR} {c : Str} {ρ : OEnv} (h : tb c = some true) : catchO tb gs (.err c ρ) = match gs ρ with | .err _ _ => .stuck | r => r := by
  simp only [catchO, h]
theorem vs_tryO {gs : OEnv → SR} (hs : X.stack = X.env :: X.outer) (hf : X.env.frame = some X.env.locals) (tk : Takes X W) (T : HTab X.K X.mg x tb)
    (hb : ∀ (W' : WX) (pn : List (Addr × Obj)) (xe : Value → Shared → Prop), Takes (X.tr pn xe) W' → PassesOwn (model X.prog X.w) X.A X.env xe → VSs (X.tr pn xe) W' body gb)
    (hsu : ∀ (a : Addr) (oe : Obj) (pn : List (Addr × Obj)), VSs (X.suite a ((a, oe) :: pn)) W0 (b₀ :: suite) gs)
    (hg : Gl X x := by rfl) (hdb : (x == ("__debug__" : Str)) = false := by decide) :
    VS X W (.Try body [.ExceptHandler (some (.Name x np)) none (b₀ :: suite) pos'] [] [] pos) (sTryO gb tb gs) := by
  obtain ⟨c, hm, tab⟩ := T.ex
  refine ⟨_, ps_try_only (c := c) (tb := fun W' => tVS X W' gb) (ts := fun a cls d => tVS X W0 gs) (Wout := W) hs hf ⟨hg, hdb, .inl hm⟩ tk
    (fun W' pn xe tk' hp => (hb W' pn xe tk' hp).pss) (fun a oe cls d pn hz hfd => (hsu a oe pn).pss), fun D σ H F0 H0 F ρ r pr => ?_⟩
  refine ⟨F0, H0, F, ρ, r, ?_⟩
  unfold sTryO at pr
  generalize gb ρ = rr at pr ⊢
  cases rr with
  | stuck => exact pr
  | nx ρ' => exact pr
  | bk ρ' => exact pr
  | ct ρ' => exact pr
  | rt o => exact pr
  | err cn ρ' =>
    intro σ' H' F' r'
    simp only [catchO] at pr
    cases ht : tb cn with
    | none => rw [ht] at pr; exact pr.elim
    | some b =>
      obtain ⟨C, hC, he⟩ := tab cn b ht
      rw [ht] at pr
      cases b with
      | false =>
        obtain ⟨C', hC', hw⟩ := pr σ' H' F' r'
        exact ⟨C', hC', false, by rw [hC] at hC'; cases hC'; exact he, fun z => (nomatch z), fun _ => hw⟩
      | true =>
        refine ⟨C, hC, true, he, fun _ a na => ⟨F0, H0, F', _, r', ?_⟩, fun z => (nomatch z)⟩
        simp only [] at pr
        generalize gs ρ' = rs at pr ⊢
        cases rs with
        | stuck => exact pr.elim
        | err c ρ => exact pr.elim
        | nx ρ3 => exact pr
        | bk ρ3 => exact pr
        | ct ρ3 => exact pr
        | rt o => exact pr
end
/-! ### isinstance of the caught exception -/
def vIsE (a : Addr) (cn : Str) (tb : Str → Option Bool) : PyData → R PyData
  | .dict [(.int a', .str c')] => if a' = (a : Int) ∧ c' = cn then (match tb cn with | some b => .ok (.bool b) | none => .stuck) else .stuck
  | _ => .stuck
@[simp] theorem vIsE_ap (a : Addr) (cn : Str) (tb : Str → Option Bool) : vIsE a cn tb (excD a cn) = match tb cn with | some b => .ok (.bool b) | none => .stuck := by
  simp [vIsE, excD]
/-- the answers of isinstance(e, x) for the classes that tb tells of -/
structure ITab (K : PySem.W.Frag) (mg : Str → Option Value) (x : Str) (cv : Value) (tb : Str → Option Bool) : Prop where
  kt : ∀ cn D b, mg cn = some (.ref D) → tb cn = some b → ExcC K D ∧ PySem.W.kitOne K (.ref D) cv = some b
theorem kit_ref {K : PySem.W.Frag} {t : Value} {C : Addr} {b : Bool} (hd : PySem.W.hasDictIn K C = true) (ht : PySem.W.typeIn K (.ref C) = some (.type "type")) (hs : PySem.W.subIn K t (.ref C) = some b) (hn : (t == .ref C) = false ∨ b = true) : PySem.W.kitOne K t (.ref C) = some b := by
  obtain ⟨cd, hc, _⟩ := PySem.W.any_some hd
  have e : ((PySem.W.clsIn K C).isSome && PySem.W.typeIn K (.ref C) == some (.type "type")) = true := by rw [hc, ht]; rfl
  have e2 : PySem.W.kitCls K t (.ref C) = some b := by
    show (if ((PySem.W.clsIn K C).isSome && PySem.W.typeIn K (.ref C) == some (.type "type")) = true then PySem.W.subIn K t (.ref C) else none) = some b
    rw [if_pos e]; exact hs
  unfold PySem.W.kitOne
  split
  · rename_i h
    rcases hn with hn | hn
    · rw [h] at hn; cases hn
    · rw [hn]
  · exact e2
theorem kit_type {K : PySem.W.Frag} {t : Value} {T : String} {b : Bool} (hm : PySem.W.kitMeta T = true) (hs : PySem.W.subIn K t (.type T) = some b) (hn : (t == .type T) = false) : PySem.W.kitOne K t (.type T) = some b := by
  unfold PySem.W.kitOne
  rw [hn]
  show (if PySem.W.kitMeta T = true then PySem.W.subIn K t (.type T) else none) = some b
  rw [if_pos hm]; exact hs
def orT (f g : Str → Option Bool) : Str → Option Bool := fun c => match f c with
  | some true => some true
  | some false => g c
  | none => none
theorem tab_of {P : Str → Bool → Prop} {l : List (Str × Bool)} (h : ∀ p ∈ l, P p.1 p.2) : ∀ cn b, l.lookup cn = some b → P cn b := by
  induction l with
  | nil => intro cn b e; cases e
  | cons p l ih =>
    intro cn b e
    rw [List.lookup_cons] at e
    split at e
    · rename_i hb
      cases e
      rw [show cn = p.1 from by simpa using hb]
      exact h p List.mem_cons_self
    · exact ih (fun q hq => h q (List.mem_cons_of_mem _ hq)) cn b e
section
variable {X : Cx} {W : WX} {a : Addr} {oe : Obj} {pn : List (Addr × Obj)} {C : Addr} {cn : Str} {ea : Expr} {fa : PEnv → R PyData}
theorem pe_never {X : Cx} {e : Expr} : PE X e (fun _ _ _ => False) := ⟨fun _ _ _ _ _ _ h => h.elim⟩
theorem is_excD {K : PySem.W.Frag} {F : Hp} {v : V} {d : PyData} {tb : Str → Option Bool} (h : Is K F v d) (hd : vIsE a cn tb d ≠ .stuck) : v = .ref a ∧ ∃ b, tb cn = some b ∧ vIsE a cn tb d = .ok (.bool b) := by
  cases h <;> first | exact absurd rfl hd | skip
  rename_i a' c'
  simp only [vIsE] at hd ⊢
  split at hd
  · rename_i hh
    obtain ⟨h1, rfl⟩ := hh
    have : a' = a := Int.ofNat_inj.mp h1
    subst this
    refine ⟨rfl, ?_⟩
    cases ht : tb c' with
    | none => rw [ht] at hd; exact absurd rfl hd
    | some b => exact ⟨b, rfl, by simp⟩
  · exact absurd rfl hd
/-- one class -/
theorem visE (i : Nat) {x : Str} {cv : Value} {vv : V} {tb : Str → Option Bool} {p p2 pos : Pos} (hmc : X.mg cn = some (.ref C)) (hz : Zc (.ref C) none oe) (hf : ∃ vs, oe.data = .fields vs) (T : ITab X.K X.mg x cv tb) (pc : ∀ {p2 : Pos}, PE (X.suite a ((a, oe) :: pn)) (.Name x p2) (tC vv)) (hv : ∀ u, RelV vv u → u = cv)
    (hm : X.mg "isinstance" = none) (ha : VE (X.suite a ((a, oe) :: pn)) W ea (vVar i)) (hg : Gl X "isinstance" := by rfl)
    (he : starEach [ea, .Name x p2] X.env = (false, eval ea X.env) :: starEach [.Name x p2] X.env := by rfl) (he2 : starEach [.Name x p2] X.env = (false, eval (.Name x p2) X.env) :: starEach [] X.env := by rfl) (hpl : (backTo pos (starEach [.Name x p2] X.env)).any (·.1) = false := by rfl) :
    VE (X.suite a ((a, oe) :: pn)) W (.Call (.Name "isinstance" p) [ea, .Name x p2] [] pos) (v1 (vIsE a cn tb) (vVar i)) := by
  obtain ⟨ta, pa, qa⟩ := ha.ex
  cases ht : tb cn with
  | none =>
    refine VE.mk' pe_never fun σ H B ρ Q s rf pr => ?_
    have e : v1 (vIsE a cn tb) (vVar i) ρ = .stuck := by
      unfold v1 vVar
      split
      · rename_i d _
        simp only [R.bind_ok]
        unfold vIsE
        split
        · simp [ht]
        · rfl
      · rfl
    rw [e] at pr
    exact pr
  | some b =>
    obtain ⟨ec, ek⟩ := T.kt cn C b hmc ht
    refine VE.mk' (pe_callB (X := X.suite a ((a, oe) :: pn)) (call_isE ec hz hf) hg hm (by decide +kernel) (pa_cons pa (pa_cons pc pa_nil he2) he) (by decide) (by decide) he hpl) fun σ H B ρ Q s rf pr => ?_
    refine one qa s rf pr fun d v H' B' ex sm dx pg => ?_
    have h0 : vIsE a cn tb d ≠ .stuck := fun z => by rw [z] at pg; exact pg
    obtain ⟨rfl, b', hb', e'⟩ := is_excD dx h0
    rw [ht] at hb'
    cases hb'
    rw [e'] at pg
    exact ⟨vv, cv, b, rfl, hv, ek, pg _ H' B' ex (.bl _)⟩
/-- an own class x at A -/
theorem visE_own (i : Nat) {x : Str} {A : Addr} {tb : Str → Option Bool} {p p2 pos : Pos} (hmc : X.mg cn = some (.ref C)) (hz : Zc (.ref C) none oe) (hf : ∃ vs, oe.data = .fields vs) (T : ITab X.K X.mg x (.ref A) tb) (hx : X.mg x = some (.ref A))
    (hm : X.mg "isinstance" = none) (ha : VE (X.suite a ((a, oe) :: pn)) W ea (vVar i)) (hg : Gl X "isinstance" := by rfl) (hgx : Gl X x := by rfl) (hdb : (x == ("__debug__" : Str)) = false := by decide)
    (he : starEach [ea, .Name x p2] X.env = (false, eval ea X.env) :: starEach [.Name x p2] X.env := by rfl) (he2 : starEach [.Name x p2] X.env = (false, eval (.Name x p2) X.env) :: starEach [] X.env := by rfl) (hpl : (backTo pos (starEach [.Name x p2] X.env)).any (·.1) = false := by rfl) :
    VE (X.suite a ((a, oe) :: pn)) W (.Call (.Name "isinstance" p) [ea, .Name x p2] [] pos) (v1 (vIsE a cn tb) (vVar i)) :=
  visE i hmc hz hf T (pe_glob (X := X.suite a ((a, oe) :: pn)) (v := .ref A) hgx hx rfl hdb) (fun u h => h) hm ha hg he he2 hpl
/-- a built-in class -/
theorem visE_blt (i : Nat) {x : Str} {A : String} {tb : Str → Option Bool} {p p2 pos : Pos} (hmc : X.mg cn = some (.ref C)) (hz : Zc (.ref C) none oe) (hf : ∃ vs, oe.data = .fields vs) (T : ITab X.K X.mg x (.type A) tb) (hx : X.mg x = none) (hv : bootBuiltins x = some (.type A))
    (hm : X.mg "isinstance" = none) (ha : VE (X.suite a ((a, oe) :: pn)) W ea (vVar i)) (hg : Gl X "isinstance" := by rfl) (hgx : Gl X x := by rfl) (hdb : (x == ("__debug__" : Str)) = false := by decide) (hn : x ≠ "__name__" := by decide)
    (he : starEach [ea, .Name x p2] X.env = (false, eval ea X.env) :: starEach [.Name x p2] X.env := by rfl) (he2 : starEach [.Name x p2] X.env = (false, eval (.Name x p2) X.env) :: starEach [] X.env := by rfl) (hpl : (backTo pos (starEach [.Name x p2] X.env)).any (·.1) = false := by rfl) :
    VE (X.suite a ((a, oe) :: pn)) W (.Call (.Name "isinstance" p) [ea, .Name x p2] [] pos) (v1 (vIsE a cn tb) (vVar i)) :=
  visE i hmc hz hf T (pe_bltn (X := X.suite a ((a, oe) :: pn)) (v := .ty A) hgx hx hv rfl hn hdb) (fun u h => h) hm ha hg he he2 hpl
/-- isinstance(e, (c1, c2, ..)) of the suite's exception -/
def rIsEs (K : PySem.W.Frag) (D a : Addr) : List V → Hp → VK → Prop := fun xs H Q => ∃ (tp : Addr) (cs : List V) (us : List Value) (b : Bool), xs = [.ref a, .ref tp] ∧ H tp = some (.tup cs) ∧ Paired ClsV cs us ∧ PySem.W.kitAny K (.ref D) us = some b ∧ Q (.bl b) H
theorem call_isEs {D : Addr} (E : ExcC X.K D) (hz : Zc (.ref D) none oe) (hf : ∃ vs, oe.data = .fields vs) : CallR (X.suite a ((a, oe) :: pn)) (.builtin "isinstance") (rIsEs X.K D a) := by
  intro pins s σ H xs us Q J rv hh
  obtain ⟨tp, cs, ws, b, rfl, hT, k, e, q⟩ := hh
  obtain ⟨u1, u2, rfl, r1, r2⟩ := vals2 rv
  cases (show u2 = Value.ref tp from r2)
  cases (show u1 = Value.ref a from r1)
  obtain ⟨hget, _⟩ := J.pin (a, oe) (List.mem_append.mpr (.inl List.mem_cons_self))
  obtain ⟨vs, hv⟩ := hf
  have Z : PySem.W.InstAt s.heap a oe D none := by
    obtain ⟨oc, od, oda, osl⟩ := oe
    obtain ⟨h1, h2⟩ := hz
    dsimp only at h1 h2 hv
    subst h1 h2 hv
    exact ⟨hget, rfl, rfl, trivial⟩
  obtain ⟨_, its, rv', o, h1, h2, n, h3⟩ := (show ObjOk X.prog X.w H s.heap tp (.tup cs) from J.hok tp _ hT)
  have e3 := ClsV.all k rv'
  subst e3
  obtain ⟨oc, od, dt, sl⟩ := o
  simp only at h2 h3
  subst h2 h3
  exact PySem.W.kia_tup (PySem.W.handS_kitx_exc E.hg E.hk E.hs E.hd E.ha E.hn E.ht E.hm) J.kIn Z h1 e (fun z => nomatch z) fun tk => ⟨.bl b, H, J.kept (t' := tk) fun _ _ z => z, rfl, q⟩
/-- two own classes -/
theorem visE_two (i : Nat) {x y : Str} {A1 A2 : Addr} {tb tb2 : Str → Option Bool} {p p1 p2 p3 pos : Pos} {k : Nat} (hmc : X.mg cn = some (.ref C)) (hz : Zc (.ref C) none oe) (hf : ∃ vs, oe.data = .fields vs) (T : ITab X.K X.mg x (.ref A1) tb) (hx : X.mg x = some (.ref A1)) (T2 : ITab X.K X.mg y (.ref A2) tb2) (hy : X.mg y = some (.ref A2))
    (hm : X.mg "isinstance" = none) (ha : VE (X.suite a ((a, oe) :: pn)) W ea (vVar i)) (hg : Gl X "isinstance" := by rfl) (hgx : Gl X x := by rfl) (hdb : (x == ("__debug__" : Str)) = false := by decide) (hgy : Gl X y := by rfl) (hdy : (y == ("__debug__" : Str)) = false := by decide)
    (he : starEach [ea, .Tuple [.Name x p1, .Name y p2] k p3] X.env = (false, eval ea X.env) :: starEach [.Tuple [.Name x p1, .Name y p2] k p3] X.env := by rfl) (he2 : starEach [.Tuple [.Name x p1, .Name y p2] k p3] X.env = (false, eval (.Tuple [.Name x p1, .Name y p2] k p3) X.env) :: starEach [] X.env := by rfl) (hpl : (backTo pos (starEach [.Tuple [.Name x p1, .Name y p2] k p3] X.env)).any (·.1) = false := by rfl)
    (s1 : starEach [.Name x p1, .Name y p2] X.env = (false, eval (.Name x p1) X.env) :: starEach [.Name y p2] X.env := by rfl) (s2 : starEach [.Name y p2] X.env = (false, eval (.Name y p2) X.env) :: starEach [] X.env := by rfl) :
    VE (X.suite a ((a, oe) :: pn)) W (.Call (.Name "isinstance" p) [ea, .Tuple [.Name x p1, .Name y p2] k p3] [] pos) (v1 (vIsE a cn (orT tb tb2)) (vVar i)) := by
  obtain ⟨ta, pa, qa⟩ := ha.ex
  have stk : orT tb tb2 cn = none → ∀ ρ, v1 (vIsE a cn (orT tb tb2)) (vVar i) ρ = .stuck := fun ht ρ => by
    unfold v1 vVar
    split
    · rename_i d _
      simp only [R.bind_ok]
      unfold vIsE
      split
      · simp [ht]
      · rfl
    · rfl
  cases ht : orT tb tb2 cn with
  | none =>
    refine VE.mk' pe_never fun σ H B ρ Q s rf pr => ?_
    rw [stk ht ρ] at pr
    exact pr
  | some b =>
    have key : ∃ ec : ExcC X.K C, PySem.W.kitAny X.K (.ref C) [.ref A1, .ref A2] = some b := by
      unfold orT at ht
      split at ht
      · rename_i h1
        obtain ⟨ec, ek⟩ := T.kt cn C true hmc h1
        cases ht
        exact ⟨ec, by simp only [PySem.W.kitAny, ek]⟩
      · rename_i h1
        obtain ⟨ec, ek⟩ := T.kt cn C false hmc h1
        obtain ⟨_, ek2⟩ := T2.kt cn C b hmc ht
        refine ⟨ec, ?_⟩
        cases b <;> simp only [PySem.W.kitAny, ek, ek2]
      · cases ht
    obtain ⟨ec, ek⟩ := key
    have p1' : PE (X.suite a ((a, oe) :: pn)) (.Name x p1) (tC (.ref A1)) := pe_glob (X := X.suite a ((a, oe) :: pn)) (v := .ref A1) hgx hx rfl hdb
    have p2' : PE (X.suite a ((a, oe) :: pn)) (.Name y p2) (tC (.ref A2)) := pe_glob (X := X.suite a ((a, oe) :: pn)) (v := .ref A2) hgy hy rfl hdy
    refine VE.mk' (pe_callB (X := X.suite a ((a, oe) :: pn)) (call_isEs ec hz hf) hg hm (by decide +kernel) (pa_cons pa (pa_cons (pe_tup (pa_cons p1' (pa_cons p2' pa_nil s2) s1)) pa_nil he2) he) (by decide) (by decide) he hpl) fun σ H B ρ Q s rf pr => ?_
    refine one qa s rf pr fun d v H' B' ex sm dx pg => ?_
    have h0 : vIsE a cn (orT tb tb2) d ≠ .stuck := fun z => by rw [z] at pg; exact pg
    obtain ⟨rfl, b', hb', e'⟩ := is_excD dx h0
    rw [ht] at hb'
    cases hb'
    rw [e'] at pg
    refine ⟨Nat.le_of_ble_eq_true rfl, fun q hq => ?_⟩
    exact ⟨q, [.ref A1, .ref A2], [.ref A1, .ref A2], b, rfl, upd_same, .cons (.own A1) (.cons (.own A2) .nil), ek, pg _ _ _ (ex.trans (Ext.new ex.bh hq)) (.bl _)⟩
end
end VL

namespace VL
open PySem PySem.Spec PyProof.Rows
theorem vInT_ok {m n : Nat} {d : PyData} {ds : List PyData} (h : okS m d) (g : okS n (.tuple ds)) (hm : m ≤ 64 := by decide) (hn : n ≤ 64 := by decide) : vInT d (.tuple ds) = .ok (.bool (ds.any fun z => PyData.eqv z d)) := if_pos ⟨h.shaped hm, g.shaped hn⟩
theorem vNotInT_ok {m n : Nat} {d : PyData} {ds : List PyData} (h : okS m d) (g : okS n (.tuple ds)) (hm : m ≤ 64 := by decide) (hn : n ≤ 64 := by decide) : vNotInT d (.tuple ds) = .ok (.bool (!ds.any fun z => PyData.eqv z d)) := if_pos ⟨h.shaped hm, g.shaped hn⟩
theorem vin_ok {m n : Nat} {d : PyData} {ds : List PyData} (h : okS m d) (g : okS n (.list ds)) (hm : m ≤ 64 := by decide) (hn : n ≤ 64 := by decide) : vin d (.list ds) = .ok (ds.any fun z => PyData.eqv z d) := if_pos ⟨h.shaped hm, g.shaped hn⟩
theorem vIn_ok {m n : Nat} {d : PyData} {ds : List PyData} (h : okS m d) (g : okS n (.list ds)) (hm : m ≤ 64 := by decide) (hn : n ≤ 64 := by decide) : vIn d (.list ds) = .ok (.bool (ds.any fun z => PyData.eqv z d)) := by
  unfold vIn; rw [vin_ok h g hm hn]; rfl
theorem vNotIn_ok {m n : Nat} {d : PyData} {ds : List PyData} (h : okS m d) (g : okS n (.list ds)) (hm : m ≤ 64 := by decide) (hn : n ≤ 64 := by decide) : vNotIn d (.list ds) = .ok (.bool (!ds.any fun z => PyData.eqv z d)) := by
  unfold vNotIn; rw [vin_ok h g hm hn]; rfl
@[simp] theorem vcut_list (lo hi : Option Int) (xs : List PyData) : vcut lo hi (.list xs) = .ok (.list (cutL xs lo hi)) := rfl
@[simp] theorem vcut_tuple (lo hi : Option Int) (xs : List PyData) : vcut lo hi (.tuple xs) = .ok (.tuple (cutL xs lo hi)) := rfl
theorem cut_from (xs : List PyData) (k : Nat) : cutL xs (some (k : Int)) none = xs.drop k := by
  unfold cutL
  rw [HT.sIx_nat, HT.sIx_none]
  by_cases h : k ≤ xs.length
  · rw [Nat.min_eq_left h, List.take_of_length_le (by rw [List.length_drop]; omega)]
  · rw [Nat.min_eq_right (by omega), List.drop_length, List.drop_of_length_le (by omega), List.take_nil]
theorem cut_to (xs : List PyData) (k : Nat) : cutL xs none (some (k : Int)) = xs.take k := by
  unfold cutL
  rw [HT.sIx_nat, HT.sIx_none, List.drop_zero, Nat.sub_zero]
  by_cases h : k ≤ xs.length
  · rw [Nat.min_eq_left h]
  · rw [Nat.min_eq_right (by omega), List.take_of_length_le (Nat.le_refl _), List.take_of_length_le (by omega)]
theorem cut_mid (xs : List PyData) (j k : Nat) : cutL xs (some (j : Int)) (some (k : Int)) = (xs.drop j).take (k - j) := by
  unfold cutL
  rw [HT.sIx_nat, HT.sIx_nat]
  by_cases h : j ≤ xs.length
  · rw [Nat.min_eq_left h]
    by_cases h2 : k ≤ xs.length
    · rw [Nat.min_eq_left h2]
    · rw [Nat.min_eq_right (by omega), List.take_of_length_le (by rw [List.length_drop]; omega), List.take_of_length_le (by rw [List.length_drop]; omega)]
  · rw [show min j xs.length = xs.length by omega, List.drop_length, List.drop_of_length_le (show xs.length ≤ j by omega), List.take_nil, List.take_nil]
theorem mem_cut {xs : List PyData} {lo hi : Option Int} {x : PyData} (h : x ∈ cutL xs lo hi) : x ∈ xs := List.mem_of_mem_drop (List.mem_of_mem_take h)
theorem len_cut (xs : List PyData) (lo hi : Option Int) : (cutL xs lo hi).length ≤ xs.length := by
  unfold cutL
  rw [List.length_take, List.length_drop]
  omega
@[simp] theorem cut_1 (x : PyData) (xs : List PyData) : cutL (x :: xs) (some 1) none = xs := cut_from (x :: xs) 1
theorem okS.mono : ∀ {m n : Nat} {d : PyData}, m ≤ n → okS m d → okS n d
  | 0, _, _, _, h => h.elim
  | _ + 1, 0, _, hl, _ => absurd hl (by omega)
  | m + 1, n + 1, .none, _, _ => trivial
  | m + 1, n + 1, .bool _, _, _ => trivial
  | m + 1, n + 1, .int _, _, _ => trivial
  | m + 1, n + 1, .str _, _, h => h
  | m + 1, n + 1, .list xs, hl, h => ⟨h.1, fun x hx => okS.mono (by omega) (h.2 x hx)⟩
  | m + 1, n + 1, .tuple xs, hl, h => ⟨h.1, fun x hx => okS.mono (by omega) (h.2 x hx)⟩
  | m + 1, n + 1, .dict _, _, h => h.elim
end VL

namespace LW
open PySem PySem.Spec PyProof.Rows L2 VL
def topS (i : Nat) : Stmt := PySem.Challenge.pw_trackswhole_k02_what_is_a_piece.main.body.getD i (.Pass ⟨0, 0, 0, 0⟩)
abbrev k_MOST_LENGTH : PyData := (.int 9999)
abbrev k_MOST_RISE : PyData := (.int 99)
abbrev k_SIDES : PyData := (.tuple [(.str "left"), (.str "right")])
instance lit_0 : Bd (0 : Int) 4 := ⟨.lit⟩
instance lit_1 : Bd (1 : Int) 4 := ⟨.lit⟩
instance mod_1 (a : Int) : Bd (a % 1) 4 := bd_modl (by decide) (by decide)
instance lit_2 : Bd (2 : Int) 4 := ⟨.lit⟩
instance mod_2 (a : Int) : Bd (a % 2) 4 := bd_modl (by decide) (by decide)
instance lit_3 : Bd (3 : Int) 4 := ⟨.lit⟩
instance mod_3 (a : Int) : Bd (a % 3) 4 := bd_modl (by decide) (by decide)
instance lit_4 : Bd (4 : Int) 4 := ⟨.lit⟩
instance mod_4 (a : Int) : Bd (a % 4) 4 := bd_modl (by decide) (by decide)
instance lit_5 : Bd (5 : Int) 4 := ⟨.lit⟩
instance mod_5 (a : Int) : Bd (a % 5) 4 := bd_modl (by decide) (by decide)
instance lit_6 : Bd (6 : Int) 4 := ⟨.lit⟩
instance mod_6 (a : Int) : Bd (a % 6) 4 := bd_modl (by decide) (by decide)
instance lit_7 : Bd (7 : Int) 4 := ⟨.lit⟩
instance mod_7 (a : Int) : Bd (a % 7) 4 := bd_modl (by decide) (by decide)
instance lit_8 : Bd (8 : Int) 5 := ⟨.lit⟩
instance mod_8 (a : Int) : Bd (a % 8) 5 := bd_modl (by decide) (by decide)
instance lit_9 : Bd (9 : Int) 5 := ⟨.lit⟩
instance mod_9 (a : Int) : Bd (a % 9) 5 := bd_modl (by decide) (by decide)
instance lit_10 : Bd (10 : Int) 5 := ⟨.lit⟩
instance mod_10 (a : Int) : Bd (a % 10) 5 := bd_modl (by decide) (by decide)
instance lit_11 : Bd (11 : Int) 5 := ⟨.lit⟩
instance mod_11 (a : Int) : Bd (a % 11) 5 := bd_modl (by decide) (by decide)
instance lit_12 : Bd (12 : Int) 5 := ⟨.lit⟩
instance mod_12 (a : Int) : Bd (a % 12) 5 := bd_modl (by decide) (by decide)
instance lit_18 : Bd (18 : Int) 6 := ⟨.lit⟩
instance mod_18 (a : Int) : Bd (a % 18) 6 := bd_modl (by decide) (by decide)
instance lit_32 : Bd (32 : Int) 7 := ⟨.lit⟩
instance mod_32 (a : Int) : Bd (a % 32) 7 := bd_modl (by decide) (by decide)
instance lit_60 : Bd (60 : Int) 7 := ⟨.lit⟩
instance mod_60 (a : Int) : Bd (a % 60) 7 := bd_modl (by decide) (by decide)
instance lit_99 : Bd (99 : Int) 8 := ⟨.lit⟩
instance mod_99 (a : Int) : Bd (a % 99) 8 := bd_modl (by decide) (by decide)
instance lit_100 : Bd (100 : Int) 8 := ⟨.lit⟩
instance mod_100 (a : Int) : Bd (a % 100) 8 := bd_modl (by decide) (by decide)
instance lit_5040 : Bd (5040 : Int) 14 := ⟨.lit⟩
instance mod_5040 (a : Int) : Bd (a % 5040) 14 := bd_modl (by decide) (by decide)
instance lit_9999 : Bd (9999 : Int) 15 := ⟨.lit⟩
instance mod_9999 (a : Int) : Bd (a % 9999) 15 := bd_modl (by decide) (by decide)
instance lit_10000 : Bd (10000 : Int) 15 := ⟨.lit⟩
instance mod_10000 (a : Int) : Bd (a % 10000) 15 := bd_modl (by decide) (by decide)
instance lit_16807 : Bd (16807 : Int) 16 := ⟨.lit⟩
instance mod_16807 (a : Int) : Bd (a % 16807) 16 := bd_modl (by decide) (by decide)
instance lit_40692 : Bd (40692 : Int) 17 := ⟨.lit⟩
instance mod_40692 (a : Int) : Bd (a % 40692) 17 := bd_modl (by decide) (by decide)
instance lit_48271 : Bd (48271 : Int) 17 := ⟨.lit⟩
instance mod_48271 (a : Int) : Bd (a % 48271) 17 := bd_modl (by decide) (by decide)
instance lit_69621 : Bd (69621 : Int) 18 := ⟨.lit⟩
instance mod_69621 (a : Int) : Bd (a % 69621) 18 := bd_modl (by decide) (by decide)
instance lit_2147483399 : Bd (2147483399 : Int) 32 := ⟨.lit⟩
instance mod_2147483399 (a : Int) : Bd (a % 2147483399) 32 := bd_modl (by decide) (by decide)
instance lit_2147483647 : Bd (2147483647 : Int) 32 := ⟨.lit⟩
instance mod_2147483647 (a : Int) : Bd (a % 2147483647) 32 := bd_modl (by decide) (by decide)
@[simp] theorem sok_0 : PyData.strOk "" = true := by decide +kernel
@[simp] theorem sok_1 : PyData.strOk "4" = true := by decide +kernel
@[simp] theorem sok_2 : PyData.strOk "Left" = true := by decide +kernel
@[simp] theorem sok_3 : PyData.strOk "Straight" = true := by decide +kernel
@[simp] theorem sok_4 : PyData.strOk "cross" = true := by decide +kernel
@[simp] theorem sok_5 : PyData.strOk "curve" = true := by decide +kernel
@[simp] theorem sok_6 : PyData.strOk "gap" = true := by decide +kernel
@[simp] theorem sok_7 : PyData.strOk "left" = true := by decide +kernel
@[simp] theorem sok_8 : PyData.strOk "points" = true := by decide +kernel
@[simp] theorem sok_9 : PyData.strOk "ramp" = true := by decide +kernel
@[simp] theorem sok_10 : PyData.strOk "right" = true := by decide +kernel
@[simp] theorem sok_11 : PyData.strOk "stop" = true := by decide +kernel
@[simp] theorem sok_12 : PyData.strOk "straight" = true := by decide +kernel
@[simp] theorem sok_13 : PyData.strOk "track" = true := by decide +kernel
@[simp] theorem sne_0_4 : (("" : Str) = "cross") = False := eq_false (by decide)
@[simp] theorem sne_0_5 : (("" : Str) = "curve") = False := eq_false (by decide)
@[simp] theorem sne_0_6 : (("" : Str) = "gap") = False := eq_false (by decide)
@[simp] theorem sne_0_7 : (("" : Str) = "left") = False := eq_false (by decide)
@[simp] theorem sne_0_8 : (("" : Str) = "points") = False := eq_false (by decide)
@[simp] theorem sne_0_9 : (("" : Str) = "ramp") = False := eq_false (by decide)
@[simp] theorem sne_0_10 : (("" : Str) = "right") = False := eq_false (by decide)
@[simp] theorem sne_0_11 : (("" : Str) = "stop") = False := eq_false (by decide)
@[simp] theorem sne_0_12 : (("" : Str) = "straight") = False := eq_false (by decide)
@[simp] theorem sne_1_4 : (("4" : Str) = "cross") = False := eq_false (by decide)
@[simp] theorem sne_1_5 : (("4" : Str) = "curve") = False := eq_false (by decide)
@[simp] theorem sne_1_6 : (("4" : Str) = "gap") = False := eq_false (by decide)
@[simp] theorem sne_1_7 : (("4" : Str) = "left") = False := eq_false (by decide)
@[simp] theorem sne_1_8 : (("4" : Str) = "points") = False := eq_false (by decide)
@[simp] theorem sne_1_9 : (("4" : Str) = "ramp") = False := eq_false (by decide)
@[simp] theorem sne_1_10 : (("4" : Str) = "right") = False := eq_false (by decide)
@[simp] theorem sne_1_11 : (("4" : Str) = "stop") = False := eq_false (by decide)
@[simp] theorem sne_1_12 : (("4" : Str) = "straight") = False := eq_false (by decide)
@[simp] theorem sne_2_4 : (("Left" : Str) = "cross") = False := eq_false (by decide)
@[simp] theorem sne_2_5 : (("Left" : Str) = "curve") = False := eq_false (by decide)
@[simp] theorem sne_2_6 : (("Left" : Str) = "gap") = False := eq_false (by decide)
@[simp] theorem sne_2_7 : (("Left" : Str) = "left") = False := eq_false (by decide)
@[simp] theorem sne_2_8 : (("Left" : Str) = "points") = False := eq_false (by decide)
@[simp] theorem sne_2_9 : (("Left" : Str) = "ramp") = False := eq_false (by decide)
@[simp] theorem sne_2_10 : (("Left" : Str) = "right") = False := eq_false (by decide)
@[simp] theorem sne_2_11 : (("Left" : Str) = "stop") = False := eq_false (by decide)
@[simp] theorem sne_2_12 : (("Left" : Str) = "straight") = False := eq_false (by decide)
@[simp] theorem sne_3_4 : (("Straight" : Str) = "cross") = False := eq_false (by decide)
@[simp] theorem sne_3_5 : (("Straight" : Str) = "curve") = False := eq_false (by decide)
@[simp] theorem sne_3_6 : (("Straight" : Str) = "gap") = False := eq_false (by decide)
@[simp] theorem sne_3_7 : (("Straight" : Str) = "left") = False := eq_false (by decide)
@[simp] theorem sne_3_8 : (("Straight" : Str) = "points") = False := eq_false (by decide)
@[simp] theorem sne_3_9 : (("Straight" : Str) = "ramp") = False := eq_false (by decide)
@[simp] theorem sne_3_10 : (("Straight" : Str) = "right") = False := eq_false (by decide)
@[simp] theorem sne_3_11 : (("Straight" : Str) = "stop") = False := eq_false (by decide)
@[simp] theorem sne_3_12 : (("Straight" : Str) = "straight") = False := eq_false (by decide)
@[simp] theorem sne_4_0 : (("cross" : Str) = "") = False := eq_false (by decide)
@[simp] theorem sne_4_1 : (("cross" : Str) = "4") = False := eq_false (by decide)
@[simp] theorem sne_4_2 : (("cross" : Str) = "Left") = False := eq_false (by decide)
@[simp] theorem sne_4_3 : (("cross" : Str) = "Straight") = False := eq_false (by decide)
@[simp] theorem sne_4_5 : (("cross" : Str) = "curve") = False := eq_false (by decide)
@[simp] theorem sne_4_6 : (("cross" : Str) = "gap") = False := eq_false (by decide)
@[simp] theorem sne_4_7 : (("cross" : Str) = "left") = False := eq_false (by decide)
@[simp] theorem sne_4_8 : (("cross" : Str) = "points") = False := eq_false (by decide)
@[simp] theorem sne_4_9 : (("cross" : Str) = "ramp") = False := eq_false (by decide)
@[simp] theorem sne_4_10 : (("cross" : Str) = "right") = False := eq_false (by decide)
@[simp] theorem sne_4_11 : (("cross" : Str) = "stop") = False := eq_false (by decide)
@[simp] theorem sne_4_12 : (("cross" : Str) = "straight") = False := eq_false (by decide)
@[simp] theorem sne_4_13 : (("cross" : Str) = "track") = False := eq_false (by decide)
@[simp] theorem sne_5_0 : (("curve" : Str) = "") = False := eq_false (by decide)
@[simp] theorem sne_5_1 : (("curve" : Str) = "4") = False := eq_false (by decide)
@[simp] theorem sne_5_2 : (("curve" : Str) = "Left") = False := eq_false (by decide)
@[simp] theorem sne_5_3 : (("curve" : Str) = "Straight") = False := eq_false (by decide)
@[simp] theorem sne_5_4 : (("curve" : Str) = "cross") = False := eq_false (by decide)
@[simp] theorem sne_5_6 : (("curve" : Str) = "gap") = False := eq_false (by decide)
@[simp] theorem sne_5_7 : (("curve" : Str) = "left") = False := eq_false (by decide)
@[simp] theorem sne_5_8 : (("curve" : Str) = "points") = False := eq_false (by decide)
@[simp] theorem sne_5_9 : (("curve" : Str) = "ramp") = False := eq_false (by decide)
@[simp] theorem sne_5_10 : (("curve" : Str) = "right") = False := eq_false (by decide)
@[simp] theorem sne_5_11 : (("curve" : Str) = "stop") = False := eq_false (by decide)
@[simp] theorem sne_5_12 : (("curve" : Str) = "straight") = False := eq_false (by decide)
@[simp] theorem sne_5_13 : (("curve" : Str) = "track") = False := eq_false (by decide)
@[simp] theorem sne_6_0 : (("gap" : Str) = "") = False := eq_false (by decide)
@[simp] theorem sne_6_1 : (("gap" : Str) = "4") = False := eq_false (by decide)
@[simp] theorem sne_6_2 : (("gap" : Str) = "Left") = False := eq_false (by decide)
@[simp] theorem sne_6_3 : (("gap" : Str) = "Straight") = False := eq_false (by decide)
@[simp] theorem sne_6_4 : (("gap" : Str) = "cross") = False := eq_false (by decide)
@[simp] theorem sne_6_5 : (("gap" : Str) = "curve") = False := eq_false (by decide)
@[simp] theorem sne_6_7 : (("gap" : Str) = "left") = False := eq_false (by decide)
@[simp] theorem sne_6_8 : (("gap" : Str) = "points") = False := eq_false (by decide)
@[simp] theorem sne_6_9 : (("gap" : Str) = "ramp") = False := eq_false (by decide)
@[simp] theorem sne_6_10 : (("gap" : Str) = "right") = False := eq_false (by decide)
@[simp] theorem sne_6_11 : (("gap" : Str) = "stop") = False := eq_false (by decide)
@[simp] theorem sne_6_12 : (("gap" : Str) = "straight") = False := eq_false (by decide)
@[simp] theorem sne_6_13 : (("gap" : Str) = "track") = False := eq_false (by decide)
@[simp] theorem sne_7_0 : (("left" : Str) = "") = False := eq_false (by decide)
@[simp] theorem sne_7_1 : (("left" : Str) = "4") = False := eq_false (by decide)
@[simp] theorem sne_7_2 : (("left" : Str) = "Left") = False := eq_false (by decide)
@[simp] theorem sne_7_3 : (("left" : Str) = "Straight") = False := eq_false (by decide)
@[simp] theorem sne_7_4 : (("left" : Str) = "cross") = False := eq_false (by decide)
@[simp] theorem sne_7_5 : (("left" : Str) = "curve") = False := eq_false (by decide)
@[simp] theorem sne_7_6 : (("left" : Str) = "gap") = False := eq_false (by decide)
@[simp] theorem sne_7_8 : (("left" : Str) = "points") = False := eq_false (by decide)
@[simp] theorem sne_7_9 : (("left" : Str) = "ramp") = False := eq_false (by decide)
@[simp] theorem sne_7_10 : (("left" : Str) = "right") = False := eq_false (by decide)
@[simp] theorem sne_7_11 : (("left" : Str) = "stop") = False := eq_false (by decide)
@[simp] theorem sne_7_12 : (("left" : Str) = "straight") = False := eq_false (by decide)
@[simp] theorem sne_7_13 : (("left" : Str) = "track") = False := eq_false (by decide)
@[simp] theorem sne_8_0 : (("points" : Str) = "") = False := eq_false (by decide)
@[simp] theorem sne_8_1 : (("points" : Str) = "4") = False := eq_false (by decide)
@[simp] theorem sne_8_2 : (("points" : Str) = "Left") = False := eq_false (by decide)
@[simp] theorem sne_8_3 : (("points" : Str) = "Straight") = False := eq_false (by decide)
@[simp] theorem sne_8_4 : (("points" : Str) = "cross") = False := eq_false (by decide)
@[simp] theorem sne_8_5 : (("points" : Str) = "curve") = False := eq_false (by decide)
@[simp] theorem sne_8_6 : (("points" : Str) = "gap") = False := eq_false (by decide)
@[simp] theorem sne_8_7 : (("points" : Str) = "left") = False := eq_false (by decide)
@[simp] theorem sne_8_9 : (("points" : Str) = "ramp") = False := eq_false (by decide)
@[simp] theorem sne_8_10 : (("points" : Str) = "right") = False := eq_false (by decide)
@[simp] theorem sne_8_11 : (("points" : Str) = "stop") = False := eq_false (by decide)
@[simp] theorem sne_8_12 : (("points" : Str) = "straight") = False := eq_false (by decide)
@[simp] theorem sne_8_13 : (("points" : Str) = "track") = False := eq_false (by decide)
@[simp] theorem sne_9_0 : (("ramp" : Str) = "") = False := eq_false (by decide)
@[simp] theorem sne_9_1 : (("ramp" : Str) = "4") = False := eq_false (by decide)
@[simp] theorem sne_9_2 : (("ramp" : Str) = "Left") = False := eq_false (by decide)
@[simp] theorem sne_9_3 : (("ramp" : Str) = "Straight") = False := eq_false (by decide)
@[simp] theorem sne_9_4 : (("ramp" : Str) = "cross") = False := eq_false (by decide)
@[simp] theorem sne_9_5 : (("ramp" : Str) = "curve") = False := eq_false (by decide)
@[simp] theorem sne_9_6 : (("ramp" : Str) = "gap") = False := eq_false (by decide)
@[simp] theorem sne_9_7 : (("ramp" : Str) = "left") = False := eq_false (by decide)
@[simp] theorem sne_9_8 : (("ramp" : Str) = "points") = False := eq_false (by decide)
@[simp] theorem sne_9_10 : (("ramp" : Str) = "right") = False := eq_false (by decide)
@[simp] theorem sne_9_11 : (("ramp" : Str) = "stop") = False := eq_false (by decide)
@[simp] theorem sne_9_12 : (("ramp" : Str) = "straight") = False := eq_false (by decide)
@[simp] theorem sne_9_13 : (("ramp" : Str) = "track") = False := eq_false (by decide)
@[simp] theorem sne_10_0 : (("right" : Str) = "") = False := eq_false (by decide)
@[simp] theorem sne_10_1 : (("right" : Str) = "4") = False := eq_false (by decide)
@[simp] theorem sne_10_2 : (("right" : Str) = "Left") = False := eq_false (by decide)
@[simp] theorem sne_10_3 : (("right" : Str) = "Straight") = False := eq_false (by decide)
@[simp] theorem sne_10_4 : (("right" : Str) = "cross") = False := eq_false (by decide)
@[simp] theorem sne_10_5 : (("right" : Str) = "curve") = False := eq_false (by decide)
@[simp] theorem sne_10_6 : (("right" : Str) = "gap") = False := eq_false (by decide)
@[simp] theorem sne_10_7 : (("right" : Str) = "left") = False := eq_false (by decide)
@[simp] theorem sne_10_8 : (("right" : Str) = "points") = False := eq_false (by decide)
@[simp] theorem sne_10_9 : (("right" : Str) = "ramp") = False := eq_false (by decide)
@[simp] theorem sne_10_11 : (("right" : Str) = "stop") = False := eq_false (by decide)
@[simp] theorem sne_10_12 : (("right" : Str) = "straight") = False := eq_false (by decide)
@[simp] theorem sne_10_13 : (("right" : Str) = "track") = False := eq_false (by decide)
@[simp] theorem sne_11_0 : (("stop" : Str) = "") = False := eq_false (by decide)
@[simp] theorem sne_11_1 : (("stop" : Str) = "4") = False := eq_false (by decide)
@[simp] theorem sne_11_2 : (("stop" : Str) = "Left") = False := eq_false (by decide)
@[simp] theorem sne_11_3 : (("stop" : Str) = "Straight") = False := eq_false (by decide)
@[simp] theorem sne_11_4 : (("stop" : Str) = "cross") = False := eq_false (by decide)
@[simp] theorem sne_11_5 : (("stop" : Str) = "curve") = False := eq_false (by decide)
@[simp] theorem sne_11_6 : (("stop" : Str) = "gap") = False := eq_false (by decide)
@[simp] theorem sne_11_7 : (("stop" : Str) = "left") = False := eq_false (by decide)
@[simp] theorem sne_11_8 : (("stop" : Str) = "points") = False := eq_false (by decide)
@[simp] theorem sne_11_9 : (("stop" : Str) = "ramp") = False := eq_false (by decide)
@[simp] theorem sne_11_10 : (("stop" : Str) = "right") = False := eq_false (by decide)
@[simp] theorem sne_11_12 : (("stop" : Str) = "straight") = False := eq_false (by decide)
@[simp] theorem sne_11_13 : (("stop" : Str) = "track") = False := eq_false (by decide)
@[simp] theorem sne_12_0 : (("straight" : Str) = "") = False := eq_false (by decide)
@[simp] theorem sne_12_1 : (("straight" : Str) = "4") = False := eq_false (by decide)
@[simp] theorem sne_12_2 : (("straight" : Str) = "Left") = False := eq_false (by decide)
@[simp] theorem sne_12_3 : (("straight" : Str) = "Straight") = False := eq_false (by decide)
@[simp] theorem sne_12_4 : (("straight" : Str) = "cross") = False := eq_false (by decide)
@[simp] theorem sne_12_5 : (("straight" : Str) = "curve") = False := eq_false (by decide)
@[simp] theorem sne_12_6 : (("straight" : Str) = "gap") = False := eq_false (by decide)
@[simp] theorem sne_12_7 : (("straight" : Str) = "left") = False := eq_false (by decide)
@[simp] theorem sne_12_8 : (("straight" : Str) = "points") = False := eq_false (by decide)
@[simp] theorem sne_12_9 : (("straight" : Str) = "ramp") = False := eq_false (by decide)
@[simp] theorem sne_12_10 : (("straight" : Str) = "right") = False := eq_false (by decide)
@[simp] theorem sne_12_11 : (("straight" : Str) = "stop") = False := eq_false (by decide)
@[simp] theorem sne_12_13 : (("straight" : Str) = "track") = False := eq_false (by decide)
@[simp] theorem sne_13_4 : (("track" : Str) = "cross") = False := eq_false (by decide)
@[simp] theorem sne_13_5 : (("track" : Str) = "curve") = False := eq_false (by decide)
@[simp] theorem sne_13_6 : (("track" : Str) = "gap") = False := eq_false (by decide)
@[simp] theorem sne_13_7 : (("track" : Str) = "left") = False := eq_false (by decide)
@[simp] theorem sne_13_8 : (("track" : Str) = "points") = False := eq_false (by decide)
@[simp] theorem sne_13_9 : (("track" : Str) = "ramp") = False := eq_false (by decide)
@[simp] theorem sne_13_10 : (("track" : Str) = "right") = False := eq_false (by decide)
@[simp] theorem sne_13_11 : (("track" : Str) = "stop") = False := eq_false (by decide)
@[simp] theorem sne_13_12 : (("track" : Str) = "straight") = False := eq_false (by decide)
abbrev ltb_InvalidPiece : List (Str × Bool) := [("InvalidPiece", true)]
def tb_InvalidPiece : Str → Option Bool := fun c => ltb_InvalidPiece.lookup c
@[simp] theorem tb_InvalidPiece_InvalidPiece : tb_InvalidPiece "InvalidPiece" = some true := by decide +kernel
abbrev lis_InvalidJoint : List (Str × Bool) := [("InvalidPiece", false)]
def is_InvalidJoint : Str → Option Bool := fun c => lis_InvalidJoint.lookup c
@[simp] theorem is_InvalidJoint_InvalidPiece : is_InvalidJoint "InvalidPiece" = some false := by decide +kernel
abbrev lis_TrackError : List (Str × Bool) := [("InvalidPiece", true)]
def is_TrackError : Str → Option Bool := fun c => lis_TrackError.lookup c
@[simp] theorem is_TrackError_InvalidPiece : is_TrackError "InvalidPiece" = some true := by decide +kernel
abbrev lis_ValueError : List (Str × Bool) := [("InvalidPiece", true)]
def is_ValueError : Str → Option Bool := fun c => lis_ValueError.lookup c
@[simp] theorem is_ValueError_InvalidPiece : is_ValueError "InvalidPiece" = some true := by decide +kernel
noncomputable section
abbrev s_is_whole : Stmt := topS 8
abbrev N_is_whole : List Str := ["value"]
def g_is_whole : OEnv → SR := (sRet (oX (exF (vand (v1 (visi "int") (vVar 0)) (vnot (v1 (visi "bool") (vVar 0)))))))
def m_is_whole : List PyData → R PyData := frz (runB 1 g_is_whole)
theorem r_is_whole (a0 : PyData) : m_is_whole [a0] = fin (g_is_whole [some (.fz a0)]) := frz_fin _ _ _
abbrev s_is_length : Stmt := topS 9
abbrev N_is_length : List Str := ["value"]
def g_is_length : OEnv → SR := (sRet (oX (exF (vand (vapp m_is_whole (aCons (vVar 0) aNil)) (vchain vle vle (vC (.int 1)) (vVar 0) (vC k_MOST_LENGTH))))))
def m_is_length : List PyData → R PyData := frz (runB 1 g_is_length)
theorem r_is_length (a0 : PyData) : m_is_length [a0] = fin (g_is_length [some (.fz a0)]) := frz_fin _ _ _
abbrev s_is_rise : Stmt := topS 10
abbrev N_is_rise : List Str := ["value"]
def g_is_rise : OEnv → SR := (sRet (oX (exF (vand (vapp m_is_whole (aCons (vVar 0) aNil)) (vand (v2 vne (vVar 0) (vC (.int 0))) (vchain vle vle (v1 vneg (vC k_MOST_RISE)) (vVar 0) (vC k_MOST_RISE)))))))
def m_is_rise : List PyData → R PyData := frz (runB 1 g_is_rise)
theorem r_is_rise (a0 : PyData) : m_is_rise [a0] = fin (g_is_rise [some (.fz a0)]) := frz_fin _ _ _
abbrev s_is_curve : Stmt := topS 11
abbrev N_is_curve : List Str := ["values"]
def g_is_curve : OEnv → SR := (sRet (oX (exF (vand (v2 veq (vapp vlen (aCons (vVar 0) aNil)) (vC (.int 2))) (vand (vapp m_is_length (aCons (v2 vidx (vVar 0) (vC (.int 0))) aNil)) (v2 vInT (v2 vidx (vVar 0) (vC (.int 1))) (vC k_SIDES)))))))
def m_is_curve : List PyData → R PyData := frz (runB 1 g_is_curve)
theorem r_is_curve (a0 : PyData) : m_is_curve [a0] = fin (g_is_curve [some (.fz a0)]) := frz_fin _ _ _
abbrev s_is_points : Stmt := topS 12
abbrev N_is_points : List Str := ["values"]
def g_is_points : OEnv → SR := (sRet (oX (exF (vand (v2 veq (vapp vlen (aCons (vVar 0) aNil)) (vC (.int 3))) (vand (vapp m_is_length (aCons (v2 vidx (vVar 0) (vC (.int 0))) aNil)) (vapp m_is_curve (aCons (vslice (vVar 0) (vpart (vC (.int 1))) vnopart) aNil)))))))
def m_is_points : List PyData → R PyData := frz (runB 1 g_is_points)
theorem r_is_points (a0 : PyData) : m_is_points [a0] = fin (g_is_points [some (.fz a0)]) := frz_fin _ _ _
abbrev s_is_cross : Stmt := topS 13
abbrev N_is_cross : List Str := ["values"]
def g_is_cross : OEnv → SR := (seq (sIf (tB (tor (tst (v2 vne (vapp vlen (aCons (vVar 0) aNil)) (vC (.int 2)))) (tor (tnot (ttr (vapp m_is_length (aCons (v2 vidx (vVar 0) (vC (.int 0))) aNil)))) (tnot (ttr (vapp m_is_whole (aCons (v2 vidx (vVar 0) (vC (.int 1))) aNil)))))))
    (sRet (oX (exF (vC (.bool false)))))
    sNx)
    (sRet (oX (exF (vand (v2 veq (v2 vmod (v2 vidx (vVar 0) (vC (.int 0))) (vC (.int 2))) (vC (.int 0))) (vchain vle vle (vC (.int 1)) (v2 vidx (vVar 0) (vC (.int 1))) (vC (.int 3))))))))
def m_is_cross : List PyData → R PyData := frz (runB 1 g_is_cross)
theorem r_is_cross (a0 : PyData) : m_is_cross [a0] = fin (g_is_cross [some (.fz a0)]) := frz_fin _ _ _
abbrev s_is_ramp : Stmt := topS 14
abbrev N_is_ramp : List Str := ["values"]
def g_is_ramp : OEnv → SR := (sRet (oX (exF (vand (v2 veq (vapp vlen (aCons (vVar 0) aNil)) (vC (.int 2))) (vand (vapp m_is_length (aCons (v2 vidx (vVar 0) (vC (.int 0))) aNil)) (vapp m_is_rise (aCons (v2 vidx (vVar 0) (vC (.int 1))) aNil)))))))
def m_is_ramp : List PyData → R PyData := frz (runB 1 g_is_ramp)
theorem r_is_ramp (a0 : PyData) : m_is_ramp [a0] = fin (g_is_ramp [some (.fz a0)]) := frz_fin _ _ _
abbrev s_is_plain : Stmt := topS 15
abbrev N_is_plain : List Str := ["values"]
def g_is_plain : OEnv → SR := (sRet (oX (exF (vand (v2 veq (vapp vlen (aCons (vVar 0) aNil)) (vC (.int 1))) (vapp m_is_length (aCons (v2 vidx (vVar 0) (vC (.int 0))) aNil))))))
def m_is_plain : List PyData → R PyData := frz (runB 1 g_is_plain)
theorem r_is_plain (a0 : PyData) : m_is_plain [a0] = fin (g_is_plain [some (.fz a0)]) := frz_fin _ _ _
abbrev s_is_piece : Stmt := topS 16
abbrev N_is_piece : List Str := ["piece", "word"]
def g_is_piece : OEnv → SR := (seq (sIf (tB (tor (tnot (ttr (v1 (visi "tuple") (vVar 0)))) (tst (v2 veq (vapp vlen (aCons (vVar 0) aNil)) (vC (.int 0))))))
    (sRet (oX (exF (vC (.bool false)))))
    sNx)
    (seq (sSet 1 (oX (exF (v2 vidx (vVar 0) (vC (.int 0))))))
    (seq (sIf (tB (tst (v2 vInT (vVar 1) (vtup (aCons (vC (.str "straight")) (aCons (vC (.str "gap")) (aCons (vC (.str "stop")) aNil)))))))
    (sRet (oX (exF (vapp m_is_plain (aCons (vslice (vVar 0) (vpart (vC (.int 1))) vnopart) aNil)))))
    sNx)
    (seq (sIf (tB (tst (v2 veq (vVar 1) (vC (.str "curve")))))
    (sRet (oX (exF (vapp m_is_curve (aCons (vslice (vVar 0) (vpart (vC (.int 1))) vnopart) aNil)))))
    sNx)
    (seq (sIf (tB (tst (v2 veq (vVar 1) (vC (.str "points")))))
    (sRet (oX (exF (vapp m_is_points (aCons (vslice (vVar 0) (vpart (vC (.int 1))) vnopart) aNil)))))
    sNx)
    (seq (sIf (tB (tst (v2 veq (vVar 1) (vC (.str "cross")))))
    (sRet (oX (exF (vapp m_is_cross (aCons (vslice (vVar 0) (vpart (vC (.int 1))) vnopart) aNil)))))
    sNx)
    (sRet (oX (exF (vand (v2 veq (vVar 1) (vC (.str "ramp"))) (vapp m_is_ramp (aCons (vslice (vVar 0) (vpart (vC (.int 1))) vnopart) aNil))))))))))))
def m_is_piece : List PyData → R PyData := frz (runB 2 g_is_piece)
theorem r_is_piece (a0 : PyData) : m_is_piece [a0] = fin (g_is_piece [some (.fz a0), none]) := frz_fin _ _ _
abbrev s_check_piece : Stmt := topS 17
abbrev N_check_piece : List Str := ["piece"]
def g_check_piece : OEnv → SR := (sIf (tB (tnot (ttr (vapp m_is_piece (aCons (vVar 0) aNil)))))
    (sRaise "InvalidPiece")
    sNx)
def m_check_piece : List PyData → R PyData := frz (runB 1 g_check_piece)
theorem r_check_piece (a0 : PyData) : m_check_piece [a0] = fin (g_check_piece [some (.fz a0)]) := frz_fin _ _ _
abbrev s_law_cell : Stmt := topS 19
abbrev N_law_cell : List Str := ["script", "k"]
def g_law_cell : OEnv → SR := (seq (sIf (tB (tst (v2 vlt (vVar 1) (vapp vlen (aCons (vVar 0) aNil)))))
    (sRet (oX (exF (vapp vint1 (aCons (v2 vidx (vVar 0) (vVar 1)) aNil)))))
    sNx)
    (pre (kill [0, 1]) (sRet (oX (exF (vC (.int 0)))))))
def m_law_cell : List PyData → R PyData := frz (runB 2 g_law_cell)
theorem r_law_cell (a0 a1 : PyData) : m_law_cell [a0, a1] = fin (g_law_cell [some (.fz a0), some (.fz a1)]) := frz_fin _ _ _
abbrev s_law_numbers : Stmt := topS 20
abbrev N_law_numbers : List Str := ["cell", "count", "limit", "found", "k", "mixed"]
def b_law_numbers_1 : OEnv → SR := (seq (sApp 3 (oX (exF (v2 vmod (vapp vint1 (aCons (vVar 0) aNil)) (vVar 2)))))
    (sSet 0 (oX (exF (v2 vfdiv (vapp vint1 (aCons (vVar 0) aNil)) (vVar 2))))))
def b_law_numbers_2 : OEnv → SR := (seq (sSet 5 (oX (exF (v2 vmod (vapp vint1 (aCons (v2 vadd (v2 vadd (v2 vmul (vVar 0) (vC (.int 48271))) (v2 vmul (vVar 4) (vC (.int 69621)))) (vC (.int 7))) aNil)) (vC (.int 2147483647))))))
    (seq (sSet 5 (oX (exF (v2 vmod (vapp vint1 (aCons (v2 vadd (v2 vadd (v2 vadd (v2 vmul (vVar 5) (vVar 5)) (v2 vmul (vVar 5) (vC (.int 40692)))) (v2 vmul (vVar 4) (vC (.int 16807)))) (vC (.int 11))) aNil)) (vC (.int 2147483399))))))
    (sApp 3 (oX (exF (v2 vmod (vapp vint1 (aCons (v2 vfdiv (vVar 5) (vC (.int 32))) aNil)) (vVar 2)))))))
def g_law_numbers : OEnv → SR := (seq (sSet 3 (oFrF aNil))
    (seq (sIf (tB (tst (v2 vge (vVar 0) (v2 vpow (vC (.int 10)) (vC (.int 18))))))
    (seq (sForK (x1 vrange1 (exF (vVar 1))) (kill [1]) (gN 4) (kill [4]) (b_law_numbers_1))
    (pre (kill [0, 2, 4]) (pre (freeze [3]) (sRet (oX (exF (vVar 3)))))))
    sNx)
    (seq (sForK (x1 vrange1 (exF (vVar 1))) (kill [1]) (gN 4) (kill [4, 5]) (b_law_numbers_2))
    (pre (kill [0, 2, 4, 5]) (pre (freeze [3]) (sRet (oX (exF (vVar 3)))))))))
def m_law_numbers : List PyData → R PyData := frz (runB 6 g_law_numbers)
theorem r_law_numbers (a0 a1 a2 : PyData) : m_law_numbers [a0, a1, a2] = fin (g_law_numbers [some (.fz a0), some (.fz a1), some (.fz a2), none, none, none]) := frz_fin _ _ _
abbrev s_law_piece : Stmt := topS 21
abbrev N_law_piece : List Str := ["draws", "at", "length", "side", "radius", "kind"]
def g_law_piece : OEnv → SR := (seq (sSet 2 (oX (exF (v2 vadd (vC (.int 1)) (v2 vmod (v2 vidx (vVar 0) (vVar 1)) (vC (.int 60)))))))
    (seq (sIf (tB (tst (v2 veq (v2 vmod (v2 vidx (vVar 0) (v2 vadd (vVar 1) (vC (.int 1)))) (vC (.int 9))) (vC (.int 0)))))
    (sSet 2 (oX (exF (v2 vadd (vC (.int 1)) (v2 vmod (v2 vidx (vVar 0) (vVar 1)) (vC (.int 9999)))))))
    sNx)
    (seq (sSet 3 (oX (exF (v2 vidx (vlistOf (aCons (vC (.str "left")) (aCons (vC (.str "right")) aNil))) (v2 vmod (v2 vidx (vVar 0) (v2 vadd (vVar 1) (vC (.int 2)))) (vC (.int 2)))))))
    (seq (sSet 4 (oX (exF (v2 vadd (vC (.int 1)) (v2 vmod (v2 vidx (vVar 0) (v2 vadd (vVar 1) (vC (.int 3)))) (vC (.int 60)))))))
    (seq (sSet 5 (oX (exF (v2 vmod (v2 vidx (vVar 0) (v2 vadd (vVar 1) (vC (.int 4)))) (vC (.int 12))))))
    (seq (sIf (tB (tst (v2 vlt (vVar 5) (vC (.int 3)))))
    (sRet (oX (exF (vtup (aCons (vC (.str "straight")) (aCons (vVar 2) aNil))))))
    sNx)
    (seq (sIf (tB (tst (v2 vlt (vVar 5) (vC (.int 6)))))
    (sRet (oX (exF (vtup (aCons (vC (.str "curve")) (aCons (vVar 4) (aCons (vVar 3) aNil)))))))
    sNx)
    (seq (sIf (tB (tst (v2 vlt (vVar 5) (vC (.int 8)))))
    (sRet (oX (exF (vtup (aCons (vC (.str "points")) (aCons (vVar 2) (aCons (vVar 4) (aCons (vVar 3) aNil))))))))
    sNx)
    (pre (kill [3, 4]) (seq (sIf (tB (tst (v2 veq (vVar 5) (vC (.int 8)))))
    (sRet (oX (exF (vtup (aCons (vC (.str "cross")) (aCons (v2 vmul (vC (.int 2)) (v2 vadd (vC (.int 1)) (v2 vfdiv (vVar 2) (vC (.int 2))))) (aCons (v2 vadd (vC (.int 1)) (v2 vmod (v2 vidx (vVar 0) (v2 vadd (vVar 1) (vC (.int 1)))) (vC (.int 3)))) aNil)))))))
    sNx)
    (seq (sIf (tB (tst (v2 veq (vVar 5) (vC (.int 9)))))
    (sRet (oX (exF (vtup (aCons (vC (.str "ramp")) (aCons (vVar 2) (aCons (v2 vidx (vlistOf (aCons (vC (.int 1)) (aCons (v1 vneg (vC (.int 1))) (aCons (vC (.int 2)) (aCons (v1 vneg (vC (.int 2))) (aCons (vC (.int 5)) (aCons (vC (.int 99)) (aCons (v1 vneg (vC (.int 99))) aNil)))))))) (v2 vmod (v2 vidx (vVar 0) (v2 vadd (vVar 1) (vC (.int 2)))) (vC (.int 7)))) aNil)))))))
    sNx)
    (pre (kill [0, 1]) (seq (sIf (tB (tst (v2 veq (vVar 5) (vC (.int 10)))))
    (sRet (oX (exF (vtup (aCons (vC (.str "gap")) (aCons (vVar 2) aNil))))))
    sNx)
    (pre (kill [5]) (sRet (oX (exF (vtup (aCons (vC (.str "stop")) (aCons (vVar 2) aNil))))))))))))))))))))
def m_law_piece : List PyData → R PyData := frz (runB 6 g_law_piece)
theorem r_law_piece (a0 a1 : PyData) : m_law_piece [a0, a1] = fin (g_law_piece [some (.fz a0), some (.fz a1), none, none, none, none]) := frz_fin _ _ _
abbrev s_law_is : Stmt := topS 22
abbrev N_law_is : List Str := ["value", "low", "high"]
def g_law_is : OEnv → SR := (sRet (oX (exF (vand (v1 (visi "int") (vVar 0)) (vand (vnot (v1 (visi "bool") (vVar 0))) (vand (v2 vle (vVar 1) (vVar 0)) (v2 vle (vVar 0) (vVar 2))))))))
def m_law_is : List PyData → R PyData := frz (runB 3 g_law_is)
theorem r_law_is (a0 a1 a2 : PyData) : m_law_is [a0, a1, a2] = fin (g_law_is [some (.fz a0), some (.fz a1), some (.fz a2)]) := frz_fin _ _ _
abbrev s_law_is_piece : Stmt := topS 23
abbrev N_law_is_piece : List Str := ["piece", "rest"]
def g_law_is_piece : OEnv → SR := (seq (sIf (tB (tor (tnot (ttr (v1 (visi "tuple") (vVar 0)))) (tor (tst (v2 veq (vapp vlen (aCons (vVar 0) aNil)) (vC (.int 0)))) (tnot (ttr (v1 (visi "str") (v2 vidx (vVar 0) (vC (.int 0)))))))))
    (sRet (oX (exF (vC (.bool false)))))
    sNx)
    (seq (sSet 1 (oX (exF (vslice (vVar 0) (vpart (vC (.int 1))) vnopart))))
    (seq (sIf (tB (tst (v2 vIn (v2 vidx (vVar 0) (vC (.int 0))) (vlistOf (aCons (vC (.str "straight")) (aCons (vC (.str "gap")) (aCons (vC (.str "stop")) aNil)))))))
    (sRet (oX (exF (vand (v2 veq (vapp vlen (aCons (vVar 1) aNil)) (vC (.int 1))) (vapp m_law_is (aCons (v2 vidx (vVar 1) (vC (.int 0))) (aCons (vC (.int 1)) (aCons (vC (.int 9999)) aNil))))))))
    sNx)
    (seq (sIf (tB (tst (v2 veq (v2 vidx (vVar 0) (vC (.int 0))) (vC (.str "curve")))))
    (sRet (oX (exF (vand (v2 veq (vapp vlen (aCons (vVar 1) aNil)) (vC (.int 2))) (vand (vapp m_law_is (aCons (v2 vidx (vVar 1) (vC (.int 0))) (aCons (vC (.int 1)) (aCons (vC (.int 9999)) aNil)))) (v2 vIn (v2 vidx (vVar 1) (vC (.int 1))) (vlistOf (aCons (vC (.str "left")) (aCons (vC (.str "right")) aNil)))))))))
    sNx)
    (seq (sIf (tB (tst (v2 veq (v2 vidx (vVar 0) (vC (.int 0))) (vC (.str "points")))))
    (sRet (oX (exF (vand (v2 veq (vapp vlen (aCons (vVar 1) aNil)) (vC (.int 3))) (vand (vapp m_law_is (aCons (v2 vidx (vVar 1) (vC (.int 0))) (aCons (vC (.int 1)) (aCons (vC (.int 9999)) aNil)))) (vand (vapp m_law_is (aCons (v2 vidx (vVar 1) (vC (.int 1))) (aCons (vC (.int 1)) (aCons (vC (.int 9999)) aNil)))) (v2 vIn (v2 vidx (vVar 1) (vC (.int 2))) (vlistOf (aCons (vC (.str "left")) (aCons (vC (.str "right")) aNil))))))))))
    sNx)
    (seq (sIf (tB (tst (v2 veq (v2 vidx (vVar 0) (vC (.int 0))) (vC (.str "cross")))))
    (sRet (oX (exF (vand (v2 veq (vapp vlen (aCons (vVar 1) aNil)) (vC (.int 2))) (vand (vapp m_law_is (aCons (v2 vidx (vVar 1) (vC (.int 0))) (aCons (vC (.int 1)) (aCons (vC (.int 9999)) aNil)))) (vand (v2 veq (v2 vmod (v2 vidx (vVar 1) (vC (.int 0))) (vC (.int 2))) (vC (.int 0))) (vapp m_law_is (aCons (v2 vidx (vVar 1) (vC (.int 1))) (aCons (vC (.int 1)) (aCons (vC (.int 3)) aNil))))))))))
    sNx)
    (sRet (oX (exF (vand (v2 veq (v2 vidx (vVar 0) (vC (.int 0))) (vC (.str "ramp"))) (vand (v2 veq (vapp vlen (aCons (vVar 1) aNil)) (vC (.int 2))) (vand (vapp m_law_is (aCons (v2 vidx (vVar 1) (vC (.int 0))) (aCons (vC (.int 1)) (aCons (vC (.int 9999)) aNil)))) (vand (vapp m_law_is (aCons (v2 vidx (vVar 1) (vC (.int 1))) (aCons (v1 vneg (vC (.int 99))) (aCons (vC (.int 99)) aNil)))) (v2 vne (v2 vidx (vVar 1) (vC (.int 1))) (vC (.int 0))))))))))))))))
def m_law_is_piece : List PyData → R PyData := frz (runB 2 g_law_is_piece)
theorem r_law_is_piece (a0 : PyData) : m_law_is_piece [a0] = fin (g_law_is_piece [some (.fz a0), none]) := frz_fin _ _ _
abbrev s_law_others : Stmt := topS 24
abbrev N_law_others : List Str := ["piece", "draws", "at", "values", "found", "value", "word"]
def b_law_others_1 : OEnv → SR := (seq (sApp 4 (oX (exF (v2 vadd (v2 vadd (vslice (vVar 0) (vpart (vC (.int 0))) (vpart (vVar 2))) (vtup (aCons (vVar 5) aNil))) (vslice (vVar 0) (vpart (v2 vadd (vVar 2) (vC (.int 1)))) vnopart)))))
    (sApp 4 (oX (exF (v2 vadd (vslice (vVar 0) (vpart (vC (.int 0))) (vpart (v2 vsub (vapp vlen (aCons (vVar 0) aNil)) (vC (.int 1))))) (vtup (aCons (vVar 5) aNil)))))))
def b_law_others_2 : OEnv → SR := (sApp 4 (oX (exF (v2 vadd (vtup (aCons (vVar 6) aNil)) (vslice (vVar 0) (vpart (vC (.int 1))) vnopart)))))
def g_law_others : OEnv → SR := (seq (sSet 2 (oX (exF (v2 vmod (v2 vidx (vVar 1) (vC (.int 0))) (vapp vlen (aCons (vVar 0) aNil))))))
    (seq (sSet 3 (oX (exF (vlistOf (aCons (vC (.int 0)) (aCons (vC (.int 1)) (aCons (vC (.int 9999)) (aCons (vC (.int 10000)) (aCons (v1 vneg (vC (.int 1))) (aCons (vC (.bool true)) (aCons (vC (.bool false)) (aCons (vC (.str "left")) (aCons (vC (.str "right")) (aCons (vC (.str "straight")) (aCons (vC (.str "Left")) (aCons (vC .none) (aCons (vC (.str "")) (aCons (vtup (aCons (vC (.int 1)) aNil)) (aCons (vC (.int 99)) (aCons (vC (.int 100)) (aCons (v1 vneg (vC (.int 99))) (aCons (v1 vneg (vC (.int 100))) (aCons (vC (.int 2)) (aCons (vC (.int 3)) (aCons (vC (.int 4)) (aCons (v2 vidx (vVar 1) (vC (.int 1))) aNil))))))))))))))))))))))))))
    (seq (sSet 4 (oFrF (aCons (vVar 0) (aCons (v2 vadd (vslice (vVar 0) (vpart (vC (.int 0))) (vpart (vVar 2))) (vslice (vVar 0) (vpart (v2 vadd (vVar 2) (vC (.int 1)))) vnopart)) (aCons (v2 vadd (vVar 0) (vtup (aCons (v2 vidx (vVar 0) (vVar 2)) aNil))) (aCons (vlistOf (isq (vVar 0))) (aCons (vslice (vVar 0) (vpart (vC (.int 1))) vnopart) (aCons (v2 vidx (vVar 0) (vC (.int 0))) (aCons (vtup (aCons (vVar 0) aNil)) (aCons (vtup aNil) aNil))))))))))
    (pre (kill [1]) (seq (sForK (ixF (isq (vVar 3))) (kill [3]) (gN 5) (kill [5]) (b_law_others_1))
    (pre (kill [2, 5]) (seq (sFor (ixF (isq (vlistOf (aCons (vC (.str "straight")) (aCons (vC (.str "gap")) (aCons (vC (.str "stop")) (aCons (vC (.str "curve")) (aCons (vC (.str "points")) (aCons (vC (.str "cross")) (aCons (vC (.str "ramp")) (aCons (vC (.str "Straight")) (aCons (vC (.str "track")) aNil)))))))))))) (gN 6) (kill [6]) (b_law_others_2))
    (pre (kill [0, 6]) (pre (freeze [4]) (sRet (oX (exF (v2 vadd (vVar 4) (vlistOf (aCons (vC .none) (aCons (vC (.int 7)) (aCons (vC (.str "stop")) (aCons (vlistOf (aCons (vC (.str "stop")) (aCons (vC (.int 4)) aNil))) (aCons (vtup (aCons (vC (.str "stop")) (aCons (vC (.str "4")) aNil))) aNil)))))))))))))))))))
def m_law_others : List PyData → R PyData := frz (runB 7 g_law_others)
theorem r_law_others (a0 a1 : PyData) : m_law_others [a0, a1] = fin (g_law_others [some (.fz a0), some (.fz a1), none, none, none, none, none]) := frz_fin _ _ _
abbrev s_law : Stmt := topS 25
abbrev N_law : List Str := ["script", "at", "draws", "piece", "other", "due", "told", "e"]
def b_law_1 : OEnv → SR := (seq (sSet 5 (oX (exF (vapp m_law_is_piece (aCons (vVar 4) aNil)))))
    (sTryAs (seq (sSet 6 (oX (exF (vapp m_check_piece (aCons (vVar 4) aNil)))))
    (sIf (tB (tor (tnn (vVar 6)) (tnot (ttr (vVar 5)))))
    (sRet (oX (exF (vC (.bool false)))))
    sNx)) tb_InvalidPiece 7 (fun a cn => (sIf (tB (tor (ttr (vVar 5)) (tor (tnot (ttr (v1 (vIsE a cn is_TrackError) (vVar 7)))) (tor (tnot (ttr (v1 (vIsE a cn is_ValueError) (vVar 7)))) (ttr (v1 (vIsE a cn is_InvalidJoint) (vVar 7)))))))
    (sRet (oX (exF (vC (.bool false)))))
    sNx))))
def b_law_2 : OEnv → SR := (seq (sSet 2 (oX (exF (vapp m_law_numbers (aCons (vapp m_law_cell (aCons (vVar 0) (aCons (vVar 1) aNil))) (aCons (vC (.int 8)) (aCons (vC (.int 5040)) aNil)))))))
    (seq (sSet 3 (oX (exF (vapp m_law_piece (aCons (vVar 2) (aCons (vC (.int 0)) aNil))))))
    (pre (kill [1]) (sForK (ixF (isq (vapp m_law_others (aCons (vVar 3) (aCons (vslice (vVar 2) (vpart (vC (.int 5))) (vpart (vC (.int 8)))) aNil))))) (kill [2, 3]) (gN 4) (kill [4, 5, 6]) (b_law_1)))))
def g_law : OEnv → SR := (seq (sFor (x1 vrange1 (exF (vC (.int 6)))) (gN 1) (kill [1, 2, 3, 4, 5, 6]) (b_law_2))
    (pre (kill [0, 4, 5, 6]) (sRet (oX (exF (vC (.bool true)))))))
def m_law : List PyData → R PyData := frz (runB 8 g_law)
theorem r_law (a0 : PyData) : m_law [a0] = fin (g_law [some (.fz a0), none, none, none, none, none, none, none]) := frz_fin _ _ _
end
structure Txt (K : PySem.W.Frag) (mg : Str → Option Value) where
  f_is_whole : Addr
  d_is_whole : FuncData
  F_is_whole : Fun K "is_whole" "is_whole" s_is_whole f_is_whole d_is_whole
  g_is_whole : mg "is_whole" = some (.ref f_is_whole)
  B_is_whole : Binds K d_is_whole ["value"] []
  f_is_length : Addr
  d_is_length : FuncData
  F_is_length : Fun K "is_length" "is_length" s_is_length f_is_length d_is_length
  g_is_length : mg "is_length" = some (.ref f_is_length)
  B_is_length : Binds K d_is_length ["value"] []
  f_is_rise : Addr
  d_is_rise : FuncData
  F_is_rise : Fun K "is_rise" "is_rise" s_is_rise f_is_rise d_is_rise
  g_is_rise : mg "is_rise" = some (.ref f_is_rise)
  B_is_rise : Binds K d_is_rise ["value"] []
  f_is_curve : Addr
  d_is_curve : FuncData
  F_is_curve : Fun K "is_curve" "is_curve" s_is_curve f_is_curve d_is_curve
  g_is_curve : mg "is_curve" = some (.ref f_is_curve)
  B_is_curve : Binds K d_is_curve ["values"] []
  f_is_points : Addr
  d_is_points : FuncData
  F_is_points : Fun K "is_points" "is_points" s_is_points f_is_points d_is_points
  g_is_points : mg "is_points" = some (.ref f_is_points)
  B_is_points : Binds K d_is_points ["values"] []
  f_is_cross : Addr
  d_is_cross : FuncData
  F_is_cross : Fun K "is_cross" "is_cross" s_is_cross f_is_cross d_is_cross
  g_is_cross : mg "is_cross" = some (.ref f_is_cross)
  B_is_cross : Binds K d_is_cross ["values"] []
  f_is_ramp : Addr
  d_is_ramp : FuncData
  F_is_ramp : Fun K "is_ramp" "is_ramp" s_is_ramp f_is_ramp d_is_ramp
  g_is_ramp : mg "is_ramp" = some (.ref f_is_ramp)
  B_is_ramp : Binds K d_is_ramp ["values"] []
  f_is_plain : Addr
  d_is_plain : FuncData
  F_is_plain : Fun K "is_plain" "is_plain" s_is_plain f_is_plain d_is_plain
  g_is_plain : mg "is_plain" = some (.ref f_is_plain)
  B_is_plain : Binds K d_is_plain ["values"] []
  f_is_piece : Addr
  d_is_piece : FuncData
  F_is_piece : Fun K "is_piece" "is_piece" s_is_piece f_is_piece d_is_piece
  g_is_piece : mg "is_piece" = some (.ref f_is_piece)
  B_is_piece : Binds K d_is_piece ["piece"] []
  f_check_piece : Addr
  d_check_piece : FuncData
  F_check_piece : Fun K "check_piece" "check_piece" s_check_piece f_check_piece d_check_piece
  g_check_piece : mg "check_piece" = some (.ref f_check_piece)
  B_check_piece : Binds K d_check_piece ["piece"] []
  f__law_cell : Addr
  d__law_cell : FuncData
  F__law_cell : Fun K "_law_cell" "_law_cell" s_law_cell f__law_cell d__law_cell
  g__law_cell : mg "_law_cell" = some (.ref f__law_cell)
  B__law_cell : Binds K d__law_cell ["script", "k"] []
  f__law_numbers : Addr
  d__law_numbers : FuncData
  F__law_numbers : Fun K "_law_numbers" "_law_numbers" s_law_numbers f__law_numbers d__law_numbers
  g__law_numbers : mg "_law_numbers" = some (.ref f__law_numbers)
  B__law_numbers : Binds K d__law_numbers ["cell", "count", "limit"] []
  f__law_piece : Addr
  d__law_piece : FuncData
  F__law_piece : Fun K "_law_piece" "_law_piece" s_law_piece f__law_piece d__law_piece
  g__law_piece : mg "_law_piece" = some (.ref f__law_piece)
  B__law_piece : Binds K d__law_piece ["draws", "at"] []
  f__law_is : Addr
  d__law_is : FuncData
  F__law_is : Fun K "_law_is" "_law_is" s_law_is f__law_is d__law_is
  g__law_is : mg "_law_is" = some (.ref f__law_is)
  B__law_is : Binds K d__law_is ["value", "low", "high"] []
  f__law_is_piece : Addr
  d__law_is_piece : FuncData
  F__law_is_piece : Fun K "_law_is_piece" "_law_is_piece" s_law_is_piece f__law_is_piece d__law_is_piece
  g__law_is_piece : mg "_law_is_piece" = some (.ref f__law_is_piece)
  B__law_is_piece : Binds K d__law_is_piece ["piece"] []
  f__law_others : Addr
  d__law_others : FuncData
  F__law_others : Fun K "_law_others" "_law_others" s_law_others f__law_others d__law_others
  g__law_others : mg "_law_others" = some (.ref f__law_others)
  B__law_others : Binds K d__law_others ["piece", "draws"] []
  f_law : Addr
  d_law : FuncData
  F_law : Fun K "law" "law" s_law f_law d_law
  g_law : mg "law" = some (.ref f_law)
  B_law : Binds K d_law ["script"] []
  b_ValueError : mg "ValueError" = none
  b_bool : mg "bool" = none
  b_int : mg "int" = none
  b_isinstance : mg "isinstance" = none
  b_len : mg "len" = none
  b_list : mg "list" = none
  b_range : mg "range" = none
  b_str : mg "str" = none
  b_tuple : mg "tuple" = none
  x_InvalidJoint : Addr
  E_InvalidJoint : ExcF K mg "InvalidJoint" x_InvalidJoint
  x_InvalidPiece : Addr
  E_InvalidPiece : ExcF K mg "InvalidPiece" x_InvalidPiece
  x_TrackError : Addr
  E_TrackError : ExcF K mg "TrackError" x_TrackError
  h_InvalidPiece : HTab K mg "InvalidPiece" tb_InvalidPiece
  i_InvalidJoint : ITab K mg "InvalidJoint" (.ref x_InvalidJoint) is_InvalidJoint
  i_TrackError : ITab K mg "TrackError" (.ref x_TrackError) is_TrackError
  i_ValueError : ITab K mg "ValueError" (.type "ValueError") is_ValueError
  c_MOST_LENGTH : Cst K mg "MOST_LENGTH" k_MOST_LENGTH
  c_MOST_RISE : Cst K mg "MOST_RISE" k_MOST_RISE
  c_SIDES : Cst K mg "SIDES" k_SIDES
section
variable {P : Program} {w : World} {K : PySem.W.Frag} {mg : Str → Option Value} {base : Heap}
theorem sc_is_whole : FnScope N_is_whole ["value"] (defScope s_is_whole) := ⟨rfl, rfl, rfl, by decide +kernel, rfl, by decide +kernel, by decide +kernel⟩
theorem ok_is_whole (T : Txt K mg) : FnOk P w K mg base (L2.CX P w) 1 T.f_is_whole T.d_is_whole ["value"] (spV K mg 1 m_is_whole) := by
  refine fn_frz (g := runB 1 g_is_whole) ?_
  refine fn_vl T.F_is_whole sc_is_whole rfl fun cdv A outer s H E hr => ?_
  have nd := sc_is_whole.nd
  have tk := takes_of (X := cxOf (L2.CX P w) P w K mg base N_is_whole "is_whole" (defScope s_is_whole) T.f_is_whole cdv A outer s H E) rfl rfl rfl rfl
  have hp := passes_of (X := cxOf (L2.CX P w) P w K mg base N_is_whole "is_whole" (defScope s_is_whole) T.f_is_whole cdv A outer s H E) rfl
  exact (vss_one (vs_ret (vo_x (vxF (vand_ (visi_ ty_int T.b_isinstance T.b_int (by decide +kernel) (vv 0)) (vone (vnot_ (visi_ ty_bool T.b_isinstance T.b_bool (by decide +kernel) (vv 0)))))))))
theorem sc_is_length : FnScope N_is_length ["value"] (defScope s_is_length) := ⟨rfl, rfl, rfl, by decide +kernel, rfl, by decide +kernel, by decide +kernel⟩
theorem ok_is_length (T : Txt K mg) : FnOk P w K mg base (L2.CX P w) 2 T.f_is_length T.d_is_length ["value"] (spV K mg 1 m_is_length) := by
  refine fn_frz (g := runB 1 g_is_length) ?_
  refine fn_vl T.F_is_length sc_is_length rfl fun cdv A outer s H E hr => ?_
  have nd := sc_is_length.nd
  have tk := takes_of (X := cxOf (L2.CX P w) P w K mg base N_is_length "is_length" (defScope s_is_length) T.f_is_length cdv A outer s H E) rfl rfl rfl rfl
  have hp := passes_of (X := cxOf (L2.CX P w) P w K mg base N_is_length "is_length" (defScope s_is_length) T.f_is_length cdv A outer s H E) rfl
  exact (vss_one (vs_ret (vo_x (vxF (vand_ (vcall (ok_is_whole T) (hr.mono (by decide)) T.g_is_whole T.F_is_whole.kp T.B_is_whole tk (van_cons (vv 0) van_nil)) (vone (vchain_ ic_le ic_le vint (vv 0) (vglobT T.c_MOST_LENGTH))))))))
theorem sc_is_rise : FnScope N_is_rise ["value"] (defScope s_is_rise) := ⟨rfl, rfl, rfl, by decide +kernel, rfl, by decide +kernel, by decide +kernel⟩
theorem ok_is_rise (T : Txt K mg) : FnOk P w K mg base (L2.CX P w) 2 T.f_is_rise T.d_is_rise ["value"] (spV K mg 1 m_is_rise) := by
  refine fn_frz (g := runB 1 g_is_rise) ?_
  refine fn_vl T.F_is_rise sc_is_rise rfl fun cdv A outer s H E hr => ?_
  have nd := sc_is_rise.nd
  have tk := takes_of (X := cxOf (L2.CX P w) P w K mg base N_is_rise "is_rise" (defScope s_is_rise) T.f_is_rise cdv A outer s H E) rfl rfl rfl rfl
  have hp := passes_of (X := cxOf (L2.CX P w) P w K mg base N_is_rise "is_rise" (defScope s_is_rise) T.f_is_rise cdv A outer s H E) rfl
  exact (vss_one (vs_ret (vo_x (vxF (vand_ (vcall (ok_is_whole T) (hr.mono (by decide)) T.g_is_whole T.F_is_whole.kp T.B_is_whole tk (van_cons (vv 0) van_nil)) (vand_ (vne_ hr (vv 0) vint) (vone (vchain_ ic_le ic_le (vneg_ (vglobT T.c_MOST_RISE)) (vv 0) (vglobT T.c_MOST_RISE)))))))))
theorem sc_is_curve : FnScope N_is_curve ["values"] (defScope s_is_curve) := ⟨rfl, rfl, rfl, by decide +kernel, rfl, by decide +kernel, by decide +kernel⟩
theorem ok_is_curve (T : Txt K mg) : FnOk P w K mg base (L2.CX P w) 3 T.f_is_curve T.d_is_curve ["values"] (spV K mg 1 m_is_curve) := by
  refine fn_frz (g := runB 1 g_is_curve) ?_
  refine fn_vl T.F_is_curve sc_is_curve rfl fun cdv A outer s H E hr => ?_
  have nd := sc_is_curve.nd
  have tk := takes_of (X := cxOf (L2.CX P w) P w K mg base N_is_curve "is_curve" (defScope s_is_curve) T.f_is_curve cdv A outer s H E) rfl rfl rfl rfl
  have hp := passes_of (X := cxOf (L2.CX P w) P w K mg base N_is_curve "is_curve" (defScope s_is_curve) T.f_is_curve cdv A outer s H E) rfl
  exact (vss_one (vs_ret (vo_x (vxF (vand_ (veq_ hr (vlen_ T.b_len (VAn.va (van_cons (vv 0) van_nil))) vint) (vand_ (vcall (ok_is_length T) (hr.mono (by decide)) T.g_is_length T.F_is_length.kp T.B_is_length tk (van_cons (vidx_ (vv 0) vint) van_nil)) (vone (winT hr (vidx_ (vv 0) vint) (vglobT T.c_SIDES)))))))))
theorem sc_is_points : FnScope N_is_points ["values"] (defScope s_is_points) := ⟨rfl, rfl, rfl, by decide +kernel, rfl, by decide +kernel, by decide +kernel⟩
theorem ok_is_points (T : Txt K mg) : FnOk P w K mg base (L2.CX P w) 4 T.f_is_points T.d_is_points ["values"] (spV K mg 1 m_is_points) := by
  refine fn_frz (g := runB 1 g_is_points) ?_
  refine fn_vl T.F_is_points sc_is_points rfl fun cdv A outer s H E hr => ?_
  have nd := sc_is_points.nd
  have tk := takes_of (X := cxOf (L2.CX P w) P w K mg base N_is_points "is_points" (defScope s_is_points) T.f_is_points cdv A outer s H E) rfl rfl rfl rfl
  have hp := passes_of (X := cxOf (L2.CX P w) P w K mg base N_is_points "is_points" (defScope s_is_points) T.f_is_points cdv A outer s H E) rfl
  exact (vss_one (vs_ret (vo_x (vxF (vand_ (veq_ hr (vlen_ T.b_len (VAn.va (van_cons (vv 0) van_nil))) vint) (vand_ (vcall (ok_is_length T) (hr.mono (by decide)) T.g_is_length T.F_is_length.kp T.B_is_length tk (van_cons (vidx_ (vv 0) vint) van_nil)) (vone (vcall (ok_is_curve T) (hr.mono (by decide)) T.g_is_curve T.F_is_curve.kp T.B_is_curve tk (van_cons (vslice_ (vv 0) (qo_some vint) qo_none) van_nil)))))))))
theorem sc_is_cross : FnScope N_is_cross ["values"] (defScope s_is_cross) := ⟨rfl, rfl, rfl, by decide +kernel, rfl, by decide +kernel, by decide +kernel⟩
theorem ok_is_cross (T : Txt K mg) : FnOk P w K mg base (L2.CX P w) 3 T.f_is_cross T.d_is_cross ["values"] (spV K mg 1 m_is_cross) := by
  refine fn_frz (g := runB 1 g_is_cross) ?_
  refine fn_vl T.F_is_cross sc_is_cross rfl fun cdv A outer s H E hr => ?_
  have nd := sc_is_cross.nd
  have tk := takes_of (X := cxOf (L2.CX P w) P w K mg base N_is_cross "is_cross" (defScope s_is_cross) T.f_is_cross cdv A outer s H E) rfl rfl rfl rfl
  have hp := passes_of (X := cxOf (L2.CX P w) P w K mg base N_is_cross "is_cross" (defScope s_is_cross) T.f_is_cross cdv A outer s H E) rfl
  exact (qs_cons (vs_if (qx_T (VW.vt (vw_or (qne hr (vlen_ T.b_len (VAn.va (van_cons (vv 0) van_nil))) vint) (vw_or (vt_not (qtruth (vcall (ok_is_length T) (hr.mono (by decide)) T.g_is_length T.F_is_length.kp T.B_is_length tk (van_cons (vidx_ (vv 0) vint) van_nil)))) (vw_or1 (vt_not (qtruth (vcall (ok_is_whole T) (hr.mono (by decide)) T.g_is_whole T.F_is_whole.kp T.B_is_whole tk (van_cons (vidx_ (vv 0) vint) van_nil)))))))))
      (vss_one (vs_ret (vo_x (vxF vbool))))
      qs_nil)
      (vss_one (vs_ret (vo_x (vxF (vand_ (veq_ hr (vmod_ (vidx_ (vv 0) vint) vint) vint) (vone (vchain_ ic_le ic_le vint (vidx_ (vv 0) vint) vint))))))))
theorem sc_is_ramp : FnScope N_is_ramp ["values"] (defScope s_is_ramp) := ⟨rfl, rfl, rfl, by decide +kernel, rfl, by decide +kernel, by decide +kernel⟩
theorem ok_is_ramp (T : Txt K mg) : FnOk P w K mg base (L2.CX P w) 3 T.f_is_ramp T.d_is_ramp ["values"] (spV K mg 1 m_is_ramp) := by
  refine fn_frz (g := runB 1 g_is_ramp) ?_
  refine fn_vl T.F_is_ramp sc_is_ramp rfl fun cdv A outer s H E hr => ?_
  have nd := sc_is_ramp.nd
  have tk := takes_of (X := cxOf (L2.CX P w) P w K mg base N_is_ramp "is_ramp" (defScope s_is_ramp) T.f_is_ramp cdv A outer s H E) rfl rfl rfl rfl
  have hp := passes_of (X := cxOf (L2.CX P w) P w K mg base N_is_ramp "is_ramp" (defScope s_is_ramp) T.f_is_ramp cdv A outer s H E) rfl
  exact (vss_one (vs_ret (vo_x (vxF (vand_ (veq_ hr (vlen_ T.b_len (VAn.va (van_cons (vv 0) van_nil))) vint) (vand_ (vcall (ok_is_length T) (hr.mono (by decide)) T.g_is_length T.F_is_length.kp T.B_is_length tk (van_cons (vidx_ (vv 0) vint) van_nil)) (vone (vcall (ok_is_rise T) (hr.mono (by decide)) T.g_is_rise T.F_is_rise.kp T.B_is_rise tk (van_cons (vidx_ (vv 0) vint) van_nil)))))))))
theorem sc_is_plain : FnScope N_is_plain ["values"] (defScope s_is_plain) := ⟨rfl, rfl, rfl, by decide +kernel, rfl, by decide +kernel, by decide +kernel⟩
theorem ok_is_plain (T : Txt K mg) : FnOk P w K mg base (L2.CX P w) 3 T.f_is_plain T.d_is_plain ["values"] (spV K mg 1 m_is_plain) := by
  refine fn_frz (g := runB 1 g_is_plain) ?_
  refine fn_vl T.F_is_plain sc_is_plain rfl fun cdv A outer s H E hr => ?_
  have nd := sc_is_plain.nd
  have tk := takes_of (X := cxOf (L2.CX P w) P w K mg base N_is_plain "is_plain" (defScope s_is_plain) T.f_is_plain cdv A outer s H E) rfl rfl rfl rfl
  have hp := passes_of (X := cxOf (L2.CX P w) P w K mg base N_is_plain "is_plain" (defScope s_is_plain) T.f_is_plain cdv A outer s H E) rfl
  exact (vss_one (vs_ret (vo_x (vxF (vand_ (veq_ hr (vlen_ T.b_len (VAn.va (van_cons (vv 0) van_nil))) vint) (vone (vcall (ok_is_length T) (hr.mono (by decide)) T.g_is_length T.F_is_length.kp T.B_is_length tk (van_cons (vidx_ (vv 0) vint) van_nil))))))))
theorem sc_is_piece : FnScope N_is_piece ["piece"] (defScope s_is_piece) := ⟨rfl, rfl, rfl, by decide +kernel, rfl, by decide +kernel, by decide +kernel⟩
theorem ok_is_piece (T : Txt K mg) : FnOk P w K mg base (L2.CX P w) 5 T.f_is_piece T.d_is_piece ["piece"] (spV K mg 1 m_is_piece) := by
  refine fn_frz (g := runB 2 g_is_piece) ?_
  refine fn_vl T.F_is_piece sc_is_piece rfl fun cdv A outer s H E hr => ?_
  have nd := sc_is_piece.nd
  have tk := takes_of (X := cxOf (L2.CX P w) P w K mg base N_is_piece "is_piece" (defScope s_is_piece) T.f_is_piece cdv A outer s H E) rfl rfl rfl rfl
  have hp := passes_of (X := cxOf (L2.CX P w) P w K mg base N_is_piece "is_piece" (defScope s_is_piece) T.f_is_piece cdv A outer s H E) rfl
  exact (qs_cons (vs_if (qx_T (VW.vt (vw_or (vt_not (qtruth (visi_ ty_tuple T.b_isinstance T.b_tuple (by decide +kernel) (vv 0)))) (vw_or1 (qeq hr (vlen_ T.b_len (VAn.va (van_cons (vv 0) van_nil))) vint)))))
      (vss_one (vs_ret (vo_x (vxF vbool))))
      qs_nil)
      (qs_cons (vs_set 1 nd (vo_x (vxF (vidx_ (vv 0) vint))))
      (qs_cons (vs_if (qx_T (qinT hr (vv 1) (vtup_ (van_cons vstr (van_cons vstr (van_cons vstr van_nil))))))
      (vss_one (vs_ret (vo_x (vxF (vcall (ok_is_plain T) (hr.mono (by decide)) T.g_is_plain T.F_is_plain.kp T.B_is_plain tk (van_cons (vslice_ (vv 0) (qo_some vint) qo_none) van_nil))))))
      qs_nil)
      (qs_cons (vs_if (qx_T (qeq hr (vv 1) vstr))
      (vss_one (vs_ret (vo_x (vxF (vcall (ok_is_curve T) (hr.mono (by decide)) T.g_is_curve T.F_is_curve.kp T.B_is_curve tk (van_cons (vslice_ (vv 0) (qo_some vint) qo_none) van_nil))))))
      qs_nil)
      (qs_cons (vs_if (qx_T (qeq hr (vv 1) vstr))
      (vss_one (vs_ret (vo_x (vxF (vcall (ok_is_points T) (hr.mono (by decide)) T.g_is_points T.F_is_points.kp T.B_is_points tk (van_cons (vslice_ (vv 0) (qo_some vint) qo_none) van_nil))))))
      qs_nil)
      (qs_cons (vs_if (qx_T (qeq hr (vv 1) vstr))
      (vss_one (vs_ret (vo_x (vxF (vcall (ok_is_cross T) (hr.mono (by decide)) T.g_is_cross T.F_is_cross.kp T.B_is_cross tk (van_cons (vslice_ (vv 0) (qo_some vint) qo_none) van_nil))))))
      qs_nil)
      (vss_one (vs_ret (vo_x (vxF (vand_ (veq_ hr (vv 1) vstr) (vone (vcall (ok_is_ramp T) (hr.mono (by decide)) T.g_is_ramp T.F_is_ramp.kp T.B_is_ramp tk (van_cons (vslice_ (vv 0) (qo_some vint) qo_none) van_nil))))))))))))))
theorem sc_check_piece : FnScope N_check_piece ["piece"] (defScope s_check_piece) := ⟨rfl, rfl, rfl, by decide +kernel, rfl, by decide +kernel, by decide +kernel⟩
theorem ok_check_piece (T : Txt K mg) : FnOk P w K mg base (L2.CX P w) 6 T.f_check_piece T.d_check_piece ["piece"] (spV K mg 1 m_check_piece) := by
  refine fn_frz (g := runB 1 g_check_piece) ?_
  refine fn_vl T.F_check_piece sc_check_piece rfl fun cdv A outer s H E hr => ?_
  have nd := sc_check_piece.nd
  have tk := takes_of (X := cxOf (L2.CX P w) P w K mg base N_check_piece "check_piece" (defScope s_check_piece) T.f_check_piece cdv A outer s H E) rfl rfl rfl rfl
  have hp := passes_of (X := cxOf (L2.CX P w) P w K mg base N_check_piece "check_piece" (defScope s_check_piece) T.f_check_piece cdv A outer s H E) rfl
  exact (vss_one (vs_if (qx_T (vt_not (qtruth (vcall (ok_is_piece T) (hr.mono (by decide)) T.g_is_piece T.F_is_piece.kp T.B_is_piece tk (van_cons (vv 0) van_nil)))))
      (vss_one (vs_raise rfl tk T.E_InvalidPiece))
      qs_nil))
theorem sc_law_cell : FnScope N_law_cell ["script", "k"] (defScope s_law_cell) := ⟨rfl, rfl, rfl, by decide +kernel, rfl, by decide +kernel, by decide +kernel⟩
theorem ok_law_cell (T : Txt K mg) : FnOk P w K mg base (L2.CX P w) 1 T.f__law_cell T.d__law_cell ["script", "k"] (spV K mg 2 m_law_cell) := by
  refine fn_frz (g := runB 2 g_law_cell) ?_
  refine fn_vl T.F__law_cell sc_law_cell rfl fun cdv A outer s H E hr => ?_
  have nd := sc_law_cell.nd
  have tk := takes_of (X := cxOf (L2.CX P w) P w K mg base N_law_cell "_law_cell" (defScope s_law_cell) T.f__law_cell cdv A outer s H E) rfl rfl rfl rfl
  have hp := passes_of (X := cxOf (L2.CX P w) P w K mg base N_law_cell "_law_cell" (defScope s_law_cell) T.f__law_cell cdv A outer s H E) rfl
  exact (qs_cons (vs_if (qx_T (qlt (vv 1) (vlen_ T.b_len (VAn.va (van_cons (vv 0) van_nil)))))
      (vss_one (vs_ret (vo_x (vxF (vint_ T.b_int (VAn.va (van_cons (vidx_ (vv 0) (vv 1)) van_nil)))))))
      qs_nil)
      (qs_t (envT_kill _ [0, 1]) (vss_one (vs_ret (vo_x (vxF vint))))))
theorem sc_law_numbers : FnScope N_law_numbers ["cell", "count", "limit"] (defScope s_law_numbers) := ⟨rfl, rfl, rfl, by decide +kernel, rfl, by decide +kernel, by decide +kernel⟩
theorem ok_law_numbers (T : Txt K mg) : FnOk P w K mg base (L2.CX P w) 1 T.f__law_numbers T.d__law_numbers ["cell", "count", "limit"] (spV K mg 3 m_law_numbers) := by
  refine fn_frz (g := runB 6 g_law_numbers) ?_
  refine fn_vl T.F__law_numbers sc_law_numbers rfl fun cdv A outer s H E hr => ?_
  have nd := sc_law_numbers.nd
  have tk := takes_of (X := cxOf (L2.CX P w) P w K mg base N_law_numbers "_law_numbers" (defScope s_law_numbers) T.f__law_numbers cdv A outer s H E) rfl rfl rfl rfl
  have hp := passes_of (X := cxOf (L2.CX P w) P w K mg base N_law_numbers "_law_numbers" (defScope s_law_numbers) T.f__law_numbers cdv A outer s H E) rfl
  exact (qs_cons (vs_set 3 nd (vo_frF (vlst_f van_nil)))
      (qs_cons (vs_if (qx_T (qge (vv 0) (vpow_ vint vint)))
      (qs_cons (vs_forK hp rfl (vix_range1 T.b_range (vxF (vv 1))) (vg 4 nd) (rs_kill _ [1]) (envT_kill _ [4])
      (qs_cons (vs_app 3 (fun p => pe_bm PySem.F.plainAttrs_list PySem.F.slot_list_append PySem.F.type_list_append mt_append (pv 3) (pa_cons p pa_nil)) (vo_x (vxF (vmod_ (vint_ T.b_int (VAn.va (van_cons (vv 0) van_nil))) (vv 2)))))
      (vss_one (vs_set 0 nd (vo_x (vxF (vfdiv_ (vint_ T.b_int (VAn.va (van_cons (vv 0) van_nil))) (vv 2))))))))
      (qs_t (envT_kill _ [0, 2, 4]) (qs_t (envT_freeze _ [3]) (vss_one (vs_ret (vo_x (vxF (vv 3))))))))
      qs_nil)
      (qs_cons (vs_forK hp rfl (vix_range1 T.b_range (vxF (vv 1))) (vg 4 nd) (rs_kill _ [1]) (envT_kill _ [4, 5])
      (qs_cons (vs_set 5 nd (vo_x (vxF (vmod_ (vint_ T.b_int (VAn.va (van_cons (vadd_ (vadd_ (vmul_ (vv 0) vint) (vmul_ (vv 4) vint)) vint) van_nil))) vint))))
      (qs_cons (vs_set 5 nd (vo_x (vxF (vmod_ (vint_ T.b_int (VAn.va (van_cons (vadd_ (vadd_ (vadd_ (vmul_ (vv 5) (vv 5)) (vmul_ (vv 5) vint)) (vmul_ (vv 4) vint)) vint) van_nil))) vint))))
      (vss_one (vs_app 3 (fun p => pe_bm PySem.F.plainAttrs_list PySem.F.slot_list_append PySem.F.type_list_append mt_append (pv 3) (pa_cons p pa_nil)) (vo_x (vxF (vmod_ (vint_ T.b_int (VAn.va (van_cons (vfdiv_ (vv 5) vint) van_nil))) (vv 2)))))))))
      (qs_t (envT_kill _ [0, 2, 4, 5]) (qs_t (envT_freeze _ [3]) (vss_one (vs_ret (vo_x (vxF (vv 3))))))))))
theorem sc_law_piece : FnScope N_law_piece ["draws", "at"] (defScope s_law_piece) := ⟨rfl, rfl, rfl, by decide +kernel, rfl, by decide +kernel, by decide +kernel⟩
theorem ok_law_piece (T : Txt K mg) : FnOk P w K mg base (L2.CX P w) 1 T.f__law_piece T.d__law_piece ["draws", "at"] (spV K mg 2 m_law_piece) := by
  refine fn_frz (g := runB 6 g_law_piece) ?_
  refine fn_vl T.F__law_piece sc_law_piece rfl fun cdv A outer s H E hr => ?_
  have nd := sc_law_piece.nd
  have tk := takes_of (X := cxOf (L2.CX P w) P w K mg base N_law_piece "_law_piece" (defScope s_law_piece) T.f__law_piece cdv A outer s H E) rfl rfl rfl rfl
  have hp := passes_of (X := cxOf (L2.CX P w) P w K mg base N_law_piece "_law_piece" (defScope s_law_piece) T.f__law_piece cdv A outer s H E) rfl
  exact (qs_cons (vs_set 2 nd (vo_x (vxF (vadd_ vint (vmod_ (vidx_ (vv 0) (vv 1)) vint)))))
      (qs_cons (vs_if (qx_T (qeq hr (vmod_ (vidx_ (vv 0) (vadd_ (vv 1) vint)) vint) vint))
      (vss_one (vs_set 2 nd (vo_x (vxF (vadd_ vint (vmod_ (vidx_ (vv 0) (vv 1)) vint))))))
      qs_nil)
      (qs_cons (vs_set 3 nd (vo_x (vxF (vidx_ (VFr.ve (vlst_f (van_cons vstr (van_cons vstr van_nil)))) (vmod_ (vidx_ (vv 0) (vadd_ (vv 1) vint)) vint)))))
      (qs_cons (vs_set 4 nd (vo_x (vxF (vadd_ vint (vmod_ (vidx_ (vv 0) (vadd_ (vv 1) vint)) vint)))))
      (qs_cons (vs_set 5 nd (vo_x (vxF (vmod_ (vidx_ (vv 0) (vadd_ (vv 1) vint)) vint))))
      (qs_cons (vs_if (qx_T (qlt (vv 5) vint))
      (vss_one (vs_ret (vo_x (vxF (vtup_ (van_cons vstr (van_cons (vv 2) van_nil)))))))
      qs_nil)
      (qs_cons (vs_if (qx_T (qlt (vv 5) vint))
      (vss_one (vs_ret (vo_x (vxF (vtup_ (van_cons vstr (van_cons (vv 4) (van_cons (vv 3) van_nil))))))))
      qs_nil)
      (qs_cons (vs_if (qx_T (qlt (vv 5) vint))
      (vss_one (vs_ret (vo_x (vxF (vtup_ (van_cons vstr (van_cons (vv 2) (van_cons (vv 4) (van_cons (vv 3) van_nil)))))))))
      qs_nil)
      (qs_t (envT_kill _ [3, 4]) (qs_cons (vs_if (qx_T (qeq hr (vv 5) vint))
      (vss_one (vs_ret (vo_x (vxF (vtup_ (van_cons vstr (van_cons (vmul_ vint (vadd_ vint (vfdiv_ (vv 2) vint))) (van_cons (vadd_ vint (vmod_ (vidx_ (vv 0) (vadd_ (vv 1) vint)) vint)) van_nil))))))))
      qs_nil)
      (qs_cons (vs_if (qx_T (qeq hr (vv 5) vint))
      (vss_one (vs_ret (vo_x (vxF (vtup_ (van_cons vstr (van_cons (vv 2) (van_cons (vidx_ (VFr.ve (vlst_f (van_cons vint (van_cons (vneg_ vint) (van_cons vint (van_cons (vneg_ vint) (van_cons vint (van_cons vint (van_cons (vneg_ vint) van_nil))))))))) (vmod_ (vidx_ (vv 0) (vadd_ (vv 1) vint)) vint)) van_nil))))))))
      qs_nil)
      (qs_t (envT_kill _ [0, 1]) (qs_cons (vs_if (qx_T (qeq hr (vv 5) vint))
      (vss_one (vs_ret (vo_x (vxF (vtup_ (van_cons vstr (van_cons (vv 2) van_nil)))))))
      qs_nil)
      (qs_t (envT_kill _ [5]) (vss_one (vs_ret (vo_x (vxF (vtup_ (van_cons vstr (van_cons (vv 2) van_nil)))))))))))))))))))))
theorem sc_law_is : FnScope N_law_is ["value", "low", "high"] (defScope s_law_is) := ⟨rfl, rfl, rfl, by decide +kernel, rfl, by decide +kernel, by decide +kernel⟩
theorem ok_law_is (T : Txt K mg) : FnOk P w K mg base (L2.CX P w) 1 T.f__law_is T.d__law_is ["value", "low", "high"] (spV K mg 3 m_law_is) := by
  refine fn_frz (g := runB 3 g_law_is) ?_
  refine fn_vl T.F__law_is sc_law_is rfl fun cdv A outer s H E hr => ?_
  have nd := sc_law_is.nd
  have tk := takes_of (X := cxOf (L2.CX P w) P w K mg base N_law_is "_law_is" (defScope s_law_is) T.f__law_is cdv A outer s H E) rfl rfl rfl rfl
  have hp := passes_of (X := cxOf (L2.CX P w) P w K mg base N_law_is "_law_is" (defScope s_law_is) T.f__law_is cdv A outer s H E) rfl
  exact (vss_one (vs_ret (vo_x (vxF (vand_ (visi_ ty_int T.b_isinstance T.b_int (by decide +kernel) (vv 0)) (vand_ (vnot_ (visi_ ty_bool T.b_isinstance T.b_bool (by decide +kernel) (vv 0))) (vand_ (vle_ (vv 1) (vv 0)) (vone (vle_ (vv 0) (vv 2))))))))))
theorem sc_law_is_piece : FnScope N_law_is_piece ["piece"] (defScope s_law_is_piece) := ⟨rfl, rfl, rfl, by decide +kernel, rfl, by decide +kernel, by decide +kernel⟩
theorem ok_law_is_piece (T : Txt K mg) : FnOk P w K mg base (L2.CX P w) 2 T.f__law_is_piece T.d__law_is_piece ["piece"] (spV K mg 1 m_law_is_piece) := by
  refine fn_frz (g := runB 2 g_law_is_piece) ?_
  refine fn_vl T.F__law_is_piece sc_law_is_piece rfl fun cdv A outer s H E hr => ?_
  have nd := sc_law_is_piece.nd
  have tk := takes_of (X := cxOf (L2.CX P w) P w K mg base N_law_is_piece "_law_is_piece" (defScope s_law_is_piece) T.f__law_is_piece cdv A outer s H E) rfl rfl rfl rfl
  have hp := passes_of (X := cxOf (L2.CX P w) P w K mg base N_law_is_piece "_law_is_piece" (defScope s_law_is_piece) T.f__law_is_piece cdv A outer s H E) rfl
  exact (qs_cons (vs_if (qx_T (VW.vt (vw_or (vt_not (qtruth (visi_ ty_tuple T.b_isinstance T.b_tuple (by decide +kernel) (vv 0)))) (vw_or (qeq hr (vlen_ T.b_len (VAn.va (van_cons (vv 0) van_nil))) vint) (vw_or1 (vt_not (qtruth (visi_ ty_str T.b_isinstance T.b_str (by decide +kernel) (vidx_ (vv 0) vint)))))))))
      (vss_one (vs_ret (vo_x (vxF vbool))))
      qs_nil)
      (qs_cons (vs_set 1 nd (vo_x (vxF (vslice_ (vv 0) (qo_some vint) qo_none))))
      (qs_cons (vs_if (qx_T (qin hr (vidx_ (vv 0) vint) (VFr.ve (vlst_f (van_cons vstr (van_cons vstr (van_cons vstr van_nil)))))))
      (vss_one (vs_ret (vo_x (vxF (vand_ (veq_ hr (vlen_ T.b_len (VAn.va (van_cons (vv 1) van_nil))) vint) (vone (vcall (ok_law_is T) (hr.mono (by decide)) T.g__law_is T.F__law_is.kp T.B__law_is tk (van_cons (vidx_ (vv 1) vint) (van_cons vint (van_cons vint van_nil))))))))))
      qs_nil)
      (qs_cons (vs_if (qx_T (qeq hr (vidx_ (vv 0) vint) vstr))
      (vss_one (vs_ret (vo_x (vxF (vand_ (veq_ hr (vlen_ T.b_len (VAn.va (van_cons (vv 1) van_nil))) vint) (vand_ (vcall (ok_law_is T) (hr.mono (by decide)) T.g__law_is T.F__law_is.kp T.B__law_is tk (van_cons (vidx_ (vv 1) vint) (van_cons vint (van_cons vint van_nil)))) (vone (win hr (vidx_ (vv 1) vint) (VFr.ve (vlst_f (van_cons vstr (van_cons vstr van_nil))))))))))))
      qs_nil)
      (qs_cons (vs_if (qx_T (qeq hr (vidx_ (vv 0) vint) vstr))
      (vss_one (vs_ret (vo_x (vxF (vand_ (veq_ hr (vlen_ T.b_len (VAn.va (van_cons (vv 1) van_nil))) vint) (vand_ (vcall (ok_law_is T) (hr.mono (by decide)) T.g__law_is T.F__law_is.kp T.B__law_is tk (van_cons (vidx_ (vv 1) vint) (van_cons vint (van_cons vint van_nil)))) (vand_ (vcall (ok_law_is T) (hr.mono (by decide)) T.g__law_is T.F__law_is.kp T.B__law_is tk (van_cons (vidx_ (vv 1) vint) (van_cons vint (van_cons vint van_nil)))) (vone (win hr (vidx_ (vv 1) vint) (VFr.ve (vlst_f (van_cons vstr (van_cons vstr van_nil)))))))))))))
      qs_nil)
      (qs_cons (vs_if (qx_T (qeq hr (vidx_ (vv 0) vint) vstr))
      (vss_one (vs_ret (vo_x (vxF (vand_ (veq_ hr (vlen_ T.b_len (VAn.va (van_cons (vv 1) van_nil))) vint) (vand_ (vcall (ok_law_is T) (hr.mono (by decide)) T.g__law_is T.F__law_is.kp T.B__law_is tk (van_cons (vidx_ (vv 1) vint) (van_cons vint (van_cons vint van_nil)))) (vand_ (veq_ hr (vmod_ (vidx_ (vv 1) vint) vint) vint) (vone (vcall (ok_law_is T) (hr.mono (by decide)) T.g__law_is T.F__law_is.kp T.B__law_is tk (van_cons (vidx_ (vv 1) vint) (van_cons vint (van_cons vint van_nil))))))))))))
      qs_nil)
      (vss_one (vs_ret (vo_x (vxF (vand_ (veq_ hr (vidx_ (vv 0) vint) vstr) (vand_ (veq_ hr (vlen_ T.b_len (VAn.va (van_cons (vv 1) van_nil))) vint) (vand_ (vcall (ok_law_is T) (hr.mono (by decide)) T.g__law_is T.F__law_is.kp T.B__law_is tk (van_cons (vidx_ (vv 1) vint) (van_cons vint (van_cons vint van_nil)))) (vand_ (vcall (ok_law_is T) (hr.mono (by decide)) T.g__law_is T.F__law_is.kp T.B__law_is tk (van_cons (vidx_ (vv 1) vint) (van_cons (vneg_ vint) (van_cons vint van_nil)))) (vone (vne_ hr (vidx_ (vv 1) vint) vint))))))))))))))))
theorem sc_law_others : FnScope N_law_others ["piece", "draws"] (defScope s_law_others) := ⟨rfl, rfl, rfl, by decide +kernel, rfl, by decide +kernel, by decide +kernel⟩
theorem ok_law_others (T : Txt K mg) : FnOk P w K mg base (L2.CX P w) 1 T.f__law_others T.d__law_others ["piece", "draws"] (spV K mg 2 m_law_others) := by
  refine fn_frz (g := runB 7 g_law_others) ?_
  refine fn_vl T.F__law_others sc_law_others rfl fun cdv A outer s H E hr => ?_
  have nd := sc_law_others.nd
  have tk := takes_of (X := cxOf (L2.CX P w) P w K mg base N_law_others "_law_others" (defScope s_law_others) T.f__law_others cdv A outer s H E) rfl rfl rfl rfl
  have hp := passes_of (X := cxOf (L2.CX P w) P w K mg base N_law_others "_law_others" (defScope s_law_others) T.f__law_others cdv A outer s H E) rfl
  exact (qs_cons (vs_set 2 nd (vo_x (vxF (vmod_ (vidx_ (vv 1) vint) (vlen_ T.b_len (VAn.va (van_cons (vv 0) van_nil)))))))
      (qs_cons (vs_set 3 nd (vo_x (vxF (VFr.ve (vlst_f (van_cons vint (van_cons vint (van_cons vint (van_cons vint (van_cons (vneg_ vint) (van_cons vbool (van_cons vbool (van_cons vstr (van_cons vstr (van_cons vstr (van_cons vstr (van_cons vnone (van_cons vstr (van_cons (vtup_ (van_cons vint van_nil)) (van_cons vint (van_cons vint (van_cons (vneg_ vint) (van_cons (vneg_ vint) (van_cons vint (van_cons vint (van_cons vint (van_cons (vidx_ (vv 1) vint) van_nil)))))))))))))))))))))))))))
      (qs_cons (vs_set 4 nd (vo_frF (vlst_f (van_cons (vv 0) (van_cons (vadd_ (vslice_ (vv 0) (qo_some vint) (qo_some (vv 2))) (vslice_ (vv 0) (qo_some (vadd_ (vv 2) vint)) qo_none)) (van_cons (vadd_ (vv 0) (vtup_ (van_cons (vidx_ (vv 0) (vv 2)) van_nil))) (van_cons (VFr.ve (vlist_f T.b_list (vv 0))) (van_cons (vslice_ (vv 0) (qo_some vint) qo_none) (van_cons (vidx_ (vv 0) vint) (van_cons (vtup_ (van_cons (vv 0) van_nil)) (van_cons (vtup_ van_nil) van_nil)))))))))))
      (qs_t (envT_kill _ [1]) (qs_cons (vs_forK hp rfl (qix_F (vi_seq (vv 3))) (vg 5 nd) (rs_kill _ [3]) (envT_kill _ [5])
      (qs_cons (vs_app 4 (fun p => pe_bm PySem.F.plainAttrs_list PySem.F.slot_list_append PySem.F.type_list_append mt_append (pv 4) (pa_cons p pa_nil)) (vo_x (vxF (vadd_ (vadd_ (vslice_ (vv 0) (qo_some vint) (qo_some (vv 2))) (vtup_ (van_cons (vv 5) van_nil))) (vslice_ (vv 0) (qo_some (vadd_ (vv 2) vint)) qo_none)))))
      (vss_one (vs_app 4 (fun p => pe_bm PySem.F.plainAttrs_list PySem.F.slot_list_append PySem.F.type_list_append mt_append (pv 4) (pa_cons p pa_nil)) (vo_x (vxF (vadd_ (vslice_ (vv 0) (qo_some vint) (qo_some (vsub_ (vlen_ T.b_len (VAn.va (van_cons (vv 0) van_nil))) vint))) (vtup_ (van_cons (vv 5) van_nil)))))))))
      (qs_t (envT_kill _ [2, 5]) (qs_cons (vs_for hp rfl (qix_F (vi_seq (VFr.ve (vlst_f (van_cons vstr (van_cons vstr (van_cons vstr (van_cons vstr (van_cons vstr (van_cons vstr (van_cons vstr (van_cons vstr (van_cons vstr van_nil))))))))))))) (vg 6 nd) (envT_kill _ [6])
      (vss_one (vs_app 4 (fun p => pe_bm PySem.F.plainAttrs_list PySem.F.slot_list_append PySem.F.type_list_append mt_append (pv 4) (pa_cons p pa_nil)) (vo_x (vxF (vadd_ (vtup_ (van_cons (vv 6) van_nil)) (vslice_ (vv 0) (qo_some vint) qo_none)))))))
      (qs_t (envT_kill _ [0, 6]) (qs_t (envT_freeze _ [4]) (vss_one (vs_ret (vo_x (vxF (vadd_ (vv 4) (VFr.ve (vlst_f (van_cons vnone (van_cons vint (van_cons vstr (van_cons (VFr.ve (vlst_f (van_cons vstr (van_cons vint van_nil)))) (van_cons (vtup_ (van_cons vstr (van_cons vstr van_nil))) van_nil)))))))))))))))))))))
theorem sc_law : FnScope N_law ["script"] (defScope s_law) := ⟨rfl, rfl, rfl, by decide +kernel, rfl, by decide +kernel, by decide +kernel⟩
theorem ok_law (T : Txt K mg) : FnOk P w K mg base (L2.CX P w) 7 T.f_law T.d_law ["script"] (spV K mg 1 m_law) := by
  refine fn_frz (g := runB 8 g_law) ?_
  refine fn_vl T.F_law sc_law rfl fun cdv A outer s H E hr => ?_
  have nd := sc_law.nd
  have tk := takes_of (X := cxOf (L2.CX P w) P w K mg base N_law "law" (defScope s_law) T.f_law cdv A outer s H E) rfl rfl rfl rfl
  have hp := passes_of (X := cxOf (L2.CX P w) P w K mg base N_law "law" (defScope s_law) T.f_law cdv A outer s H E) rfl
  exact (qs_cons (vs_for hp rfl (vix_range1 T.b_range (vxF vint)) (vg 1 nd) (envT_kill _ [1, 2, 3, 4, 5, 6])
      (qs_cons (vs_set 2 nd (vo_x (vxF (vcall (ok_law_numbers T) (hr.mono (by decide)) T.g__law_numbers T.F__law_numbers.kp T.B__law_numbers tk (van_cons (vcall (ok_law_cell T) (hr.mono (by decide)) T.g__law_cell T.F__law_cell.kp T.B__law_cell tk (van_cons (vv 0) (van_cons (vv 1) van_nil))) (van_cons vint (van_cons vint van_nil)))))))
      (qs_cons (vs_set 3 nd (vo_x (vxF (vcall (ok_law_piece T) (hr.mono (by decide)) T.g__law_piece T.F__law_piece.kp T.B__law_piece tk (van_cons (vv 2) (van_cons vint van_nil))))))
      (qs_t (envT_kill _ [1]) (vss_one (vs_forK hp rfl (qix_F (vi_seq (vcall (ok_law_others T) (hr.mono (by decide)) T.g__law_others T.F__law_others.kp T.B__law_others tk (van_cons (vv 3) (van_cons (vslice_ (vv 2) (qo_some vint) (qo_some vint)) van_nil))))) (vg 4 nd) (rs_kill _ [2, 3]) (envT_kill _ [4, 5, 6])
      (qs_cons (vs_set 5 nd (vo_x (vxF (vcall (ok_law_is_piece T) (hr.mono (by decide)) T.g__law_is_piece T.F__law_is_piece.kp T.B__law_is_piece tk (van_cons (vv 4) van_nil)))))
      (vss_one (vs_tryAs 7 rfl rfl nd tk T.h_InvalidPiece (fun W2 pn2 xe2 tk hp => (qs_cons (vs_set 6 nd (vo_x (vxF (vcall (ok_check_piece T) (hr.mono (by decide)) T.g_check_piece T.F_check_piece.kp T.B_check_piece tk (van_cons (vv 4) van_nil)))))
      (vss_one (vs_if (qx_T (VW.vt (vw_or (qnotnone (vv 6)) (vw_or1 (vt_not (qtruth (vv 5)))))))
      (vss_one (vs_ret (vo_x (vxF vbool))))
      qs_nil))))
      (fun a oe cn C pn hmc hz hfd => (vss_one (vs_if (qx_T (VW.vt (vw_or (qtruth (vv 5)) (vw_or (vt_not (qtruth (visE_own 7 hmc hz hfd T.i_TrackError T.E_TrackError.gF T.b_isinstance (vv 7)))) (vw_or (vt_not (qtruth (visE_blt 7 hmc hz hfd T.i_ValueError T.b_ValueError (by decide +kernel) T.b_isinstance (vv 7)))) (vw_or1 (qtruth (visE_own 7 hmc hz hfd T.i_InvalidJoint T.E_InvalidJoint.gF T.b_isinstance (vv 7)))))))))
      (vss_one (vs_ret (vo_x (vxF vbool))))
      qs_nil))))))))))))
      (qs_t (envT_kill _ [0, 4, 5, 6]) (vss_one (vs_ret (vo_x (vxF vbool))))))
end
end LW
namespace LW
open PySem PySem.Spec PyProof.Rows VL
theorem cell_eq (ns : List Int) (k : Nat) : m_law_cell [.list (ns.map .int), .int k] = .ok (.int (ns.getD k 0)) := by
  rw [r_law_cell]
  by_cases h1 : k < ns.length
  · have e : (ns.map PyData.int)[k]? = some (.int ns[k]) := by simp [h1]
    simp [g_law_cell, h1, vidx_list e]
  · simp [g_law_cell, h1]
/-- what the drawn numbers are -/
def Drawn (n : Nat) (lim : Int) (ds : List Int) : Prop := ds.length = n ∧ ∀ d ∈ ds, 0 ≤ d ∧ d < lim
theorem Drawn.snoc {n : Nat} {lim d : Int} {ds : List Int} (h : Drawn n lim ds) (h0 : 0 ≤ d) (h1 : d < lim) : Drawn (n + 1) lim (ds ++ [d]) :=
  ⟨by rw [List.length_append, h.1]; rfl, fun x hx => by
    rcases List.mem_append.mp hx with q | q
    · exact h.2 x q
    · rw [List.mem_singleton.mp q]; exact ⟨h0, h1⟩⟩
theorem Drawn.get {n : Nat} {lim : Int} {ds : List Int} (h : Drawn n lim ds) {i : Nat} (hi : i < n) : ∃ d, (ds.map PyData.int)[i]? = some (.int d) ∧ 0 ≤ d ∧ d < lim := by
  have hl : i < ds.length := by rw [h.1]; exact hi
  exact ⟨ds[i], by simp [hl], h.2 _ (List.getElem_mem hl)⟩
theorem numbers_ok (c : Int) (n : Nat) (lim : Int) (hn : n ≤ 100000) (h0 : 0 < lim) (h1 : lim < 2 ^ 250) : ∃ ds, Drawn n lim ds ∧ m_law_numbers [.int c, .int n, .int lim] = .ok (.list (ds.map .int)) := by
  have hn' : n ≤ 16777216 := by omega
  rw [r_law_numbers]
  by_cases hb : c ≥ 10 ^ 18
  · have hb' : 1000000000000000000 ≤ c := by omega
    obtain ⟨ρ', e1, c', ds, e2, hd⟩ := forL_nx (kt := gN 4) (kl := kill [4]) (gb := b_law_numbers_1) (fun i ρ => ∃ (c' : Int) (ds : List Int), ρ = [some (.fz (.int c')), none, some (.fz (.int lim)), some (.lst (ds.map fun d => .fz (.int d))), none, none] ∧ Drawn i lim ds)
      (rangeD 0 n) 0 [some (.fz (.int c)), none, some (.fz (.int lim)), some (.lst []), none, none] ⟨c, [], rfl, rfl, fun _ h => nomatch h⟩ (fun i d ρ hd ⟨c', ds, e, h⟩ => by
        obtain ⟨hi, rfl⟩ := rangeD_get hd
        subst e
        have hl : ds.length < 16777216 := by rw [h.1]; omega
        have m1 : vfdiv (.int c') (.int lim) = .ok (.int (c' / lim)) := if_pos ⟨h0, h1⟩
        refine ⟨_, _, gN_ap _ _, .inl (by simp [b_law_numbers_1, sApp, h0, -vfdiv_int, m1, szL, hl]; rfl), c' / lim, ds ++ [c' % lim], by simp, ?_⟩
        exact h.snoc (Int.emod_nonneg _ (by omega)) (Int.emod_lt_of_pos _ h0))
    refine ⟨ds, by rw [Nat.zero_add, rangeD_len] at hd; exact hd, ?_⟩
    subst e2
    simp [g_law_numbers, vrange1_nat hn', hb', e1, freezeAt]
  · have hb' : ¬ 1000000000000000000 ≤ c := by omega
    obtain ⟨ρ', e1, c', ds, e2, hd⟩ := forL_nx (kt := gN 4) (kl := kill [4, 5]) (gb := b_law_numbers_2) (fun i ρ => ∃ (c' : Int) (ds : List Int), ρ = [some (.fz (.int c)), none, some (.fz (.int lim)), some (.lst (ds.map fun d => .fz (.int d))), none, none] ∧ Drawn i lim ds)
      (rangeD 0 n) 0 [some (.fz (.int c)), none, some (.fz (.int lim)), some (.lst []), none, none] ⟨c, [], rfl, rfl, fun _ h => nomatch h⟩ (fun i d ρ hd ⟨c', ds, e, h⟩ => by
        obtain ⟨hi, rfl⟩ := rangeD_get hd
        subst e
        have hl : ds.length < 16777216 := by rw [h.1]; omega
        have m1 : vmul (.int c) (.int 48271) = .ok (.int (c * 48271)) := vmul_r .lit
        have m2 : vmul (.int (i : Int)) (.int 69621) = .ok (.int (i * 69621)) := vmul_r .lit
        have m3 : vmul (.int (i : Int)) (.int 16807) = .ok (.int (i * 16807)) := vmul_r .lit
        have m4 : ∀ x, vmul (.int (x % 2147483647)) (.int 40692) = .ok (.int (x % 2147483647 * 40692)) := fun x => vmul_r .lit
        have m5 : ∀ x, vmul (.int (x % 2147483647)) (.int (x % 2147483647)) = .ok (.int (x % 2147483647 * (x % 2147483647))) := fun x => vmul_r (sm_of (by
          have a1 := Int.emod_nonneg x (b := 2147483647) (by omega)
          have a2 := Int.emod_lt_of_pos x (b := 2147483647) (by omega)
          omega))
        refine ⟨_, _, gN_ap _ _, .inl (by simp [b_law_numbers_2, sApp, h0, h1, szL, hl, m1, m2, m3, m4, m5]; rfl), 0, ds ++ [_], by simp; rfl, ?_⟩
        exact h.snoc (Int.emod_nonneg _ (by omega)) (Int.emod_lt_of_pos _ h0))
    refine ⟨ds, by rw [Nat.zero_add, rangeD_len] at hd; exact hd, ?_⟩
    subst e2
    simp [g_law_numbers, vrange1_nat hn', hb', e1, freezeAt]

def isN (lo hi : Int) : PyData → Bool
  | .int n => decide (lo ≤ n) && decide (n ≤ hi)
  | _ => false
def isW : PyData → Bool
  | .int _ => true
  | _ => false
def sideB (d : PyData) : Bool := PyData.eqv (.str "left") d || PyData.eqv (.str "right") d
theorem whole_eq {n : Nat} {d : PyData} (h : okS n d) : m_is_whole [d] = .ok (.bool (isW d)) := by
  rw [r_is_whole]
  cases d <;> first | (simp [g_is_whole, isW]; done) | (cases n <;> exact h.elim)
theorem length_eq {n : Nat} {d : PyData} (h : okS n d) : m_is_length [d] = .ok (.bool (isN 1 9999 d)) := by
  rw [r_is_length]
  have w := whole_eq h
  cases d with
  | int k =>
    by_cases h1 : 1 ≤ k
    · simp [g_is_length, w, isW, isN, h1]
    · simp [g_is_length, w, isW, isN, h1]
  | dict _ => cases n <;> exact h.elim
  | _ => simp [g_is_length, w, isW, isN]
theorem law_is_eq {n : Nat} {d : PyData} (h : okS n d) (lo hi : Int) : m_law_is [d, .int lo, .int hi] = .ok (.bool (isN lo hi d)) := by
  rw [r_law_is]
  cases d with
  | int k =>
    by_cases h1 : lo ≤ k
    · simp [g_law_is, isN, h1]
    · simp [g_law_is, isN, h1]
  | dict _ => cases n <;> exact h.elim
  | _ => simp [g_law_is, isN]
def riseB : PyData → Bool
  | .int n => decide (n ≠ 0) && (decide (-99 ≤ n) && decide (n ≤ 99))
  | _ => false
theorem rise_eq {n : Nat} {d : PyData} (h : okS n d) : m_is_rise [d] = .ok (.bool (riseB d)) := by
  rw [r_is_rise]
  have w := whole_eq h
  cases d with
  | int k =>
    by_cases h0 : k = 0
    · subst h0; simp [g_is_rise, w, isW, riseB]
    · by_cases h1 : -99 ≤ k
      · simp [g_is_rise, w, isW, riseB, h0, h1]
      · simp [g_is_rise, w, isW, riseB, h0, h1]
  | dict _ => cases n <;> exact h.elim
  | _ => simp [g_is_rise, w, isW, riseB]
theorem side_inT {n : Nat} {d : PyData} (h : okS n d) (hn : n ≤ 64) : vInT d (.tuple [.str "left", .str "right"]) = .ok (.bool (sideB d)) := by
  rw [vInT_ok h (n := 3) (by simp [okS]) hn]
  simp [sideB]
theorem side_in {n : Nat} {d : PyData} (h : okS n d) (hn : n ≤ 64) : vIn d (.list [.str "left", .str "right"]) = .ok (.bool (sideB d)) := by
  rw [vIn_ok h (n := 3) (by simp [okS]) hn]
  simp [sideB]
def AllOk (r : List PyData) : Prop := ∀ x ∈ r, okS 8 x
def curveB : List PyData → Bool
  | [a, b] => isN 1 9999 a && sideB b
  | _ => false
def plainB : List PyData → Bool
  | [a] => isN 1 9999 a
  | _ => false
def pointsB : List PyData → Bool
  | [a, b, c] => isN 1 9999 a && (isN 1 9999 b && sideB c)
  | _ => false
def evB : PyData → Bool
  | .int n => decide (n % 2 = 0)
  | _ => false
def crossB : List PyData → Bool
  | [a, b] => isN 1 9999 a && (evB a && isN 1 3 b)
  | _ => false
def rampB : List PyData → Bool
  | [a, b] => isN 1 9999 a && riseB b
  | _ => false
theorem curve_eq {r : List PyData} (h : AllOk r) : m_is_curve [.tuple r] = .ok (.bool (curveB r)) := by
  rw [r_is_curve]
  match r, h with
  | [], _ => simp [g_is_curve, curveB]
  | [a], _ => simp [g_is_curve, curveB]
  | [a, b], h =>
    have h1 := length_eq (h a (by simp))
    have h2 := side_inT (h b (by simp)) (by omega)
    cases hl : isN 1 9999 a <;> simp [g_is_curve, curveB, h1, h2, hl]
  | a :: b :: c :: r, _ =>
    have : ¬ ((r.length : Int) + 1 + 1 + 1 = 2) := by omega
    simp [g_is_curve, curveB, this]
theorem plain_eq {r : List PyData} (h : AllOk r) : m_is_plain [.tuple r] = .ok (.bool (plainB r)) := by
  rw [r_is_plain]
  match r, h with
  | [], _ => simp [g_is_plain, plainB]
  | [a], h => simp [g_is_plain, plainB, length_eq (h a (by simp))]
  | a :: b :: r, _ =>
    have : ¬ ((r.length : Int) + 1 + 1 = 1) := by omega
    simp [g_is_plain, plainB, this]
theorem points_eq {r : List PyData} (h : AllOk r) : m_is_points [.tuple r] = .ok (.bool (pointsB r)) := by
  rw [r_is_points]
  match r, h with
  | [], _ => simp [g_is_points, pointsB]
  | [a], _ => simp [g_is_points, pointsB]
  | [a, b], _ => simp [g_is_points, pointsB]
  | [a, b, c], h =>
    have h1 := length_eq (h a (by simp))
    have h2 := curve_eq (r := [b, c]) fun x hx => h x (List.mem_cons_of_mem _ hx)
    cases hl : isN 1 9999 a <;> simp [g_is_points, pointsB, h1, h2, hl, curveB]
  | a :: b :: c :: d :: r, _ =>
    have : ¬ ((r.length : Int) + 1 + 1 + 1 + 1 = 3) := by omega
    simp [g_is_points, pointsB, this]
theorem cross_eq {r : List PyData} (h : AllOk r) : m_is_cross [.tuple r] = .ok (.bool (crossB r)) := by
  rw [r_is_cross]
  match r, h with
  | [], _ => simp [g_is_cross, crossB]
  | [a], _ => simp [g_is_cross, crossB]
  | [a, b], h =>
    have h1 := length_eq (h a (by simp))
    have h2 := whole_eq (h b (by simp))
    cases hl : isN 1 9999 a with
    | false => simp [g_is_cross, crossB, h1, h2, hl]
    | true =>
      cases a <;> first | (cases hl; done) | skip
      rename_i n
      rw [hl] at h1
      cases b with
      | int m =>
        have e3 : isN 1 3 (.int m) = (decide (1 ≤ m) && decide (m ≤ 3)) := rfl
        by_cases he : n % 2 = 0
        · by_cases hm : 1 ≤ m
          · simp [g_is_cross, crossB, h1, h2, hl, isW, evB, he, e3, hm]
          · simp [g_is_cross, crossB, h1, h2, hl, isW, evB, he, e3, hm]
        · simp [g_is_cross, crossB, h1, h2, hl, isW, evB, he]
      | _ =>
        have e3 := rfl (a := isN 1 3)
        simp [g_is_cross, crossB, h1, h2, hl, isW, show ∀ k, isN 1 3 (.str k) = false from fun _ => rfl, show ∀ k, isN 1 3 (.bool k) = false from fun _ => rfl, show isN 1 3 .none = false from rfl, show ∀ k, isN 1 3 (.list k) = false from fun _ => rfl, show ∀ k, isN 1 3 (.tuple k) = false from fun _ => rfl, show ∀ k, isN 1 3 (.dict k) = false from fun _ => rfl]
  | a :: b :: c :: r, _ =>
    have : ¬ ((r.length : Int) + 1 + 1 + 1 = 2) := by omega
    simp [g_is_cross, crossB, this]
theorem ramp_eq {r : List PyData} (h : AllOk r) : m_is_ramp [.tuple r] = .ok (.bool (rampB r)) := by
  rw [r_is_ramp]
  match r, h with
  | [], _ => simp [g_is_ramp, rampB]
  | [a], _ => simp [g_is_ramp, rampB]
  | [a, b], h =>
    have h1 := length_eq (h a (by simp))
    have h2 := rise_eq (h b (by simp))
    cases hl : isN 1 9999 a <;> simp [g_is_ramp, rampB, h1, h2, hl]
  | a :: b :: c :: r, _ =>
    have : ¬ ((r.length : Int) + 1 + 1 + 1 = 2) := by omega
    simp [g_is_ramp, rampB, this]
/-- what a piece is -/
def bodyB (s : Str) (r : List PyData) : Bool :=
  if s = "straight" ∨ s = "gap" ∨ s = "stop" then plainB r else if s = "curve" then curveB r else if s = "points" then pointsB r else if s = "cross" then crossB r else if s = "ramp" then rampB r else false
def pieceB : PyData → Bool
  | .tuple (.str s :: r) => bodyB s r
  | _ => false
theorem eqv_str (s t : Str) : PyData.eqv (.str s) (.str t) = decide (s = t) := by simp [PyData.eqv, Bool.beq_eq_decide_eq]
theorem three_okS : okS 3 (.tuple [.str "straight", .str "gap", .str "stop"]) ∧ okS 3 (.list [.str "straight", .str "gap", .str "stop"]) := by simp [okS]
theorem piece_eq {d : PyData} (h : okS 9 d) : m_is_piece [d] = .ok (.bool (pieceB d)) := by
  rw [r_is_piece]
  cases d with
  | dict _ => exact h.elim
  | tuple xs =>
    cases xs with
    | nil => simp [g_is_piece, pieceB]
    | cons w r =>
      have hw : okS 8 w := h.2 w List.mem_cons_self
      have hr : AllOk r := fun x hx => h.2 x (List.mem_cons_of_mem _ hx)
      have hl : ¬ ((r.length : Int) + 1 = 0) := by omega
      have i3 := vInT_ok hw three_okS.1
      have q1 := plain_eq hr
      have q2 := curve_eq hr
      have q3 := points_eq hr
      have q4 := cross_eq hr
      have q5 := ramp_eq hr
      cases w with
      | str s =>
        have hs : PyData.strOk s = true := hw
        simp only [List.any_cons, List.any_nil, eqv_str, Bool.or_false] at i3
        by_cases h1 : s = "straight" ∨ s = "gap" ∨ s = "stop"
        · have e : (decide (("straight" : Str) = s) || (decide (("gap" : Str) = s) || decide (("stop" : Str) = s))) = true := by
            rcases h1 with h | h | h <;> simp [h]
          rw [e] at i3
          simp [g_is_piece, pieceB, bodyB, hl, i3, h1, q1]
        · have e : (decide (("straight" : Str) = s) || (decide (("gap" : Str) = s) || decide (("stop" : Str) = s))) = false := by
            simp only [not_or] at h1
            simp [Ne.symm h1.1, Ne.symm h1.2.1, Ne.symm h1.2.2]
          rw [e] at i3
          by_cases h2 : s = "curve"
          · subst h2; simp [g_is_piece, pieceB, bodyB, hl, i3, q2]
          · by_cases h3 : s = "points"
            · subst h3; simp [g_is_piece, pieceB, bodyB, hl, i3, q3]
            · by_cases h4 : s = "cross"
              · subst h4; simp [g_is_piece, pieceB, bodyB, hl, i3, q4]
              · by_cases h5 : s = "ramp"
                · subst h5; simp [g_is_piece, pieceB, bodyB, hl, i3, q5]
                · simp [g_is_piece, pieceB, bodyB, hl, i3, hs, h1, h2, h3, h4, h5]
      | dict _ => exact hw.elim
      | _ =>
        have c : ∀ t : Str, PyData.strOk t = true → veq _ (.str t) = .ok (.bool false) := fun t ht => by
          rw [veq_ok hw (show okS 1 (.str t) from ht)]
          simp [PyData.eqv]
        have c1 := c "curve" (by simp)
        have c2 := c "points" (by simp)
        have c3 := c "cross" (by simp)
        have c4 := c "ramp" (by simp)
        simp [PyData.eqv] at i3
        simp [g_is_piece, pieceB, hl, i3, c1, c2, c3, c4]
  | _ => simp [g_is_piece, pieceB]
theorem law_piece_eq {d : PyData} (h : okS 9 d) : m_law_is_piece [d] = .ok (.bool (pieceB d)) := by
  rw [r_law_is_piece]
  cases d with
  | dict _ => exact h.elim
  | tuple xs =>
    cases xs with
    | nil => simp [g_law_is_piece, pieceB]
    | cons w r =>
      have hw : okS 8 w := h.2 w List.mem_cons_self
      have hr : AllOk r := fun x hx => h.2 x (List.mem_cons_of_mem _ hx)
      have hl : ¬ ((r.length : Int) + 1 = 0) := by omega
      cases w with
      | str s =>
        have i3 := vIn_ok hw three_okS.2
        have hs : PyData.strOk s = true := hw
        simp only [List.any_cons, List.any_nil, eqv_str, Bool.or_false] at i3
        have q : ∀ (k : Nat) (x : PyData), r[k]? = some x → vidx (.tuple r) (.int (k : Int)) = .ok x := fun k x hx => vidx_tuple hx
        by_cases h1 : s = "straight" ∨ s = "gap" ∨ s = "stop"
        · have e : (decide (("straight" : Str) = s) || (decide (("gap" : Str) = s) || decide (("stop" : Str) = s))) = true := by
            rcases h1 with h | h | h <;> simp [h]
          rw [e] at i3
          match r, hr with
          | [], _ => simp [g_law_is_piece, pieceB, bodyB, i3, h1, plainB]
          | [a], hr => simp [g_law_is_piece, pieceB, bodyB, i3, h1, plainB, law_is_eq (hr a (by simp))]
          | a :: b :: r, _ =>
            have : ¬ ((r.length : Int) + 1 + 1 = 1) := by omega
            have : ¬ ((r.length : Int) + 1 + 1 + 1 = 0) := by omega
            simp [g_law_is_piece, pieceB, bodyB, i3, h1, plainB, *]
        · have e : (decide (("straight" : Str) = s) || (decide (("gap" : Str) = s) || decide (("stop" : Str) = s))) = false := by
            simp only [not_or] at h1
            simp [Ne.symm h1.1, Ne.symm h1.2.1, Ne.symm h1.2.2]
          rw [e] at i3
          by_cases h2 : s = "curve"
          · subst h2
            match r, hr with
            | [], _ => simp [g_law_is_piece, pieceB, bodyB, i3, curveB]
            | [a], _ => simp [g_law_is_piece, pieceB, bodyB, i3, curveB]
            | [a, b], hr =>
              have k1 := law_is_eq (hr a (by simp))
              have k2 := side_in (hr b (by simp)) (by omega)
              cases hA : isN 1 9999 a <;> simp [g_law_is_piece, pieceB, bodyB, i3, curveB, k1, k2, hA]
            | a :: b :: c :: r, _ =>
              have z1 : ¬ ((r.length : Int) + 1 + 1 + 1 = 2) := by omega
              have z2 : ¬ ((r.length : Int) + 1 + 1 + 1 + 1 = 0) := by omega
              simp [g_law_is_piece, pieceB, bodyB, i3, curveB, z1, z2]
          · by_cases h3 : s = "points"
            · subst h3
              match r, hr with
              | [], _ => simp [g_law_is_piece, pieceB, bodyB, i3, pointsB]
              | [a], _ => simp [g_law_is_piece, pieceB, bodyB, i3, pointsB]
              | [a, b], _ => simp [g_law_is_piece, pieceB, bodyB, i3, pointsB]
              | [a, b, c], hr =>
                have k1 := law_is_eq (hr a (by simp))
                have k2 := law_is_eq (hr b (by simp))
                have k3 := side_in (hr c (by simp)) (by omega)
                cases hA : isN 1 9999 a <;> cases hB : isN 1 9999 b <;> simp [g_law_is_piece, pieceB, bodyB, i3, pointsB, k1, k2, k3, hA, hB]
              | a :: b :: c :: e :: r, _ =>
                have z1 : ¬ ((r.length : Int) + 1 + 1 + 1 + 1 = 3) := by omega
                have z2 : ¬ ((r.length : Int) + 1 + 1 + 1 + 1 + 1 = 0) := by omega
                simp [g_law_is_piece, pieceB, bodyB, i3, pointsB, z1, z2]
            · by_cases h4 : s = "cross"
              · subst h4
                match r, hr with
                | [], _ => simp [g_law_is_piece, pieceB, bodyB, i3, crossB]
                | [a], _ => simp [g_law_is_piece, pieceB, bodyB, i3, crossB]
                | [a, b], hr =>
                  have k1 := law_is_eq (hr a (by simp))
                  have k2 := law_is_eq (hr b (by simp))
                  cases hA : isN 1 9999 a with
                  | false => simp [g_law_is_piece, pieceB, bodyB, i3, crossB, k1, k2, hA]
                  | true =>
                    cases a <;> first | (cases hA; done) | skip
                    rename_i n
                    by_cases he : n % 2 = 0
                    · simp [g_law_is_piece, pieceB, bodyB, i3, crossB, k1, k2, hA, evB, he]
                    · simp [g_law_is_piece, pieceB, bodyB, i3, crossB, k1, k2, hA, evB, he]
                | a :: b :: c :: r, _ =>
                  have z1 : ¬ ((r.length : Int) + 1 + 1 + 1 = 2) := by omega
                  have z2 : ¬ ((r.length : Int) + 1 + 1 + 1 + 1 = 0) := by omega
                  simp [g_law_is_piece, pieceB, bodyB, i3, crossB, z1, z2]
              · by_cases h5 : s = "ramp"
                · subst h5
                  match r, hr with
                  | [], _ => simp [g_law_is_piece, pieceB, bodyB, i3, rampB]
                  | [a], _ => simp [g_law_is_piece, pieceB, bodyB, i3, rampB]
                  | [a, b], hr =>
                    have k1 := law_is_eq (hr a (by simp))
                    have k2 := law_is_eq (hr b (by simp))
                    cases hA : isN 1 9999 a with
                    | false => simp [g_law_is_piece, pieceB, bodyB, i3, rampB, k1, k2, hA]
                    | true =>
                      cases b with
                      | int m =>
                        by_cases z1 : -99 ≤ m
                        · by_cases z2 : m ≤ 99
                          · by_cases z3 : m = 0
                            · subst z3; simp [g_law_is_piece, pieceB, bodyB, i3, rampB, k1, k2, hA, isN, riseB]
                            · simp [g_law_is_piece, pieceB, bodyB, i3, rampB, k1, k2, hA, show isN (-99) 99 (.int m) = true by simp [isN, z1, z2], riseB, z1, z2, z3]
                          · simp [g_law_is_piece, pieceB, bodyB, i3, rampB, k1, k2, hA, show isN (-99) 99 (.int m) = false by simp [isN, z2], riseB, z2]
                        · simp [g_law_is_piece, pieceB, bodyB, i3, rampB, k1, k2, hA, show isN (-99) 99 (.int m) = false by simp [isN, z1], riseB, z1]
                      | _ => simp [g_law_is_piece, pieceB, bodyB, i3, rampB, k1, k2, hA, isN, riseB]
                  | a :: b :: c :: r, _ =>
                    have z1 : ¬ ((r.length : Int) + 1 + 1 + 1 = 2) := by omega
                    have z2 : ¬ ((r.length : Int) + 1 + 1 + 1 + 1 = 0) := by omega
                    simp [g_law_is_piece, pieceB, bodyB, i3, rampB, z1, z2]
                · simp [g_law_is_piece, pieceB, bodyB, hl, i3, hs, h1, h2, h3, h4, h5]
      | dict _ => exact hw.elim
      | _ => simp [g_law_is_piece, pieceB, hl]
  | _ => simp [g_law_is_piece, pieceB]
theorem check_eq {d : PyData} (h : okS 9 d) : m_check_piece [d] = if pieceB d then .ok .none else .err "InvalidPiece" := by
  rw [r_check_piece]
  have e := piece_eq h
  cases hp : pieceB d <;> (rw [hp] at e; simp [g_check_piece, e])
theorem pick7 (x : Int) (P : PyData → Prop) {a b c d e f g : PyData} (ha : P a) (hb : P b) (hc : P c) (hd : P d) (he : P e) (hf : P f) (hg : P g) : ∃ z, P z ∧ vidx (.list [a, b, c, d, e, f, g]) (.int (x % 7)) = .ok z := by
  have h1 := Int.emod_nonneg x (b := 7) (by omega)
  have h2 := Int.emod_lt_of_pos x (b := 7) (by omega)
  generalize x % 7 = y at h1 h2
  obtain rfl | rfl | rfl | rfl | rfl | rfl | rfl : y = 0 ∨ y = 1 ∨ y = 2 ∨ y = 3 ∨ y = 4 ∨ y = 5 ∨ y = 6 := by omega
  · exact ⟨a, ha, by simp⟩
  · exact ⟨b, hb, by simp⟩
  · exact ⟨c, hc, by simp⟩
  · exact ⟨d, hd, by simp⟩
  · exact ⟨e, he, by simp⟩
  · exact ⟨f, hf, vidx_list (k := 5) rfl⟩
  · exact ⟨g, hg, vidx_list (k := 6) rfl⟩
theorem pick2 (x : Int) (P : PyData → Prop) {a b : PyData} (ha : P a) (hb : P b) : ∃ z, P z ∧ vidx (.list [a, b]) (.int (x % 2)) = .ok z := by
  have h1 := Int.emod_nonneg x (b := 2) (by omega)
  have h2 := Int.emod_lt_of_pos x (b := 2) (by omega)
  generalize x % 2 = y at h1 h2
  obtain rfl | rfl : y = 0 ∨ y = 1 := by omega
  · exact ⟨a, ha, by simp⟩
  · exact ⟨b, hb, by simp⟩
/-- a tuple of one to five flat items -/
def Tup (d : PyData) : Prop := ∃ xs : List PyData, d = .tuple xs ∧ 0 < xs.length ∧ xs.length ≤ 4 ∧ ∀ x ∈ xs, okS 3 x
theorem law_piece_ok {ds : List Int} (hd : Drawn 8 5040 ds) : ∃ d, m_law_piece [.list (ds.map .int), .int 0] = .ok d ∧ Tup d := by
  rw [r_law_piece]
  match ds, hd.1, hd.2 with
  | [d0, d1, d2, d3, d4, d5, d6, d7], _, hb =>
    obtain ⟨sd, ⟨s, rfl, hs⟩, es⟩ := pick2 d2 (fun z => ∃ s : Str, z = .str s ∧ PyData.strOk s = true) (a := .str "left") (b := .str "right") ⟨_, rfl, by simp⟩ ⟨_, rfl, by simp⟩
    obtain ⟨rs, ⟨r, rfl⟩, er⟩ := pick7 d2 (fun z => ∃ r : Int, z = .int r) (a := .int 1) (b := .int (-1)) (c := .int 2) (d := .int (-2)) (e := .int 5) (f := .int 99) (g := .int (-99)) ⟨_, rfl⟩ ⟨_, rfl⟩ ⟨_, rfl⟩ ⟨_, rfl⟩ ⟨_, rfl⟩ ⟨_, rfl⟩ ⟨_, rfl⟩
    have o1 : ∀ (w : Str) (n : Int), PyData.strOk w = true → Tup (.tuple [.str w, .int n]) := fun w n hw => ⟨_, rfl, by simp, by simp, by simp [okS, hw]⟩
    obtain ⟨len, hlen⟩ : ∃ len : Int, len = if d1 % 9 = 0 then 1 + d0 % 9999 else 1 + d0 % 60 := ⟨_, rfl⟩
    have m1 : vmul (.int 2) (.int (1 + len / 2)) = .ok (.int (2 * (1 + len / 2))) := vmul_l .lit
    have b1 := Int.emod_nonneg d4 (b := 12) (by omega)
    have b2 := Int.emod_lt_of_pos d4 (b := 12) (by omega)
    by_cases h9 : d1 % 9 = 0
    · rw [if_pos h9] at hlen
      by_cases k1 : d4 % 12 < 3
      · exact ⟨_, by simp [g_law_piece, h9, es, k1]; rfl, _, rfl, by simp, by simp, by simp [okS]⟩
      · by_cases k2 : d4 % 12 < 6
        · exact ⟨_, by simp [g_law_piece, h9, es, k1, k2]; rfl, _, rfl, by simp, by simp, by simp [okS, hs]⟩
        · by_cases k3 : d4 % 12 < 8
          · exact ⟨_, by simp [g_law_piece, h9, es, k1, k2, k3]; rfl, _, rfl, by simp, by simp, by simp [okS, hs]⟩
          · by_cases k4 : d4 % 12 = 8
            · rw [hlen] at m1
              exact ⟨_, by simp [g_law_piece, h9, es, k4, m1]; rfl, _, rfl, by simp, by simp, by simp [okS]⟩
            · by_cases k5 : d4 % 12 = 9
              · exact ⟨_, by simp [g_law_piece, h9, es, k5, er]; rfl, _, rfl, by simp, by simp, by simp [okS]⟩
              · by_cases k6 : d4 % 12 = 10
                · exact ⟨_, by simp [g_law_piece, h9, es, k6]; rfl, _, rfl, by simp, by simp, by simp [okS]⟩
                · exact ⟨_, by simp [g_law_piece, h9, es, k1, k2, k3, k4, k5, k6]; rfl, _, rfl, by simp, by simp, by simp [okS]⟩
    · rw [if_neg h9] at hlen
      by_cases k1 : d4 % 12 < 3
      · exact ⟨_, by simp [g_law_piece, h9, es, k1]; rfl, _, rfl, by simp, by simp, by simp [okS]⟩
      · by_cases k2 : d4 % 12 < 6
        · exact ⟨_, by simp [g_law_piece, h9, es, k1, k2]; rfl, _, rfl, by simp, by simp, by simp [okS, hs]⟩
        · by_cases k3 : d4 % 12 < 8
          · exact ⟨_, by simp [g_law_piece, h9, es, k1, k2, k3]; rfl, _, rfl, by simp, by simp, by simp [okS, hs]⟩
          · by_cases k4 : d4 % 12 = 8
            · rw [hlen] at m1
              exact ⟨_, by simp [g_law_piece, h9, es, k4, m1]; rfl, _, rfl, by simp, by simp, by simp [okS]⟩
            · by_cases k5 : d4 % 12 = 9
              · exact ⟨_, by simp [g_law_piece, h9, es, k5, er]; rfl, _, rfl, by simp, by simp, by simp [okS]⟩
              · by_cases k6 : d4 % 12 = 10
                · exact ⟨_, by simp [g_law_piece, h9, es, k6]; rfl, _, rfl, by simp, by simp, by simp [okS]⟩
                · exact ⟨_, by simp [g_law_piece, h9, es, k1, k2, k3, k4, k5, k6]; rfl, _, rfl, by simp, by simp, by simp [okS]⟩
theorem tup_ok {xs : List PyData} (h : ∀ x ∈ xs, okS 3 x) (hl : xs.length ≤ 100) : okS 9 (.tuple xs) := ⟨Nat.le_trans hl (by omega), fun x hx => (h x hx).mono (by decide)⟩
theorem others_ok {p : PyData} (hp : Tup p) (d0 d1 d2 : Int) (h0 : 0 ≤ d0) : ∃ L, m_law_others [p, .list [.int d0, .int d1, .int d2]] = .ok (.list L) ∧ (∀ x ∈ L, okS 9 x) := by
  obtain ⟨xs, rfl, l0, l4, hx⟩ := hp
  rw [r_law_others]
  have hn : (0 : Int) < (xs.length : Int) := by omega
  obtain ⟨a, ha, ha2⟩ : ∃ a : Nat, d0 % (xs.length : Int) = a ∧ a < xs.length := by
    have b1 := Int.emod_nonneg d0 (b := (xs.length : Int)) (by omega)
    have b2 := Int.emod_lt_of_pos d0 hn
    exact ⟨(d0 % (xs.length : Int)).toNat, by omega, by omega⟩
  have e1 : vmod (.int d0) (.int (xs.length : Int)) = .ok (.int (a : Int)) := by rw [vmod_int, if_pos hn, ha]
  have cut3 : ∀ lo hi, ∀ x ∈ cutL xs lo hi, okS 3 x := fun lo hi x hx' => hx x (mem_cut hx')
  have cutl : ∀ lo hi, (cutL xs lo hi).length ≤ 4 := fun lo hi => Nat.le_trans (len_cut xs lo hi) l4
  have add2 : ∀ ys zs : List PyData, ys.length ≤ 9 → zs.length ≤ 9 → vadd (.tuple ys) (.tuple zs) = .ok (.tuple (ys ++ zs)) := fun ys zs h1 h2 => vadd_tuple (by omega)
  have app3 : ∀ ys zs : List PyData, (∀ x ∈ ys, okS 3 x) → (∀ x ∈ zs, okS 3 x) → ∀ x ∈ ys ++ zs, okS 3 x := fun ys zs h1 h2 x hx => by
    rcases List.mem_append.mp hx with h | h
    · exact h1 x h
    · exact h2 x h
  have one3 : ∀ v : PyData, okS 3 v → ∀ x ∈ [v], okS 3 x := fun v hv x hx => by rw [List.mem_singleton.mp hx]; exact hv
  have ca : vadd (.tuple (cutL xs (some 0) (some (a : Int)))) (.tuple (cutL xs (some ((a : Int) + 1)) none)) = _ := add2 _ _ (Nat.le_trans (cutl _ _) (by omega)) (Nat.le_trans (cutl _ _) (by omega))
  have ix : vidx (.tuple xs) (.int (a : Int)) = .ok xs[a] := vidx_tuple (by simp [ha2])
  have ix0 : vidx (.tuple xs) (.int 0) = .ok (xs[0]'l0) := vidx_tuple (k := 0) (by simp [l0])
  have ca2 : vadd (.tuple xs) (.tuple [xs[a]]) = .ok (.tuple (xs ++ [xs[a]])) := add2 _ _ (by omega) (by simp)
  have okA : okS 3 xs[a] := hx _ (List.getElem_mem ha2)
  have okA0 : okS 3 (xs[0]'l0) := hx _ (List.getElem_mem l0)
  have okp : okS 9 (.tuple xs) := tup_ok hx (by omega)
  have okp8 : okS 8 (.tuple xs) := ⟨Nat.le_trans l4 (by omega), fun x hx' => (hx x hx').mono (by decide)⟩
  generalize hV : ([.int 0, .int 1, .int 9999, .int 10000, .int (-1), .bool true, .bool false, .str "left", .str "right", .str "straight", .str "Left", .none, .str "", .tuple [.int 1], .int 99, .int 100, .int (-99), .int (-100), .int 2, .int 3, .int 4, .int d1] : List PyData) = V
  have hVo : ∀ v ∈ V, okS 3 v := by
    subst hV
    intro v hv
    simp only [List.mem_cons, List.not_mem_nil, or_false] at hv
    rcases hv with rfl | rfl | rfl | rfl | rfl | rfl | rfl | rfl | rfl | rfl | rfl | rfl | rfl | rfl | rfl | rfl | rfl | rfl | rfl | rfl | rfl | rfl <;> simp [okS]
  have hVl : V.length = 22 := by subst hV; rfl
  generalize hF : ([.tuple xs, .tuple (cutL xs (some 0) (some (a : Int)) ++ cutL xs (some ((a : Int) + 1)) none), .tuple (xs ++ [xs[a]]), .list xs, .tuple (cutL xs (some 1) none), xs[0]'l0, .tuple [.tuple xs], .tuple []] : List PyData) = F
  have hFo : ∀ v ∈ F, okS 9 v := by
    subst hF
    intro v hv
    simp only [List.mem_cons, List.not_mem_nil, or_false] at hv
    rcases hv with rfl | rfl | rfl | rfl | rfl | rfl | rfl | rfl
    · exact okp
    · exact tup_ok (app3 _ _ (cut3 _ _) (cut3 _ _)) (by rw [List.length_append]; have := cutl (some 0) (some (a : Int)); have := cutl (some ((a : Int) + 1)) none; omega)
    · exact tup_ok (app3 _ _ hx (one3 _ okA)) (by rw [List.length_append]; simp; omega)
    · exact ⟨Nat.le_trans l4 (by omega), fun x hx' => (hx x hx').mono (by decide)⟩
    · exact tup_ok (cut3 _ _) (Nat.le_trans (cutl _ _) (by omega))
    · exact okA0.mono (by omega)
    · exact ⟨by simp, fun x hx' => by rw [List.mem_singleton.mp hx']; exact okp8⟩
    · exact ⟨by simp, fun x hx' => by simp at hx'⟩
  have hFl : F.length = 8 := by subst hF; rfl
  obtain ⟨ρ1, f1, L1, f2, hL1, l1⟩ := forL_nx (kt := gN 5) (kl := kill [5]) (gb := b_law_others_1) (fun i ρ => ∃ L : List PyData, ρ = [some (.fz (.tuple xs)), none, some (.fz (.int (a : Int))), none, some (.lst (L.map .fz)), none, none] ∧ (∀ x ∈ L, okS 9 x) ∧ L.length = 8 + 2 * i)
    V 0 [some (.fz (.tuple xs)), none, some (.fz (.int (a : Int))), none, some (.lst (F.map .fz)), none, none] ⟨F, rfl, hFo, by omega⟩ (fun i v ρ hv ⟨L, e, hL, hl⟩ => by
      subst e
      have hv3 := hVo v (List.mem_of_getElem? hv)
      have hi : i < 22 := by rw [← hVl]; exact (List.getElem?_eq_some_iff.mp hv).1
      have z1 : L.length < 16777216 := by omega
      have z2 : L.length + 1 < 16777216 := by omega
      have q1 : vadd (.tuple (cutL xs (some 0) (some (a : Int)))) (.tuple [v]) = .ok (.tuple (cutL xs (some 0) (some (a : Int)) ++ [v])) := add2 _ _ (Nat.le_trans (cutl _ _) (by omega)) (by simp)
      have q2 : vadd (.tuple (cutL xs (some 0) (some (a : Int)) ++ [v])) (.tuple (cutL xs (some ((a : Int) + 1)) none)) = .ok (.tuple ((cutL xs (some 0) (some (a : Int)) ++ [v]) ++ cutL xs (some ((a : Int) + 1)) none)) := add2 _ _ (by rw [List.length_append]; have := cutl (some 0) (some (a : Int)); simp; omega) (Nat.le_trans (cutl _ _) (by omega))
      have q3 : vadd (.tuple (cutL xs (some 0) (some ((xs.length : Int) - 1)))) (.tuple [v]) = .ok (.tuple (cutL xs (some 0) (some ((xs.length : Int) - 1)) ++ [v])) := add2 _ _ (Nat.le_trans (cutl _ _) (by omega)) (by simp)
      have o1 : okS 9 (.tuple ((cutL xs (some 0) (some (a : Int)) ++ [v]) ++ cutL xs (some ((a : Int) + 1)) none)) := tup_ok (app3 _ _ (app3 _ _ (cut3 _ _) (one3 v hv3)) (cut3 _ _)) (by rw [List.length_append, List.length_append]; have := cutl (some 0) (some (a : Int)); have := cutl (some ((a : Int) + 1)) none; simp; omega)
      have o2 : okS 9 (.tuple (cutL xs (some 0) (some ((xs.length : Int) - 1)) ++ [v])) := tup_ok (app3 _ _ (cut3 _ _) (one3 v hv3)) (by rw [List.length_append]; have := cutl (some 0) (some ((xs.length : Int) - 1)); simp; omega)
      refine ⟨_, _, gN_ap _ _, .inl (by simp [b_law_others_1, sApp, szL, z1, z2, q1, q2, q3]; rfl), (L ++ [.tuple ((cutL xs (some 0) (some (a : Int)) ++ [v]) ++ cutL xs (some ((a : Int) + 1)) none)]) ++ [.tuple (cutL xs (some 0) (some ((xs.length : Int) - 1)) ++ [v])], by simp, fun x hx' => ?_, by simp; omega⟩
      rcases List.mem_append.mp hx' with h | h
      · rcases List.mem_append.mp h with h | h
        · exact hL x h
        · rw [List.mem_singleton.mp h]; exact o1
      · rw [List.mem_singleton.mp h]; exact o2)
  subst f2
  rw [Nat.zero_add, hVl] at l1
  generalize hWs : ([.str "straight", .str "gap", .str "stop", .str "curve", .str "points", .str "cross", .str "ramp", .str "Straight", .str "track"] : List PyData) = Ws
  have hWo : ∀ v ∈ Ws, okS 3 v := by
    subst hWs
    intro v hv
    simp only [List.mem_cons, List.not_mem_nil, or_false] at hv
    rcases hv with rfl | rfl | rfl | rfl | rfl | rfl | rfl | rfl | rfl <;> simp [okS]
  have hWl : Ws.length = 9 := by subst hWs; rfl
  obtain ⟨ρ2, f3, L2, f4, hL2, l2⟩ := forL_nx (kt := gN 6) (kl := kill [6]) (gb := b_law_others_2) (fun i ρ => ∃ L : List PyData, ρ = [some (.fz (.tuple xs)), none, none, none, some (.lst (L.map .fz)), none, none] ∧ (∀ x ∈ L, okS 9 x) ∧ L.length = 52 + i)
    Ws 0 [some (.fz (.tuple xs)), none, none, none, some (.lst (L1.map .fz)), none, none] ⟨L1, rfl, hL1, by omega⟩ (fun i v ρ hv ⟨L, e, hL, hl⟩ => by
      subst e
      have hv3 := hWo v (List.mem_of_getElem? hv)
      have hi : i < 9 := by rw [← hWl]; exact (List.getElem?_eq_some_iff.mp hv).1
      have z1 : L.length < 16777216 := by omega
      have q1 : vadd (.tuple [v]) (.tuple (cutL xs (some 1) none)) = .ok (.tuple ([v] ++ cutL xs (some 1) none)) := add2 _ _ (by simp) (Nat.le_trans (cutl _ _) (by omega))
      have o1 : okS 9 (.tuple ([v] ++ cutL xs (some 1) none)) := tup_ok (app3 _ _ (one3 v hv3) (cut3 _ _)) (by rw [List.length_append]; have := cutl (some 1) none; simp; omega)
      refine ⟨_, _, gN_ap _ _, .inl (by simp [b_law_others_2, sApp, szL, z1, q1]; rfl), L ++ [.tuple ([v] ++ cutL xs (some 1) none)], by simp, fun x hx' => ?_, by simp; omega⟩
      rcases List.mem_append.mp hx' with h | h
      · exact hL x h
      · rw [List.mem_singleton.mp h]; exact o1)
  subst f4
  rw [Nat.zero_add, hWl] at l2
  have z5 : L2.length + 5 ≤ 16777216 := by omega
  have ed : (O.data ∘ O.fz) = (id : PyData → PyData) := by funext d; simp
  refine ⟨L2 ++ [.none, .int 7, .str "stop", .list [.str "stop", .int 4], .tuple [.str "stop", .str "4"]], ?_, fun x hx' => ?_⟩
  · have hF' := congrArg (List.map O.fz) hF
    simp only [List.map_cons, List.map_nil] at hF'
    simp [g_law_others, e1, ca, ix, ix0, ca2, hV, hF', f1, hWs, f3, freezeAt, ed, z5]
  · rcases List.mem_append.mp hx' with h | h
    · exact hL2 x h
    · simp only [List.mem_cons, List.not_mem_nil, or_false] at h
      rcases h with rfl | rfl | rfl | rfl | rfl <;> simp [okS]
theorem body1 {d : PyData} (h : okS 9 d) (sc : PyData) : ∃ ρ', b_law_1 [some (.fz sc), none, none, none, some (.fz d), none, none, none] = .nx ρ' ∧ kill [4, 5, 6] ρ' = [some (.fz sc), none, none, none, none, none, none, none] := by
  have e1 := law_piece_eq h
  have e2 := check_eq h
  cases hp : pieceB d with
  | true =>
    rw [hp] at e1 e2
    exact ⟨_, by simp [b_law_1, e1, e2]; rfl, by simp⟩
  | false =>
    rw [hp] at e1 e2
    refine ⟨[some (.fz sc), none, none, none, some (.fz d), some (.fz (.bool false)), none, none], ?_, by simp⟩
    simp [b_law_1, e1, e2]
    exact catchA_hit (by simp) fun a => by simp
theorem three_cut {ds : List Int} (hd : Drawn 8 5040 ds) : ∃ a b c : Int, cutL (ds.map .int) (some 5) (some 8) = [.int a, .int b, .int c] ∧ 0 ≤ a := by
  match ds, hd.1, hd.2 with
  | [d0, d1, d2, d3, d4, d5, d6, d7], _, hb => exact ⟨d5, d6, d7, by rw [show (some (5 : Int)) = some ((5 : Nat) : Int) from rfl, show (some (8 : Int)) = some ((8 : Nat) : Int) from rfl, cut_mid]; rfl, (hb d5 (by simp)).1⟩
theorem math (ns : List Int) (hn : ns.length ≤ 63) : m_law [.list (ns.map .int)] = .ok (.bool true) := by
  rw [r_law]
  obtain ⟨ρ', e1, e2⟩ := forL_nx (kt := gN 1) (kl := kill [1, 2, 3, 4, 5, 6]) (gb := b_law_2) (fun _ ρ => ρ = [some (.fz (.list (ns.map .int))), none, none, none, none, none, none, none])
    (rangeD 0 6) 0 _ rfl (fun i x ρ hx e => by
      obtain ⟨hi, rfl⟩ := rangeD_get hx
      subst e
      obtain ⟨ds, hd, ed⟩ := numbers_ok (ns.getD i 0) 8 5040 (by omega) (by omega) (by omega)
      change m_law_numbers [.int _, .int 8, .int 5040] = _ at ed
      have ec := cell_eq ns i
      generalize ns.getD i 0 = c at ed ec
      obtain ⟨p, ep, hp⟩ := law_piece_ok hd
      obtain ⟨a, b, c', e3, ha⟩ := three_cut hd
      obtain ⟨L, eL, hL⟩ := others_ok hp a b c' ha
      obtain ⟨ρ1, f1, f2⟩ := forL_nx (kt := gN 4) (kl := kill [4, 5, 6]) (gb := b_law_1) (fun _ ρ => ρ = [some (.fz (.list (ns.map .int))), none, none, none, none, none, none, none])
        L 0 _ rfl (fun j x ρ hx e => by
          subst e
          obtain ⟨ρ', h1, h2⟩ := body1 (hL x (List.mem_of_getElem? hx)) (.list (ns.map .int))
          exact ⟨_, ρ', gN_ap _ _, .inl h1, h2⟩)
      subst f2
      exact ⟨_, _, gN_ap _ _, .inl (by simp [b_law_2, ec, ed, ep, e3, eL, f1]; rfl), by simp⟩)
  subst e2
  simp [g_law, rngOk, e1]

end LW
namespace LW
open PySem PySem.Spec PyProof.Rows L2 VL
theorem txt_mk {K : PySem.W.Frag} {h : Heap} {mg : Str → Option Value} (X : K.In h) (G : h.Ns mainGlobals mg)
    {tk1 : Tok}
    {tk2 : Tok}
    {tk4 : Tok}
    {tk5 : Tok}
    {q3 : Addr} {dd3 : Option Addr} {nn3 : Nat} {ss3 : Array (Option Value)}
    {f1 : Addr} {od1 an1 : Option Addr} {sl1 : Array (Option Value)} {oc1 kV1 dc1 pm1 cd1 ct1 : Value}
    (a1 : PySem.W.nsIn K mainGlobals "is_whole" = some (some (.ref f1)))
    (l1 : K.lookup f1 = some ⟨oc1, od1, .func (PySem.W.fnOf "is_whole" "is_whole" (defArgs s_is_whole) (defBody s_is_whole) (defScope s_is_whole) .none kV1 dc1 pm1 an1 cd1 ct1), sl1⟩) (c1 : PySem.W.codeIn K cd1 "is_whole" = true) (k1 : PySem.W.keepIn K (.ref f1) = true)
    {f2 : Addr} {od2 an2 : Option Addr} {sl2 : Array (Option Value)} {oc2 kV2 dc2 pm2 cd2 ct2 : Value}
    (a2 : PySem.W.nsIn K mainGlobals "is_length" = some (some (.ref f2)))
    (l2 : K.lookup f2 = some ⟨oc2, od2, .func (PySem.W.fnOf "is_length" "is_length" (defArgs s_is_length) (defBody s_is_length) (defScope s_is_length) .none kV2 dc2 pm2 an2 cd2 ct2), sl2⟩) (c2 : PySem.W.codeIn K cd2 "is_length" = true) (k2 : PySem.W.keepIn K (.ref f2) = true)
    {f3 : Addr} {od3 an3 : Option Addr} {sl3 : Array (Option Value)} {oc3 kV3 dc3 pm3 cd3 ct3 : Value}
    (a3 : PySem.W.nsIn K mainGlobals "is_rise" = some (some (.ref f3)))
    (l3 : K.lookup f3 = some ⟨oc3, od3, .func (PySem.W.fnOf "is_rise" "is_rise" (defArgs s_is_rise) (defBody s_is_rise) (defScope s_is_rise) .none kV3 dc3 pm3 an3 cd3 ct3), sl3⟩) (c3 : PySem.W.codeIn K cd3 "is_rise" = true) (k3 : PySem.W.keepIn K (.ref f3) = true)
    {f4 : Addr} {od4 an4 : Option Addr} {sl4 : Array (Option Value)} {oc4 kV4 dc4 pm4 cd4 ct4 : Value}
    (a4 : PySem.W.nsIn K mainGlobals "is_curve" = some (some (.ref f4)))
    (l4 : K.lookup f4 = some ⟨oc4, od4, .func (PySem.W.fnOf "is_curve" "is_curve" (defArgs s_is_curve) (defBody s_is_curve) (defScope s_is_curve) .none kV4 dc4 pm4 an4 cd4 ct4), sl4⟩) (c4 : PySem.W.codeIn K cd4 "is_curve" = true) (k4 : PySem.W.keepIn K (.ref f4) = true)
    {f5 : Addr} {od5 an5 : Option Addr} {sl5 : Array (Option Value)} {oc5 kV5 dc5 pm5 cd5 ct5 : Value}
    (a5 : PySem.W.nsIn K mainGlobals "is_points" = some (some (.ref f5)))
    (l5 : K.lookup f5 = some ⟨oc5, od5, .func (PySem.W.fnOf "is_points" "is_points" (defArgs s_is_points) (defBody s_is_points) (defScope s_is_points) .none kV5 dc5 pm5 an5 cd5 ct5), sl5⟩) (c5 : PySem.W.codeIn K cd5 "is_points" = true) (k5 : PySem.W.keepIn K (.ref f5) = true)
    {f6 : Addr} {od6 an6 : Option Addr} {sl6 : Array (Option Value)} {oc6 kV6 dc6 pm6 cd6 ct6 : Value}
    (a6 : PySem.W.nsIn K mainGlobals "is_cross" = some (some (.ref f6)))
    (l6 : K.lookup f6 = some ⟨oc6, od6, .func (PySem.W.fnOf "is_cross" "is_cross" (defArgs s_is_cross) (defBody s_is_cross) (defScope s_is_cross) .none kV6 dc6 pm6 an6 cd6 ct6), sl6⟩) (c6 : PySem.W.codeIn K cd6 "is_cross" = true) (k6 : PySem.W.keepIn K (.ref f6) = true)
    {f7 : Addr} {od7 an7 : Option Addr} {sl7 : Array (Option Value)} {oc7 kV7 dc7 pm7 cd7 ct7 : Value}
    (a7 : PySem.W.nsIn K mainGlobals "is_ramp" = some (some (.ref f7)))
    (l7 : K.lookup f7 = some ⟨oc7, od7, .func (PySem.W.fnOf "is_ramp" "is_ramp" (defArgs s_is_ramp) (defBody s_is_ramp) (defScope s_is_ramp) .none kV7 dc7 pm7 an7 cd7 ct7), sl7⟩) (c7 : PySem.W.codeIn K cd7 "is_ramp" = true) (k7 : PySem.W.keepIn K (.ref f7) = true)
    {f8 : Addr} {od8 an8 : Option Addr} {sl8 : Array (Option Value)} {oc8 kV8 dc8 pm8 cd8 ct8 : Value}
    (a8 : PySem.W.nsIn K mainGlobals "is_plain" = some (some (.ref f8)))
    (l8 : K.lookup f8 = some ⟨oc8, od8, .func (PySem.W.fnOf "is_plain" "is_plain" (defArgs s_is_plain) (defBody s_is_plain) (defScope s_is_plain) .none kV8 dc8 pm8 an8 cd8 ct8), sl8⟩) (c8 : PySem.W.codeIn K cd8 "is_plain" = true) (k8 : PySem.W.keepIn K (.ref f8) = true)
    {f9 : Addr} {od9 an9 : Option Addr} {sl9 : Array (Option Value)} {oc9 kV9 dc9 pm9 cd9 ct9 : Value}
    (a9 : PySem.W.nsIn K mainGlobals "is_piece" = some (some (.ref f9)))
    (l9 : K.lookup f9 = some ⟨oc9, od9, .func (PySem.W.fnOf "is_piece" "is_piece" (defArgs s_is_piece) (defBody s_is_piece) (defScope s_is_piece) .none kV9 dc9 pm9 an9 cd9 ct9), sl9⟩) (c9 : PySem.W.codeIn K cd9 "is_piece" = true) (k9 : PySem.W.keepIn K (.ref f9) = true)
    {f10 : Addr} {od10 an10 : Option Addr} {sl10 : Array (Option Value)} {oc10 kV10 dc10 pm10 cd10 ct10 : Value}
    (a10 : PySem.W.nsIn K mainGlobals "check_piece" = some (some (.ref f10)))
    (l10 : K.lookup f10 = some ⟨oc10, od10, .func (PySem.W.fnOf "check_piece" "check_piece" (defArgs s_check_piece) (defBody s_check_piece) (defScope s_check_piece) .none kV10 dc10 pm10 an10 cd10 ct10), sl10⟩) (c10 : PySem.W.codeIn K cd10 "check_piece" = true) (k10 : PySem.W.keepIn K (.ref f10) = true)
    {f11 : Addr} {od11 an11 : Option Addr} {sl11 : Array (Option Value)} {oc11 kV11 dc11 pm11 cd11 ct11 : Value}
    (a11 : PySem.W.nsIn K mainGlobals "_law_cell" = some (some (.ref f11)))
    (l11 : K.lookup f11 = some ⟨oc11, od11, .func (PySem.W.fnOf "_law_cell" "_law_cell" (defArgs s_law_cell) (defBody s_law_cell) (defScope s_law_cell) .none kV11 dc11 pm11 an11 cd11 ct11), sl11⟩) (c11 : PySem.W.codeIn K cd11 "_law_cell" = true) (k11 : PySem.W.keepIn K (.ref f11) = true)
    {f12 : Addr} {od12 an12 : Option Addr} {sl12 : Array (Option Value)} {oc12 kV12 dc12 pm12 cd12 ct12 : Value}
    (a12 : PySem.W.nsIn K mainGlobals "_law_numbers" = some (some (.ref f12)))
    (l12 : K.lookup f12 = some ⟨oc12, od12, .func (PySem.W.fnOf "_law_numbers" "_law_numbers" (defArgs s_law_numbers) (defBody s_law_numbers) (defScope s_law_numbers) .none kV12 dc12 pm12 an12 cd12 ct12), sl12⟩) (c12 : PySem.W.codeIn K cd12 "_law_numbers" = true) (k12 : PySem.W.keepIn K (.ref f12) = true)
    {f13 : Addr} {od13 an13 : Option Addr} {sl13 : Array (Option Value)} {oc13 kV13 dc13 pm13 cd13 ct13 : Value}
    (a13 : PySem.W.nsIn K mainGlobals "_law_piece" = some (some (.ref f13)))
    (l13 : K.lookup f13 = some ⟨oc13, od13, .func (PySem.W.fnOf "_law_piece" "_law_piece" (defArgs s_law_piece) (defBody s_law_piece) (defScope s_law_piece) .none kV13 dc13 pm13 an13 cd13 ct13), sl13⟩) (c13 : PySem.W.codeIn K cd13 "_law_piece" = true) (k13 : PySem.W.keepIn K (.ref f13) = true)
    {f14 : Addr} {od14 an14 : Option Addr} {sl14 : Array (Option Value)} {oc14 kV14 dc14 pm14 cd14 ct14 : Value}
    (a14 : PySem.W.nsIn K mainGlobals "_law_is" = some (some (.ref f14)))
    (l14 : K.lookup f14 = some ⟨oc14, od14, .func (PySem.W.fnOf "_law_is" "_law_is" (defArgs s_law_is) (defBody s_law_is) (defScope s_law_is) .none kV14 dc14 pm14 an14 cd14 ct14), sl14⟩) (c14 : PySem.W.codeIn K cd14 "_law_is" = true) (k14 : PySem.W.keepIn K (.ref f14) = true)
    {f15 : Addr} {od15 an15 : Option Addr} {sl15 : Array (Option Value)} {oc15 kV15 dc15 pm15 cd15 ct15 : Value}
    (a15 : PySem.W.nsIn K mainGlobals "_law_is_piece" = some (some (.ref f15)))
    (l15 : K.lookup f15 = some ⟨oc15, od15, .func (PySem.W.fnOf "_law_is_piece" "_law_is_piece" (defArgs s_law_is_piece) (defBody s_law_is_piece) (defScope s_law_is_piece) .none kV15 dc15 pm15 an15 cd15 ct15), sl15⟩) (c15 : PySem.W.codeIn K cd15 "_law_is_piece" = true) (k15 : PySem.W.keepIn K (.ref f15) = true)
    {f16 : Addr} {od16 an16 : Option Addr} {sl16 : Array (Option Value)} {oc16 kV16 dc16 pm16 cd16 ct16 : Value}
    (a16 : PySem.W.nsIn K mainGlobals "_law_others" = some (some (.ref f16)))
    (l16 : K.lookup f16 = some ⟨oc16, od16, .func (PySem.W.fnOf "_law_others" "_law_others" (defArgs s_law_others) (defBody s_law_others) (defScope s_law_others) .none kV16 dc16 pm16 an16 cd16 ct16), sl16⟩) (c16 : PySem.W.codeIn K cd16 "_law_others" = true) (k16 : PySem.W.keepIn K (.ref f16) = true)
    {f17 : Addr} {od17 an17 : Option Addr} {sl17 : Array (Option Value)} {oc17 kV17 dc17 pm17 cd17 ct17 : Value}
    (a17 : PySem.W.nsIn K mainGlobals "law" = some (some (.ref f17)))
    (l17 : K.lookup f17 = some ⟨oc17, od17, .func (PySem.W.fnOf "law" "law" (defArgs s_law) (defBody s_law) (defScope s_law) .none kV17 dc17 pm17 an17 cd17 ct17), sl17⟩) (c17 : PySem.W.codeIn K cd17 "law" = true) (k17 : PySem.W.keepIn K (.ref f17) = true)
    (z_ValueError : PySem.W.nsIn K mainGlobals "ValueError" = some none)
    (z_bool : PySem.W.nsIn K mainGlobals "bool" = some none)
    (z_int : PySem.W.nsIn K mainGlobals "int" = some none)
    (z_isinstance : PySem.W.nsIn K mainGlobals "isinstance" = some none)
    (z_len : PySem.W.nsIn K mainGlobals "len" = some none)
    (z_list : PySem.W.nsIn K mainGlobals "list" = some none)
    (z_range : PySem.W.nsIn K mainGlobals "range" = some none)
    (z_str : PySem.W.nsIn K mainGlobals "str" = some none)
    (z_tuple : PySem.W.nsIn K mainGlobals "tuple" = some none)
    {x_InvalidJoint : Addr} (ax_InvalidJoint : PySem.W.nsIn K mainGlobals "InvalidJoint" = some (some (.ref x_InvalidJoint)))
    (xx_InvalidJoint : PySem.W.excIn K x_InvalidJoint [.type "ValueError", .type "Exception", .type "BaseException", .type "object"] "ValueError.__new__" = true) (xk_InvalidJoint : PySem.W.keepIn K (.ref x_InvalidJoint) = true) (xb_InvalidJoint : PySem.W.subIn K (.ref x_InvalidJoint) (.type "BaseException") = some true) (xt_InvalidJoint : PySem.W.typeIn K (.ref x_InvalidJoint) = some (.type "type"))
    {x_InvalidPiece : Addr} (ax_InvalidPiece : PySem.W.nsIn K mainGlobals "InvalidPiece" = some (some (.ref x_InvalidPiece)))
    (xx_InvalidPiece : PySem.W.excIn K x_InvalidPiece [.type "ValueError", .type "Exception", .type "BaseException", .type "object"] "ValueError.__new__" = true) (xk_InvalidPiece : PySem.W.keepIn K (.ref x_InvalidPiece) = true) (xb_InvalidPiece : PySem.W.subIn K (.ref x_InvalidPiece) (.type "BaseException") = some true) (xt_InvalidPiece : PySem.W.typeIn K (.ref x_InvalidPiece) = some (.type "type"))
    {x_TrackError : Addr} (ax_TrackError : PySem.W.nsIn K mainGlobals "TrackError" = some (some (.ref x_TrackError)))
    (xx_TrackError : PySem.W.excIn K x_TrackError [.type "ValueError", .type "Exception", .type "BaseException", .type "object"] "ValueError.__new__" = true) (xk_TrackError : PySem.W.keepIn K (.ref x_TrackError) = true) (xb_TrackError : PySem.W.subIn K (.ref x_TrackError) (.type "BaseException") = some true) (xt_TrackError : PySem.W.typeIn K (.ref x_TrackError) = some (.type "type"))
    (xc_InvalidPiece : ExcC K x_InvalidPiece)
    (xd_InvalidPiece : PySem.W.hasDictIn K x_InvalidPiece = true)
    (xs_InvalidPiece_InvalidPiece : PySem.W.subIn K (.ref x_InvalidPiece) (.ref x_InvalidPiece) = some true)
    (xd_InvalidJoint : PySem.W.hasDictIn K x_InvalidJoint = true)
    (xs_InvalidJoint_InvalidPiece : PySem.W.subIn K (.ref x_InvalidPiece) (.ref x_InvalidJoint) = some false)
    (xn_InvalidJoint_InvalidPiece : (Value.ref x_InvalidPiece == Value.ref x_InvalidJoint) = false)
    (xd_TrackError : PySem.W.hasDictIn K x_TrackError = true)
    (xs_TrackError_InvalidPiece : PySem.W.subIn K (.ref x_InvalidPiece) (.ref x_TrackError) = some true)
    (xs_ValueError_InvalidPiece : PySem.W.subIn K (.ref x_InvalidPiece) (.type "ValueError") = some true)
    (v_MOST_LENGTH : PySem.W.nsIn K mainGlobals "MOST_LENGTH" = some (some (.int (9999) tk1)))
    (v_MOST_RISE : PySem.W.nsIn K mainGlobals "MOST_RISE" = some (some (.int (99) tk2)))
    (v_SIDES : PySem.W.nsIn K mainGlobals "SIDES" = some (some (.ref q3)))
    (t3 : K.lookup q3 = some ⟨.type "tuple", dd3, .seq #[(.str "left" tk4), (.str "right" tk5)] nn3, ss3⟩) : ∃ T : Txt K mg, T.f_law = f17 ∧ ∀ (s : Shared) (v : Value), BindsTo s T.d_law ⟨[v], []⟩ [("script", v)] :=
  ⟨{ f_is_whole := f1, d_is_whole := _, F_is_whole := fun_mk (st := s_is_whole) l1 c1 k1, g_is_whole := PySem.W.mg_of X G a1, B_is_whole := ((fun_mk (st := s_is_whole) l1 c1 k1).binds fun _ _ _ _ _ _ us hl => match us, hl with | [_], _ => rfl),
        f_is_length := f2, d_is_length := _, F_is_length := fun_mk (st := s_is_length) l2 c2 k2, g_is_length := PySem.W.mg_of X G a2, B_is_length := ((fun_mk (st := s_is_length) l2 c2 k2).binds fun _ _ _ _ _ _ us hl => match us, hl with | [_], _ => rfl),
        f_is_rise := f3, d_is_rise := _, F_is_rise := fun_mk (st := s_is_rise) l3 c3 k3, g_is_rise := PySem.W.mg_of X G a3, B_is_rise := ((fun_mk (st := s_is_rise) l3 c3 k3).binds fun _ _ _ _ _ _ us hl => match us, hl with | [_], _ => rfl),
        f_is_curve := f4, d_is_curve := _, F_is_curve := fun_mk (st := s_is_curve) l4 c4 k4, g_is_curve := PySem.W.mg_of X G a4, B_is_curve := ((fun_mk (st := s_is_curve) l4 c4 k4).binds fun _ _ _ _ _ _ us hl => match us, hl with | [_], _ => rfl),
        f_is_points := f5, d_is_points := _, F_is_points := fun_mk (st := s_is_points) l5 c5 k5, g_is_points := PySem.W.mg_of X G a5, B_is_points := ((fun_mk (st := s_is_points) l5 c5 k5).binds fun _ _ _ _ _ _ us hl => match us, hl with | [_], _ => rfl),
        f_is_cross := f6, d_is_cross := _, F_is_cross := fun_mk (st := s_is_cross) l6 c6 k6, g_is_cross := PySem.W.mg_of X G a6, B_is_cross := ((fun_mk (st := s_is_cross) l6 c6 k6).binds fun _ _ _ _ _ _ us hl => match us, hl with | [_], _ => rfl),
        f_is_ramp := f7, d_is_ramp := _, F_is_ramp := fun_mk (st := s_is_ramp) l7 c7 k7, g_is_ramp := PySem.W.mg_of X G a7, B_is_ramp := ((fun_mk (st := s_is_ramp) l7 c7 k7).binds fun _ _ _ _ _ _ us hl => match us, hl with | [_], _ => rfl),
        f_is_plain := f8, d_is_plain := _, F_is_plain := fun_mk (st := s_is_plain) l8 c8 k8, g_is_plain := PySem.W.mg_of X G a8, B_is_plain := ((fun_mk (st := s_is_plain) l8 c8 k8).binds fun _ _ _ _ _ _ us hl => match us, hl with | [_], _ => rfl),
        f_is_piece := f9, d_is_piece := _, F_is_piece := fun_mk (st := s_is_piece) l9 c9 k9, g_is_piece := PySem.W.mg_of X G a9, B_is_piece := ((fun_mk (st := s_is_piece) l9 c9 k9).binds fun _ _ _ _ _ _ us hl => match us, hl with | [_], _ => rfl),
        f_check_piece := f10, d_check_piece := _, F_check_piece := fun_mk (st := s_check_piece) l10 c10 k10, g_check_piece := PySem.W.mg_of X G a10, B_check_piece := ((fun_mk (st := s_check_piece) l10 c10 k10).binds fun _ _ _ _ _ _ us hl => match us, hl with | [_], _ => rfl),
        f__law_cell := f11, d__law_cell := _, F__law_cell := fun_mk (st := s_law_cell) l11 c11 k11, g__law_cell := PySem.W.mg_of X G a11, B__law_cell := ((fun_mk (st := s_law_cell) l11 c11 k11).binds fun _ _ _ _ _ _ us hl => match us, hl with | [_, _], _ => rfl),
        f__law_numbers := f12, d__law_numbers := _, F__law_numbers := fun_mk (st := s_law_numbers) l12 c12 k12, g__law_numbers := PySem.W.mg_of X G a12, B__law_numbers := ((fun_mk (st := s_law_numbers) l12 c12 k12).binds fun _ _ _ _ _ _ us hl => match us, hl with | [_, _, _], _ => rfl),
        f__law_piece := f13, d__law_piece := _, F__law_piece := fun_mk (st := s_law_piece) l13 c13 k13, g__law_piece := PySem.W.mg_of X G a13, B__law_piece := ((fun_mk (st := s_law_piece) l13 c13 k13).binds fun _ _ _ _ _ _ us hl => match us, hl with | [_, _], _ => rfl),
        f__law_is := f14, d__law_is := _, F__law_is := fun_mk (st := s_law_is) l14 c14 k14, g__law_is := PySem.W.mg_of X G a14, B__law_is := ((fun_mk (st := s_law_is) l14 c14 k14).binds fun _ _ _ _ _ _ us hl => match us, hl with | [_, _, _], _ => rfl),
        f__law_is_piece := f15, d__law_is_piece := _, F__law_is_piece := fun_mk (st := s_law_is_piece) l15 c15 k15, g__law_is_piece := PySem.W.mg_of X G a15, B__law_is_piece := ((fun_mk (st := s_law_is_piece) l15 c15 k15).binds fun _ _ _ _ _ _ us hl => match us, hl with | [_], _ => rfl),
        f__law_others := f16, d__law_others := _, F__law_others := fun_mk (st := s_law_others) l16 c16 k16, g__law_others := PySem.W.mg_of X G a16, B__law_others := ((fun_mk (st := s_law_others) l16 c16 k16).binds fun _ _ _ _ _ _ us hl => match us, hl with | [_, _], _ => rfl),
        f_law := f17, d_law := _, F_law := fun_mk (st := s_law) l17 c17 k17, g_law := PySem.W.mg_of X G a17, B_law := ((fun_mk (st := s_law) l17 c17 k17).binds fun _ _ _ _ _ _ us hl => match us, hl with | [_], _ => rfl),
        b_ValueError := PySem.W.mg_none_of X G z_ValueError,
        b_bool := PySem.W.mg_none_of X G z_bool,
        b_int := PySem.W.mg_none_of X G z_int,
        b_isinstance := PySem.W.mg_none_of X G z_isinstance,
        b_len := PySem.W.mg_none_of X G z_len,
        b_list := PySem.W.mg_none_of X G z_list,
        b_range := PySem.W.mg_none_of X G z_range,
        b_str := PySem.W.mg_none_of X G z_str,
        b_tuple := PySem.W.mg_none_of X G z_tuple,
        x_InvalidJoint := x_InvalidJoint, E_InvalidJoint := ⟨xx_InvalidJoint, PySem.W.mg_of X G ax_InvalidJoint, xk_InvalidJoint, xb_InvalidJoint, xt_InvalidJoint⟩,
        x_InvalidPiece := x_InvalidPiece, E_InvalidPiece := ⟨xx_InvalidPiece, PySem.W.mg_of X G ax_InvalidPiece, xk_InvalidPiece, xb_InvalidPiece, xt_InvalidPiece⟩,
        x_TrackError := x_TrackError, E_TrackError := ⟨xx_TrackError, PySem.W.mg_of X G ax_TrackError, xk_TrackError, xb_TrackError, xt_TrackError⟩,
        h_InvalidPiece := ⟨⟨.ref x_InvalidPiece, PySem.W.mg_of X G ax_InvalidPiece, tab_of (P := fun cn b => ∃ C, mg cn = some (.ref C) ∧ PySem.W.exmOne K (.ref C) (.ref x_InvalidPiece) = some b) (List.forall_mem_cons.mpr ⟨⟨x_InvalidPiece, PySem.W.mg_of X G ax_InvalidPiece, PySem.W.exm_ref xb_InvalidPiece xd_InvalidPiece xt_InvalidPiece xs_InvalidPiece_InvalidPiece⟩, (fun _ h => absurd h List.not_mem_nil)⟩)⟩⟩,
        i_InvalidJoint := ⟨fun cn D b hD hb => tab_of (P := fun cn b => ∀ D, mg cn = some (.ref D) → ExcC K D ∧ PySem.W.kitOne K (.ref D) (.ref x_InvalidJoint) = some b) (List.forall_mem_cons.mpr ⟨fun D hD => by (have e := hD.symm.trans (PySem.W.mg_of X G ax_InvalidPiece)); cases e; exact ⟨xc_InvalidPiece, (kit_ref xd_InvalidJoint xt_InvalidJoint xs_InvalidJoint_InvalidPiece (.inl xn_InvalidJoint_InvalidPiece))⟩, (fun _ h => absurd h List.not_mem_nil)⟩) cn b hb D hD⟩,
        i_TrackError := ⟨fun cn D b hD hb => tab_of (P := fun cn b => ∀ D, mg cn = some (.ref D) → ExcC K D ∧ PySem.W.kitOne K (.ref D) (.ref x_TrackError) = some b) (List.forall_mem_cons.mpr ⟨fun D hD => by (have e := hD.symm.trans (PySem.W.mg_of X G ax_InvalidPiece)); cases e; exact ⟨xc_InvalidPiece, (kit_ref xd_TrackError xt_TrackError xs_TrackError_InvalidPiece (.inr rfl))⟩, (fun _ h => absurd h List.not_mem_nil)⟩) cn b hb D hD⟩,
        i_ValueError := ⟨fun cn D b hD hb => tab_of (P := fun cn b => ∀ D, mg cn = some (.ref D) → ExcC K D ∧ PySem.W.kitOne K (.ref D) (.type "ValueError") = some b) (List.forall_mem_cons.mpr ⟨fun D hD => by (have e := hD.symm.trans (PySem.W.mg_of X G ax_InvalidPiece)); cases e; exact ⟨xc_InvalidPiece, (kit_type (by decide +kernel) xs_ValueError_InvalidPiece rfl)⟩, (fun _ h => absurd h List.not_mem_nil)⟩) cn b hb D hD⟩,
        c_MOST_LENGTH := ⟨_, (V.int (9999)), PySem.W.mg_of X G v_MOST_LENGTH, ⟨_, rfl⟩, (fun _ => .int _)⟩,
        c_MOST_RISE := ⟨_, (V.int (99)), PySem.W.mg_of X G v_MOST_RISE, ⟨_, rfl⟩, (fun _ => .int _)⟩,
        c_SIDES := ⟨_, (V.ref q3), PySem.W.mg_of X G v_SIDES, rfl, (is_ktup (vs := [(V.str "left"), (V.str "right")]) t3 (Nat.le_of_ble_eq_true rfl) (.cons ⟨_, rfl⟩ (.cons ⟨_, rfl⟩ .nil)) (fun H => (.cons ((fun _ => .str _) H) (.cons ((fun _ => .str _) H) .nil))))⟩ }, rfl, fun s v => .of_eq rfl⟩
theorem law_ok {P : Program} {w : World} {K : PySem.W.Frag} {mg : Str → Option Value} {base : Heap} (T : Txt K mg) (math : ∀ ns : List Int, ns.length ≤ 63 → m_law [.list (ns.map PyData.int)] = .ok (.bool true)) : FnOk P w K mg base (L2.CX P w) 7 T.f_law T.d_law ["script"] spL := fn_law (ok_law T) math
end LW
open PySem PySem.W PyProof.Rows
set_option maxHeartbeats 0 in
theorem PySem.Challenge.cw_trackswhole_k02_what_is_a_piece_holds : PySem.Challenge.rw_trackswhole_k02_what_is_a_piece.Holds := by
  w_on; o_law; k_head; (case hw => w_witness2)
  k_fill
  refine L2.walk_of (l := PySem.Challenge.rw_trackswhole_k02_what_is_a_piece) (n := 63) (k := 7) (x := "script") (CX := fun w => L2.CX PySem.Challenge.rw_trackswhole_k02_what_is_a_piece.prog w) (sp := fun _ => VL.spL) rfl (by decide) rfl ⟨rfl, by decide, by decide⟩ (fun w h Y => PySem.W.kIn_of Y) ?F ?S (fun _ _ _ _ _ h => VL.cx_false h)
  case S =>
    intro w H a ns hl hO hS
    exact VL.spL_of hl hS (by kernel_rfl)
  case F =>
    intro w mg fa h KX G hmg
    obtain ⟨T, e, hb⟩ := LW.txt_mk KX G (a1 := by k_is) (l1 := by k_is) (c1 := by k_is) (k1 := by k_is) (a2 := by k_is) (l2 := by k_is) (c2 := by k_is) (k2 := by k_is) (a3 := by k_is) (l3 := by k_is) (c3 := by k_is) (k3 := by k_is) (a4 := by k_is) (l4 := by k_is) (c4 := by k_is) (k4 := by k_is) (a5 := by k_is) (l5 := by k_is) (c5 := by k_is) (k5 := by k_is) (a6 := by k_is) (l6 := by k_is) (c6 := by k_is) (k6 := by k_is) (a7 := by k_is) (l7 := by k_is) (c7 := by k_is) (k7 := by k_is) (a8 := by k_is) (l8 := by k_is) (c8 := by k_is) (k8 := by k_is) (a9 := by k_is) (l9 := by k_is) (c9 := by k_is) (k9 := by k_is) (a10 := by k_is) (l10 := by k_is) (c10 := by k_is) (k10 := by k_is) (a11 := by k_is) (l11 := by k_is) (c11 := by k_is) (k11 := by k_is) (a12 := by k_is) (l12 := by k_is) (c12 := by k_is) (k12 := by k_is) (a13 := by k_is) (l13 := by k_is) (c13 := by k_is) (k13 := by k_is) (a14 := by k_is) (l14 := by k_is) (c14 := by k_is) (k14 := by k_is) (a15 := by k_is) (l15 := by k_is) (c15 := by k_is) (k15 := by k_is) (a16 := by k_is) (l16 := by k_is) (c16 := by k_is) (k16 := by k_is) (a17 := by k_is) (l17 := by k_is) (c17 := by k_is) (k17 := by k_is) (z_ValueError := by k_is) (z_bool := by k_is) (z_int := by k_is) (z_isinstance := by k_is) (z_len := by k_is) (z_list := by k_is) (z_range := by k_is) (z_str := by k_is) (z_tuple := by k_is) (ax_InvalidJoint := by k_is) (xx_InvalidJoint := by k_exc) (xk_InvalidJoint := by k_is) (xb_InvalidJoint := by k_is) (xt_InvalidJoint := by k_is) (ax_InvalidPiece := by k_is) (xx_InvalidPiece := by k_exc) (xk_InvalidPiece := by k_is) (xb_InvalidPiece := by k_is) (xt_InvalidPiece := by k_is) (ax_TrackError := by k_is) (xx_TrackError := by k_exc) (xk_TrackError := by k_is) (xb_TrackError := by k_is) (xt_TrackError := by k_is) (xc_InvalidPiece := by exact ⟨by k_is, by k_is, by k_is, by k_is, by k_is, by k_is, by k_is, by k_is⟩) (xd_InvalidPiece := by k_is) (xs_InvalidPiece_InvalidPiece := by k_is) (xd_InvalidJoint := by k_is) (xs_InvalidJoint_InvalidPiece := by k_is) (xn_InvalidJoint_InvalidPiece := by first | rfl | decide | k_is) (xd_TrackError := by k_is) (xs_TrackError_InvalidPiece := by k_is) (xs_ValueError_InvalidPiece := by k_is) (v_MOST_LENGTH := by k_is) (v_MOST_RISE := by k_is) (v_SIDES := by k_is) (t3 := by k_is)
    have e2 := hmg.symm.trans T.g_law
    cases e2
    exact ⟨T.d_law, hb, fun base _ _ => LW.law_ok T LW.math⟩
