import PyProof.Rows.All
import Wide.All
import OpenK.AllK
import Wide.FinOn
import HandS.ForMost
import HandS.Wide
import HandS.IsInst
import HandS.TupAny
import HandS.Zip
import HandS.Walk
import HandS.Flow
import HandS.Evl
import HandS.Deep
import HandS.Style
import KE.KTupSum
import KE.SortData
import KE.KRevSl
import PyProof.TupleOfSeq
import PySem.Challenge.RW_wholesides_k50_whole_ford_circles
set_option Elab.async false
set_option linter.all false
set_option maxRecDepth 100000
set_option maxHeartbeats 4000000
/-! DL: Python data as plain Lean data (D), programs over it as functions (M), and that the machine does what they say. -/
namespace DL
open PySem PySem.Spec PyProof.Rows L2
/-- data; scr: the script;  cup: the one list that draws change; own: a local list that is still being filled -/
inductive D where
  | non | bl (b : Bool) | int (i : Int) | str (x : Str) | tup (xs : List D) | lst (xs : List D) | cup | own (xs : List D) | scr (xs : List D)
abbrev Cup := Option (Int × Int)
inductive Res (α : Type) where
  | ok (a : α) (c : Cup)
  | stuck
abbrev M (α : Type) := Cup → Res α
@[inline] def M.pure {α : Type} (a : α) : M α := fun c => .ok a c
@[inline] def M.bind {α β : Type} (m : M α) (f : α → M β) : M β := fun c => match m c with
  | .ok a c' => f a c'
  | .stuck => .stuck
def M.stuck {α : Type} : M α := fun _ => .stuck
instance : Monad M where
  pure := M.pure
  bind := M.bind
theorem pure_eq {α : Type} (a : α) (c : Cup) : (Pure.pure a : M α) c = .ok a c := rfl
theorem bind_eq {α β : Type} (m : M α) (f : α → M β) (c : Cup) : (m >>= f) c = match m c with
  | .ok a c' => f a c'
  | .stuck => .stuck := rfl
theorem bind_ok {α β : Type} {m : M α} {f : α → M β} {c c' : Cup} {b : β} (h : (m >>= f) c = .ok b c') : ∃ a c1, m c = .ok a c1 ∧ f a c1 = .ok b c' := by
  rw [bind_eq] at h
  cases e : m c with
  | ok a c1 => rw [e] at h; exact ⟨a, c1, rfl, h⟩
  | stuck => rw [e] at h; cases h
theorem pure_ok {α : Type} {a b : α} {c c' : Cup} (h : (Pure.pure a : M α) c = .ok b c') : a = b ∧ c = c' := by
  rw [pure_eq] at h; cases h; exact ⟨rfl, rfl⟩
theorem stuck_ok {α : Type} {b : α} {c c' : Cup} (h : (M.stuck : M α) c = .ok b c') : False := by cases h
abbrev Env := List (Option D)
abbrev ME := Env → M D
abbrev MB := Env → M Bool
abbrev MA := Env → M (List D)
/-! ### Paired -/
section
variable {α β : Type} {R S : α → β → Prop}
theorem pd_imp (h : ∀ a b, R a b → S a b) : ∀ {xs : List α} {ys : List β}, Paired R xs ys → Paired S xs ys
  | _, _, .nil => .nil
  | _, _, .cons r t => .cons (h _ _ r) (pd_imp h t)
theorem pd_len : ∀ {xs : List α} {ys : List β}, Paired R xs ys → xs.length = ys.length
  | _, _, .nil => rfl
  | _, _, .cons _ t => congrArg (· + 1) (pd_len t)
theorem pd_app : ∀ {xs xs' : List α} {ys ys' : List β}, Paired R xs ys → Paired R xs' ys' → Paired R (xs ++ xs') (ys ++ ys')
  | _, _, _, _, .nil, s => s
  | _, _, _, _, .cons r t, s => .cons r (pd_app t s)
theorem pd_get : ∀ {xs : List α} {ys : List β} {i : Nat} {y : β}, Paired R xs ys → ys[i]? = some y → ∃ x, xs[i]? = some x ∧ R x y
  | _, _, _, _, .nil, e => by simp at e
  | _, _, 0, _, .cons r _, e => by simp at e; subst e; exact ⟨_, rfl, r⟩
  | _, _, i + 1, y, .cons _ t, e => by
    obtain ⟨u, h1, h2⟩ := pd_get (i := i) (y := y) t (by simpa using e)
    exact ⟨u, by simpa using h1, h2⟩
theorem pd_getL : ∀ {xs : List α} {ys : List β} {i : Nat} {x : α}, Paired R xs ys → xs[i]? = some x → ∃ y, ys[i]? = some y ∧ R x y
  | _, _, _, _, .nil, e => by simp at e
  | _, _, 0, _, .cons r _, e => by simp at e; subst e; exact ⟨_, rfl, r⟩
  | _, _, i + 1, y, .cons _ t, e => by
    obtain ⟨u, h1, h2⟩ := pd_getL (i := i) (x := y) t (by simpa using e)
    exact ⟨u, by simpa using h1, h2⟩
theorem pd_take : ∀ {xs : List α} {ys : List β} (n : Nat), Paired R xs ys → Paired R (xs.take n) (ys.take n)
  | _, _, 0, _ => by simpa using Paired.nil
  | _, _, _ + 1, .nil => .nil
  | _, _, n + 1, .cons r t => .cons r (pd_take n t)
theorem pd_drop : ∀ {xs : List α} {ys : List β} (n : Nat), Paired R xs ys → Paired R (xs.drop n) (ys.drop n)
  | _, _, 0, r => r
  | _, _, _ + 1, .nil => .nil
  | _, _, n + 1, .cons _ t => pd_drop n t
theorem pd_rev : ∀ {xs : List α} {ys : List β}, Paired R xs ys → Paired R xs.reverse ys.reverse
  | _, _, .nil => .nil
  | _, _, .cons r t => by rw [List.reverse_cons, List.reverse_cons]; exact pd_app (pd_rev t) (.cons r .nil)
theorem pd_set {x : α} {y : β} (r : R x y) : ∀ {xs : List α} {ys : List β} (i : Nat), Paired R xs ys → Paired R (xs.set i x) (ys.set i y)
  | _, _, _, .nil => .nil
  | _, _, 0, .cons _ t => .cons r t
  | _, _, i + 1, .cons q t => .cons q (pd_set r i t)
end
/-! ### what a value stands for -/
inductive Rep (K : PySem.W.Frag) (F : Hp) (ca : Addr) : V → D → Prop
  | non : Rep K F ca .non .non
  | bl (b : Bool) : Rep K F ca (.bl b) (.bl b)
  | int (i : Int) : Rep K F ca (.int i) (.int i)
  | str (x : Str) : Rep K F ca (.str x) (.str x)
  | tup {a : Addr} {xs : List V} {ds : List D} : SqT K F a xs → xs.length = ds.length → (∀ (i : Nat) v d, xs[i]? = some v → ds[i]? = some d → Rep K F ca v d) → Rep K F ca (.ref a) (.tup ds)
  | lst {a : Addr} {xs : List V} {ds : List D} : F a = some (.lst xs) → xs.length = ds.length → (∀ (i : Nat) v d, xs[i]? = some v → ds[i]? = some d → Rep K F ca v d) → Rep K F ca (.ref a) (.lst ds)
  | scr {a : Addr} {xs : List V} {ds : List D} : SqL K F a xs → xs.length = ds.length → (∀ (i : Nat) v d, xs[i]? = some v → ds[i]? = some d → Rep K F ca v d) → Rep K F ca (.ref a) (.scr ds)
  | cup : Rep K F ca (.ref ca) .cup
abbrev Reps (K : PySem.W.Frag) (F : Hp) (ca : Addr) : List V → List D → Prop := Paired (Rep K F ca)
section
variable {K : PySem.W.Frag} {F F' F1 H H' H1 : Hp} {ca : Addr} {v : V} {d : D} {vs : List V} {ds : List D}
theorem reps_of : ∀ {xs : List V} {ds : List D}, xs.length = ds.length → (∀ (i : Nat) v d, xs[i]? = some v → ds[i]? = some d → Rep K F ca v d) → Reps K F ca xs ds
  | [], [], _, _ => .nil
  | x :: xs, d :: ds, h, r => .cons (r 0 x d rfl rfl) (reps_of (by simpa using h) fun i v e h1 h2 => r (i + 1) v e (by simpa using h1) (by simpa using h2))
  | [], _ :: _, h, _ => by simp at h
  | _ :: _, [], h, _ => by simp at h
theorem reps_ix (r : Reps K F ca vs ds) : ∀ (i : Nat) v d, vs[i]? = some v → ds[i]? = some d → Rep K F ca v d := fun i v d h1 h2 => by
  obtain ⟨y, h3, h4⟩ := pd_getL r h1
  rw [h2] at h3; cases h3; exact h4
theorem rep_tup {a : Addr} (h : SqT K F a vs) (r : Reps K F ca vs ds) : Rep K F ca (.ref a) (.tup ds) := .tup h (pd_len r) (reps_ix r)
theorem rep_lst {a : Addr} (h : F a = some (.lst vs)) (r : Reps K F ca vs ds) : Rep K F ca (.ref a) (.lst ds) := .lst h (pd_len r) (reps_ix r)
theorem rep_tup_inv (h : Rep K F ca v (.tup ds)) : ∃ a vs, v = .ref a ∧ SqT K F a vs ∧ Reps K F ca vs ds := by
  cases h with
  | tup h1 h2 h3 => exact ⟨_, _, rfl, h1, reps_of h2 h3⟩
theorem rep_lst_inv (h : Rep K F ca v (.lst ds)) : ∃ a vs, v = .ref a ∧ F a = some (.lst vs) ∧ Reps K F ca vs ds := by
  cases h with
  | lst h1 h2 h3 => exact ⟨_, _, rfl, h1, reps_of h2 h3⟩
theorem rep_scr_inv (h : Rep K F ca v (.scr ds)) : ∃ a vs, v = .ref a ∧ SqL K F a vs ∧ Reps K F ca vs ds := by
  cases h with
  | scr h1 h2 h3 => exact ⟨_, _, rfl, h1, reps_of h2 h3⟩
theorem rep_int_inv {i : Int} (h : Rep K F ca v (.int i)) : v = .int i := by cases h; rfl
theorem rep_bl_inv {b : Bool} (h : Rep K F ca v (.bl b)) : v = .bl b := by cases h; rfl
theorem rep_str_inv {b : Str} (h : Rep K F ca v (.str b)) : v = .str b := by cases h; rfl
theorem rep_non_inv (h : Rep K F ca v .non) : v = .non := by cases h; rfl
theorem rep_cup_inv (h : Rep K F ca v .cup) : v = .ref ca := by cases h; rfl
theorem Rep.mono (e : Evl.Ex F F') (h : Rep K F ca v d) : Rep K F' ca v d := by
  induction h with
  | non => exact .non
  | bl b => exact .bl b
  | int i => exact .int i
  | str x => exact .str x
  | tup h1 h2 _ ih => exact .tup (Evl.ex_t e h1) h2 ih
  | lst h1 h2 _ ih => exact .lst (e _ _ h1) h2 ih
  | scr h1 h2 _ ih => exact .scr (Evl.ex_l e h1) h2 ih
  | cup => exact .cup
theorem reps_mono (e : Evl.Ex F F') (h : Reps K F ca vs ds) : Reps K F' ca vs ds := pd_imp (fun _ _ => Rep.mono e) h
/-! ### the cup -/
def CupOk (H F : Hp) (ca : Addr) : Cup → Prop
  | none => True
  | some (i, j) => H ca = some (.lst [.int i, .int j]) ∧ F ca = none
/-- from (F, H) with the cup c to (F', H') with c': what is frozen stays, what was tracked stays but the cup; what is newly frozen is new -/
structure Ext (ca : Addr) (c c' : Cup) (F H F' H' : Hp) : Prop where
  ff : Evl.Ex F F'
  sub : Evl.Ex F' H'
  new : ∀ a o, F' a = some o → F a = some o ∨ H a = none
  keep : ∀ a o, H a = some o → (c = none ∨ a ≠ ca) → H' a = some o
  cup : CupOk H' F' ca c'
  same : c = none ↔ c' = none
theorem Ext.refl {c : Cup} (s : Evl.Ex F H) (k : CupOk H F ca c) : Ext ca c c F H F H := ⟨Evl.Ex.refl F, s, fun _ _ h => .inl h, fun _ _ h _ => h, k, Iff.rfl⟩
theorem Ext.trans {c c1 c2 : Cup} {F2 H2 : Hp} (a : Ext ca c c1 F H F1 H1) (b : Ext ca c1 c2 F1 H1 F2 H2) : Ext ca c c2 F H F2 H2 where
  ff := a.ff.trans b.ff
  sub := b.sub
  new := fun x o h => by
    rcases b.new x o h with h | h
    · exact a.new x o h
    · refine .inr ?_
      cases q : H x with
      | none => rfl
      | some u =>
        by_cases hx : c = none ∨ x ≠ ca
        · rw [a.keep x u q hx] at h; cases h
        · have hc : c ≠ none := fun z => hx (.inl z)
          have hxa : x = ca := Decidable.byContradiction fun z => hx (.inr z)
          have h1 := a.cup
          cases e : c1 with
          | none => exact absurd (a.same.mpr e) hc
          | some p =>
            obtain ⟨i, j⟩ := p
            rw [e] at h1
            have h2 := h1.1
            rw [← hxa, h] at h2; cases h2
  keep := fun x o h hx => b.keep x o (a.keep x o h hx) (by
    rcases hx with z | z
    · exact .inl (a.same.mp z)
    · exact .inr z)
  cup := b.cup
  same := a.same.trans b.same
/-- a new object, frozen at once -/
theorem Ext.laid {c : Cup} {p : Addr} {o : HO} (s : Evl.Ex F H) (k : CupOk H F ca c) (h : H p = none) : Ext ca c c F H (upd F p o) (upd H p o) where
  ff := fun x u e => by rw [upd_ne (ne_of_none (s x u e) h)]; exact e
  sub := fun x u e => by
    by_cases hx : x = p
    · subst hx; rw [upd_same] at e; rw [upd_same]; exact e
    · rw [upd_ne hx] at e; rw [upd_ne hx]; exact s x u e
  new := fun x u e => by
    by_cases hx : x = p
    · subst hx; exact .inr h
    · rw [upd_ne hx] at e; exact .inl e
  keep := fun x u e _ => by rw [upd_ne (ne_of_none e h)]; exact e
  cup := by
    cases c with
    | none => trivial
    | some q =>
      obtain ⟨i, j⟩ := q
      have hn : ca ≠ p := ne_of_none k.1 h
      exact ⟨by rw [upd_ne hn]; exact k.1, by rw [upd_ne hn]; exact k.2⟩
  same := Iff.rfl
/-- a new object, not frozen -/
theorem Ext.laidN {c : Cup} {p : Addr} {o : HO} (s : Evl.Ex F H) (k : CupOk H F ca c) (h : H p = none) : Ext ca c c F H F (upd H p o) where
  ff := Evl.Ex.refl F
  sub := fun x u e => by rw [upd_ne (ne_of_none (s x u e) h)]; exact s x u e
  new := fun x u e => .inl e
  keep := fun x u e _ => by rw [upd_ne (ne_of_none e h)]; exact e
  cup := by
    cases c with
    | none => trivial
    | some q =>
      obtain ⟨i, j⟩ := q
      have hn : ca ≠ p := ne_of_none k.1 h
      exact ⟨by rw [upd_ne hn]; exact k.1, k.2⟩
  same := Iff.rfl
/-! ### the slots -/
/-- what stands in a slot -/
def SlotOk (K : PySem.W.Frag) (F H : Hp) (ca : Addr) (c : Cup) (v : V) (d : D) : Prop :=
  match d with
  | .own xs => ∃ a vs, v = .ref a ∧ H a = some (.lst vs) ∧ F a = none ∧ Reps K F ca vs xs ∧ (c = none ∨ a ≠ ca)
  | d => Rep K F ca v d
structure EnvOk (K : PySem.W.Frag) (F H : Hp) (ca : Addr) (c : Cup) (ρ : Env) (σ : L2.St) : Prop where
  len : ρ.length = σ.length
  at_ : ∀ (i : Nat) d, ρ[i]? = some (some d) → ∃ v, σ[i]? = some (some v) ∧ SlotOk K F H ca c v d
  apart : ∀ (i j : Nat) xs ys v, ρ[i]? = some (some (.own xs)) → ρ[j]? = some (some (.own ys)) → σ[i]? = some (some v) → σ[j]? = some (some v) → i = j
/-- a is the address of a list that is being filled -/
def Owned (ρ : Env) (σ : L2.St) (a : Addr) : Prop := ∃ (i : Nat) (xs : List D), ρ[i]? = some (some (.own xs)) ∧ σ[i]? = some (some (.ref a))
theorem SlotOk.rep {c : Cup} {v : V} {d : D} (h : SlotOk K F H ca c v d) (n : ∀ xs, d ≠ .own xs) : Rep K F ca v d := by
  cases d <;> first | exact h | exact absurd rfl (n _)
theorem SlotOk.of {c : Cup} {v : V} {d : D} (h : Rep K F ca v d) : SlotOk K F H ca c v d := by
  cases d <;> first | exact h | cases h
theorem SlotOk.ext {c c' : Cup} {v : V} {d : D} (e : Ext ca c c' F H F' H') (h : SlotOk K F H ca c v d) : SlotOk K F' H' ca c' v d := by
  cases d with
  | own xs =>
    obtain ⟨a, vs, e1, e2, e3, e4, e5⟩ := h
    refine ⟨a, vs, e1, e.keep a _ e2 e5, ?_, reps_mono e.ff e4, ?_⟩
    · cases q : F' a with
      | none => rfl
      | some u =>
        rcases e.new a u q with z | z
        · rw [e3] at z; cases z
        · rw [e2] at z; cases z
    · rcases e5 with z | z
      · exact .inl (e.same.mp z)
      · exact .inr z
  | _ => exact Rep.mono e.ff h
theorem EnvOk.ext {c c' : Cup} {ρ : Env} {σ : L2.St} (e : Ext ca c c' F H F' H') (h : EnvOk K F H ca c ρ σ) : EnvOk K F' H' ca c' ρ σ :=
  ⟨h.len, fun i d q => let ⟨v, h1, h2⟩ := h.at_ i d q; ⟨v, h1, h2.ext e⟩, h.apart⟩
end
end DL
namespace DL
open PySem PySem.Spec PyProof.Rows L2
/-! ### the readings of expressions, tests, arguments, by functions on data -/
def tE (K : PySem.W.Frag) (m : ME) : TE := fun σ H Q => ∃ F ca c ρ d c', EnvOk K F H ca c ρ σ ∧ Evl.Ex F H ∧ CupOk H F ca c ∧ m ρ c = .ok d c' ∧ ∀ v H' F', Ext ca c c' F H F' H' → Rep K F' ca v d → Q v H'
def tT (K : PySem.W.Frag) (m : MB) : TT := fun σ H Q => ∃ F ca c ρ d c', EnvOk K F H ca c ρ σ ∧ Evl.Ex F H ∧ CupOk H F ca c ∧ m ρ c = .ok d c' ∧ ∀ H' F', Ext ca c c' F H F' H' → Q d H'
def tAr (K : PySem.W.Frag) (m : MA) : TA := fun σ H Q => ∃ F ca c ρ d c', EnvOk K F H ca c ρ σ ∧ Evl.Ex F H ∧ CupOk H F ca c ∧ m ρ c = .ok d c' ∧ ∀ v H' F', Ext ca c c' F H F' H' → Reps K F' ca v d → Q v H'
abbrev PD (X : Cx) (e : Expr) (m : ME) : Prop := PE X e (tE X.K m)
abbrev PDT (X : Cx) (e : Expr) (m : MB) : Prop := PT X e (tT X.K m)
abbrev PDW (X : Cx) (e : Expr) (m : MB) : Prop := PW X e (tT X.K m)
abbrev PDA (X : Cx) (es : List Expr) (m : MA) : Prop := PA X es (tAr X.K m)
theorem pe_imp {X : Cx} {e : Expr} {t t' : TE} (h : PE X e t) (k : ∀ σ H Q, t' σ H Q → t σ H Q) : PE X e t' := ⟨fun pins s σ H Q I q => h.run pins s σ H Q I (k σ H Q q)⟩
theorem pt_imp {X : Cx} {e : Expr} {t t' : TT} (h : PT X e t) (k : ∀ σ H Q, t' σ H Q → t σ H Q) : PT X e t' := ⟨fun pins s σ H Q I q => h.run pins s σ H Q I (k σ H Q q)⟩
theorem pw_imp {X : Cx} {e : Expr} {t t' : TT} (h : PW X e t) (k : ∀ σ H Q, t' σ H Q → t σ H Q) : PW X e t' := ⟨fun wh pins s σ H Q I q => h.run wh pins s σ H Q I (k σ H Q q)⟩
theorem pa_imp {X : Cx} {es : List Expr} {t t' : TA} (h : PA X es t) (k : ∀ σ H Q, t' σ H Q → t σ H Q) : PA X es t' := ⟨fun pos pins s σ H Q I q => h.run pos pins s σ H Q I (k σ H Q q)⟩
/-! ### names and constants -/
def mVar (i : Nat) : ME := fun ρ => match ρ[i]? with
  | some (some (.own _)) => M.stuck
  | some (some d) => pure d
  | _ => M.stuck
def mC (d : D) : ME := fun _ => pure d
theorem mVar_ok {i : Nat} {ρ : Env} {c c' : Cup} {d : D} (h : mVar i ρ c = .ok d c') : ρ[i]? = some (some d) ∧ c' = c ∧ ∀ xs, d ≠ .own xs := by
  cases e : ρ[i]? with
  | none => simp only [mVar, e] at h; cases h
  | some o =>
    cases o with
    | none => simp only [mVar, e] at h; cases h
    | some d' =>
      cases d' <;> simp only [mVar, e] at h <;> first
        | (cases h; done)
        | (obtain ⟨rfl, rfl⟩ := pure_ok h; exact ⟨rfl, rfl, fun xs z => nomatch z⟩)
section
variable {X : Cx}
theorem pd_v (i : Nat) {x : Str} {pos : Pos} (hN : X.N[i]? = some x := by rfl) (hv : Vis X.env.scope x := by first | exact Or.inl rfl | exact Or.inr (Or.inl rfl) | exact Or.inr (Or.inr rfl)) (hd : (x == ("__debug__" : Str)) = false := by decide)
    (hcd : (x == ("__classdict__" : Str)) = false := by decide) : PD X (.Name x pos) (mVar i) :=
  pe_imp (pe_var hN hv hd hcd) fun σ H Q ⟨F, ca, c, ρ, d, c', E, s, k, h, q⟩ => by
    obtain ⟨h1, h2, h3⟩ := mVar_ok h
    subst h2
    obtain ⟨v, e1, e2⟩ := E.at_ i d h1
    exact ⟨v, e1, q v H F (Ext.refl s k) (e2.rep h3)⟩
theorem pd_c {e : Expr} {v : V} {d : D} (h : PE X e (tC v)) (r : ∀ F ca, Rep X.K F ca v d) : PD X e (mC d) :=
  pe_imp h fun σ H Q ⟨F, ca, c, ρ, d', c', E, s, k, hm, q⟩ => by
    have hm : Res.ok d c = Res.ok d' c' := hm
    cases hm
    exact q v H F (Ext.refl s k) (r F ca)
theorem pd_int {i : Int} {j : Nat} {pos : Pos} : PD X (.Constant (.int i) j pos) (mC (.int i)) := pd_c pe_int fun _ _ => .int i
theorem pd_bl {b : Bool} {j : Nat} {pos : Pos} : PD X (.Constant (.bool b) j pos) (mC (.bl b)) := pd_c pe_bl fun _ _ => .bl b
theorem pd_non {j : Nat} {pos : Pos} : PD X (.Constant .none j pos) (mC .non) := pd_c pe_non fun _ _ => .non
theorem pd_str {x : Str} {j : Nat} {pos : Pos} : PD X (.Constant (.str x) j pos) (mC (.str x)) := pd_c pe_str fun _ _ => .str x
/-- a constant of the module -/
theorem pd_glob {x : Str} {v : V} {u : Value} {d : D} {pos : Pos} (hg : Gl X x) (hm : X.mg x = some u) (r : RelV v u) (rd : ∀ F ca, Rep X.K F ca v d) (hd : (x == ("__debug__" : Str)) = false := by decide) : PD X (.Name x pos) (mC d) :=
  pd_c (pe_glob hg hm r hd) rd
end
/-! ### arguments -/
def mNil : MA := fun _ => pure []
def mCons (m : ME) (r : MA) : MA := fun ρ => do
  let d ← m ρ
  let ds ← r ρ
  pure (d :: ds)
theorem bind_inv {α β : Type} {m : M α} {f : α → M β} {c c' : Cup} {b : β} (h : (do let a ← m; f a : M β) c = .ok b c') : ∃ a c1, m c = .ok a c1 ∧ f a c1 = .ok b c' := bind_ok h
section
variable {X : Cx} {e a b : Expr} {es : List Expr} {m ma mb : ME} {r : MA}
theorem pd_nil : PDA X [] mNil := pa_imp pa_nil fun σ H Q ⟨F, ca, c, ρ, d, c', E, s, k, hm, q⟩ => by
  have hm : Res.ok [] c = Res.ok d c' := hm
  cases hm
  exact q [] H F (Ext.refl s k) .nil
theorem pd_cons (ha : PD X e m) (hr : PDA X es r) (hs : starEach (e :: es) X.env = (false, eval e X.env) :: starEach es X.env := by rfl) : PDA X (e :: es) (mCons m r) :=
  pa_imp (pa_cons ha hr hs) fun σ H Q ⟨F, ca, c, ρ, d, c', E, s, k, hm, q⟩ => by
    obtain ⟨x, c1, h1, hm⟩ := bind_ok hm
    obtain ⟨xs, c2, h2, hm⟩ := bind_ok hm
    obtain ⟨rfl, rfl⟩ := pure_ok hm
    refine ⟨F, ca, c, ρ, x, c1, E, s, k, h1, fun v H1 F1 e1 r1 => ?_⟩
    refine ⟨F1, ca, c1, ρ, xs, _, E.ext e1, e1.sub, e1.cup, h2, fun vs H2 F2 e2 r2 => ?_⟩
    exact q (v :: vs) H2 F2 (e1.trans e2) (.cons (r1.mono e2.ff) r2)
/-! ### operators -/
def Op2 (K : PySem.W.Frag) (r : R2) (f : D → D → M D) : Prop := ∀ (F H : Hp) (ca : Addr) (c : Cup) (x y d : D) (c' : Cup) (v u : V), Evl.Ex F H → CupOk H F ca c → Rep K F ca v x → Rep K F ca u y → f x y c = .ok d c' →
  ∀ Q : VK, (∀ w H' F', Ext ca c c' F H F' H' → Rep K F' ca w d → Q w H') → r v u H Q
def mOp (f : D → D → M D) (ma mb : ME) : ME := fun ρ => do
  let x ← ma ρ
  let y ← mb ρ
  f x y
theorem tOp_of {K : PySem.W.Frag} {r : R2} {f : D → D → M D} (hf : Op2 K r f) {σ : L2.St} {H : Hp} {Q : VK} (h : tE K (mOp f ma mb) σ H Q) : tOp r (tE K ma) (tE K mb) σ H Q := by
  obtain ⟨F, ca, c, ρ, d, c', E, s, k, hm, q⟩ := h
  obtain ⟨x, c1, h1, hm⟩ := bind_ok hm
  obtain ⟨y, c2, h2, hm⟩ := bind_ok hm
  refine ⟨F, ca, c, ρ, x, c1, E, s, k, h1, fun v H1 F1 e1 r1 => ?_⟩
  refine ⟨F1, ca, c1, ρ, y, c2, E.ext e1, e1.sub, e1.cup, h2, fun u H2 F2 e2 r2 => ?_⟩
  exact hf F2 H2 ca c2 x y d c' v u e2.sub e2.cup (r1.mono e2.ff) r2 hm Q fun w H3 F3 e3 r3 => q w H3 F3 ((e1.trans e2).trans e3) r3
theorem pd_op {op : Operator} {rr : R2} {f : D → D → M D} {pos : Pos} (hf : Op2 X.K rr f) (ho : OpR X (binaryOp op) rr) (ha : PD X a ma) (hb : PD X b mb) : PD X (.BinOp a op b pos) (mOp f ma mb) :=
  pe_imp (pe_op ho ha hb) fun _ _ _ h => tOp_of hf h
theorem pd_cmp {op : CmpOp} {rr : R2} {f : D → D → M D} {pos : Pos} (hf : Op2 X.K rr f) (ho : OpR X (compareOp op) rr) (hm : behindInMarks op b = false) (ha : PD X a ma) (hb : PD X b mb) : PD X (.Compare a [op] [b] pos) (mOp f ma mb) :=
  pe_imp (pe_cmpR ho ha hb hm) fun _ _ _ h => tOp_of hf h
end
/-- a bool's value -/
def asB (d : D) : M Bool := match d with
  | .bl b => pure b
  | _ => M.stuck
theorem asB_ok {d : D} {c c' : Cup} {b : Bool} (h : asB d c = .ok b c') : d = .bl b ∧ c' = c := by
  unfold asB at h
  cases d <;> first | (cases h; exact ⟨rfl, rfl⟩) | cases h
def mB (m : ME) : MB := fun ρ => do
  let d ← m ρ
  asB d
def addD (x y : D) : M D := match x, y with
  | .int i, .int j => pure (.int (i + j))
  | .tup xs, .tup ys => if xs.length + ys.length ≤ 1000000 then pure (.tup (xs ++ ys)) else M.stuck
  | .lst xs, .lst ys => if xs.length + ys.length ≤ 1000000 then pure (.lst (xs ++ ys)) else M.stuck
  | .str a, .str b => if a.length + b.length ≤ 1000000 then pure (.str (a ++ b)) else M.stuck
  | _, _ => M.stuck
def subD (x y : D) : M D := match x, y with
  | .int i, .int j => pure (.int (i - j))
  | _, _ => M.stuck
def mulOk (i j : Int) : Bool := decide (i.natAbs < 2 ^ 64) || decide (j.natAbs < 2 ^ 64) || decide (i.natAbs.log2 + j.natAbs.log2 < 1000000)
def mulD (x y : D) : M D := match x, y with
  | .int i, .int j => if mulOk i j = true then pure (.int (i * j)) else M.stuck
  | _, _ => M.stuck
def divOk (j : Int) : Bool := decide (j.natAbs.log2 < 9000)
def fdivD (x y : D) : M D := match x, y with
  | .int i, .int j => if 0 < j ∧ divOk j = true then pure (.int (i / j)) else if j < 0 ∧ divOk j = true then pure (.int (i.fdiv j)) else M.stuck
  | _, _ => M.stuck
def modD (x y : D) : M D := match x, y with
  | .int i, .int j => if 0 < j then pure (.int (i % j)) else if j < 0 then pure (.int (i.fmod j)) else M.stuck
  | _, _ => M.stuck
def powOk (i j : Int) : Bool := decide (0 ≤ j) && decide (i.natAbs.log2 < 100000) && decide (j ≤ 1000)
def powD (x y : D) : M D := match x, y with
  | .int i, .int j => if powOk i j = true then pure (.int (i ^ j.toNat)) else M.stuck
  | _, _ => M.stuck
section
variable {X : Cx} {K : PySem.W.Frag}
/-- int rules -/
theorem scalar_end {F H : Hp} {ca : Addr} {c : Cup} {v : V} {d : D} {Q : VK} (s : Evl.Ex F H) (k : CupOk H F ca c) (r : Rep K F ca v d) (q : ∀ w H' F', Ext ca c c F H F' H' → Rep K F' ca w d → Q w H') : Q v H :=
  q v H F (Ext.refl s k) r
def rAdd (K : PySem.W.Frag) : R2 := fun x y H Q => (rI0 (fun i j => .int (i + j)) x y H Q ∨ rCatA K x y H Q) ∨ (rCat x y H Q ∨ ∃ i j, x = .str i ∧ y = .str j ∧ i.length + j.length ≤ sizeLine ∧ Q (.str (i ++ j)) H)
theorem op_addA : OpR X (binaryOp .Add) (rAdd X.K) := (op_add.or op_catA).or (op_cat.or op_add_str)
theorem sz_of {n : Nat} (h : n ≤ 1000000) : n ≤ sizeLine := Nat.le_trans h (by decide)
theorem sz_lt {n : Nat} (h : n < 1000000) : n < sizeLine := Nat.lt_of_lt_of_le h (by decide)
theorem op2_add : Op2 K (rAdd K) addD := by
  intro F H ca c x y d c' v u s k rx ry h Q q
  unfold addD at h
  split at h
  · cases h
    cases rx; cases ry
    exact .inl (.inl ⟨_, _, rfl, rfl, scalar_end s k (.int _) q⟩)
  · rename_i xs ys
    split at h
    · rename_i hl
      cases h
      obtain ⟨a, vs, rfl, ha, ra⟩ := rep_tup_inv rx
      obtain ⟨b, us, rfl, hb, rb⟩ := rep_tup_inv ry
      refine .inl (.inr ⟨a, b, vs, us, rfl, rfl, Evl.ex_t s ha, Evl.ex_t s hb, ?_, fun e => ?_, fun _ e => ?_, fun _ _ p hp => ?_⟩)
      · rw [pd_len ra, pd_len rb]; exact sz_of hl
      · subst e
        cases ra
        exact scalar_end s k (rep_tup hb rb) q
      · subst e
        cases rb
        refine scalar_end s k ?_ q
        rw [List.append_nil]
        exact rep_tup ha ra
      · refine q _ _ _ (Ext.laid s k hp) (rep_tup (vs := vs ++ us) (SqT.of upd_same) ?_)
        have e := (Ext.laid (o := .tup (vs ++ us)) s k hp).ff
        exact pd_app (reps_mono e ra) (reps_mono e rb)
    · cases h
  · rename_i xs ys
    split at h
    · rename_i hl
      cases h
      obtain ⟨a, vs, rfl, ha, ra⟩ := rep_lst_inv rx
      obtain ⟨b, us, rfl, hb, rb⟩ := rep_lst_inv ry
      refine .inr (.inl ⟨a, b, vs, us, rfl, rfl, s _ _ ha, s _ _ hb, ?_, fun p hp => ?_⟩)
      · rw [pd_len ra, pd_len rb]; exact sz_of hl
      · refine q _ _ _ (Ext.laid s k hp) (rep_lst (vs := vs ++ us) upd_same ?_)
        have e := (Ext.laid (o := .lst (vs ++ us)) s k hp).ff
        exact pd_app (reps_mono e ra) (reps_mono e rb)
    · cases h
  · split at h
    · rename_i hl
      cases h
      cases rx; cases ry
      exact .inr (.inr ⟨_, _, rfl, rfl, sz_of hl, scalar_end s k (.str _) q⟩)
    · cases h
  · cases h
theorem op2_sub : Op2 K (rI0 fun i j => .int (i - j)) subD := by
  intro F H ca c x y d c' v u s k rx ry h Q q
  unfold subD at h
  split at h
  · cases h; cases rx; cases ry
    exact ⟨_, _, rfl, rfl, scalar_end s k (.int _) q⟩
  · cases h
def CMulX (i j : Int) : Prop := mulOk i j = true
theorem CMulX.ok {i j : Int} (h : CMulX i j) : IntMulOk i j := by
  unfold CMulX mulOk at h
  simp only [Bool.or_eq_true, decide_eq_true_eq] at h
  rcases h with (h | h) | h
  · have e : ((2 ^ 64 : Nat) : Int) = 2 ^ 64 := by decide
    exact .of_left (intBits_le_64 (by omega) (by omega))
  · exact .of_right (intBits_le_64 (by omega) (by omega))
  · exact CMulW.ok h
theorem op_mulX : OpR X (binaryOp .Mult) (rI CMulX fun i j => .int (i * j)) := opI fun _ _ _ _ _ _ _ hc q => mul_int q hc.ok
theorem op2_mul : Op2 K (rI CMulX fun i j => .int (i * j)) mulD := by
  intro F H ca c x y d c' v u s k rx ry h Q q
  unfold mulD at h
  split at h
  · split at h
    · rename_i hc
      cases h; cases rx; cases ry
      exact ⟨_, _, rfl, rfl, hc, scalar_end s k (.int _) q⟩
    · cases h
  · cases h
def divV (i j : Int) : Int := if 0 < j then i / j else i.fdiv j
def modV (i j : Int) : Int := if 0 < j then i % j else i.fmod j
theorem divV_eq (i j : Int) (h : j ≠ 0) : divV i j = i.fdiv j := by
  unfold divV
  split
  · rw [Int.fdiv_eq_ediv_of_nonneg i (by omega)]
  · rfl
theorem modV_eq (i j : Int) (h : j ≠ 0) : modV i j = i.fmod j := by
  unfold modV
  split
  · rw [Int.fmod_eq_emod_of_nonneg i (by omega)]
  · rfl
theorem op_fdivX : OpR X (binaryOp .FloorDiv) (rI (fun _ j => j ≠ 0 ∧ divOk j = true) fun i j => .int (divV i j)) := opI fun i j _ _ _ _ _ hc q =>
  floordiv_int hc.1 (by rw [← divV_eq i j hc.1]; exact q) (.inl (PyProof.noPylong_of_log2 (by have := hc.2; unfold divOk at this; simpa using this)))
theorem op_modX : OpR X (binaryOp .Mod) (rI (fun _ j => j ≠ 0) fun i j => .int (modV i j)) := opI fun i j _ _ _ _ _ hc q =>
  mod_int' hc (by rw [← modV_eq i j hc]; exact q)
theorem op2_fdiv : Op2 K (rI (fun _ j => j ≠ 0 ∧ divOk j = true) fun i j => .int (divV i j)) fdivD := by
  intro F H ca c x y d c' v u s k rx ry h Q q
  unfold fdivD at h
  split at h
  · rename_i i j
    cases rx; cases ry
    split at h
    · rename_i hc
      cases h
      refine ⟨_, _, rfl, rfl, ⟨by omega, hc.2⟩, ?_⟩
      have e : divV i j = i / j := by unfold divV; rw [if_pos hc.1]
      show Q (.int (divV i j)) H
      rw [e]
      exact scalar_end s k (.int _) q
    · split at h
      · rename_i hc
        cases h
        refine ⟨_, _, rfl, rfl, ⟨by omega, hc.2⟩, ?_⟩
        have e : divV i j = i.fdiv j := by unfold divV; rw [if_neg (by omega)]
        show Q (.int (divV i j)) H
        rw [e]
        exact scalar_end s k (.int _) q
      · cases h
  · cases h
theorem op2_mod : Op2 K (rI (fun _ j => j ≠ 0) fun i j => .int (modV i j)) modD := by
  intro F H ca c x y d c' v u s k rx ry h Q q
  unfold modD at h
  split at h
  · rename_i i j
    cases rx; cases ry
    split at h
    · rename_i hc
      cases h
      refine ⟨_, _, rfl, rfl, by omega, ?_⟩
      have e : modV i j = i % j := by unfold modV; rw [if_pos hc]
      show Q (.int (modV i j)) H
      rw [e]
      exact scalar_end s k (.int _) q
    · split at h
      · rename_i hc
        cases h
        refine ⟨_, _, rfl, rfl, by omega, ?_⟩
        have e : modV i j = i.fmod j := by unfold modV; rw [if_neg (by omega)]
        show Q (.int (modV i j)) H
        rw [e]
        exact scalar_end s k (.int _) q
      · cases h
  · cases h
theorem powOk_sz {i j : Int} (h : powOk i j = true) : 0 ≤ j ∧ (Builtin.Int.intBits i : Int) * j ≤ 2 ^ 27 := by
  unfold powOk at h
  simp only [Bool.and_eq_true, decide_eq_true_eq] at h
  obtain ⟨⟨h0, h1⟩, h2⟩ := h
  refine ⟨h0, ?_⟩
  have b : Builtin.Int.intBits i ≤ i.natAbs.log2 + 1 := by
    unfold Builtin.Int.intBits
    split <;> omega
  have b2 : (Builtin.Int.intBits i : Int) ≤ 100000 := by omega
  have b3 : (Builtin.Int.intBits i : Int) * j ≤ 100000 * 1000 := Int.mul_le_mul b2 h2 h0 (by omega)
  have e : (2 ^ 27 : Int) = 134217728 := by decide
  omega
theorem op_powX : OpR X (binaryOp .Pow) (rI (fun i j => powOk i j = true) fun i j => .int (i ^ j.toNat)) := opI fun i j _ _ _ _ _ hc q =>
  pow_int (powOk_sz hc).1 (powOk_sz hc).2 q
theorem op2_pow : Op2 K (rI (fun i j => powOk i j = true) fun i j => .int (i ^ j.toNat)) powD := by
  intro F H ca c x y d c' v u s k rx ry h Q q
  unfold powD at h
  split at h
  · split at h
    · rename_i hc
      cases h; cases rx; cases ry
      exact ⟨_, _, rfl, rfl, hc, scalar_end s k (.int _) q⟩
    · cases h
  · cases h
/-! ### comparisons -/
mutual
def D.toPy : D → PyData
  | .non => .none
  | .bl b => .bool b
  | .int i => .int i
  | .str x => .str x
  | .tup xs => .tuple (D.toPys xs)
  | .lst xs => .list (D.toPys xs)
  | .cup => .dict []
  | .own _ => .dict []
  | .scr _ => .dict []
def D.toPys : List D → List PyData
  | [] => []
  | x :: xs => D.toPy x :: D.toPys xs
end
def D.shp (d : D) : Bool := SeqAt.shaped d.toPy
def D.eqv (x y : D) : Bool := PyData.eqv x.toPy y.toPy
mutual
theorem dp_of {F H : Hp} {ca : Addr} (s : Evl.Ex F H) : ∀ (d : D) (v : V), Rep K F ca v d → PyData.canLay0 d.toPy = true → Dp K H v d.toPy
  | .non, _, h, _ => by cases h; exact .non
  | .bl b, _, h, _ => by cases h; exact .bl b
  | .int i, _, h, _ => by cases h; exact .int i
  | .str x, _, h, _ => by cases h; exact .str x
  | .tup ds, v, h, l => by
    obtain ⟨a, vs, rfl, ha, ra⟩ := rep_tup_inv h
    exact .tup (Evl.ex_t s ha) (dp_all s ds vs ra l)
  | .lst ds, v, h, l => by
    obtain ⟨a, vs, rfl, ha, ra⟩ := rep_lst_inv h
    exact .lst (.inl (.inl (s _ _ ha))) (dp_all s ds vs ra l)
  | .cup, _, _, l => by simp [D.toPy, PyData.canLay0] at l
  | .own _, _, _, l => by simp [D.toPy, PyData.canLay0] at l
  | .scr _, _, _, l => by simp [D.toPy, PyData.canLay0] at l
theorem dp_all {F H : Hp} {ca : Addr} (s : Evl.Ex F H) : ∀ (ds : List D) (vs : List V), Reps K F ca vs ds → PyData.canLayAll0 (D.toPys ds) = true → DpAll K H vs (D.toPys ds)
  | [], _, h, _ => by cases h; exact .nil
  | d :: ds, _, h, l => by
    cases h with
    | cons h1 h2 =>
      simp only [D.toPys, PyData.canLayAll0, Bool.and_eq_true] at l
      exact .cons (dp_of s d _ h1 l.1) (dp_all s ds _ h2 l.2)
end
def eqD (x y : D) : M D := if x.shp = true ∧ y.shp = true then pure (.bl (x.eqv y)) else M.stuck
def neD (x y : D) : M D := if x.shp = true ∧ y.shp = true then pure (.bl (!x.eqv y)) else M.stuck
theorem op2_eq : Op2 K (rEqD K) eqD := by
  intro F H ca c x y d c' v u s k rx ry h Q q
  unfold eqD at h
  split at h
  · rename_i hs
    cases h
    exact ⟨_, _, dp_of s x v rx (SeqAt.canLay_of_shaped hs.1), dp_of s y u ry (SeqAt.canLay_of_shaped hs.2), hs.1, hs.2, scalar_end s k (.bl _) q⟩
  · cases h
theorem op2_ne : Op2 K (rNeD K) neD := by
  intro F H ca c x y d c' v u s k rx ry h Q q
  unfold neD at h
  split at h
  · rename_i hs
    cases h
    exact ⟨_, _, dp_of s x v rx (SeqAt.canLay_of_shaped hs.1), dp_of s y u ry (SeqAt.canLay_of_shaped hs.2), hs.1, hs.2, scalar_end s k (.bl _) q⟩
  · cases h
def cmpD (p : Int → Int → Bool) (x y : D) : M D := match x, y with
  | .int i, .int j => pure (.bl (p i j))
  | _, _ => M.stuck
abbrev ltD := cmpD fun i j => decide (i < j)
abbrev leD := cmpD fun i j => decide (i ≤ j)
abbrev gtD := cmpD fun i j => decide (j < i)
abbrev geD := cmpD fun i j => decide (j ≤ i)
theorem op2_cmp {p : Int → Int → Bool} : Op2 K (rI0 fun i j => .bl (p i j)) (cmpD p) := by
  intro F H ca c x y d c' v u s k rx ry h Q q
  unfold cmpD at h
  split at h
  · cases h; cases rx; cases ry
    exact ⟨_, _, rfl, rfl, scalar_end s k (.bl _) q⟩
  · cases h
def isN (x y : D) : M D := match y with
  | .non => pure (.bl (match x with | .non => true | _ => false))
  | _ => M.stuck
def notN (x y : D) : M D := match y with
  | .non => pure (.bl (match x with | .non => false | _ => true))
  | _ => M.stuck
theorem op2_isN : Op2 K (fun x y H Q => y = .non ∧ Q (.bl (decide (x = .non))) H) isN := by
  intro F H ca c x y d c' v u s k rx ry h Q q
  unfold isN at h
  split at h
  · cases h
    cases ry
    refine ⟨rfl, ?_⟩
    cases rx <;> exact scalar_end s k (.bl _) q
  · cases h
theorem op2_notN : Op2 K (fun x y H Q => y = .non ∧ Q (.bl (!decide (x = .non))) H) notN := by
  intro F H ca c x y d c' v u s k rx ry h Q q
  unfold notN at h
  split at h
  · cases h
    cases ry
    refine ⟨rfl, ?_⟩
    cases rx <;> exact scalar_end s k (.bl _) q
  · cases h
/-- is True, is False of a bool -/
def isB (x y : D) : M D := match x, y with
  | .bl a, .bl b => pure (.bl (decide (a = b)))
  | _, _ => M.stuck
def notB (x y : D) : M D := match x, y with
  | .bl a, .bl b => pure (.bl (!decide (a = b)))
  | _, _ => M.stuck
theorem op2_isB : Op2 K rIsB isB := by
  intro F H ca c x y d c' v u s k rx ry h Q q
  unfold isB at h
  split at h
  · cases h; cases rx; cases ry
    exact ⟨_, _, rfl, rfl, scalar_end s k (.bl _) q⟩
  · cases h
theorem op2_notB : Op2 K rNotB notB := by
  intro F H ca c x y d c' v u s k rx ry h Q q
  unfold notB at h
  split at h
  · cases h; cases rx; cases ry
    exact ⟨_, _, rfl, rfl, scalar_end s k (.bl _) q⟩
  · cases h
/-- in, not in: flat things in a tuple or list -/
def D.flat : D → Bool
  | .non => true | .bl _ => true | .int _ => true | .str _ => true
  | _ => false
def D.toV : D → V
  | .bl b => .bl b | .int i => .int i | .str x => .str x
  | _ => .non
def D.eqF (x y : D) : Bool := eqV x.toV y.toV
def inD (neg : Bool) (x y : D) : M D := match y with
  | .tup ys => if x.flat = true ∧ flatV x.toV = true ∧ ys.all D.flat = true ∧ (ys.all fun z => flatV z.toV) = true then pure (.bl (if neg then !(ys.any fun z => z.eqF x) else ys.any fun z => z.eqF x)) else M.stuck
  | .lst ys => if x.flat = true ∧ flatV x.toV = true ∧ ys.all D.flat = true ∧ (ys.all fun z => flatV z.toV) = true then pure (.bl (if neg then !(ys.any fun z => z.eqF x) else ys.any fun z => z.eqF x)) else M.stuck
  | _ => M.stuck
theorem flat_v {F : Hp} {ca : Addr} {v : V} {d : D} (r : Rep K F ca v d) (h : d.flat = true) : v = d.toV := by
  cases r <;> first | rfl | exact absurd h (by simp [D.flat])
theorem flat_vs {F : Hp} {ca : Addr} : ∀ {vs : List V} {ds : List D}, Reps K F ca vs ds → ds.all D.flat = true → vs = ds.map D.toV
  | _, _, .nil, _ => rfl
  | _, _, .cons r t, h => by
    simp only [List.all_cons, Bool.and_eq_true] at h
    rw [List.map_cons, flat_v r h.1, flat_vs t h.2]
theorem op2_in {neg : Bool} : Op2 K (rIn K neg) (inD neg) := by
  intro F H ca c x y d c' v u s k rx ry h Q q
  unfold inD at h
  split at h
  · split at h
    · rename_i ys hc
      obtain ⟨h1, h2, h3, h4⟩ := hc
      cases h
      obtain ⟨a, us, rfl, ha, ra⟩ := rep_tup_inv ry
      have e1 := flat_v rx h1
      have e2 := flat_vs ra h3
      subst e1 e2
      refine ⟨a, _, rfl, .inr (Evl.ex_t s ha), h2, ?_, ?_⟩
      · rw [List.all_map]; exact h4
      · have e : inV x.toV (ys.map D.toV) = ys.any fun z => z.eqF x := by unfold inV; rw [List.any_map]; rfl
        rw [e]
        exact scalar_end s k (.bl _) q
    · cases h
  · split at h
    · rename_i ys hc
      obtain ⟨h1, h2, h3, h4⟩ := hc
      cases h
      obtain ⟨a, us, rfl, ha, ra⟩ := rep_lst_inv ry
      have e1 := flat_v rx h1
      have e2 := flat_vs ra h3
      subst e1 e2
      refine ⟨a, _, rfl, .inl (.inl (.inl (s _ _ ha))), h2, ?_, ?_⟩
      · rw [List.all_map]; exact h4
      · have e : inV x.toV (ys.map D.toV) = ys.any fun z => z.eqF x := by unfold inV; rw [List.any_map]; rfl
        rw [e]
        exact scalar_end s k (.bl _) q
    · cases h
  · cases h
end
end DL
namespace DL
open PySem PySem.Spec PyProof.Rows L2
/-! ### comparisons in a chain -/
structure DCh (X : Cx) (ops : List CmpOp) (es : List Expr) (m : D → ME) : Prop where
  val : ∀ (pos : Pos) (pins : List (Addr × Obj)) (s : Shared) (σ : L2.St) (H : Hp) (Q : VK) (v : V) (a : Value) (F : Hp) (ca : Addr) (c : Cup) (ρ : Env) (x d : D) (c' : Cup), Inv X pins σ H s → RelV v a → EnvOk X.K F H ca c ρ σ → Evl.Ex F H → CupOk H F ca c → Rep X.K F ca v x →
    m x ρ c = .ok d c' → (∀ w H' F', Ext ca c c' F H F' H' → Rep X.K F' ca w d → Q w H') → wpAny (model X.prog X.w) X.A (compareChain pos a ops (evalEach es X.env)) (EP X pins σ Q) X.xe s
  test : ∀ (pos : Pos) (pins : List (Addr × Obj)) (s : Shared) (σ : L2.St) (H : Hp) (Q : Bool → Hp → Prop) (v : V) (a : Value) (F : Hp) (ca : Addr) (c : Cup) (ρ : Env) (x : D) (k : Bool) (c' : Cup), Inv X pins σ H s → RelV v a → EnvOk X.K F H ca c ρ σ → Evl.Ex F H → CupOk H F ca c → Rep X.K F ca v x →
    m x ρ c = .ok (.bl k) c' → (∀ H' F', Ext ca c c' F H F' H' → Q k H') → wpAny (model X.prog X.w) X.A (testChain pos a ops (evalEach es X.env)) (TP X pins σ Q) X.xe s
def mLast (f : D → D → M D) (me : ME) : D → ME := fun x ρ => do
  let y ← me ρ
  f x y
def mLink (f : D → D → M D) (me : ME) (m : D → ME) : D → ME := fun x ρ => do
  let y ← me ρ
  let z ← f x y
  let k ← asB z
  if k then m y ρ else pure (.bl false)
def mChain (ma : ME) (m : D → ME) : ME := fun ρ => do
  let x ← ma ρ
  m x ρ
section
variable {X : Cx} {a e e' : Expr} {es : List Expr} {ma me : ME} {f : D → D → M D} {rr : R2} {op op' : CmpOp} {ops : List CmpOp}
theorem ch_last (hf : Op2 X.K rr f) (ho : OpR X (compareOp op) rr) (he : PD X e me) : DCh X [op] [e] (mLast f me) where
  val := fun pos pins s σ H Q v a F ca c ρ x d c' I r E sb k rx h q => by
    obtain ⟨y, c1, h1, h2⟩ := bind_ok h
    refine chain_last (thn (he.run pins s σ H (fun u H1 => ∃ F1, Ext ca c c1 F H F1 H1 ∧ Rep X.K F1 ca u y) I ⟨F, ca, c, ρ, y, c1, E, sb, k, h1, fun u H1 F1 e1 r1 => ⟨F1, e1, r1⟩⟩) fun b s1 ⟨u, H1, I1, ru, F1, e1, r1⟩ => ?_)
    exact ho pins s1 σ H1 v u a b Q I1 r ru (hf F1 H1 ca c1 x y d c' v u e1.sub e1.cup (rx.mono e1.ff) r1 h2 Q fun w H2 F2 e2 r2 => q w H2 F2 (e1.trans e2) r2)
  test := fun pos pins s σ H Q v a F ca c ρ x k' c' I r E sb k rx h q => by
    obtain ⟨y, c1, h1, h2⟩ := bind_ok h
    refine test_last (thn (he.run pins s σ H (fun u H1 => ∃ F1, Ext ca c c1 F H F1 H1 ∧ Rep X.K F1 ca u y) I ⟨F, ca, c, ρ, y, c1, E, sb, k, h1, fun u H1 F1 e1 r1 => ⟨F1, e1, r1⟩⟩) fun b s1 ⟨u, H1, I1, ru, F1, e1, r1⟩ => ?_)
    refine thn (ho pins s1 σ H1 v u a b (fun w H2 => w = .bl k' ∧ Q k' H2) I1 r ru (hf F1 H1 ca c1 x y _ c' v u e1.sub e1.cup (rx.mono e1.ff) r1 h2 _ fun w H2 F2 e2 r2 => ⟨rep_bl_inv r2, q H2 F2 (e1.trans e2)⟩)) fun z s2 ⟨w, H2, I2, rw2, ew, q2⟩ => ?_
    subst ew
    cases rw2
    exact wpAny_truthy_bool ⟨H2, I2, q2⟩
theorem ch_link {m : D → ME} (hf : Op2 X.K rr f) (ho : OpR X (compareOp op) rr) (he : PD X e me) (hr : DCh X (op' :: ops) (e' :: es) m) : DCh X (op :: op' :: ops) (e :: e' :: es) (mLink f me m) where
  val := fun pos pins s σ H Q v a F ca c ρ x d c' I r E sb k rx h q => by
    obtain ⟨y, c1, h1, h⟩ := bind_ok h
    obtain ⟨z, c2, h2, h⟩ := bind_ok h
    obtain ⟨t, c3, h3, h⟩ := bind_ok h
    obtain ⟨rfl, rfl⟩ := asB_ok h3
    refine chain_link (thn (he.run pins s σ H (fun u H1 => ∃ F1, Ext ca c c1 F H F1 H1 ∧ Rep X.K F1 ca u y) I ⟨F, ca, c, ρ, y, c1, E, sb, k, h1, fun u H1 F1 e1 r1 => ⟨F1, e1, r1⟩⟩) fun b s1 ⟨u, H1, I1, ru, F1, e1, r1⟩ => ?_)
    refine thn (ho pins s1 σ H1 v u a b (fun w H2 => w = .bl t ∧ ∃ F2, Ext ca c1 c3 F1 H1 F2 H2) I1 r ru (hf F1 H1 ca c1 x y _ c3 v u e1.sub e1.cup (rx.mono e1.ff) r1 h2 _ fun w H2 F2 e2 r2 => ⟨rep_bl_inv r2, F2, e2⟩)) fun z s2 ⟨w, H2, I2, rw2, ew, F2, e2⟩ => ?_
    subst ew
    cases rw2
    have e12 := e1.trans e2
    refine wpAny_truthy_bool ?_
    cases t with
    | false =>
      obtain ⟨rfl, rfl⟩ := pure_ok h
      exact ite_ff ⟨.bl false, H2, I2, rfl, q _ _ F2 e12 (.bl false)⟩
    | true =>
      exact ite_tt (hr.val pos pins s2 σ H2 Q u b F2 ca c3 ρ y d c' I2 ru (E.ext e12) e2.sub e2.cup (r1.mono e2.ff) h fun w H3 F3 e3 r3 => q w H3 F3 (e12.trans e3) r3)
  test := fun pos pins s σ H Q v a F ca c ρ x k' c' I r E sb k rx h q => by
    obtain ⟨y, c1, h1, h⟩ := bind_ok h
    obtain ⟨z, c2, h2, h⟩ := bind_ok h
    obtain ⟨t, c3, h3, h⟩ := bind_ok h
    obtain ⟨rfl, rfl⟩ := asB_ok h3
    refine test_link (thn (he.run pins s σ H (fun u H1 => ∃ F1, Ext ca c c1 F H F1 H1 ∧ Rep X.K F1 ca u y) I ⟨F, ca, c, ρ, y, c1, E, sb, k, h1, fun u H1 F1 e1 r1 => ⟨F1, e1, r1⟩⟩) fun b s1 ⟨u, H1, I1, ru, F1, e1, r1⟩ => ?_)
    refine thn (ho pins s1 σ H1 v u a b (fun w H2 => w = .bl t ∧ ∃ F2, Ext ca c1 c3 F1 H1 F2 H2) I1 r ru (hf F1 H1 ca c1 x y _ c3 v u e1.sub e1.cup (rx.mono e1.ff) r1 h2 _ fun w H2 F2 e2 r2 => ⟨rep_bl_inv r2, F2, e2⟩)) fun z s2 ⟨w, H2, I2, rw2, ew, F2, e2⟩ => ?_
    subst ew
    cases rw2
    have e12 := e1.trans e2
    refine wpAny_truthy_bool ?_
    cases t with
    | false =>
      obtain ⟨h, rfl⟩ := pure_ok h
      cases h
      exact ite_ff ⟨H2, I2, q _ F2 e12⟩
    | true =>
      exact ite_tt (hr.test pos pins s2 σ H2 Q u b F2 ca c3 ρ y k' c' I2 ru (E.ext e12) e2.sub e2.cup (r1.mono e2.ff) h fun H3 F3 e3 => q H3 F3 (e12.trans e3))
theorem pd_chain {m : D → ME} {pos : Pos} (ha : PD X a ma) (h : DCh X (op :: op' :: ops) (e :: e' :: es) m) (hm : lastMarks (op :: op' :: ops) (e :: e' :: es) = false := by with_unfolding_all rfl) : PD X (.Compare a (op :: op' :: ops) (e :: e' :: es) pos) (mChain ma m) := by
  refine ⟨fun pins s σ H Q I ⟨F, ca, c, ρ, d, c', E, sb, k, hm', q⟩ => ?_⟩
  obtain ⟨x, c1, h1, h2⟩ := bind_ok hm'
  refine Compare_chain (thn (ha.run pins s σ H (fun u H1 => ∃ F1, Ext ca c c1 F H F1 H1 ∧ Rep X.K F1 ca u x) I ⟨F, ca, c, ρ, x, c1, E, sb, k, h1, fun u H1 F1 e1 r1 => ⟨F1, e1, r1⟩⟩) fun b s1 ⟨u, H1, I1, ru, F1, e1, r1⟩ => ?_) hm
  exact h.val pos pins s1 σ H1 Q u b F1 ca c1 ρ x d c' I1 ru (E.ext e1) e1.sub e1.cup r1 h2 fun w H2 F2 e2 r2 => q w H2 F2 (e1.trans e2) r2
theorem pdt_chain {m : D → ME} {pos : Pos} (ha : PD X a ma) (h : DCh X (op :: op' :: ops) (e :: e' :: es) m) (hm : lastMarks (op :: op' :: ops) (e :: e' :: es) = false := by with_unfolding_all rfl) : PDT X (.Compare a (op :: op' :: ops) (e :: e' :: es) pos) (mB (mChain ma m)) := by
  refine ⟨fun pins s σ H Q I ⟨F, ca, c, ρ, d, c', E, sb, k, hm', q⟩ => ?_⟩
  obtain ⟨z, c0, h0, hz⟩ := bind_ok hm'
  obtain ⟨rfl, rfl⟩ := asB_ok hz
  obtain ⟨x, c1, h1, h2⟩ := bind_ok h0
  refine isTrue_chain (thn (ha.run pins s σ H (fun u H1 => ∃ F1, Ext ca c c1 F H F1 H1 ∧ Rep X.K F1 ca u x) I ⟨F, ca, c, ρ, x, c1, E, sb, k, h1, fun u H1 F1 e1 r1 => ⟨F1, e1, r1⟩⟩) fun b s1 ⟨u, H1, I1, ru, F1, e1, r1⟩ => ?_) hm
  exact h.test pos pins s1 σ H1 Q u b F1 ca c1 ρ x d _ I1 ru (E.ext e1) e1.sub e1.cup r1 h2 fun H2 F2 e2 => q H2 F2 (e1.trans e2)
end
/-! ### tests -/
def mNotB (m : MB) : MB := fun ρ => do
  let b ← m ρ
  pure (!b)
def mAndB (m n : MB) : MB := fun ρ => do
  let b ← m ρ
  if b then n ρ else pure false
def mOrB (m n : MB) : MB := fun ρ => do
  let b ← m ρ
  if b then pure true else n ρ
def mNotD (m : ME) : ME := fun ρ => do
  let x ← m ρ
  let b ← asB x
  pure (.bl (!b))
def mAndD (m n : ME) : ME := fun ρ => do
  let x ← m ρ
  let b ← asB x
  if b then n ρ else pure (.bl false)
def mOrD (m n : ME) : ME := fun ρ => do
  let x ← m ρ
  let b ← asB x
  if b then pure (.bl true) else n ρ
def mIf (t : MB) (m n : ME) : ME := fun ρ => do
  let b ← t ρ
  if b then m ρ else n ρ
section
variable {X : Cx} {a b e : Expr} {rest : List Expr} {ma mb : ME} {ta tb : MB} {pos : Pos} {f : D → D → M D} {rr : R2} {op : CmpOp}
theorem tTest_of {t : TE} {K : PySem.W.Frag} {m : ME} {σ : L2.St} {H : Hp} {Q : Bool → Hp → Prop} (ht : ∀ R : VK, tE K m σ H R → t σ H R) (h : tT K (mB m) σ H Q) : t σ H fun x H' => ∃ k, x = .bl k ∧ Q k H' := by
  obtain ⟨F, ca, c, ρ, d, c', E, s, k, hm, q⟩ := h
  obtain ⟨x, c1, h1, hm⟩ := bind_ok hm
  obtain ⟨rfl, rfl⟩ := asB_ok hm
  exact ht _ ⟨F, ca, c, ρ, _, _, E, s, k, h1, fun v H1 F1 e1 r1 => ⟨d, rep_bl_inv r1, q H1 F1 e1⟩⟩
theorem pdt_cmp (hf : Op2 X.K rr f) (ho : OpR X (compareOp op) rr) (hm : behindInMarks op b = false) (ha : PD X a ma) (hb : PD X b mb) : PDT X (.Compare a [op] [b] pos) (mB (mOp f ma mb)) :=
  pt_imp (pt_cmpR ho ha hb hm) fun _ _ _ h => tTest_of (fun _ z => tOp_of hf z) h
theorem pdt_val (h : PD X e ma) (he : ∀ whole, isTrue e X.env whole = (do let v ← whole; standAt e.pos; holding [v] (truthy v)) := by intro _; rfl) : PDT X e (mB ma) :=
  pt_imp (pt_val h he) fun _ _ _ h => tTest_of (fun _ z => z) h
theorem pdt_not (h : PDT X a ta) : PDT X (.UnaryOp .Not a pos) (mNotB ta) := pt_imp (pt_not h) fun σ H Q ⟨F, ca, c, ρ, d, c', E, s, k, hm, q⟩ => by
  obtain ⟨x, c1, h1, hm⟩ := bind_ok hm
  obtain ⟨rfl, rfl⟩ := pure_ok hm
  exact ⟨F, ca, c, ρ, x, _, E, s, k, h1, q⟩
theorem pdw_and1 (h : PDT X a ta) : PDW X (.BoolOp .And [a] pos) ta := pw_and1 h
theorem pdw_or1 (h : PDT X a ta) : PDW X (.BoolOp .Or [a] pos) ta := pw_or1 h
theorem pdw_and (ha : PDT X a ta) (hb : PDW X (.BoolOp .And (b :: rest) pos) tb) : PDW X (.BoolOp .And (a :: b :: rest) pos) (mAndB ta tb) := pw_imp (pw_and ha hb) fun σ H Q ⟨F, ca, c, ρ, d, c', E, s, k, hm, q⟩ => by
  obtain ⟨x, c1, h1, hm⟩ := bind_ok hm
  refine ⟨F, ca, c, ρ, x, c1, E, s, k, h1, fun H1 F1 e1 => ?_⟩
  cases x with
  | true => exact ⟨F1, ca, c1, ρ, d, c', E.ext e1, e1.sub, e1.cup, hm, fun H2 F2 e2 => q H2 F2 (e1.trans e2)⟩
  | false =>
    obtain ⟨rfl, rfl⟩ := pure_ok hm
    exact q H1 F1 e1
theorem pdw_or (ha : PDT X a ta) (hb : PDW X (.BoolOp .Or (b :: rest) pos) tb) : PDW X (.BoolOp .Or (a :: b :: rest) pos) (mOrB ta tb) := pw_imp (pw_or ha hb) fun σ H Q ⟨F, ca, c, ρ, d, c', E, s, k, hm, q⟩ => by
  obtain ⟨x, c1, h1, hm⟩ := bind_ok hm
  refine ⟨F, ca, c, ρ, x, c1, E, s, k, h1, fun H1 F1 e1 => ?_⟩
  cases x with
  | false => exact ⟨F1, ca, c1, ρ, d, c', E.ext e1, e1.sub, e1.cup, hm, fun H2 F2 e2 => q H2 F2 (e1.trans e2)⟩
  | true =>
    obtain ⟨rfl, rfl⟩ := pure_ok hm
    exact q H1 F1 e1
theorem pdt_w (h : PDW X a ta) : PDT X a ta := h.pt
theorem pd_one {op : BoolOp} (h : PD X a ma) : PD X (.BoolOp op [a] pos) ma := pe_one h
theorem pd_and (ha : PD X a ma) (hb : PD X (.BoolOp .And (b :: rest) pos) mb) : PD X (.BoolOp .And (a :: b :: rest) pos) (mAndD ma mb) := pe_imp (pe_and ha hb) fun σ H Q ⟨F, ca, c, ρ, d, c', E, s, k, hm, q⟩ => by
  obtain ⟨x, c1, h1, hm⟩ := bind_ok hm
  obtain ⟨y, c2, h2, hm⟩ := bind_ok hm
  obtain ⟨rfl, rfl⟩ := asB_ok h2
  refine ⟨F, ca, c, ρ, _, _, E, s, k, h1, fun v H1 F1 e1 r1 => ⟨y, rep_bl_inv r1, ?_⟩⟩
  cases y with
  | true => exact ⟨F1, ca, _, ρ, d, c', E.ext e1, e1.sub, e1.cup, hm, fun w H2 F2 e2 r2 => q w H2 F2 (e1.trans e2) r2⟩
  | false =>
    obtain ⟨rfl, rfl⟩ := pure_ok hm
    exact q _ H1 F1 e1 (.bl false)
theorem pd_or (ha : PD X a ma) (hb : PD X (.BoolOp .Or (b :: rest) pos) mb) : PD X (.BoolOp .Or (a :: b :: rest) pos) (mOrD ma mb) := pe_imp (pe_or ha hb) fun σ H Q ⟨F, ca, c, ρ, d, c', E, s, k, hm, q⟩ => by
  obtain ⟨x, c1, h1, hm⟩ := bind_ok hm
  obtain ⟨y, c2, h2, hm⟩ := bind_ok hm
  obtain ⟨rfl, rfl⟩ := asB_ok h2
  refine ⟨F, ca, c, ρ, _, _, E, s, k, h1, fun v H1 F1 e1 r1 => ⟨y, rep_bl_inv r1, ?_⟩⟩
  cases y with
  | false => exact ⟨F1, ca, _, ρ, d, c', E.ext e1, e1.sub, e1.cup, hm, fun w H2 F2 e2 r2 => q w H2 F2 (e1.trans e2) r2⟩
  | true =>
    obtain ⟨rfl, rfl⟩ := pure_ok hm
    exact q _ H1 F1 e1 (.bl true)
theorem pd_not (h : PD X a ma) : PD X (.UnaryOp .Not a pos) (mNotD ma) := pe_imp (pe_not h) fun σ H Q ⟨F, ca, c, ρ, d, c', E, s, k, hm, q⟩ => by
  obtain ⟨x, c1, h1, hm⟩ := bind_ok hm
  obtain ⟨y, c2, h2, hm⟩ := bind_ok hm
  obtain ⟨rfl, rfl⟩ := asB_ok h2
  obtain ⟨rfl, rfl⟩ := pure_ok hm
  exact ⟨F, ca, c, ρ, _, _, E, s, k, h1, fun v H1 F1 e1 r1 => ⟨y, rep_bl_inv r1, q _ H1 F1 e1 (.bl _)⟩⟩
theorem pd_if (ht : PDT X e ta) (ha : PD X a ma) (hb : PD X b mb) : PD X (.IfExp e a b pos) (mIf ta ma mb) := pe_imp (pe_ifExp ht ha hb) fun σ H Q ⟨F, ca, c, ρ, d, c', E, s, k, hm, q⟩ => by
  obtain ⟨x, c1, h1, hm⟩ := bind_ok hm
  refine ⟨F, ca, c, ρ, x, c1, E, s, k, h1, fun H1 F1 e1 => ?_⟩
  cases x with
  | true => exact ⟨F1, ca, c1, ρ, d, c', E.ext e1, e1.sub, e1.cup, hm, fun v H2 F2 e2 r2 => q v H2 F2 (e1.trans e2) r2⟩
  | false => exact ⟨F1, ca, c1, ρ, d, c', E.ext e1, e1.sub, e1.cup, hm, fun v H2 F2 e2 r2 => q v H2 F2 (e1.trans e2) r2⟩
/-! ### displays, -e -/
def mTup (r : MA) : ME := fun ρ => do
  let ds ← r ρ
  if ds.length ≤ 1000000 then pure (.tup ds) else M.stuck
def mLst (r : MA) : ME := fun ρ => do
  let ds ← r ρ
  if ds.length ≤ 1000000 then pure (.lst ds) else M.stuck
def mNeg (m : ME) : ME := fun ρ => do
  let x ← m ρ
  match x with
  | .int i => pure (.int (-i))
  | _ => M.stuck
theorem pd_tup {es : List Expr} {r : MA} {x1 : Nat} (h : PDA X es r) : PD X (.Tuple es x1 pos) (mTup r) := pe_imp (pe_tup h) fun σ H Q ⟨F, ca, c, ρ, d, c', E, s, k, hm, q⟩ => by
  obtain ⟨ds, c1, h1, hm⟩ := bind_ok hm
  by_cases hl : ds.length ≤ 1000000
  · rw [if_pos hl] at hm
    obtain ⟨rfl, rfl⟩ := pure_ok hm
    refine ⟨F, ca, c, ρ, ds, _, E, s, k, h1, fun vs H1 F1 e1 r1 => ⟨by rw [pd_len r1]; exact sz_of hl, fun p hp => ?_⟩⟩
    have e2 := Ext.laid (o := .tup vs) e1.sub e1.cup hp
    exact q _ _ _ (e1.trans e2) (rep_tup (SqT.of upd_same) (reps_mono e2.ff r1))
  · rw [if_neg hl] at hm
    cases hm
theorem pd_lst {es : List Expr} {r : MA} (h : PDA X es r) : PD X (.List es pos) (mLst r) := pe_imp (pe_lst h) fun σ H Q ⟨F, ca, c, ρ, d, c', E, s, k, hm, q⟩ => by
  obtain ⟨ds, c1, h1, hm⟩ := bind_ok hm
  by_cases hl : ds.length ≤ 1000000
  · rw [if_pos hl] at hm
    obtain ⟨rfl, rfl⟩ := pure_ok hm
    refine ⟨F, ca, c, ρ, ds, _, E, s, k, h1, fun vs H1 F1 e1 r1 => ⟨by rw [pd_len r1]; exact sz_of hl, fun p hp => ?_⟩⟩
    have e2 := Ext.laid (o := .lst vs) e1.sub e1.cup hp
    exact q _ _ _ (e1.trans e2) (rep_lst upd_same (reps_mono e2.ff r1))
  · rw [if_neg hl] at hm
    cases hm
theorem pd_neg (h : PD X a ma) : PD X (.UnaryOp .USub a pos) (mNeg ma) := pe_imp (pe_un un_neg h) fun σ H Q ⟨F, ca, c, ρ, d, c', E, s, k, hm, q⟩ => by
  obtain ⟨x, c1, h1, hm⟩ := bind_ok hm
  cases x <;> simp only at hm <;> first
    | (cases hm; done)
    | (obtain ⟨rfl, rfl⟩ := pure_ok hm
       exact ⟨F, ca, c, ρ, _, _, E, s, k, h1, fun v H1 F1 e1 r1 => ⟨_, rep_int_inv r1, q _ H1 F1 e1 (.int _)⟩⟩)
end
/-! ### subscripts -/
def ixD (x y : D) : M D := match x, y with
  | .tup xs, .int i => match atI xs i with
    | some d => pure d
    | none => M.stuck
  | .lst xs, .int i => match atI xs i with
    | some d => pure d
    | none => M.stuck
  | _, _ => M.stuck
def rIxA (K : PySem.W.Frag) : R2 := fun x y H Q => rIxL K x y H Q ∨ rIxT K x y H Q
section
variable {X : Cx} {K : PySem.W.Frag}
theorem atI_pd {R : V → D → Prop} {vs : List V} {ds : List D} {i : Int} {d : D} (r : Paired R vs ds) (h : atI ds i = some d) : ∃ v, atI vs i = some v ∧ R v d := by
  unfold atI at h ⊢
  rw [pd_len r]
  cases e : ixN ds.length i with
  | none => rw [e] at h; cases h
  | some j =>
    rw [e] at h
    exact pd_get r h
theorem op2_ix : Op2 K (rIxA K) ixD := by
  intro F H ca c x y d c' v u s k rx ry h Q q
  unfold ixD at h
  split at h
  · rename_i xs i
    cases ed : atI xs i with
    | none => simp only [ed] at h; cases h
    | some d' =>
      simp only [ed] at h
      cases h
      obtain ⟨a, vs, rfl, ha, ra⟩ := rep_tup_inv rx
      cases ry
      obtain ⟨w, h1, h2⟩ := atI_pd ra ed
      exact .inr ⟨a, vs, i, w, rfl, rfl, Evl.ex_t s ha, h1, scalar_end s k h2 q⟩
  · rename_i xs i
    cases ed : atI xs i with
    | none => simp only [ed] at h; cases h
    | some d' =>
      simp only [ed] at h
      cases h
      obtain ⟨a, vs, rfl, ha, ra⟩ := rep_lst_inv rx
      cases ry
      obtain ⟨w, h1, h2⟩ := atI_pd ra ed
      exact .inl ⟨a, vs, i, w, rfl, rfl, .inl (.inl (s _ _ ha)), h1, scalar_end s k h2 q⟩
  · cases h
theorem pd_ix {a b : Expr} {ma mb : ME} {pos : Pos} (ha : PD X a ma) (hb : PD X b mb) (hs : PlainIx b := by intro _ _; rfl) : PD X (.Subscript a b pos) (mOp ixD ma mb) :=
  pe_imp (pe_ix (ix_list.or ix_tup) ha hb hs) fun _ _ _ h => tOp_of op2_ix h
/-- cup[i] -/
def mCupIx (i : Nat) (j : Int) : ME := fun ρ c => match ρ[i]?, c with
  | some (some .cup), some (x, y) => if j = 0 then .ok (.int x) c else if j = 1 then .ok (.int y) c else .stuck
  | _, _ => .stuck
theorem pd_cupIx {x : Str} {p0 p1 pos : Pos} {j : Nat} {n : Int} (i : Nat) (hv : PE X (.Name x p0) (tVar i)) (hs : PlainIx (.Constant (.int n) j p1) := by intro _ _; rfl) : PD X (.Subscript (.Name x p0) (.Constant (.int n) j p1) pos) (mCupIx i n) :=
  pe_imp (pe_ix ix_list hv pe_int hs) fun σ H Q ⟨F, ca, c, ρ, d, c', E, s, k, hm, q⟩ => by
    unfold mCupIx at hm
    split at hm
    · rename_i x0 y0 e1
      obtain ⟨v, h1, h2⟩ := E.at_ i .cup e1
      have h2 : Rep X.K F ca v .cup := h2
      cases h2
      refine ⟨_, h1, ca, [.int x0, .int y0], n, ?_⟩
      split at hm
      · rename_i hn
        cases hm
        exact ⟨.int x0, rfl, rfl, .inl (.inl k.1), by subst hn; rfl, scalar_end s k (.int _) q⟩
      · split at hm
        · rename_i hn
          cases hm
          exact ⟨.int y0, rfl, rfl, .inl (.inl k.1), by subst hn; rfl, scalar_end s k (.int _) q⟩
        · cases hm
    · cases hm
/-! ### slices -/
abbrev MO := Env → M (Option Int)
def tOD (K : PySem.W.Frag) (m : MO) : TO := fun σ H Q => ∃ F ca c ρ d c', EnvOk K F H ca c ρ σ ∧ Evl.Ex F H ∧ CupOk H F ca c ∧ m ρ c = .ok d c' ∧ ∀ H' F', Ext ca c c' F H F' H' → Q d H'
def mNoPart : MO := fun _ => pure none
def mPart (m : ME) : MO := fun ρ => do
  let x ← m ρ
  match x with
  | .int i => pure (some i)
  | _ => M.stuck
theorem po_imp {e : Option Expr} {t t' : TO} (h : PO X e t) (k : ∀ σ H Q, t' σ H Q → t σ H Q) : PO X e t' := ⟨fun pins s σ H Q I q => h.run pins s σ H Q I (k σ H Q q)⟩
theorem pdo_none : PO X none (tOD X.K mNoPart) := po_imp po_none fun σ H Q ⟨F, ca, c, ρ, d, c', E, s, k, hm, q⟩ => by
  obtain ⟨rfl, rfl⟩ := pure_ok hm
  exact q H F (Ext.refl s k)
theorem pdo_some {e : Expr} {m : ME} (h : PD X e m) : PO X (some e) (tOD X.K (mPart m)) := po_imp (po_some h) fun σ H Q ⟨F, ca, c, ρ, d, c', E, s, k, hm, q⟩ => by
  obtain ⟨x, c1, h1, hm⟩ := bind_ok hm
  cases x <;> simp only at hm <;> first
    | (cases hm; done)
    | (obtain ⟨rfl, rfl⟩ := pure_ok hm
       exact ⟨F, ca, c, ρ, _, _, E, s, k, h1, fun v H1 F1 e1 r1 => ⟨_, rep_int_inv r1, q H1 F1 e1⟩⟩)
def cutD (xs : List D) (lo hi : Option Int) : List D := (xs.drop (HT.sIx xs.length 0 lo)).take (HT.sIx xs.length xs.length hi - HT.sIx xs.length 0 lo)
theorem cut_pd {R : V → D → Prop} {vs : List V} {ds : List D} {lo hi : Option Int} (r : Paired R vs ds) : Paired R (cutV vs lo hi) (cutD ds lo hi) := by
  unfold cutV cutD
  rw [pd_len r]
  exact pd_take _ (pd_drop _ r)
def sliceD (x : D) (lo hi : Option Int) : M D := match x with
  | .tup xs => pure (.tup (cutD xs lo hi))
  | .lst xs => pure (.lst (cutD xs lo hi))
  | _ => M.stuck
def mSl (m : ME) (lo hi : MO) : ME := fun ρ => do
  let x ← m ρ
  let i ← lo ρ
  let j ← hi ρ
  sliceD x i j
theorem cut_whole {ds : List D} {lo hi : Option Int} (h : HT.sIx ds.length 0 lo = 0 ∧ HT.sIx ds.length ds.length hi = ds.length) : cutD ds lo hi = ds := by
  unfold cutD
  rw [h.1, h.2]
  simp
theorem pd_slice {e : Expr} {lo hi : Option Expr} {m : ME} {ml mh : MO} {p2 pos : Pos} (he : PD X e m) (hl : PO X lo (tOD X.K ml)) (hu : PO X hi (tOD X.K mh)) : PD X (.Subscript e (.Slice lo hi none p2) pos) (mSl m ml mh) :=
  pe_imp (pe_slice (sl_list.or sl_tupA) he hl hu) fun σ H Q ⟨F, ca, c, ρ, d, c', E, s, k, hm, q⟩ => by
    obtain ⟨x, c1, h1, hm⟩ := bind_ok hm
    obtain ⟨i, c2, h2, hm⟩ := bind_ok hm
    obtain ⟨j, c3, h3, hm⟩ := bind_ok hm
    refine ⟨F, ca, c, ρ, x, c1, E, s, k, h1, fun v H1 F1 e1 r1 => ?_⟩
    refine ⟨F1, ca, c1, ρ, i, c2, E.ext e1, e1.sub, e1.cup, h2, fun H2 F2 e2 => ?_⟩
    refine ⟨F2, ca, c2, ρ, j, c3, (E.ext e1).ext e2, e2.sub, e2.cup, h3, fun H3 F3 e3 => ?_⟩
    have e123 := (e1.trans e2).trans e3
    have rx := r1.mono (e2.trans e3).ff
    unfold sliceD at hm
    split at hm
    · obtain ⟨rfl, rfl⟩ := pure_ok hm
      obtain ⟨a, vs, rfl, ha, ra⟩ := rep_tup_inv rx
      refine .inr ⟨a, vs, rfl, Evl.ex_t e3.sub ha, fun hw => ?_, fun hw p hp => ?_⟩
      · rw [pd_len ra] at hw
        rw [cut_whole hw] at q
        exact q _ H3 F3 e123 (rep_tup ha ra)
      · have e4 := Ext.laid (o := .tup (cutV vs i j)) e3.sub e3.cup hp
        exact q _ _ _ (e123.trans e4) (rep_tup (SqT.of upd_same) (reps_mono e4.ff (cut_pd ra)))
    · obtain ⟨rfl, rfl⟩ := pure_ok hm
      obtain ⟨a, vs, rfl, ha, ra⟩ := rep_lst_inv rx
      refine .inl ⟨a, vs, rfl, .inl (.inl (e3.sub _ _ ha)), fun p hp => ?_⟩
      have e4 := Ext.laid (o := .lst (cutV vs i j)) e3.sub e3.cup hp
      exact q _ _ _ (e123.trans e4) (rep_lst upd_same (reps_mono e4.ff (cut_pd ra)))
    · cases hm
/-- xs[::-1] of a list -/
def revD (x : D) : M D := match x with
  | .lst xs => pure (.lst xs.reverse)
  | _ => M.stuck
def mUn (f : D → M D) (m : ME) : ME := fun ρ => do
  let x ← m ρ
  f x
theorem pd_revL {e : Expr} {m : ME} {k : Nat} {p1 p2 p3 pos : Pos} (he : PD X e m) : PD X (.Subscript e (.Slice none none (some (.UnaryOp .USub (.Constant (.int 1) k p1) p2)) p3) pos) (mUn revD m) :=
  pe_imp (pe_revL he) fun σ H Q ⟨F, ca, c, ρ, d, c', E, s, k, hm, q⟩ => by
    obtain ⟨x, c1, h1, hm⟩ := bind_ok hm
    refine ⟨F, ca, c, ρ, x, c1, E, s, k, h1, fun v H1 F1 e1 r1 => ?_⟩
    unfold revD at hm
    split at hm
    · obtain ⟨rfl, rfl⟩ := pure_ok hm
      obtain ⟨a, vs, rfl, ha, ra⟩ := rep_lst_inv r1
      refine ⟨a, vs, rfl, .inl (.inl (e1.sub _ _ ha)), fun p hp => ?_⟩
      have e4 := Ext.laid (o := .lst vs.reverse) e1.sub e1.cup hp
      exact q _ _ _ (e1.trans e4) (rep_lst upd_same (reps_mono e4.ff (pd_rev ra)))
    · cases hm
end
end DL
namespace DL
open PySem PySem.Spec PyProof.Rows L2
/-! ### calls of built-ins -/
def OpC (K : PySem.W.Frag) (r : List V → Hp → VK → Prop) (f : List D → M D) : Prop := ∀ (F H : Hp) (ca : Addr) (c : Cup) (ds : List D) (d : D) (c' : Cup) (vs : List V), Evl.Ex F H → CupOk H F ca c → Reps K F ca vs ds → f ds c = .ok d c' →
  ∀ Q : VK, (∀ w H' F', Ext ca c c' F H F' H' → Rep K F' ca w d → Q w H') → r vs H Q
def mCall (f : List D → M D) (r : MA) : ME := fun ρ => do
  let ds ← r ρ
  f ds
section
variable {X : Cx} {K : PySem.W.Frag} {e : Expr} {es : List Expr} {r : MA} {f : List D → M D} {x : Str} {p pos : Pos} {rr : List V → Hp → VK → Prop} {id T : String}
theorem tCB_of (hf : OpC K rr f) {σ : L2.St} {H : Hp} {Q : VK} (h : tE K (mCall f r) σ H Q) : tCB rr (tAr K r) σ H Q := by
  obtain ⟨F, ca, c, ρ, d, c', E, s, k, hm, q⟩ := h
  obtain ⟨ds, c1, h1, hm⟩ := bind_ok hm
  refine ⟨F, ca, c, ρ, ds, c1, E, s, k, h1, fun vs H1 F1 e1 r1 => ?_⟩
  exact hf F1 H1 ca c1 ds d c' vs e1.sub e1.cup r1 hm Q fun w H2 F2 e2 r2 => q w H2 F2 (e1.trans e2) r2
theorem pd_callB (hf : OpC X.K rr f) (hc : CallR X (.builtin id) rr) (hg : Gl X x) (hm : X.mg x = none) (hv : bootBuiltins x = some (.builtin id)) (ha : PDA X (e :: es) r) (hn : x ≠ "__name__" := by decide) (hdb : (x == ("__debug__" : Str)) = false := by decide)
    (he : starEach (e :: es) X.env = (false, eval e X.env) :: starEach es X.env := by rfl) (hpl : (backTo pos (starEach es X.env)).any (·.1) = false := by rfl) : PD X (.Call (.Name x p) (e :: es) [] pos) (mCall f r) :=
  pe_imp (pe_callB hc hg hm hv ha hn hdb he hpl) fun _ _ _ h => tCB_of hf h
theorem pd_callTy (hf : OpC X.K rr f) (hc : CallR X (.type T) rr) (hg : Gl X x) (hm : X.mg x = none) (hv : bootBuiltins x = some (.type T)) (ha : PDA X (e :: es) r) (hn : x ≠ "__name__" := by decide) (hdb : (x == ("__debug__" : Str)) = false := by decide)
    (he : starEach (e :: es) X.env = (false, eval e X.env) :: starEach es X.env := by rfl) (hpl : (backTo pos (starEach es X.env)).any (·.1) = false := by rfl) : PD X (.Call (.Name x p) (e :: es) [] pos) (mCall f r) :=
  pe_imp (pe_callTy hc hg hm hv ha hn hdb he hpl) fun _ _ _ h => tCB_of hf h
/-! the functions on data -/
def D.lenI : D → Option Int
  | .tup xs => some (xs.length : Int)
  | .lst xs => some (xs.length : Int)
  | .scr xs => some (xs.length : Int)
  | .str z => if z.length ≤ 1000000 then some (z.length : Int) else none
  | _ => none
def lenF (ds : List D) : M D := match ds with
  | [d] => match d.lenI with
    | some i => pure (.int i)
    | none => M.stuck
  | _ => M.stuck
def absF (ds : List D) : M D := match ds with
  | [.int i] => pure (.int (if i < 0 then -i else i))
  | _ => M.stuck
def intF (ds : List D) : M D := match ds with
  | [.int i] => pure (.int i)
  | [.bl b] => pure (.int (if b then 1 else 0))
  | _ => M.stuck
def D.ints : List D → Option (List Int)
  | [] => some []
  | .int i :: ds => match D.ints ds with
    | some r => some (i :: r)
    | none => none
  | _ :: _ => none
def D.bls : List D → Option (List Bool)
  | [] => some []
  | .bl i :: ds => match D.bls ds with
    | some r => some (i :: r)
    | none => none
  | _ :: _ => none
def maxF (ds : List D) : M D := match ds with
  | [.int i, .int j] => pure (.int (if j > i then j else i))
  | [.lst xs] => match D.ints xs with
    | some ns => match ns.max? with
      | some m => pure (.int m)
      | none => M.stuck
    | none => M.stuck
  | [.tup xs] => match D.ints xs with
    | some ns => match ns.max? with
      | some m => pure (.int m)
      | none => M.stuck
    | none => M.stuck
  | _ => M.stuck
def minF (ds : List D) : M D := match ds with
  | [.int i, .int j] => pure (.int (if j < i then j else i))
  | [.lst xs] => match D.ints xs with
    | some ns => match ns.min? with
      | some m => pure (.int m)
      | none => M.stuck
    | none => M.stuck
  | _ => M.stuck
def sumF (ds : List D) : M D := match ds with
  | [.lst xs] => match D.ints xs with
    | some ns => pure (.int ns.sum)
    | none => M.stuck
  | [.tup xs] => match D.ints xs with
    | some ns => pure (.int ns.sum)
    | none => M.stuck
  | _ => M.stuck
def allF (ds : List D) : M D := match ds with
  | [.lst xs] => match D.bls xs with
    | some ns => pure (.bl (ns.all _root_.id))
    | none => M.stuck
  | _ => M.stuck
def anyF (ds : List D) : M D := match ds with
  | [.lst xs] => match D.bls xs with
    | some ns => pure (.bl (ns.any _root_.id))
    | none => M.stuck
  | _ => M.stuck
def listF (ds : List D) : M D := match ds with
  | [.lst xs] => pure (.lst xs)
  | [.tup xs] => pure (.lst xs)
  | [.scr xs] => pure (.lst xs)
  | _ => M.stuck
def tupleF (ds : List D) : M D := match ds with
  | [.lst xs] => pure (.tup xs)
  | [.tup xs] => pure (.tup xs)
  | _ => M.stuck
theorem reps1 {F : Hp} {ca : Addr} {vs : List V} {d : D} (h : Reps K F ca vs [d]) : ∃ v, vs = [v] ∧ Rep K F ca v d := by
  cases h with
  | cons r t => cases t; exact ⟨_, rfl, r⟩
theorem reps2 {F : Hp} {ca : Addr} {vs : List V} {d d2 : D} (h : Reps K F ca vs [d, d2]) : ∃ v w, vs = [v, w] ∧ Rep K F ca v d ∧ Rep K F ca w d2 := by
  cases h with
  | cons r t =>
    obtain ⟨w, rfl, r2⟩ := reps1 t
    exact ⟨_, _, rfl, r, r2⟩
theorem ints_v {F : Hp} {ca : Addr} : ∀ {ds : List D} {vs : List V} {ns : List Int}, Reps K F ca vs ds → D.ints ds = some ns → vs = ns.map V.int
  | [], _, _, h, e => by cases h; cases e; rfl
  | d :: ds, _, ns, h, e => by
    cases h with
    | cons r t =>
      cases d <;> first
        | (simp [D.ints] at e; done)
        | (rename_i i
           unfold D.ints at e
           cases e2 : D.ints ds with
           | none => simp only [e2] at e; cases e
           | some r2 =>
             simp only [e2] at e
             cases e
             cases r
             rw [List.map_cons, ints_v t e2])
theorem bls_v {F : Hp} {ca : Addr} : ∀ {ds : List D} {vs : List V} {ns : List Bool}, Reps K F ca vs ds → D.bls ds = some ns → vs = ns.map V.bl
  | [], _, _, h, e => by cases h; cases e; rfl
  | d :: ds, _, ns, h, e => by
    cases h with
    | cons r t =>
      cases d <;> first
        | (simp [D.bls] at e; done)
        | (rename_i i
           unfold D.bls at e
           cases e2 : D.bls ds with
           | none => simp only [e2] at e; cases e
           | some r2 =>
             simp only [e2] at e
             cases e
             cases r
             rw [List.map_cons, bls_v t e2])
def rLenA (K : PySem.W.Frag) : List V → Hp → VK → Prop := fun xs H Q => (∃ p ys, xs = [.ref p] ∧ (SqL K H p ys ∨ SqT K H p ys) ∧ Q (.int ys.length) H) ∨ (∃ z, xs = [.str z] ∧ z.length ≤ sizeLine ∧ Q (.int z.length) H)
theorem opc_len : OpC K (rLenA K) lenF := by
  intro F H ca c ds d c' vs s k r h Q q
  unfold lenF at h
  split at h
  · rename_i d0
    obtain ⟨v, rfl, rv⟩ := reps1 r
    cases d0 with
    | tup xs =>
      obtain ⟨a, vs, rfl, ha, ra⟩ := rep_tup_inv rv
      cases h
      refine .inl ⟨a, vs, rfl, .inr (Evl.ex_t s ha), ?_⟩
      rw [pd_len ra]
      exact scalar_end s k (.int _) q
    | lst xs =>
      obtain ⟨a, vs, rfl, ha, ra⟩ := rep_lst_inv rv
      cases h
      refine .inl ⟨a, vs, rfl, .inl (.inl (.inl (s _ _ ha))), ?_⟩
      rw [pd_len ra]
      exact scalar_end s k (.int _) q
    | scr xs =>
      obtain ⟨a, vs, rfl, ha, ra⟩ := rep_scr_inv rv
      cases h
      refine .inl ⟨a, vs, rfl, .inl (Evl.ex_l s ha), ?_⟩
      rw [pd_len ra]
      exact scalar_end s k (.int _) q
    | str z =>
      cases rv
      by_cases hz : z.length ≤ 1000000
      · simp only [D.lenI, if_pos hz] at h
        cases h
        exact .inr ⟨z, rfl, sz_of hz, scalar_end s k (.int _) q⟩
      · simp only [D.lenI, if_neg hz] at h
        cases h
    | _ => cases h
  · cases h
theorem opc_abs : OpC K (fun xs H Q => ∃ i, xs = [.int i] ∧ Q (.int (if i < 0 then -i else i)) H) absF := by
  intro F H ca c ds d c' vs s k r h Q q
  unfold absF at h
  split at h
  · cases h
    obtain ⟨v, rfl, rv⟩ := reps1 r
    cases rv
    exact ⟨_, rfl, scalar_end s k (.int _) q⟩
  · cases h
theorem opc_int : OpC K (fun xs H Q => (∃ i, xs = [.int i] ∧ Q (.int i) H) ∨ ∃ k, xs = [.bl k] ∧ Q (.int (if k then 1 else 0)) H) intF := by
  intro F H ca c ds d c' vs s k r h Q q
  unfold intF at h
  split at h
  · cases h
    obtain ⟨v, rfl, rv⟩ := reps1 r
    cases rv
    exact .inl ⟨_, rfl, scalar_end s k (.int _) q⟩
  · cases h
    obtain ⟨v, rfl, rv⟩ := reps1 r
    cases rv
    exact .inr ⟨_, rfl, scalar_end s k (.int _) q⟩
  · cases h
theorem max_uniq {ns : List Int} {m m' : Int} (h : ns.max? = some m) (hm : m' ∈ ns) (hle : ∀ y, y ∈ ns → y ≤ m') : m' = m := by
  have h1 := List.max?_eq_some_iff.mp h
  have h2 := hle m h1.1
  have h3 := h1.2 m' hm
  omega
theorem min_uniq {ns : List Int} {m m' : Int} (h : ns.min? = some m) (hm : m' ∈ ns) (hle : ∀ y, y ∈ ns → m' ≤ y) : m' = m := by
  have h1 := List.min?_eq_some_iff.mp h
  have h2 := hle m h1.1
  have h3 := h1.2 m' hm
  omega
theorem max_intTup {prog : Program} {w : World} {A : Around} {E : Value → Shared → Prop} {s : Shared} {t : Addr} {xs : Array (Int × Tok)} {Q : Value → Shared → Prop} (hh : A.handled = none) (ht : s.heap.IsTuple t (intItems xs)) (hne : 0 < xs.size)
    (h : ∀ v h' tk, (intItems xs)[argBest (fun i j => decide (numAt xs i > numAt xs j)) (xs.size - 1)]? = some v → (∀ b o, s.heap.get? b = some o → h'.get? b = some o) → Q v { s with heap := h', toks := tk }) :
    wpAny (model prog w) A (call (.builtin "max") [.ref t]) Q E s := by
  obtain ⟨o, ho, hc, n, hd⟩ := id ht
  have hne' : t ≠ s.heap.objs.size := Nat.ne_of_lt (Heap.lt_size ho)
  have hsz : (intItems xs).size = xs.size := by simp [intItems]
  have W := Walks.tuple (prog := prog) (w := w) (A := A.in1) hh s.heap.objs.size t hne' (intItems xs)
  rw [hsz] at W
  refine call_max_walk (wpAny_pyIter_tuple ht ?_)
  refine ⟨s.heap.objs.size, _, _, _, _, _, _, rfl, W, ⟨⟨_, Heap.get?_push_size _ rfl, rfl, rfl⟩, ht.at fun o e => Heap.get?_push_of_some _ e⟩, fun b hb => ?_, hne, CmpOf.ints_gt (numAt xs) (fun _ _ => intItems_at), fun v h' tk hP hk => ?_⟩
  · rcases List.mem_cons.mp hb with rfl | hb
    · exact Heap.lt_size (Heap.get?_push_size _ rfl)
    · obtain rfl := List.mem_singleton.mp hb
      exact Heap.lt_size (Heap.get?_push_of_some _ ho)
  · exact h v h' tk hP fun b o e => hk b o (fun hb => absurd (Heap.lt_size e) ((List.mem_singleton.mp hb) ▸ Nat.lt_irrefl _)) (Heap.get?_push_of_some _ e)
def rMaxT (K : PySem.W.Frag) : List V → Hp → VK → Prop := fun vs H Q => ∃ (a : Addr) (ns : List Int), vs = [V.ref a] ∧ SqT K H a (ns.map V.int) ∧ 0 < ns.length ∧ ∀ m, m ∈ ns → (∀ y, y ∈ ns → y ≤ m) → Q (.int m) H
theorem cr_maxT {X : Cx} (hc : X.calm = true) : CallR X (.builtin "max") (rMaxT X.K) := by
  intro pins s σ H vs us Q I r h
  obtain ⟨a, ns, rfl, hs, hne, q⟩ := h
  obtain ⟨its, rv, hl, _⟩ := I.tuple hs
  rw [Vals.ref1 r]
  have hi := rv.ints
  obtain ⟨xs, e⟩ := hi.allInts.items
  have hn : numsOf (intItems xs).toList = ns := by rw [← e]; exact hi.numsOf
  rw [nums_intItems] at hn
  subst hn
  rw [e] at hl
  have hsz : 0 < xs.size := by simpa using hne
  refine max_intTup (xs := xs) (I.ok.hd hc) hl hsz fun v h' tk hv hk => ?_
  obtain ⟨t, rfl⟩ := intItems_at hv
  obtain ⟨h1, h2⟩ := argBest_gt (numAt xs) (xs.size - 1)
  refine ⟨.int _, H, I.kept hk, ⟨t, rfl⟩, q _ ?_ fun a ha => ?_⟩
  · rw [numAt_eq]; exact PySem.getD_mem (by rw [List.length_map, Array.length_toList]; omega)
  · obtain ⟨j, hj, rfl⟩ := mem_getD ha
    rw [List.length_map, Array.length_toList] at hj
    rw [← numAt_eq]; exact h2 j (by omega)
theorem opc_max : OpC K (fun xs H Q => ((∃ i j, xs = [.int i, .int j] ∧ Q (.int (if j > i then j else i)) H) ∨ rMax K xs H Q) ∨ rMaxT K xs H Q) maxF := by
  intro F H ca c ds d c' vs s k r h Q q
  unfold maxF at h
  split at h
  · cases h
    obtain ⟨v, w, rfl, rv, rw'⟩ := reps2 r
    cases rv; cases rw'
    exact .inl (.inl ⟨_, _, rfl, scalar_end s k (.int _) q⟩)
  · rename_i xs
    cases e1 : D.ints xs with
    | none => simp only [e1] at h; cases h
    | some ns =>
      cases e2 : ns.max? with
      | none => simp only [e1, e2] at h; cases h
      | some m =>
        simp only [e1, e2] at h
        cases h
        obtain ⟨v, rfl, rv⟩ := reps1 r
        obtain ⟨a, us, rfl, ha, ra⟩ := rep_lst_inv rv
        have eu := ints_v ra e1
        subst eu
        refine .inl (.inr ⟨a, ns, rfl, .inl (.inl (s _ _ ha)), ?_, fun m' hm hle => ?_⟩)
        · cases ns with
          | nil => cases e2
          | cons _ _ => simp
        · rw [max_uniq e2 hm hle]
          exact scalar_end s k (.int _) q
  · rename_i xs
    cases e1 : D.ints xs with
    | none => simp only [e1] at h; cases h
    | some ns =>
      cases e2 : ns.max? with
      | none => simp only [e1, e2] at h; cases h
      | some m =>
        simp only [e1, e2] at h
        cases h
        obtain ⟨v, rfl, rv⟩ := reps1 r
        obtain ⟨a, us, rfl, ha, ra⟩ := rep_tup_inv rv
        have eu := ints_v ra e1
        subst eu
        refine .inr ⟨a, ns, rfl, Evl.ex_t s ha, ?_, fun m' hm hle => ?_⟩
        · cases ns with
          | nil => cases e2
          | cons _ _ => simp
        · rw [max_uniq e2 hm hle]
          exact scalar_end s k (.int _) q
  · cases h
theorem opc_min : OpC K (fun xs H Q => (∃ i j, xs = [.int i, .int j] ∧ Q (.int (if j < i then j else i)) H) ∨ rMin K xs H Q) minF := by
  intro F H ca c ds d c' vs s k r h Q q
  unfold minF at h
  split at h
  · cases h
    obtain ⟨v, w, rfl, rv, rw'⟩ := reps2 r
    cases rv; cases rw'
    exact .inl ⟨_, _, rfl, scalar_end s k (.int _) q⟩
  · rename_i xs
    cases e1 : D.ints xs with
    | none => simp only [e1] at h; cases h
    | some ns =>
      cases e2 : ns.min? with
      | none => simp only [e1, e2] at h; cases h
      | some m =>
        simp only [e1, e2] at h
        cases h
        obtain ⟨v, rfl, rv⟩ := reps1 r
        obtain ⟨a, us, rfl, ha, ra⟩ := rep_lst_inv rv
        have eu := ints_v ra e1
        subst eu
        refine .inr ⟨a, ns, rfl, .inl (.inl (s _ _ ha)), ?_, fun m' hm hle => ?_⟩
        · cases ns with
          | nil => cases e2
          | cons _ _ => simp
        · rw [min_uniq e2 hm hle]
          exact scalar_end s k (.int _) q
  · cases h
def rSumT (K : PySem.W.Frag) : List V → Hp → VK → Prop := fun vs H Q => ∃ (a : Addr) (ns : List Int), vs = [V.ref a] ∧ SqT K H a (ns.map V.int) ∧ Q (.int ns.sum) H
theorem cr_sumT {X : Cx} (hc : X.calm = true) : CallR X (.builtin "sum") (rSumT X.K) := by
  intro pins s σ H vs us Q I r h
  obtain ⟨a, ns, rfl, hs, q⟩ := h
  obtain ⟨its, rv, hl, _⟩ := I.tuple hs
  rw [Vals.ref1 r]
  have hi := rv.ints
  obtain ⟨xs, e⟩ := hi.allInts.items
  have hn : numsOf (intItems xs).toList = ns := by rw [← e]; exact hi.numsOf
  rw [nums_intItems] at hn
  rw [e] at hl
  refine PySem.W.ktm_sumG (xs := xs) (I.ok.hd hc) hl fun h' tk t' hk => ?_
  rw [preSum_eq, List.take_of_length_le (by simp), hn]
  exact ⟨.int _, H, I.kept hk, ⟨_, rfl⟩, q⟩
theorem opc_sum : OpC K (fun vs H Q => rSum K vs H Q ∨ rSumT K vs H Q) sumF := by
  intro F H ca c ds d c' vs s k r h Q q
  unfold sumF at h
  split at h
  · rename_i xs
    cases e1 : D.ints xs with
    | none => simp only [e1] at h; cases h
    | some ns =>
      simp only [e1] at h
      cases h
      obtain ⟨v, rfl, rv⟩ := reps1 r
      obtain ⟨a, us, rfl, ha, ra⟩ := rep_lst_inv rv
      have eu := ints_v ra e1
      subst eu
      exact .inl ⟨a, ns, rfl, .inl (.inl (s _ _ ha)), scalar_end s k (.int _) q⟩
  · rename_i xs
    cases e1 : D.ints xs with
    | none => simp only [e1] at h; cases h
    | some ns =>
      simp only [e1] at h
      cases h
      obtain ⟨v, rfl, rv⟩ := reps1 r
      obtain ⟨a, us, rfl, ha, ra⟩ := rep_tup_inv rv
      have eu := ints_v ra e1
      subst eu
      exact .inr ⟨a, ns, rfl, Evl.ex_t s ha, scalar_end s k (.int _) q⟩
  · cases h
theorem opc_all : OpC K (rAll K) allF := by
  intro F H ca c ds d c' vs s k r h Q q
  unfold allF at h
  split at h
  · rename_i xs
    cases e1 : D.bls xs with
    | none => simp only [e1] at h; cases h
    | some ns =>
      simp only [e1] at h
      cases h
      obtain ⟨v, rfl, rv⟩ := reps1 r
      obtain ⟨a, us, rfl, ha, ra⟩ := rep_lst_inv rv
      have eu := bls_v ra e1
      subst eu
      exact ⟨a, ns, rfl, .inl (.inl (s _ _ ha)), scalar_end s k (.bl _) q⟩
  · cases h
theorem opc_any : OpC K (rAny K) anyF := by
  intro F H ca c ds d c' vs s k r h Q q
  unfold anyF at h
  split at h
  · rename_i xs
    cases e1 : D.bls xs with
    | none => simp only [e1] at h; cases h
    | some ns =>
      simp only [e1] at h
      cases h
      obtain ⟨v, rfl, rv⟩ := reps1 r
      obtain ⟨a, us, rfl, ha, ra⟩ := rep_lst_inv rv
      have eu := bls_v ra e1
      subst eu
      exact ⟨a, ns, rfl, .inl (.inl (s _ _ ha)), scalar_end s k (.bl _) q⟩
  · cases h
def rListA (K : PySem.W.Frag) : List V → Hp → VK → Prop := fun xs H Q => ∃ p ys, xs = [.ref p] ∧ (SqL K H p ys ∨ SqT K H p ys) ∧ ∀ l, H l = none → Q (.ref l) (upd H l (.lst ys))
theorem opc_list : OpC K (rListA K) listF := by
  intro F H ca c ds d c' vs s k r h Q q
  have fin : ∀ {us : List V} {xs : List D} {l : Addr}, Reps K F ca us xs → H l = none → d = .lst xs → c' = c → Q (.ref l) (upd H l (.lst us)) := fun {us xs l} ra hl ed ec => by
    subst ed ec
    have e := Ext.laid (o := .lst us) s k hl
    exact q _ _ _ e (rep_lst upd_same (reps_mono e.ff ra))
  unfold listF at h
  split at h
  · cases h
    obtain ⟨v, rfl, rv⟩ := reps1 r
    obtain ⟨a, us, rfl, ha, ra⟩ := rep_lst_inv rv
    exact ⟨a, us, rfl, .inl (.inl (.inl (s _ _ ha))), fun l hl => fin ra hl rfl rfl⟩
  · cases h
    obtain ⟨v, rfl, rv⟩ := reps1 r
    obtain ⟨a, us, rfl, ha, ra⟩ := rep_tup_inv rv
    exact ⟨a, us, rfl, .inr (Evl.ex_t s ha), fun l hl => fin ra hl rfl rfl⟩
  · cases h
    obtain ⟨v, rfl, rv⟩ := reps1 r
    obtain ⟨a, us, rfl, ha, ra⟩ := rep_scr_inv rv
    exact ⟨a, us, rfl, .inl (Evl.ex_l s ha), fun l hl => fin ra hl rfl rfl⟩
  · cases h
def rTupA (K : PySem.W.Frag) : List V → Hp → VK → Prop := fun xs H Q => ∃ p ys, xs = [.ref p] ∧ ((SqL K H p ys ∧ ∀ l, H l = none → Q (.ref l) (upd H l (.tup ys))) ∨ (SqT K H p ys ∧ Q (.ref p) H))
theorem opc_tuple : OpC K (rTupA K) tupleF := by
  intro F H ca c ds d c' vs s k r h Q q
  unfold tupleF at h
  split at h
  · cases h
    obtain ⟨v, rfl, rv⟩ := reps1 r
    obtain ⟨a, us, rfl, ha, ra⟩ := rep_lst_inv rv
    refine ⟨a, us, rfl, .inl ⟨.inl (.inl (s _ _ ha)), fun l hl => ?_⟩⟩
    have e := Ext.laid (o := .tup us) s k hl
    exact q _ _ _ e (rep_tup (SqT.of upd_same) (reps_mono e.ff ra))
  · cases h
    obtain ⟨v, rfl, rv⟩ := reps1 r
    obtain ⟨a, us, rfl, ha, ra⟩ := rep_tup_inv rv
    exact ⟨a, us, rfl, .inr ⟨Evl.ex_t s ha, scalar_end s k (rep_tup ha ra) q⟩⟩
  · cases h
section
theorem pd_len' (hg : Gl X "len") (hm : X.mg "len" = none) (ha : PDA X (e :: es) r) (he : starEach (e :: es) X.env = (false, eval e X.env) :: starEach es X.env := by rfl) (hpl : (backTo pos (starEach es X.env)).any (·.1) = false := by rfl) : PD X (.Call (.Name "len" p) (e :: es) [] pos) (mCall lenF r) :=
  pd_callB opc_len (call_len_seq.or call_len_str) hg hm PySem.boot_len ha (he := he) (hpl := hpl)
theorem pd_abs (hg : Gl X "abs") (hm : X.mg "abs" = none) (ha : PDA X (e :: es) r) (he : starEach (e :: es) X.env = (false, eval e X.env) :: starEach es X.env := by rfl) (hpl : (backTo pos (starEach es X.env)).any (·.1) = false := by rfl) : PD X (.Call (.Name "abs" p) (e :: es) [] pos) (mCall absF r) :=
  pd_callB opc_abs call_abs hg hm (by decide +kernel) ha (he := he) (hpl := hpl)
theorem pd_int' (hg : Gl X "int") (hm : X.mg "int" = none) (ha : PDA X (e :: es) r) (he : starEach (e :: es) X.env = (false, eval e X.env) :: starEach es X.env := by rfl) (hpl : (backTo pos (starEach es X.env)).any (·.1) = false := by rfl) : PD X (.Call (.Name "int" p) (e :: es) [] pos) (mCall intF r) :=
  pd_callTy opc_int call_int1 hg hm (by decide +kernel) ha (he := he) (hpl := hpl)
theorem pd_max (hc : X.calm = true) (hg : Gl X "max") (hm : X.mg "max" = none) (ha : PDA X (e :: es) r) (he : starEach (e :: es) X.env = (false, eval e X.env) :: starEach es X.env := by rfl) (hpl : (backTo pos (starEach es X.env)).any (·.1) = false := by rfl) : PD X (.Call (.Name "max" p) (e :: es) [] pos) (mCall maxF r) :=
  pd_callB opc_max (((call_max2 hc).or (cr_max hc)).or (cr_maxT hc)) hg hm (by decide +kernel) ha (he := he) (hpl := hpl)
theorem pd_min (hc : X.calm = true) (hg : Gl X "min") (hm : X.mg "min" = none) (ha : PDA X (e :: es) r) (he : starEach (e :: es) X.env = (false, eval e X.env) :: starEach es X.env := by rfl) (hpl : (backTo pos (starEach es X.env)).any (·.1) = false := by rfl) : PD X (.Call (.Name "min" p) (e :: es) [] pos) (mCall minF r) :=
  pd_callB opc_min ((call_min2 hc).or (cr_min hc)) hg hm (by decide +kernel) ha (he := he) (hpl := hpl)
theorem pd_sum (hc : X.calm = true) (hg : Gl X "sum") (hm : X.mg "sum" = none) (ha : PDA X (e :: es) r) (he : starEach (e :: es) X.env = (false, eval e X.env) :: starEach es X.env := by rfl) (hpl : (backTo pos (starEach es X.env)).any (·.1) = false := by rfl) : PD X (.Call (.Name "sum" p) (e :: es) [] pos) (mCall sumF r) :=
  pd_callB opc_sum ((cr_sum hc).or (cr_sumT hc)) hg hm (by decide +kernel) ha (he := he) (hpl := hpl)
theorem pd_all (hc : X.calm = true) (hg : Gl X "all") (hm : X.mg "all" = none) (ha : PDA X (e :: es) r) (he : starEach (e :: es) X.env = (false, eval e X.env) :: starEach es X.env := by rfl) (hpl : (backTo pos (starEach es X.env)).any (·.1) = false := by rfl) : PD X (.Call (.Name "all" p) (e :: es) [] pos) (mCall allF r) :=
  pd_callB opc_all (cr_all hc) hg hm (by decide +kernel) ha (he := he) (hpl := hpl)
theorem pd_any (hc : X.calm = true) (hg : Gl X "any") (hm : X.mg "any" = none) (ha : PDA X (e :: es) r) (he : starEach (e :: es) X.env = (false, eval e X.env) :: starEach es X.env := by rfl) (hpl : (backTo pos (starEach es X.env)).any (·.1) = false := by rfl) : PD X (.Call (.Name "any" p) (e :: es) [] pos) (mCall anyF r) :=
  pd_callB opc_any (cr_any hc) hg hm (by decide +kernel) ha (he := he) (hpl := hpl)
theorem pd_list (hg : Gl X "list") (hm : X.mg "list" = none) (ha : PDA X (e :: es) r) (he : starEach (e :: es) X.env = (false, eval e X.env) :: starEach es X.env := by rfl) (hpl : (backTo pos (starEach es X.env)).any (·.1) = false := by rfl) : PD X (.Call (.Name "list" p) (e :: es) [] pos) (mCall listF r) :=
  pd_callTy opc_list call_list_of hg hm (by decide +kernel) ha (he := he) (hpl := hpl)
theorem pd_tuple (hg : Gl X "tuple") (hm : X.mg "tuple" = none) (ha : PDA X (e :: es) r) (he : starEach (e :: es) X.env = (false, eval e X.env) :: starEach es X.env := by rfl) (hpl : (backTo pos (starEach es X.env)).any (·.1) = false := by rfl) : PD X (.Call (.Name "tuple" p) (e :: es) [] pos) (mCall tupleF r) :=
  pd_callTy opc_tuple call_tuple_of hg hm (by decide +kernel) ha (he := he) (hpl := hpl)
end
/-! ### isinstance -/
def D.tyN : D → String
  | .non => "NoneType" | .bl _ => "bool" | .int _ => "int" | .str _ => "str" | .tup _ => "tuple" | .lst _ => "list" | .cup => "list" | .own _ => "list" | .scr _ => "list"
def D.isInt : D → Bool
  | .int _ => true | .bl _ => true | _ => false
def D.isBool : D → Bool
  | .bl _ => true | _ => false
def D.isStr : D → Bool
  | .str _ => true | _ => false
def D.isTup : D → Bool
  | .tup _ => true | _ => false
def D.isLst : D → Bool
  | .lst _ => true | .cup => true | .own _ => true | .scr _ => true | _ => false
theorem tyx_of {F H : Hp} {ca : Addr} {c : Cup} {v : V} {d : D} (s : Evl.Ex F H) (r : Rep K F ca v d) (nc : d ≠ .cup) (ns : ∀ xs, d ≠ .scr xs) : TyX K H v (.type d.tyN) := by
  cases r with
  | non => exact .base .non
  | bl b => exact .base (.bl b)
  | int i => exact .base (.int i)
  | str x => exact .base (.str x)
  | tup h1 _ _ =>
    rcases Evl.ex_t s h1 with (h | ⟨o, h⟩) | ⟨o, its, n, hk, hc, _⟩
    · exact .base (.tup h)
    · exact .fTuple h
    · exact .kTuple hk hc
  | lst h1 _ _ => exact .base (.lst (s _ _ h1))
  | scr h1 _ _ => exact absurd rfl (ns _)
  | cup => exact absurd rfl nc
def isiF (p : D → Bool) (m : ME) : ME := fun ρ => do
  let d ← m ρ
  match d with
  | .cup => M.stuck
  | .scr _ => M.stuck
  | d => pure (.bl (p d))
theorem isi_ok {q : D → Bool} {m : ME} {ρ : Env} {c c' : Cup} {d : D} (h : isiF q m ρ c = .ok d c') : ∃ x, m ρ c = .ok x c' ∧ d = .bl (q x) ∧ x ≠ .cup ∧ ∀ xs, x ≠ .scr xs := by
  obtain ⟨x, c1, h1, h2⟩ := bind_ok h
  cases x <;> simp only at h2 <;> first
    | (cases h2; done)
    | (obtain ⟨rfl, rfl⟩ := pure_ok h2; exact ⟨_, h1, rfl, fun z => (by cases z), fun _ z => (by cases z)⟩)
theorem pd_isi {q : D → Bool} {T : String} {Tn : Str} {p2 : Pos} {m : ME} (hg : Gl X "isinstance") (hmi : X.mg "isinstance" = none) (hT : Gl X Tn) (hmT : X.mg Tn = none) (hb : bootBuiltins Tn = some (.type T))
    (hq : ∀ d : D, d ≠ .cup → (∀ xs, d ≠ .scr xs) → kitB d.tyN T = some (q d)) (hne : Tn ≠ "__name__") (hdb : (Tn == ("__debug__" : Str)) = false) (he : PD X e m)
    (hs : starEach [e, .Name Tn p2] X.env = (false, eval e X.env) :: starEach [.Name Tn p2] X.env := by rfl) (hs2 : starEach [.Name Tn p2] X.env = (false, eval (.Name Tn p2) X.env) :: starEach [] X.env := by rfl)
    (hpl : (backTo pos (starEach [.Name Tn p2] X.env)).any (·.1) = false := by rfl) : PD X (.Call (.Name "isinstance" p) [e, .Name Tn p2] [] pos) (isiF q m) :=
  pe_imp (pe_callB call_isi hg hmi (by decide +kernel) (pa_cons he (pa_cons (pe_bltn (v := .ty T) hT hmT hb rfl hne hdb) pa_nil hs2) hs) (he := hs) (hpl := hpl)) fun σ H Q ⟨F, ca, c, ρ, d, c', E, s, k, hm, q'⟩ => by
    obtain ⟨x, h1, rfl, nc, ns⟩ := isi_ok hm
    refine ⟨F, ca, c, ρ, x, c', E, s, k, h1, fun v H1 F1 e1 r1 => ?_⟩
    exact ⟨v, .ty T, _, _, q x, rfl, .ty T, tyx_of (c := c') e1.sub r1 nc ns, kit_ty (hq x nc ns), q' _ H1 F1 e1 (.bl _)⟩
theorem kb_NoneType_int : kitB "NoneType" "int" = some false := by decide +kernel
theorem kb_bool_int : kitB "bool" "int" = some true := by decide +kernel
theorem kb_int_int : kitB "int" "int" = some true := by decide +kernel
theorem kb_str_int : kitB "str" "int" = some false := by decide +kernel
theorem kb_tuple_int : kitB "tuple" "int" = some false := by decide +kernel
theorem kb_list_int : kitB "list" "int" = some false := by decide +kernel
theorem kit_int (d : D) (_ : d ≠ .cup) (_ : ∀ xs, d ≠ .scr xs) : kitB d.tyN "int" = some d.isInt := match d with
  | .non => kb_NoneType_int
  | .bl _ => kb_bool_int
  | .int _ => kb_int_int
  | .str _ => kb_str_int
  | .tup _ => kb_tuple_int
  | .lst _ => kb_list_int
  | .cup => kb_list_int
  | .own _ => kb_list_int
  | .scr _ => kb_list_int
theorem kb_NoneType_bool : kitB "NoneType" "bool" = some false := by decide +kernel
theorem kb_bool_bool : kitB "bool" "bool" = some true := by decide +kernel
theorem kb_int_bool : kitB "int" "bool" = some false := by decide +kernel
theorem kb_str_bool : kitB "str" "bool" = some false := by decide +kernel
theorem kb_tuple_bool : kitB "tuple" "bool" = some false := by decide +kernel
theorem kb_list_bool : kitB "list" "bool" = some false := by decide +kernel
theorem kit_bool (d : D) (_ : d ≠ .cup) (_ : ∀ xs, d ≠ .scr xs) : kitB d.tyN "bool" = some d.isBool := match d with
  | .non => kb_NoneType_bool
  | .bl _ => kb_bool_bool
  | .int _ => kb_int_bool
  | .str _ => kb_str_bool
  | .tup _ => kb_tuple_bool
  | .lst _ => kb_list_bool
  | .cup => kb_list_bool
  | .own _ => kb_list_bool
  | .scr _ => kb_list_bool
theorem kb_NoneType_str : kitB "NoneType" "str" = some false := by decide +kernel
theorem kb_bool_str : kitB "bool" "str" = some false := by decide +kernel
theorem kb_int_str : kitB "int" "str" = some false := by decide +kernel
theorem kb_str_str : kitB "str" "str" = some true := by decide +kernel
theorem kb_tuple_str : kitB "tuple" "str" = some false := by decide +kernel
theorem kb_list_str : kitB "list" "str" = some false := by decide +kernel
theorem kit_str (d : D) (_ : d ≠ .cup) (_ : ∀ xs, d ≠ .scr xs) : kitB d.tyN "str" = some d.isStr := match d with
  | .non => kb_NoneType_str
  | .bl _ => kb_bool_str
  | .int _ => kb_int_str
  | .str _ => kb_str_str
  | .tup _ => kb_tuple_str
  | .lst _ => kb_list_str
  | .cup => kb_list_str
  | .own _ => kb_list_str
  | .scr _ => kb_list_str
theorem kb_NoneType_tuple : kitB "NoneType" "tuple" = some false := by decide +kernel
theorem kb_bool_tuple : kitB "bool" "tuple" = some false := by decide +kernel
theorem kb_int_tuple : kitB "int" "tuple" = some false := by decide +kernel
theorem kb_str_tuple : kitB "str" "tuple" = some false := by decide +kernel
theorem kb_tuple_tuple : kitB "tuple" "tuple" = some true := by decide +kernel
theorem kb_list_tuple : kitB "list" "tuple" = some false := by decide +kernel
theorem kit_tup (d : D) (_ : d ≠ .cup) (_ : ∀ xs, d ≠ .scr xs) : kitB d.tyN "tuple" = some d.isTup := match d with
  | .non => kb_NoneType_tuple
  | .bl _ => kb_bool_tuple
  | .int _ => kb_int_tuple
  | .str _ => kb_str_tuple
  | .tup _ => kb_tuple_tuple
  | .lst _ => kb_list_tuple
  | .cup => kb_list_tuple
  | .own _ => kb_list_tuple
  | .scr _ => kb_list_tuple
theorem kb_NoneType_list : kitB "NoneType" "list" = some false := by decide +kernel
theorem kb_bool_list : kitB "bool" "list" = some false := by decide +kernel
theorem kb_int_list : kitB "int" "list" = some false := by decide +kernel
theorem kb_str_list : kitB "str" "list" = some false := by decide +kernel
theorem kb_tuple_list : kitB "tuple" "list" = some false := by decide +kernel
theorem kb_list_list : kitB "list" "list" = some true := by decide +kernel
theorem kit_lst (d : D) (_ : d ≠ .cup) (_ : ∀ xs, d ≠ .scr xs) : kitB d.tyN "list" = some d.isLst := match d with
  | .non => kb_NoneType_list
  | .bl _ => kb_bool_list
  | .int _ => kb_int_list
  | .str _ => kb_str_list
  | .tup _ => kb_tuple_list
  | .lst _ => kb_list_list
  | .cup => kb_list_list
  | .own _ => kb_list_list
  | .scr _ => kb_list_list
end
/-! ### what a def promises -/
def spD (K : PySem.W.Frag) (fm : List D → M D) : Sp := fun vs H Q _ => ∃ F ca c ds d c', Reps K F ca vs ds ∧ Evl.Ex F H ∧ CupOk H F ca c ∧ fm ds c = .ok d c' ∧ ∀ v H' F', Ext ca c c' F H F' H' → Rep K F' ca v d → Q v H'
section
variable {X : Cx} {k : Nat} {f : Addr} {fd : FuncData} {ps : List Str} {fm : List D → M D} {x : Str} {p pos : Pos} {e : Expr} {es : List Expr} {r : MA}
theorem pd_call (G : FnOk X.prog X.w X.K X.mg X.base CX0 k f fd ps (spD X.K fm)) (hr : Room k X.A) (hg : Gl X x) (hm : X.mg x = some (.ref f)) (hk : PySem.W.keepIn X.K (.ref f) = true) (hb : Binds X.K fd ps [])
    (ha : PDA X (e :: es) r) (hdb : (x == ("__debug__" : Str)) = false := by decide) (he : starEach (e :: es) X.env = (false, eval e X.env) :: starEach es X.env := by rfl) (hpl : (backTo pos (starEach es X.env)).any (·.1) = false := by rfl) :
    PD X (.Call (.Name x p) (e :: es) [] pos) (mCall fm r) :=
  pe_imp (pe_call G hr hg hm hk hb .nil pass0 ha hdb he hpl) fun σ H Q ⟨F, ca, c, ρ, d, c', E, s, kk, hm, q⟩ => by
    obtain ⟨ds, c1, h1, hm⟩ := bind_ok hm
    refine ⟨F, ca, c, ρ, ds, c1, E, s, kk, h1, fun vs H1 F1 e1 r1 => ?_⟩
    exact ⟨F1, ca, c1, ds, d, c', by rw [List.append_nil]; exact r1, e1.sub, e1.cup, hm, fun v H2 F2 e2 r2 => q v H2 F2 (e1.trans e2) r2⟩
theorem pd_call0 (G : FnOk X.prog X.w X.K X.mg X.base CX0 k f fd ps (spD X.K fm)) (hr : Room k X.A) (hg : Gl X x) (hm : X.mg x = some (.ref f)) (hk : PySem.W.keepIn X.K (.ref f) = true) (hb : Binds X.K fd ps [])
    (hdb : (x == ("__debug__" : Str)) = false := by decide) : PD X (.Call (.Name x p) [] [] pos) (mCall fm mNil) :=
  pe_imp (pe_call0 G hr hg hm hk hb .nil pass0 hdb) fun σ H Q ⟨F, ca, c, ρ, d, c', E, s, kk, hm, q⟩ => by
    obtain ⟨ds, c1, h1, hm⟩ := bind_ok hm
    obtain ⟨rfl, rfl⟩ := pure_ok h1
    exact ⟨F, ca, c, [], d, c', .nil, s, kk, hm, q⟩
end
end DL
namespace DL
open PySem PySem.Spec PyProof.Rows L2
/-! ### targets -/
abbrev MG := D → Env → Option Env
abbrev MGs := List D → Env → Option Env
section
variable {K : PySem.W.Frag} {F H : Hp} {ca : Addr} {c : Cup} {ρ : Env} {σ : L2.St} {v : V} {d : D} {i : Nat}
theorem set_get {α : Type} {l : List α} {i j : Nat} {x y : α} (h : (l.set i x)[j]? = some y) : (j = i ∧ x = y ∧ i < l.length) ∨ (j ≠ i ∧ l[j]? = some y) := by
  by_cases e : i = j
  · subst e
    by_cases hi : i < l.length
    · rw [List.getElem?_set_self hi] at h; cases h; exact .inl ⟨rfl, rfl, hi⟩
    · rw [List.getElem?_eq_none (by simpa using hi)] at h; cases h
  · rw [List.getElem?_set_ne e] at h; exact .inr ⟨fun z => e z.symm, h⟩
/-- a value into a slot -/
theorem EnvOk.set (E : EnvOk K F H ca c ρ σ) (r : Rep K F ca v d) : EnvOk K F H ca c (ρ.set i (some d)) (σ.set i (some v)) where
  len := by simpa using E.len
  at_ := fun j d' h => by
    rcases set_get h with ⟨rfl, e, hi⟩ | ⟨hj, h⟩
    · cases e
      exact ⟨v, List.getElem?_set_self (by rw [← E.len]; exact hi), SlotOk.of r⟩
    · obtain ⟨w, h1, h2⟩ := E.at_ j d' h
      exact ⟨w, by rw [List.getElem?_set_ne (fun z => hj z.symm)]; exact h1, h2⟩
  apart := fun j k xs ys w h1 h2 h3 h4 => by
    have no : ∀ zs, d ≠ .own zs := fun zs z => by subst z; cases r
    rcases set_get h1 with ⟨rfl, e, _⟩ | ⟨hj, h1⟩
    · cases e; exact absurd rfl (no _)
    · rcases set_get h2 with ⟨rfl, e, _⟩ | ⟨hk, h2⟩
      · cases e; exact absurd rfl (no _)
      · rw [List.getElem?_set_ne (fun z => hj z.symm)] at h3
        rw [List.getElem?_set_ne (fun z => hk z.symm)] at h4
        exact E.apart j k xs ys w h1 h2 h3 h4
theorem owned_set (E : EnvOk K F H ca c ρ σ) (r : Rep K F ca v d) {a : Addr} (h : Owned (ρ.set i (some d)) (σ.set i (some v)) a) : Owned ρ σ a := by
  obtain ⟨j, xs, h1, h2⟩ := h
  rcases set_get h1 with ⟨rfl, e, _⟩ | ⟨hj, h1⟩
  · cases e; cases r
  · rw [List.getElem?_set_ne (fun z => hj z.symm)] at h2
    exact ⟨j, xs, h1, h2⟩
end
def gD (K : PySem.W.Frag) (ts : List Nat) (mg : MG) : TG := fun v σ H Q => ∃ F ca c ρ d ρ', EnvOk K F H ca c ρ σ ∧ Evl.Ex F H ∧ Rep K F ca v d ∧ mg d ρ = some ρ' ∧
  ∀ σ', EnvOk K F H ca c ρ' σ' → σ'.length = σ.length → (∀ i, i ∉ ts → σ'[i]? = σ[i]?) → (∀ a, Owned ρ' σ' a → Owned ρ σ a) → Q σ' H
def gsD (K : PySem.W.Frag) (ts : List Nat) (mg : MGs) : TGs := fun vs σ H Q => ∃ F ca c ρ ds ρ', EnvOk K F H ca c ρ σ ∧ Evl.Ex F H ∧ Reps K F ca vs ds ∧ mg ds ρ = some ρ' ∧
  ∀ σ', EnvOk K F H ca c ρ' σ' → σ'.length = σ.length → (∀ i, i ∉ ts → σ'[i]? = σ[i]?) → (∀ a, Owned ρ' σ' a → Owned ρ σ a) → Q σ' H
abbrev PGD (X : Cx) (e : Expr) (ts : List Nat) (mg : MG) : Prop := PG X e (gD X.K ts mg)
abbrev PGsD (X : Cx) (es : List Expr) (ts : List Nat) (mg : MGs) : Prop := PGs X es (gsD X.K ts mg)
def mgName (i : Nat) : MG := fun d ρ => some (ρ.set i (some d))
def mgsNil : MGs := fun ds ρ => match ds with
  | [] => some ρ
  | _ => none
def mgsCons (g : MG) (gs : MGs) : MGs := fun ds ρ => match ds with
  | d :: ds => (g d ρ).bind (gs ds)
  | [] => none
def mgTup (n : Nat) (gs : MGs) : MG := fun d ρ => match d with
  | .tup xs => if xs.length = n then gs xs ρ else none
  | _ => none
section
variable {X : Cx} {pos : Pos}
theorem pg_imp {e : Expr} {t t' : TG} (h : PG X e t) (k : ∀ v σ H Q, t' v σ H Q → t v σ H Q) : PG X e t' := ⟨fun pins s σ H v u Q I r q => h.run pins s σ H v u Q I r (k v σ H Q q)⟩
theorem pgs_imp {es : List Expr} {t t' : TGs} (h : PGs X es t) (k : ∀ v σ H Q, t' v σ H Q → t v σ H Q) : PGs X es t' := ⟨fun pins s σ H v u Q I r q => h.run pins s σ H v u Q I r (k v σ H Q q)⟩
theorem pgd_name (i : Nat) {x : Str} (hN : X.N.Nodup) (hi : X.N[i]? = some x := by rfl) (hx : Loc X.env.scope x := by first | exact Or.inl rfl | exact Or.inr rfl) (hf : X.fn x = true ∨ X.env.scope.names.lookup x = some .local := by first | exact .inl rfl | exact .inr rfl | assumption) : PGD X (.Name x pos) [i] (mgName i) :=
  pg_imp (pg_name hN hi hx hf) fun v σ H Q ⟨F, ca, c, ρ, d, ρ', E, s, r, hm, q⟩ => by
    cases hm
    exact q _ (E.set r) (by simp) (fun j hj => List.getElem?_set_ne (fun z => hj (by simp [z]))) fun a h => owned_set E r h
theorem pgsd_nil : PGsD X [] [] mgsNil := pgs_imp pgs_nil fun v σ H Q ⟨F, ca, c, ρ, d, ρ', E, s, r, hm, q⟩ => by
  cases r with
  | nil => cases hm; exact ⟨rfl, q σ E rfl (fun _ _ => rfl) fun _ h => h⟩
  | cons _ _ => cases hm
theorem pgsd_cons {e : Expr} {es : List Expr} {ts us : List Nat} {g : MG} {gs : MGs} (h1 : PGD X e ts g) (h2 : PGsD X es us gs) (hs : (assignEach (e :: es) X.env).map (·.2) = assign e X.env :: (assignEach es X.env).map (·.2) := by rfl) : PGsD X (e :: es) (ts ++ us) (mgsCons g gs) :=
  pgs_imp (pgs_cons h1 h2 hs) fun v σ H Q ⟨F, ca, c, ρ, d, ρ', E, s, r, hm, q⟩ => by
    cases r with
    | nil => cases hm
    | @cons v0 d0 vs ds r t =>
      have hm : (g d0 ρ).bind (gs ds) = some ρ' := hm
      cases e1 : g d0 ρ with
      | none => rw [e1] at hm; cases hm
      | some ρ1 =>
        rw [e1] at hm
        refine ⟨v0, vs, rfl, F, ca, c, ρ, d0, ρ1, E, s, r, e1, fun σ1 E1 l1 k1 o1 => ?_⟩
        exact ⟨F, ca, c, ρ1, ds, ρ', E1, s, t, hm, fun σ2 E2 l2 k2 o2 => q σ2 E2 (l2.trans l1) (fun i hi => by
          rw [k2 i (fun z => hi (List.mem_append_right _ z)), k1 i (fun z => hi (List.mem_append_left _ z))]) fun a h => o1 a (o2 a h)⟩
theorem pgd_tup {es : List Expr} {k : Nat} {ts : List Nat} {gs : MGs} {n : Nat} (hc : X.calm = true) (h : PGsD X es ts gs) (hn : (assignEach es X.env).length = n := by rfl) (hst : (assignEach es X.env).findIdx? (·.1) = none := by rfl) : PGD X (.Tuple es k pos) ts (mgTup n gs) :=
  pg_imp (pg_tup hc h hn hst) fun v σ H Q ⟨F, ca, c, ρ, d, ρ', E, s, r, hm, q⟩ => by
    unfold mgTup at hm
    split at hm
    · split at hm
      · rename_i hl
        obtain ⟨a, vs, rfl, ha, ra⟩ := rep_tup_inv r
        exact ⟨a, vs, rfl, Evl.ex_t s ha, (pd_len ra).trans hl, F, ca, c, ρ, _, ρ', E, s, ra, hm, q⟩
      · cases hm
    · cases hm
end
/-! ### statements -/
inductive Fl where
  | nx (ρ : Env) | ret (d : D) | bk (ρ : Env) | ct (ρ : Env)
abbrev MS := Env → M Fl
structure Stt where
  c : Cup
  F : Hp
  H : Hp
  ρ : Env
  σ : L2.St
structure Okk (K : PySem.W.Frag) (ca : Addr) (S : Stt) : Prop where
  env : EnvOk K S.F S.H ca S.c S.ρ S.σ
  sub : Evl.Ex S.F S.H
  cup : CupOk S.H S.F ca S.c
structure SExt (ca : Addr) (own : Addr → Prop) (c c' : Cup) (F H F' H' : Hp) : Prop where
  ff : Evl.Ex F F'
  sub : Evl.Ex F' H'
  new : ∀ a o, F' a = some o → F a = some o ∨ H a = none ∨ own a
  keep : ∀ a o, H a = some o → (c = none ∨ a ≠ ca) → ¬ own a → H' a = some o
  there : ∀ a, H' a = none → H a = none
  cup : CupOk H' F' ca c'
  same : c = none ↔ c' = none
structure Go (K : PySem.W.Frag) (ca : Addr) (S T : Stt) : Prop where
  ext : SExt ca (Owned S.ρ S.σ) S.c T.c S.F S.H T.F T.H
  env : EnvOk K T.F T.H ca T.c T.ρ T.σ
  owned : ∀ a, Owned T.ρ T.σ a → Owned S.ρ S.σ a ∨ S.H a = none
  len : T.σ.length = S.σ.length
section
variable {K : PySem.W.Frag} {ca : Addr} {own own1 : Addr → Prop} {c c1 c2 : Cup} {F H F1 H1 F2 H2 : Hp}
theorem Ext.there {c' : Cup} (e : Ext ca c c' F H F1 H1) : ∀ a, H1 a = none → H a = none := fun a h => by
  cases q : H a with
  | none => rfl
  | some o =>
    by_cases hx : c = none ∨ a ≠ ca
    · rw [e.keep a o q hx] at h; cases h
    · have hc : c ≠ none := fun z => hx (.inl z)
      have hxa : a = ca := Decidable.byContradiction fun z => hx (.inr z)
      have h1 := e.cup
      cases e2 : c' with
      | none => exact absurd (e.same.mpr e2) hc
      | some p =>
        obtain ⟨i, j⟩ := p
        rw [e2] at h1
        have h2 := h1.1
        rw [← hxa, h] at h2; cases h2
theorem Ext.s {c' : Cup} (e : Ext ca c c' F H F1 H1) : SExt ca own c c' F H F1 H1 :=
  ⟨e.ff, e.sub, fun a o h => (e.new a o h).imp id .inl, fun a o h x _ => e.keep a o h x, e.there, e.cup, e.same⟩
theorem SExt.trans (a : SExt ca own c c1 F H F1 H1) (b : SExt ca own1 c1 c2 F1 H1 F2 H2) (ho : ∀ x, own1 x → own x ∨ H x = none) : SExt ca own c c2 F H F2 H2 where
  ff := a.ff.trans b.ff
  sub := b.sub
  new := fun x o h => by
    rcases b.new x o h with h | h | h
    · exact a.new x o h
    · exact .inr (.inl (a.there x h))
    · rcases ho x h with h | h
      · exact .inr (.inr h)
      · exact .inr (.inl h)
  keep := fun x o h hx hn => b.keep x o (a.keep x o h hx hn) (hx.imp a.same.mp id) fun z => by
    rcases ho x z with z | z
    · exact hn z
    · rw [h] at z; cases z
  there := fun x h => a.there x (b.there x h)
  cup := b.cup
  same := a.same.trans b.same
theorem SExt.ext (e : SExt ca (fun _ => False) c c1 F H F1 H1) : Ext ca c c1 F H F1 H1 :=
  ⟨e.ff, e.sub, fun a o h => by rcases e.new a o h with z | z | z; exact .inl z; exact .inr z; exact z.elim, fun a o h x => e.keep a o h x id, e.cup, e.same⟩
theorem SExt.mono {own' : Addr → Prop} (e : SExt ca own c c1 F H F1 H1) (h : ∀ a, own a → own' a) : SExt ca own' c c1 F H F1 H1 :=
  ⟨e.ff, e.sub, fun a o q => (e.new a o q).imp id (Or.imp id (h a)), fun a o q x n => e.keep a o q x fun z => n (h a z), e.there, e.cup, e.same⟩
variable {S T U : Stt}
theorem Go.okk (g : Go K ca S T) : Okk K ca T := ⟨g.env, g.ext.sub, g.ext.cup⟩
theorem Go.refl (h : Okk K ca S) : Go K ca S S := ⟨(Ext.refl h.sub h.cup).s, h.env, fun _ z => .inl z, rfl⟩
theorem Go.trans (a : Go K ca S T) (b : Go K ca T U) : Go K ca S U :=
  ⟨a.ext.trans b.ext a.owned, b.env, fun x h => by
    rcases b.owned x h with z | z
    · exact a.owned x z
    · exact .inr (a.ext.there x z), b.len.trans a.len⟩
/-- an expression was evaluated -/
theorem Go.ev {c' : Cup} {ρ : Env} {σ : L2.St} (h : Okk K ca ⟨c, F, H, ρ, σ⟩) (e : Ext ca c c' F H F1 H1) : Go K ca ⟨c, F, H, ρ, σ⟩ ⟨c', F1, H1, ρ, σ⟩ :=
  ⟨e.s, h.env.ext e, fun _ z => .inl z, rfl⟩
end
def SEnd (K : PySem.W.Frag) (ca : Addr) (D : Ends) (S : Stt) (c' : Cup) : Fl → Prop
  | .nx ρ' => ∀ F' H' σ', Go K ca S ⟨c', F', H', ρ', σ'⟩ → D.nx σ' H'
  | .bk ρ' => ∀ F' H' σ', Go K ca S ⟨c', F', H', ρ', σ'⟩ → D.bk σ' H'
  | .ct ρ' => ∀ F' H' σ', Go K ca S ⟨c', F', H', ρ', σ'⟩ → D.ct σ' H'
  | .ret d => ∀ v F' H', SExt ca (Owned S.ρ S.σ) S.c c' S.F S.H F' H' → Rep K F' ca v d → D.rt v H'
def tS (K : PySem.W.Frag) (m : MS) : TS := fun D σ H => ∃ F ca c ρ fl c', Okk K ca ⟨c, F, H, ρ, σ⟩ ∧ m ρ c = .ok fl c' ∧ SEnd K ca D ⟨c, F, H, ρ, σ⟩ c' fl
abbrev PDS (X : Cx) (st : Stmt) (m : MS) : Prop := PS X st (tS X.K m)
abbrev PDSs (X : Cx) (st : List Stmt) (m : MS) : Prop := PSs X st (tS X.K m)
theorem ps_imp {X : Cx} {st : Stmt} {t t' : TS} (h : PS X st t) (k : ∀ D σ H, t' D σ H → t D σ H) : PS X st t' := ⟨fun pins s σ H D I q => h.run pins s σ H D I (k D σ H q)⟩
theorem pss_imp {X : Cx} {st : List Stmt} {t t' : TS} (h : PSs X st t) (k : ∀ D σ H, t' D σ H → t D σ H) : PSs X st t' := ⟨fun pins s σ H D I q => h.run pins s σ H D I (k D σ H q)⟩
theorem SEnd.trans {K : PySem.W.Frag} {ca : Addr} {D : Ends} {S T : Stt} {c' : Cup} {fl : Fl} (g : Go K ca S T) (h : SEnd K ca D S c' fl) : SEnd K ca D T c' fl := by
  cases fl with
  | nx ρ' => exact fun F' H' σ' k => h F' H' σ' (g.trans k)
  | bk ρ' => exact fun F' H' σ' k => h F' H' σ' (g.trans k)
  | ct ρ' => exact fun F' H' σ' k => h F' H' σ' (g.trans k)
  | ret d => exact fun v F' H' k r => h v F' H' (g.ext.trans k g.owned) r
def mSkip : MS := fun ρ => pure (.nx ρ)
def mSeq (m n : MS) : MS := fun ρ => do
  let f ← m ρ
  match f with
  | .nx ρ' => n ρ'
  | f => pure f
def mIfS (t : MB) (m n : MS) : MS := fun ρ => do
  let b ← t ρ
  if b then m ρ else n ρ
def mRet (m : ME) : MS := fun ρ => do
  let d ← m ρ
  pure (.ret d)
def mRetN : MS := fun _ => pure (.ret .non)
def mBrk : MS := fun ρ => pure (.bk ρ)
def mCont : MS := fun ρ => pure (.ct ρ)
def mDrop (m : ME) : MS := fun ρ => do
  let _ ← m ρ
  pure (.nx ρ)
def optM {α : Type} (o : Option α) : M α := match o with
  | some a => pure a
  | none => M.stuck
def mAsg (g : MG) (m : ME) : MS := fun ρ => do
  let d ← m ρ
  let ρ' ← optM (g d ρ)
  pure (.nx ρ')
theorem optM_ok {α : Type} {o : Option α} {a : α} {c c' : Cup} (h : optM o c = .ok a c') : o = some a ∧ c = c' := by
  cases o with
  | none => cases h
  | some b => obtain ⟨rfl, rfl⟩ := pure_ok h; exact ⟨rfl, rfl⟩
section
variable {X : Cx} {st : Stmt} {rest : List Stmt} {m n : MS} {e : Expr} {me : ME} {pos : Pos}
theorem pds_nil : PDSs X [] mSkip := pss_imp pss_nil fun D σ H ⟨F, ca, c, ρ, fl, c', o, hm, q⟩ => by
  obtain ⟨rfl, rfl⟩ := pure_ok hm
  exact q F H σ (Go.refl o)
theorem pds_cons (h1 : PDS X st m) (h2 : PDSs X rest n) : PDSs X (st :: rest) (mSeq m n) := pss_imp (pss_cons h1 h2) fun D σ H ⟨F, ca, c, ρ, fl, c', o, hm, q⟩ => by
  obtain ⟨f, c1, e1, hm⟩ := bind_ok hm
  refine ⟨F, ca, c, ρ, f, c1, o, e1, ?_⟩
  cases f with
  | nx ρ1 => exact fun F1 H1 σ1 g => ⟨F1, ca, c1, ρ1, fl, c', g.okk, hm, q.trans g⟩
  | ret d => obtain ⟨rfl, rfl⟩ := pure_ok hm; exact q
  | bk d => obtain ⟨rfl, rfl⟩ := pure_ok hm; exact q
  | ct d => obtain ⟨rfl, rfl⟩ := pure_ok hm; exact q
theorem pds_one (h : PDS X st m) : PDSs X [st] m := pss_one h
theorem pds_if {c : Expr} {a b : List Stmt} {t : MB} (hc : PDT X c t) (ha : PDSs X a m) (hb : PDSs X b n) : PDS X (.If c a b pos) (mIfS t m n) := ps_imp (ps_if hc ha hb) fun D σ H ⟨F, ca, c, ρ, fl, c', o, hm, q⟩ => by
  obtain ⟨k, c1, e1, hm⟩ := bind_ok hm
  refine ⟨F, ca, c, ρ, k, c1, o.env, o.sub, o.cup, e1, fun H1 F1 x => ?_⟩
  have g := Go.ev o x
  cases k with
  | true => exact ⟨F1, ca, c1, ρ, fl, c', g.okk, hm, q.trans g⟩
  | false => exact ⟨F1, ca, c1, ρ, fl, c', g.okk, hm, q.trans g⟩
theorem pds_ret (h : PDS X (.Pass pos) mSkip ∨ PD X e me) (h' : PD X e me) : PDS X (.Return (some e) pos) (mRet me) := ps_imp (ps_ret h') fun D σ H ⟨F, ca, c, ρ, fl, c', o, hm, q⟩ => by
  obtain ⟨d, c1, e1, hm⟩ := bind_ok hm
  obtain ⟨rfl, rfl⟩ := pure_ok hm
  exact ⟨F, ca, c, ρ, d, _, o.env, o.sub, o.cup, e1, fun v H1 F1 x r => q v F1 H1 x.s r⟩
theorem pds_return (h' : PD X e me) : PDS X (.Return (some e) pos) (mRet me) := pds_ret (.inr h') h'
theorem pds_retN : PDS X (.Return none pos) mRetN := ps_imp ps_retN fun D σ H ⟨F, ca, c, ρ, fl, c', o, hm, q⟩ => by
  obtain ⟨rfl, rfl⟩ := pure_ok hm
  exact q .non F H (Ext.refl o.sub o.cup).s .non
theorem pds_break : PDS X (.Break pos) mBrk := ps_imp ps_break fun D σ H ⟨F, ca, c, ρ, fl, c', o, hm, q⟩ => by
  obtain ⟨rfl, rfl⟩ := pure_ok hm
  exact q F H σ (Go.refl o)
theorem pds_cont : PDS X (.Continue pos) mCont := ps_imp ps_continue fun D σ H ⟨F, ca, c, ρ, fl, c', o, hm, q⟩ => by
  obtain ⟨rfl, rfl⟩ := pure_ok hm
  exact q F H σ (Go.refl o)
theorem pds_pass : PDS X (.Pass pos) mSkip := ps_imp ps_pass fun D σ H ⟨F, ca, c, ρ, fl, c', o, hm, q⟩ => by
  obtain ⟨rfl, rfl⟩ := pure_ok hm
  exact q F H σ (Go.refl o)
theorem pds_expr (h : PD X e me) (hs : swapsWith e none pos.line X.env = pure false := by rfl) : PDS X (.Expr e pos) (mDrop me) := ps_imp (ps_expr h hs) fun D σ H ⟨F, ca, c, ρ, fl, c', o, hm, q⟩ => by
  obtain ⟨d, c1, e1, hm⟩ := bind_ok hm
  obtain ⟨rfl, rfl⟩ := pure_ok hm
  exact ⟨F, ca, c, ρ, d, _, o.env, o.sub, o.cup, e1, fun v H1 F1 x r => q F1 H1 σ (Go.ev o x)⟩
/-- code that is not come to -/
def mNever : MS := fun _ => M.stuck
theorem pds_never : PDS X st mNever := ps_imp ps_never fun D σ H ⟨F, ca, c, ρ, fl, c', o, hm, q⟩ => by cases hm
theorem pdss_never {sts : List Stmt} : PDSs X sts mNever := pss_imp pss_never fun D σ H ⟨F, ca, c, ρ, fl, c', o, hm, q⟩ => by cases hm
theorem tAsg_of {K : PySem.W.Frag} {ts : List Nat} {mg : MG} {D : Ends} {σ : L2.St} {H : Hp} (h : tS K (mAsg mg me) D σ H) : tAsg (tE K me) (gD K ts mg) D σ H := by
  obtain ⟨F, ca, c, ρ, fl, c', o, hm, q⟩ := h
  obtain ⟨d, c1, e1, hm⟩ := bind_ok hm
  obtain ⟨ρ', c2, e2, hm⟩ := bind_ok hm
  obtain ⟨e3, rfl⟩ := optM_ok e2
  obtain ⟨rfl, rfl⟩ := pure_ok hm
  refine ⟨F, ca, c, ρ, d, _, o.env, o.sub, o.cup, e1, fun v H1 F1 x r => ?_⟩
  refine ⟨F1, ca, _, ρ, d, ρ', o.env.ext x, x.sub, r, e3, fun σ' E' l _ ow => ?_⟩
  exact q F1 H1 σ' ⟨x.s, E', fun a z => .inl (ow a z), l⟩
theorem pds_asg {tg : Expr} {ts : List Nat} {mg : MG} (hg : PGD X tg ts mg) (he : PD X e me) (hs : swapsWithSole [tg] e pos.line X.env = pure false := by rfl) (hw : swappedStores [tg] e X.env = pure none := by rfl)
    (h1 : (assignEach [tg] X.env).map (·.2) = [assign tg X.env] := by rfl) : PDS X (.Assign [tg] e pos) (mAsg mg me) := ps_imp (ps_asg he hg hs hw h1) fun _ _ _ h => tAsg_of h
theorem gName_of {K : PySem.W.Frag} {i : Nat} {v : V} {σ : L2.St} {H : Hp} {Q : L2.St → Hp → Prop} (h : gD K [i] (mgName i) v σ H Q) : gName i v σ H Q := by
  obtain ⟨F, ca, c, ρ, d, ρ', E, s, r, hm, q⟩ := h
  cases hm
  exact q _ (E.set r) (by simp) (fun j hj => List.getElem?_set_ne (fun z => hj (by simp [z]))) fun a h => owned_set E r h
/-- x = e -/
theorem pds_set {x : Str} {pos' : Pos} (i : Nat) (hN : X.N.Nodup) (he : PD X e me) (hi : X.N[i]? = some x := by rfl) (hx : Loc X.env.scope x := by first | exact Or.inl rfl | exact Or.inr rfl) (hs : swapsWith e (some (.Name x pos')) pos.line X.env = pure false := by rfl)
    (hf : X.fn x = true ∨ X.env.scope.names.lookup x = some .local := by first | exact .inl rfl | exact .inr rfl | assumption) : PDS X (.Assign [.Name x pos'] e pos) (mAsg (mgName i) me) :=
  ps_imp (ps_set hN hi hx he hs hf) fun D σ H h => by
    have h : tAsg (tE X.K me) (gD X.K [i] (mgName i)) D σ H := tAsg_of h
    obtain ⟨F, ca, c, ρ, d, c', E, s, k, hm, q⟩ := h
    exact ⟨F, ca, c, ρ, d, c', E, s, k, hm, fun v H1 F1 x r => gName_of (q v H1 F1 x r)⟩
/-! ### while -/
def whileN (t : MB) (b : MS) : Nat → MS
  | 0 => fun _ => M.stuck
  | n + 1 => fun ρ => do
    let k ← t ρ
    if k then do
      let f ← b ρ
      match f with
      | .nx ρ' => whileN t b n ρ'
      | .ct ρ' => whileN t b n ρ'
      | .bk ρ' => pure (.nx ρ')
      | .ret d => pure (.ret d)
    else pure (.nx ρ)
open Classical in
noncomputable def mWhile (t : MB) (b : MS) : MS := fun ρ c => if h : ∃ n f c', whileN t b n ρ c = .ok f c' then whileN t b h.choose ρ c else .stuck
theorem mWhile_ok {t : MB} {b : MS} {ρ : Env} {c c' : Cup} {f : Fl} (h : mWhile t b ρ c = .ok f c') : ∃ n, whileN t b n ρ c = .ok f c' := by
  unfold mWhile at h
  split at h
  · exact ⟨_, h⟩
  · cases h
theorem pds_while {c : Expr} {body : List Stmt} {t : MB} {b : MS} (hp : PassesOwn (model X.prog X.w) X.A X.env X.xe) (hc : PDT X c t) (hb : PDSs X body b) : PDS X (.While c body [] pos) (mWhile t b) :=
  ps_imp (ps_while hp hc hb) fun D σ H ⟨F, ca, c, ρ, fl, c', o, hm, q⟩ => by
    obtain ⟨n, hn⟩ := mWhile_ok hm
    refine ⟨fun m σ1 H1 => ∃ F1 c1 ρ1, Go X.K ca ⟨c, F, H, ρ, σ⟩ ⟨c1, F1, H1, ρ1, σ1⟩ ∧ whileN t b m ρ1 c1 = .ok fl c', ⟨n, F, c, ρ, Go.refl o, hn⟩, ?_⟩
    rintro m σ1 H1 ⟨F1, c1, ρ1, g, hn⟩
    cases m with
    | zero => cases hn
    | succ m =>
      obtain ⟨k, c2, e1, hn⟩ := bind_ok hn
      refine ⟨F1, ca, c1, ρ1, k, c2, g.env, g.ext.sub, g.ext.cup, e1, fun H2 F2 x => ?_⟩
      have g2 := g.trans (Go.ev g.okk x)
      cases k with
      | false =>
        obtain ⟨rfl, rfl⟩ := pure_ok hn
        exact q F2 H2 σ1 g2
      | true =>
        obtain ⟨f, c3, e2, hn⟩ := bind_ok hn
        refine ⟨fun σ3 H3 => ∃ F3 ρ3, Go X.K ca ⟨c, F, H, ρ, σ⟩ ⟨c3, F3, H3, ρ3, σ3⟩ ∧ whileN t b m ρ3 c3 = .ok fl c', fun σ3 H3 ⟨F3, ρ3, g3, h3⟩ => ⟨m, Nat.lt_succ_self m, F3, c3, ρ3, g3, h3⟩, ?_⟩
        refine ⟨F2, ca, c2, ρ1, f, c3, g2.okk, e2, ?_⟩
        cases f with
        | nx ρ3 => exact fun F3 H3 σ3 g3 => ⟨F3, ρ3, g2.trans g3, hn⟩
        | ct ρ3 => exact fun F3 H3 σ3 g3 => ⟨F3, ρ3, g2.trans g3, hn⟩
        | bk ρ3 =>
          obtain ⟨rfl, rfl⟩ := pure_ok hn
          exact fun F3 H3 σ3 g3 => q F3 H3 σ3 (g2.trans g3)
        | ret d =>
          obtain ⟨rfl, rfl⟩ := pure_ok hn
          exact q.trans g2
end
/-! ### what is walked -/
structure WalkD (K : PySem.W.Frag) (J : It) (F0 : Hp) (ca : Addr) (ds : List D) : Prop where
  goes : ∀ i H, i < ds.length → Evl.Ex F0 H → J.go i H
  stops : ∀ H, Evl.Ex F0 H → J.stop ds.length H
  yields : ∀ i H x H' F c, i < ds.length → Evl.Ex F0 F → Evl.Ex F H → CupOk H F ca c → J.yld i H x H' → ∃ F' d, ds[i]? = some d ∧ Ext ca c c F H F' H' ∧ Rep K F' ca x d
def iD (K : PySem.W.Frag) (mi : MA) : TI := fun σ H R => ∃ F ca c ρ ds c', EnvOk K F H ca c ρ σ ∧ Evl.Ex F H ∧ CupOk H F ca c ∧ mi ρ c = .ok ds c' ∧ ∀ J H' F', Ext ca c c' F H F' H' → WalkD K J F' ca ds → R J H'
abbrev PID (X : Cx) (tg e : Expr) (mi : MA) : Prop := PI X tg e (iD X.K mi)
theorem pi_imp {X : Cx} {tg e : Expr} {t t' : TI} (h : PI X tg e t) (k : ∀ σ H R, t' σ H R → t σ H R) : PI X tg e t' := ⟨fun pins s σ H R I q => h.run pins s σ H R I (k σ H R q)⟩
def seqD (d : D) : M (List D) := match d with
  | .lst xs => pure xs
  | .tup xs => pure xs
  | _ => M.stuck
def miSeq (m : ME) : MA := fun ρ => do
  let d ← m ρ
  seqD d
def rangeL (lo hi : Int) : List D := (List.range (hi - lo).toNat).map fun (i : Nat) => D.int (lo + (i : Int))
def range1F (ds : List D) : M (List D) := match ds with
  | [.int n] => if -(2 ^ 62) ≤ n ∧ n < 2 ^ 62 then pure (rangeL 0 n) else M.stuck
  | _ => M.stuck
def range2F (ds : List D) : M (List D) := match ds with
  | [.int i, .int n] => if (-(2 ^ 62) ≤ i ∧ i < 2 ^ 62) ∧ -(2 ^ 62) ≤ n ∧ n < 2 ^ 62 then pure (rangeL i n) else M.stuck
  | _ => M.stuck
def miCall (f : List D → M (List D)) (r : MA) : MA := fun ρ => do
  let ds ← r ρ
  f ds
def zipF (ds : List D) : M (List D) := match ds with
  | [.lst xs, .lst ys] => pure ((xs.zip ys).map fun p => .tup [p.1, p.2])
  | [.tup xs, .tup ys] => pure ((xs.zip ys).map fun p => .tup [p.1, p.2])
  | _ => M.stuck
def enumF (ds : List D) : M (List D) := match ds with
  | [.lst xs] => pure ((xs.zipIdx).map fun p => .tup [.int p.2, p.1])
  | _ => M.stuck
section
variable {X : Cx} {K : PySem.W.Frag} {tg : Expr}
def iSeq (K : PySem.W.Frag) (tl : TE) : TI := fun σ H R => tl σ H fun x H1 => ∃ a, x = .ref a ∧ ((∃ xs, SqL K H1 a xs ∧ R (Itl K a) H1) ∨ ∃ xs, SqT K H1 a xs ∧ R (Itt K a) H1)
theorem pi_seq {l : Expr} {tl : TE} (hl : PE X l tl) : PI X tg l (iSeq X.K tl) := by
  refine ⟨fun pins s σ H R I h => ?_⟩
  refine thn (hl.run pins s σ H _ I h) fun v s1 ⟨x, H1, I1, r1, q1⟩ => ?_
  obtain ⟨a, e, q⟩ := q1
  subst e
  cases r1
  have fr : ∀ b ∈ [s1.heap.objs.size], FpOk X pins H1 b := fun b hb => by
    have e : b = s1.heap.objs.size := by simpa using hb
    subst e
    exact I1.fpOk (Nat.le_refl _) (I1.hok.fresh (Nat.le_refl _))
  rcases q with ⟨xs, hq, q⟩ | ⟨xs, hq, q⟩
  · obtain ⟨its, rv, p, hz⟩ := I1.list hq
    exact wpAny_pyIter_list p.isList ⟨s1.heap.objs.size, [s1.heap.objs.size], _, _, H1, rfl, I1.kept (t' := s1.toks) fun b o e => Heap.get?_push_of_some _ e, turn_list a _, ⟨_, Heap.get?_push_size _ rfl, rfl, rfl⟩, fr, q⟩
  · obtain ⟨its, rv, p, hz⟩ := I1.tuple hq
    exact wpAny_pyIter_tuple (show s1.heap.IsTuple a its.toArray from p) ⟨s1.heap.objs.size, [s1.heap.objs.size], _, _, H1, rfl, I1.kept (t' := s1.toks) fun b o e => Heap.get?_push_of_some _ e, turn_tuple a _, ⟨_, Heap.get?_push_size _ rfl, rfl, rfl⟩, fr, q⟩
theorem walkD_l {F : Hp} {ca a : Addr} {vs : List V} {ds : List D} (ha : F a = some (.lst vs)) (r : Reps K F ca vs ds) : WalkD K (Itl K a) F ca ds where
  goes := fun i H hi s => ⟨vs, vs[i]'(by rw [pd_len r]; exact hi), .inl (.inl (s _ _ ha)), List.getElem?_eq_getElem _⟩
  stops := fun H s => ⟨vs, .inl (.inl (s _ _ ha)), by rw [pd_len r]; exact Nat.le_refl _⟩
  yields := fun i H x H' F1 c hi f s k y => by
    obtain ⟨rfl, y⟩ := y
    obtain ⟨d, h1, h2⟩ := pd_getL r (y vs (.inl (.inl (s _ _ (f _ _ ha)))))
    exact ⟨F1, d, h1, Ext.refl s k, h2.mono f⟩
theorem walkD_t {F : Hp} {ca a : Addr} {vs : List V} {ds : List D} (ha : SqT K F a vs) (r : Reps K F ca vs ds) : WalkD K (Itt K a) F ca ds where
  goes := fun i H hi s => ⟨vs, vs[i]'(by rw [pd_len r]; exact hi), Evl.ex_t s ha, List.getElem?_eq_getElem _⟩
  stops := fun H s => ⟨vs, Evl.ex_t s ha, by rw [pd_len r]; exact Nat.le_refl _⟩
  yields := fun i H x H' F1 c hi f s k y => by
    obtain ⟨rfl, y⟩ := y
    obtain ⟨d, h1, h2⟩ := pd_getL r (y vs (Evl.ex_t (f.trans s) ha))
    exact ⟨F1, d, h1, Ext.refl s k, h2.mono f⟩
theorem pid_seq {l : Expr} {m : ME} (h : PD X l m) : PID X tg l (miSeq m) := pi_imp (pi_seq h) fun σ H R ⟨F, ca, c, ρ, ds, c', E, s, k, hm, q⟩ => by
  obtain ⟨d, c1, e1, hm⟩ := bind_ok hm
  refine ⟨F, ca, c, ρ, d, c1, E, s, k, e1, fun v H1 F1 x r => ?_⟩
  unfold seqD at hm
  split at hm
  · obtain ⟨rfl, rfl⟩ := pure_ok hm
    obtain ⟨a, vs, rfl, ha, ra⟩ := rep_lst_inv r
    exact ⟨a, rfl, .inl ⟨vs, .inl (.inl (x.sub _ _ ha)), q _ H1 F1 x (walkD_l ha ra)⟩⟩
  · obtain ⟨rfl, rfl⟩ := pure_ok hm
    obtain ⟨a, vs, rfl, ha, ra⟩ := rep_tup_inv r
    exact ⟨a, rfl, .inr ⟨vs, Evl.ex_t x.sub ha, q _ H1 F1 x (walkD_t ha ra)⟩⟩
  · cases hm
theorem rangeL_len {lo hi : Int} : (rangeL lo hi).length = (hi - lo).toNat := by simp [rangeL]
theorem walkD_r {F : Hp} {ca : Addr} {lo hi : Int} : WalkD K (Itr lo (hi - lo).toNat) F ca (rangeL lo hi) where
  goes := fun i H hi' s => by rw [rangeL_len] at hi'; exact hi'
  stops := fun H s => by rw [rangeL_len]; exact Nat.le_refl _
  yields := fun i H x H' F1 c hi' f s k y => by
    rw [rangeL_len] at hi'
    obtain ⟨rfl, rfl⟩ := y
    exact ⟨F1, .int (lo + i), by unfold rangeL; rw [List.getElem?_map, List.getElem?_range hi']; rfl, Ext.refl s k, .int _⟩
theorem pid_range1 {a : Expr} {r : MA} {p pos : Pos} (hg : Gl X "range") (hm : X.mg "range" = none) (ha : PDA X [a] r) (hs : starEach [a] X.env = [(false, eval a X.env)] := by rfl) : PID X tg (.Call (.Name "range" p) [a] [] pos) (miCall range1F r) :=
  pi_imp (pi_range1 hg hm ha hs) fun σ H R ⟨F, ca, c, ρ, ds, c', E, s, k, hm, q⟩ => by
    obtain ⟨xs, c1, e1, hm⟩ := bind_ok hm
    refine ⟨F, ca, c, ρ, xs, c1, E, s, k, e1, fun vs H1 F1 x r => ?_⟩
    unfold range1F at hm
    split at hm
    · rename_i n
      by_cases hb : -(2 ^ 62) ≤ n ∧ n < 2 ^ 62
      · rw [if_pos hb] at hm
        obtain ⟨rfl, rfl⟩ := pure_ok hm
        obtain ⟨v, rfl, rv⟩ := reps1 r
        cases rv
        refine ⟨n, rfl, hb.1, hb.2, ?_⟩
        have w : WalkD X.K (Itr 0 (n - 0).toNat) F1 ca (rangeL 0 n) := walkD_r
        rw [Int.sub_zero] at w
        exact q _ H1 F1 x w
      · rw [if_neg hb] at hm; cases hm
    · cases hm
theorem pid_range2 {a b : Expr} {r : MA} {p pos : Pos} (hg : Gl X "range") (hm : X.mg "range" = none) (ha : PDA X [a, b] r) (hs : starEach [a, b] X.env = [(false, eval a X.env), (false, eval b X.env)] := by rfl) (hs2 : starEach [b] X.env = [(false, eval b X.env)] := by rfl) :
    PID X tg (.Call (.Name "range" p) [a, b] [] pos) (miCall range2F r) :=
  pi_imp (pi_range2 hg hm ha hs hs2) fun σ H R ⟨F, ca, c, ρ, ds, c', E, s, k, hm, q⟩ => by
    obtain ⟨xs, c1, e1, hm⟩ := bind_ok hm
    refine ⟨F, ca, c, ρ, xs, c1, E, s, k, e1, fun vs H1 F1 x r => ?_⟩
    unfold range2F at hm
    split at hm
    · rename_i i n
      by_cases hb : (-(2 ^ 62) ≤ i ∧ i < 2 ^ 62) ∧ -(2 ^ 62) ≤ n ∧ n < 2 ^ 62
      · rw [if_pos hb] at hm
        obtain ⟨rfl, rfl⟩ := pure_ok hm
        obtain ⟨v, w, rfl, rv, rw'⟩ := reps2 r
        cases rv; cases rw'
        exact ⟨i, n, rfl, ⟨hb.1.1, hb.1.2, hb.2.1, hb.2.2⟩, q _ H1 F1 x walkD_r⟩
      · rw [if_neg hb] at hm; cases hm
    · cases hm
/-- zip, pairs of two lists or two tuples -/
theorem walkD_p {F : Hp} {ca : Addr} {J : It} {us vs : List V} {xs ys : List D} {n : Nat} {G : Hp → Prop} (w : Walk J n G (YPair (fun i => us[i]?) (fun i => vs[i]?))) (hn : n = min us.length vs.length) (hG : ∀ H, Evl.Ex F H → G H) (r1 : Reps K F ca us xs) (r2 : Reps K F ca vs ys) :
    WalkD K J F ca ((xs.zip ys).map fun p => .tup [p.1, p.2]) where
  goes := fun i H hi s => w.goes i H (by rw [hn, pd_len r1, pd_len r2]; simpa using hi) (hG H s)
  stops := fun H s => by
    have e : ((xs.zip ys).map fun p => D.tup [p.1, p.2]).length = n := by rw [hn, pd_len r1, pd_len r2]; simp
    rw [e]
    exact w.stops H (hG H s)
  yields := fun i H x H' F1 c hi f s k y => by
    have hi' : i < n := by rw [hn, pd_len r1, pd_len r2]; simpa using hi
    obtain ⟨T, u, v, rfl, nT, rfl, h1, h2⟩ := w.yields i H x H' hi' (hG H (f.trans s)) y
    obtain ⟨a, e1, ra⟩ := pd_getL r1 h1
    obtain ⟨b, e2, rb⟩ := pd_getL r2 h2
    have e := Ext.laid (o := .tup [u, v]) s k nT
    refine ⟨_, .tup [a, b], ?_, e, rep_tup (SqT.of upd_same) (.cons (ra.mono (f.trans e.ff)) (.cons (rb.mono (f.trans e.ff)) .nil))⟩
    rw [List.getElem?_map]
    have : (xs.zip ys)[i]? = some (a, b) := by
      rw [List.getElem?_zip_eq_some]
      exact ⟨e1, e2⟩
    rw [this]
    rfl
theorem walk_zipT {a b : Addr} {xs ys : List V} {n : Nat} (hn : n = min xs.length ys.length) : Walk (RZ.ItzT K a b) n (fun H => SqT K H a xs ∧ SqT K H b ys) (YPair (fun i => xs[i]?) (fun i => ys[i]?)) := by
  subst hn
  refine ⟨fun i _ hi q => ?_, fun _ q => ⟨xs, ys, q.1, q.2, by omega⟩, fun i H v H' _ q y => ?_⟩
  · have h1 : i < xs.length := by omega
    have h2 : i < ys.length := by omega
    exact ⟨xs, ys, xs[i], ys[i], q.1, q.2, by simp [h1], by simp [h2]⟩
  · obtain ⟨T, x, y', h1, h2, h3, h4, h5⟩ := y
    exact ⟨T, x, y', h1, h2, h3, h4 xs q.1, h5 ys q.2⟩
theorem pid_zip {e e2 : Expr} {r : MA} {p pos tpos : Pos} {elts : List Expr} {kk : Nat} (hg : Gl X "zip") (hm : X.mg "zip" = none) (ha : PDA X [e, e2] r)
    (hs : starEach [e, e2] X.env = (false, eval e X.env) :: starEach [e2] X.env := by rfl) (hpl : (backTo pos (starEach [e2] X.env)).any (·.1) = false := by rfl) : PID X (.Tuple elts kk tpos) (.Call (.Name "zip" p) [e, e2] [] pos) (miCall zipF r) :=
  pi_imp (RZ.pi_zipA hg hm ha hs hpl) fun σ H R ⟨F, ca, c, ρ, ds, c', E, s, k, hm, q⟩ => by
    obtain ⟨xs, c1, e1, hm⟩ := bind_ok hm
    refine ⟨F, ca, c, ρ, xs, c1, E, s, k, e1, fun vs H1 F1 x r => ?_⟩
    unfold zipF at hm
    split at hm
    · obtain ⟨rfl, rfl⟩ := pure_ok hm
      obtain ⟨v, w, rfl, rv, rw'⟩ := reps2 r
      obtain ⟨a, us, rfl, ha, ra⟩ := rep_lst_inv rv
      obtain ⟨b, ws, rfl, hb, rb⟩ := rep_lst_inv rw'
      exact ⟨a, b, us, ws, rfl, .inl ⟨.inl (.inl (x.sub _ _ ha)), .inl (.inl (x.sub _ _ hb)), q _ H1 F1 x (walkD_p (walk_zip rfl) rfl (fun H s => ⟨.inl (.inl (s _ _ ha)), .inl (.inl (s _ _ hb))⟩) ra rb)⟩⟩
    · obtain ⟨rfl, rfl⟩ := pure_ok hm
      obtain ⟨v, w, rfl, rv, rw'⟩ := reps2 r
      obtain ⟨a, us, rfl, ha, ra⟩ := rep_tup_inv rv
      obtain ⟨b, ws, rfl, hb, rb⟩ := rep_tup_inv rw'
      exact ⟨a, b, us, ws, rfl, .inr ⟨Evl.ex_t x.sub ha, Evl.ex_t x.sub hb, q _ H1 F1 x (walkD_p (walk_zipT rfl) rfl (fun H s => ⟨Evl.ex_t s ha, Evl.ex_t s hb⟩) ra rb)⟩⟩
    · cases hm
end
/-! ### for -/
def forL (g : MG) (b : MS) : List D → MS
  | [] => fun ρ => pure (.nx ρ)
  | d :: ds => fun ρ => do
    let ρ1 ← optM (g d ρ)
    let f ← b ρ1
    match f with
    | .nx ρ' => forL g b ds ρ'
    | .ct ρ' => forL g b ds ρ'
    | .bk ρ' => pure (.nx ρ')
    | .ret d => pure (.ret d)
def mFor (mi : MA) (g : MG) (b : MS) : MS := fun ρ => do
  let ds ← mi ρ
  forL g b ds ρ
section
variable {X : Cx} {pos : Pos}
theorem pds_for {tg iter : Expr} {body : List Stmt} {mi : MA} {ts : List Nat} {g : MG} {b : MS} (hp : PassesOwn (model X.prog X.w) X.A X.env X.xe) (hc : X.calm = true) (hi : PID X tg iter mi) (hg : PGD X tg ts g) (hb : PDSs X body b)
    (hs : ∀ x, foldedSetIterable iter X.env x = pure x := by intro _; rfl) : PDS X (.For tg iter body [] pos) (mFor mi g b) :=
  ps_imp (ps_for hp hc hi hg hb hs) fun D σ H ⟨F, ca, c, ρ, fl, c', o, hm, q⟩ => by
    obtain ⟨ds, c1, e1, hm⟩ := bind_ok hm
    refine ⟨F, ca, c, ρ, ds, c1, o.env, o.sub, o.cup, e1, fun J H1 F1 x w => ?_⟩
    have g1 := Go.ev o x
    refine ⟨fun i m σ2 H2 => m = ds.length - i ∧ i ≤ ds.length ∧ ∃ F2 c2 ρ2, Evl.Ex F1 F2 ∧ Go X.K ca ⟨c, F, H, ρ, σ⟩ ⟨c2, F2, H2, ρ2, σ2⟩ ∧ forL g b (ds.drop i) ρ2 c2 = .ok fl c', ⟨ds.length, by simp, Nat.zero_le _, F1, c1, ρ, Evl.Ex.refl F1, g1, hm⟩, ?_⟩
    rintro i m σ2 H2 ⟨rfl, hi', F2, c2, ρ2, f2, g2, hn⟩
    by_cases hlt : i < ds.length
    · refine .inr ⟨w.goes i H2 hlt (f2.trans g2.ext.sub), ?_⟩
      rw [List.drop_eq_getElem_cons hlt] at hn
      obtain ⟨ρ3, c3, h3', hn⟩ := bind_ok hn
      obtain ⟨h3, rfl⟩ := optM_ok h3'
      obtain ⟨f, c4, h4, hn⟩ := bind_ok hn
      refine ⟨fun σ5 H5 => ∃ F5 ρ5, Evl.Ex F1 F5 ∧ Go X.K ca ⟨c, F, H, ρ, σ⟩ ⟨c4, F5, H5, ρ5, σ5⟩ ∧ forL g b (ds.drop (i + 1)) ρ5 c4 = .ok fl c', fun σ5 H5 ⟨F5, ρ5, f5, g5, h5⟩ => ⟨ds.length - (i + 1), by omega, rfl, hlt, F5, c4, ρ5, f5, g5, h5⟩, fun v H3 y => ?_⟩
      obtain ⟨F3, d, hd, x3, r3⟩ := w.yields i H2 v H3 F2 c2 hlt f2 g2.ext.sub g2.ext.cup y
      have ed : ds[i] = d := by rw [List.getElem?_eq_getElem hlt] at hd; exact Option.some.inj hd
      subst ed
      have g3 := g2.trans (Go.ev g2.okk x3)
      refine ⟨F3, ca, c2, ρ2, _, ρ3, g3.env, g3.ext.sub, r3, h3, fun σ4 E4 l4 _ o4 => ?_⟩
      have g4 : Go X.K ca ⟨c, F, H, ρ, σ⟩ ⟨c2, F3, H3, ρ3, σ4⟩ := ⟨g3.ext, E4, fun a z => g3.owned a (o4 a z), l4.trans g3.len⟩
      have f3 : Evl.Ex F1 F3 := f2.trans x3.ff
      refine ⟨F3, ca, c2, ρ3, f, c4, g4.okk, h4, ?_⟩
      cases f with
      | nx ρ5 => exact fun F5 H5 σ5 g5 => ⟨F5, ρ5, f3.trans g5.ext.ff, g4.trans g5, hn⟩
      | ct ρ5 => exact fun F5 H5 σ5 g5 => ⟨F5, ρ5, f3.trans g5.ext.ff, g4.trans g5, hn⟩
      | bk ρ5 =>
        obtain ⟨rfl, rfl⟩ := pure_ok hn
        exact fun F5 H5 σ5 g5 => q F5 H5 σ5 (g4.trans g5)
      | ret d =>
        obtain ⟨rfl, rfl⟩ := pure_ok hn
        exact q.trans g4
    · have e : i = ds.length := by omega
      subst e
      refine .inl ⟨w.stops H2 (f2.trans g2.ext.sub), ?_⟩
      rw [List.drop_length] at hn
      obtain ⟨rfl, rfl⟩ := pure_ok hn
      exact q F2 H2 σ2 g2
end
end DL
namespace DL
open PySem PySem.Spec PyProof.Rows L2
/-! ### comprehensions -/
def wipeE (ρ : Env) : List Nat → Env
  | [] => ρ
  | v :: vs => (wipeE ρ vs).set v none
section
variable {K : PySem.W.Frag} {F H : Hp} {ca : Addr} {c : Cup} {ρ : Env} {σ : L2.St} {v : V} {d : D} {i : Nat}
theorem EnvOk.unset (E : EnvOk K F H ca c ρ σ) : EnvOk K F H ca c (ρ.set i none) (σ.set i none) where
  len := by simpa using E.len
  at_ := fun j d' h => by
    rcases set_get h with ⟨rfl, e, hi⟩ | ⟨hj, h⟩
    · cases e
    · obtain ⟨w, h1, h2⟩ := E.at_ j d' h
      exact ⟨w, by rw [List.getElem?_set_ne (fun z => hj z.symm)]; exact h1, h2⟩
  apart := fun j k xs ys w h1 h2 h3 h4 => by
    rcases set_get h1 with ⟨rfl, e, _⟩ | ⟨hj, h1⟩
    · cases e
    · rcases set_get h2 with ⟨rfl, e, _⟩ | ⟨hk, h2⟩
      · cases e
      · rw [List.getElem?_set_ne (fun z => hj z.symm)] at h3
        rw [List.getElem?_set_ne (fun z => hk z.symm)] at h4
        exact E.apart j k xs ys w h1 h2 h3 h4
theorem EnvOk.wiped (E : EnvOk K F H ca c ρ σ) : ∀ vs : List Nat, EnvOk K F H ca c (wipeE ρ vs) (wipe σ vs)
  | [] => E
  | _ :: vs => (EnvOk.wiped E vs).unset
theorem wipe_idem (σ : L2.St) : ∀ (vs : List Nat) (i : Nat), i ∈ vs → (wipe σ vs)[i]? = none ∨ (wipe σ vs)[i]? = some none
  | w :: vs, i, h => by
    show ((wipe σ vs).set w none)[i]? = none ∨ ((wipe σ vs).set w none)[i]? = some none
    by_cases e : w = i
    · subst e
      by_cases hl : w < (wipe σ vs).length
      · rw [List.getElem?_set_self hl]; exact .inr rfl
      · exact .inl (List.getElem?_eq_none (by simpa using hl))
    · rw [List.getElem?_set_ne e]
      rcases List.mem_cons.mp h with z | z
      · exact absurd z.symm e
      · exact wipe_idem σ vs i z
theorem wipe_get {σ : L2.St} : ∀ {vs : List Nat} {i : Nat}, i ∉ vs → (wipe σ vs)[i]? = σ[i]?
  | [], _, _ => rfl
  | w :: vs, i, h => by
    show ((wipe σ vs).set w none)[i]? = _
    rw [List.getElem?_set_ne (fun z => h (by simp [z])), wipe_get fun z => h (List.mem_cons_of_mem _ z)]
theorem wipe_same {σ σ' : L2.St} {vs ts : List Nat} (hl : σ'.length = (wipe σ vs).length) (hk : ∀ i, i ∉ ts → σ'[i]? = (wipe σ vs)[i]?) (ht : ∀ i ∈ ts, i ∈ vs) : wipe σ' vs = wipe σ vs := by
  apply List.ext_getElem?
  intro i
  by_cases hi : i ∈ vs
  · have h1 := wipe_idem σ' vs i hi
    have h2 := wipe_idem σ vs i hi
    have e1 : (wipe σ' vs).length = (wipe σ vs).length := by rw [wipe_length, wipe_length, hl, wipe_length]
    by_cases hb : i < (wipe σ vs).length
    · have a1 : (wipe σ' vs)[i]? ≠ none := by rw [List.getElem?_eq_getElem (by omega)]; simp
      have a2 : (wipe σ vs)[i]? ≠ none := by rw [List.getElem?_eq_getElem hb]; simp
      rw [h1.resolve_left a1, h2.resolve_left a2]
    · rw [List.getElem?_eq_none (by omega), List.getElem?_eq_none (by omega)]
  · rw [wipe_get hi, hk i fun z => hi (ht i z), wipe_get hi]
end
def lcL (g : MG) (t : MB) (m : ME) (ρ : Env) : List D → M (List D)
  | [] => pure []
  | d :: ds => do
    let ρ1 ← optM (g d ρ)
    let k ← t ρ1
    if k then do
      let y ← m ρ1
      let r ← lcL g t m ρ ds
      pure (y :: r)
    else lcL g t m ρ ds
def mLc (vs : List Nat) (mi : MA) (g : MG) (t : MB) (m : ME) : ME := fun ρ => do
  let ds ← mi ρ
  if ds.length ≤ 1000000 then do
    let r ← lcL g t m (wipeE ρ vs) ds
    pure (.lst r)
  else M.stuck
def mYes : MB := fun _ => pure true
abbrev PTsD (X : Cx) (ifs : List Expr) (t : MB) : Prop := PTs X ifs (tT X.K t)
section
variable {X : Cx} {pos : Pos}
theorem pts_imp {ifs : List Expr} {t t' : TT} (h : PTs X ifs t) (k : ∀ σ H Q, t' σ H Q → t σ H Q) : PTs X ifs t' := ⟨fun pins s σ H Q I q => h.run pins s σ H Q I (k σ H Q q)⟩
theorem ptsd_nil : PTsD X [] mYes := pts_imp pts_nil fun σ H Q ⟨F, ca, c, ρ, d, c', E, s, k, hm, q⟩ => by
  obtain ⟨rfl, rfl⟩ := pure_ok hm
  exact q H F (Ext.refl s k)
theorem ptsd_one {c : Expr} {t : MB} (h : PDT X c t) : PTsD X [c] t := pts_one h
theorem tLc_of {K : PySem.W.Frag} {vs ts : List Nat} {mi : MA} {g : MG} {t : MB} {m : ME} (hts : ∀ i ∈ ts, i ∈ vs) {σ : L2.St} {H : Hp} {Q : VK} (h : tE K (mLc vs mi g t m) σ H Q) : tLc (iD K mi) (gD K ts g) (tT K t) (tE K m) vs σ H Q := by
  obtain ⟨F, ca, c, ρ, d, c', E, s, k, hm, q⟩ := h
  obtain ⟨ds, c1, e1, hm⟩ := bind_ok hm
  refine ⟨F, ca, c, ρ, ds, c1, E, s, k, e1, fun J H1 F1 x w L hL => ?_⟩
  by_cases hlen : ds.length ≤ 1000000
  · rw [if_pos hlen] at hm
    obtain ⟨r, c2, e2, hm⟩ := bind_ok hm
    obtain ⟨rfl, hcc⟩ := pure_ok hm
    have E1 : EnvOk K F1 H1 ca c1 (wipeE ρ vs) (wipe σ vs) := (E.ext x).wiped vs
    have caL : ∀ {cc : Cup}, cc ≠ none → (c1 = none ↔ cc = none) → ca ≠ L := fun {cc} hc hs z => by
      cases e : c1 with
      | none => exact hc (hs.mp e)
      | some p =>
        obtain ⟨i, j⟩ := p
        have := x.cup
        rw [e] at this
        have h2 := this.1
        rw [z, hL] at h2; cases h2
    refine ⟨fun i n H2 => n = ds.length - i ∧ i ≤ ds.length ∧ ∃ F2 c2 us outs rest, Ext ca c1 c2 F1 H1 F2 H2 ∧ H2 L = some (.lst us) ∧ F2 L = none ∧ Reps K F2 ca us outs ∧ outs.length ≤ i ∧ lcL g t m (wipeE ρ vs) (ds.drop i) c2 = .ok rest c' ∧ outs ++ rest = r, ⟨ds.length, by simp, Nat.zero_le _, F1, c1, [], [], r, Ext.laidN x.sub x.cup hL, upd_same, ?_, .nil, Nat.le_refl _, hcc ▸ e2, rfl⟩, ?_⟩
    · cases z : F1 L with
      | none => rfl
      | some u => rw [x.sub L u z] at hL; cases hL
    rintro i n H2 ⟨rfl, hi, F2, c2, us, outs, rest, x2, hD, hF, ro, hle, hr, er⟩
    by_cases hlt : i < ds.length
    · refine .inr ⟨w.goes i H2 hlt (x2.ff.trans x2.sub), ?_⟩
      rw [List.drop_eq_getElem_cons hlt] at hr
      obtain ⟨ρ1, c3, h3', hr⟩ := bind_ok hr
      obtain ⟨h3, rfl⟩ := optM_ok h3'
      refine ⟨fun H3 => ∃ F2 c2 us outs rest, Ext ca c1 c2 F1 H1 F2 H3 ∧ H3 L = some (.lst us) ∧ F2 L = none ∧ Reps K F2 ca us outs ∧ outs.length ≤ i + 1 ∧ lcL g t m (wipeE ρ vs) (ds.drop (i + 1)) c2 = .ok rest c' ∧ outs ++ rest = r, fun H3 z => ⟨ds.length - (i + 1), by omega, rfl, hlt, z⟩, fun v H3 y => ?_⟩
      obtain ⟨F3, d, hd, x3, r3⟩ := w.yields i H2 v H3 F2 c2 hlt x2.ff x2.sub x2.cup y
      have ed : ds[i] = d := by rw [List.getElem?_eq_getElem hlt] at hd; exact Option.some.inj hd
      subst ed
      have x23 := x2.trans x3
      -- what stays of L
      have keepL : ∀ {F4 H4 : Hp} {c4 : Cup}, Ext ca c2 c4 F2 H2 F4 H4 → H4 L = some (.lst us) ∧ F4 L = none := fun {F4 H4 c4} z => by
        refine ⟨z.keep L _ hD ?_, ?_⟩
        · cases e : c2 with
          | none => exact .inl rfl
          | some p => exact .inr fun zz => caL (cc := c2) (by rw [e]; simp) x2.same zz.symm
        · cases e : F4 L with
          | none => rfl
          | some u =>
            rcases z.new L u e with q1 | q1
            · rw [hF] at q1; cases q1
            · rw [hD] at q1; cases q1
      refine ⟨F3, ca, c2, wipeE ρ vs, _, ρ1, (E1.ext x23), x3.sub, r3, h3, fun σ4 E4 l4 k4 _ => ⟨wipe_same l4 k4 hts, ?_⟩⟩
      obtain ⟨kk, c4, h4, hr⟩ := bind_ok hr
      refine ⟨F3, ca, c2, ρ1, kk, c4, E4, x3.sub, x3.cup, h4, fun H4 F4 x4 => ?_⟩
      have x34 := x3.trans x4
      cases kk with
      | false =>
        obtain ⟨a1, a2⟩ := keepL x34
        exact ⟨F4, c4, us, outs, rest, x2.trans x34, a1, a2, reps_mono x34.ff ro, by omega, hr, er⟩
      | true =>
        obtain ⟨y5, c5, h5, hr⟩ := bind_ok hr
        obtain ⟨r6, c6, h6, hr⟩ := bind_ok hr
        obtain ⟨rfl, rfl⟩ := pure_ok hr
        refine ⟨F4, ca, c4, ρ1, y5, c5, E4.ext x4, x4.sub, x4.cup, h5, fun v5 H5 F5 x5 r5 => ?_⟩
        have x35 := x34.trans x5
        obtain ⟨a1, a2⟩ := keepL x35
        refine ⟨us, a1, ?_, F5, c5, us ++ [v5], outs ++ [y5], r6, ?_, upd_same, a2, pd_app (reps_mono x35.ff ro) (.cons r5 .nil), by simpa using hle, h6, by simpa using er⟩
        · rw [pd_len ro]; exact sz_lt (by omega)
        · have x6 := x2.trans x35
          refine ⟨x6.ff, fun a o z => ?_, x6.new, fun a o z1 z2 => ?_, ?_, x6.same⟩
          · rw [upd_ne (fun zz => by rw [zz, a2] at z; cases z)]; exact x6.sub a o z
          · rw [upd_ne (fun zz => by rw [zz, hL] at z1; cases z1)]; exact x6.keep a o z1 z2
          · have z := x6.cup
            cases e : c5 with
            | none => trivial
            | some p =>
              obtain ⟨i', j'⟩ := p
              rw [e] at z
              exact ⟨by rw [upd_ne (caL (cc := c5) (by rw [e]; simp) x6.same)]; exact z.1, z.2⟩
    · have e : i = ds.length := by omega
      subst e
      refine .inl ⟨w.stops H2 (x2.ff.trans x2.sub), ?_⟩
      rw [List.drop_length] at hr
      obtain ⟨rfl, rfl⟩ := pure_ok hr
      rw [List.append_nil] at er
      subst er
      -- freeze it
      have x0 := x.trans x2
      have nL : H L = none := x.there L hL
      have fz : Evl.Ex F2 (upd F2 L (.lst us)) := fun a o z => by rw [upd_ne (fun zz => by rw [zz, hF] at z; cases z)]; exact z
      refine q (.ref L) H2 (upd F2 L (.lst us)) ⟨x0.ff.trans fz, fun a o z => ?_, fun a o z => ?_, x0.keep, ?_, x0.same⟩ (rep_lst upd_same (reps_mono fz ro))
      · by_cases ha : a = L
        · subst ha; rw [upd_same] at z; rw [← z]; exact hD
        · rw [upd_ne ha] at z; exact x2.sub a o z
      · by_cases ha : a = L
        · subst ha; exact .inr nL
        · rw [upd_ne ha] at z; exact x0.new a o z
      · have z := x0.cup
        cases e : c2 with
        | none => trivial
        | some p =>
          obtain ⟨i', j'⟩ := p
          rw [e] at z
          exact ⟨z.1, by rw [upd_ne (caL (cc := c2) (by rw [e]; simp) x2.same)]; exact z.2⟩
  · rw [if_neg hlen] at hm; cases hm
theorem pd_lc {elt tg iter : Expr} {ifs : List Expr} {scope : Scope} (own : List (Str × Nat)) {mi : MA} {ts : List Nat} {g : MG} {t : MB} {m : ME} (hc : X.calm = true) (hN : X.N.Nodup) (hi : PID X tg iter mi) (ok : BlkOk X.N X.env.scope scope own)
    (hg : ∀ (s : Shared) (H : Hp) (C : Addr) (cl : List (Str × Addr)) (fp : List Addr), PGD (X.blk s H scope (compEnvC scope cl C X.env) fp) tg ts g) (ht : ∀ (s : Shared) (H : Hp) (C : Addr) (cl : List (Str × Addr)) (fp : List Addr), PTsD (X.blk s H scope (compEnvC scope cl C X.env) fp) ifs t)
    (he : ∀ (s : Shared) (H : Hp) (C : Addr) (cl : List (Str × Addr)) (fp : List Addr), PD (X.blk s H scope (compEnvC scope cl C X.env) fp) elt m) (hts : ∀ i ∈ ts, i ∈ own.map (·.2) := by decide) (hs : ∀ x, foldedSetIterable iter X.env x = pure x := by intro _; rfl) :
    PD X (.ListComp elt [⟨tg, iter, ifs, 0⟩] scope pos) (mLc (own.map (·.2)) mi g t m) :=
  pe_imp (pe_lc hc hN hi ok hg ht he hs) fun _ _ _ h => tLc_of hts h
theorem pds_setLc {y : Str} {py : Pos} {elt tg iter : Expr} {ifs : List Expr} {scope : Scope} (i : Nat) (own : List (Str × Nat)) {spos : Pos} {mi : MA} {ts : List Nat} {g : MG} {t : MB} {m : ME} (hc : X.calm = true) (hN : X.N.Nodup)
    (hsw : swapsWith (.ListComp elt [⟨tg, iter, ifs, 0⟩] scope pos) (some (.Name y py)) spos.line X.env = pure true) (hi : PID X tg iter mi) (ok : BlkOk X.N X.env.scope scope own)
    (hg : ∀ (s : Shared) (H : Hp) (C : Addr) (cl : List (Str × Addr)) (fp : List Addr), PGD (X.blk s H scope (compEnvC scope cl C X.env) fp) tg ts g) (ht : ∀ (s : Shared) (H : Hp) (C : Addr) (cl : List (Str × Addr)) (fp : List Addr), PTsD (X.blk s H scope (compEnvC scope cl C X.env) fp) ifs t)
    (he : ∀ (s : Shared) (H : Hp) (C : Addr) (cl : List (Str × Addr)) (fp : List Addr), PD (X.blk s H scope (compEnvC scope cl C X.env) fp) elt m) (hy : X.N[i]? = some y := by rfl) (hyl : X.env.scope.names.lookup y = some .local := by rfl) (hts : ∀ i ∈ ts, i ∈ own.map (·.2) := by decide) (hs : ∀ x, foldedSetIterable iter X.env x = pure x := by intro _; rfl) :
    PDS X (.Assign [.Name y py] (.ListComp elt [⟨tg, iter, ifs, 0⟩] scope pos) spos) (mAsg (mgName i) (mLc (own.map (·.2)) mi g t m)) :=
  ps_imp (ps_setLc hc hN hy hyl hsw hi ok hg ht he hs) fun D σ H h => by
    obtain ⟨F, ca, c, ρ, d, c', E, s, k, hm, q⟩ : tE X.K (mLc (own.map (·.2)) mi g t m) σ H (fun x H1 => gName i x σ H1 D.nx) := by
      obtain ⟨F, ca, c, ρ, fl, c', o, hm, q⟩ := h
      obtain ⟨d, c1, e1, hm⟩ := bind_ok hm
      obtain ⟨ρ', c2, e2, hm⟩ := bind_ok hm
      obtain ⟨e3, rfl⟩ := optM_ok e2
      obtain ⟨rfl, rfl⟩ := pure_ok hm
      cases e3
      refine ⟨F, ca, c, ρ, d, _, o.env, o.sub, o.cup, e1, fun v H1 F1 x r => ?_⟩
      exact q F1 H1 _ ⟨x.s, (o.env.ext x).set r, fun a z => .inl (owned_set (o.env.ext x) r z), by simp⟩
    exact tLc_of hts ⟨F, ca, c, ρ, d, c', E, s, k, hm, q⟩
end
/-! ### a def -/
def runD (nN np : Nat) (m : MS) : List D → M D := fun ds => if ds.length = np then do
    let f ← m (ds.map some ++ List.replicate (nN - np) none)
    match f with
    | .ret d => pure d
    | .nx _ => pure .non
    | _ => M.stuck
  else M.stuck
theorem envOk_start {K : PySem.W.Frag} {F H : Hp} {ca : Addr} {c : Cup} {vs : List V} {ds : List D} (n : Nat) (r : Reps K F ca vs ds) : EnvOk K F H ca c (ds.map some ++ List.replicate n none) (vs.map some ++ List.replicate n none) ∧ ∀ a, ¬ Owned (ds.map some ++ List.replicate n none) (vs.map some ++ List.replicate n none) a := by
  have get : ∀ (i : Nat) d, (ds.map some ++ List.replicate n none)[i]? = some (some d) → ∃ v, (vs.map some ++ List.replicate n none)[i]? = some (some v) ∧ Rep K F ca v d := fun i d h => by
    by_cases hi : i < ds.length
    · rw [List.getElem?_append_left (by simpa using hi), List.getElem?_map] at h
      have h1 : ds[i]? = some d := by
        cases e : ds[i]? with
        | none => rw [e] at h; cases h
        | some x => rw [e] at h; cases h; rfl
      obtain ⟨v, e1, e2⟩ := pd_get r h1
      refine ⟨v, ?_, e2⟩
      rw [List.getElem?_append_left (by rw [List.length_map, pd_len r]; exact hi), List.getElem?_map, e1]
      rfl
    · rw [List.getElem?_append_right (by simpa using hi), List.getElem?_replicate] at h
      split at h <;> cases h
  refine ⟨⟨by simp [pd_len r], fun i d h => let ⟨v, a, b⟩ := get i d h; ⟨v, a, SlotOk.of b⟩, fun i j xs ys v h _ _ _ => ?_⟩, fun a ⟨i, xs, h, _⟩ => ?_⟩
  · obtain ⟨v, _, b⟩ := get i _ h; cases b
  · obtain ⟨v, _, b⟩ := get i _ h; cases b
section
variable {P : Program} {w : World} {K : PySem.W.Frag} {mg : Str → Option Value} {base : Heap}
theorem body_of {CX : CXT} {N ps : List Str} {vs : List V} {H : Hp} {Q : VK} {m : MS} (h : spD K (runD N.length ps.length m) vs H Q E0) :
    tS K m { nx := fun _ H' => Q .non H', rt := Q } (L2.start N vs) H := by
  obtain ⟨F, ca, c, ds, d, c', r, s, k, hm, q⟩ := h
  unfold runD at hm
  by_cases hl : ds.length = ps.length
  · rw [if_pos hl] at hm
    obtain ⟨f, c1, e1, hm⟩ := bind_ok hm
    have e : L2.start N vs = vs.map some ++ List.replicate (N.length - ps.length) none := by
      unfold L2.start
      rw [pd_len r, hl]
    rw [e]
    obtain ⟨E, no⟩ := envOk_start (H := H) (c := c) (N.length - ps.length) r
    refine ⟨F, ca, c, _, f, c1, ⟨E, s, k⟩, e1, ?_⟩
    cases f with
    | nx ρ' =>
      obtain ⟨rfl, rfl⟩ := pure_ok hm
      exact fun F1 H1 σ1 g => q .non H1 F1 (g.ext.mono (fun a z => (no a z).elim)).ext .non
    | ret x =>
      obtain ⟨rfl, rfl⟩ := pure_ok hm
      exact fun v F1 H1 g rr => q v H1 F1 (g.mono (fun a z => (no a z).elim)).ext rr
    | bk ρ' => cases hm
    | ct ρ' => cases hm
  · rw [if_neg hl] at hm; cases hm
theorem spD_len {N ps : List Str} {m : MS} : ∀ vs H Q E, spD K (runD N.length ps.length m) vs H Q E → vs.length = ps.length := by
  intro vs H Q E ⟨F, ca, c, ds, d, c', r, s, k, hm, q⟩
  unfold runD at hm
  by_cases hl : ds.length = ps.length
  · rw [pd_len r, hl]
  · rw [if_neg hl] at hm; cases hm
theorem def_okL {x qual : Str} {st : Stmt} {f : Addr} {fd : FuncData} {N ps : List Str} {k : Nat} {m : MS} (F : Fun K x qual st f fd) (S : FnScope N ps (defScope st))
    (hbody : ∀ (cdv : Value) (A : Around) (outer : List PySem.Env) (s : Shared) (H : Hp) (E : XK), Room k (A.deeper (envOfC qual (defScope st) s.heap.objs.size f cdv)) → PDSs (cxOf CX0 P w K mg base N qual (defScope st) f cdv A outer s H E).nox (defBody st) m) :
    FnOk P w K mg base CX0 (k + 1) f fd ps (spD K (runD N.length ps.length m)) :=
  F.ok S spD_len fun cdv A outer s H vs Q E hr h => ⟨_, hbody cdv A outer s H E hr, body_of (CX := CX0) h⟩
theorem def_ok {x qual : Str} {st : Stmt} {f : Addr} {fd : FuncData} {N ps : List Str} {k nN np : Nat} {m : MS} (F : Fun K x qual st f fd) (S : FnScope N ps (defScope st))
    (hbody : ∀ (cdv : Value) (A : Around) (outer : List PySem.Env) (s : Shared) (H : Hp) (E : XK), Room k (A.deeper (envOfC qual (defScope st) s.heap.objs.size f cdv)) → PDSs (cxOf CX0 P w K mg base N qual (defScope st) f cdv A outer s H E).nox (defBody st) m)
    (hn : N.length = nN := by rfl) (hp : ps.length = np := by rfl) : FnOk P w K mg base CX0 (k + 1) f fd ps (spD K (runD nN np m)) := by
  subst hn hp
  exact def_okL F S hbody
end
end DL
namespace DL
open PySem PySem.Spec PyProof.Rows L2
/-! ### cup[i] = e -/
def mCupSet (i : Nat) (j : Int) (m : ME) : MS := fun ρ => do
  let d ← m ρ
  match d with
  | .int n => fun c => match ρ[i]?, c with
    | some (some .cup), some (x, y) => if j = 0 then .ok (.nx ρ) (some (n, y)) else if j = 1 then .ok (.nx ρ) (some (x, n)) else .stuck
    | _, _ => .stuck
  | _ => M.stuck
section
variable {X : Cx} {K : PySem.W.Frag} {pos : Pos} {e : Expr} {me : ME}
theorem some_same {p q : Int × Int} : (some p = none) ↔ (some q = none) := ⟨(fun z => (by cases z)), (fun z => (by cases z))⟩
theorem slot_upd {F H : Hp} {ca a : Addr} {c c' : Cup} {v : V} {d : D} {o : HO} (h : SlotOk K F H ca c v d) (hc : c = none ↔ c' = none) (hn : ∀ xs, d = .own xs → v ≠ .ref a) : SlotOk K F (upd H a o) ca c' v d := by
  cases d with
  | own xs =>
    obtain ⟨b, vs, e1, e2, e3, e4, e5⟩ := h
    exact ⟨b, vs, e1, by rw [upd_ne (fun z => hn xs rfl (by rw [e1, z]))]; exact e2, e3, e4, e5.imp hc.mp id⟩
  | _ => exact h
theorem pds_cupSet {x : Str} {p0 p1 tp : Pos} {j : Nat} {n : Int} (i : Nat) (hv : PE X (.Name x p0) (tVar i)) (he : PD X e me)
    (hs : swapsWithSole [.Subscript (.Name x p0) (.Constant (.int n) j p1) tp] e pos.line X.env = pure false := by rfl) (hw : swappedStores [.Subscript (.Name x p0) (.Constant (.int n) j p1) tp] e X.env = pure none := by rfl)
    (h1 : (assignEach [.Subscript (.Name x p0) (.Constant (.int n) j p1) tp] X.env).map (·.2) = [assign (.Subscript (.Name x p0) (.Constant (.int n) j p1) tp) X.env] := by rfl)
    (ha : ∀ v, assign (.Subscript (.Name x p0) (.Constant (.int n) j p1) tp) X.env v = (do
      let ov ← holding [v] (eval (.Name x p0) X.env)
      let iv ← holding [v, ov] (eval (.Constant (.int n) j p1) X.env)
      standAt tp
      holding [v, ov, iv] (setItem ov iv v)
      release [v, ov, iv] []) := by intro _; rfl) : PDS X (.Assign [.Subscript (.Name x p0) (.Constant (.int n) j p1) tp] e pos) (mCupSet i n me) :=
  ps_imp (ps_asg he (pg_sub hv pe_int set_list ha) hs hw h1) fun D σ H ⟨F, ca, c, ρ, fl, c', o, hm, q⟩ => by
    obtain ⟨d, c1, e1, hm⟩ := bind_ok hm
    refine ⟨F, ca, c, ρ, d, c1, o.env, o.sub, o.cup, e1, fun v H1 F1 x r => ?_⟩
    have g1 := Go.ev o x
    cases d <;> simp only at hm <;> first
      | (cases hm; done)
      | skip
    rename_i k
    cases r
    cases e2 : ρ[i]? with
    | none => simp only [e2] at hm; cases hm
    | some oo =>
      cases oo with
      | none => simp only [e2] at hm; cases hm
      | some dd =>
        cases dd <;> simp only [e2] at hm <;> first
          | (cases hm; done)
          | skip
        cases c1 with
        | none => simp only at hm; cases hm
        | some p =>
          obtain ⟨cx, cy⟩ := p
          simp only at hm
          obtain ⟨v, h3, h4⟩ := o.env.at_ i .cup e2
          have h4 : Rep X.K F ca v .cup := h4
          cases h4
          have hcup := x.cup
          -- what comes behind a store
          have fin : ∀ a b : Int, Go X.K ca ⟨c, F, H, ρ, σ⟩ ⟨some (a, b), F1, upd H1 ca (.lst [.int a, .int b]), ρ, σ⟩ := fun a b => by
            refine g1.trans ⟨⟨Evl.Ex.refl F1, fun y u z => ?_, fun y u z => .inl z, fun y u z hz _ => ?_, fun y z => ?_, ⟨upd_same, hcup.2⟩, some_same⟩, ⟨g1.env.len, fun jj d' hh => ?_, g1.env.apart⟩, fun y z => .inl z, rfl⟩
            · show upd H1 ca _ y = some u
              rw [upd_ne (fun zz => by subst zz; have z : F1 y = some u := z; rw [hcup.2] at z; cases z)]; exact x.sub y u z
            · have hz : y ≠ ca := hz.resolve_left (fun q => (by cases q))
              show upd H1 ca _ y = some u
              rw [upd_ne hz]; exact z
            · have z : upd H1 ca _ y = none := z
              by_cases hy : y = ca
              · subst hy; rw [upd_same] at z; cases z
              · rw [upd_ne hy] at z; exact z
            · obtain ⟨w, a1, a2⟩ := g1.env.at_ jj d' hh
              refine ⟨w, a1, slot_upd a2 some_same fun xs ez zz => ?_⟩
              subst ez
              obtain ⟨b', vs', e1', _, _, _, e5'⟩ := a2
              rw [e1'] at zz
              cases zz
              rcases e5' with q | q
              · cases q
              · exact q rfl
          refine ⟨.ref ca, h3, ca, [.int cx, .int cy], n, ?_⟩
          by_cases hn : n = 0
          · rw [if_pos hn] at hm
            cases hm
            subst hn
            exact ⟨0, rfl, rfl, hcup.1, rfl, q F1 _ σ (fin k cy)⟩
          · rw [if_neg hn] at hm
            by_cases hn1 : n = 1
            · rw [if_pos hn1] at hm
              cases hm
              subst hn1
              exact ⟨1, rfl, rfl, hcup.1, rfl, q F1 _ σ (fin cx k)⟩
            · rw [if_neg hn1] at hm; cases hm
/-! ### lists that are filled -/
def ownAt (ρ : Env) (i : Nat) : M (List D) := match ρ[i]? with
  | some (some (.own xs)) => pure xs
  | _ => M.stuck
theorem ownAt_ok {ρ : Env} {i : Nat} {c c' : Cup} {xs : List D} (h : ownAt ρ i c = .ok xs c') : ρ[i]? = some (some (.own xs)) ∧ c = c' := by
  cases e : ρ[i]? with
  | none => simp only [ownAt, e] at h; cases h
  | some o =>
    cases o with
    | none => simp only [ownAt, e] at h; cases h
    | some d' =>
      cases d' <;> simp only [ownAt, e] at h <;> first
        | (cases h; done)
        | (obtain ⟨rfl, rfl⟩ := pure_ok h; exact ⟨rfl, rfl⟩)
/-- the list in slot i becomes us' -/
theorem Go.own {ca : Addr} {c : Cup} {F H : Hp} {ρ : Env} {σ : L2.St} {i : Nat} {xs xs' : List D} {a : Addr} {us' : List V} (o : Okk K ca ⟨c, F, H, ρ, σ⟩) (h : ρ[i]? = some (some (.own xs))) (hv : σ[i]? = some (some (.ref a))) (r : Reps K F ca us' xs') :
    Go K ca ⟨c, F, H, ρ, σ⟩ ⟨c, F, upd H a (.lst us'), ρ.set i (some (.own xs')), σ⟩ := by
  obtain ⟨v, h1, b, us, e1, e2, e3, e4, e5⟩ := o.env.at_ i _ h
  rw [hv] at h1
  cases h1
  cases e1
  have hi : i < ρ.length := by
    by_cases hi : i < ρ.length
    · exact hi
    · rw [List.getElem?_eq_none (by omega)] at h; cases h
  refine ⟨⟨Evl.Ex.refl F, fun y u z => ?_, fun y u z => .inl z, fun y u z hz hn => ?_, fun y z => ?_, ?_, Iff.rfl⟩, ⟨by simpa using o.env.len, fun j d' hh => ?_, fun j k ys zs w a1 a2 a3 a4 => ?_⟩, fun y z => ?_, rfl⟩
  · show upd H a (.lst us') y = some u
    rw [upd_ne (fun zz => by subst zz; have z : F y = some u := z; rw [show F y = none from e3] at z; cases z)]; exact o.sub y u z
  · show upd H a (.lst us') y = some u
    rw [upd_ne (fun zz => hn ⟨i, xs, h, by rw [zz]; exact hv⟩)]; exact z
  · have z : upd H a (.lst us') y = none := z
    by_cases hy : y = a
    · subst hy; rw [upd_same] at z; cases z
    · rw [upd_ne hy] at z; exact z
  · have k := o.cup
    cases c with
    | none => trivial
    | some p =>
      obtain ⟨x0, y0⟩ := p
      have hne : ca ≠ a := fun z => (e5.resolve_left (fun q => (by cases q))) z.symm
      exact ⟨by show upd H a _ ca = _; rw [upd_ne hne]; exact k.1, k.2⟩
  · rcases set_get hh with ⟨rfl, e, _⟩ | ⟨hj, hh⟩
    · cases e
      exact ⟨.ref a, hv, a, us', rfl, upd_same, e3, r, e5⟩
    · obtain ⟨w, b1, b2⟩ := o.env.at_ j d' hh
      refine ⟨w, b1, slot_upd b2 Iff.rfl fun ys ez zz => ?_⟩
      subst ez zz
      exact hj (o.env.apart j i ys xs _ hh h b1 hv)
  · rcases set_get a1 with ⟨e1, _, _⟩ | ⟨hj, b1⟩
    · rcases set_get a2 with ⟨e2, _, _⟩ | ⟨hk, b2⟩
      · exact e1.trans e2.symm
      · subst e1
        exact o.env.apart j k xs zs w h b2 a3 a4
    · rcases set_get a2 with ⟨e2, _, _⟩ | ⟨hk, b2⟩
      · subst e2
        exact o.env.apart j k ys xs w b1 h a3 a4
      · exact o.env.apart j k ys zs w b1 b2 a3 a4
  · obtain ⟨j, ys, b1, b2⟩ := z
    rcases set_get b1 with ⟨rfl, e, _⟩ | ⟨hj, b1⟩
    · exact .inl ⟨_, xs, h, b2⟩
    · exact .inl ⟨j, ys, b1, b2⟩
def mAppend (i : Nat) (m : ME) : MS := fun ρ => do
  let xs ← ownAt ρ i
  let d ← m ρ
  if xs.length < 1000000 then pure (.nx (ρ.set i (some (.own (xs ++ [d]))))) else M.stuck
theorem own_slot {ca : Addr} {c : Cup} {F H : Hp} {ρ : Env} {σ : L2.St} {i : Nat} {xs : List D} (E : EnvOk K F H ca c ρ σ) (h : ρ[i]? = some (some (.own xs))) : ∃ a us, σ[i]? = some (some (.ref a)) ∧ H a = some (.lst us) ∧ Reps K F ca us xs := by
  obtain ⟨v, h1, b, us, rfl, e2, e3, e4, e5⟩ := E.at_ i _ h
  exact ⟨b, us, h1, e2, e4⟩
theorem pds_append {ce : Expr} (i : Nat) (hpe : PE X ce (tBM X.K "list" rAppend (tVar i) (tCons (tE X.K me) tNil))) (hs : swapsWith ce none pos.line X.env = pure false := by rfl) : PDS X (.Expr ce pos) (mAppend i me) :=
  ps_imp (ps_expr hpe hs) fun D σ H ⟨F, ca, c, ρ, fl, c', o, hm, q⟩ => by
    obtain ⟨xs, c1, e0, hm⟩ := bind_ok hm
    obtain ⟨e1, rfl⟩ := ownAt_ok e0
    obtain ⟨d, c2, e2, hm⟩ := bind_ok hm
    by_cases hl : xs.length < 1000000
    · rw [if_pos hl] at hm
      obtain ⟨rfl, rfl⟩ := pure_ok hm
      obtain ⟨a, us, h1, h2, h3⟩ := own_slot o.env e1
      refine ⟨.ref a, h1, .inl ⟨rfl, us, .inl (.inl h2)⟩, F, ca, c, ρ, d, _, o.env, o.sub, o.cup, e2, fun v H1 F1 x r => ?_⟩
      have g1 := Go.ev o x
      obtain ⟨a', us', h1', h2', h3'⟩ := own_slot g1.env e1
      rw [h1] at h1'
      cases h1'
      refine ⟨a, us', v, rfl, rfl, h2', ?_, ?_⟩
      · rw [pd_len h3']; exact sz_lt hl
      · exact q F1 _ σ (g1.trans (Go.own g1.okk e1 h1 (pd_app h3' (.cons r .nil))))
    · rw [if_neg hl] at hm; cases hm
/-- xs.pop(), its value dropped -/
def mPopS (i : Nat) : MS := fun ρ => do
  let xs ← ownAt ρ i
  if xs.length = 0 then M.stuck else pure (.nx (ρ.set i (some (.own xs.dropLast))))
theorem pd_dropLast {α β : Type} {R : α → β → Prop} {xs : List α} {ys : List β} (h : Paired R xs ys) : Paired R xs.dropLast ys.dropLast := by
  rw [List.dropLast_eq_take, List.dropLast_eq_take, pd_len h]
  exact pd_take _ h
theorem pds_popS {ce : Expr} (i : Nat) (hpe : PE X ce (tBM0 X.K "list" rPop (tVar i))) (hs : swapsWith ce none pos.line X.env = pure false := by rfl) : PDS X (.Expr ce pos) (mPopS i) :=
  ps_imp (ps_expr hpe hs) fun D σ H ⟨F, ca, c, ρ, fl, c', o, hm, q⟩ => by
    obtain ⟨xs, c1, e0, hm⟩ := bind_ok hm
    obtain ⟨e1, rfl⟩ := ownAt_ok e0
    by_cases hl : xs.length = 0
    · rw [if_pos hl] at hm; cases hm
    · rw [if_neg hl] at hm
      obtain ⟨rfl, rfl⟩ := pure_ok hm
      obtain ⟨a, us, h1, h2, h3⟩ := own_slot o.env e1
      have hlen := pd_len h3
      refine ⟨.ref a, h1, .inl ⟨rfl, us, .inl (.inl h2)⟩, a, us, us[us.length - 1]'(by omega), rfl, rfl, h2, List.getElem?_eq_getElem _, ?_⟩
      exact q F _ σ (Go.own o e1 h1 (pd_dropLast h3))
/-- xs[k] = e -/
def mSetOwn (i : Nat) (mk me : ME) : MS := fun ρ => do
  let d ← me ρ
  let xs ← ownAt ρ i
  let k ← mk ρ
  match k with
  | .int n => match ixN xs.length n with
    | some j => pure (.nx (ρ.set i (some (.own (xs.set j d)))))
    | none => M.stuck
  | _ => M.stuck
theorem pds_setOwn {x : Str} {p0 tp : Pos} {b : Expr} {mk : ME} (i : Nat) (hv : PE X (.Name x p0) (tVar i)) (hk : PD X b mk) (he : PD X e me)
    (hs : swapsWithSole [.Subscript (.Name x p0) b tp] e pos.line X.env = pure false := by rfl) (hw : swappedStores [.Subscript (.Name x p0) b tp] e X.env = pure none := by rfl)
    (h1 : (assignEach [.Subscript (.Name x p0) b tp] X.env).map (·.2) = [assign (.Subscript (.Name x p0) b tp) X.env] := by rfl)
    (ha : ∀ v, assign (.Subscript (.Name x p0) b tp) X.env v = (do
      let ov ← holding [v] (eval (.Name x p0) X.env)
      let iv ← holding [v, ov] (eval b X.env)
      standAt tp
      holding [v, ov, iv] (setItem ov iv v)
      release [v, ov, iv] []) := by intro _; rfl) : PDS X (.Assign [.Subscript (.Name x p0) b tp] e pos) (mSetOwn i mk me) :=
  ps_imp (ps_asg he (pg_sub hv hk set_list ha) hs hw h1) fun D σ H ⟨F, ca, c, ρ, fl, c', o, hm, q⟩ => by
    obtain ⟨d, c1, e1, hm⟩ := bind_ok hm
    obtain ⟨xs, c2, e2', hm⟩ := bind_ok hm
    obtain ⟨e2, rfl⟩ := ownAt_ok e2'
    obtain ⟨k, c3, e3, hm⟩ := bind_ok hm
    cases k <;> simp only at hm <;> first
      | (cases hm; done)
      | skip
    rename_i n
    cases ej : ixN xs.length n with
    | none => simp only [ej] at hm; cases hm
    | some j =>
      simp only [ej] at hm
      obtain ⟨rfl, rfl⟩ := pure_ok hm
      refine ⟨F, ca, c, ρ, d, c1, o.env, o.sub, o.cup, e1, fun v H1 F1 x r => ?_⟩
      have g1 := Go.ev o x
      obtain ⟨a, us, h1, h2, h3⟩ := own_slot g1.env e2
      refine ⟨.ref a, h1, F1, ca, c1, ρ, .int n, _, g1.env, x.sub, x.cup, e3, fun w H2 F2 x2 r2 => ?_⟩
      cases r2
      have g2 := g1.trans (Go.ev g1.okk x2)
      obtain ⟨a', us', h1', h2', h3'⟩ := own_slot g2.env e2
      rw [h1] at h1'
      cases h1'
      refine ⟨a, us', n, j, rfl, rfl, h2', by rw [pd_len h3']; exact ej, ?_⟩
      exact q F2 _ σ (g2.trans (Go.own g2.okk e2 h1 (pd_set (r.mono x2.ff) j h3')))
/-! ### a list is filled no more -/
def mFrz (i : Nat) (m : MS) : MS := fun ρ => do
  let xs ← ownAt ρ i
  m (ρ.set i (some (.lst xs)))
theorem Go.frz {ca : Addr} {c : Cup} {F H : Hp} {ρ : Env} {σ : L2.St} {i : Nat} {xs : List D} {a : Addr} {us : List V} (o : Okk K ca ⟨c, F, H, ρ, σ⟩) (h : ρ[i]? = some (some (.own xs))) (hv : σ[i]? = some (some (.ref a))) (hH : H a = some (.lst us)) :
    Go K ca ⟨c, F, H, ρ, σ⟩ ⟨c, upd F a (.lst us), H, ρ.set i (some (.lst xs)), σ⟩ := by
  obtain ⟨v, h1, b, us', e1, e2, e3, e4, e5⟩ := o.env.at_ i _ h
  rw [hv] at h1
  cases h1
  cases e1
  have e2 : H a = some (.lst us') := e2
  rw [hH] at e2
  cases e2
  have e3 : F a = none := e3
  have fz : Evl.Ex F (upd F a (.lst us)) := fun y u z => by rw [upd_ne (fun zz => by subst zz; rw [e3] at z; cases z)]; exact z
  have cupok : CupOk H (upd F a (.lst us)) ca c := by
    have k := o.cup
    cases c with
    | none => trivial
    | some p =>
      obtain ⟨x0, y0⟩ := p
      have hne : ca ≠ a := fun z => (e5.resolve_left (fun q => (by cases q))) z.symm
      exact ⟨k.1, by rw [upd_ne hne]; exact k.2⟩
  refine ⟨⟨fz, fun y u z => ?_, fun y u z => ?_, fun y u z _ _ => z, fun y z => z, cupok, Iff.rfl⟩, ⟨by simpa using o.env.len, fun j d' hh => ?_, fun j k ys zs w a1 a2 a3 a4 => ?_⟩, fun y z => ?_, rfl⟩
  · have z : upd F a (.lst us) y = some u := z
    by_cases hy : y = a
    · subst hy; rw [upd_same] at z; rw [← z]; exact hH
    · rw [upd_ne hy] at z; exact o.sub y u z
  · have z : upd F a (.lst us) y = some u := z
    by_cases hy : y = a
    · subst hy; exact .inr (.inr ⟨i, xs, h, hv⟩)
    · rw [upd_ne hy] at z; exact .inl z
  · rcases set_get hh with ⟨rfl, e, _⟩ | ⟨hj, hh2⟩
    · cases e
      exact ⟨.ref a, hv, SlotOk.of (rep_lst upd_same (reps_mono fz e4))⟩
    · obtain ⟨w, b1, b2⟩ := o.env.at_ j d' hh2
      refine ⟨w, b1, ?_⟩
      cases d' with
      | own ys =>
        obtain ⟨b', us', f1, f2, f3, f4, f5⟩ := b2
        refine ⟨b', us', f1, f2, ?_, reps_mono fz f4, f5⟩
        show upd F a _ b' = none
        have hne : b' ≠ a := fun z => by
          subst z f1
          exact hj (o.env.apart j i ys xs _ hh2 h b1 hv)
        rw [upd_ne hne]; exact f3
      | _ => exact Rep.mono fz b2
  · rcases set_get a1 with ⟨e1, z, _⟩ | ⟨hj, b1⟩
    · cases z
    · rcases set_get a2 with ⟨e2, z, _⟩ | ⟨hk, b2⟩
      · cases z
      · exact o.env.apart j k ys zs w b1 b2 a3 a4
  · obtain ⟨j, ys, b1, b2⟩ := z
    rcases set_get b1 with ⟨_, z, _⟩ | ⟨hj, b1⟩
    · cases z
    · exact .inl ⟨j, ys, b1, b2⟩
theorem pds_frz {st : Stmt} {m : MS} (i : Nat) (h : PDS X st m) : PDS X st (mFrz i m) := ps_imp h fun D σ H ⟨F, ca, c, ρ, fl, c', o, hm, q⟩ => by
  obtain ⟨xs, c1, e0, hm⟩ := bind_ok hm
  obtain ⟨e1, rfl⟩ := ownAt_ok e0
  obtain ⟨a, us, h1, h2, h3⟩ := own_slot o.env e1
  have g := Go.frz o e1 h1 h2
  exact ⟨_, ca, c, _, fl, c', g.okk, hm, q.trans g⟩
/-- .. of which the name stands for nothing then -/
theorem pdss_frz {sts : List Stmt} {m : MS} (i : Nat) (h : PDSs X sts m) : PDSs X sts (mFrz i m) := pss_imp h fun D σ H ⟨F, ca, c, ρ, fl, c', o, hm, q⟩ => by
  obtain ⟨xs, c1, e0, hm⟩ := bind_ok hm
  obtain ⟨e1, rfl⟩ := ownAt_ok e0
  obtain ⟨a, us, h1, h2, h3⟩ := own_slot o.env e1
  have g := Go.frz o e1 h1 h2
  exact ⟨_, ca, c, _, fl, c', g.okk, hm, q.trans g⟩
/-! ### lists that are being filled, looked at: what comes out is no list -/
def thaw : Option D → Option D
  | some (.own xs) => some (.lst xs)
  | o => o
def viewE (ρ : Env) : Env := ρ.map thaw
def D.scal : D → Bool
  | .non => true | .bl _ => true | .int _ => true | .str _ => true
  | _ => false
def mView (m : ME) : ME := fun ρ => do
  let d ← m (viewE ρ)
  if d.scal = true then pure d else M.stuck
def mViewB (m : MB) : MB := fun ρ => m (viewE ρ)
theorem scal_rep {F F' : Hp} {ca : Addr} {v : V} {d : D} (h : d.scal = true) (r : Rep K F ca v d) : Rep K F' ca v d := by
  cases r with
  | non => exact .non
  | bl b => exact .bl b
  | int i => exact .int i
  | str x => exact .str x
  | _ => cases h
open Classical in
/-- what is frozen, and the lists that are being filled -/
noncomputable def allF' (F H : Hp) (ρ : Env) (σ : L2.St) : Hp := fun a => if Owned ρ σ a then H a else F a
theorem view_ok {ca : Addr} {c : Cup} {F H : Hp} {ρ : Env} {σ : L2.St} (E : EnvOk K F H ca c ρ σ) (s : Evl.Ex F H) (k : CupOk H F ca c) : EnvOk K (allF' F H ρ σ) H ca c (viewE ρ) σ ∧ Evl.Ex (allF' F H ρ σ) H ∧ CupOk H (allF' F H ρ σ) ca c ∧ Evl.Ex F (allF' F H ρ σ) := by
  have noF : ∀ a, Owned ρ σ a → F a = none ∧ (c = none ∨ a ≠ ca) := fun a ⟨i, xs, h1, h2⟩ => by
    obtain ⟨v, g1, b, us, rfl, e2, e3, e4, e5⟩ := E.at_ i _ h1
    rw [h2] at g1; cases g1
    exact ⟨e3, e5⟩
  have ff : Evl.Ex F (allF' F H ρ σ) := fun a o z => by
    unfold allF'
    rw [if_neg (fun q => by rw [(noF a q).1] at z; cases z)]
    exact z
  refine ⟨⟨by unfold viewE; rw [List.length_map]; exact E.len, fun i d h => ?_, fun i j xs ys v h _ _ _ => ?_⟩, fun a o z => ?_, ?_, ff⟩
  · unfold viewE at h
    rw [List.getElem?_map] at h
    cases e : ρ[i]? with
    | none => rw [e] at h; cases h
    | some oo =>
      rw [e] at h
      cases oo with
      | none => cases h
      | some d0 =>
        obtain ⟨v, h1, h2⟩ := E.at_ i d0 e
        refine ⟨v, h1, ?_⟩
        cases d0 with
        | own xs =>
          cases h
          obtain ⟨b, us, rfl, e2, e3, e4, e5⟩ := h2
          refine SlotOk.of (rep_lst (vs := us) ?_ (reps_mono ff e4))
          unfold allF'
          rw [if_pos ⟨i, xs, e, h1⟩]
          exact e2
        | _ => cases h; exact SlotOk.of (Rep.mono ff h2)
  · unfold viewE at h
    rw [List.getElem?_map] at h
    cases e : ρ[i]? with
    | none => rw [e] at h; cases h
    | some oo =>
      rw [e] at h
      cases oo with
      | none => cases h
      | some d0 => cases d0 <;> cases h
  · unfold allF' at z
    split at z
    · exact z
    · exact s a o z
  · cases c with
    | none => trivial
    | some p =>
      obtain ⟨x0, y0⟩ := p
      refine ⟨k.1, ?_⟩
      unfold allF'
      rw [if_neg (fun q => ((noF ca q).2.resolve_left (fun z => (by cases z))) rfl)]
      exact k.2
theorem ext_of_view {ca : Addr} {c c' : Cup} {F H F1 F' H' : Hp} (ff : Evl.Ex F F1) (s : Evl.Ex F H) (k : CupOk H F ca c) (x : Ext ca c c' F1 H F' H') : Ext ca c c' F H F H' :=
  ⟨Evl.Ex.refl F, fun a o z => x.sub a o (x.ff a o (ff a o z)), fun a o z => .inl z, x.keep, by
    cases e : c' with
    | none => trivial
    | some p =>
      obtain ⟨i, j⟩ := p
      have h := x.cup
      rw [e] at h
      refine ⟨h.1, ?_⟩
      cases e2 : c with
      | none => rw [x.same.mp e2] at e; cases e
      | some p2 =>
        obtain ⟨i2, j2⟩ := p2
        rw [e2] at k
        exact k.2, x.same⟩
theorem pd_view (h : PD X e me) : PD X e (mView me) := pe_imp h fun σ H Q ⟨F, ca, c, ρ, d, c', E, s, k, hm, q⟩ => by
  obtain ⟨d0, c1, e1, hm⟩ := bind_ok hm
  by_cases hd : d0.scal = true
  · rw [if_pos hd] at hm
    obtain ⟨rfl, rfl⟩ := pure_ok hm
    obtain ⟨a1, a2, a3, a4⟩ := view_ok E s k
    exact ⟨_, ca, c, _, _, _, a1, a2, a3, e1, fun v H' F' x r => q v H' F (ext_of_view a4 s k x) (scal_rep hd r)⟩
  · rw [if_neg hd] at hm; cases hm
theorem pdt_view {m : MB} (h : PDT X e m) : PDT X e (mViewB m) := pt_imp h fun σ H Q ⟨F, ca, c, ρ, d, c', E, s, k, hm, q⟩ => by
  obtain ⟨a1, a2, a3, a4⟩ := view_ok E s k
  exact ⟨_, ca, c, _, _, _, a1, a2, a3, hm, fun H' F' x => q H' F (ext_of_view a4 s k x)⟩
end
end DL
namespace DL
open PySem PySem.Spec PyProof.Rows L2
/-! ### expressions that make a list that is to be filled -/
def SlotN (K : PySem.W.Frag) (F' H' : Hp) (ca : Addr) (c' : Cup) (H : Hp) (v : V) (d : D) : Prop := match d with
  | .own xs => ∃ a vs, v = .ref a ∧ H' a = some (.lst vs) ∧ F' a = none ∧ H a = none ∧ Reps K F' ca vs xs ∧ (c' = none ∨ a ≠ ca)
  | d => Rep K F' ca v d
def tEN (K : PySem.W.Frag) (m : ME) : TE := fun σ H Q => ∃ F ca c ρ d c', EnvOk K F H ca c ρ σ ∧ Evl.Ex F H ∧ CupOk H F ca c ∧ m ρ c = .ok d c' ∧ ∀ v H' F', Ext ca c c' F H F' H' → SlotN K F' H' ca c' H v d → Q v H'
/-- of two filled lists the addresses differ -/
def Apart (vs : List V) (ds : List D) : Prop := ∀ (i j : Nat) xs ys v, ds[i]? = some (.own xs) → ds[j]? = some (.own ys) → vs[i]? = some v → vs[j]? = some v → i = j
def tArN (K : PySem.W.Frag) (m : MA) : TA := fun σ H Q => ∃ F ca c ρ d c', EnvOk K F H ca c ρ σ ∧ Evl.Ex F H ∧ CupOk H F ca c ∧ m ρ c = .ok d c' ∧ ∀ v H' F', Ext ca c c' F H F' H' → Paired (SlotN K F' H' ca c' H) v d → Apart v d → Q v H'
abbrev PDN (X : Cx) (e : Expr) (m : ME) : Prop := PE X e (tEN X.K m)
abbrev PDAN (X : Cx) (es : List Expr) (m : MA) : Prop := PA X es (tArN X.K m)
section
variable {X : Cx} {K : PySem.W.Frag} {e : Expr} {es : List Expr} {m : ME} {r : MA} {pos : Pos}
theorem SlotN.of {F' H' H : Hp} {ca : Addr} {c' : Cup} {v : V} {d : D} (h : Rep K F' ca v d) : SlotN K F' H' ca c' H v d := by
  cases d <;> first | exact h | cases h
theorem pdn_of (h : PD X e m) : PDN X e m := pe_imp h fun σ H Q ⟨F, ca, c, ρ, d, c', E, s, k, hm, q⟩ => ⟨F, ca, c, ρ, d, c', E, s, k, hm, fun v H' F' x rr => q v H' F' x (SlotN.of rr)⟩
def mOwnL (r : MA) : ME := fun ρ => do
  let ds ← r ρ
  if ds.length ≤ 1000000 then pure (.own ds) else M.stuck
theorem own_new {F H F1 H1 : Hp} {ca : Addr} {c c1 : Cup} {p : Addr} {o : HO} (x : Ext ca c c1 F H F1 H1) (hp : H1 p = none) : F1 p = none ∧ H p = none ∧ (c1 = none ∨ p ≠ ca) := by
  refine ⟨?_, x.there p hp, ?_⟩
  · cases e : F1 p with
    | none => rfl
    | some u => rw [x.sub p u e] at hp; cases hp
  · cases e : c1 with
    | none => exact .inl rfl
    | some q =>
      obtain ⟨i, j⟩ := q
      have k := x.cup
      rw [e] at k
      exact .inr fun z => by rw [z, k.1] at hp; cases hp
theorem pdn_lst (h : PDA X es r) : PDN X (.List es pos) (mOwnL r) := pe_imp (pe_lst h) fun σ H Q ⟨F, ca, c, ρ, d, c', E, s, k, hm, q⟩ => by
  obtain ⟨ds, c1, h1, hm⟩ := bind_ok hm
  by_cases hl : ds.length ≤ 1000000
  · rw [if_pos hl] at hm
    obtain ⟨rfl, rfl⟩ := pure_ok hm
    refine ⟨F, ca, c, ρ, ds, _, E, s, k, h1, fun vs H1 F1 e1 r1 => ⟨by rw [pd_len r1]; exact sz_of hl, fun p hp => ?_⟩⟩
    obtain ⟨a1, a2, a3⟩ := own_new (o := .lst vs) e1 hp
    exact q _ _ F1 (e1.trans (Ext.laidN e1.sub e1.cup hp)) ⟨p, vs, rfl, upd_same, a1, a2, r1, a3⟩
  · rw [if_neg hl] at hm; cases hm
theorem pdan_nil : PDAN X [] mNil := pa_imp pa_nil fun σ H Q ⟨F, ca, c, ρ, d, c', E, s, k, hm, q⟩ => by
  have hm : Res.ok [] c = Res.ok d c' := hm
  cases hm
  exact q [] H F (Ext.refl s k) .nil fun i _ _ _ _ h => by simp at h
theorem SlotN.later {F1 H1 F2 H2 H : Hp} {ca : Addr} {c1 c2 : Cup} {v : V} {d : D} (x : Ext ca c1 c2 F1 H1 F2 H2) (h : SlotN K F1 H1 ca c1 H v d) : SlotN K F2 H2 ca c2 H v d := by
  cases d with
  | own xs =>
    obtain ⟨a, vs, e1, e2, e3, e4, e5, e6⟩ := h
    refine ⟨a, vs, e1, x.keep a _ e2 e6, ?_, e4, reps_mono x.ff e5, e6.imp x.same.mp id⟩
    cases q : F2 a with
    | none => rfl
    | some u =>
      rcases x.new a u q with z | z
      · rw [e3] at z; cases z
      · rw [e2] at z; cases z
  | _ => exact Rep.mono x.ff h
theorem SlotN.back {F2 H2 H1 H : Hp} {ca : Addr} {c2 : Cup} {v : V} {d : D} (t : ∀ a, H1 a = none → H a = none) (h : SlotN K F2 H2 ca c2 H1 v d) : SlotN K F2 H2 ca c2 H v d := by
  cases d with
  | own xs =>
    obtain ⟨a, vs, e1, e2, e3, e4, e5, e6⟩ := h
    exact ⟨a, vs, e1, e2, e3, t a e4, e5, e6⟩
  | _ => exact h
theorem pdan_cons (ha : PDN X e m) (hr : PDAN X es r) (hs : starEach (e :: es) X.env = (false, eval e X.env) :: starEach es X.env := by rfl) : PDAN X (e :: es) (mCons m r) :=
  pa_imp (pa_cons ha hr hs) fun σ H Q ⟨F, ca, c, ρ, d, c', E, s, k, hm, q⟩ => by
    obtain ⟨x, c1, h1, hm⟩ := bind_ok hm
    obtain ⟨xs, c2, h2, hm⟩ := bind_ok hm
    obtain ⟨rfl, rfl⟩ := pure_ok hm
    refine ⟨F, ca, c, ρ, x, c1, E, s, k, h1, fun v H1 F1 e1 r1 => ?_⟩
    refine ⟨F1, ca, c1, ρ, xs, _, E.ext e1, e1.sub, e1.cup, h2, fun vs H2 F2 e2 r2 ap => ?_⟩
    refine q (v :: vs) H2 F2 (e1.trans e2) (.cons (r1.later e2) (pd_imp (fun _ _ z => SlotN.back e1.there z) r2)) fun i j ys zs w a1 a2 a3 a4 => ?_
    -- the first against the rest: it stood when the rest was made
    have cross : ∀ (j : Nat) zs, x = .own ys → xs[j]? = some (.own zs) → vs[j]? = some v → False := fun j zs ex ez ev => by
      subst ex
      obtain ⟨a, us, rfl, e2', _⟩ := r1
      obtain ⟨w', b1, b2⟩ := pd_get r2 ez
      rw [ev] at b1; cases b1
      obtain ⟨a', us', e', _, _, n', _⟩ := b2
      cases e'
      rw [e2'] at n'; cases n'
    cases i with
    | zero =>
      cases j with
      | zero => rfl
      | succ j =>
        have b1 : x = .own ys := by simpa using a1
        have b3 : v = w := by simpa using a3
        subst b3
        exact (cross j zs b1 (by simpa using a2) (by simpa using a4)).elim
    | succ i =>
      cases j with
      | zero =>
        have b1 : x = .own zs := by simpa using a2
        have b3 : v = w := by simpa using a4
        subst b3
        have a1' : xs[i]? = some (.own ys) := by simpa using a1
        have a3' : vs[i]? = some v := by simpa using a3
        subst b1
        obtain ⟨a, us, rfl, e2', _⟩ := r1
        obtain ⟨w', b1, b2⟩ := pd_get r2 a1'
        rw [a3'] at b1; cases b1
        obtain ⟨a', us', e', _, _, n', _⟩ := b2
        cases e'
        rw [e2'] at n'; cases n'
      | succ j =>
        have := ap i j ys zs w (by simpa using a1) (by simpa using a2) (by simpa using a3) (by simpa using a4)
        omega
/-! ### x = [..], to be filled; several names at once -/
/-- one slot more, its list new or none -/
theorem EnvOk.setN {F H F1 H1 : Hp} {ca : Addr} {c c1 : Cup} {ρ : Env} {σ : L2.St} {i : Nat} {v : V} {d : D} (E : EnvOk K F H ca c ρ σ) (r : SlotOk K F H ca c v d) (hn : ∀ xs, d = .own xs → ∀ (j : Nat) ys, j ≠ i → ρ[j]? = some (some (.own ys)) → σ[j]? ≠ some (some v)) :
    EnvOk K F H ca c (ρ.set i (some d)) (σ.set i (some v)) where
  len := by simpa using E.len
  at_ := fun j d' h => by
    rcases set_get h with ⟨rfl, e, hi⟩ | ⟨hj, h⟩
    · cases e
      exact ⟨v, List.getElem?_set_self (by rw [← E.len]; exact hi), r⟩
    · obtain ⟨w, h1, h2⟩ := E.at_ j d' h
      exact ⟨w, by rw [List.getElem?_set_ne (fun z => hj z.symm)]; exact h1, h2⟩
  apart := fun j k xs ys w h1 h2 h3 h4 => by
    have atI : ∀ {w : V}, i < ρ.length → (σ.set i (some v))[i]? = some (some w) → w = v := fun {w} hi hh => by
      rw [List.getElem?_set_self (by rw [← E.len]; exact hi)] at hh
      cases hh; rfl
    rcases set_get h1 with ⟨e1, z1, hi1⟩ | ⟨hj, b1⟩
    · rcases set_get h2 with ⟨e2, z2, _⟩ | ⟨hk, b2⟩
      · exact e1.trans e2.symm
      · subst e1
        have ew := atI hi1 h3
        subst ew
        rw [List.getElem?_set_ne (fun z => hk z.symm)] at h4
        exact absurd h4 (hn xs (Option.some.inj z1) k ys hk b2)
    · rcases set_get h2 with ⟨e2, z2, hi2⟩ | ⟨hk, b2⟩
      · subst e2
        have ew := atI hi2 h4
        subst ew
        rw [List.getElem?_set_ne (fun z => hj z.symm)] at h3
        exact absurd h3 (hn ys (Option.some.inj z2) j xs hj b1)
      · rw [List.getElem?_set_ne (fun z => hj z.symm)] at h3
        rw [List.getElem?_set_ne (fun z => hk z.symm)] at h4
        exact E.apart j k xs ys w b1 b2 h3 h4
theorem SlotN.ok {F' H' H : Hp} {ca : Addr} {c' : Cup} {v : V} {d : D} (h : SlotN K F' H' ca c' H v d) : SlotOk K F' H' ca c' v d := by
  cases d with
  | own xs => obtain ⟨a, vs, e1, e2, e3, e4, e5, e6⟩ := h; exact ⟨a, vs, e1, e2, e3, e5, e6⟩
  | _ => exact h
/-- a new list's address stands in no slot of a filled list -/
theorem slotN_new {F H F' H' : Hp} {ca : Addr} {c c' : Cup} {ρ : Env} {σ : L2.St} {v : V} {d : D} (E : EnvOk K F H ca c ρ σ) (h : SlotN K F' H' ca c' H v d) : ∀ xs, d = .own xs → ∀ (j : Nat) ys, ρ[j]? = some (some (.own ys)) → σ[j]? ≠ some (some v) := fun xs ed j ys hj hv => by
  subst ed
  obtain ⟨a, vs, rfl, _, _, e4, _⟩ := h
  obtain ⟨w, h1, b, us, rfl, e2, _⟩ := E.at_ j _ hj
  rw [hv] at h1
  cases h1
  rw [e4] at e2; cases e2
/-- values into slots, one after another -/
def putAll : List Nat → List D → Env → Option Env
  | [], [], ρ => some ρ
  | i :: is, d :: ds, ρ => putAll is ds (ρ.set i (some d))
  | _, _, _ => none
def mPar (is : List Nat) (r : MA) : MS := fun ρ => do
  let ds ← r ρ
  let ρ' ← optM (putAll is ds ρ)
  pure (.nx ρ')
/-- one store behind others -/
theorem put_go {ca : Addr} {S : Stt} {c' : Cup} {F' H' : Hp} {ρ : Env} {σ : L2.St} {i : Nat} {v : V} {d : D} (g : Go K ca S ⟨c', F', H', ρ, σ⟩) (h : SlotN K F' H' ca c' S.H v d) (hn : ∀ xs, d = .own xs → ∀ (j : Nat) ys, j ≠ i → ρ[j]? = some (some (.own ys)) → σ[j]? ≠ some (some v)) :
    Go K ca S ⟨c', F', H', ρ.set i (some d), σ.set i (some v)⟩ :=
  ⟨g.ext, EnvOk.setN (F1 := F') (H1 := H') (c1 := c') g.env h.ok hn, fun a ⟨j, xs, h1, h2⟩ => by
    rcases set_get h1 with ⟨rfl, e, hi⟩ | ⟨hj, h1⟩
    · cases e
      obtain ⟨b, vs, rfl, _, _, e4, _⟩ := h
      have h2 : (σ.set j (some (.ref b)))[j]? = some (some (.ref a)) := h2
      have hi' : j < σ.length := by have := g.env.len; simp only at this; omega
      rw [List.getElem?_set_self hi'] at h2
      cases h2
      exact .inr e4
    · have h2 : (σ.set i (some v))[j]? = some (some (.ref a)) := h2
      rw [List.getElem?_set_ne (fun z => hj z.symm)] at h2
      exact g.owned a ⟨j, xs, h1, h2⟩, by simpa using g.len⟩
theorem pds_setN {x : Str} {pos' : Pos} (i : Nat) (hN : X.N.Nodup) (he : PDN X e m) (hi : X.N[i]? = some x := by rfl) (hx : Loc X.env.scope x := by first | exact Or.inl rfl | exact Or.inr rfl) (hs : swapsWith e (some (.Name x pos')) pos.line X.env = pure false := by rfl)
    (hf : X.fn x = true ∨ X.env.scope.names.lookup x = some .local := by first | exact .inl rfl | exact .inr rfl | assumption) : PDS X (.Assign [.Name x pos'] e pos) (mAsg (mgName i) m) :=
  ps_imp (ps_set hN hi hx he hs hf) fun D σ H ⟨F, ca, c, ρ, fl, c', o, hm, q⟩ => by
    obtain ⟨d, c1, e1, hm⟩ := bind_ok hm
    obtain ⟨ρ', c2, e2, hm⟩ := bind_ok hm
    obtain ⟨e3, rfl⟩ := optM_ok e2
    obtain ⟨rfl, rfl⟩ := pure_ok hm
    cases e3
    refine ⟨F, ca, c, ρ, d, _, o.env, o.sub, o.cup, e1, fun v H1 F1 x r => ?_⟩
    exact q F1 H1 _ (put_go (S := ⟨c, F, H, ρ, σ⟩) (Go.ev o x) r fun xs ed j ys _ hj => slotN_new o.env r xs ed j ys hj)
theorem apart2 {v w : V} {d e : D} (h : Apart [v, w] [d, e]) : ∀ xs ys, d = .own xs → e = .own ys → v ≠ w := fun xs ys e1 e2 z => by
  have := h 0 1 xs ys v (by simp [e1]) (by simp [e2]) rfl (by simp [z])
  cases this
theorem pds_par2 {x y : Str} {a b : Expr} {px py pt : Pos} {kt k2 : Nat} {pt2 : Pos} (i j : Nat) (hc : X.calm = true) (hN : X.N.Nodup) (ha : PDAN X [a, b] r)
    (hw : swappedStores [.Tuple [.Name x px, .Name y py] kt pt] (.Tuple [a, b] k2 pt2) X.env = pure (some [x, y]) := by rfl) (hi : X.N[i]? = some x := by rfl) (hj : X.N[j]? = some y := by rfl) (hij : i ≠ j := by decide)
    (hx : X.env.scope.names.lookup x = some .local := by rfl) (hy : X.env.scope.names.lookup y = some .local := by rfl)
    (hs : swapsWithSole [.Tuple [.Name x px, .Name y py] kt pt] (.Tuple [a, b] k2 pt2) pos.line X.env = pure false := by rfl) :
    PDS X (.Assign [.Tuple [.Name x px, .Name y py] kt pt] (.Tuple [a, b] k2 pt2) pos) (mPar [i, j] r) :=
  ps_imp (ps_par hc hN hi hj hij hx hy ha hw hs) fun D σ H ⟨F, ca, c, ρ, fl, c', o, hm, q⟩ => by
    obtain ⟨ds, c1, e1, hm⟩ := bind_ok hm
    obtain ⟨ρ', c2, e2, hm⟩ := bind_ok hm
    obtain ⟨e3, rfl⟩ := optM_ok e2
    obtain ⟨rfl, rfl⟩ := pure_ok hm
    refine ⟨F, ca, c, ρ, ds, _, o.env, o.sub, o.cup, e1, fun vs H1 F1 x r ap => ?_⟩
    match ds, e3, r, ap with
    | [d, e], e3, .cons r1 (.cons r2 .nil), ap =>
      rename_i v w
      cases e3
      refine ⟨v, w, rfl, ?_⟩
      have g1 := put_go (i := i) (S := ⟨c, F, H, ρ, σ⟩) (Go.ev o x) r1 fun xs ed j ys _ hj => slotN_new o.env r1 xs ed j ys hj
      refine q F1 H1 _ (put_go g1 r2 fun xs ed k ys hk hj hv => ?_)
      rcases set_get hj with ⟨rfl, e, hi⟩ | ⟨hki, hj⟩
      · cases e
        have hi' : k < σ.length := by have := o.env.len; simp only at this; omega
        rw [List.getElem?_set_self hi'] at hv
        cases hv
        exact apart2 ap _ _ rfl ed rfl
      · rw [List.getElem?_set_ne (fun z => hki z.symm)] at hv
        exact slotN_new o.env r2 xs ed k ys hj hv
    | [], e3, _, _ => cases e3
    | [_], e3, _, _ => cases e3
    | _ :: _ :: _ :: _, e3, _, _ => cases e3
theorem pds_par3 {x y z : Str} {a b c0 : Expr} {px py pz pt : Pos} {kt k2 : Nat} {pt2 : Pos} (i j l : Nat) (hc : X.calm = true) (hN : X.N.Nodup) (ha : PDAN X [a, b, c0] r)
    (hw : swappedStores [.Tuple [.Name x px, .Name y py, .Name z pz] kt pt] (.Tuple [a, b, c0] k2 pt2) X.env = pure (some [x, y, z]) := by rfl) (hi : X.N[i]? = some x := by rfl) (hj : X.N[j]? = some y := by rfl) (hl : X.N[l]? = some z := by rfl) (hij : i ≠ j := by decide) (hil : i ≠ l := by decide) (hjl : j ≠ l := by decide)
    (hx : X.env.scope.names.lookup x = some .local := by rfl) (hy : X.env.scope.names.lookup y = some .local := by rfl) (hz : X.env.scope.names.lookup z = some .local := by rfl)
    (hs : swapsWithSole [.Tuple [.Name x px, .Name y py, .Name z pz] kt pt] (.Tuple [a, b, c0] k2 pt2) pos.line X.env = pure false := by rfl) :
    PDS X (.Assign [.Tuple [.Name x px, .Name y py, .Name z pz] kt pt] (.Tuple [a, b, c0] k2 pt2) pos) (mPar [i, j, l] r) :=
  ps_imp (ps_par3 hc hN hi hj hl hij hil hjl hx hy hz ha hw hs) fun D σ H ⟨F, ca, c, ρ, fl, c', o, hm, q⟩ => by
    obtain ⟨ds, c1, e1, hm⟩ := bind_ok hm
    obtain ⟨ρ', c2, e2, hm⟩ := bind_ok hm
    obtain ⟨e3, rfl⟩ := optM_ok e2
    obtain ⟨rfl, rfl⟩ := pure_ok hm
    refine ⟨F, ca, c, ρ, ds, _, o.env, o.sub, o.cup, e1, fun vs H1 F1 x r ap => ?_⟩
    match ds, e3, r, ap with
    | [d, e, f], e3, .cons r1 (.cons r2 (.cons r3 .nil)), ap =>
      rename_i v w u
      cases e3
      refine ⟨v, w, u, rfl, ?_⟩
      have hlen : ρ.length = σ.length := o.env.len
      have g1 := put_go (i := i) (S := ⟨c, F, H, ρ, σ⟩) (Go.ev o x) r1 fun xs ed j ys _ hj => slotN_new o.env r1 xs ed j ys hj
      have g2 := put_go (i := j) g1 r2 fun xs ed k ys hk hj' hv => by
        rcases set_get hj' with ⟨rfl, e, hi⟩ | ⟨hki, hj'⟩
        · cases e
          rw [List.getElem?_set_self (by omega)] at hv
          cases hv
          have := ap 0 1 ys xs v rfl (by simp [ed]) rfl rfl
          cases this
        · rw [List.getElem?_set_ne (fun z => hki z.symm)] at hv
          exact slotN_new o.env r2 xs ed k ys hj' hv
      refine q F1 H1 _ (put_go g2 r3 fun xs ed k ys hk hj' hv => ?_)
      rcases set_get hj' with ⟨rfl, e, hi⟩ | ⟨hkj, hj'⟩
      · cases e
        rw [List.getElem?_set_self (by simp at hi ⊢; omega)] at hv
        cases hv
        have := ap 1 2 ys xs w rfl (by simp [ed]) rfl rfl
        cases this
      · rw [List.getElem?_set_ne (fun z => hkj z.symm)] at hv
        rcases set_get hj' with ⟨rfl, e, hi⟩ | ⟨hki, hj'⟩
        · cases e
          rw [List.getElem?_set_self (by omega)] at hv
          cases hv
          have := ap 0 2 ys xs v rfl (by simp [ed]) rfl rfl
          cases this
        · rw [List.getElem?_set_ne (fun z => hki z.symm)] at hv
          exact slotN_new o.env r3 xs ed k ys hj' hv
    | [], e3, _, _ => cases e3
    | [_], e3, _, _ => cases e3
    | [_, _], e3, _, _ => cases e3
    | _ :: _ :: _ :: _ :: _, e3, _, _ => cases e3
end
end DL
namespace DL
open PySem PySem.Spec PyProof.Rows L2
/-! ### t[::-1] -/
section
variable {prog : Program} {w : World} {A : Around} {E : Value → Shared → Prop} {s : Shared}
theorem rev_places (n : Nat) : Builtin.Slice.slicePlaces ((n : Int) - 1) (-1) (-1) = n := by
  unfold Builtin.Slice.slicePlaces
  rw [if_neg (by decide)]
  split
  · have : ((n : Int) - 1 - -1 - 1) / (- -1) = (n : Int) - 1 := by
      rw [show (- -1 : Int) = 1 by decide, Int.ediv_one]; omega
    omega
  · omega
theorem rev_pick (xs : Array Value) : ((List.range xs.size).filterMap fun (m : Nat) => xs[(((xs.size : Int) - 1) + (m : Int) * (-1)).toNat]?).toArray = xs.toList.reverse.toArray := by
  have e : (List.range xs.size).filterMap (fun (m : Nat) => xs[(((xs.size : Int) - 1) + (m : Int) * (-1)).toNat]?) = ((List.range xs.size).map fun k => xs.size - 1 - k).filterMap (xs[·]?) := by
    rw [List.filterMap_map]
    have go : ∀ l : List Nat, (∀ m ∈ l, m < xs.size) → List.filterMap (fun (m : Nat) => xs[(((xs.size : Int) - 1) + (m : Int) * (-1)).toNat]?) l = List.filterMap ((fun x => xs[x]?) ∘ fun k => xs.size - 1 - k) l := by
      intro l
      induction l with
      | nil => intro _; rfl
      | cons m l ih =>
        intro h
        have hm := h m List.mem_cons_self
        have e1 : (((xs.size : Int) - 1) + (m : Int) * (-1)).toNat = xs.size - 1 - m := by omega
        have e2 := ih fun k hk => h k (List.mem_cons_of_mem _ hk)
        rw [List.filterMap_cons, List.filterMap_cons, e2]
        simp only [e1, Function.comp]
    exact go _ fun m hm => List.mem_range.mp hm
  rw [e, PySem.W.krv_range, List.filterMap_reverse, PySem.W.krv_all]
theorem getItem_tuple_rev {t sl : Addr} {items : Array Value} {vk : Value} {Q : Value → Shared → Prop} (ht : IsTup s.heap t items) (hs : s.heap.IsSliceOf sl .none .none vk) (pk : IsPart vk (some (-1)))
    (h : Q (.ref s.heap.objs.size) { s with heap := s.heap.push { cls := .type "tuple", data := .seq items.toList.reverse.toArray } })
    (hsz : items.size ≤ sizeLine) : wpAny (model prog w) A (getItem (.ref t) (.ref sl)) Q E s := by
  have htake : sizeOk (.seq items.toList.reverse.toArray) := by
    show items.toList.reverse.toArray.size ≤ sizeLine
    rw [List.size_toArray, List.length_reverse, Array.length_toList]
    exact hsz
  obtain ⟨os, hos, hcs, hds⟩ := id hs
  have hTs : s.TypeIs (.ref sl) "slice" := ⟨os, hos, hcs⟩
  unfold getItem
  try with_reducible refine wpAny_holding ?_
  first | refine wpAny_bind (wpAny_pure ?_) | skip
  refine wpAny_bind (wpAny_sequenceKey ht.typeIs (by decide) ?_)
  refine wpAny_bind (wpAny_callSpecial?_slot (name := Str.ofString "__getitem__") ht.typeIs PyProof.Rows.slot_tuple_getitem
    (wpAny_call_entry PyProof.Rows.slot_tuple_getitem ht.typeIs entry_tuple_getitem ?_ (args_tuple_getitem _ _)))
  show wpAny _ _ (Builtin.Tuple.tupleItemsOf (.ref t) >>= _) _ _ s
  refine wpAny_bind (tupleItemsOf_ ht ?_)
  refine wpAny_bind (wpAny_typeOf hTs ?_)
  rw [if_pos (by decide)]
  have applied : ∀ {Q : Int × Int × Nat → Shared → Prop}, Q ((items.size : Int) - 1, -1, items.size) s → wpAny (model prog w) A.in1 (Builtin.Slice.sliceApplied (.ref sl) (pure (items.size : Int))) Q E s := fun {Q} h => by
    unfold Builtin.Slice.sliceApplied Builtin.Slice.sliceFields
    refine wpAny_bind (wpAny_bind (wpAny_field hos hds (x := .none) rfl (wpAny_bind (wpAny_field hos hds (x := .none) rfl (wpAny_bind (wpAny_field hos hds (x := vk) rfl (wpAny_pure ?_)))))))
    refine wpAny_bind (HT.slicePart_ pk ?_)
    show wpAny _ _ (if ((-1 : Int) == 0) = true then _ else _) _ _ s
    rw [if_neg (by decide)]
    refine wpAny_bind (slicePart_none (wpAny_bind (slicePart_none (wpAny_bind (wpAny_pure ?_)))))
    show wpAny _ _ (pure ((items.size : Int) - 1, (-1 : Int), Builtin.Slice.slicePlaces ((items.size : Int) - 1) (-1) (-1))) _ _ s
    rw [rev_places]
    exact wpAny_pure h
  refine wpAny_bind (applied ?_)
  have hno : ¬ (((items.size : Int) - 1 == 0 && (-1 : Int) == 1 && items.size == items.size) = true) := by simp
  show wpAny _ _ (if ((items.size : Int) - 1 == 0 && (-1 : Int) == 1 && items.size == items.size) = true then _ else _) _ _ s
  rw [if_neg hno, rev_pick]
  first
    | exact wpAny_bind (m := Builtin.Tuple.tupleExact _) (wpAny_newObj_type (wpAny_pure ⟨_, rfl, wpAny_pure h⟩) htake)
    | exact wpAny_bind (m := Builtin.Tuple.tupleExact _) (wpAny_newObj_type (wpAny_bind (wpAny_pure (wpAny_pure ⟨_, rfl, wpAny_pure h⟩))) htake)
    | exact wpAny_bind (wpAny_bind (m := Builtin.Tuple.tupleExact _) (wpAny_newObj_type (wpAny_pure (wpAny_pure ⟨_, rfl, wpAny_pure h⟩)) htake))
    | exact wpAny_bind (wpAny_bind (m := Builtin.Tuple.tupleExact _) (wpAny_newObj_type (wpAny_pure ⟨_, rfl, wpAny_pure h⟩) htake))
end
section
variable {X : Cx} {K : PySem.W.Frag}
def tRevA (K : PySem.W.Frag) (te : TE) : TE := fun σ H Q => te σ H fun x H1 => ∃ a xs, x = .ref a ∧ ((SqL K H1 a xs ∧ ∀ p, H1 p = none → Q (.ref p) (upd H1 p (.lst xs.reverse))) ∨ (SqT K H1 a xs ∧ ∀ p, H1 p = none → Q (.ref p) (upd H1 p (.tup xs.reverse))))
theorem pe_revA {e : Expr} {te : TE} {k : Nat} {p1 p2 p3 pos : Pos} (he : PE X e te) : PE X (.Subscript e (.Slice none none (some (.UnaryOp .USub (.Constant (.int 1) k p1) p2)) p3) pos) (tRevA X.K te) := by
  refine ⟨fun pins s σ H Q I h => ?_⟩
  refine Subscript_ (thn (he.run pins s σ H _ I h) fun v s1 ⟨x, H1, I1, r1, q1⟩ => ?_)
  obtain ⟨a, xs, ex, q1⟩ := q1
  subst ex
  cases r1
  have hst : PO X (some (.UnaryOp .USub (.Constant (.int 1) k p1) p2)) (tPart (tUn (rU fun i => .int (-i)) (tC (.int 1)))) := po_some (pe_un un_neg pe_int)
  refine wpAny_Slice (thn (po_none.run pins s1 σ H1 (fun o H2 => o = none ∧ H2 = H1) I1 ⟨rfl, rfl⟩) fun vl s2 ⟨l, H2, I2, pl, el, e2⟩ => ?_)
  subst el e2
  refine thn (po_none.run pins s2 σ H2 (fun o H3 => o = none ∧ H3 = H2) I2 ⟨rfl, rfl⟩) fun vu s3 ⟨u, H3, I3, pu, eu, e3⟩ => ?_
  subst eu e3
  refine thn (hst.run pins s3 σ H3 (fun o H4 => o = some (-1) ∧ H4 = H3) I3 ⟨1, rfl, -1, rfl, rfl, rfl⟩) fun vs s4 ⟨o, H4, I4, ps, eo, e4⟩ => ?_
  subst eo e4
  have I5 : Inv X pins σ H4 { s4 with heap := s4.heap.push { cls := .type "slice", data := .fields #[vl, vu, vs] } } := I4.kept (t' := s4.toks) fun b ob q => Heap.get?_push_of_some _ q
  show wpAny (model X.prog X.w) X.A (subscriptTail e (.Slice none none (some (.UnaryOp .USub (.Constant (.int 1) k p1) p2)) p3) (.ref a) (.ref s4.heap.objs.size)) (EP X pins σ Q) X.xe { s4 with heap := s4.heap.push { cls := .type "slice", data := .fields #[vl, vu, vs] } }
  rcases q1 with ⟨hx, q⟩ | ⟨hx, q⟩
  · obtain ⟨its, r, ht, hz⟩ := I5.list hx
    have hlen := r.length
    refine tail_any (ops := [.ref a, .ref s4.heap.objs.size]) ht.isList.typeIs (PySem.slot_list_getitem.lookup) ?_ (by with_unfolding_all rfl)
    refine wpAny_getItem_list_slice ht.isList (Heap.IsSliceOf.new _ vl vu vs) pl pu ps (by decide) ?_ (by rw [List.size_toArray]; omega)
    rw [PySem.W.krv_pick]
    refine ⟨.ref _, _, I5.laid (t' := s4.toks) (o := .lst xs.reverse) (fun b ob q => Heap.get?_push_of_some _ q) (Nat.le_refl _) ?_, rfl, q _ (I5.hok.fresh (Nat.le_refl _))⟩
    exact ⟨by rw [List.length_reverse]; exact hz, _, 0, r.reverse, Heap.get?_push_size _ rfl⟩
  · obtain ⟨its, r, ht, hz⟩ := I5.tuple hx
    have hlen := r.length
    cases pl
    cases pu
    refine tail_any (ops := [.ref a, .ref s4.heap.objs.size]) ht.typeIs (PyProof.Rows.slot_tuple_getitem.lookup) ?_ (by with_unfolding_all rfl)
    refine getItem_tuple_rev ht (Heap.IsSliceOf.new _ .none .none vs) ps ?_ (by rw [List.size_toArray]; omega)
    refine ⟨.ref _, _, I5.laid (t' := s4.toks) (o := .tup xs.reverse) (fun b ob q => Heap.get?_push_of_some _ q) (Nat.le_refl _) ?_, rfl, q _ (I5.hok.fresh (Nat.le_refl _))⟩
    exact ⟨by rw [List.length_reverse]; exact hz, _, r.reverse, IsTup.new _ _⟩
def revA (x : D) : M D := match x with
  | .lst xs => pure (.lst xs.reverse)
  | .tup xs => pure (.tup xs.reverse)
  | _ => M.stuck
theorem pd_revA {e : Expr} {m : ME} {k : Nat} {p1 p2 p3 pos : Pos} (he : PD X e m) : PD X (.Subscript e (.Slice none none (some (.UnaryOp .USub (.Constant (.int 1) k p1) p2)) p3) pos) (mUn revA m) :=
  pe_imp (pe_revA he) fun σ H Q ⟨F, ca, c, ρ, d, c', E, s, k, hm, q⟩ => by
    obtain ⟨x, c1, h1, hm⟩ := bind_ok hm
    refine ⟨F, ca, c, ρ, x, c1, E, s, k, h1, fun v H1 F1 e1 r1 => ?_⟩
    unfold revA at hm
    split at hm
    · obtain ⟨rfl, rfl⟩ := pure_ok hm
      obtain ⟨a, vs, rfl, ha, ra⟩ := rep_lst_inv r1
      refine ⟨a, vs, rfl, .inl ⟨.inl (.inl (e1.sub _ _ ha)), fun p hp => ?_⟩⟩
      have e4 := Ext.laid (o := .lst vs.reverse) e1.sub e1.cup hp
      exact q _ _ _ (e1.trans e4) (rep_lst upd_same (reps_mono e4.ff (pd_rev ra)))
    · obtain ⟨rfl, rfl⟩ := pure_ok hm
      obtain ⟨a, vs, rfl, ha, ra⟩ := rep_tup_inv r1
      refine ⟨a, vs, rfl, .inr ⟨Evl.ex_t e1.sub ha, fun p hp => ?_⟩⟩
      have e4 := Ext.laid (o := .tup vs.reverse) e1.sub e1.cup hp
      exact q _ _ _ (e1.trans e4) (rep_tup (SqT.of upd_same) (reps_mono e4.ff (pd_rev ra)))
    · cases hm
/-! ### sorted -/
def leS : D → D → Bool := PySem.W.dataLe false D.toPy
def D.sortable (ds : List D) : Bool := (ds.all fun x => match x with | .tup (_ :: _) => true | _ => false) || (ds.all fun x => match x with | .non => false | .tup _ => false | .cup => false | .own _ => false | .scr _ => false | _ => true)
def sortOk (ds : List D) : Bool := (ds.all fun x => ds.all fun y => PySem.W.alike x.toPy y.toPy) && D.sortable ds && (ds.all fun x => SeqAt.shaped x.toPy)
def sortedF (ds : List D) : M D := match ds with
  | [.lst xs] => if sortOk xs = true then pure (.lst (xs.mergeSort leS)) else M.stuck
  | [.tup xs] => if sortOk xs = true then pure (.lst (xs.mergeSort leS)) else M.stuck
  | _ => M.stuck
theorem sortable_of {ds : List D} (h : D.sortable ds = true) : PySem.W.Sortable (ds.map D.toPy) := by
  unfold D.sortable at h
  rw [Bool.or_eq_true] at h
  rcases h with h | h
  · refine .inl fun d hd => ?_
    obtain ⟨x, hx, rfl⟩ := List.mem_map.mp hd
    have h1 := List.all_eq_true.mp h x hx
    match x, h1 with
    | .tup (a :: r), _ => exact ⟨a.toPy, D.toPys r, rfl⟩
  · refine .inr fun d hd => ?_
    obtain ⟨x, hx, rfl⟩ := List.mem_map.mp hd
    have h1 := List.all_eq_true.mp h x hx
    cases x <;> first
      | (exact Bool.noConfusion h1)
      | exact ⟨fun z => (by cases z), fun xs z => (by cases z)⟩
theorem each_of_paired {α β : Type} {R : α → β → Prop} : ∀ {xs : List α} {ys : List β}, Paired R xs ys → PySem.W.EachIs R xs ys
  | _, _, .nil => .nil
  | _, _, .cons r t => .cons r (each_of_paired t)
theorem paired_of_each {α β : Type} {R : α → β → Prop} : ∀ {xs : List α} {ys : List β}, PySem.W.EachIs R xs ys → Paired R xs ys
  | _, _, .nil => .nil
  | _, _, .cons r t => .cons r (paired_of_each t)
/-- values, abstract values, data -/
def Tri (K : PySem.W.Frag) (F : Hp) (ca : Addr) (u : Value) (d : D) : Prop := ∃ v, RelV v u ∧ Rep K F ca v d
theorem tri_of {F : Hp} {ca : Addr} : ∀ {vs : List V} {us : List Value} {ds : List D}, Vals vs us → Reps K F ca vs ds → Paired (Tri K F ca) us ds
  | _, _, _, .nil, r => by cases r; exact .nil
  | _, _, _, .cons a t, r => by
    cases r with
    | cons b t2 => exact .cons ⟨_, a, b⟩ (tri_of t t2)
theorem of_tri {F : Hp} {ca : Addr} : ∀ {us : List Value} {ds : List D}, Paired (Tri K F ca) us ds → ∃ vs, Vals vs us ∧ Reps K F ca vs ds
  | _, _, .nil => ⟨[], .nil, .nil⟩
  | _, _, .cons ⟨v, a, b⟩ t => by
    obtain ⟨vs, h1, h2⟩ := of_tri t
    exact ⟨v :: vs, .cons a h1, .cons b h2⟩
theorem pd_mem {α β : Type} {R : α → β → Prop} : ∀ {xs : List α} {ys : List β}, Paired R xs ys → Paired (fun x y => R x y ∧ y ∈ ys) xs ys
  | _, _, .nil => .nil
  | _, _, .cons r t => .cons ⟨r, List.mem_cons_self⟩ (pd_imp (fun _ _ h => ⟨h.1, List.mem_cons_of_mem _ h.2⟩) (pd_mem t))
theorem collect_seqX {prog : Program} {w : World} {A : Around} {E : Value → Shared → Prop} {s : Shared} {Q : List Value → Shared → Prop} (it : Addr) {T : String} {o : Obj} {items : Array Value} {n : Nat} (hT : T = "list" ∨ T = "tuple")
    (ho : s.heap.get? it = some o) (hc : o.cls = .type T) (hd : o.data = .seq items n)
    (hQ : Q items.toList { s with heap := (s.heap.push { cls := .type "list", data := .seq ([] : List Value).toArray }).update s.heap.objs.size (Obj.mapSeq (· ++ items)) }) (hsz : items.size ≤ sizeLine) :
    wpAny (model prog w) A (collect (.ref it)) Q E s := by
  unfold collect
  refine wpAny_bind (wpAny_runValue (codeAny_builtin PySem.F.entry_proto_collect ?_))
  rw [Around.under_plainId PySem.F.plain_proto_collect _]
  show wpAny _ A.in1 (newList [] >>= fun l => again (.builtin "list.__iadd__" ⟨[l, .ref it], []⟩)) _ _ s
  refine wpAny_bind (wpAny_newObj_type ?_)
  refine wpAny_pure ⟨plainId_quiet PySem.F.plain_list_iadd _, codeAny_builtin PySem.F.entry_list_iadd ?_⟩
  rw [Around.under_plainId PySem.F.plain_list_iadd _]
  show wpAny _ A.in1 (Builtin.List.listExtendWith (.ref s.heap.objs.size) (.ref it) (.ref s.heap.objs.size)) _ _ _
  have hS : (s.heap.push { cls := .type "list", data := .seq ([] : List Value).toArray }).get? s.heap.objs.size = some { cls := .type "list", data := .seq #[] 0 } := Heap.get?_push_size _ rfl
  have hS₂ := Heap.get?_update_self (Obj.mapSeq (· ++ items)) hS rfl
  have fin' : wpAny (model prog w) A (match Value.ref s.heap.objs.size with
      | Value.ref a => do
        match (← load a).data with
          | Data.seq xs _ => pure xs.toList
          | _ => unsupported "internal:collect"
      | _ => unsupported "internal:collect") Q E { s with heap := (s.heap.push { cls := .type "list", data := .seq ([] : List Value).toArray }).update s.heap.objs.size (Obj.mapSeq (· ++ items)) } := by
    show wpAny _ A (load s.heap.objs.size >>= _) _ _ _
    refine wpAny_bind (wpAny_load hS₂ ?_)
    refine wpAny_pure ?_
    have e : ((#[] : Array Value) ++ items).toList = items.toList := by simp
    show Q ((#[] : Array Value) ++ items).toList _
    rw [e]
    exact hQ
  refine wpAny_mono (wpAny_extend_seq (hsz := hsz) (A := A) (R := fun r s' => r = .ok (.ret (.ref s.heap.objs.size)) ∧ s' = { s with heap := (s.heap.push { cls := .type "list", data := .seq ([] : List Value).toArray }).update s.heap.objs.size (Obj.mapSeq (· ++ items)) })
    (s := { s with heap := s.heap.push { cls := .type "list", data := .seq ([] : List Value).toArray } }) _ it _ 0 hT hS (Heap.get?_push_of_some _ ho) hc hd ⟨rfl, rfl⟩) (fun fin s' h => ?_) (fun e s' h => ?_)
  · cases fin with
    | done f =>
      obtain ⟨e, rfl⟩ := h
      cases e
      exact fin'
    | again c' => exact ⟨h.1, codeAny_mono h.2 fun r s'' hr => by obtain ⟨rfl, rfl⟩ := hr; exact fin'⟩
  · exact absurd h.1 (by simp)
theorem sorted_any {prog : Program} {w : World} {A : Around} {s : Shared} {l : Addr} {vs : List Value} {Q : Value → Shared → Prop} {E : Value → Shared → Prop} {T : String} {o : Obj} {n : Nat} (hT : T = "list" ∨ T = "tuple") (ho : s.heap.get? l = some o) (hc : o.cls = .type T) (hd : o.data = .seq vs.toArray n)
    {bs : List D} {R : Value → D → Prop} (e : PySem.W.EachIs R vs bs) (er : PySem.W.EachIs (fun v b => ∃ as, Reads s.heap v (D.toPy b) as) vs bs) (hal : PySem.W.AllAlike (bs.map D.toPy)) (hk : PySem.W.Sortable (bs.map D.toPy)) (hL : bs.length ≤ sizeLine)
    (hu : ∀ b, b ∈ bs → A.units + 2 + (D.toPy b).depth < cLine)
    (h : ∀ (out : List Value) (h' : Heap) (a : Addr) (k : Nat), out.length = bs.length → PySem.W.EachIs R out (bs.mergeSort leS) → s.heap.objs.size ≤ a → (∀ b o, s.heap.get? b = some o → h'.get? b = some o) → h'.get? a = some (seqObj "list" out.toArray k) → Q (.ref a) { s with heap := h' }) :
    wpAny (model prog w) A (call (.builtin "sorted") [.ref l]) Q E s := by
  have hl : vs.length ≤ sizeLine := by rw [e.length]; exact hL
  refine call_function_entry_kw kind_sorted plain_sorted entry_sorted (args_sorted1 _) ?_
  unfold Builtin.«sorted»
  refine wpAny_bind (m := checkCount "sorted" 1 1 _) (wpAny_pure ?_)
  refine wpAny_bind (collect_seqX l hT ho hc hd ?_ (by rw [List.size_toArray]; exact hl))
  rw [show vs.toArray.toList = vs by simp]
  refine wpAny_bind (wpAny_newList ?_ hl)
  generalize hh1 : (s.heap.push { cls := .type "list", data := .seq ([] : List Value).toArray }).update s.heap.objs.size (Obj.mapSeq (· ++ vs.toArray)) = h1
  have k1 : ∀ b o, s.heap.get? b = some o → h1.get? b = some o := fun b o q => by
    rw [← hh1]
    exact (Heap.get?_update_other _ _ (Nat.ne_of_gt (Heap.lt_size q))).trans (Heap.get?_push_of_some _ q)
  have hsz1 : h1.objs.size = s.heap.objs.size + 1 := by rw [← hh1, Heap.size_update, size_push']
  generalize ha : ({ s with heap := h1 } : Shared).heap.objs.size = a
  have ha' : h1.objs.size = a := ha
  have hge : s.heap.objs.size ≤ a := by omega
  have oldH : ∀ b o, s.heap.get? b = some o → (h1.push (seqObj "list" vs.toArray 0)).get? b = some o := fun b o q => Heap.get?_push_of_some _ (k1 b o q)
  have atA : (h1.push (seqObj "list" vs.toArray 0)).get? a = some (seqObj "list" vs.toArray 0) := by rw [← ha']; exact Heap.get?_push_size _ rfl
  have er' : PySem.W.EachIs (fun v b => ∃ as, Reads (PySem.W.sortingHeap (h1.push (seqObj "list" vs.toArray 0)) a vs) v (D.toPy b) as) vs bs := er.mono fun _ _ ⟨as, r⟩ => ⟨as, PyProof.Rows.Reads.keeps (fun b o q => PySem.W.sortingHeap_old (Nat.ne_of_lt (Nat.lt_of_lt_of_le (Heap.lt_size q) hge)) (oldH b o q)) r⟩
  have S := PySem.W.SortsAt.data (prog := prog) (w := w) (A := A.in1.in1) (s := { s with heap := PySem.W.sortingHeap (h1.push (seqObj "list" vs.toArray 0)) a vs }) (PySem.W.each_map (R := fun v d => ∃ as, Reads (PySem.W.sortingHeap (h1.push (seqObj "list" vs.toArray 0)) a vs) v d as) D.toPy er') hal hk (PySem.W.bound_map hu)
  refine wpAny_bind (wpAny_holding (wpAny_call_entry_kw (kw := []) slot_list_sort (s := { s with heap := h1.push (seqObj "list" vs.toArray 0) }) ⟨_, atA, rfl⟩ entry_list_sort ?body (args_list_sort _)))
  case body =>
    show wpAny (model prog w) A.in1.in1 (Builtin.«list.sort» ⟨[.ref a], []⟩) _ _ _
    refine wpAny_mono (PySem.W.list_sort_vals (P := fun f s' => f = .done (.ret .none) ∧ s' = { s with heap := sortedHeap (h1.push (seqObj "list" vs.toArray 0)) a vs (PySem.W.sortVals (PySem.W.dataKind (PySem.W.sortingHeap (h1.push (seqObj "list" vs.toArray 0)) a vs) (bs.map D.toPy)) false vs vs).toArray }) (s := { s with heap := h1.push (seqObj "list" vs.toArray 0) }) atA S hl ⟨rfl, rfl⟩) (fun f s' hf => ?_) fun _ _ e => e
    obtain ⟨rfl, rfl⟩ := hf
    refine ⟨_, rfl, wpAny_pure ⟨_, rfl, ?_⟩⟩
    obtain ⟨k, hk2⟩ := sortedHeap_at (out := (PySem.W.sortVals (PySem.W.dataKind (PySem.W.sortingHeap (h1.push (seqObj "list" vs.toArray 0)) a vs) (bs.map D.toPy)) false vs vs).toArray) atA
    refine h _ _ a k (by rw [PySem.W.sortVals_length false rfl]; exact e.length) (PySem.W.sortVals_data false e er' hal) hge (fun b o q => ?_) hk2
    rw [sortedHeap_old (Nat.ne_of_lt (Nat.lt_of_lt_of_le (Heap.lt_size q) hge)) (Heap.lt_size (oldH b o q))]
    exact oldH b o q
section
variable {X : Cx} {K : PySem.W.Frag}
def rSortA (K : PySem.W.Frag) : List V → Hp → VK → Prop := fun vs H Q => ∃ (F : Hp) (ca : Addr) (a : Addr) (us : List V) (ds : List D), vs = [.ref a] ∧ Evl.Ex F H ∧ (SqL K F a us ∨ SqT K F a us) ∧ Reps K F ca us ds ∧ sortOk ds = true ∧
  ∀ out p, Reps K F ca out (ds.mergeSort leS) → H p = none → Q (.ref p) (upd H p (.lst out))
theorem units3 {k : Nat} {A : Around} (hr : Room k A) {d : Nat} (h : d ≤ 64) : A.units + 2 + d < cLine := by have := hr.un; omega
theorem cr_sortA {k : Nat} (hr : Room k X.A) : CallR X (.builtin "sorted") (rSortA X.K) := by
  intro pins s σ H vs us Q I r h
  obtain ⟨F, ca, a, ws, ds, rfl, hF, hs, ra, ok, q⟩ := h
  rw [Vals.ref1 r]
  unfold sortOk at ok
  rw [Bool.and_eq_true, Bool.and_eq_true] at ok
  obtain ⟨⟨o1, o2⟩, o3⟩ := ok
  have hal : PySem.W.AllAlike (ds.map D.toPy) := fun d hd d' hd' => by
    obtain ⟨x, hx, rfl⟩ := List.mem_map.mp hd
    obtain ⟨y, hy, rfl⟩ := List.mem_map.mp hd'
    exact List.all_eq_true.mp (List.all_eq_true.mp o1 x hx) y hy
  obtain ⟨its, o, T, n, hT, rv, ho, hc, hd, hz⟩ : ∃ (its : List Value) (o : Obj) (T : String) (n : Nat), (T = "list" ∨ T = "tuple") ∧ Vals ws its ∧ s.heap.get? a = some o ∧ o.cls = .type T ∧ o.data = .seq its.toArray n ∧ ws.length ≤ sizeLine := by
    rcases hs with hs | hs
    · obtain ⟨its, rv, ⟨o, n, ho, hc, hdd, hd⟩, hz⟩ := I.list (Evl.ex_l hF hs)
      exact ⟨its, o, "list", n, .inl rfl, rv, ho, hc, hd, hz⟩
    · obtain ⟨its, rv, ⟨o, ho, hc, n, hd⟩, hz⟩ := I.tuple (Evl.ex_t hF hs)
      exact ⟨its, o, "tuple", n, .inr rfl, rv, ho, hc, hd, hz⟩
  have lenE : ws.length = ds.length := pd_len ra
  have tri := tri_of rv ra
  have er : Paired (fun v b => ∃ as, Reads s.heap v (D.toPy b) as) its ds := pd_imp (fun u d ⟨⟨v, h1, h2⟩, hm⟩ => Dp.reads I _ v u (dp_of hF d v h2 (SeqAt.canLay_of_shaped (List.all_eq_true.mp o3 d hm))) h1) (pd_mem tri)
  refine sorted_any (n := n) (R := Tri X.K F ca) hT ho hc hd (each_of_paired tri) (each_of_paired er) hal (sortable_of o2) (by rw [← lenE]; exact hz) (fun b hb => units3 hr (SeqAt.depth_of_shaped (List.all_eq_true.mp o3 b hb))) fun out h' a' kk hl eo hge hk hat => ?_
  obtain ⟨ov, g1, g2⟩ := of_tri (paired_of_each eo)
  have hp : H a' = none := I.hok.fresh hge
  refine ⟨.ref a', upd H a' (.lst ov), I.laid (t' := s.toks) hk hge ⟨?_, out, kk, g1, hat⟩, rfl, q ov a' g2 hp⟩
  have : ov.length = ds.length := by rw [pd_len g2, List.length_mergeSort]
  omega
theorem opc_sort : OpC K (rSortA K) sortedF := by
  intro F H ca c ds d c' vs s k r h Q q
  unfold sortedF at h
  split at h
  · rename_i xs
    by_cases ok : sortOk xs = true
    · rw [if_pos ok] at h
      obtain ⟨rfl, rfl⟩ := pure_ok h
      obtain ⟨v, rfl, rv⟩ := reps1 r
      obtain ⟨a, us, rfl, ha, ra⟩ := rep_lst_inv rv
      refine ⟨F, ca, a, us, xs, rfl, s, .inl (.inl (.inl ha)), ra, ok, fun out p ro hp => ?_⟩
      have e := Ext.laid (o := .lst out) s k hp
      exact q _ _ _ e (rep_lst upd_same (reps_mono e.ff ro))
    · rw [if_neg ok] at h; cases h
  · rename_i xs
    by_cases ok : sortOk xs = true
    · rw [if_pos ok] at h
      obtain ⟨rfl, rfl⟩ := pure_ok h
      obtain ⟨v, rfl, rv⟩ := reps1 r
      obtain ⟨a, us, rfl, ha, ra⟩ := rep_tup_inv rv
      refine ⟨F, ca, a, us, xs, rfl, s, .inr ha, ra, ok, fun out p ro hp => ?_⟩
      have e := Ext.laid (o := .lst out) s k hp
      exact q _ _ _ e (rep_lst upd_same (reps_mono e.ff ro))
    · rw [if_neg ok] at h; cases h
  · cases h
theorem pd_sorted {k : Nat} {e : Expr} {es : List Expr} {r : MA} {p pos : Pos} (hr : Room k X.A) (hg : Gl X "sorted") (hm : X.mg "sorted" = none) (ha : PDA X (e :: es) r) (he : starEach (e :: es) X.env = (false, eval e X.env) :: starEach es X.env := by rfl) (hpl : (backTo pos (starEach es X.env)).any (·.1) = false := by rfl) : PD X (.Call (.Name "sorted" p) (e :: es) [] pos) (mCall sortedF r) :=
  pd_callB opc_sort (cr_sortA hr) hg hm (by decide +kernel) ha (he := he) (hpl := hpl)
end
end
end DL
namespace DL
open PySem PySem.Spec PyProof.Rows L2
/-! ### the text: defs, constants -/
structure DefT (K : PySem.W.Frag) (mg : Str → Option Value) (x : Str) (st : Stmt) (ps : List Str) where
  a : Addr
  fd : FuncData
  F : Fun K x x st a fd
  g : mg x = some (.ref a)
  b : Binds K fd ps []
def ConstT (K : PySem.W.Frag) (mg : Str → Option Value) (x : Str) (d : D) : Prop := ∃ (u : Value) (v : V), mg x = some u ∧ RelV v u ∧ ∀ F ca, Rep K F ca v d
section
variable {X : Cx}
theorem pd_const {x : Str} {d : D} {pos : Pos} (hg : Gl X x) (h : ConstT X.K X.mg x d) (hd : (x == ("__debug__" : Str)) = false := by decide) : PD X (.Name x pos) (mC d) := by
  obtain ⟨u, v, h1, h2, h3⟩ := h
  exact pd_glob hg h1 h2 h3 hd
end
theorem bt_int : bootBuiltins "int" = some (.type "int") := by decide +kernel
theorem bt_bool : bootBuiltins "bool" = some (.type "bool") := by decide +kernel
theorem bt_str : bootBuiltins "str" = some (.type "str") := by decide +kernel
theorem bt_tuple : bootBuiltins "tuple" = some (.type "tuple") := by decide +kernel
theorem bt_list : bootBuiltins "list" = some (.type "list") := by decide +kernel
theorem const_int {K : PySem.W.Frag} {mg : Str → Option Value} {x : Str} {i : Int} {t : Tok} (h : mg x = some (.int i t)) : ConstT K mg x (.int i) := ⟨_, V.int i, h, ⟨_, rfl⟩, fun _ _ => .int i⟩
/-! ### a def that is never asked for anything -/
section
variable {P : Program} {w : World} {K : PySem.W.Frag} {mg : Str → Option Value} {base : Heap}
def noF : List D → M D := fun _ => M.stuck
theorem vac_ok {CX : CXT} {k : Nat} {f : Addr} {fd : FuncData} {ps : List Str} : FnOk P w K mg base CX k f fd ps (spD K noF) where
  len := fun vs H Q E ⟨F, ca, c, ds, d, c', r, s, k, hm, q⟩ => by cases hm
  run := fun A outer s H args us vs Q E _ _ _ _ ⟨F, ca, c, ds, d, c', r, s, k, hm, q⟩ => by cases hm
/-! ### a def that hands back a new list -/
def spNew (K : PySem.W.Frag) (fm : List D → M (List D)) : Sp := fun vs H Q _ => ∃ F ca ds xs, Reps K F ca vs ds ∧ Evl.Ex F H ∧ fm ds none = .ok xs none ∧
  ∀ p us F' H', Ext ca none none F H F' H' → H p = none → F' p = none → H' p = some (.lst us) → Reps K F' ca us xs → Q (.ref p) H'
def runNew (nN np : Nat) (m : MS) (r : MA) : List D → M (List D) := fun ds => if ds.length = np then do
    let f ← m (ds.map some ++ List.replicate (nN - np) none)
    match f with
    | .nx ρ => do
      let xs ← r ρ
      if xs.length ≤ 1000 then pure xs else M.stuck
    | _ => M.stuck
  else M.stuck
theorem new_okL {x qual : Str} {st s1 : Stmt} {es : List Expr} {p1 p2 : Pos} {f : Addr} {fd : FuncData} {N ps : List Str} {k : Nat} {m : MS} {r : MA} (F : Fun K x qual st f fd) (S : FnScope N ps (defScope st)) (hst : defBody st = [s1, .Return (some (.List es p1)) p2])
    (h1 : ∀ (cdv : Value) (A : Around) (outer : List PySem.Env) (s : Shared) (H : Hp) (E : XK), Room k (A.deeper (envOfC qual (defScope st) s.heap.objs.size f cdv)) → PDS (cxOf CX0 P w K mg base N qual (defScope st) f cdv A outer s H E).nox s1 m)
    (h2 : ∀ (cdv : Value) (A : Around) (outer : List PySem.Env) (s : Shared) (H : Hp) (E : XK), Room k (A.deeper (envOfC qual (defScope st) s.heap.objs.size f cdv)) → PDA (cxOf CX0 P w K mg base N qual (defScope st) f cdv A outer s H E).nox es r) :
    FnOk P w K mg base CX0 (k + 1) f fd ps (spNew K (runNew N.length ps.length m r)) := by
  refine F.ok S (fun vs H Q E ⟨F, ca, ds, xs, rr, s, hm, q⟩ => ?_) fun cdv A outer s H vs Q E hr ⟨F, ca, ds, xs, rr, sb, hm, q⟩ => ⟨_, hst ▸ pss_cons (h1 cdv A outer s H E hr) (pss_one (ps_ret (pe_lst (h2 cdv A outer s H E hr)))), ?_⟩
  · unfold runNew at hm
    by_cases hl : ds.length = ps.length
    · rw [pd_len rr, hl]
    · rw [if_neg hl] at hm; cases hm
  · unfold runNew at hm
    by_cases hl : ds.length = ps.length
    · rw [if_pos hl] at hm
      obtain ⟨f, c1, e1, hm⟩ := bind_ok hm
      have e : L2.start N vs = vs.map some ++ List.replicate (N.length - ps.length) none := by
        unfold L2.start
        rw [pd_len rr, hl]
      rw [e]
      obtain ⟨Ev, no⟩ := envOk_start (H := H) (c := none) (N.length - ps.length) rr
      refine ⟨F, ca, none, _, f, c1, ⟨Ev, sb, trivial⟩, e1, ?_⟩
      cases f with
      | nx ρ' =>
        obtain ⟨ys, c2, e2, hm⟩ := bind_ok hm
        by_cases hy : ys.length ≤ 1000
        · rw [if_pos hy] at hm
          obtain ⟨rfl, rfl⟩ := pure_ok hm
          intro F1 H1 σ1 g
          refine ⟨F1, ca, c1, ρ', ys, _, g.env, g.ext.sub, g.ext.cup, e2, fun us H2 F2 x2 r2 => ⟨?_, fun p hp => ?_⟩⟩
          · rw [pd_len r2]; exact sz_of (by omega)
          · have gx := (g.ext.mono (own' := fun _ => False) (fun a z => (no a z).elim)).ext
            have x02 := gx.trans x2
            obtain ⟨a1, a2, a3⟩ := own_new (o := .lst us) x02 hp
            exact q p us F2 _ (x02.trans (Ext.laidN x02.sub x02.cup hp)) a2 a1 upd_same r2
        · rw [if_neg hy] at hm; cases hm
      | ret x => cases hm
      | bk ρ' => cases hm
      | ct ρ' => cases hm
    · rw [if_neg hl] at hm; cases hm
theorem new_ok {x qual : Str} {st s1 : Stmt} {es : List Expr} {p1 p2 : Pos} {f : Addr} {fd : FuncData} {N ps : List Str} {k nN np : Nat} {m : MS} {r : MA} (F : Fun K x qual st f fd) (S : FnScope N ps (defScope st)) (hst : defBody st = [s1, .Return (some (.List es p1)) p2])
    (h1 : ∀ (cdv : Value) (A : Around) (outer : List PySem.Env) (s : Shared) (H : Hp) (E : XK), Room k (A.deeper (envOfC qual (defScope st) s.heap.objs.size f cdv)) → PDS (cxOf CX0 P w K mg base N qual (defScope st) f cdv A outer s H E).nox s1 m)
    (h2 : ∀ (cdv : Value) (A : Around) (outer : List PySem.Env) (s : Shared) (H : Hp) (E : XK), Room k (A.deeper (envOfC qual (defScope st) s.heap.objs.size f cdv)) → PDA (cxOf CX0 P w K mg base N qual (defScope st) f cdv A outer s H E).nox es r)
    (hn : N.length = nN := by rfl) (hp : ps.length = np := by rfl) : FnOk P w K mg base CX0 (k + 1) f fd ps (spNew K (runNew nN np m r)) := by
  subst hn hp
  exact new_okL F S hst h1 h2
end
/-! ### the law's own body -/
mutual
def D.noCup : D → Bool
  | .cup => false
  | .own _ => false
  | .tup xs => D.noCups xs
  | .lst xs => D.noCups xs
  | .scr xs => D.noCups xs
  | _ => true
def D.noCups : List D → Bool
  | [] => true
  | x :: xs => D.noCup x && D.noCups xs
end
mutual
theorem rep_ca {K : PySem.W.Frag} {F : Hp} {ca cb : Addr} : ∀ (d : D) (v : V), d.noCup = true → Rep K F ca v d → Rep K F cb v d
  | .non, _, _, h => by cases h; exact .non
  | .bl b, _, _, h => by cases h; exact .bl b
  | .int i, _, _, h => by cases h; exact .int i
  | .str x, _, _, h => by cases h; exact .str x
  | .tup ds, v, n, h => by
    obtain ⟨a, vs, rfl, ha, ra⟩ := rep_tup_inv h
    exact rep_tup ha (reps_ca ds vs n ra)
  | .lst ds, v, n, h => by
    obtain ⟨a, vs, rfl, ha, ra⟩ := rep_lst_inv h
    exact rep_lst ha (reps_ca ds vs n ra)
  | .scr ds, v, n, h => by
    obtain ⟨a, vs, rfl, ha, ra⟩ := rep_scr_inv h
    have rr := reps_ca (cb := cb) ds vs n ra
    exact .scr ha (pd_len rr) (reps_ix rr)
  | .cup, _, n, _ => by simp [D.noCup] at n
  | .own _, _, n, _ => by simp [D.noCup] at n
theorem reps_ca {K : PySem.W.Frag} {F : Hp} {ca cb : Addr} : ∀ (ds : List D) (vs : List V), D.noCups ds = true → Reps K F ca vs ds → Reps K F cb vs ds
  | [], _, _, h => by cases h; exact .nil
  | d :: ds, _, n, h => by
    cases h with
    | cons h1 h2 =>
      simp only [D.noCups, Bool.and_eq_true] at n
      exact .cons (rep_ca d _ n.1 h1) (reps_ca ds _ n.2 h2)
end
def forget : Option D → Option D
  | some d => if d.noCup = true then some d else none
  | none => none
theorem forget_get {ρ : Env} {i : Nat} {d : D} (h : (ρ.map forget)[i]? = some (some d)) : ρ[i]? = some (some d) ∧ d.noCup = true := by
  rw [List.getElem?_map] at h
  cases e : ρ[i]? with
  | none => rw [e] at h; cases h
  | some o =>
    rw [e] at h
    cases o with
    | none => cases h
    | some d' =>
      have h : (if d'.noCup = true then some d' else none) = some d := Option.some.inj h
      by_cases hn : d'.noCup = true
      · rw [if_pos hn] at h; cases h; exact ⟨rfl, hn⟩
      · rw [if_neg hn] at h; cases h
def tL (K : PySem.W.Frag) (m : MS) : TS := fun D σ H => ∃ F ca c ρ d c', Okk K ca ⟨c, F, H, ρ, σ⟩ ∧ m ρ c = .ok (.ret (.bl d)) c' ∧ ∀ H', D.rt (.bl d) H'
def mCupThen (i : Nat) (fm : List D → M (List D)) (r : MA) (n : MS) : MS := fun ρ c => match c, (do let ds ← r ρ; fm ds : M (List D)) c with
  | none, .ok [.int a, .int b] none => n ((ρ.map forget).set i (some .cup)) (some (a, b))
  | _, _ => .stuck
section
variable {X : Cx} {st : Stmt} {rest : List Stmt} {m n : MS}
theorem law_of (h : PDSs X rest n) : PSs X rest (tL X.K n) := pss_imp h fun D σ H ⟨F, ca, c, ρ, d, c', o, hm, q⟩ =>
  ⟨F, ca, c, ρ, _, c', o, hm, fun v F' H' _ r => by cases r; exact q H'⟩
theorem law_cons (h1 : PDS X st m) (h2 : PSs X rest (tL X.K n)) : PSs X (st :: rest) (tL X.K (mSeq m n)) := pss_imp (pss_cons h1 h2) fun D σ H ⟨F, ca, c, ρ, d, c', o, hm, q⟩ => by
  obtain ⟨f, c1, e1, hm⟩ := bind_ok hm
  refine ⟨F, ca, c, ρ, f, c1, o, e1, ?_⟩
  cases f with
  | nx ρ1 => exact fun F1 H1 σ1 g => ⟨F1, ca, c1, ρ1, d, c', g.okk, hm, q⟩
  | ret x =>
    obtain ⟨z, rfl⟩ := pure_ok hm
    cases z
    exact fun v F' H' _ r => by cases r; exact q H'
  | bk x => obtain ⟨z, rfl⟩ := pure_ok hm; cases z
  | ct x => obtain ⟨z, rfl⟩ := pure_ok hm; cases z
theorem law_cup {x y : Str} {p0 p pos pos' : Pos} {e : Expr} {es : List Expr} {k : Nat} {f : Addr} {fd : FuncData} {ps : List Str} {fm : List D → M (List D)} {r : MA} (i : Nat) (hN : X.N.Nodup)
    (G : FnOk X.prog X.w X.K X.mg X.base CX0 k f fd ps (spNew X.K fm)) (hr : Room k X.A) (hg : Gl X x) (hm : X.mg x = some (.ref f)) (hk : PySem.W.keepIn X.K (.ref f) = true) (hb : Binds X.K fd ps [])
    (ha : PDA X (e :: es) r) (h2 : PSs X rest (tL X.K n)) (hi : X.N[i]? = some y := by rfl) (hx : Loc X.env.scope y := by first | exact Or.inl rfl | exact Or.inr rfl) (hs : swapsWith (.Call (.Name x p0) (e :: es) [] p) (some (.Name y pos')) pos.line X.env = pure false := by rfl)
    (hf : X.fn y = true ∨ X.env.scope.names.lookup y = some .local := by first | exact .inl rfl | exact .inr rfl | assumption) (hdb : (x == ("__debug__" : Str)) = false := by decide) (he : starEach (e :: es) X.env = (false, eval e X.env) :: starEach es X.env := by rfl) (hpl : (backTo p (starEach es X.env)).any (·.1) = false := by rfl) :
    PSs X (.Assign [.Name y pos'] (.Call (.Name x p0) (e :: es) [] p) pos :: rest) (tL X.K (mCupThen i fm r n)) :=
  pss_imp (pss_cons (ps_set hN hi hx (pe_call G hr hg hm hk hb .nil pass0 ha hdb he hpl) hs hf) h2) fun D σ H ⟨F, ca, c, ρ, d, c', o, hm, q⟩ => by
    unfold mCupThen at hm
    split at hm
    · rename_i a b hb
      obtain ⟨ds, c1, h1, h2⟩ := bind_ok hb
      refine ⟨F, ca, none, ρ, ds, c1, o.env, o.sub, o.cup, h1, fun vs H1 F1 x1 r1 => ?_⟩
      have e1 : c1 = none := x1.same.mp rfl
      subst e1
      refine ⟨F1, ca, ds, [.int a, .int b], by rw [List.append_nil]; exact r1, x1.sub, h2, fun p us F2 H2 x2 n1 n2 hp r2 => ?_⟩
      have eu : us = [.int a, .int b] := by
        cases r2 with
        | cons a1 t =>
          cases t with
          | cons a2 t2 => cases t2; cases a1; cases a2; rfl
      subst eu
      have x12 := x1.trans x2
      have E2 := o.env.ext x12
      have notP : ∀ {b : Addr} {o : HO}, F2 b = some o → b ≠ p := fun {b o} z zz => by rw [zz, n2] at z; cases z
      refine ⟨F2, p, some (a, b), _, d, c', ⟨⟨by simpa using E2.len, fun j d' hh => ?_, fun j k xs ys v a1 a2 a3 a4 => ?_⟩, x2.sub, ⟨hp, n2⟩⟩, hm, q⟩
      · have hh : ((ρ.map forget).set i (some .cup))[j]? = some (some d') := hh
        rcases set_get hh with ⟨rfl, e, hi'⟩ | ⟨hj, hh⟩
        · cases e
          have hl : j < σ.length := by have := E2.len; simp only at this; simp at hi'; omega
          exact ⟨.ref p, List.getElem?_set_self hl, SlotOk.of .cup⟩
        · obtain ⟨g1, g2⟩ := forget_get hh
          obtain ⟨w, b1, b2⟩ := E2.at_ j d' g1
          refine ⟨w, by rw [List.getElem?_set_ne (fun z => hj z.symm)]; exact b1, SlotOk.of (rep_ca d' w g2 (b2.rep fun xs z => ?_))⟩
          subst z
          exact absurd g2 (by simp [DL.D.noCup])
      · have a1 : ((ρ.map forget).set i (some .cup))[j]? = some (some (.own xs)) := a1
        rcases set_get a1 with ⟨rfl, e, _⟩ | ⟨hj, a1⟩
        · cases e
        · obtain ⟨_, g2⟩ := forget_get a1
          exact absurd g2 (by simp [DL.D.noCup])
    · cases hm
end
def spLaw (K : PySem.W.Frag) : Sp := fun vs H Q _ => ∃ (a : Addr) (ns : List Int), vs = [.ref a] ∧ SqL K H a (ns.map V.int) ∧ ns.length ≤ 63 ∧ ∀ H', Q (.bl true) H'
theorem law_ok {P : Program} {w : World} {K : PySem.W.Frag} {mg : Str → Option Value} {base : Heap} {x qual : Str} {st : Stmt} {f : Addr} {fd : FuncData} {N : List Str} {k nN : Nat} {m : MS} (F : Fun K x qual st f fd) (S : FnScope N ["script"] (defScope st))
    (hbody : ∀ (cdv : Value) (A : Around) (outer : List PySem.Env) (s : Shared) (H : Hp) (E : XK), Room k (A.deeper (envOfC qual (defScope st) s.heap.objs.size f cdv)) → PSs (cxOf CX0 P w K mg base N qual (defScope st) f cdv A outer s H E).nox (defBody st) (tL K m))
    (hm : ∀ ns : List Int, ns.length ≤ 63 → ∃ c', m (some (.scr (ns.map D.int)) :: List.replicate nN none) none = .ok (.ret (.bl true)) c') (hn : N.length - 1 = nN := by rfl) :
    FnOk P w K mg base CX0 (k + 1) f fd ["script"] (spLaw K) := by
  refine F.ok S (fun vs H Q E ⟨a, ns, e, _⟩ => by subst e; rfl) fun cdv A outer s H vs Q E hr ⟨a, ns, e, hS, hl, q⟩ => ⟨_, hbody cdv A outer s H E hr, ?_⟩
  subst e
  subst hn
  obtain ⟨c', h⟩ := hm ns hl
  have rr : ∀ ms : List Int, Reps K H 0 (ms.map V.int) (ms.map D.int) := fun ms => by
    induction ms with
    | nil => exact .nil
    | cons m ms ih => exact .cons (.int m) ih
  have r1 : Reps K H 0 [V.ref a] [D.scr (ns.map D.int)] := .cons (.scr hS (pd_len (rr ns)) (reps_ix (rr ns))) .nil
  obtain ⟨Ev, no⟩ := envOk_start (H := H) (c := none) (N.length - 1) r1
  exact ⟨H, 0, none, _, true, c', ⟨Ev, Evl.Ex.refl H, trivial⟩, h, q⟩
/-! ### tuples that the module's top has laid -/
theorem rep_ktup {K : PySem.W.Frag} {F : Hp} {ca a : Addr} {co : Option Addr} {cn : Nat} {cs : Array (Option Value)} {its : Array Value} {vs : List V} {ds : List D} (h : K.lookup a = some ⟨.type "tuple", co, .seq its cn, cs⟩) (hs : its.size ≤ 1000) (hv : Vals vs its.toList) (hr : Reps K F ca vs ds) : Rep K F ca (.ref a) (.tup ds) :=
  rep_tup (.inr ⟨_, its, cn, h, rfl, rfl, Nat.le_trans hs (by decide), hv⟩) hr
/-! ### range with a step upwards -/
def rangeC (lo c : Int) (n : Nat) : List D := (List.range n).map fun (i : Nat) => D.int (lo + (i : Int) * c)
def stepOk (i j c : Int) : Bool := decide (0 < c) && decide (c.natAbs < 1073741824) && Builtin.Range.small i j c
def range3F (ds : List D) : M (List D) := match ds with
  | [.int i, .int j, .int c] => if stepOk i j c = true then pure (rangeC i c (Builtin.Range.rangeSize i j c).toNat) else M.stuck
  | _ => M.stuck
theorem rangeC_len {lo c : Int} {n : Nat} : (rangeC lo c n).length = n := by simp [rangeC]
theorem size_nonneg {i j c : Int} (h : 0 < c) : 0 ≤ Builtin.Range.rangeSize i j c := by
  unfold Builtin.Range.rangeSize
  rw [if_pos h]
  split
  · have : 0 ≤ (j - i - 1) / c := Int.ediv_nonneg (by omega) (by omega)
    omega
  · exact Int.le_refl _
section
variable {K : PySem.W.Frag}
theorem walkD_c {F : Hp} {ca : Addr} {lo c : Int} {n : Nat} : WalkD K (Itc lo c n) F ca (rangeC lo c n) where
  goes := fun i H hi' s => by rw [rangeC_len] at hi'; exact hi'
  stops := fun H s => by rw [rangeC_len]; exact Nat.le_refl _
  yields := fun i H x H' F1 k0 hi' f s k y => by
    rw [rangeC_len] at hi'
    obtain ⟨rfl, rfl⟩ := y
    exact ⟨F1, .int (lo + i * c), by unfold rangeC; rw [List.getElem?_map, List.getElem?_range hi']; rfl, Ext.refl s k, .int _⟩
end
theorem reps3 {K : PySem.W.Frag} {F : Hp} {ca : Addr} {vs : List V} {d d2 d3 : D} (h : Reps K F ca vs [d, d2, d3]) : ∃ v w z, vs = [v, w, z] ∧ Rep K F ca v d ∧ Rep K F ca w d2 ∧ Rep K F ca z d3 := by
  cases h with
  | cons r t =>
    obtain ⟨w, z, rfl, a, b⟩ := reps2 t
    exact ⟨_, _, _, rfl, r, a, b⟩
section
variable {X : Cx} {tg : Expr}
theorem pid_range3 {a b e : Expr} {r : MA} {p pos : Pos} (hg : Gl X "range") (hm : X.mg "range" = none) (ha : PDA X [a, b, e] r) (hs : starEach [a, b, e] X.env = (false, eval a X.env) :: starEach [b, e] X.env := by rfl) (hpl : (backTo pos (starEach [b, e] X.env)).any (·.1) = false := by rfl) :
    PID X tg (.Call (.Name "range" p) [a, b, e] [] pos) (miCall range3F r) :=
  pi_imp (pi_range3 hg hm ha hs hpl) fun σ H R ⟨F, ca, c, ρ, ds, c', E, s, k, hm, q⟩ => by
    obtain ⟨xs, c1, e1, hm⟩ := bind_ok hm
    refine ⟨F, ca, c, ρ, xs, c1, E, s, k, e1, fun vs H1 F1 x r => ?_⟩
    unfold range3F at hm
    split at hm
    · rename_i i j d
      by_cases hb : stepOk i j d = true
      · rw [if_pos hb] at hm
        obtain ⟨rfl, rfl⟩ := pure_ok hm
        obtain ⟨v, w, z, rfl, rv, rw', rz⟩ := reps3 r
        cases rv; cases rw'; cases rz
        unfold stepOk at hb
        simp only [Bool.and_eq_true, decide_eq_true_eq] at hb
        refine ⟨i, j, d, (Builtin.Range.rangeSize i j d).toNat, rfl, ⟨by omega, hb.1.2, hb.2, ?_⟩, q _ H1 F1 x walkD_c⟩
        have := size_nonneg (i := i) (j := j) hb.1.1
        omega
      · rw [if_neg hb] at hm; cases hm
    · cases hm
end
end DL
/-! DL, the second floor: what the mirrors come to. -/
namespace DL
open L2 PySem
def Res.andThen {α β : Type} (r : Res α) (f : α → M β) : Res β := match r with
  | .ok a c => f a c
  | .stuck => .stuck
theorem ap_bind {α β : Type} (m : M α) (f : α → M β) (c : Cup) : (m >>= f) c = (m c).andThen f := rfl
theorem ap_pure {α : Type} (a : α) (c : Cup) : (pure a : M α) c = .ok a c := rfl
theorem then_ok {α β : Type} (a : α) (c : Cup) (f : α → M β) : (Res.ok a c).andThen f = f a c := rfl
theorem then_stuck {α β : Type} (f : α → M β) : (Res.stuck : Res α).andThen f = .stuck := rfl
theorem ap_ite {α : Type} {p : Prop} [Decidable p] (a b : M α) (c : Cup) : (if p then a else b) c = if p then a c else b c := by split <;> rfl
theorem ap_iteE {α : Type} {p : Prop} [Decidable p] (a b : Env → M α) (ρ : Env) : (if p then a else b) ρ = if p then a ρ else b ρ := by split <;> rfl
theorem optM_some {α : Type} (a : α) : optM (some a) = (pure a : M α) := rfl
theorem var0 (d : D) (ρ : Env) (h : ∀ xs, d ≠ .own xs) (c : Cup) : mVar 0 (some d :: ρ) c = .ok d c := by
  cases d <;> first | rfl | exact absurd rfl (h _)
theorem var0_int (i : Int) (ρ : Env) (c : Cup) : mVar 0 (some (.int i) :: ρ) c = .ok (.int i) c := rfl
theorem var0_bl (i : Bool) (ρ : Env) (c : Cup) : mVar 0 (some (.bl i) :: ρ) c = .ok (.bl i) c := rfl
theorem var0_tup (xs : List D) (ρ : Env) (c : Cup) : mVar 0 (some (.tup xs) :: ρ) c = .ok (.tup xs) c := rfl
theorem var0_lst (xs : List D) (ρ : Env) (c : Cup) : mVar 0 (some (.lst xs) :: ρ) c = .ok (.lst xs) c := rfl
theorem var0_str (x : PySem.Str) (ρ : Env) (c : Cup) : mVar 0 (some (.str x) :: ρ) c = .ok (.str x) c := rfl
theorem var0_non (ρ : Env) (c : Cup) : mVar 0 (some .non :: ρ) c = .ok .non c := rfl
theorem var0_cup (ρ : Env) (c : Cup) : mVar 0 (some .cup :: ρ) c = .ok .cup c := rfl
theorem var0_scr (xs : List D) (ρ : Env) (c : Cup) : mVar 0 (some (.scr xs) :: ρ) c = .ok (.scr xs) c := rfl
theorem varS (n : Nat) (o : Option D) (ρ : Env) : mVar (n + 1) (o :: ρ) = mVar n ρ := rfl
theorem lnil {g : MG} {t : MB} {m : ME} {ρ : Env} : lcL g t m ρ [] = pure [] := rfl
/-! ### while, a turn at a time -/
theorem whileN_mono {t : MB} {b : MS} : ∀ {n : Nat} {ρ : Env} {c c' : Cup} {f : Fl}, whileN t b n ρ c = .ok f c' → whileN t b (n + 1) ρ c = .ok f c'
  | 0, _, _, _, _, h => by cases h
  | n + 1, ρ, c, c', f, h => by
    obtain ⟨k, c1, h1, h⟩ := bind_ok h
    show ((t ρ) >>= _ : M _) c = _
    rw [bind_eq, h1]
    cases k with
    | false => exact h
    | true =>
      obtain ⟨g, c2, h2, h⟩ := bind_ok h
      show (_ >>= _ : M _) c1 = _
      rw [bind_eq, h2]
      cases g with
      | nx ρ' => exact whileN_mono h
      | ct ρ' => exact whileN_mono h
      | bk ρ' => exact h
      | ret d => exact h
theorem whileN_le {t : MB} {b : MS} {n k : Nat} {ρ : Env} {c c' : Cup} {f : Fl} (h : whileN t b n ρ c = .ok f c') : whileN t b (n + k) ρ c = .ok f c' := by
  induction k with
  | zero => exact h
  | succ k ih => exact whileN_mono ih
theorem whileN_uniq {t : MB} {b : MS} {n k : Nat} {ρ : Env} {c c1 c2 : Cup} {f g : Fl} (h : whileN t b n ρ c = .ok f c1) (h' : whileN t b k ρ c = .ok g c2) : f = g ∧ c1 = c2 := by
  have a := whileN_le (k := k) h
  have b := whileN_le (k := n) h'
  rw [Nat.add_comm k n] at b
  rw [a] at b
  cases b
  exact ⟨rfl, rfl⟩
theorem mWhile_of {t : MB} {b : MS} {n : Nat} {ρ : Env} {c c' : Cup} {f : Fl} (h : whileN t b n ρ c = .ok f c') : mWhile t b ρ c = .ok f c' := by
  unfold mWhile
  have ex : ∃ n f c', whileN t b n ρ c = .ok f c' := ⟨n, f, c', h⟩
  rw [dif_pos ex]
  obtain ⟨g, c2, h2⟩ := ex.choose_spec
  rw [h2]
  obtain ⟨rfl, rfl⟩ := whileN_uniq h h2
  rfl
/-- the test fails -/
theorem while_end {t : MB} {b : MS} {ρ : Env} {c c1 : Cup} (h : t ρ c = .ok false c1) : mWhile t b ρ c = .ok (.nx ρ) c1 := mWhile_of (n := 1) (by
  show ((t ρ) >>= _ : M _) c = _
  rw [bind_eq, h]; rfl)
/-- one turn -/
theorem while_turn {t : MB} {b : MS} {ρ ρ' : Env} {c c1 c2 c3 : Cup} {f : Fl} (h : t ρ c = .ok true c1) (hb : b ρ c1 = .ok (.nx ρ') c2) (hr : mWhile t b ρ' c2 = .ok f c3) : mWhile t b ρ c = .ok f c3 := by
  obtain ⟨n, hn⟩ := mWhile_ok hr
  refine mWhile_of (n := n + 1) ?_
  show ((t ρ) >>= _ : M _) c = _
  rw [bind_eq, h]
  show (_ >>= _ : M _) c1 = _
  rw [bind_eq, hb]
  exact hn
/-- a turn that hands back -/
theorem while_ret {t : MB} {b : MS} {ρ : Env} {c c1 c2 : Cup} {d : D} (h : t ρ c = .ok true c1) (hb : b ρ c1 = .ok (.ret d) c2) : mWhile t b ρ c = .ok (.ret d) c2 := mWhile_of (n := 1) (by
  show ((t ρ) >>= _ : M _) c = _
  rw [bind_eq, h]
  show (_ >>= _ : M _) c1 = _
  rw [bind_eq, hb]; rfl)
/-! ### comprehensions without a draw -/
theorem lc_of {g : MG} {t : MB} {m : ME} {ρ : Env} {c : Cup} {k : D → Bool} {y : D → D} : ∀ {ds : List D}, (∀ d ∈ ds, ∃ ρ1, g d ρ = some ρ1 ∧ t ρ1 c = .ok (k d) c ∧ (k d = true → m ρ1 c = .ok (y d) c)) → lcL g t m ρ ds c = .ok ((ds.filter k).map y) c
  | [], _ => rfl
  | d :: ds, h => by
    obtain ⟨ρ1, h1, h2, h3⟩ := h d List.mem_cons_self
    have ih := lc_of (ds := ds) fun d' hd => h d' (List.mem_cons_of_mem _ hd)
    show (optM (g d ρ) >>= _ : M _) c = _
    rw [bind_eq, h1]
    show (t ρ1 >>= _ : M _) c = _
    rw [bind_eq, h2, List.filter_cons]
    cases hk : k d with
    | false => simpa using ih
    | true =>
      show (m ρ1 >>= _ : M _) c = _
      rw [bind_eq, h3 hk]
      show (lcL g t m ρ ds >>= _ : M _) c = _
      rw [bind_eq, ih]
      rfl
theorem mLc_of {vs : List Nat} {mi : MA} {g : MG} {t : MB} {m : ME} {ρ : Env} {c : Cup} {ds : List D} {k : D → Bool} {y : D → D} (hi : mi ρ c = .ok ds c) (hl : ds.length ≤ 1000000)
    (h : ∀ d ∈ ds, ∃ ρ1, g d (wipeE ρ vs) = some ρ1 ∧ t ρ1 c = .ok (k d) c ∧ (k d = true → m ρ1 c = .ok (y d) c)) : mLc vs mi g t m ρ c = .ok (.lst ((ds.filter k).map y)) c := by
  show (mi ρ >>= _ : M _) c = _
  rw [bind_eq, hi]
  show (if ds.length ≤ 1000000 then _ else _ : M D) c = _
  rw [if_pos hl]
  show (lcL g t m (wipeE ρ vs) ds >>= _ : M _) c = _
  rw [bind_eq, lc_of h]
  rfl
/-- .. without a test -/
theorem mLc_map {vs : List Nat} {mi : MA} {g : MG} {m : ME} {ρ : Env} {c : Cup} {ds : List D} {y : D → D} (hi : mi ρ c = .ok ds c) (hl : ds.length ≤ 1000000)
    (h : ∀ d ∈ ds, ∃ ρ1, g d (wipeE ρ vs) = some ρ1 ∧ m ρ1 c = .ok (y d) c) : mLc vs mi g mYes m ρ c = .ok (.lst (ds.map y)) c := by
  have q := mLc_of (vs := vs) (mi := mi) (g := g) (t := mYes) (m := m) (ρ := ρ) (c := c) (k := fun _ => true) (y := y) hi hl fun d hd => by
    obtain ⟨ρ1, h1, h2⟩ := h d hd
    exact ⟨ρ1, h1, rfl, fun _ => h2⟩
  rw [q]
  congr 2
  have : ds.filter (fun _ => true) = ds := List.filter_eq_self.mpr fun _ _ => rfl
  rw [this]
/-! ### numbers -/
theorem mulOk_of {i j : Int} (hi : i.natAbs < 10 ^ 1000) (hj : j.natAbs < 10 ^ 1000) : mulOk i j = true := by
  have e : (10 ^ 1000 : Nat) ≤ 2 ^ 4000 := by decide +kernel
  have l : ∀ x : Int, x.natAbs < 10 ^ 1000 → x.natAbs.log2 < 4000 := fun x h => by
    by_cases z : x.natAbs = 0
    · rw [z]; decide
    · exact (Nat.log2_lt z).mpr (Nat.lt_of_lt_of_le h e)
  have a := l i hi
  have b := l j hj
  unfold mulOk
  simp only [Bool.or_eq_true, decide_eq_true_eq]
  omega
theorem divOk_of {j : Int} (hj : j.natAbs < 10 ^ 1000) : divOk j = true := by
  have e : (10 ^ 1000 : Nat) ≤ 2 ^ 4000 := by decide +kernel
  unfold divOk
  rw [decide_eq_true_eq]
  by_cases z : j.natAbs = 0
  · rw [z]; decide
  · have := (Nat.log2_lt z).mpr (Nat.lt_of_lt_of_le hj e)
    omega
theorem powOk_of {i : Int} {k : Nat} (hi : i.natAbs < 10 ^ 1000) (hk : k ≤ 1000) : powOk i k = true := by
  have e : (10 ^ 1000 : Nat) ≤ 2 ^ 4000 := by decide +kernel
  have a : i.natAbs.log2 < 100000 := by
    by_cases z : i.natAbs = 0
    · rw [z]; decide
    · have := (Nat.log2_lt z).mpr (Nat.lt_of_lt_of_le hi e)
      omega
  unfold powOk
  simp only [Bool.and_eq_true, decide_eq_true_eq]
  omega
theorem mul_ii {i j : Int} (hi : i.natAbs < 10 ^ 1000) (hj : j.natAbs < 10 ^ 1000) (c : Cup) : mulD (.int i) (.int j) c = .ok (.int (i * j)) c := by
  show (if mulOk i j = true then _ else _ : M D) c = _
  rw [if_pos (mulOk_of hi hj)]; rfl
theorem mul_small {i j : Int} (hj : j.natAbs < 2 ^ 64) (c : Cup) : mulD (.int i) (.int j) c = .ok (.int (i * j)) c := by
  show (if mulOk i j = true then _ else _ : M D) c = _
  rw [if_pos (by unfold mulOk; simp [hj])]; rfl
theorem fdiv_ii {i j : Int} (h : 0 < j) (hj : j.natAbs < 10 ^ 1000) (c : Cup) : fdivD (.int i) (.int j) c = .ok (.int (i / j)) c := by
  show (if 0 < j ∧ divOk j = true then _ else _ : M D) c = _
  rw [if_pos ⟨h, divOk_of hj⟩]; rfl
theorem fdivN_ii {i j : Int} (h : j < 0) (hj : j.natAbs < 10 ^ 1000) (c : Cup) : fdivD (.int i) (.int j) c = .ok (.int (i.fdiv j)) c := by
  show (if 0 < j ∧ divOk j = true then _ else if j < 0 ∧ divOk j = true then _ else _ : M D) c = _
  rw [if_neg (by omega), if_pos ⟨h, divOk_of hj⟩]; rfl
theorem mod_ii {i j : Int} (h : 0 < j) (c : Cup) : modD (.int i) (.int j) c = .ok (.int (i % j)) c := by
  show (if 0 < j then _ else _ : M D) c = _
  rw [if_pos h]; rfl
theorem pow_ii {i : Int} {k : Nat} (hi : i.natAbs < 10 ^ 1000) (hk : k ≤ 1000) (c : Cup) : powD (.int i) (.int (k : Int)) c = .ok (.int (i ^ k)) c := by
  show (if powOk i k = true then _ else _ : M D) c = _
  rw [if_pos (powOk_of hi hk)]; simp [ap_pure]
theorem add_ii (i j : Int) (c : Cup) : addD (.int i) (.int j) c = .ok (.int (i + j)) c := rfl
theorem sub_ii (i j : Int) (c : Cup) : subD (.int i) (.int j) c = .ok (.int (i - j)) c := rfl
theorem cmp_ii (p : Int → Int → Bool) (i j : Int) (c : Cup) : cmpD p (.int i) (.int j) c = .ok (.bl (p i j)) c := rfl
theorem add_tt {xs ys : List D} (h : xs.length + ys.length ≤ 1000000) (c : Cup) : addD (.tup xs) (.tup ys) c = .ok (.tup (xs ++ ys)) c := by
  show (if _ then _ else _ : M D) c = _
  rw [if_pos h]; rfl
theorem add_ll {xs ys : List D} (h : xs.length + ys.length ≤ 1000000) (c : Cup) : addD (.lst xs) (.lst ys) c = .ok (.lst (xs ++ ys)) c := by
  show (if _ then _ else _ : M D) c = _
  rw [if_pos h]; rfl
/-! ### data that can be compared -/
theorem shp_int (i : Int) : (D.int i).shp = true := rfl
theorem shp_bl (i : Bool) : (D.bl i).shp = true := rfl
theorem shp_non : (D.non).shp = true := rfl
theorem eq_ii (i j : Int) (c : Cup) : eqD (.int i) (.int j) c = .ok (.bl (decide (i = j))) c := by
  show (if (D.int i).shp = true ∧ (D.int j).shp = true then _ else _ : M D) c = _
  rw [if_pos ⟨rfl, rfl⟩]
  show Res.ok (D.bl (PyData.eqv (.int i) (.int j))) c = _
  have : PyData.eqv (.int i) (.int j) = decide (i = j) := by simp [PyData.eqv, Bool.beq_eq_decide_eq]
  rw [this]
theorem ne_ii (i j : Int) (c : Cup) : neD (.int i) (.int j) c = .ok (.bl (!decide (i = j))) c := by
  show (if (D.int i).shp = true ∧ (D.int j).shp = true then _ else _ : M D) c = _
  rw [if_pos ⟨rfl, rfl⟩]
  show Res.ok (D.bl (!PyData.eqv (.int i) (.int j))) c = _
  have : PyData.eqv (.int i) (.int j) = decide (i = j) := by simp [PyData.eqv, Bool.beq_eq_decide_eq]
  rw [this]
end DL
/-! DL: the mirrors taken a step at a time, as rules for simp. -/
namespace DL
open L2 PySem
section
variable {ρ ρ' : Env} {c c' : Cup} {m n : MS} {d d1 d2 x y : D} {ds xs ys : List D} {b : Bool} {t u : MB} {e e1 e2 : ME} {r : MA} {f : D → D → M D} {g : MG} {gs : MGs} {i j k : Nat}
def kSeq (n : MS) : Fl → M Fl := fun f => match f with
  | .nx ρ' => n ρ'
  | f => pure f
theorem e_seq : mSeq m n ρ c = (m ρ c).andThen (kSeq n) := rfl
theorem k_seqN : kSeq n (.nx ρ) c = n ρ c := rfl
theorem k_seqR : kSeq n (.ret d) c = .ok (.ret d) c := rfl
theorem k_seqB : kSeq n (.bk ρ) c = .ok (.bk ρ) c := rfl
theorem k_seqC : kSeq n (.ct ρ) c = .ok (.ct ρ) c := rfl
def kIfS (m n : MS) (ρ : Env) : Bool → M Fl := fun b => if b then m ρ else n ρ
theorem e_ifS : mIfS t m n ρ c = (t ρ c).andThen (kIfS m n ρ) := rfl
theorem k_ifST : kIfS m n ρ true c = m ρ c := rfl
theorem k_ifSF : kIfS m n ρ false c = n ρ c := rfl
theorem e_skip : mSkip ρ c = .ok (.nx ρ) c := rfl
def kRet : D → M Fl := fun d => pure (.ret d)
theorem e_ret : mRet e ρ c = (e ρ c).andThen kRet := rfl
theorem k_ret : kRet d c = .ok (.ret d) c := rfl
theorem e_retN : mRetN ρ c = .ok (.ret .non) c := rfl
theorem e_brk : mBrk ρ c = .ok (.bk ρ) c := rfl
theorem e_cont : mCont ρ c = .ok (.ct ρ) c := rfl
def kDrop (ρ : Env) : D → M Fl := fun _ => pure (.nx ρ)
theorem e_drop : mDrop e ρ c = (e ρ c).andThen (kDrop ρ) := rfl
theorem k_drop : kDrop ρ d c = .ok (.nx ρ) c := rfl
def kAsg (g : MG) (ρ : Env) : D → M Fl := fun d => do
  let ρ' ← optM (g d ρ)
  pure (.nx ρ')
theorem e_asg : mAsg g e ρ c = (e ρ c).andThen (kAsg g ρ) := rfl
theorem k_asgName : kAsg (mgName i) ρ d c = .ok (.nx (ρ.set i (some d))) c := rfl
def optE (o : Option Env) (c : Cup) : Res Fl := match o with
  | some ρ => .ok (.nx ρ) c
  | none => .stuck
theorem k_asgTup : kAsg (mgTup i gs) ρ d c = optE (mgTup i gs d ρ) c := by
  unfold kAsg optE
  cases mgTup i gs d ρ <;> rfl
theorem optE_some : optE (some ρ) c = .ok (.nx ρ) c := rfl
theorem g_tup (h : xs.length = i) : mgTup i gs (.tup xs) ρ = gs xs ρ := if_pos h
theorem g_name : mgName i d ρ = some (ρ.set i (some d)) := rfl
theorem g_cons : mgsCons g gs (d :: ds) ρ = (g d ρ).bind (gs ds) := rfl
theorem g_nil : mgsNil [] ρ = some ρ := rfl
theorem st0 {α : Type} {x y : α} {l : List α} : (x :: l).set 0 y = y :: l := rfl
theorem stS {α : Type} {x y : α} {l : List α} : (x :: l).set (k + 1) y = x :: l.set k y := rfl
/-! tests -/
theorem e_B : mB e ρ c = (e ρ c).andThen asB := rfl
theorem k_asB : asB (.bl b) c = .ok b c := rfl
def kNotB : Bool → M Bool := fun b => pure (!b)
theorem e_notB : mNotB t ρ c = (t ρ c).andThen kNotB := rfl
theorem k_notB : kNotB b c = .ok (!b) c := rfl
def kAndB (u : MB) (ρ : Env) : Bool → M Bool := fun b => if b then u ρ else pure false
theorem e_andB : mAndB t u ρ c = (t ρ c).andThen (kAndB u ρ) := rfl
theorem k_andBT : kAndB u ρ true c = u ρ c := rfl
theorem k_andBF : kAndB u ρ false c = .ok false c := rfl
def kOrB (u : MB) (ρ : Env) : Bool → M Bool := fun b => if b then pure true else u ρ
theorem e_orB : mOrB t u ρ c = (t ρ c).andThen (kOrB u ρ) := rfl
theorem k_orBT : kOrB u ρ true c = .ok true c := rfl
theorem k_orBF : kOrB u ρ false c = u ρ c := rfl
def kNotD : D → M D := fun x => do
  let b ← asB x
  pure (.bl (!b))
theorem e_notD : mNotD e ρ c = (e ρ c).andThen kNotD := rfl
theorem k_notD : kNotD (.bl b) c = .ok (.bl (!b)) c := rfl
def kAndD (n : ME) (ρ : Env) : D → M D := fun x => do
  let b ← asB x
  if b then n ρ else pure (.bl false)
theorem e_andD : mAndD e e1 ρ c = (e ρ c).andThen (kAndD e1 ρ) := rfl
theorem k_andDT : kAndD e ρ (.bl true) c = e ρ c := rfl
theorem k_andDF : kAndD e ρ (.bl false) c = .ok (.bl false) c := rfl
def kOrD (n : ME) (ρ : Env) : D → M D := fun x => do
  let b ← asB x
  if b then pure (.bl true) else n ρ
theorem e_orD : mOrD e e1 ρ c = (e ρ c).andThen (kOrD e1 ρ) := rfl
theorem k_orDT : kOrD e ρ (.bl true) c = .ok (.bl true) c := rfl
theorem k_orDF : kOrD e ρ (.bl false) c = e ρ c := rfl
def kIf (m n : ME) (ρ : Env) : Bool → M D := fun b => if b then m ρ else n ρ
theorem e_if : mIf t e e1 ρ c = (t ρ c).andThen (kIf e e1 ρ) := rfl
theorem k_ifT : kIf e e1 ρ true c = e ρ c := rfl
theorem k_ifF : kIf e e1 ρ false c = e1 ρ c := rfl
/-! values -/
theorem e_C : mC d ρ c = .ok d c := rfl
def kOp1 (f : D → D → M D) (e : ME) (ρ : Env) : D → M D := fun x => do
  let y ← e ρ
  f x y
theorem e_op : mOp f e e1 ρ c = (e ρ c).andThen (kOp1 f e1 ρ) := rfl
theorem k_op1 : kOp1 f e ρ x c = (e ρ c).andThen (f x) := rfl
theorem e_nil : mNil ρ c = .ok [] c := rfl
def kC1 (r : MA) (ρ : Env) : D → M (List D) := fun d => do
  let ds ← r ρ
  pure (d :: ds)
def kC2 (d : D) : List D → M (List D) := fun ds => pure (d :: ds)
theorem e_cons : mCons e r ρ c = (e ρ c).andThen (kC1 r ρ) := rfl
theorem k_c1 : kC1 r ρ d c = (r ρ c).andThen (kC2 d) := rfl
theorem k_c2 : kC2 d ds c = .ok (d :: ds) c := rfl
theorem e_call {F : List D → M D} : mCall F r ρ c = (r ρ c).andThen F := rfl
theorem e_icall {F : List D → M (List D)} : miCall F r ρ c = (r ρ c).andThen F := rfl
theorem e_tup : mTup r ρ c = (r ρ c).andThen (fun ds => if ds.length ≤ 1000000 then pure (.tup ds) else M.stuck) := rfl
def kTup : List D → M D := fun ds => if ds.length ≤ 1000000 then pure (.tup ds) else M.stuck
theorem e_tup' : mTup r ρ c = (r ρ c).andThen kTup := rfl
theorem k_tup (h : ds.length ≤ 1000000) : kTup ds c = .ok (.tup ds) c := by unfold kTup; rw [if_pos h]; rfl
def kLst : List D → M D := fun ds => if ds.length ≤ 1000000 then pure (.lst ds) else M.stuck
theorem e_lst : mLst r ρ c = (r ρ c).andThen kLst := rfl
theorem k_lst (h : ds.length ≤ 1000000) : kLst ds c = .ok (.lst ds) c := by unfold kLst; rw [if_pos h]; rfl
def kNeg : D → M D := fun x => match x with
  | .int i => pure (.int (-i))
  | _ => M.stuck
theorem e_neg : mNeg e ρ c = (e ρ c).andThen kNeg := rfl
theorem k_neg {i : Int} : kNeg (.int i) c = .ok (.int (-i)) c := rfl
def kChain (m : D → ME) (ρ : Env) : D → M D := fun x => m x ρ
theorem e_chain {m : D → ME} : mChain e m ρ c = (e ρ c).andThen (kChain m ρ) := rfl
theorem k_chain {m : D → ME} : kChain m ρ x c = m x ρ c := rfl
theorem e_last : mLast f e x ρ c = (e ρ c).andThen (f x) := rfl
def kLink1 (f : D → D → M D) (m : D → ME) (x : D) (ρ : Env) : D → M D := fun y => do
  let z ← f x y
  let k ← asB z
  if k then m y ρ else pure (.bl false)
def kLink2 (m : D → ME) (y : D) (ρ : Env) : D → M D := fun z => do
  let k ← asB z
  if k then m y ρ else pure (.bl false)
theorem e_link {m : D → ME} : mLink f e m x ρ c = (e ρ c).andThen (kLink1 f m x ρ) := rfl
theorem k_link1 {m : D → ME} : kLink1 f m x ρ y c = (f x y c).andThen (kLink2 m y ρ) := rfl
theorem k_link2T {m : D → ME} : kLink2 m y ρ (.bl true) c = m y ρ c := rfl
theorem k_link2F {m : D → ME} : kLink2 m y ρ (.bl false) c = .ok (.bl false) c := rfl
theorem e_un {F : D → M D} : mUn F e ρ c = (e ρ c).andThen F := rfl
theorem e_isi {p : D → Bool} : isiF p e ρ c = (e ρ c).andThen (fun d => match d with
  | .cup => M.stuck
  | .scr _ => M.stuck
  | d => pure (.bl (p d))) := rfl
def kIsi (p : D → Bool) : D → M D := fun d => match d with
  | .cup => M.stuck
  | .scr _ => M.stuck
  | d => pure (.bl (p d))
theorem e_isi' {p : D → Bool} : isiF p e ρ c = (e ρ c).andThen (kIsi p) := rfl
theorem k_isi_int {p : D → Bool} {i : Int} : kIsi p (.int i) c = .ok (.bl (p (.int i))) c := rfl
theorem k_isi_bl {p : D → Bool} : kIsi p (.bl b) c = .ok (.bl (p (.bl b))) c := rfl
theorem k_isi_non {p : D → Bool} : kIsi p .non c = .ok (.bl (p .non)) c := rfl
theorem k_isi_str {p : D → Bool} {s : Str} : kIsi p (.str s) c = .ok (.bl (p (.str s))) c := rfl
theorem k_isi_tup {p : D → Bool} : kIsi p (.tup xs) c = .ok (.bl (p (.tup xs))) c := rfl
theorem k_isi_lst {p : D → Bool} : kIsi p (.lst xs) c = .ok (.bl (p (.lst xs))) c := rfl
/-! calls of defs -/
def kRun : Fl → M D := fun f => match f with
  | .ret d => pure d
  | .nx _ => pure .non
  | _ => M.stuck
def env0 (n : Nat) (ds : List D) : Env := ds.map some ++ List.replicate n none
theorem e_run {m : MS} (h : ds.length = j) : runD i j m ds c = (m (env0 (i - j) ds) c).andThen kRun := by
  unfold runD
  rw [if_pos h]; rfl
theorem e_run0 {m : MS} : runD i 0 m [] c = (m (env0 (i - 0) []) c).andThen kRun := e_run rfl
theorem e_run1 {m : MS} {a0 : D} : runD i 1 m [a0] c = (m (env0 (i - 1) [a0]) c).andThen kRun := e_run rfl
theorem e_run2 {m : MS} {a0 a1 : D} : runD i 2 m [a0, a1] c = (m (env0 (i - 2) [a0, a1]) c).andThen kRun := e_run rfl
theorem e_run3 {m : MS} {a0 a1 a2 : D} : runD i 3 m [a0, a1, a2] c = (m (env0 (i - 3) [a0, a1, a2]) c).andThen kRun := e_run rfl
theorem e_run4 {m : MS} {a0 a1 a2 a3 : D} : runD i 4 m [a0, a1, a2, a3] c = (m (env0 (i - 4) [a0, a1, a2, a3]) c).andThen kRun := e_run rfl
theorem e_run5 {m : MS} {a0 a1 a2 a3 a4 : D} : runD i 5 m [a0, a1, a2, a3, a4] c = (m (env0 (i - 5) [a0, a1, a2, a3, a4]) c).andThen kRun := e_run rfl
theorem e_run6 {m : MS} {a0 a1 a2 a3 a4 a5 : D} : runD i 6 m [a0, a1, a2, a3, a4, a5] c = (m (env0 (i - 6) [a0, a1, a2, a3, a4, a5]) c).andThen kRun := e_run rfl
theorem e_run7 {m : MS} {a0 a1 a2 a3 a4 a5 a6 : D} : runD i 7 m [a0, a1, a2, a3, a4, a5, a6] c = (m (env0 (i - 7) [a0, a1, a2, a3, a4, a5, a6]) c).andThen kRun := e_run rfl
theorem e_run8 {m : MS} {a0 a1 a2 a3 a4 a5 a6 a7 : D} : runD i 8 m [a0, a1, a2, a3, a4, a5, a6, a7] c = (m (env0 (i - 8) [a0, a1, a2, a3, a4, a5, a6, a7]) c).andThen kRun := e_run rfl
theorem k_runR : kRun (.ret d) c = .ok d c := rfl
theorem k_runN : kRun (.nx ρ) c = .ok .non c := rfl
/-! comprehensions -/
def kLc (vs : List Nat) (g : MG) (t : MB) (m : ME) (ρ : Env) : List D → M D := fun ds => if ds.length ≤ 1000000 then do
    let r ← lcL g t m (wipeE ρ vs) ds
    pure (.lst r)
  else M.stuck
def kLst' : List D → M D := fun r => pure (.lst r)
theorem k_lst' : kLst' xs c = .ok (.lst xs) c := rfl
theorem e_lc {vs : List Nat} {mi : MA} : mLc vs mi g t e ρ c = (mi ρ c).andThen (kLc vs g t e ρ) := rfl
theorem k_lc {vs : List Nat} (h : ds.length ≤ 1000000) : kLc vs g t e ρ ds c = (lcL g t e (wipeE ρ vs) ds c).andThen kLst' := by
  unfold kLc; rw [if_pos h]; rfl
def kL1 (g : MG) (t : MB) (e : ME) (ρ ρ1 : Env) (ds : List D) : Bool → M (List D) := fun k => if k then do
      let y ← e ρ1
      let r ← lcL g t e ρ ds
      pure (y :: r)
    else lcL g t e ρ ds
def kL2 (g : MG) (t : MB) (e : ME) (ρ : Env) (ds : List D) : D → M (List D) := fun y => do
      let r ← lcL g t e ρ ds
      pure (y :: r)
def optL (o : Option Env) (k : Env → Res (List D)) : Res (List D) := match o with
  | some ρ => k ρ
  | none => .stuck
theorem l_nil : lcL g t e ρ [] c = .ok [] c := rfl
theorem l_cons : lcL g t e ρ (d :: ds) c = optL (g d ρ) (fun ρ1 => (t ρ1 c).andThen (kL1 g t e ρ ρ1 ds)) := by
  show (optM (g d ρ) >>= _ : M _) c = _
  cases g d ρ <;> rfl
theorem l_c1 : lcL g t e ρ [d] c = optL (g d ρ) (fun ρ1 => (t ρ1 c).andThen (kL1 g t e ρ ρ1 [])) := l_cons
theorem l_c2 : lcL g t e ρ [d, d1] c = optL (g d ρ) (fun ρ1 => (t ρ1 c).andThen (kL1 g t e ρ ρ1 [d1])) := l_cons
theorem l_c3 : lcL g t e ρ [d, d1, d2] c = optL (g d ρ) (fun ρ1 => (t ρ1 c).andThen (kL1 g t e ρ ρ1 [d1, d2])) := l_cons
theorem optL_some {k : Env → Res (List D)} : optL (some ρ) k = k ρ := rfl
theorem k_l1T {ρ1 : Env} : kL1 g t e ρ ρ1 ds true c = (e ρ1 c).andThen (kL2 g t e ρ ds) := rfl
theorem k_l1F {ρ1 : Env} : kL1 g t e ρ ρ1 ds false c = lcL g t e ρ ds c := rfl
theorem k_l2 : kL2 g t e ρ ds y c = (lcL g t e ρ ds c).andThen (kC2 y) := rfl
theorem e_yes : mYes ρ c = .ok true c := rfl
theorem w_nil : wipeE ρ [] = ρ := rfl
theorem w_cons {v : Nat} {vs : List Nat} : wipeE ρ (v :: vs) = (wipeE ρ vs).set v none := rfl
theorem e_iseq : miSeq e ρ c = (e ρ c).andThen seqD := rfl
theorem seqD_tup : seqD (.tup xs) c = .ok xs c := rfl
theorem seqD_lst : seqD (.lst xs) c = .ok xs c := rfl
/-! for -/
def kFor (g : MG) (b : MS) (ρ : Env) : List D → M Fl := fun ds => forL g b ds ρ
theorem e_for {mi : MA} : mFor mi g m ρ c = (mi ρ c).andThen (kFor g m ρ) := rfl
theorem k_for : kFor g m ρ ds c = forL g m ds ρ c := rfl
def kF1 (g : MG) (b : MS) (ds : List D) : Fl → M Fl := fun f => match f with
    | .nx ρ' => forL g b ds ρ'
    | .ct ρ' => forL g b ds ρ'
    | .bk ρ' => pure (.nx ρ')
    | .ret d => pure (.ret d)
def optF (o : Option Env) (k : Env → Res Fl) : Res Fl := match o with
  | some ρ => k ρ
  | none => .stuck
theorem f_nil : forL g m [] ρ c = .ok (.nx ρ) c := rfl
theorem f_cons : forL g m (d :: ds) ρ c = optF (g d ρ) (fun ρ1 => (m ρ1 c).andThen (kF1 g m ds)) := by
  show (optM (g d ρ) >>= _ : M _) c = _
  cases g d ρ <;> rfl
theorem optF_some {k : Env → Res Fl} : optF (some ρ) k = k ρ := rfl
theorem k_f1N : kF1 g m ds (.nx ρ) c = forL g m ds ρ c := rfl
theorem k_f1C : kF1 g m ds (.ct ρ) c = forL g m ds ρ c := rfl
theorem k_f1B : kF1 g m ds (.bk ρ) c = .ok (.nx ρ) c := rfl
theorem k_f1R : kF1 g m ds (.ret d) c = .ok (.ret d) c := rfl
/-! builtins -/
theorem len_tup : lenF [.tup xs] c = .ok (.int xs.length) c := rfl
theorem len_lst : lenF [.lst xs] c = .ok (.int xs.length) c := rfl
theorem len_scr : lenF [.scr xs] c = .ok (.int xs.length) c := rfl
theorem abs_i {a : Int} : absF [.int a] c = .ok (.int (if a < 0 then -a else a)) c := rfl
theorem int_i {a : Int} : intF [.int a] c = .ok (.int a) c := rfl
theorem int_b : intF [.bl b] c = .ok (.int (if b then 1 else 0)) c := rfl
theorem list_l : listF [.lst xs] c = .ok (.lst xs) c := rfl
theorem list_t : listF [.tup xs] c = .ok (.lst xs) c := rfl
theorem list_s : listF [.scr xs] c = .ok (.lst xs) c := rfl
theorem tup_l : tupleF [.lst xs] c = .ok (.tup xs) c := rfl
theorem tup_t : tupleF [.tup xs] c = .ok (.tup xs) c := rfl
theorem max2 {a b : Int} : maxF [.int a, .int b] c = .ok (.int (if b > a then b else a)) c := rfl
theorem min2 {a b : Int} : minF [.int a, .int b] c = .ok (.int (if b < a then b else a)) c := rfl
def okS (o : Option (List Int)) (k : List Int → D) (c : Cup) : Res D := match o with
  | some l => .ok (k l) c
  | none => .stuck
theorem sum_l : sumF [.lst xs] c = okS (D.ints xs) (fun l => .int l.sum) c := by
  show (match D.ints xs with | some ns => pure (.int ns.sum) | none => M.stuck : M D) c = _
  cases D.ints xs <;> rfl
theorem sum_t : sumF [.tup xs] c = okS (D.ints xs) (fun l => .int l.sum) c := by
  show (match D.ints xs with | some ns => pure (.int ns.sum) | none => M.stuck : M D) c = _
  cases D.ints xs <;> rfl
theorem okS_some {l : List Int} {k : List Int → D} : okS (some l) k c = .ok (k l) c := rfl
theorem ints_nil : D.ints [] = some [] := rfl
theorem ints_cons {a : Int} : D.ints (.int a :: xs) = (D.ints xs).map (a :: ·) := by
  show (match D.ints xs with | some r => some (a :: r) | none => none) = _
  cases D.ints xs <;> rfl
theorem bls_nil : D.bls [] = some [] := rfl
theorem bls_cons : D.bls (.bl b :: xs) = (D.bls xs).map (b :: ·) := by
  show (match D.bls xs with | some r => some (b :: r) | none => none) = _
  cases D.bls xs <;> rfl
def okB (o : Option (List Bool)) (k : List Bool → D) (c : Cup) : Res D := match o with
  | some l => .ok (k l) c
  | none => .stuck
theorem okB_some {l : List Bool} {k : List Bool → D} : okB (some l) k c = .ok (k l) c := rfl
theorem all_l : allF [.lst xs] c = okB (D.bls xs) (fun l => .bl (l.all _root_.id)) c := by
  show (match D.bls xs with | some ns => pure (.bl (ns.all _root_.id)) | none => M.stuck : M D) c = _
  cases D.bls xs <;> rfl
theorem any_l : anyF [.lst xs] c = okB (D.bls xs) (fun l => .bl (l.any _root_.id)) c := by
  show (match D.bls xs with | some ns => pure (.bl (ns.any _root_.id)) | none => M.stuck : M D) c = _
  cases D.bls xs <;> rfl
/-! operators -/
theorem lt_ii {a b : Int} : ltD (.int a) (.int b) c = .ok (.bl (decide (a < b))) c := rfl
theorem le_ii {a b : Int} : leD (.int a) (.int b) c = .ok (.bl (decide (a ≤ b))) c := rfl
theorem gt_ii {a b : Int} : gtD (.int a) (.int b) c = .ok (.bl (decide (b < a))) c := rfl
theorem ge_ii {a b : Int} : geD (.int a) (.int b) c = .ok (.bl (decide (b ≤ a))) c := rfl
theorem isN_non : isN .non .non c = .ok (.bl true) c := rfl
theorem isN_int {a : Int} : isN (.int a) .non c = .ok (.bl false) c := rfl
theorem isN_bl : isN (.bl b) .non c = .ok (.bl false) c := rfl
theorem isN_str {s : Str} : isN (.str s) .non c = .ok (.bl false) c := rfl
theorem isN_tup : isN (.tup xs) .non c = .ok (.bl false) c := rfl
theorem isN_lst : isN (.lst xs) .non c = .ok (.bl false) c := rfl
theorem notN_non : notN .non .non c = .ok (.bl false) c := rfl
theorem notN_int {a : Int} : notN (.int a) .non c = .ok (.bl true) c := rfl
theorem notN_tup : notN (.tup xs) .non c = .ok (.bl true) c := rfl
theorem notN_lst : notN (.lst xs) .non c = .ok (.bl true) c := rfl
theorem add_ii' {a b : Int} : addD (.int a) (.int b) c = .ok (.int (a + b)) c := rfl
theorem sub_ii' {a b : Int} : subD (.int a) (.int b) c = .ok (.int (a - b)) c := rfl
theorem add_tt' (h : xs.length + ys.length ≤ 1000000) : addD (.tup xs) (.tup ys) c = .ok (.tup (xs ++ ys)) c := add_tt h c
theorem add_ll' (h : xs.length + ys.length ≤ 1000000) : addD (.lst xs) (.lst ys) c = .ok (.lst (xs ++ ys)) c := add_ll h c
/-- a product with a factor below 2^64 -/
theorem mul_sm {a b : Int} (h : (-18446744073709551616 < a ∧ a < 18446744073709551616) ∨ (-18446744073709551616 < b ∧ b < 18446744073709551616)) : mulD (.int a) (.int b) c = .ok (.int (a * b)) c := by
  show (if mulOk a b = true then _ else _ : M D) c = _
  rw [if_pos]; · rfl
  unfold mulOk
  simp only [Bool.or_eq_true, decide_eq_true_eq]
  omega
theorem fdiv_sm {a b : Int} (h : 0 < b ∧ b < 18446744073709551616) : fdivD (.int a) (.int b) c = .ok (.int (a / b)) c := fdiv_ii h.1 (by
  have e : (18446744073709551616 : Nat) ≤ 10 ^ 1000 := by decide +kernel
  omega) c
/-- a product of two factors below 10^100 -/
theorem mul_bg {a b : Int} (h : (-10000000000000000000000000000000000000000000000000000000000000000000000000000000000000000000000000000 < a ∧ a < 10000000000000000000000000000000000000000000000000000000000000000000000000000000000000000000000000000) ∧ (-10000000000000000000000000000000000000000000000000000000000000000000000000000000000000000000000000000 < b ∧ b < 10000000000000000000000000000000000000000000000000000000000000000000000000000000000000000000000000000)) : mulD (.int a) (.int b) c = .ok (.int (a * b)) c := by
  have e : (10000000000000000000000000000000000000000000000000000000000000000000000000000000000000000000000000000 : Nat) ≤ 10 ^ 1000 := by decide +kernel
  exact mul_ii (by omega) (by omega) c
theorem fdiv_bg {a b : Int} (h : 0 < b ∧ b < 10000000000000000000000000000000000000000000000000000000000000000000000000000000000000000000000000000) : fdivD (.int a) (.int b) c = .ok (.int (a / b)) c := fdiv_ii h.1 (by
  have e : (10000000000000000000000000000000000000000000000000000000000000000000000000000000000000000000000000000 : Nat) ≤ 10 ^ 1000 := by decide +kernel
  omega) c
theorem mod_sm {a b : Int} (h : 0 < b) : modD (.int a) (.int b) c = .ok (.int (a % b)) c := mod_ii h c
theorem pow_sm {a b : Int} (h : 0 ≤ b ∧ b ≤ 1000 ∧ -18446744073709551616 < a ∧ a < 18446744073709551616) : powD (.int a) (.int b) c = .ok (.int (a ^ b.toNat)) c := by
  have e : (18446744073709551616 : Nat) ≤ 10 ^ 1000 := by decide +kernel
  have := pow_ii (i := a) (k := b.toNat) (by omega) (by omega) c
  rwa [Int.toNat_of_nonneg h.1] at this
theorem eq_ii' {a b : Int} : eqD (.int a) (.int b) c = .ok (.bl (decide (a = b))) c := eq_ii a b c
theorem ne_ii' {a b : Int} : neD (.int a) (.int b) c = .ok (.bl (!decide (a = b))) c := ne_ii a b c
theorem eqv_nil : (D.lst xs).eqv (.lst []) = xs.isEmpty := by
  cases xs <;> simp [D.eqv, D.toPy, D.toPys, PyData.eqv, PyData.eqvAll]
theorem eqv_nilT : (D.tup xs).eqv (.tup []) = xs.isEmpty := by
  cases xs <;> simp [D.eqv, D.toPy, D.toPys, PyData.eqv, PyData.eqvAll]
theorem eq_nil (h : (D.lst xs).shp = true) : eqD (.lst xs) (.lst []) c = .ok (.bl xs.isEmpty) c := by
  show (if (D.lst xs).shp = true ∧ (D.lst []).shp = true then _ else _ : M D) c = _
  rw [if_pos ⟨h, rfl⟩, eqv_nil]; rfl
theorem ne_nil (h : (D.lst xs).shp = true) : neD (.lst xs) (.lst []) c = .ok (.bl (!xs.isEmpty)) c := by
  show (if (D.lst xs).shp = true ∧ (D.lst []).shp = true then _ else _ : M D) c = _
  rw [if_pos ⟨h, rfl⟩, eqv_nil]; rfl
theorem eq_nilT (h : (D.tup xs).shp = true) : eqD (.tup xs) (.tup []) c = .ok (.bl xs.isEmpty) c := by
  show (if (D.tup xs).shp = true ∧ (D.tup []).shp = true then _ else _ : M D) c = _
  rw [if_pos ⟨h, rfl⟩, eqv_nilT]; rfl
theorem eq_gen (h : d.shp = true) (h' : d1.shp = true) : eqD d d1 c = .ok (.bl (d.eqv d1)) c := by
  show (if d.shp = true ∧ d1.shp = true then _ else _ : M D) c = _
  rw [if_pos ⟨h, h'⟩]; rfl
theorem ix_tup {a : Int} : ixD (.tup xs) (.int a) c = (match atI xs a with | some d => .ok d c | none => .stuck) := by
  show (match atI xs a with | some d => pure d | none => M.stuck : M D) c = _
  cases atI xs a <;> rfl
theorem ix_lst {a : Int} : ixD (.lst xs) (.int a) c = (match atI xs a with | some d => .ok d c | none => .stuck) := by
  show (match atI xs a with | some d => pure d | none => M.stuck : M D) c = _
  cases atI xs a <;> rfl
end
theorem natLit (n : Nat) : ((no_index (OfNat.ofNat n) : Nat) : Int) = OfNat.ofNat n := rfl
/-! items -/
theorem at0 {α : Type} {a0 : α} {l : List α} : atI (a0 :: l) 0 = some a0 := by
  have h : ixN (a0 :: l).length 0 = some 0 := by
    unfold ixN; rw [if_pos (by omega), if_pos (by simp only [List.length_cons]; omega)]; rfl
  unfold atI; rw [h]; rfl
theorem at1 {α : Type} {a0 a1 : α} {l : List α} : atI (a0 :: a1 :: l) 1 = some a1 := by
  have h : ixN (a0 :: a1 :: l).length 1 = some 1 := by
    unfold ixN; rw [if_pos (by omega), if_pos (by simp only [List.length_cons]; omega)]; rfl
  unfold atI; rw [h]; rfl
theorem at2 {α : Type} {a0 a1 a2 : α} {l : List α} : atI (a0 :: a1 :: a2 :: l) 2 = some a2 := by
  have h : ixN (a0 :: a1 :: a2 :: l).length 2 = some 2 := by
    unfold ixN; rw [if_pos (by omega), if_pos (by simp only [List.length_cons]; omega)]; rfl
  unfold atI; rw [h]; rfl
theorem at3 {α : Type} {a0 a1 a2 a3 : α} {l : List α} : atI (a0 :: a1 :: a2 :: a3 :: l) 3 = some a3 := by
  have h : ixN (a0 :: a1 :: a2 :: a3 :: l).length 3 = some 3 := by
    unfold ixN; rw [if_pos (by omega), if_pos (by simp only [List.length_cons]; omega)]; rfl
  unfold atI; rw [h]; rfl
theorem at4 {α : Type} {a0 a1 a2 a3 a4 : α} {l : List α} : atI (a0 :: a1 :: a2 :: a3 :: a4 :: l) 4 = some a4 := by
  have h : ixN (a0 :: a1 :: a2 :: a3 :: a4 :: l).length 4 = some 4 := by
    unfold ixN; rw [if_pos (by omega), if_pos (by simp only [List.length_cons]; omega)]; rfl
  unfold atI; rw [h]; rfl
theorem at5 {α : Type} {a0 a1 a2 a3 a4 a5 : α} {l : List α} : atI (a0 :: a1 :: a2 :: a3 :: a4 :: a5 :: l) 5 = some a5 := by
  have h : ixN (a0 :: a1 :: a2 :: a3 :: a4 :: a5 :: l).length 5 = some 5 := by
    unfold ixN; rw [if_pos (by omega), if_pos (by simp only [List.length_cons]; omega)]; rfl
  unfold atI; rw [h]; rfl
theorem atNat {α : Type} {l : List α} {i : Int} (h : 0 ≤ i) (h' : i < l.length) : atI l i = l[i.toNat]? := by
  unfold atI ixN; rw [if_pos h, if_pos h']; rfl
theorem atLast {α : Type} {l : List α} (h : l ≠ []) : atI l (-1) = l.getLast? := by
  have q : 0 < l.length := List.length_pos_iff.mpr h
  unfold atI ixN; rw [if_neg (by decide), if_pos (by omega), List.getLast?_eq_getElem?]
  have : ((-1 : Int) + l.length).toNat = l.length - 1 := by omega
  simp only [this]; rfl
/-! ### cup -/
theorem cup_ix0 {ρ : Env} {i : Nat} {a b : Int} (h : ρ[i]? = some (some .cup)) : mCupIx i 0 ρ (some (a, b)) = .ok (.int a) (some (a, b)) := by
  simp only [mCupIx, h]; rfl
theorem cup_ix1 {ρ : Env} {i : Nat} {a b : Int} (h : ρ[i]? = some (some .cup)) : mCupIx i 1 ρ (some (a, b)) = .ok (.int b) (some (a, b)) := by
  simp only [mCupIx, h]; rfl
end DL
/-! DL: plain data (no cup, no script), and what the common defs of the laws do with it. -/
namespace DL
open L2 PySem
def D.scalB : D → Bool
  | .non => true | .bl _ => true | .int _ => true
  | .str x => PyData.canLay0 (.str x)
  | _ => false
def D.pl : Nat → D → Bool
  | 0, d => d.scalB
  | n + 1, d => match d with
    | .tup xs => decide (xs.length ≤ 10000) && xs.all (D.pl n)
    | .lst xs => decide (xs.length ≤ 10000) && xs.all (D.pl n)
    | d => d.scalB
theorem canAll {xs : List D} (h : ∀ x ∈ xs, x.toPy.canLay0 = true) : PyData.canLayAll0 (D.toPys xs) = true := by
  induction xs with
  | nil => rfl
  | cons a t ih =>
    show (a.toPy.canLay0 && PyData.canLayAll0 (D.toPys t)) = true
    rw [h a List.mem_cons_self, ih fun x hx => h x (List.mem_cons_of_mem _ hx)]; rfl
theorem depAll {xs : List D} {n : Nat} (h : ∀ x ∈ xs, x.toPy.depth ≤ n) : PyData.depthAll (D.toPys xs) ≤ n := by
  induction xs with
  | nil => exact Nat.zero_le _
  | cons a t ih =>
    show max a.toPy.depth (PyData.depthAll (D.toPys t)) ≤ n
    exact Nat.max_le.mpr ⟨h a List.mem_cons_self, ih fun x hx => h x (List.mem_cons_of_mem _ hx)⟩
theorem pl_py : ∀ (n : Nat) (d : D), d.pl n = true → d.toPy.canLay0 = true ∧ d.toPy.depth ≤ n
  | 0, d, h => by
    cases d <;> first | exact ⟨rfl, Nat.le_refl _⟩ | exact ⟨h, Nat.le_refl _⟩ | cases h
  | n + 1, d, h => by
    cases d with
    | non => exact ⟨rfl, Nat.zero_le _⟩
    | bl b => exact ⟨rfl, Nat.zero_le _⟩
    | int b => exact ⟨rfl, Nat.zero_le _⟩
    | str b => exact ⟨h, Nat.zero_le _⟩
    | tup xs =>
      simp only [D.pl, Bool.and_eq_true, List.all_eq_true] at h
      refine ⟨canAll fun x hx => (pl_py n x (h.2 x hx)).1, ?_⟩
      exact Nat.succ_le_succ (depAll fun x hx => (pl_py n x (h.2 x hx)).2)
    | lst xs =>
      simp only [D.pl, Bool.and_eq_true, List.all_eq_true] at h
      refine ⟨canAll fun x hx => (pl_py n x (h.2 x hx)).1, ?_⟩
      exact Nat.succ_le_succ (depAll fun x hx => (pl_py n x (h.2 x hx)).2)
    | cup => cases h
    | own _ => cases h
    | scr _ => cases h
theorem pl_shp {n : Nat} {d : D} (h : d.pl n = true) (hn : n ≤ 64) : d.shp = true := by
  obtain ⟨a, b⟩ := pl_py n d h
  show (d.toPy.canLay0 && decide (d.toPy.depth ≤ 64)) = true
  rw [a, decide_eq_true (Nat.le_trans b hn)]; rfl
theorem pl_scal {n : Nat} {d : D} (h : d.scalB = true) : d.pl n = true := by
  cases n with
  | zero => exact h
  | succ n => cases d <;> first | exact h | cases h
theorem pl_succ : ∀ {n : Nat} {d : D}, d.pl n = true → d.pl (n + 1) = true
  | 0, d, h => pl_scal h
  | n + 1, d, h => by
    cases d <;> first
      | exact h
      | (simp only [D.pl, Bool.and_eq_true, List.all_eq_true] at h ⊢
         exact ⟨h.1, fun x hx => pl_succ (h.2 x hx)⟩)
theorem pl_mono {n k : Nat} {d : D} (h : d.pl n = true) (hk : n ≤ k) : d.pl k = true := by
  obtain ⟨j, rfl⟩ := Nat.exists_eq_add_of_le hk
  clear hk
  induction j with
  | zero => exact h
  | succ j ih => exact pl_succ ih
theorem pl_tup {n : Nat} {xs : List D} : (D.tup xs).pl (n + 1) = true ↔ xs.length ≤ 10000 ∧ ∀ x ∈ xs, x.pl n = true := by
  simp only [D.pl, Bool.and_eq_true, List.all_eq_true, decide_eq_true_eq]
theorem pl_lst {n : Nat} {xs : List D} : (D.lst xs).pl (n + 1) = true ↔ xs.length ≤ 10000 ∧ ∀ x ∈ xs, x.pl n = true := by
  simp only [D.pl, Bool.and_eq_true, List.all_eq_true, decide_eq_true_eq]
theorem shp_lst {n : Nat} {xs : List D} (h : ∀ x ∈ xs, x.pl n = true) (hn : n < 64) : (D.lst xs).shp = true := by
  show ((D.lst xs).toPy.canLay0 && decide ((D.lst xs).toPy.depth ≤ 64)) = true
  have a : (D.lst xs).toPy.canLay0 = true := canAll fun x hx => (pl_py n x (h x hx)).1
  have b : (D.lst xs).toPy.depth ≤ n + 1 := Nat.succ_le_succ (depAll fun x hx => (pl_py n x (h x hx)).2)
  rw [a, decide_eq_true (Nat.le_trans b (by omega))]; rfl
theorem shp_tup {n : Nat} {xs : List D} (h : ∀ x ∈ xs, x.pl n = true) (hn : n < 64) : (D.tup xs).shp = true := shp_lst (xs := xs) h hn
/-- a plain datum is one of six kinds -/
theorem pl_cases {n : Nat} {d : D} (h : d.pl n = true) : d = .non ∨ (∃ b, d = .bl b) ∨ (∃ i, d = .int i) ∨ (∃ s, d = .str s) ∨ (∃ xs, d = .tup xs) ∨ ∃ xs, d = .lst xs := by
  cases n <;> cases d <;> first | (simp; done) | cases h
theorem var_pl {n : Nat} {d : D} {ρ : Env} {c : Cup} (h : d.pl n = true) : mVar 0 (some d :: ρ) c = .ok d c := by
  cases n <;> cases d <;> first | rfl | cases h
theorem isi_pl {n : Nat} {d : D} {p : D → Bool} {c : Cup} (h : d.pl n = true) : kIsi p d c = .ok (.bl (p d)) c := by
  cases n <;> cases d <;> first | rfl | cases h
theorem mem_cut {xs : List D} {lo hi : Option Int} {x : D} (h : x ∈ cutD xs lo hi) : x ∈ xs := List.mem_of_mem_drop (List.mem_of_mem_take h)
theorem len_cut {xs : List D} {lo hi : Option Int} : (cutD xs lo hi).length ≤ xs.length := by
  unfold cutD
  rw [List.length_take, List.length_drop]
  omega
theorem eqv_self {d : D} (h : d.scalB = true) : d.eqv d = true := by
  cases d <;> first | (simp [D.eqv, D.toPy, PyData.eqv]; done) | cases h
theorem pl_int' {n : Nat} {i : Int} : (D.int i).pl n = true := pl_scal rfl
theorem pl_bl' {n : Nat} {i : Bool} : (D.bl i).pl n = true := pl_scal rfl
theorem pl_non' {n : Nat} : D.non.pl n = true := pl_scal rfl
theorem pl1l {xs : List D} : (D.lst xs).pl 1 = (decide (xs.length ≤ 10000) && xs.all (D.pl 0)) := rfl
theorem pl1t {xs : List D} : (D.tup xs).pl 1 = (decide (xs.length ≤ 10000) && xs.all (D.pl 0)) := rfl
theorem pl2l {xs : List D} : (D.lst xs).pl 2 = (decide (xs.length ≤ 10000) && xs.all (D.pl 1)) := rfl
theorem pl2t {xs : List D} : (D.tup xs).pl 2 = (decide (xs.length ≤ 10000) && xs.all (D.pl 1)) := rfl
theorem pl3l {xs : List D} : (D.lst xs).pl 3 = (decide (xs.length ≤ 10000) && xs.all (D.pl 2)) := rfl
theorem pl3t {xs : List D} : (D.tup xs).pl 3 = (decide (xs.length ≤ 10000) && xs.all (D.pl 2)) := rfl
theorem pl4l {xs : List D} : (D.lst xs).pl 4 = (decide (xs.length ≤ 10000) && xs.all (D.pl 3)) := rfl
theorem pl4t {xs : List D} : (D.tup xs).pl 4 = (decide (xs.length ≤ 10000) && xs.all (D.pl 3)) := rfl
theorem pl5l {xs : List D} : (D.lst xs).pl 5 = (decide (xs.length ≤ 10000) && xs.all (D.pl 4)) := rfl
theorem pl5t {xs : List D} : (D.tup xs).pl 5 = (decide (xs.length ≤ 10000) && xs.all (D.pl 4)) := rfl
theorem pl6l {xs : List D} : (D.lst xs).pl 6 = (decide (xs.length ≤ 10000) && xs.all (D.pl 5)) := rfl
theorem pl6t {xs : List D} : (D.tup xs).pl 6 = (decide (xs.length ≤ 10000) && xs.all (D.pl 5)) := rfl
theorem pl7l {xs : List D} : (D.lst xs).pl 7 = (decide (xs.length ≤ 10000) && xs.all (D.pl 6)) := rfl
theorem pl7t {xs : List D} : (D.tup xs).pl 7 = (decide (xs.length ≤ 10000) && xs.all (D.pl 6)) := rfl
theorem pl8l {xs : List D} : (D.lst xs).pl 8 = (decide (xs.length ≤ 10000) && xs.all (D.pl 7)) := rfl
theorem pl8t {xs : List D} : (D.tup xs).pl 8 = (decide (xs.length ≤ 10000) && xs.all (D.pl 7)) := rfl
theorem pl9l {xs : List D} : (D.lst xs).pl 9 = (decide (xs.length ≤ 10000) && xs.all (D.pl 8)) := rfl
theorem pl9t {xs : List D} : (D.tup xs).pl 9 = (decide (xs.length ≤ 10000) && xs.all (D.pl 8)) := rfl
/-! slices -/
section
variable {ρ : Env} {c : Cup} {e : ME} {lo hi : MO} {d : D} {xs : List D} {i : Int} {o p : Option Int}
def kSl1 (lo hi : MO) (ρ : Env) : D → M D := fun x => do
  let i ← lo ρ
  let j ← hi ρ
  sliceD x i j
def kSl2 (x : D) (hi : MO) (ρ : Env) : Option Int → M D := fun i => do
  let j ← hi ρ
  sliceD x i j
theorem e_sl : mSl e lo hi ρ c = (e ρ c).andThen (kSl1 lo hi ρ) := rfl
theorem k_sl1 : kSl1 lo hi ρ d c = (lo ρ c).andThen (kSl2 d hi ρ) := rfl
theorem k_sl2 : kSl2 d hi ρ o c = (hi ρ c).andThen (sliceD d o) := rfl
theorem sl_tup : sliceD (.tup xs) o p c = .ok (.tup (cutD xs o p)) c := rfl
theorem sl_lst : sliceD (.lst xs) o p c = .ok (.lst (cutD xs o p)) c := rfl
theorem e_noPart : mNoPart ρ c = .ok none c := rfl
def kPart : D → M (Option Int) := fun x => match x with
  | .int i => pure (some i)
  | _ => M.stuck
theorem e_part : mPart e ρ c = (e ρ c).andThen kPart := rfl
theorem k_part : kPart (.int i) c = .ok (some i) c := rfl
theorem revA_t : revA (.tup xs) c = .ok (.tup xs.reverse) c := rfl
theorem revA_l : revA (.lst xs) c = .ok (.lst xs.reverse) c := rfl
end
section
variable {ρ : Env} {c : Cup} {is : List Nat} {r : MA} {ds : List D}
def kPar (is : List Nat) (ρ : Env) : List D → M Fl := fun ds => do
  let ρ' ← optM (putAll is ds ρ)
  pure (.nx ρ')
theorem e_par : mPar is r ρ c = (r ρ c).andThen (kPar is ρ) := rfl
theorem k_par : kPar is ρ ds c = optE (putAll is ds ρ) c := by
  unfold kPar optE
  cases putAll is ds ρ <;> rfl
theorem put_nil : putAll [] [] ρ = some ρ := rfl
theorem put_cons {i : Nat} {d : D} : putAll (i :: is) (d :: ds) ρ = putAll is ds (ρ.set i (some d)) := rfl
end
theorem in_ii2 {a b d : Int} {c : Cup} : inD false (.int a) (.tup [.int b, .int d]) c = .ok (.bl (decide (b = a) || decide (d = a))) c := by
  unfold inD
  simp only
  rw [if_pos ⟨rfl, rfl, rfl, rfl⟩]
  show Res.ok (D.bl (((D.int b).eqF (.int a)) || (((D.int d).eqF (.int a)) || false))) c = _
  have e : ∀ x y : Int, (D.int x).eqF (.int y) = decide (x = y) := fun x y => by simp [D.eqF, D.toV, eqV, Bool.beq_eq_decide_eq]
  rw [e, e, Bool.or_false]
theorem zip_tt {xs ys : List D} {c : Cup} : zipF [.tup xs, .tup ys] c = .ok ((xs.zip ys).map fun p => .tup [p.1, p.2]) c := rfl
theorem zip_ll {xs ys : List D} {c : Cup} : zipF [.lst xs, .lst ys] c = .ok ((xs.zip ys).map fun p => .tup [p.1, p.2]) c := rfl
/-! the cup -/
section
variable {ρ : Env} {x y : Int} {m : ME} {i : Nat} {n : Int}
def kCup (i : Nat) (j : Int) (ρ : Env) : D → M Fl := fun d => match d with
  | .int n => fun c => match ρ[i]?, c with
    | some (some .cup), some (x, y) => if j = 0 then .ok (.nx ρ) (some (n, y)) else if j = 1 then .ok (.nx ρ) (some (x, n)) else .stuck
    | _, _ => .stuck
  | _ => M.stuck
theorem e_cupSet {c : Cup} {j : Int} : mCupSet i j m ρ c = (m ρ c).andThen (kCup i j ρ) := rfl
theorem k_cup0 : kCup 0 0 (some .cup :: ρ) (.int n) (some (x, y)) = .ok (.nx (some .cup :: ρ)) (some (n, y)) := rfl
theorem k_cup1 : kCup 0 1 (some .cup :: ρ) (.int n) (some (x, y)) = .ok (.nx (some .cup :: ρ)) (some (x, n)) := rfl
theorem e_ix0 : mCupIx 0 0 (some .cup :: ρ) (some (x, y)) = .ok (.int x) (some (x, y)) := rfl
theorem e_ix1 : mCupIx 0 1 (some .cup :: ρ) (some (x, y)) = .ok (.int y) (some (x, y)) := rfl
end
/-! loops -/
/-- a loop of which each turn goes on -/
theorem forL_inv {g : MG} {b : MS} {I : Env → Cup → Prop} : ∀ {ds : List D} {ρ : Env} {c : Cup}, I ρ c → (∀ d ∈ ds, ∀ ρ c, I ρ c → ∃ ρ1 ρ2 c2, g d ρ = some ρ1 ∧ b ρ1 c = .ok (.nx ρ2) c2 ∧ I ρ2 c2) → ∃ ρ2 c2, forL g b ds ρ c = .ok (.nx ρ2) c2 ∧ I ρ2 c2
  | [], ρ, c, hI, _ => ⟨ρ, c, rfl, hI⟩
  | d :: ds, ρ, c, hI, h => by
    obtain ⟨ρ1, ρ2, c2, h1, h2, h3⟩ := h d List.mem_cons_self ρ c hI
    obtain ⟨ρ3, c3, h4, h5⟩ := forL_inv (ds := ds) h3 fun d' hd => h d' (List.mem_cons_of_mem _ hd)
    refine ⟨ρ3, c3, ?_, h5⟩
    rw [f_cons, h1, optF_some, h2, then_ok, k_f1N]
    exact h4
theorem lc_mem {g : MG} {t : MB} {m : ME} {ρ : Env} {c : Cup} {k : D → Bool} {y : D → D} {ds : List D} (h : ∀ d ∈ ds, ∃ ρ1, g d ρ = some ρ1 ∧ t ρ1 c = .ok (k d) c ∧ (k d = true → m ρ1 c = .ok (y d) c)) : lcL g t m ρ ds c = .ok ((ds.filter k).map y) c := lc_of h
end DL
/-! DL: plain numbers. -/
namespace DL
theorem sq_mono {a b : Int} (h : 0 ≤ a) (h' : a ≤ b) : a * a ≤ b * b := Int.mul_le_mul h' h' h (by omega)
theorem sq_lt {a b : Int} (h : 0 ≤ a) (h' : a < b) : a * a < b * b := by
  have := sq_mono (a := a + 1) (b := b) (by omega) (by omega)
  have e : (a + 1) * (a + 1) = a * a + 2 * a + 1 := by grind
  omega
theorem le_sq {a : Int} (h : 0 < a) : a ≤ a * a := by
  have : 0 ≤ a * (a - 1) := Int.mul_nonneg (by omega) (by omega)
  have e : a * (a - 1) = a * a - a := by grind
  omega
theorem lt_of_sq {a b : Int} (h : 0 ≤ b) (h' : a * a < b * b) : a < b := by
  by_cases q : b ≤ a
  · have := sq_mono h q; omega
  · omega
theorem le_of_sq {a b : Int} (h : 0 ≤ b) (h' : a * a ≤ b * b) : a ≤ b := by
  by_cases q : b < a
  · have := sq_lt h q; omega
  · omega
theorem isq_exN (n : Nat) : ∃ r : Nat, r * r ≤ n ∧ n < (r + 1) * (r + 1) := by
  induction n with
  | zero => exact ⟨0, by decide, by decide⟩
  | succ n ih =>
    obtain ⟨r, h1, h2⟩ := ih
    by_cases h : n + 1 < (r + 1) * (r + 1)
    · exact ⟨r, by omega, h⟩
    · refine ⟨r + 1, by omega, ?_⟩
      have e : (r + 1 + 1) * (r + 1 + 1) = (r + 1) * (r + 1) + 2 * r + 3 := by grind
      omega
theorem isq_ex {s : Int} (h : 0 ≤ s) : ∃ r : Int, 0 ≤ r ∧ r * r ≤ s ∧ s < (r + 1) * (r + 1) := by
  obtain ⟨r, h1, h2⟩ := isq_exN s.toNat
  refine ⟨r, by omega, ?_, ?_⟩
  · have : ((r * r : Nat) : Int) ≤ s := by omega
    simpa using this
  · have : s < (((r + 1) * (r + 1) : Nat) : Int) := by omega
    simpa using this
open Classical in
/-- the root of a square, or of the greatest square below -/
noncomputable def isq (s : Int) : Int := if h : 0 ≤ s then Classical.choose (isq_ex h) else 0
theorem isq_spec {s : Int} (h : 0 ≤ s) : 0 ≤ isq s ∧ isq s * isq s ≤ s ∧ s < (isq s + 1) * (isq s + 1) := by
  unfold isq
  rw [dif_pos h]
  exact Classical.choose_spec (isq_ex h)
theorem isq_eq {s r : Int} (h0 : 0 ≤ r) (h1 : r * r ≤ s) (h2 : s < (r + 1) * (r + 1)) : isq s = r := by
  have hs : 0 ≤ s := by have := Int.mul_nonneg h0 h0; omega
  obtain ⟨a, b, d⟩ := isq_spec hs
  have q1 : isq s < r + 1 := lt_of_sq (by omega) (by omega)
  have q2 : r < isq s + 1 := lt_of_sq (by omega) (by omega)
  omega
theorem isq_sq {r : Int} (h : 0 ≤ r) : isq (r * r) = r := isq_eq h (Int.le_refl _) (by
  have e : (r + 1) * (r + 1) = r * r + 2 * r + 1 := by grind
  omega)
/-- whether a number is a square -/
noncomputable def isSq (s : Int) : Bool := decide (isq s * isq s = s)
theorem isSq_iff {s : Int} : isSq s = true ↔ ∃ r : Int, r * r = s := by
  unfold isSq
  rw [decide_eq_true_eq]
  constructor
  · exact fun h => ⟨_, h⟩
  · rintro ⟨r, rfl⟩
    by_cases h : 0 ≤ r
    · rw [isq_sq h]
    · have e : r * r = (-r) * (-r) := by grind
      rw [e, isq_sq (by omega)]
theorem isSq_not {s r : Int} (h0 : 0 ≤ r) (h1 : r * r < s) (h2 : s < (r + 1) * (r + 1)) : isSq s = false := by
  unfold isSq
  rw [isq_eq h0 (by omega) h2, decide_eq_false_iff_not]
  omega
end DL
/-! DL: numbers sorted; sums. -/
namespace DL
open L2 PySem
def leI (a b : Int) : Bool := decide (a ≤ b)
def srt (ns : List Int) : List Int := ns.mergeSort leI
theorem leS_int (a b : Int) : leS (.int a) (.int b) = leI a b := by
  have h := congrFun (congrFun (PySem.W.dataLe_int (β := Int) fun i => i) a) b
  exact h
theorem srt_perm (ns : List Int) : (srt ns).Perm ns := List.mergeSort_perm ns leI
theorem srt_le (ns : List Int) : (srt ns).Pairwise (fun a b => a ≤ b) := by
  have := List.pairwise_mergeSort (le := leI) (fun a b c h1 h2 => by
    simp only [leI, decide_eq_true_eq] at *; omega) (fun a b => by
    simp only [leI, Bool.or_eq_true, decide_eq_true_eq]; omega) ns
  exact this.imp fun h => by simpa [leI] using h
theorem sortOk_ints (ns : List Int) : sortOk (ns.map D.int) = true := by
  unfold sortOk D.sortable
  simp only [Bool.and_eq_true, Bool.or_eq_true, List.all_eq_true, List.mem_map]
  refine ⟨⟨?_, .inr ?_⟩, ?_⟩
  · rintro x ⟨a, _, rfl⟩ y ⟨b, _, rfl⟩; rfl
  · rintro x ⟨a, _, rfl⟩; rfl
  · rintro x ⟨a, _, rfl⟩; rfl
theorem sort_map (ns : List Int) : (ns.map D.int).mergeSort leS = (srt ns).map D.int :=
  (List.map_mergeSort fun a _ b _ => (leS_int a b).symm).symm
theorem sorted_ints (ns : List Int) (c : Cup) : sortedF [.lst (ns.map D.int)] c = .ok (.lst ((srt ns).map D.int)) c := by
  show (if sortOk (ns.map D.int) = true then _ else _ : M D) c = _
  rw [if_pos (sortOk_ints ns), sort_map]; rfl
theorem sorted_intsT (ns : List Int) (c : Cup) : sortedF [.tup (ns.map D.int)] c = .ok (.lst ((srt ns).map D.int)) c := by
  show (if sortOk (ns.map D.int) = true then _ else _ : M D) c = _
  rw [if_pos (sortOk_ints ns), sort_map]; rfl
theorem sorted3 {a b d : Int} {c : Cup} : sortedF [.lst [.int a, .int b, .int d]] c = .ok (.lst ((srt [a, b, d]).map D.int)) c := sorted_ints [a, b, d] c
theorem sorted2 {a b : Int} {c : Cup} : sortedF [.lst [.int a, .int b]] c = .ok (.lst ((srt [a, b]).map D.int)) c := sorted_ints [a, b] c
theorem sorted4 {a b d e : Int} {c : Cup} : sortedF [.lst [.int a, .int b, .int d, .int e]] c = .ok (.lst ((srt [a, b, d, e]).map D.int)) c := sorted_ints [a, b, d, e] c
theorem perm_sum {xs ys : List Int} (f : Int → Int) (h : xs.Perm ys) : (xs.map f).sum = (ys.map f).sum := by
  induction h with
  | nil => rfl
  | cons a _ ih => simp only [List.map_cons, List.sum_cons, ih]
  | swap a b l => simp only [List.map_cons, List.sum_cons]; omega
  | trans _ _ h1 h2 => rw [h1, h2]
theorem srt_of {xs ys : List Int} (p : ys.Perm xs) (h : ys.Pairwise fun a b => a ≤ b) : srt xs = ys :=
  List.Perm.eq_of_pairwise (fun _ _ _ _ h1 h2 => Int.le_antisymm h1 h2) (srt_le xs) h ((srt_perm xs).trans p.symm)
theorem srt3 (a b d : Int) : ∃ x y z, srt [a, b, d] = [x, y, z] ∧ x ≤ y ∧ y ≤ z ∧ (x = a ∨ x = b ∨ x = d) ∧ (y = a ∨ y = b ∨ y = d) ∧ (z = a ∨ z = b ∨ z = d) ∧ x * x + y * y + z * z = a * a + b * b + d * d ∧ x + y + z = a + b + d ∧ [x, y, z].Perm [a, b, d] := by
  have p := srt_perm [a, b, d]
  have s := srt_le [a, b, d]
  have hl := p.length_eq
  match e : srt [a, b, d], hl with
  | [x, y, z], _ =>
    rw [e] at p s
    have m : ∀ t ∈ [x, y, z], t = a ∨ t = b ∨ t = d := fun t ht => by
      have := p.mem_iff.mp ht
      simpa using this
    have q := perm_sum (fun t => t * t) p
    have q1 := perm_sum (fun t => t) p
    simp only [List.map_cons, List.map_nil, List.sum_cons, List.sum_nil] at q q1
    simp only [List.pairwise_cons] at s
    exact ⟨x, y, z, rfl, s.1 y (by simp), s.2.1 z (by simp), m x (by simp), m y (by simp), m z (by simp), by omega, by omega, p⟩
/-! the cup is made -/
def kNewR (r : MA) : Fl → M (List D) := fun f => match f with
    | .nx ρ => do
      let xs ← r ρ
      if xs.length ≤ 1000 then pure xs else M.stuck
    | _ => M.stuck
def kNew2 : List D → M (List D) := fun xs => if xs.length ≤ 1000 then pure xs else M.stuck
theorem e_new {ds : List D} {i j : Nat} {m : MS} {r : MA} {c : Cup} (h : ds.length = j) : runNew i j m r ds c = (m (env0 (i - j) ds) c).andThen (kNewR r) := by
  unfold runNew
  rw [if_pos h]; rfl
theorem e_new1 {d : D} {i : Nat} {m : MS} {r : MA} {c : Cup} : runNew i 1 m r [d] c = (m (env0 (i - 1) [d]) c).andThen (kNewR r) := e_new rfl
theorem k_newR {r : MA} {ρ : Env} {c : Cup} : kNewR r (.nx ρ) c = (r ρ c).andThen kNew2 := rfl
theorem k_new2 {a b : D} {c : Cup} : kNew2 [a, b] c = .ok [a, b] c := rfl
theorem cup_then {i : Nat} {fm : List D → M (List D)} {r : MA} {n : MS} {ρ : Env} {ds : List D} {a b : Int} (h1 : r ρ none = .ok ds none) (h2 : fm ds none = .ok [.int a, .int b] none) :
    mCupThen i fm r n ρ none = n ((ρ.map forget).set i (some .cup)) (some (a, b)) := by
  have h : (do let ds ← r ρ; fm ds : M (List D)) none = .ok [.int a, .int b] none := by
    show (r ρ none).andThen fm = _
    rw [h1, then_ok, h2]
  unfold mCupThen
  rw [h]
end DL
/-! DL: fractions, in plain numbers. -/
namespace DL
/-- x u + n v = 1 or -1 makes x and n without a common part -/
theorem gcd_of_one {x n u v : Int} (h : x * u + n * v = 1 ∨ x * u + n * v = -1) : Int.gcd x n = 1 := by
  have h1 : (Int.gcd x n : Int) ∣ x := Int.gcd_dvd_left ..
  have h2 : (Int.gcd x n : Int) ∣ n := Int.gcd_dvd_right ..
  have h3 : (Int.gcd x n : Int) ∣ 1 := by
    have := Int.dvd_add (Int.dvd_trans h1 (Int.dvd_mul_right x u)) (Int.dvd_trans h2 (Int.dvd_mul_right n v))
    rcases h with h | h
    · rwa [h] at this
    · rw [h] at this
      exact (Int.dvd_neg).mp this
  have h4 : Int.gcd x n ∣ 1 := by exact_mod_cast h3
  exact Nat.dvd_one.mp h4
theorem dvd_cop {n a m : Int} (h : Int.gcd n a = 1) (hd : n ∣ a * m) : n ∣ m :=
  Int.natAbs_dvd_natAbs.mp (Nat.Coprime.dvd_of_dvd_mul_left (k := n.natAbs) (m := a.natAbs) h (by rw [← Int.natAbs_mul]; exact Int.natAbs_dvd_natAbs.mpr hd))
theorem gcd_emodL (a b : Int) : Int.gcd (a % b) b = Int.gcd a b := by
  have h := Int.gcd_add_mul_left_left b (a % b) (a / b)
  rw [Int.emod_add_mul_ediv] at h
  exact h.symm
/-- a fraction in lowest terms -/
structure Fr (B x n : Int) : Prop where
  n1 : 1 ≤ n
  nB : n < B
  x1 : -B < x
  x2 : x < B
  g : Int.gcd x n = 1
theorem gcd_pos {a b : Int} (h : 0 < b) : 0 < (Int.gcd a b : Int) := by
  have : 0 < Int.gcd a b := Int.gcd_pos_of_ne_zero_right _ (by omega)
  omega
theorem gcd_le {a b : Int} (h : 0 < b) : (Int.gcd a b : Int) ≤ b := Int.le_of_dvd h (Int.gcd_dvd_right ..)
/-- lowest terms -/
theorem low_ex {a b : Int} (h : 0 < b) : ∃ x n g : Int, 0 < g ∧ (Int.gcd a b : Int) = g ∧ a / g = x ∧ b / g = n ∧ a = g * x ∧ b = g * n ∧ 1 ≤ n ∧ Int.gcd x n = 1 := by
  have hg := gcd_pos (a := a) h
  have h1 : (Int.gcd a b : Int) ∣ a := Int.gcd_dvd_left ..
  have h2 : (Int.gcd a b : Int) ∣ b := Int.gcd_dvd_right ..
  have e1 := (Int.mul_ediv_cancel' h1).symm
  have e2 := (Int.mul_ediv_cancel' h2).symm
  refine ⟨a / Int.gcd a b, b / Int.gcd a b, Int.gcd a b, hg, rfl, rfl, rfl, e1, e2, ?_, ?_⟩
  · have := Int.ediv_pos_of_pos_of_dvd h (by omega) h2
    omega
  · have hg' : 0 < Int.gcd a b := by omega
    have := Int.gcd_ediv_gcd_ediv_gcd (i := a) (j := b) hg'
    exact this
theorem mul_le_abs {g x : Int} (h : 0 < g) {B : Int} (h1 : -B < g * x) (h2 : g * x < B) : -B < x ∧ x < B := by
  by_cases hx : 0 ≤ x
  · have := Int.mul_le_mul_of_nonneg_right (a := 1) (b := g) (c := x) (by omega) hx
    omega
  · have := Int.mul_le_mul_of_nonneg_right (a := 1) (b := g) (c := -x) (by omega) (by omega)
    have e : g * -x = -(g * x) := by grind
    omega
theorem low_fr {a b B : Int} (h : 0 < b) (hb : b < B) (h1 : -B < a) (h2 : a < B) : ∃ x n g : Int, 0 < g ∧ (Int.gcd a b : Int) = g ∧ a / g = x ∧ b / g = n ∧ a = g * x ∧ b = g * n ∧ Fr B x n := by
  obtain ⟨x, n, g, h3, h4, h5, h6, h7, h8, h9, h10⟩ := low_ex (a := a) h
  have q1 := mul_le_abs (x := x) (B := B) h3 (by omega) (by omega)
  have q2 := mul_le_abs (x := n) (B := B) h3 (by omega) (by omega)
  exact ⟨x, n, g, h3, h4, h5, h6, h7, h8, h9, q2.2, q1.1, q1.2, h10⟩
/-- fractions that are alike are one -/
theorem frac_eq {a n x m B : Int} (h : Fr B a n) (h' : Fr B x m) (e : a * m = x * n) : a = x ∧ n = m := by
  have d1 : n ∣ m := by
    have : n ∣ a * m := ⟨x, by rw [e]; grind⟩
    exact dvd_cop (by rw [Int.gcd_comm]; exact h.g) this
  have d2 : m ∣ n := by
    have : m ∣ x * n := ⟨a, by rw [← e]; grind⟩
    exact dvd_cop (by rw [Int.gcd_comm]; exact h'.g) this
  have hn := h.n1
  have hm := h'.n1
  have q1 := Int.le_of_dvd (by omega) d1
  have q2 := Int.le_of_dvd (by omega) d2
  have q : n = m := by omega
  subst q
  exact ⟨Int.eq_of_mul_eq_mul_right (by omega) e, rfl⟩
end DL
/-! DL: pairs of numbers sorted; like data are like; ranges. -/
namespace DL
open L2 PySem
mutual
theorem pyEqv_refl : ∀ (d : PyData), d.canLay0 = true → PyData.eqv d d = true
  | .none, _ => by simp [PyData.eqv]
  | .bool _, _ => by simp [PyData.eqv]
  | .int _, _ => by simp [PyData.eqv]
  | .str _, _ => by simp [PyData.eqv]
  | .list xs, h => by rw [PyData.eqv]; exact pyEqvs_refl xs h
  | .tuple xs, h => by rw [PyData.eqv]; exact pyEqvs_refl xs h
  | .dict _, h => by cases h
theorem pyEqvs_refl : ∀ (ds : List PyData), PyData.canLayAll0 ds = true → PyData.eqvAll ds ds = true
  | [], _ => by simp [PyData.eqvAll]
  | d :: ds, h => by
    rw [PyData.canLayAll0, Bool.and_eq_true] at h
    rw [PyData.eqvAll, pyEqv_refl d h.1, pyEqvs_refl ds h.2]; rfl
end
theorem eqv_refl {d : D} (h : d.shp = true) : d.eqv d = true := pyEqv_refl _ (SeqAt.canLay_of_shaped h)
theorem ne_same {d : D} {c : Cup} (h : d.shp = true) : neD d d c = .ok (.bl false) c := by
  show (if d.shp = true ∧ d.shp = true then _ else _ : M D) c = _
  rw [if_pos ⟨h, h⟩, eqv_refl h]; rfl
theorem eq_same {d : D} {c : Cup} (h : d.shp = true) : eqD d d c = .ok (.bl true) c := by
  show (if d.shp = true ∧ d.shp = true then _ else _ : M D) c = _
  rw [if_pos ⟨h, h⟩, eqv_refl h]; rfl
def dp (p : Int × Int) : D := .tup [.int p.1, .int p.2]
def leP (p q : Int × Int) : Bool := decide (p.1 < q.1 ∨ (p.1 = q.1 ∧ p.2 ≤ q.2))
theorem leS_pair (p q : Int × Int) : leS (dp p) (dp q) = leP p q :=
  congrFun (congrFun (PySem.W.dataLe_ii (β := Int × Int) (fun b => b.1) (fun b => b.2)) p) q
def srtP (ps : List (Int × Int)) : List (Int × Int) := ps.mergeSort leP
theorem srtP_perm (ps : List (Int × Int)) : (srtP ps).Perm ps := List.mergeSort_perm ps leP
theorem srtP_le (ps : List (Int × Int)) : (srtP ps).Pairwise (fun a b => leP a b = true) :=
  List.pairwise_mergeSort (le := leP) (fun a b c h1 h2 => by
    simp only [leP, decide_eq_true_eq] at *; omega) (fun a b => by
    simp only [leP, Bool.or_eq_true, decide_eq_true_eq]; omega) ps
theorem srtP_eq {ps qs : List (Int × Int)} (h : ps.Perm qs) : srtP ps = srtP qs :=
  List.Perm.eq_of_pairwise (fun a b _ _ h1 h2 => by
    simp only [leP, decide_eq_true_eq] at h1 h2
    exact Prod.ext (by omega) (by omega)) (srtP_le ps) (srtP_le qs) ((srtP_perm ps).trans (h.trans (srtP_perm qs).symm))
theorem sortOk_pairs (ps : List (Int × Int)) : sortOk (ps.map dp) = true := by
  unfold sortOk D.sortable
  simp only [Bool.and_eq_true, Bool.or_eq_true, List.all_eq_true, List.mem_map]
  refine ⟨⟨?_, .inl ?_⟩, ?_⟩
  · rintro x ⟨a, _, rfl⟩ y ⟨b, _, rfl⟩; rfl
  · rintro x ⟨a, _, rfl⟩; rfl
  · rintro x ⟨a, _, rfl⟩; rfl
theorem sort_mapP (ps : List (Int × Int)) : (ps.map dp).mergeSort leS = (srtP ps).map dp :=
  (List.map_mergeSort fun a _ b _ => (leS_pair a b).symm).symm
theorem sorted_pairsL (ps : List (Int × Int)) (c : Cup) : sortedF [.lst (ps.map dp)] c = .ok (.lst ((srtP ps).map dp)) c := by
  show (if sortOk (ps.map dp) = true then _ else _ : M D) c = _
  rw [if_pos (sortOk_pairs ps), sort_mapP]; rfl
theorem sorted_pairsT (ps : List (Int × Int)) (c : Cup) : sortedF [.tup (ps.map dp)] c = .ok (.lst ((srtP ps).map dp)) c := by
  show (if sortOk (ps.map dp) = true then _ else _ : M D) c = _
  rw [if_pos (sortOk_pairs ps), sort_mapP]; rfl
theorem pairs_pl (ps : List (Int × Int)) : ∀ x ∈ ps.map dp, x.pl 1 = true := fun x h => by
  obtain ⟨p, _, rfl⟩ := List.mem_map.mp h
  rfl
/-! neighbours in a list -/
theorem zip_next {α : Type} {R : α → α → Prop} : ∀ {l : List α}, l.Pairwise R → ∀ p ∈ l.zip (l.drop 1), R p.1 p.2
  | [], _, _, h => by cases h
  | [_], _, _, h => by cases h
  | a :: b :: l, hp, p, h => by
    rw [List.pairwise_cons] at hp
    rcases List.mem_cons.mp h with rfl | h
    · exact hp.1 b List.mem_cons_self
    · exact zip_next hp.2 p h
theorem cut_from1 {xs : List D} : cutD xs (some 1) none = xs.drop 1 := by
  unfold cutD
  have e : HT.sIx xs.length 0 (some 1) = min 1 xs.length := rfl
  have e2 : HT.sIx xs.length xs.length none = xs.length := rfl
  rw [e, e2]
  cases xs with
  | nil => rfl
  | cons a t =>
    have : min 1 (a :: t).length = 1 := by simp
    rw [this]
    exact List.take_of_length_le (by simp)
/-! ranges -/
theorem step_ok {i j c : Int} (h : 0 < c ∧ c < 1073741824) (h1 : 0 ≤ i ∧ i ≤ 1000000000) (h2 : 0 ≤ j ∧ j ≤ 1000000000) : stepOk i j c = true := by
  have hs := size_nonneg (i := i) (j := j) h.1
  have hs2 : Builtin.Range.rangeSize i j c ≤ 1000000001 := by
    unfold Builtin.Range.rangeSize
    rw [if_pos h.1]
    split
    · have := Int.ediv_le_self (a := j - i - 1) c (by omega)
      omega
    · omega
  unfold stepOk Builtin.Range.small
  simp only [Builtin.Range.rangeFitsLong, Bool.and_eq_true, Bool.or_eq_true, decide_eq_true_eq, beq_iff_eq]
  rw [if_pos h.1]
  simp only [Bool.and_eq_true, decide_eq_true_eq]
  omega
/-- how many of l, l + b, .. are not beyond top -/
def sz (l top b : Int) : Nat := (Builtin.Range.rangeSize l (top + 1) b).toNat
theorem sz_iff {l top b : Int} {i : Nat} (hb : 1 ≤ b) : i < sz l top b ↔ l + i * b ≤ top := by
  unfold sz Builtin.Range.rangeSize
  rw [if_pos (by omega)]
  split
  · have e : top + 1 - l - 1 = top - l := by omega
    rw [e]
    have := Int.le_ediv_iff_mul_le (a := i) (b := top - l) (c := b) (by omega)
    have q : 0 ≤ (top - l) / b := Int.ediv_nonneg (by omega) (by omega)
    omega
  · have := Int.mul_nonneg (a := i) (b := b) (by omega) (by omega)
    constructor
    · intro h; exact absurd h (by simp)
    · omega
theorem rng3_ok {l top b : Int} {c : Cup} (h : 0 < b ∧ b < 1073741824) (h1 : 0 ≤ l ∧ l ≤ 1000000000) (h2 : 0 ≤ top ∧ top < 1000000000) : range3F [.int l, .int (top + 1), .int b] c = .ok (rangeC l b (sz l top b)) c := by
  show (if stepOk l (top + 1) b = true then _ else _ : M (List D)) c = _
  rw [if_pos (step_ok h h1 (by omega))]; rfl
theorem rng2_ok {i n : Int} {c : Cup} (h : -1000000000000 ≤ i ∧ i ≤ 1000000000000) (h' : -1000000000000 ≤ n ∧ n ≤ 1000000000000) : range2F [.int i, .int n] c = .ok (rangeL i n) c := by
  show (if _ then _ else _ : M (List D)) c = _
  rw [if_pos (by omega)]; rfl
end DL
namespace LK
open DL
abbrev c_GREAT : D := .int 1000000000000000000000000000000000000000000000000000000000000
abbrev c_MOST : D := .int 1000
/-! _law_cup -/
noncomputable def f_u_law_cup : List D → M (List D) := runNew 2 1 (mAsg (mgName 1) (mCall absF (mCons (mOp ixD (mOp addD (mCall listF (mCons (mVar 0) (mNil))) (mLst (mCons (mC (.int 0)) (mNil)))) (mC (.int 0))) (mNil)))) (mCons (mIf (mB (mOp geD (mVar 1) (mOp powD (mC (.int 10)) (mC (.int 18))))) (mOp fdivD (mVar 1) (mC (.int 73))) (mC (.int 0))) (mCons (mOp addD (mOp modD (mCall intF (mCons (mOp addD (mOp mulD (mVar 1) (mC (.int 283))) (mC (.int 3907))) (mNil))) (mC (.int 2077503167))) (mC (.int 167))) (mNil)))
/-! _law_divisor -/
noncomputable def b_u_law_divisor : MS := mSeq (mPar [0, 1] (mCons (mCall absF (mCons (mVar 0) (mNil))) (mCons (mCall absF (mCons (mVar 1) (mNil))) (mNil)))) (mSeq (mWhile (mB (mOp neD (mVar 1) (mC (.int 0)))) (mPar [0, 1] (mCons (mVar 1) (mCons (mOp modD (mCall intF (mCons (mVar 0) (mNil))) (mVar 1)) (mNil))))) (mRet (mVar 0)))
noncomputable def f_u_law_divisor : List D → M D := runD 2 2 b_u_law_divisor
/-! _law_least -/
noncomputable def b_u_law_least : MS := mSeq (mAsg (mgName 2) (mIf (mB (mOp ltD (mVar 1) (mC (.int 0)))) (mNeg (mC (.int 1))) (mC (.int 1)))) (mSeq (mAsg (mgName 3) (mCall maxF (mCons (mC (.int 1)) (mCons (mCall f_u_law_divisor (mCons (mVar 0) (mCons (mVar 1) (mNil)))) (mNil))))) (mRet (mTup (mCons (mCall intF (mCons (mOp fdivD (mOp mulD (mVar 2) (mVar 0)) (mVar 3)) (mNil))) (mCons (mCall intF (mCons (mOp fdivD (mOp mulD (mVar 2) (mVar 1)) (mVar 3)) (mNil))) (mNil))))))
noncomputable def f_u_law_least : List D → M D := runD 4 2 b_u_law_least
/-! _law_roll -/
noncomputable def b_u_law_roll : MS := mSeq (mIfS (mB (mOp gtD (mCupIx 0 0) (mC (.int 0)))) (mSeq (mAsg (mgName 2) (mOp modD (mCall intF (mCons (mCupIx 0 0) (mNil))) (mVar 1))) (mSeq (mCupSet 0 0 (mOp fdivD (mCupIx 0 0) (mVar 1))) (mRet (mVar 2)))) (mSkip)) (mSeq (mCupSet 0 1 (mOp modD (mCall intF (mCons (mOp addD (mOp mulD (mCupIx 0 1) (mC (.int 31051))) (mC (.int 7993))) (mNil))) (mC (.int 2147483543)))) (mSeq (mAsg (mgName 3) (mOp modD (mCall intF (mCons (mOp mulD (mCupIx 0 1) (mOp addD (mCupIx 0 1) (mC (.int 229)))) (mNil))) (mC (.int 2147483587)))) (mRet (mOp modD (mCall intF (mCons (mOp fdivD (mVar 3) (mC (.int 821))) (mNil))) (mVar 1)))))
noncomputable def f_u_law_roll : List D → M D := runD 4 2 b_u_law_roll
/-! is_tuple_of -/
noncomputable def b_is_tuple_of : MS := mRet (mAndD (isiF D.isTup (mVar 0)) (mChain (mVar 1) (mLink leD (mCall lenF (mCons (mVar 0) (mNil))) (mLast leD (mVar 2)))))
noncomputable def f_is_tuple_of : List D → M D := runD 3 3 b_is_tuple_of
/-! divisor_of -/
noncomputable def b_divisor_of : MS := mSeq (mPar [0, 1] (mCons (mCall absF (mCons (mVar 0) (mNil))) (mCons (mCall absF (mCons (mVar 1) (mNil))) (mNil)))) (mSeq (mWhile (mB (mOp neD (mVar 1) (mC (.int 0)))) (mPar [0, 1] (mCons (mVar 1) (mCons (mOp modD (mVar 0) (mVar 1)) (mNil))))) (mRet (mVar 0)))
noncomputable def f_divisor_of : List D → M D := runD 2 2 b_divisor_of
/-! is_integer -/
noncomputable def b_is_integer : MS := mRet (mAndD (isiF D.isInt (mVar 0)) (mNotD (isiF D.isBool (mVar 0))))
noncomputable def f_is_integer : List D → M D := runD 1 1 b_is_integer
/-! fits_fraction -/
noncomputable def b_fits_fraction : MS := mSeq (mIfS (mOrB (mNotB (mB (mCall f_is_tuple_of (mCons (mVar 0) (mCons (mC (.int 2)) (mCons (mC (.int 2)) (mNil))))))) (mNotB (mB (mCall allF (mCons (mLc [1] (miSeq (mVar 0)) (mgName 1) (mYes) (mAndD (mCall f_is_integer (mCons (mVar 1) (mNil))) (mChain (mNeg (mC c_GREAT)) (mLink ltD (mVar 1) (mLast ltD (mC c_GREAT)))))) (mNil)))))) (mRet (mC (.bl false))) (mSkip)) (mRet (mAndD (mOp geD (mOp ixD (mVar 0) (mC (.int 1))) (mC (.int 1))) (mOp eqD (mCall f_divisor_of (mCons (mOp ixD (mVar 0) (mC (.int 0))) (mCons (mOp ixD (mVar 0) (mC (.int 1))) (mNil)))) (mC (.int 1)))))
noncomputable def f_fits_fraction : List D → M D := runD 2 1 b_fits_fraction
/-! need_fraction -/
noncomputable def b_need_fraction : MS := mIfS (mNotB (mB (mCall f_fits_fraction (mCons (mVar 0) (mNil))))) (mNever) (mSkip)
noncomputable def f_need_fraction : List D → M D := runD 1 1 b_need_fraction
/-! is_whole -/
noncomputable def b_is_whole : MS := mRet (mAndD (mCall f_is_integer (mCons (mVar 0) (mNil))) (mChain (mVar 1) (mLink leD (mVar 0) (mLast leD (mVar 2)))))
noncomputable def f_is_whole : List D → M D := runD 3 3 b_is_whole
/-! need_whole -/
noncomputable def b_need_whole : MS := mIfS (mNotB (mB (mCall f_is_whole (mCons (mVar 0) (mCons (mVar 1) (mCons (mVar 2) (mNil))))))) (mNever) (mSkip)
noncomputable def f_need_whole : List D → M D := runD 3 3 b_need_whole
/-! undone_by -/
noncomputable def b_undone_by : MS := mSeq (mAsg (mgTup 4 (mgsCons (mgName 2) (mgsCons (mgName 3) (mgsCons (mgName 4) (mgsCons (mgName 5) (mgsNil)))))) (mTup (mCons (mOp modD (mVar 0) (mVar 1)) (mCons (mVar 1) (mCons (mC (.int 1)) (mCons (mC (.int 0)) (mNil))))))) (mSeq (mWhile (mB (mOp neD (mVar 3) (mC (.int 0)))) (mAsg (mgTup 4 (mgsCons (mgName 2) (mgsCons (mgName 3) (mgsCons (mgName 4) (mgsCons (mgName 5) (mgsNil)))))) (mTup (mCons (mVar 3) (mCons (mOp modD (mVar 2) (mVar 3)) (mCons (mVar 5) (mCons (mOp subD (mVar 4) (mOp mulD (mOp fdivD (mVar 2) (mVar 3)) (mVar 5))) (mNil)))))))) (mRet (mOp modD (mVar 4) (mVar 1))))
noncomputable def f_undone_by : List D → M D := runD 6 2 b_undone_by
/-! lasts_below -/
noncomputable def b_lasts_below : MS := mSeq (mAsg (mgTup 2 (mgsCons (mgName 1) (mgsCons (mgName 2) (mgsNil)))) (mVar 0)) (mRet (mTup (mCons (mIf (mB (mOp gtD (mVar 2) (mC (.int 1)))) (mCall f_undone_by (mCons (mVar 1) (mCons (mVar 2) (mNil)))) (mC (.int 1))) (mCons (mIf (mB (mOp gtD (mVar 2) (mC (.int 1)))) (mCall f_undone_by (mCons (mNeg (mVar 1)) (mCons (mVar 2) (mNil)))) (mC (.int 1))) (mNil)))))
noncomputable def f_lasts_below : List D → M D := runD 3 1 b_lasts_below
/-! touching_in -/
noncomputable def b_touching_in : MS := mSeq (mAsg (mgTup 2 (mgsCons (mgName 2) (mgsCons (mgName 3) (mgsNil)))) (mVar 0)) (mSeq (mAsg (mgTup 2 (mgsCons (mgName 4) (mgsCons (mgName 5) (mgsNil)))) (mCall f_lasts_below (mCons (mVar 0) (mNil)))) (mSeq (mAsg (mgName 6) (mLc [8] (miCall range3F (mCons (mVar 4) (mCons (mOp addD (mVar 1) (mC (.int 1))) (mCons (mVar 3) (mNil))))) (mgName 8) (mYes) (mTup (mCons (mOp fdivD (mOp subD (mOp mulD (mVar 2) (mVar 8)) (mC (.int 1))) (mVar 3)) (mCons (mVar 8) (mNil)))))) (mSeq (mAsg (mgName 7) (mLc [8] (miCall range3F (mCons (mVar 5) (mCons (mOp addD (mVar 1) (mC (.int 1))) (mCons (mVar 3) (mNil))))) (mgName 8) (mYes) (mTup (mCons (mOp fdivD (mOp addD (mOp mulD (mVar 2) (mVar 8)) (mC (.int 1))) (mVar 3)) (mCons (mVar 8) (mNil)))))) (mRet (mOp addD (mVar 6) (mUn revA (mVar 7)))))))
noncomputable def f_touching_in : List D → M D := runD 9 2 b_touching_in
/-! ford_neighbours -/
noncomputable def b_ford_neighbours : MS := mSeq (mDrop (mCall f_need_fraction (mCons (mVar 0) (mNil)))) (mSeq (mDrop (mCall f_need_whole (mCons (mVar 1) (mCons (mC (.int 1)) (mCons (mC c_MOST) (mNil)))))) (mRet (mCall tupleF (mCons (mCall f_touching_in (mCons (mVar 0) (mCons (mVar 1) (mNil)))) (mNil)))))
noncomputable def f_ford_neighbours : List D → M D := runD 2 2 b_ford_neighbours
/-! _law_sort -/
noncomputable def b_u_law_sort : MS := mSeq (mIfS (mOrB (mB (mOp isN (mVar 0) (mC .non))) (mB (isiF D.isBool (mVar 0)))) (mRet (mIf (mB (mOp isN (mVar 0) (mC .non))) (mC (.int 0)) (mC (.int 1)))) (mSkip)) (mSeq (mIfS (mOrB (mB (isiF D.isInt (mVar 0))) (mB (isiF D.isStr (mVar 0)))) (mRet (mIf (mB (isiF D.isInt (mVar 0))) (mC (.int 2)) (mC (.int 3)))) (mSkip)) (mRet (mIf (mB (isiF D.isTup (mVar 0))) (mC (.int 4)) (mIf (mB (isiF D.isLst (mVar 0))) (mC (.int 5)) (mC (.int 6))))))
noncomputable def f_u_law_sort : List D → M D := runD 1 1 b_u_law_sort
/-! _law_like -/
noncomputable def b_u_law_like (self : List D → M D) : MS := mSeq (mAsg (mgName 2) (mCall f_u_law_sort (mCons (mVar 1) (mNil)))) (mSeq (mIfS (mOrB (mB (mOp neD (mCall f_u_law_sort (mCons (mVar 0) (mNil))) (mVar 2))) (mB (mOp eqD (mVar 2) (mC (.int 6))))) (mRet (mC (.bl false))) (mSkip)) (mSeq (mIfS (mB (mOp (inD false) (mVar 2) (mTup (mCons (mC (.int 4)) (mCons (mC (.int 5)) (mNil)))))) (mRet (mAndD (mOp eqD (mCall lenF (mCons (mVar 0) (mNil))) (mCall lenF (mCons (mVar 1) (mNil)))) (mOp eqD (mLc [3, 4] (miCall zipF (mCons (mVar 0) (mCons (mVar 1) (mNil)))) (mgTup 2 (mgsCons (mgName 3) (mgsCons (mgName 4) (mgsNil)))) (mNotB (mB (mCall self (mCons (mVar 3) (mCons (mVar 4) (mNil)))))) (mC (.int 1))) (mLst (mNil))))) (mSkip)) (mRet (mOp eqD (mVar 0) (mVar 1)))))
noncomputable def F_u_law_like : Nat → List D → M D
  | 0 => noF
  | n + 1 => runD 5 2 (b_u_law_like (F_u_law_like n))
noncomputable def f_u_law_like : List D → M D := F_u_law_like 10
/-! need_fractions -/
noncomputable def b_need_fractions : MS := mSeq (mDrop (mCall f_need_fraction (mCons (mVar 0) (mNil)))) (mDrop (mCall f_need_fraction (mCons (mVar 1) (mNil))))
noncomputable def f_need_fractions : List D → M D := runD 2 2 b_need_fractions
/-! are_touching -/
noncomputable def b_are_touching : MS := mRet (mOp eqD (mCall absF (mCons (mOp subD (mOp mulD (mOp ixD (mVar 0) (mC (.int 0))) (mOp ixD (mVar 1) (mC (.int 1)))) (mOp mulD (mOp ixD (mVar 0) (mC (.int 1))) (mOp ixD (mVar 1) (mC (.int 0))))) (mNil))) (mC (.int 1)))
noncomputable def f_are_touching : List D → M D := runD 2 2 b_are_touching
/-! do_ford_touch -/
noncomputable def b_do_ford_touch : MS := mSeq (mDrop (mCall f_need_fractions (mCons (mVar 0) (mCons (mVar 1) (mNil))))) (mRet (mCall f_are_touching (mCons (mVar 0) (mCons (mVar 1) (mNil)))))
noncomputable def f_do_ford_touch : List D → M D := runD 2 2 b_do_ford_touch
/-! lowest -/
noncomputable def b_lowest : MS := mSeq (mAsg (mgName 2) (mOp mulD (mCall f_divisor_of (mCons (mVar 0) (mCons (mVar 1) (mNil)))) (mIf (mB (mOp gtD (mVar 1) (mC (.int 0)))) (mC (.int 1)) (mNeg (mC (.int 1)))))) (mRet (mTup (mCons (mOp fdivD (mVar 0) (mVar 2)) (mCons (mOp fdivD (mVar 1) (mVar 2)) (mNil)))))
noncomputable def f_lowest : List D → M D := runD 3 2 b_lowest
/-! between_in -/
noncomputable def b_between_in : MS := mRet (mCall f_lowest (mCons (mOp addD (mOp ixD (mVar 0) (mC (.int 0))) (mOp ixD (mVar 1) (mC (.int 0)))) (mCons (mOp addD (mOp ixD (mVar 0) (mC (.int 1))) (mOp ixD (mVar 1) (mC (.int 1)))) (mNil))))
noncomputable def f_between_in : List D → M D := runD 2 2 b_between_in
/-! ford_between -/
noncomputable def b_ford_between : MS := mSeq (mDrop (mCall f_need_fractions (mCons (mVar 0) (mCons (mVar 1) (mNil))))) (mRet (mCall f_between_in (mCons (mVar 0) (mCons (mVar 1) (mNil)))))
noncomputable def f_ford_between : List D → M D := runD 2 2 b_ford_between
/-! ford_parents -/
noncomputable def b_ford_parents : MS := mSeq (mDrop (mCall f_need_fraction (mCons (mVar 0) (mNil)))) (mSeq (mIfS (mB (mOp eqD (mOp ixD (mVar 0) (mC (.int 1))) (mC (.int 1)))) (mNever) (mSkip)) (mSeq (mAsg (mgTup 2 (mgsCons (mgName 1) (mgsCons (mgName 2) (mgsNil)))) (mCall f_lasts_below (mCons (mVar 0) (mNil)))) (mRet (mTup (mCons (mTup (mCons (mOp fdivD (mOp subD (mOp mulD (mOp ixD (mVar 0) (mC (.int 0))) (mVar 1)) (mC (.int 1))) (mOp ixD (mVar 0) (mC (.int 1)))) (mCons (mVar 1) (mNil)))) (mCons (mTup (mCons (mOp fdivD (mOp addD (mOp mulD (mOp ixD (mVar 0) (mC (.int 0))) (mVar 2)) (mC (.int 1))) (mOp ixD (mVar 0) (mC (.int 1)))) (mCons (mVar 2) (mNil)))) (mNil)))))))
noncomputable def f_ford_parents : List D → M D := runD 3 1 b_ford_parents
/-! _law_some -/
noncomputable def b_u_law_some : MS := mRet (mOp ixD (mVar 1) (mCall f_u_law_roll (mCons (mVar 0) (mCons (mCall lenF (mCons (mVar 1) (mNil))) (mNil)))))
noncomputable def f_u_law_some : List D → M D := runD 2 2 b_u_law_some
/-! _law_touch -/
noncomputable def b_u_law_touch : MS := mSeq (mPar [2, 3] (mCons (mOp subD (mOp mulD (mOp ixD (mVar 0) (mC (.int 0))) (mOp ixD (mVar 1) (mC (.int 1)))) (mOp mulD (mOp ixD (mVar 1) (mC (.int 0))) (mOp ixD (mVar 0) (mC (.int 1))))) (mCons (mOp mulD (mOp ixD (mVar 0) (mC (.int 1))) (mOp ixD (mVar 1) (mC (.int 1)))) (mNil)))) (mRet (mAndD (mOp eqD (mOp mulD (mOp mulD (mOp mulD (mVar 2) (mVar 2)) (mVar 3)) (mVar 3)) (mOp mulD (mVar 3) (mVar 3))) (mOp neD (mVar 0) (mVar 1))))
noncomputable def f_u_law_touch : List D → M D := runD 4 2 b_u_law_touch
/-! _law_small_right -/
noncomputable def b_u_law_small_right : MS := mSeq (mAsg (mgName 3) (mLst (mNil))) (mSeq (mFor (miCall range2F (mCons (mC (.int 1)) (mCons (mOp addD (mVar 2) (mC (.int 1))) (mNil)))) (mgName 4) (mSeq (mAsg (mgName 5) (mOp fdivD (mOp mulD (mOp ixD (mVar 1) (mC (.int 0))) (mVar 4)) (mOp ixD (mVar 1) (mC (.int 1))))) (mAsg (mgName 3) (mOp addD (mVar 3) (mLc [8] (miCall range2F (mCons (mOp subD (mVar 5) (mC (.int 1))) (mCons (mOp addD (mVar 5) (mC (.int 3))) (mNil)))) (mgName 8) (mB (mCall f_u_law_touch (mCons (mVar 1) (mCons (mTup (mCons (mVar 8) (mCons (mVar 4) (mNil)))) (mNil))))) (mTup (mCons (mVar 8) (mCons (mVar 4) (mNil))))))))) (mSeq (mAsg (mgName 6) (mCall f_ford_neighbours (mCons (mVar 1) (mCons (mVar 2) (mNil))))) (mSeq (mIfS (mOrB (mB (mOp neD (mCall sortedF (mCons (mVar 6) (mNil))) (mCall sortedF (mCons (mVar 3) (mNil))))) (mB (mOp neD (mLc [9, 10] (miCall zipF (mCons (mVar 6) (mCons (mSl (mVar 6) (mPart (mC (.int 1))) mNoPart) (mNil)))) (mgTup 2 (mgsCons (mgName 9) (mgsCons (mgName 10) (mgsNil)))) (mB (mOp geD (mOp mulD (mOp ixD (mVar 9) (mC (.int 0))) (mOp ixD (mVar 10) (mC (.int 1)))) (mOp mulD (mOp ixD (mVar 10) (mC (.int 0))) (mOp ixD (mVar 9) (mC (.int 1)))))) (mC (.int 1))) (mLst (mNil))))) (mRet (mC (.bl false))) (mSkip)) (mRet (mOp eqD (mLc [7] (miSeq (mVar 6)) (mgName 7) (mOrB (mB (mOp neD (mCall f_u_law_divisor (mCons (mOp ixD (mVar 7) (mC (.int 0))) (mCons (mOp ixD (mVar 7) (mC (.int 1))) (mNil)))) (mC (.int 1)))) (mB (mOp notB (mCall f_do_ford_touch (mCons (mVar 1) (mCons (mVar 7) (mNil)))) (mC (.bl true))))) (mVar 7)) (mLst (mNil)))))))
noncomputable def f_u_law_small_right : List D → M D := runD 11 3 b_u_law_small_right
/-! ford_bends -/
noncomputable def b_ford_bends : MS := mSeq (mDrop (mCall f_need_fractions (mCons (mVar 0) (mCons (mVar 1) (mNil))))) (mSeq (mIfS (mNotB (mB (mCall f_are_touching (mCons (mVar 0) (mCons (mVar 1) (mNil)))))) (mNever) (mSkip)) (mSeq (mAsg (mgName 2) (mTup (mCons (mOp ixD (mVar 0) (mC (.int 1))) (mCons (mOp ixD (mVar 1) (mC (.int 1))) (mCons (mOp addD (mOp ixD (mVar 0) (mC (.int 1))) (mOp ixD (mVar 1) (mC (.int 1)))) (mNil)))))) (mRet (mOp addD (mTup (mCons (mC (.int 0)) (mNil))) (mCall tupleF (mCons (mLc [3] (miSeq (mVar 2)) (mgName 3) (mYes) (mOp mulD (mOp mulD (mC (.int 2)) (mVar 3)) (mVar 3))) (mNil)))))))
noncomputable def f_ford_bends : List D → M D := runD 4 2 b_ford_bends
/-! _law_fraction -/
noncomputable def b_u_law_fraction : MS := mRet (mCall f_u_law_least (mCons (mOp subD (mCall f_u_law_roll (mCons (mVar 0) (mCons (mOp addD (mOp mulD (mC (.int 4)) (mVar 1)) (mC (.int 1))) (mNil)))) (mOp mulD (mC (.int 2)) (mVar 1))) (mCons (mOp addD (mC (.int 1)) (mCall f_u_law_roll (mCons (mVar 0) (mCons (mVar 1) (mNil))))) (mNil))))
noncomputable def f_u_law_fraction : List D → M D := runD 2 2 b_u_law_fraction
/-! _law_parents_right -/
noncomputable def b_u_law_parents_right : MS := mSeq (mIfS (mB (mOp eqD (mOp ixD (mVar 0) (mC (.int 1))) (mC (.int 1)))) (mRet (mC (.bl true))) (mSkip)) (mSeq (mAsg (mgTup 2 (mgsCons (mgName 1) (mgsCons (mgName 2) (mgsNil)))) (mCall f_ford_parents (mCons (mVar 0) (mNil)))) (mSeq (mIfS (mOrB (mNotB (mB (mOp eqD (mOp addD (mOp ixD (mVar 1) (mC (.int 1))) (mOp ixD (mVar 2) (mC (.int 1)))) (mOp ixD (mVar 0) (mC (.int 1)))))) (mOrB (mNotB (mB (mOp eqD (mOp addD (mOp ixD (mVar 1) (mC (.int 0))) (mOp ixD (mVar 2) (mC (.int 0)))) (mOp ixD (mVar 0) (mC (.int 0)))))) (mOrB (mB (mOp ltD (mOp ixD (mVar 1) (mC (.int 1))) (mC (.int 1)))) (mB (mOp ltD (mOp ixD (mVar 2) (mC (.int 1))) (mC (.int 1))))))) (mRet (mC (.bl false))) (mSkip)) (mSeq (mAsg (mgName 3) (mLst (mCons (mCall f_do_ford_touch (mCons (mVar 0) (mCons (mVar 1) (mNil)))) (mCons (mCall f_do_ford_touch (mCons (mVar 0) (mCons (mVar 2) (mNil)))) (mCons (mCall f_do_ford_touch (mCons (mVar 1) (mCons (mVar 2) (mNil)))) (mCons (mCall f_ford_between (mCons (mVar 1) (mCons (mVar 2) (mNil)))) (mNil))))))) (mRet (mAndD (mCall f_u_law_like (mCons (mVar 3) (mCons (mLst (mCons (mC (.bl true)) (mCons (mC (.bl true)) (mCons (mC (.bl true)) (mCons (mVar 0) (mNil)))))) (mNil)))) (mOp ltD (mOp mulD (mOp ixD (mVar 1) (mC (.int 0))) (mOp ixD (mVar 2) (mC (.int 1)))) (mOp mulD (mOp ixD (mVar 2) (mC (.int 0))) (mOp ixD (mVar 1) (mC (.int 1))))))))))
noncomputable def f_u_law_parents_right : List D → M D := runD 4 1 b_u_law_parents_right
/-! is_touching -/
noncomputable def b_is_touching : MS := mRet (mAndD (mOp eqD (mOp mulD (mC (.int 2)) (mCall sumF (mCons (mLc [1] (miSeq (mVar 0)) (mgName 1) (mYes) (mOp mulD (mVar 1) (mVar 1))) (mNil)))) (mOp powD (mCall sumF (mCons (mVar 0) (mNil))) (mC (.int 2)))) (mOp gtD (mCall sumF (mCons (mVar 0) (mNil))) (mC (.int 0))))
noncomputable def f_is_touching : List D → M D := runD 2 1 b_is_touching
/-! fits_row -/
noncomputable def b_fits_row : MS := mSeq (mIfS (mOrB (mNotB (mB (mCall f_is_tuple_of (mCons (mVar 0) (mCons (mC (.int 4)) (mCons (mC (.int 4)) (mNil))))))) (mNotB (mB (mCall allF (mCons (mLc [1] (miSeq (mVar 0)) (mgName 1) (mYes) (mAndD (mCall f_is_integer (mCons (mVar 1) (mNil))) (mChain (mNeg (mC c_GREAT)) (mLink ltD (mVar 1) (mLast ltD (mC c_GREAT)))))) (mNil)))))) (mRet (mC (.bl false))) (mSkip)) (mRet (mCall f_is_touching (mCons (mVar 0) (mNil))))
noncomputable def f_fits_row : List D → M D := runD 2 1 b_fits_row
/-! is_row_of_bends -/
noncomputable def b_is_row_of_bends : MS := mRet (mCall f_fits_row (mCons (mVar 0) (mNil)))
noncomputable def f_is_row_of_bends : List D → M D := runD 1 1 b_is_row_of_bends
/-! _law_right -/
noncomputable def b_u_law_right : MS := mSeq (mAsg (mgName 3) (mCall f_u_law_least (mCons (mOp addD (mOp ixD (mVar 1) (mC (.int 0))) (mOp ixD (mVar 2) (mC (.int 0)))) (mCons (mOp addD (mOp ixD (mVar 1) (mC (.int 1))) (mOp ixD (mVar 2) (mC (.int 1)))) (mNil))))) (mSeq (mAsg (mgName 4) (mCall f_u_law_touch (mCons (mVar 1) (mCons (mVar 2) (mNil))))) (mSeq (mAsg (mgName 5) (mLst (mCons (mCall f_do_ford_touch (mCons (mVar 1) (mCons (mVar 2) (mNil)))) (mCons (mCall f_do_ford_touch (mCons (mVar 2) (mCons (mVar 1) (mNil)))) (mCons (mCall f_ford_between (mCons (mVar 1) (mCons (mVar 2) (mNil)))) (mCons (mCall f_ford_between (mCons (mVar 1) (mCons (mVar 1) (mNil)))) (mNil))))))) (mSeq (mIfS (mNotB (mB (mCall f_u_law_like (mCons (mVar 5) (mCons (mLst (mCons (mVar 4) (mCons (mVar 4) (mCons (mVar 3) (mCons (mVar 1) (mNil)))))) (mNil)))))) (mRet (mC (.bl false))) (mSkip)) (mSeq (mAsg (mgTup 2 (mgsCons (mgName 6) (mgsCons (mgName 7) (mgsNil)))) (mIf (mB (mOp ltD (mOp mulD (mOp ixD (mVar 1) (mC (.int 0))) (mOp ixD (mVar 2) (mC (.int 1)))) (mOp mulD (mOp ixD (mVar 2) (mC (.int 0))) (mOp ixD (mVar 1) (mC (.int 1)))))) (mTup (mCons (mVar 1) (mCons (mVar 2) (mNil)))) (mTup (mCons (mVar 2) (mCons (mVar 1) (mNil)))))) (mSeq (mIfS (mAndB (mB (mOp neD (mVar 1) (mVar 2))) (mNotB (mAndB (mB (mOp ltD (mOp mulD (mOp ixD (mVar 6) (mC (.int 0))) (mOp ixD (mVar 3) (mC (.int 1)))) (mOp mulD (mOp ixD (mVar 3) (mC (.int 0))) (mOp ixD (mVar 6) (mC (.int 1)))))) (mB (mOp ltD (mOp mulD (mOp ixD (mVar 3) (mC (.int 0))) (mOp ixD (mVar 7) (mC (.int 1)))) (mOp mulD (mOp ixD (mVar 7) (mC (.int 0))) (mOp ixD (mVar 3) (mC (.int 1))))))))) (mRet (mC (.bl false))) (mSkip)) (mSeq (mIfS (mB (mVar 4)) (mSeq (mAsg (mgName 8) (mCall f_ford_bends (mCons (mVar 1) (mCons (mVar 2) (mNil))))) (mSeq (mAsg (mgName 9) (mTup (mCons (mC (.int 0)) (mCons (mOp mulD (mOp mulD (mC (.int 2)) (mOp ixD (mVar 1) (mC (.int 1)))) (mOp ixD (mVar 1) (mC (.int 1)))) (mCons (mOp mulD (mOp mulD (mC (.int 2)) (mOp ixD (mVar 2) (mC (.int 1)))) (mOp ixD (mVar 2) (mC (.int 1)))) (mCons (mOp mulD (mOp mulD (mC (.int 2)) (mOp addD (mOp ixD (mVar 1) (mC (.int 1))) (mOp ixD (mVar 2) (mC (.int 1))))) (mOp addD (mOp ixD (mVar 1) (mC (.int 1))) (mOp ixD (mVar 2) (mC (.int 1))))) (mNil))))))) (mIfS (mNotB (mB (mCall f_u_law_like (mCons (mLst (mCons (mVar 8) (mCons (mCall f_is_row_of_bends (mCons (mVar 8) (mNil))) (mCons (mCall f_do_ford_touch (mCons (mVar 1) (mCons (mVar 3) (mNil)))) (mCons (mCall f_do_ford_touch (mCons (mVar 3) (mCons (mVar 2) (mNil)))) (mNil)))))) (mCons (mLst (mCons (mVar 9) (mCons (mC (.bl true)) (mCons (mC (.bl true)) (mCons (mC (.bl true)) (mNil)))))) (mNil)))))) (mRet (mC (.bl false))) (mSkip)))) (mSkip)) (mRet (mC (.bl true)))))))))
noncomputable def f_u_law_right : List D → M D := runD 10 3 b_u_law_right
/-! law -/
noncomputable def b_law : MS := mCupThen 1 f_u_law_cup (mCons (mVar 0) (mNil)) (mSeq (mAsg (mgName 2) (mLst (mCons (mCall f_do_ford_touch (mCons (mTup (mCons (mC (.int 1)) (mCons (mC (.int 2)) (mNil)))) (mCons (mTup (mCons (mC (.int 1)) (mCons (mC (.int 3)) (mNil)))) (mNil)))) (mCons (mCall f_do_ford_touch (mCons (mTup (mCons (mC (.int 1)) (mCons (mC (.int 2)) (mNil)))) (mCons (mTup (mCons (mC (.int 3)) (mCons (mC (.int 4)) (mNil)))) (mNil)))) (mCons (mCall f_do_ford_touch (mCons (mTup (mCons (mC (.int 1)) (mCons (mC (.int 2)) (mNil)))) (mCons (mTup (mCons (mC (.int 1)) (mCons (mC (.int 2)) (mNil)))) (mNil)))) (mCons (mCall f_ford_between (mCons (mTup (mCons (mC (.int 1)) (mCons (mC (.int 2)) (mNil)))) (mCons (mTup (mCons (mC (.int 1)) (mCons (mC (.int 3)) (mNil)))) (mNil)))) (mNil))))))) (mSeq (mAsg (mgName 2) (mOp addD (mVar 2) (mLst (mCons (mCall f_ford_between (mCons (mTup (mCons (mC (.int 1)) (mCons (mC (.int 2)) (mNil)))) (mCons (mTup (mCons (mC (.int 3)) (mCons (mC (.int 4)) (mNil)))) (mNil)))) (mCons (mCall f_ford_bends (mCons (mTup (mCons (mC (.int 1)) (mCons (mC (.int 2)) (mNil)))) (mCons (mTup (mCons (mC (.int 1)) (mCons (mC (.int 3)) (mNil)))) (mNil)))) (mNil)))))) (mSeq (mIfS (mNotB (mB (mCall f_u_law_like (mCons (mVar 2) (mCons (mLst (mCons (mC (.bl true)) (mCons (mC (.bl false)) (mCons (mC (.bl false)) (mCons (mTup (mCons (mC (.int 2)) (mCons (mC (.int 5)) (mNil)))) (mCons (mTup (mCons (mC (.int 2)) (mCons (mC (.int 3)) (mNil)))) (mCons (mTup (mCons (mC (.int 0)) (mCons (mC (.int 8)) (mCons (mC (.int 18)) (mCons (mC (.int 50)) (mNil)))))) (mNil)))))))) (mNil)))))) (mRet (mC (.bl false))) (mSkip)) (mSeq (mAsg (mgName 2) (mLst (mCons (mCall f_ford_parents (mCons (mTup (mCons (mC (.int 2)) (mCons (mC (.int 5)) (mNil)))) (mNil))) (mCons (mCall f_ford_parents (mCons (mTup (mCons (mNeg (mC (.int 1))) (mCons (mC (.int 2)) (mNil)))) (mNil))) (mCons (mCall f_ford_neighbours (mCons (mTup (mCons (mC (.int 1)) (mCons (mC (.int 2)) (mNil)))) (mCons (mC (.int 5)) (mNil)))) (mCons (mCall f_ford_neighbours (mCons (mTup (mCons (mC (.int 0)) (mCons (mC (.int 1)) (mNil)))) (mCons (mC (.int 2)) (mNil)))) (mNil))))))) (mSeq (mAsg (mgName 3) (mLst (mCons (mTup (mCons (mTup (mCons (mC (.int 1)) (mCons (mC (.int 3)) (mNil)))) (mCons (mTup (mCons (mC (.int 1)) (mCons (mC (.int 2)) (mNil)))) (mNil)))) (mCons (mTup (mCons (mTup (mCons (mNeg (mC (.int 1))) (mCons (mC (.int 1)) (mNil)))) (mCons (mTup (mCons (mC (.int 0)) (mCons (mC (.int 1)) (mNil)))) (mNil)))) (mCons (mTup (mCons (mTup (mCons (mC (.int 0)) (mCons (mC (.int 1)) (mNil)))) (mCons (mTup (mCons (mC (.int 1)) (mCons (mC (.int 3)) (mNil)))) (mCons (mTup (mCons (mC (.int 2)) (mCons (mC (.int 5)) (mNil)))) (mCons (mTup (mCons (mC (.int 3)) (mCons (mC (.int 5)) (mNil)))) (mCons (mTup (mCons (mC (.int 2)) (mCons (mC (.int 3)) (mNil)))) (mCons (mTup (mCons (mC (.int 1)) (mCons (mC (.int 1)) (mNil)))) (mNil)))))))) (mCons (mTup (mCons (mTup (mCons (mNeg (mC (.int 1))) (mCons (mC (.int 1)) (mNil)))) (mCons (mTup (mCons (mNeg (mC (.int 1))) (mCons (mC (.int 2)) (mNil)))) (mCons (mTup (mCons (mC (.int 1)) (mCons (mC (.int 2)) (mNil)))) (mCons (mTup (mCons (mC (.int 1)) (mCons (mC (.int 1)) (mNil)))) (mNil)))))) (mNil))))))) (mSeq (mIfS (mNotB (mB (mCall f_u_law_like (mCons (mVar 2) (mCons (mVar 3) (mNil)))))) (mRet (mC (.bl false))) (mSkip)) (mSeq (mFor (miSeq (mTup (mCons (mC (.int 2)) (mCons (mC (.int 5)) (mCons (mC (.int 12)) (mCons (mC (.int 30)) (mNil))))))) (mgName 4) (mSeq (mPar [5, 6] (mCons (mCall f_u_law_fraction (mCons (mVar 1) (mCons (mVar 4) (mNil)))) (mCons (mCall f_u_law_fraction (mCons (mVar 1) (mCons (mVar 4) (mNil)))) (mNil)))) (mSeq (mIfS (mOrB (mNotB (mB (mCall f_u_law_right (mCons (mVar 1) (mCons (mVar 5) (mCons (mVar 6) (mNil))))))) (mOrB (mNotB (mB (mCall f_u_law_small_right (mCons (mVar 1) (mCons (mVar 5) (mCons (mOp addD (mC (.int 1)) (mCall f_u_law_roll (mCons (mVar 1) (mCons (mC (.int 40)) (mNil))))) (mNil))))))) (mNotB (mB (mCall f_u_law_parents_right (mCons (mVar 5) (mNil))))))) (mRet (mC (.bl false))) (mSkip)) (mSeq (mAsg (mgName 7) (mCall f_u_law_some (mCons (mVar 1) (mCons (mOp addD (mCall listF (mCons (mCall f_ford_neighbours (mCons (mVar 5) (mCons (mC (.int 60)) (mNil)))) (mNil))) (mLst (mCons (mVar 6) (mNil)))) (mNil))))) (mIfS (mOrB (mNotB (mB (mCall f_u_law_right (mCons (mVar 1) (mCons (mVar 5) (mCons (mVar 7) (mNil))))))) (mNotB (mB (mCall f_u_law_parents_right (mCons (mVar 7) (mNil)))))) (mRet (mC (.bl false))) (mSkip)))))) (mSeq (mAsg (mgName 8) (mCall f_u_law_least (mCons (mOp subD (mCall f_u_law_roll (mCons (mVar 1) (mCons (mC (.int 2001)) (mNil)))) (mC (.int 1000))) (mCons (mOp addD (mC (.int 61)) (mCall f_u_law_roll (mCons (mVar 1) (mCons (mC (.int 440)) (mNil))))) (mNil))))) (mSeq (mIfS (mNotB (mB (mCall f_u_law_small_right (mCons (mVar 1) (mCons (mVar 8) (mCons (mC (.int 1000)) (mNil))))))) (mRet (mC (.bl false))) (mSkip)) (mSeq (mAsg (mgName 9) (mCall f_u_law_least (mCons (mOp addD (mOp mulD (mCall f_u_law_roll (mCons (mVar 1) (mCons (mOp powD (mC (.int 10)) (mC (.int 18))) (mNil)))) (mOp powD (mC (.int 10)) (mC (.int 41)))) (mCall f_u_law_roll (mCons (mVar 1) (mCons (mOp powD (mC (.int 10)) (mC (.int 18))) (mNil))))) (mCons (mOp addD (mC (.int 1)) (mOp mulD (mCall f_u_law_roll (mCons (mVar 1) (mCons (mOp powD (mC (.int 10)) (mC (.int 18))) (mNil)))) (mOp powD (mC (.int 10)) (mC (.int 40))))) (mNil))))) (mSeq (mIfS (mOrB (mNotB (mB (mCall f_u_law_parents_right (mCons (mVar 9) (mNil))))) (mB (mOp neD (mCall lenF (mCons (mCall f_ford_neighbours (mCons (mTup (mCons (mOp ixD (mVar 9) (mC (.int 0))) (mCons (mC (.int 1)) (mNil)))) (mCons (mC (.int 1000)) (mNil)))) (mNil))) (mC (.int 2000))))) (mRet (mC (.bl false))) (mSkip)) (mSeq (mAsg (mgName 10) (mCall f_u_law_roll (mCons (mVar 1) (mCons (mC (.int 100)) (mNil))))) (mSeq (mAsg (mgName 11) (mCall f_ford_neighbours (mCons (mTup (mCons (mVar 10) (mCons (mC (.int 1)) (mNil)))) (mCons (mC (.int 3)) (mNil))))) (mRet (mCall f_u_law_like (mCons (mVar 11) (mCons (mCall tupleF (mCons (mOp addD (mLc [12] (miSeq (mTup (mCons (mC (.int 1)) (mCons (mC (.int 2)) (mCons (mC (.int 3)) (mNil)))))) (mgName 12) (mYes) (mTup (mCons (mOp subD (mOp mulD (mVar 10) (mVar 12)) (mC (.int 1))) (mCons (mVar 12) (mNil))))) (mLc [12] (miSeq (mTup (mCons (mC (.int 3)) (mCons (mC (.int 2)) (mCons (mC (.int 1)) (mNil)))))) (mgName 12) (mYes) (mTup (mCons (mOp addD (mOp mulD (mVar 10) (mVar 12)) (mC (.int 1))) (mCons (mVar 12) (mNil)))))) (mNil))) (mNil))))))))))))))))))
end LK
namespace LK
open DL
theorem roll_ok {n x y : Int} (h : 0 < n ∧ n < 18446744073709551616) : ∃ r x' y', f_u_law_roll [.cup, .int n] (some (x, y)) = .ok (.int r) (some (x', y')) ∧ 0 ≤ r ∧ r < n := by
  by_cases hx : x > 0
  · simp (disch := first | omega | exact Nat.le_of_ble_eq_true rfl | assumption | (simp only [List.length_append, List.length_cons, List.length_nil, List.length_map] <;> omega) | exact rfl | decide | (simp only [pl_int', pl_bl', pl_non', pl1l, pl1t, pl2l, pl2t, pl3l, pl3t, pl4l, pl4t, pl5l, pl5t, pl6l, pl6t, pl7l, pl7t, pl8l, pl8t, pl9l, pl9t, List.all_cons, List.all_nil, List.length_cons, List.length_nil, Nat.reduceAdd, Nat.reduceLeDiff, decide_true, Bool.and_true, Bool.true_and, Bool.and_self, *]; done) | fail) only [↓e_seq, ↓e_sl, ↓e_part, ↓e_par, ↓e_cupSet, ↓e_ifS, ↓e_ret, ↓e_drop, ↓e_asg, ↓e_B, ↓e_notB, ↓e_andB, ↓e_orB, ↓e_notD, ↓e_andD, ↓e_orD, ↓e_if, ↓e_op, ↓e_cons, ↓e_call, ↓e_icall, ↓e_tup', ↓e_lst, ↓e_neg, ↓e_chain, ↓e_last, ↓e_link, ↓e_un, ↓e_isi', ↓e_lc, ↓e_iseq, ↓e_for, ↓e_run0, ↓e_run1, ↓e_run2, ↓e_run3, ↓e_run4, ↓e_run5, ↓e_run6, ↓e_run7, ↓e_run8, k_sl1, k_sl2, sl_tup, sl_lst, e_noPart, k_part, revA_t, revA_l, k_par, put_nil, put_cons, e_ix0, e_ix1, k_cup0, k_cup1, in_ii2, zip_tt, zip_ll, then_ok, k_seqN, k_seqR, k_seqB, k_seqC, k_ifST, k_ifSF, e_skip, k_ret, e_retN, e_brk, e_cont, k_drop, k_asgName, k_asgTup, optE_some, g_tup, g_name, g_cons, g_nil, Option.bind_some, st0, stS, k_asB, k_notB, k_andBT, k_andBF, k_orBT, k_orBF, k_notD, k_andDT, k_andDF, k_orDT, k_orDF, k_ifT, k_ifF, e_C, k_op1, e_nil, k_c1, k_c2, k_tup, k_lst, k_neg, k_chain, k_link1, k_link2T, k_link2F, k_isi_int, k_isi_bl, k_isi_non, k_isi_str, k_isi_tup, k_isi_lst, D.isInt, D.isBool, D.isStr, D.isTup, D.isLst, k_runR, k_runN, k_lst', k_lc, l_nil, l_cons, optL_some, k_l1T, k_l1F, k_l2, e_yes, w_nil, w_cons, seqD_tup, seqD_lst, k_for, f_nil, f_cons, optF_some, k_f1N, k_f1C, k_f1B, k_f1R, len_tup, len_lst, len_scr, abs_i, int_i, int_b, list_l, list_t, list_s, tup_l, tup_t, max2, min2, sum_l, sum_t, okS_some, ints_nil, ints_cons, bls_nil, bls_cons, okB_some, all_l, any_l, lt_ii, le_ii, gt_ii, ge_ii, isN_non, isN_int, isN_bl, isN_str, isN_tup, isN_lst, notN_non, notN_int, notN_tup, notN_lst, add_ii', sub_ii', add_tt', add_ll', mul_sm, mul_bg, fdiv_sm, fdiv_bg, mod_sm, pow_sm, eq_ii', ne_ii', ix_tup, ix_lst, varS, var0_int, var0_bl, var0_tup, var0_lst, var0_str, var0_non, var0_cup, var0_scr, List.length_cons, List.length_nil, List.map_cons, List.map_nil, List.cons_append, List.nil_append, List.replicate_succ, List.replicate_zero, env0, Option.map_some, Nat.zero_add, Nat.reduceAdd, Nat.reduceSub, Nat.reduceLeDiff, Int.reduceLT, Int.reduceLE, Bool.not_true, Bool.not_false, decide_true, decide_false, natLit, at0, at1, at2, at3, at4, at5, Int.reduceAdd, Int.reduceSub, Int.reduceMul, Int.reducePow, Int.reduceNeg, Int.reduceDiv, Int.reduceMod, Int.reduceToNat, Int.reduceEq, reduceIte, decide_eq_true_eq, List.all_cons, List.all_nil, List.any_cons, List.any_nil, id, Bool.and_true, Bool.true_and, Bool.and_false, Bool.false_and, Bool.or_true, Bool.or_false, Bool.true_or, Bool.false_or, Bool.false_eq_true, f_u_law_roll, b_u_law_roll, e_ix0, e_ix1, ↓e_cupSet, k_cup0, k_cup1, hx]
    exact ⟨_, _, _, rfl, Int.emod_nonneg _ (by omega), Int.emod_lt_of_pos _ h.1⟩
  · simp (disch := first | omega | exact Nat.le_of_ble_eq_true rfl | assumption | (simp only [List.length_append, List.length_cons, List.length_nil, List.length_map] <;> omega) | exact rfl | decide | (simp only [pl_int', pl_bl', pl_non', pl1l, pl1t, pl2l, pl2t, pl3l, pl3t, pl4l, pl4t, pl5l, pl5t, pl6l, pl6t, pl7l, pl7t, pl8l, pl8t, pl9l, pl9t, List.all_cons, List.all_nil, List.length_cons, List.length_nil, Nat.reduceAdd, Nat.reduceLeDiff, decide_true, Bool.and_true, Bool.true_and, Bool.and_self, *]; done) | fail) only [↓e_seq, ↓e_sl, ↓e_part, ↓e_par, ↓e_cupSet, ↓e_ifS, ↓e_ret, ↓e_drop, ↓e_asg, ↓e_B, ↓e_notB, ↓e_andB, ↓e_orB, ↓e_notD, ↓e_andD, ↓e_orD, ↓e_if, ↓e_op, ↓e_cons, ↓e_call, ↓e_icall, ↓e_tup', ↓e_lst, ↓e_neg, ↓e_chain, ↓e_last, ↓e_link, ↓e_un, ↓e_isi', ↓e_lc, ↓e_iseq, ↓e_for, ↓e_run0, ↓e_run1, ↓e_run2, ↓e_run3, ↓e_run4, ↓e_run5, ↓e_run6, ↓e_run7, ↓e_run8, k_sl1, k_sl2, sl_tup, sl_lst, e_noPart, k_part, revA_t, revA_l, k_par, put_nil, put_cons, e_ix0, e_ix1, k_cup0, k_cup1, in_ii2, zip_tt, zip_ll, then_ok, k_seqN, k_seqR, k_seqB, k_seqC, k_ifST, k_ifSF, e_skip, k_ret, e_retN, e_brk, e_cont, k_drop, k_asgName, k_asgTup, optE_some, g_tup, g_name, g_cons, g_nil, Option.bind_some, st0, stS, k_asB, k_notB, k_andBT, k_andBF, k_orBT, k_orBF, k_notD, k_andDT, k_andDF, k_orDT, k_orDF, k_ifT, k_ifF, e_C, k_op1, e_nil, k_c1, k_c2, k_tup, k_lst, k_neg, k_chain, k_link1, k_link2T, k_link2F, k_isi_int, k_isi_bl, k_isi_non, k_isi_str, k_isi_tup, k_isi_lst, D.isInt, D.isBool, D.isStr, D.isTup, D.isLst, k_runR, k_runN, k_lst', k_lc, l_nil, l_cons, optL_some, k_l1T, k_l1F, k_l2, e_yes, w_nil, w_cons, seqD_tup, seqD_lst, k_for, f_nil, f_cons, optF_some, k_f1N, k_f1C, k_f1B, k_f1R, len_tup, len_lst, len_scr, abs_i, int_i, int_b, list_l, list_t, list_s, tup_l, tup_t, max2, min2, sum_l, sum_t, okS_some, ints_nil, ints_cons, bls_nil, bls_cons, okB_some, all_l, any_l, lt_ii, le_ii, gt_ii, ge_ii, isN_non, isN_int, isN_bl, isN_str, isN_tup, isN_lst, notN_non, notN_int, notN_tup, notN_lst, add_ii', sub_ii', add_tt', add_ll', mul_sm, mul_bg, fdiv_sm, fdiv_bg, mod_sm, pow_sm, eq_ii', ne_ii', ix_tup, ix_lst, varS, var0_int, var0_bl, var0_tup, var0_lst, var0_str, var0_non, var0_cup, var0_scr, List.length_cons, List.length_nil, List.map_cons, List.map_nil, List.cons_append, List.nil_append, List.replicate_succ, List.replicate_zero, env0, Option.map_some, Nat.zero_add, Nat.reduceAdd, Nat.reduceSub, Nat.reduceLeDiff, Int.reduceLT, Int.reduceLE, Bool.not_true, Bool.not_false, decide_true, decide_false, natLit, at0, at1, at2, at3, at4, at5, Int.reduceAdd, Int.reduceSub, Int.reduceMul, Int.reducePow, Int.reduceNeg, Int.reduceDiv, Int.reduceMod, Int.reduceToNat, Int.reduceEq, reduceIte, decide_eq_true_eq, List.all_cons, List.all_nil, List.any_cons, List.any_nil, id, Bool.and_true, Bool.true_and, Bool.and_false, Bool.false_and, Bool.or_true, Bool.or_false, Bool.true_or, Bool.false_or, Bool.false_eq_true, f_u_law_roll, b_u_law_roll, e_ix0, e_ix1, ↓e_cupSet, k_cup0, k_cup1, hx]
    exact ⟨_, _, _, rfl, Int.emod_nonneg _ (by omega), Int.emod_lt_of_pos _ h.1⟩
theorem some_ok {xs : List D} {x y : Int} (h : 0 < xs.length ∧ xs.length < 1000000) : ∃ d x' y', f_u_law_some [.cup, .lst xs] (some (x, y)) = .ok d (some (x', y')) ∧ d ∈ xs := by
  obtain ⟨r, x1, y1, h1, h2, h3⟩ := roll_ok (n := xs.length) (x := x) (y := y) (by omega)
  simp (disch := first | omega | exact Nat.le_of_ble_eq_true rfl | assumption | (simp only [List.length_append, List.length_cons, List.length_nil, List.length_map] <;> omega) | exact rfl | decide | (simp only [pl_int', pl_bl', pl_non', pl1l, pl1t, pl2l, pl2t, pl3l, pl3t, pl4l, pl4t, pl5l, pl5t, pl6l, pl6t, pl7l, pl7t, pl8l, pl8t, pl9l, pl9t, List.all_cons, List.all_nil, List.length_cons, List.length_nil, Nat.reduceAdd, Nat.reduceLeDiff, decide_true, Bool.and_true, Bool.true_and, Bool.and_self, *]; done) | fail) only [↓e_seq, ↓e_sl, ↓e_part, ↓e_par, ↓e_cupSet, ↓e_ifS, ↓e_ret, ↓e_drop, ↓e_asg, ↓e_B, ↓e_notB, ↓e_andB, ↓e_orB, ↓e_notD, ↓e_andD, ↓e_orD, ↓e_if, ↓e_op, ↓e_cons, ↓e_call, ↓e_icall, ↓e_tup', ↓e_lst, ↓e_neg, ↓e_chain, ↓e_last, ↓e_link, ↓e_un, ↓e_isi', ↓e_lc, ↓e_iseq, ↓e_for, ↓e_run0, ↓e_run1, ↓e_run2, ↓e_run3, ↓e_run4, ↓e_run5, ↓e_run6, ↓e_run7, ↓e_run8, k_sl1, k_sl2, sl_tup, sl_lst, e_noPart, k_part, revA_t, revA_l, k_par, put_nil, put_cons, e_ix0, e_ix1, k_cup0, k_cup1, in_ii2, zip_tt, zip_ll, then_ok, k_seqN, k_seqR, k_seqB, k_seqC, k_ifST, k_ifSF, e_skip, k_ret, e_retN, e_brk, e_cont, k_drop, k_asgName, k_asgTup, optE_some, g_tup, g_name, g_cons, g_nil, Option.bind_some, st0, stS, k_asB, k_notB, k_andBT, k_andBF, k_orBT, k_orBF, k_notD, k_andDT, k_andDF, k_orDT, k_orDF, k_ifT, k_ifF, e_C, k_op1, e_nil, k_c1, k_c2, k_tup, k_lst, k_neg, k_chain, k_link1, k_link2T, k_link2F, k_isi_int, k_isi_bl, k_isi_non, k_isi_str, k_isi_tup, k_isi_lst, D.isInt, D.isBool, D.isStr, D.isTup, D.isLst, k_runR, k_runN, k_lst', k_lc, l_nil, l_cons, optL_some, k_l1T, k_l1F, k_l2, e_yes, w_nil, w_cons, seqD_tup, seqD_lst, k_for, f_nil, f_cons, optF_some, k_f1N, k_f1C, k_f1B, k_f1R, len_tup, len_lst, len_scr, abs_i, int_i, int_b, list_l, list_t, list_s, tup_l, tup_t, max2, min2, sum_l, sum_t, okS_some, ints_nil, ints_cons, bls_nil, bls_cons, okB_some, all_l, any_l, lt_ii, le_ii, gt_ii, ge_ii, isN_non, isN_int, isN_bl, isN_str, isN_tup, isN_lst, notN_non, notN_int, notN_tup, notN_lst, add_ii', sub_ii', add_tt', add_ll', mul_sm, mul_bg, fdiv_sm, fdiv_bg, mod_sm, pow_sm, eq_ii', ne_ii', ix_tup, ix_lst, varS, var0_int, var0_bl, var0_tup, var0_lst, var0_str, var0_non, var0_cup, var0_scr, List.length_cons, List.length_nil, List.map_cons, List.map_nil, List.cons_append, List.nil_append, List.replicate_succ, List.replicate_zero, env0, Option.map_some, Nat.zero_add, Nat.reduceAdd, Nat.reduceSub, Nat.reduceLeDiff, Int.reduceLT, Int.reduceLE, Bool.not_true, Bool.not_false, decide_true, decide_false, natLit, at0, at1, at2, at3, at4, at5, Int.reduceAdd, Int.reduceSub, Int.reduceMul, Int.reducePow, Int.reduceNeg, Int.reduceDiv, Int.reduceMod, Int.reduceToNat, Int.reduceEq, reduceIte, decide_eq_true_eq, List.all_cons, List.all_nil, List.any_cons, List.any_nil, id, Bool.and_true, Bool.true_and, Bool.and_false, Bool.false_and, Bool.or_true, Bool.or_false, Bool.true_or, Bool.false_or, Bool.false_eq_true, f_u_law_some, b_u_law_some, h1]
  rw [atNat h2 h3]
  have q : r.toNat < xs.length := by omega
  rw [List.getElem?_eq_getElem q]
  exact ⟨_, _, _, rfl, List.getElem_mem q⟩
def sortB : D → Int
  | .non => 0
  | .bl _ => 1
  | .int _ => 2
  | .str _ => 3
  | .tup _ => 4
  | .lst _ => 5
  | _ => 6
theorem sort_ok {n : Nat} {d : D} {c : Cup} (h : d.pl n = true) : f_u_law_sort [d] c = .ok (.int (sortB d)) c := by
  rcases pl_cases h with rfl | ⟨b, rfl⟩ | ⟨b, rfl⟩ | ⟨b, rfl⟩ | ⟨b, rfl⟩ | ⟨b, rfl⟩ <;> simp (disch := first | omega | exact Nat.le_of_ble_eq_true rfl | assumption | (simp only [List.length_append, List.length_cons, List.length_nil, List.length_map] <;> omega) | exact rfl | decide | (simp only [pl_int', pl_bl', pl_non', pl1l, pl1t, pl2l, pl2t, pl3l, pl3t, pl4l, pl4t, pl5l, pl5t, pl6l, pl6t, pl7l, pl7t, pl8l, pl8t, pl9l, pl9t, List.all_cons, List.all_nil, List.length_cons, List.length_nil, Nat.reduceAdd, Nat.reduceLeDiff, decide_true, Bool.and_true, Bool.true_and, Bool.and_self, *]; done) | fail) only [↓e_seq, ↓e_sl, ↓e_part, ↓e_par, ↓e_cupSet, ↓e_ifS, ↓e_ret, ↓e_drop, ↓e_asg, ↓e_B, ↓e_notB, ↓e_andB, ↓e_orB, ↓e_notD, ↓e_andD, ↓e_orD, ↓e_if, ↓e_op, ↓e_cons, ↓e_call, ↓e_icall, ↓e_tup', ↓e_lst, ↓e_neg, ↓e_chain, ↓e_last, ↓e_link, ↓e_un, ↓e_isi', ↓e_lc, ↓e_iseq, ↓e_for, ↓e_run0, ↓e_run1, ↓e_run2, ↓e_run3, ↓e_run4, ↓e_run5, ↓e_run6, ↓e_run7, ↓e_run8, k_sl1, k_sl2, sl_tup, sl_lst, e_noPart, k_part, revA_t, revA_l, k_par, put_nil, put_cons, e_ix0, e_ix1, k_cup0, k_cup1, in_ii2, zip_tt, zip_ll, then_ok, k_seqN, k_seqR, k_seqB, k_seqC, k_ifST, k_ifSF, e_skip, k_ret, e_retN, e_brk, e_cont, k_drop, k_asgName, k_asgTup, optE_some, g_tup, g_name, g_cons, g_nil, Option.bind_some, st0, stS, k_asB, k_notB, k_andBT, k_andBF, k_orBT, k_orBF, k_notD, k_andDT, k_andDF, k_orDT, k_orDF, k_ifT, k_ifF, e_C, k_op1, e_nil, k_c1, k_c2, k_tup, k_lst, k_neg, k_chain, k_link1, k_link2T, k_link2F, k_isi_int, k_isi_bl, k_isi_non, k_isi_str, k_isi_tup, k_isi_lst, D.isInt, D.isBool, D.isStr, D.isTup, D.isLst, k_runR, k_runN, k_lst', k_lc, l_nil, l_cons, optL_some, k_l1T, k_l1F, k_l2, e_yes, w_nil, w_cons, seqD_tup, seqD_lst, k_for, f_nil, f_cons, optF_some, k_f1N, k_f1C, k_f1B, k_f1R, len_tup, len_lst, len_scr, abs_i, int_i, int_b, list_l, list_t, list_s, tup_l, tup_t, max2, min2, sum_l, sum_t, okS_some, ints_nil, ints_cons, bls_nil, bls_cons, okB_some, all_l, any_l, lt_ii, le_ii, gt_ii, ge_ii, isN_non, isN_int, isN_bl, isN_str, isN_tup, isN_lst, notN_non, notN_int, notN_tup, notN_lst, add_ii', sub_ii', add_tt', add_ll', mul_sm, mul_bg, fdiv_sm, fdiv_bg, mod_sm, pow_sm, eq_ii', ne_ii', ix_tup, ix_lst, varS, var0_int, var0_bl, var0_tup, var0_lst, var0_str, var0_non, var0_cup, var0_scr, List.length_cons, List.length_nil, List.map_cons, List.map_nil, List.cons_append, List.nil_append, List.replicate_succ, List.replicate_zero, env0, Option.map_some, Nat.zero_add, Nat.reduceAdd, Nat.reduceSub, Nat.reduceLeDiff, Int.reduceLT, Int.reduceLE, Bool.not_true, Bool.not_false, decide_true, decide_false, natLit, at0, at1, at2, at3, at4, at5, Int.reduceAdd, Int.reduceSub, Int.reduceMul, Int.reducePow, Int.reduceNeg, Int.reduceDiv, Int.reduceMod, Int.reduceToNat, Int.reduceEq, reduceIte, decide_eq_true_eq, List.all_cons, List.all_nil, List.any_cons, List.any_nil, id, Bool.and_true, Bool.true_and, Bool.and_false, Bool.false_and, Bool.or_true, Bool.or_false, Bool.true_or, Bool.false_or, Bool.false_eq_true, f_u_law_sort, b_u_law_sort, sortB]
theorem zip_self {xs : List D} : (xs.zip xs).map (fun p => D.tup [p.1, p.2]) = xs.map fun x => .tup [x, x] := by
  induction xs with
  | nil => rfl
  | cons a t ih => simp only [List.zip_cons_cons, List.map_cons, ih]
theorem like_self : ∀ (k n : Nat) (d : D) (c : Cup), d.pl n = true → n < k → n ≤ 60 → F_u_law_like k [d, d] c = .ok (.bl true) c
  | 0, _, _, _, _, h, _ => absurd h (by omega)
  | k + 1, n, d, c, h, hk, hn => by
    have hs := sort_ok (c := c) h
    have seq : ∀ (s : Int) (xs : List D), xs.length ≤ 10000 → (∀ x ∈ xs, x.pl (n - 1) = true) → 1 ≤ n → lcL (mgTup 2 (mgsCons (mgName 3) (mgsCons (mgName 4) (mgsNil)))) (mNotB (mB (mCall (F_u_law_like k) (mCons (mVar 3) (mCons (mVar 4) (mNil)))))) (mC (.int 1)) [some d, some d, some (.int s), none, none] ((xs.zip xs).map (fun p => D.tup [p.1, p.2])) c = .ok [] c := fun s xs hl hx h1 => by
      rw [zip_self]
      have q := lc_of (g := (mgTup 2 (mgsCons (mgName 3) (mgsCons (mgName 4) (mgsNil))))) (t := (mNotB (mB (mCall (F_u_law_like k) (mCons (mVar 3) (mCons (mVar 4) (mNil))))))) (m := (mC (.int 1))) (ρ := [some d, some d, some (.int s), none, none]) (c := c) (ds := xs.map fun x => .tup [x, x]) (k := fun _ => false) (y := fun d => d) fun y hy => by
        obtain ⟨x, hx1, rfl⟩ := List.mem_map.mp hy
        refine ⟨[some d, some d, some (.int s), some x, some x], rfl, ?_, fun q => by cases q⟩
        simp (disch := first | omega | exact Nat.le_of_ble_eq_true rfl | assumption | (simp only [List.length_append, List.length_cons, List.length_nil, List.length_map] <;> omega) | exact rfl | decide | (simp only [pl_int', pl_bl', pl_non', pl1l, pl1t, pl2l, pl2t, pl3l, pl3t, pl4l, pl4t, pl5l, pl5t, pl6l, pl6t, pl7l, pl7t, pl8l, pl8t, pl9l, pl9t, List.all_cons, List.all_nil, List.length_cons, List.length_nil, Nat.reduceAdd, Nat.reduceLeDiff, decide_true, Bool.and_true, Bool.true_and, Bool.and_self, *]; done) | fail) only [↓e_seq, ↓e_sl, ↓e_part, ↓e_par, ↓e_cupSet, ↓e_ifS, ↓e_ret, ↓e_drop, ↓e_asg, ↓e_B, ↓e_notB, ↓e_andB, ↓e_orB, ↓e_notD, ↓e_andD, ↓e_orD, ↓e_if, ↓e_op, ↓e_cons, ↓e_call, ↓e_icall, ↓e_tup', ↓e_lst, ↓e_neg, ↓e_chain, ↓e_last, ↓e_link, ↓e_un, ↓e_isi', ↓e_lc, ↓e_iseq, ↓e_for, ↓e_run0, ↓e_run1, ↓e_run2, ↓e_run3, ↓e_run4, ↓e_run5, ↓e_run6, ↓e_run7, ↓e_run8, k_sl1, k_sl2, sl_tup, sl_lst, e_noPart, k_part, revA_t, revA_l, k_par, put_nil, put_cons, e_ix0, e_ix1, k_cup0, k_cup1, in_ii2, zip_tt, zip_ll, then_ok, k_seqN, k_seqR, k_seqB, k_seqC, k_ifST, k_ifSF, e_skip, k_ret, e_retN, e_brk, e_cont, k_drop, k_asgName, k_asgTup, optE_some, g_tup, g_name, g_cons, g_nil, Option.bind_some, st0, stS, k_asB, k_notB, k_andBT, k_andBF, k_orBT, k_orBF, k_notD, k_andDT, k_andDF, k_orDT, k_orDF, k_ifT, k_ifF, e_C, k_op1, e_nil, k_c1, k_c2, k_tup, k_lst, k_neg, k_chain, k_link1, k_link2T, k_link2F, k_isi_int, k_isi_bl, k_isi_non, k_isi_str, k_isi_tup, k_isi_lst, D.isInt, D.isBool, D.isStr, D.isTup, D.isLst, k_runR, k_runN, k_lst', k_lc, l_nil, l_cons, optL_some, k_l1T, k_l1F, k_l2, e_yes, w_nil, w_cons, seqD_tup, seqD_lst, k_for, f_nil, f_cons, optF_some, k_f1N, k_f1C, k_f1B, k_f1R, len_tup, len_lst, len_scr, abs_i, int_i, int_b, list_l, list_t, list_s, tup_l, tup_t, max2, min2, sum_l, sum_t, okS_some, ints_nil, ints_cons, bls_nil, bls_cons, okB_some, all_l, any_l, lt_ii, le_ii, gt_ii, ge_ii, isN_non, isN_int, isN_bl, isN_str, isN_tup, isN_lst, notN_non, notN_int, notN_tup, notN_lst, add_ii', sub_ii', add_tt', add_ll', mul_sm, mul_bg, fdiv_sm, fdiv_bg, mod_sm, pow_sm, eq_ii', ne_ii', ix_tup, ix_lst, varS, var0_int, var0_bl, var0_tup, var0_lst, var0_str, var0_non, var0_cup, var0_scr, List.length_cons, List.length_nil, List.map_cons, List.map_nil, List.cons_append, List.nil_append, List.replicate_succ, List.replicate_zero, env0, Option.map_some, Nat.zero_add, Nat.reduceAdd, Nat.reduceSub, Nat.reduceLeDiff, Int.reduceLT, Int.reduceLE, Bool.not_true, Bool.not_false, decide_true, decide_false, natLit, at0, at1, at2, at3, at4, at5, Int.reduceAdd, Int.reduceSub, Int.reduceMul, Int.reducePow, Int.reduceNeg, Int.reduceDiv, Int.reduceMod, Int.reduceToNat, Int.reduceEq, reduceIte, decide_eq_true_eq, List.all_cons, List.all_nil, List.any_cons, List.any_nil, id, Bool.and_true, Bool.true_and, Bool.and_false, Bool.false_and, Bool.or_true, Bool.or_false, Bool.true_or, Bool.false_or, Bool.false_eq_true, var_pl (hx x hx1), like_self k (n - 1) x c (hx x hx1) (by omega) (by omega)]
      rw [q, List.filter_eq_nil_iff.mpr (fun a _ h => by cases h)]; rfl
    have hlen : ∀ xs : List D, xs.length ≤ 10000 → ((xs.zip xs).map (fun p => D.tup [p.1, p.2])).length ≤ 1000000 := fun xs h => by
      rw [List.length_map, List.length_zip]; omega
    have fin : ∀ d : D, d.scalB = true → eqD d d c = .ok (.bl true) c := fun d h => by rw [eq_gen (pl_shp (n := 0) h (by decide)) (pl_shp (n := 0) h (by decide)), eqv_self h]
    have hz : n = 0 ∨ n = (n - 1) + 1 := by omega
    rcases pl_cases h with rfl | ⟨b, rfl⟩ | ⟨b, rfl⟩ | ⟨b, rfl⟩ | ⟨b, rfl⟩ | ⟨b, rfl⟩
    · simp (disch := first | omega | exact Nat.le_of_ble_eq_true rfl | assumption | (simp only [List.length_append, List.length_cons, List.length_nil, List.length_map] <;> omega) | exact rfl | decide | (simp only [pl_int', pl_bl', pl_non', pl1l, pl1t, pl2l, pl2t, pl3l, pl3t, pl4l, pl4t, pl5l, pl5t, pl6l, pl6t, pl7l, pl7t, pl8l, pl8t, pl9l, pl9t, List.all_cons, List.all_nil, List.length_cons, List.length_nil, Nat.reduceAdd, Nat.reduceLeDiff, decide_true, Bool.and_true, Bool.true_and, Bool.and_self, *]; done) | fail) only [↓e_seq, ↓e_sl, ↓e_part, ↓e_par, ↓e_cupSet, ↓e_ifS, ↓e_ret, ↓e_drop, ↓e_asg, ↓e_B, ↓e_notB, ↓e_andB, ↓e_orB, ↓e_notD, ↓e_andD, ↓e_orD, ↓e_if, ↓e_op, ↓e_cons, ↓e_call, ↓e_icall, ↓e_tup', ↓e_lst, ↓e_neg, ↓e_chain, ↓e_last, ↓e_link, ↓e_un, ↓e_isi', ↓e_lc, ↓e_iseq, ↓e_for, ↓e_run0, ↓e_run1, ↓e_run2, ↓e_run3, ↓e_run4, ↓e_run5, ↓e_run6, ↓e_run7, ↓e_run8, k_sl1, k_sl2, sl_tup, sl_lst, e_noPart, k_part, revA_t, revA_l, k_par, put_nil, put_cons, e_ix0, e_ix1, k_cup0, k_cup1, in_ii2, zip_tt, zip_ll, then_ok, k_seqN, k_seqR, k_seqB, k_seqC, k_ifST, k_ifSF, e_skip, k_ret, e_retN, e_brk, e_cont, k_drop, k_asgName, k_asgTup, optE_some, g_tup, g_name, g_cons, g_nil, Option.bind_some, st0, stS, k_asB, k_notB, k_andBT, k_andBF, k_orBT, k_orBF, k_notD, k_andDT, k_andDF, k_orDT, k_orDF, k_ifT, k_ifF, e_C, k_op1, e_nil, k_c1, k_c2, k_tup, k_lst, k_neg, k_chain, k_link1, k_link2T, k_link2F, k_isi_int, k_isi_bl, k_isi_non, k_isi_str, k_isi_tup, k_isi_lst, D.isInt, D.isBool, D.isStr, D.isTup, D.isLst, k_runR, k_runN, k_lst', k_lc, l_nil, l_cons, optL_some, k_l1T, k_l1F, k_l2, e_yes, w_nil, w_cons, seqD_tup, seqD_lst, k_for, f_nil, f_cons, optF_some, k_f1N, k_f1C, k_f1B, k_f1R, len_tup, len_lst, len_scr, abs_i, int_i, int_b, list_l, list_t, list_s, tup_l, tup_t, max2, min2, sum_l, sum_t, okS_some, ints_nil, ints_cons, bls_nil, bls_cons, okB_some, all_l, any_l, lt_ii, le_ii, gt_ii, ge_ii, isN_non, isN_int, isN_bl, isN_str, isN_tup, isN_lst, notN_non, notN_int, notN_tup, notN_lst, add_ii', sub_ii', add_tt', add_ll', mul_sm, mul_bg, fdiv_sm, fdiv_bg, mod_sm, pow_sm, eq_ii', ne_ii', ix_tup, ix_lst, varS, var0_int, var0_bl, var0_tup, var0_lst, var0_str, var0_non, var0_cup, var0_scr, List.length_cons, List.length_nil, List.map_cons, List.map_nil, List.cons_append, List.nil_append, List.replicate_succ, List.replicate_zero, env0, Option.map_some, Nat.zero_add, Nat.reduceAdd, Nat.reduceSub, Nat.reduceLeDiff, Int.reduceLT, Int.reduceLE, Bool.not_true, Bool.not_false, decide_true, decide_false, natLit, at0, at1, at2, at3, at4, at5, Int.reduceAdd, Int.reduceSub, Int.reduceMul, Int.reducePow, Int.reduceNeg, Int.reduceDiv, Int.reduceMod, Int.reduceToNat, Int.reduceEq, reduceIte, decide_eq_true_eq, List.all_cons, List.all_nil, List.any_cons, List.any_nil, id, Bool.and_true, Bool.true_and, Bool.and_false, Bool.false_and, Bool.or_true, Bool.or_false, Bool.true_or, Bool.false_or, Bool.false_eq_true, F_u_law_like, b_u_law_like, hs, sortB, in_ii2, fin .non rfl]
    · simp (disch := first | omega | exact Nat.le_of_ble_eq_true rfl | assumption | (simp only [List.length_append, List.length_cons, List.length_nil, List.length_map] <;> omega) | exact rfl | decide | (simp only [pl_int', pl_bl', pl_non', pl1l, pl1t, pl2l, pl2t, pl3l, pl3t, pl4l, pl4t, pl5l, pl5t, pl6l, pl6t, pl7l, pl7t, pl8l, pl8t, pl9l, pl9t, List.all_cons, List.all_nil, List.length_cons, List.length_nil, Nat.reduceAdd, Nat.reduceLeDiff, decide_true, Bool.and_true, Bool.true_and, Bool.and_self, *]; done) | fail) only [↓e_seq, ↓e_sl, ↓e_part, ↓e_par, ↓e_cupSet, ↓e_ifS, ↓e_ret, ↓e_drop, ↓e_asg, ↓e_B, ↓e_notB, ↓e_andB, ↓e_orB, ↓e_notD, ↓e_andD, ↓e_orD, ↓e_if, ↓e_op, ↓e_cons, ↓e_call, ↓e_icall, ↓e_tup', ↓e_lst, ↓e_neg, ↓e_chain, ↓e_last, ↓e_link, ↓e_un, ↓e_isi', ↓e_lc, ↓e_iseq, ↓e_for, ↓e_run0, ↓e_run1, ↓e_run2, ↓e_run3, ↓e_run4, ↓e_run5, ↓e_run6, ↓e_run7, ↓e_run8, k_sl1, k_sl2, sl_tup, sl_lst, e_noPart, k_part, revA_t, revA_l, k_par, put_nil, put_cons, e_ix0, e_ix1, k_cup0, k_cup1, in_ii2, zip_tt, zip_ll, then_ok, k_seqN, k_seqR, k_seqB, k_seqC, k_ifST, k_ifSF, e_skip, k_ret, e_retN, e_brk, e_cont, k_drop, k_asgName, k_asgTup, optE_some, g_tup, g_name, g_cons, g_nil, Option.bind_some, st0, stS, k_asB, k_notB, k_andBT, k_andBF, k_orBT, k_orBF, k_notD, k_andDT, k_andDF, k_orDT, k_orDF, k_ifT, k_ifF, e_C, k_op1, e_nil, k_c1, k_c2, k_tup, k_lst, k_neg, k_chain, k_link1, k_link2T, k_link2F, k_isi_int, k_isi_bl, k_isi_non, k_isi_str, k_isi_tup, k_isi_lst, D.isInt, D.isBool, D.isStr, D.isTup, D.isLst, k_runR, k_runN, k_lst', k_lc, l_nil, l_cons, optL_some, k_l1T, k_l1F, k_l2, e_yes, w_nil, w_cons, seqD_tup, seqD_lst, k_for, f_nil, f_cons, optF_some, k_f1N, k_f1C, k_f1B, k_f1R, len_tup, len_lst, len_scr, abs_i, int_i, int_b, list_l, list_t, list_s, tup_l, tup_t, max2, min2, sum_l, sum_t, okS_some, ints_nil, ints_cons, bls_nil, bls_cons, okB_some, all_l, any_l, lt_ii, le_ii, gt_ii, ge_ii, isN_non, isN_int, isN_bl, isN_str, isN_tup, isN_lst, notN_non, notN_int, notN_tup, notN_lst, add_ii', sub_ii', add_tt', add_ll', mul_sm, mul_bg, fdiv_sm, fdiv_bg, mod_sm, pow_sm, eq_ii', ne_ii', ix_tup, ix_lst, varS, var0_int, var0_bl, var0_tup, var0_lst, var0_str, var0_non, var0_cup, var0_scr, List.length_cons, List.length_nil, List.map_cons, List.map_nil, List.cons_append, List.nil_append, List.replicate_succ, List.replicate_zero, env0, Option.map_some, Nat.zero_add, Nat.reduceAdd, Nat.reduceSub, Nat.reduceLeDiff, Int.reduceLT, Int.reduceLE, Bool.not_true, Bool.not_false, decide_true, decide_false, natLit, at0, at1, at2, at3, at4, at5, Int.reduceAdd, Int.reduceSub, Int.reduceMul, Int.reducePow, Int.reduceNeg, Int.reduceDiv, Int.reduceMod, Int.reduceToNat, Int.reduceEq, reduceIte, decide_eq_true_eq, List.all_cons, List.all_nil, List.any_cons, List.any_nil, id, Bool.and_true, Bool.true_and, Bool.and_false, Bool.false_and, Bool.or_true, Bool.or_false, Bool.true_or, Bool.false_or, Bool.false_eq_true, F_u_law_like, b_u_law_like, hs, sortB, in_ii2, fin (.bl b) rfl]
    · simp (disch := first | omega | exact Nat.le_of_ble_eq_true rfl | assumption | (simp only [List.length_append, List.length_cons, List.length_nil, List.length_map] <;> omega) | exact rfl | decide | (simp only [pl_int', pl_bl', pl_non', pl1l, pl1t, pl2l, pl2t, pl3l, pl3t, pl4l, pl4t, pl5l, pl5t, pl6l, pl6t, pl7l, pl7t, pl8l, pl8t, pl9l, pl9t, List.all_cons, List.all_nil, List.length_cons, List.length_nil, Nat.reduceAdd, Nat.reduceLeDiff, decide_true, Bool.and_true, Bool.true_and, Bool.and_self, *]; done) | fail) only [↓e_seq, ↓e_sl, ↓e_part, ↓e_par, ↓e_cupSet, ↓e_ifS, ↓e_ret, ↓e_drop, ↓e_asg, ↓e_B, ↓e_notB, ↓e_andB, ↓e_orB, ↓e_notD, ↓e_andD, ↓e_orD, ↓e_if, ↓e_op, ↓e_cons, ↓e_call, ↓e_icall, ↓e_tup', ↓e_lst, ↓e_neg, ↓e_chain, ↓e_last, ↓e_link, ↓e_un, ↓e_isi', ↓e_lc, ↓e_iseq, ↓e_for, ↓e_run0, ↓e_run1, ↓e_run2, ↓e_run3, ↓e_run4, ↓e_run5, ↓e_run6, ↓e_run7, ↓e_run8, k_sl1, k_sl2, sl_tup, sl_lst, e_noPart, k_part, revA_t, revA_l, k_par, put_nil, put_cons, e_ix0, e_ix1, k_cup0, k_cup1, in_ii2, zip_tt, zip_ll, then_ok, k_seqN, k_seqR, k_seqB, k_seqC, k_ifST, k_ifSF, e_skip, k_ret, e_retN, e_brk, e_cont, k_drop, k_asgName, k_asgTup, optE_some, g_tup, g_name, g_cons, g_nil, Option.bind_some, st0, stS, k_asB, k_notB, k_andBT, k_andBF, k_orBT, k_orBF, k_notD, k_andDT, k_andDF, k_orDT, k_orDF, k_ifT, k_ifF, e_C, k_op1, e_nil, k_c1, k_c2, k_tup, k_lst, k_neg, k_chain, k_link1, k_link2T, k_link2F, k_isi_int, k_isi_bl, k_isi_non, k_isi_str, k_isi_tup, k_isi_lst, D.isInt, D.isBool, D.isStr, D.isTup, D.isLst, k_runR, k_runN, k_lst', k_lc, l_nil, l_cons, optL_some, k_l1T, k_l1F, k_l2, e_yes, w_nil, w_cons, seqD_tup, seqD_lst, k_for, f_nil, f_cons, optF_some, k_f1N, k_f1C, k_f1B, k_f1R, len_tup, len_lst, len_scr, abs_i, int_i, int_b, list_l, list_t, list_s, tup_l, tup_t, max2, min2, sum_l, sum_t, okS_some, ints_nil, ints_cons, bls_nil, bls_cons, okB_some, all_l, any_l, lt_ii, le_ii, gt_ii, ge_ii, isN_non, isN_int, isN_bl, isN_str, isN_tup, isN_lst, notN_non, notN_int, notN_tup, notN_lst, add_ii', sub_ii', add_tt', add_ll', mul_sm, mul_bg, fdiv_sm, fdiv_bg, mod_sm, pow_sm, eq_ii', ne_ii', ix_tup, ix_lst, varS, var0_int, var0_bl, var0_tup, var0_lst, var0_str, var0_non, var0_cup, var0_scr, List.length_cons, List.length_nil, List.map_cons, List.map_nil, List.cons_append, List.nil_append, List.replicate_succ, List.replicate_zero, env0, Option.map_some, Nat.zero_add, Nat.reduceAdd, Nat.reduceSub, Nat.reduceLeDiff, Int.reduceLT, Int.reduceLE, Bool.not_true, Bool.not_false, decide_true, decide_false, natLit, at0, at1, at2, at3, at4, at5, Int.reduceAdd, Int.reduceSub, Int.reduceMul, Int.reducePow, Int.reduceNeg, Int.reduceDiv, Int.reduceMod, Int.reduceToNat, Int.reduceEq, reduceIte, decide_eq_true_eq, List.all_cons, List.all_nil, List.any_cons, List.any_nil, id, Bool.and_true, Bool.true_and, Bool.and_false, Bool.false_and, Bool.or_true, Bool.or_false, Bool.true_or, Bool.false_or, Bool.false_eq_true, F_u_law_like, b_u_law_like, hs, sortB, in_ii2, fin (.int b) rfl]
    · have : (D.str b).scalB = true := by
        rcases hz with e | e <;> rw [e] at h <;> exact h
      simp (disch := first | omega | exact Nat.le_of_ble_eq_true rfl | assumption | (simp only [List.length_append, List.length_cons, List.length_nil, List.length_map] <;> omega) | exact rfl | decide | (simp only [pl_int', pl_bl', pl_non', pl1l, pl1t, pl2l, pl2t, pl3l, pl3t, pl4l, pl4t, pl5l, pl5t, pl6l, pl6t, pl7l, pl7t, pl8l, pl8t, pl9l, pl9t, List.all_cons, List.all_nil, List.length_cons, List.length_nil, Nat.reduceAdd, Nat.reduceLeDiff, decide_true, Bool.and_true, Bool.true_and, Bool.and_self, *]; done) | fail) only [↓e_seq, ↓e_sl, ↓e_part, ↓e_par, ↓e_cupSet, ↓e_ifS, ↓e_ret, ↓e_drop, ↓e_asg, ↓e_B, ↓e_notB, ↓e_andB, ↓e_orB, ↓e_notD, ↓e_andD, ↓e_orD, ↓e_if, ↓e_op, ↓e_cons, ↓e_call, ↓e_icall, ↓e_tup', ↓e_lst, ↓e_neg, ↓e_chain, ↓e_last, ↓e_link, ↓e_un, ↓e_isi', ↓e_lc, ↓e_iseq, ↓e_for, ↓e_run0, ↓e_run1, ↓e_run2, ↓e_run3, ↓e_run4, ↓e_run5, ↓e_run6, ↓e_run7, ↓e_run8, k_sl1, k_sl2, sl_tup, sl_lst, e_noPart, k_part, revA_t, revA_l, k_par, put_nil, put_cons, e_ix0, e_ix1, k_cup0, k_cup1, in_ii2, zip_tt, zip_ll, then_ok, k_seqN, k_seqR, k_seqB, k_seqC, k_ifST, k_ifSF, e_skip, k_ret, e_retN, e_brk, e_cont, k_drop, k_asgName, k_asgTup, optE_some, g_tup, g_name, g_cons, g_nil, Option.bind_some, st0, stS, k_asB, k_notB, k_andBT, k_andBF, k_orBT, k_orBF, k_notD, k_andDT, k_andDF, k_orDT, k_orDF, k_ifT, k_ifF, e_C, k_op1, e_nil, k_c1, k_c2, k_tup, k_lst, k_neg, k_chain, k_link1, k_link2T, k_link2F, k_isi_int, k_isi_bl, k_isi_non, k_isi_str, k_isi_tup, k_isi_lst, D.isInt, D.isBool, D.isStr, D.isTup, D.isLst, k_runR, k_runN, k_lst', k_lc, l_nil, l_cons, optL_some, k_l1T, k_l1F, k_l2, e_yes, w_nil, w_cons, seqD_tup, seqD_lst, k_for, f_nil, f_cons, optF_some, k_f1N, k_f1C, k_f1B, k_f1R, len_tup, len_lst, len_scr, abs_i, int_i, int_b, list_l, list_t, list_s, tup_l, tup_t, max2, min2, sum_l, sum_t, okS_some, ints_nil, ints_cons, bls_nil, bls_cons, okB_some, all_l, any_l, lt_ii, le_ii, gt_ii, ge_ii, isN_non, isN_int, isN_bl, isN_str, isN_tup, isN_lst, notN_non, notN_int, notN_tup, notN_lst, add_ii', sub_ii', add_tt', add_ll', mul_sm, mul_bg, fdiv_sm, fdiv_bg, mod_sm, pow_sm, eq_ii', ne_ii', ix_tup, ix_lst, varS, var0_int, var0_bl, var0_tup, var0_lst, var0_str, var0_non, var0_cup, var0_scr, List.length_cons, List.length_nil, List.map_cons, List.map_nil, List.cons_append, List.nil_append, List.replicate_succ, List.replicate_zero, env0, Option.map_some, Nat.zero_add, Nat.reduceAdd, Nat.reduceSub, Nat.reduceLeDiff, Int.reduceLT, Int.reduceLE, Bool.not_true, Bool.not_false, decide_true, decide_false, natLit, at0, at1, at2, at3, at4, at5, Int.reduceAdd, Int.reduceSub, Int.reduceMul, Int.reducePow, Int.reduceNeg, Int.reduceDiv, Int.reduceMod, Int.reduceToNat, Int.reduceEq, reduceIte, decide_eq_true_eq, List.all_cons, List.all_nil, List.any_cons, List.any_nil, id, Bool.and_true, Bool.true_and, Bool.and_false, Bool.false_and, Bool.or_true, Bool.or_false, Bool.true_or, Bool.false_or, Bool.false_eq_true, F_u_law_like, b_u_law_like, hs, sortB, in_ii2, fin (.str b) this]
    · rcases hz with e | e
      · rw [e] at h; cases h
      · rw [e] at h
        obtain ⟨h1, h2⟩ := pl_tup.mp h
        have := hlen b h1
        simp (disch := first | omega | exact Nat.le_of_ble_eq_true rfl | assumption | (simp only [List.length_append, List.length_cons, List.length_nil, List.length_map] <;> omega) | exact rfl | decide | (simp only [pl_int', pl_bl', pl_non', pl1l, pl1t, pl2l, pl2t, pl3l, pl3t, pl4l, pl4t, pl5l, pl5t, pl6l, pl6t, pl7l, pl7t, pl8l, pl8t, pl9l, pl9t, List.all_cons, List.all_nil, List.length_cons, List.length_nil, Nat.reduceAdd, Nat.reduceLeDiff, decide_true, Bool.and_true, Bool.true_and, Bool.and_self, *]; done) | fail) only [↓e_seq, ↓e_sl, ↓e_part, ↓e_par, ↓e_cupSet, ↓e_ifS, ↓e_ret, ↓e_drop, ↓e_asg, ↓e_B, ↓e_notB, ↓e_andB, ↓e_orB, ↓e_notD, ↓e_andD, ↓e_orD, ↓e_if, ↓e_op, ↓e_cons, ↓e_call, ↓e_icall, ↓e_tup', ↓e_lst, ↓e_neg, ↓e_chain, ↓e_last, ↓e_link, ↓e_un, ↓e_isi', ↓e_lc, ↓e_iseq, ↓e_for, ↓e_run0, ↓e_run1, ↓e_run2, ↓e_run3, ↓e_run4, ↓e_run5, ↓e_run6, ↓e_run7, ↓e_run8, k_sl1, k_sl2, sl_tup, sl_lst, e_noPart, k_part, revA_t, revA_l, k_par, put_nil, put_cons, e_ix0, e_ix1, k_cup0, k_cup1, in_ii2, zip_tt, zip_ll, then_ok, k_seqN, k_seqR, k_seqB, k_seqC, k_ifST, k_ifSF, e_skip, k_ret, e_retN, e_brk, e_cont, k_drop, k_asgName, k_asgTup, optE_some, g_tup, g_name, g_cons, g_nil, Option.bind_some, st0, stS, k_asB, k_notB, k_andBT, k_andBF, k_orBT, k_orBF, k_notD, k_andDT, k_andDF, k_orDT, k_orDF, k_ifT, k_ifF, e_C, k_op1, e_nil, k_c1, k_c2, k_tup, k_lst, k_neg, k_chain, k_link1, k_link2T, k_link2F, k_isi_int, k_isi_bl, k_isi_non, k_isi_str, k_isi_tup, k_isi_lst, D.isInt, D.isBool, D.isStr, D.isTup, D.isLst, k_runR, k_runN, k_lst', k_lc, l_nil, l_cons, optL_some, k_l1T, k_l1F, k_l2, e_yes, w_nil, w_cons, seqD_tup, seqD_lst, k_for, f_nil, f_cons, optF_some, k_f1N, k_f1C, k_f1B, k_f1R, len_tup, len_lst, len_scr, abs_i, int_i, int_b, list_l, list_t, list_s, tup_l, tup_t, max2, min2, sum_l, sum_t, okS_some, ints_nil, ints_cons, bls_nil, bls_cons, okB_some, all_l, any_l, lt_ii, le_ii, gt_ii, ge_ii, isN_non, isN_int, isN_bl, isN_str, isN_tup, isN_lst, notN_non, notN_int, notN_tup, notN_lst, add_ii', sub_ii', add_tt', add_ll', mul_sm, mul_bg, fdiv_sm, fdiv_bg, mod_sm, pow_sm, eq_ii', ne_ii', ix_tup, ix_lst, varS, var0_int, var0_bl, var0_tup, var0_lst, var0_str, var0_non, var0_cup, var0_scr, List.length_cons, List.length_nil, List.map_cons, List.map_nil, List.cons_append, List.nil_append, List.replicate_succ, List.replicate_zero, env0, Option.map_some, Nat.zero_add, Nat.reduceAdd, Nat.reduceSub, Nat.reduceLeDiff, Int.reduceLT, Int.reduceLE, Bool.not_true, Bool.not_false, decide_true, decide_false, natLit, at0, at1, at2, at3, at4, at5, Int.reduceAdd, Int.reduceSub, Int.reduceMul, Int.reducePow, Int.reduceNeg, Int.reduceDiv, Int.reduceMod, Int.reduceToNat, Int.reduceEq, reduceIte, decide_eq_true_eq, List.all_cons, List.all_nil, List.any_cons, List.any_nil, id, Bool.and_true, Bool.true_and, Bool.and_false, Bool.false_and, Bool.or_true, Bool.or_false, Bool.true_or, Bool.false_or, Bool.false_eq_true, F_u_law_like, b_u_law_like, hs, sortB, in_ii2, zip_tt, seq _ b h1 h2 (by omega), eq_nil, List.isEmpty_nil]
    · rcases hz with e | e
      · rw [e] at h; cases h
      · rw [e] at h
        obtain ⟨h1, h2⟩ := pl_lst.mp h
        have := hlen b h1
        simp (disch := first | omega | exact Nat.le_of_ble_eq_true rfl | assumption | (simp only [List.length_append, List.length_cons, List.length_nil, List.length_map] <;> omega) | exact rfl | decide | (simp only [pl_int', pl_bl', pl_non', pl1l, pl1t, pl2l, pl2t, pl3l, pl3t, pl4l, pl4t, pl5l, pl5t, pl6l, pl6t, pl7l, pl7t, pl8l, pl8t, pl9l, pl9t, List.all_cons, List.all_nil, List.length_cons, List.length_nil, Nat.reduceAdd, Nat.reduceLeDiff, decide_true, Bool.and_true, Bool.true_and, Bool.and_self, *]; done) | fail) only [↓e_seq, ↓e_sl, ↓e_part, ↓e_par, ↓e_cupSet, ↓e_ifS, ↓e_ret, ↓e_drop, ↓e_asg, ↓e_B, ↓e_notB, ↓e_andB, ↓e_orB, ↓e_notD, ↓e_andD, ↓e_orD, ↓e_if, ↓e_op, ↓e_cons, ↓e_call, ↓e_icall, ↓e_tup', ↓e_lst, ↓e_neg, ↓e_chain, ↓e_last, ↓e_link, ↓e_un, ↓e_isi', ↓e_lc, ↓e_iseq, ↓e_for, ↓e_run0, ↓e_run1, ↓e_run2, ↓e_run3, ↓e_run4, ↓e_run5, ↓e_run6, ↓e_run7, ↓e_run8, k_sl1, k_sl2, sl_tup, sl_lst, e_noPart, k_part, revA_t, revA_l, k_par, put_nil, put_cons, e_ix0, e_ix1, k_cup0, k_cup1, in_ii2, zip_tt, zip_ll, then_ok, k_seqN, k_seqR, k_seqB, k_seqC, k_ifST, k_ifSF, e_skip, k_ret, e_retN, e_brk, e_cont, k_drop, k_asgName, k_asgTup, optE_some, g_tup, g_name, g_cons, g_nil, Option.bind_some, st0, stS, k_asB, k_notB, k_andBT, k_andBF, k_orBT, k_orBF, k_notD, k_andDT, k_andDF, k_orDT, k_orDF, k_ifT, k_ifF, e_C, k_op1, e_nil, k_c1, k_c2, k_tup, k_lst, k_neg, k_chain, k_link1, k_link2T, k_link2F, k_isi_int, k_isi_bl, k_isi_non, k_isi_str, k_isi_tup, k_isi_lst, D.isInt, D.isBool, D.isStr, D.isTup, D.isLst, k_runR, k_runN, k_lst', k_lc, l_nil, l_cons, optL_some, k_l1T, k_l1F, k_l2, e_yes, w_nil, w_cons, seqD_tup, seqD_lst, k_for, f_nil, f_cons, optF_some, k_f1N, k_f1C, k_f1B, k_f1R, len_tup, len_lst, len_scr, abs_i, int_i, int_b, list_l, list_t, list_s, tup_l, tup_t, max2, min2, sum_l, sum_t, okS_some, ints_nil, ints_cons, bls_nil, bls_cons, okB_some, all_l, any_l, lt_ii, le_ii, gt_ii, ge_ii, isN_non, isN_int, isN_bl, isN_str, isN_tup, isN_lst, notN_non, notN_int, notN_tup, notN_lst, add_ii', sub_ii', add_tt', add_ll', mul_sm, mul_bg, fdiv_sm, fdiv_bg, mod_sm, pow_sm, eq_ii', ne_ii', ix_tup, ix_lst, varS, var0_int, var0_bl, var0_tup, var0_lst, var0_str, var0_non, var0_cup, var0_scr, List.length_cons, List.length_nil, List.map_cons, List.map_nil, List.cons_append, List.nil_append, List.replicate_succ, List.replicate_zero, env0, Option.map_some, Nat.zero_add, Nat.reduceAdd, Nat.reduceSub, Nat.reduceLeDiff, Int.reduceLT, Int.reduceLE, Bool.not_true, Bool.not_false, decide_true, decide_false, natLit, at0, at1, at2, at3, at4, at5, Int.reduceAdd, Int.reduceSub, Int.reduceMul, Int.reducePow, Int.reduceNeg, Int.reduceDiv, Int.reduceMod, Int.reduceToNat, Int.reduceEq, reduceIte, decide_eq_true_eq, List.all_cons, List.all_nil, List.any_cons, List.any_nil, id, Bool.and_true, Bool.true_and, Bool.and_false, Bool.false_and, Bool.or_true, Bool.or_false, Bool.true_or, Bool.false_or, Bool.false_eq_true, F_u_law_like, b_u_law_like, hs, sortB, in_ii2, zip_ll, seq _ b h1 h2 (by omega), eq_nil, List.isEmpty_nil]
theorem like_ok {n : Nat} {d : D} {c : Cup} (h : d.pl n = true) (hn : n < 10) : f_u_law_like [d, d] c = .ok (.bl true) c := like_self 10 n d c h hn (by omega)
theorem like_same {d : D} {c : Cup} (h : d.pl 8 = true) : f_u_law_like [d, d] c = .ok (.bl true) c := like_ok h (by decide)
/-- at hand for simp: two data that are one -/
theorem like_is {d e : D} {c : Cup} (h : d.pl 8 = true) (he : d = e) : f_u_law_like [d, e] c = .ok (.bl true) c := he ▸ like_ok h (by decide)
theorem abs_nat {a : Int} : (if a < 0 then -a else a) = (a.natAbs : Int) := by split <;> omega
theorem law_divisor_loop {c : Cup} : ∀ (n x y : Nat), y ≤ n → mWhile (mB (mOp neD (mVar 1) (mC (.int 0)))) (mPar [0, 1] (mCons (mVar 1) (mCons (mOp modD (mCall intF (mCons (mVar 0) (mNil))) (mVar 1)) (mNil)))) [some (.int x), some (.int y)] c = .ok (.nx [some (.int (Nat.gcd x y : Nat)), some (.int 0)]) c
  | 0, x, y, h => by
    have e : y = 0 := by omega
    subst e
    rw [Nat.gcd_zero_right]
    exact while_end (by simp (disch := first | omega | exact Nat.le_of_ble_eq_true rfl | assumption | (simp only [List.length_append, List.length_cons, List.length_nil, List.length_map] <;> omega) | exact rfl | decide | (simp only [pl_int', pl_bl', pl_non', pl1l, pl1t, pl2l, pl2t, pl3l, pl3t, pl4l, pl4t, pl5l, pl5t, pl6l, pl6t, pl7l, pl7t, pl8l, pl8t, pl9l, pl9t, List.all_cons, List.all_nil, List.length_cons, List.length_nil, Nat.reduceAdd, Nat.reduceLeDiff, decide_true, Bool.and_true, Bool.true_and, Bool.and_self, *]; done) | fail) only [↓e_seq, ↓e_sl, ↓e_part, ↓e_par, ↓e_cupSet, ↓e_ifS, ↓e_ret, ↓e_drop, ↓e_asg, ↓e_B, ↓e_notB, ↓e_andB, ↓e_orB, ↓e_notD, ↓e_andD, ↓e_orD, ↓e_if, ↓e_op, ↓e_cons, ↓e_call, ↓e_icall, ↓e_tup', ↓e_lst, ↓e_neg, ↓e_chain, ↓e_last, ↓e_link, ↓e_un, ↓e_isi', ↓e_lc, ↓e_iseq, ↓e_for, ↓e_run0, ↓e_run1, ↓e_run2, ↓e_run3, ↓e_run4, ↓e_run5, ↓e_run6, ↓e_run7, ↓e_run8, k_sl1, k_sl2, sl_tup, sl_lst, e_noPart, k_part, revA_t, revA_l, k_par, put_nil, put_cons, e_ix0, e_ix1, k_cup0, k_cup1, in_ii2, zip_tt, zip_ll, then_ok, k_seqN, k_seqR, k_seqB, k_seqC, k_ifST, k_ifSF, e_skip, k_ret, e_retN, e_brk, e_cont, k_drop, k_asgName, k_asgTup, optE_some, g_tup, g_name, g_cons, g_nil, Option.bind_some, st0, stS, k_asB, k_notB, k_andBT, k_andBF, k_orBT, k_orBF, k_notD, k_andDT, k_andDF, k_orDT, k_orDF, k_ifT, k_ifF, e_C, k_op1, e_nil, k_c1, k_c2, k_tup, k_lst, k_neg, k_chain, k_link1, k_link2T, k_link2F, k_isi_int, k_isi_bl, k_isi_non, k_isi_str, k_isi_tup, k_isi_lst, D.isInt, D.isBool, D.isStr, D.isTup, D.isLst, k_runR, k_runN, k_lst', k_lc, l_nil, l_cons, optL_some, k_l1T, k_l1F, k_l2, e_yes, w_nil, w_cons, seqD_tup, seqD_lst, k_for, f_nil, f_cons, optF_some, k_f1N, k_f1C, k_f1B, k_f1R, len_tup, len_lst, len_scr, abs_i, int_i, int_b, list_l, list_t, list_s, tup_l, tup_t, max2, min2, sum_l, sum_t, okS_some, ints_nil, ints_cons, bls_nil, bls_cons, okB_some, all_l, any_l, lt_ii, le_ii, gt_ii, ge_ii, isN_non, isN_int, isN_bl, isN_str, isN_tup, isN_lst, notN_non, notN_int, notN_tup, notN_lst, add_ii', sub_ii', add_tt', add_ll', mul_sm, mul_bg, fdiv_sm, fdiv_bg, mod_sm, pow_sm, eq_ii', ne_ii', ix_tup, ix_lst, varS, var0_int, var0_bl, var0_tup, var0_lst, var0_str, var0_non, var0_cup, var0_scr, List.length_cons, List.length_nil, List.map_cons, List.map_nil, List.cons_append, List.nil_append, List.replicate_succ, List.replicate_zero, env0, Option.map_some, Nat.zero_add, Nat.reduceAdd, Nat.reduceSub, Nat.reduceLeDiff, Int.reduceLT, Int.reduceLE, Bool.not_true, Bool.not_false, decide_true, decide_false, natLit, at0, at1, at2, at3, at4, at5, Int.reduceAdd, Int.reduceSub, Int.reduceMul, Int.reducePow, Int.reduceNeg, Int.reduceDiv, Int.reduceMod, Int.reduceToNat, Int.reduceEq, reduceIte, decide_eq_true_eq, List.all_cons, List.all_nil, List.any_cons, List.any_nil, id, Bool.and_true, Bool.true_and, Bool.and_false, Bool.false_and, Bool.or_true, Bool.or_false, Bool.true_or, Bool.false_or, Bool.false_eq_true, show ((0 : Nat) : Int) = 0 from rfl])
  | n + 1, x, y, h => by
    by_cases hy : y = 0
    · subst hy
      rw [Nat.gcd_zero_right]
      exact while_end (by simp (disch := first | omega | exact Nat.le_of_ble_eq_true rfl | assumption | (simp only [List.length_append, List.length_cons, List.length_nil, List.length_map] <;> omega) | exact rfl | decide | (simp only [pl_int', pl_bl', pl_non', pl1l, pl1t, pl2l, pl2t, pl3l, pl3t, pl4l, pl4t, pl5l, pl5t, pl6l, pl6t, pl7l, pl7t, pl8l, pl8t, pl9l, pl9t, List.all_cons, List.all_nil, List.length_cons, List.length_nil, Nat.reduceAdd, Nat.reduceLeDiff, decide_true, Bool.and_true, Bool.true_and, Bool.and_self, *]; done) | fail) only [↓e_seq, ↓e_sl, ↓e_part, ↓e_par, ↓e_cupSet, ↓e_ifS, ↓e_ret, ↓e_drop, ↓e_asg, ↓e_B, ↓e_notB, ↓e_andB, ↓e_orB, ↓e_notD, ↓e_andD, ↓e_orD, ↓e_if, ↓e_op, ↓e_cons, ↓e_call, ↓e_icall, ↓e_tup', ↓e_lst, ↓e_neg, ↓e_chain, ↓e_last, ↓e_link, ↓e_un, ↓e_isi', ↓e_lc, ↓e_iseq, ↓e_for, ↓e_run0, ↓e_run1, ↓e_run2, ↓e_run3, ↓e_run4, ↓e_run5, ↓e_run6, ↓e_run7, ↓e_run8, k_sl1, k_sl2, sl_tup, sl_lst, e_noPart, k_part, revA_t, revA_l, k_par, put_nil, put_cons, e_ix0, e_ix1, k_cup0, k_cup1, in_ii2, zip_tt, zip_ll, then_ok, k_seqN, k_seqR, k_seqB, k_seqC, k_ifST, k_ifSF, e_skip, k_ret, e_retN, e_brk, e_cont, k_drop, k_asgName, k_asgTup, optE_some, g_tup, g_name, g_cons, g_nil, Option.bind_some, st0, stS, k_asB, k_notB, k_andBT, k_andBF, k_orBT, k_orBF, k_notD, k_andDT, k_andDF, k_orDT, k_orDF, k_ifT, k_ifF, e_C, k_op1, e_nil, k_c1, k_c2, k_tup, k_lst, k_neg, k_chain, k_link1, k_link2T, k_link2F, k_isi_int, k_isi_bl, k_isi_non, k_isi_str, k_isi_tup, k_isi_lst, D.isInt, D.isBool, D.isStr, D.isTup, D.isLst, k_runR, k_runN, k_lst', k_lc, l_nil, l_cons, optL_some, k_l1T, k_l1F, k_l2, e_yes, w_nil, w_cons, seqD_tup, seqD_lst, k_for, f_nil, f_cons, optF_some, k_f1N, k_f1C, k_f1B, k_f1R, len_tup, len_lst, len_scr, abs_i, int_i, int_b, list_l, list_t, list_s, tup_l, tup_t, max2, min2, sum_l, sum_t, okS_some, ints_nil, ints_cons, bls_nil, bls_cons, okB_some, all_l, any_l, lt_ii, le_ii, gt_ii, ge_ii, isN_non, isN_int, isN_bl, isN_str, isN_tup, isN_lst, notN_non, notN_int, notN_tup, notN_lst, add_ii', sub_ii', add_tt', add_ll', mul_sm, mul_bg, fdiv_sm, fdiv_bg, mod_sm, pow_sm, eq_ii', ne_ii', ix_tup, ix_lst, varS, var0_int, var0_bl, var0_tup, var0_lst, var0_str, var0_non, var0_cup, var0_scr, List.length_cons, List.length_nil, List.map_cons, List.map_nil, List.cons_append, List.nil_append, List.replicate_succ, List.replicate_zero, env0, Option.map_some, Nat.zero_add, Nat.reduceAdd, Nat.reduceSub, Nat.reduceLeDiff, Int.reduceLT, Int.reduceLE, Bool.not_true, Bool.not_false, decide_true, decide_false, natLit, at0, at1, at2, at3, at4, at5, Int.reduceAdd, Int.reduceSub, Int.reduceMul, Int.reducePow, Int.reduceNeg, Int.reduceDiv, Int.reduceMod, Int.reduceToNat, Int.reduceEq, reduceIte, decide_eq_true_eq, List.all_cons, List.all_nil, List.any_cons, List.any_nil, id, Bool.and_true, Bool.true_and, Bool.and_false, Bool.false_and, Bool.or_true, Bool.or_false, Bool.true_or, Bool.false_or, Bool.false_eq_true, show ((0 : Nat) : Int) = 0 from rfl])
    · have hl := Nat.mod_lt x (show 0 < y by omega)
      have ih := law_divisor_loop (c := c) n y (x % y) (by omega)
      rw [Nat.gcd_comm y, ← Nat.gcd_rec, Nat.gcd_comm] at ih
      have hy' : ¬ (y : Int) = 0 := by omega
      have hy2 : 0 < (y : Int) := by omega
      refine while_turn (c1 := c) (c2 := c) (ρ' := [some (.int y), some (.int ((x % y : Nat) : Int))]) ?_ ?_ ih
      · simp (disch := first | omega | exact Nat.le_of_ble_eq_true rfl | assumption | (simp only [List.length_append, List.length_cons, List.length_nil, List.length_map] <;> omega) | exact rfl | decide | (simp only [pl_int', pl_bl', pl_non', pl1l, pl1t, pl2l, pl2t, pl3l, pl3t, pl4l, pl4t, pl5l, pl5t, pl6l, pl6t, pl7l, pl7t, pl8l, pl8t, pl9l, pl9t, List.all_cons, List.all_nil, List.length_cons, List.length_nil, Nat.reduceAdd, Nat.reduceLeDiff, decide_true, Bool.and_true, Bool.true_and, Bool.and_self, *]; done) | fail) only [↓e_seq, ↓e_sl, ↓e_part, ↓e_par, ↓e_cupSet, ↓e_ifS, ↓e_ret, ↓e_drop, ↓e_asg, ↓e_B, ↓e_notB, ↓e_andB, ↓e_orB, ↓e_notD, ↓e_andD, ↓e_orD, ↓e_if, ↓e_op, ↓e_cons, ↓e_call, ↓e_icall, ↓e_tup', ↓e_lst, ↓e_neg, ↓e_chain, ↓e_last, ↓e_link, ↓e_un, ↓e_isi', ↓e_lc, ↓e_iseq, ↓e_for, ↓e_run0, ↓e_run1, ↓e_run2, ↓e_run3, ↓e_run4, ↓e_run5, ↓e_run6, ↓e_run7, ↓e_run8, k_sl1, k_sl2, sl_tup, sl_lst, e_noPart, k_part, revA_t, revA_l, k_par, put_nil, put_cons, e_ix0, e_ix1, k_cup0, k_cup1, in_ii2, zip_tt, zip_ll, then_ok, k_seqN, k_seqR, k_seqB, k_seqC, k_ifST, k_ifSF, e_skip, k_ret, e_retN, e_brk, e_cont, k_drop, k_asgName, k_asgTup, optE_some, g_tup, g_name, g_cons, g_nil, Option.bind_some, st0, stS, k_asB, k_notB, k_andBT, k_andBF, k_orBT, k_orBF, k_notD, k_andDT, k_andDF, k_orDT, k_orDF, k_ifT, k_ifF, e_C, k_op1, e_nil, k_c1, k_c2, k_tup, k_lst, k_neg, k_chain, k_link1, k_link2T, k_link2F, k_isi_int, k_isi_bl, k_isi_non, k_isi_str, k_isi_tup, k_isi_lst, D.isInt, D.isBool, D.isStr, D.isTup, D.isLst, k_runR, k_runN, k_lst', k_lc, l_nil, l_cons, optL_some, k_l1T, k_l1F, k_l2, e_yes, w_nil, w_cons, seqD_tup, seqD_lst, k_for, f_nil, f_cons, optF_some, k_f1N, k_f1C, k_f1B, k_f1R, len_tup, len_lst, len_scr, abs_i, int_i, int_b, list_l, list_t, list_s, tup_l, tup_t, max2, min2, sum_l, sum_t, okS_some, ints_nil, ints_cons, bls_nil, bls_cons, okB_some, all_l, any_l, lt_ii, le_ii, gt_ii, ge_ii, isN_non, isN_int, isN_bl, isN_str, isN_tup, isN_lst, notN_non, notN_int, notN_tup, notN_lst, add_ii', sub_ii', add_tt', add_ll', mul_sm, mul_bg, fdiv_sm, fdiv_bg, mod_sm, pow_sm, eq_ii', ne_ii', ix_tup, ix_lst, varS, var0_int, var0_bl, var0_tup, var0_lst, var0_str, var0_non, var0_cup, var0_scr, List.length_cons, List.length_nil, List.map_cons, List.map_nil, List.cons_append, List.nil_append, List.replicate_succ, List.replicate_zero, env0, Option.map_some, Nat.zero_add, Nat.reduceAdd, Nat.reduceSub, Nat.reduceLeDiff, Int.reduceLT, Int.reduceLE, Bool.not_true, Bool.not_false, decide_true, decide_false, natLit, at0, at1, at2, at3, at4, at5, Int.reduceAdd, Int.reduceSub, Int.reduceMul, Int.reducePow, Int.reduceNeg, Int.reduceDiv, Int.reduceMod, Int.reduceToNat, Int.reduceEq, reduceIte, decide_eq_true_eq, List.all_cons, List.all_nil, List.any_cons, List.any_nil, id, Bool.and_true, Bool.true_and, Bool.and_false, Bool.false_and, Bool.or_true, Bool.or_false, Bool.true_or, Bool.false_or, Bool.false_eq_true, hy']
      · simp (disch := first | omega | exact Nat.le_of_ble_eq_true rfl | assumption | (simp only [List.length_append, List.length_cons, List.length_nil, List.length_map] <;> omega) | exact rfl | decide | (simp only [pl_int', pl_bl', pl_non', pl1l, pl1t, pl2l, pl2t, pl3l, pl3t, pl4l, pl4t, pl5l, pl5t, pl6l, pl6t, pl7l, pl7t, pl8l, pl8t, pl9l, pl9t, List.all_cons, List.all_nil, List.length_cons, List.length_nil, Nat.reduceAdd, Nat.reduceLeDiff, decide_true, Bool.and_true, Bool.true_and, Bool.and_self, *]; done) | fail) only [↓e_seq, ↓e_sl, ↓e_part, ↓e_par, ↓e_cupSet, ↓e_ifS, ↓e_ret, ↓e_drop, ↓e_asg, ↓e_B, ↓e_notB, ↓e_andB, ↓e_orB, ↓e_notD, ↓e_andD, ↓e_orD, ↓e_if, ↓e_op, ↓e_cons, ↓e_call, ↓e_icall, ↓e_tup', ↓e_lst, ↓e_neg, ↓e_chain, ↓e_last, ↓e_link, ↓e_un, ↓e_isi', ↓e_lc, ↓e_iseq, ↓e_for, ↓e_run0, ↓e_run1, ↓e_run2, ↓e_run3, ↓e_run4, ↓e_run5, ↓e_run6, ↓e_run7, ↓e_run8, k_sl1, k_sl2, sl_tup, sl_lst, e_noPart, k_part, revA_t, revA_l, k_par, put_nil, put_cons, e_ix0, e_ix1, k_cup0, k_cup1, in_ii2, zip_tt, zip_ll, then_ok, k_seqN, k_seqR, k_seqB, k_seqC, k_ifST, k_ifSF, e_skip, k_ret, e_retN, e_brk, e_cont, k_drop, k_asgName, k_asgTup, optE_some, g_tup, g_name, g_cons, g_nil, Option.bind_some, st0, stS, k_asB, k_notB, k_andBT, k_andBF, k_orBT, k_orBF, k_notD, k_andDT, k_andDF, k_orDT, k_orDF, k_ifT, k_ifF, e_C, k_op1, e_nil, k_c1, k_c2, k_tup, k_lst, k_neg, k_chain, k_link1, k_link2T, k_link2F, k_isi_int, k_isi_bl, k_isi_non, k_isi_str, k_isi_tup, k_isi_lst, D.isInt, D.isBool, D.isStr, D.isTup, D.isLst, k_runR, k_runN, k_lst', k_lc, l_nil, l_cons, optL_some, k_l1T, k_l1F, k_l2, e_yes, w_nil, w_cons, seqD_tup, seqD_lst, k_for, f_nil, f_cons, optF_some, k_f1N, k_f1C, k_f1B, k_f1R, len_tup, len_lst, len_scr, abs_i, int_i, int_b, list_l, list_t, list_s, tup_l, tup_t, max2, min2, sum_l, sum_t, okS_some, ints_nil, ints_cons, bls_nil, bls_cons, okB_some, all_l, any_l, lt_ii, le_ii, gt_ii, ge_ii, isN_non, isN_int, isN_bl, isN_str, isN_tup, isN_lst, notN_non, notN_int, notN_tup, notN_lst, add_ii', sub_ii', add_tt', add_ll', mul_sm, mul_bg, fdiv_sm, fdiv_bg, mod_sm, pow_sm, eq_ii', ne_ii', ix_tup, ix_lst, varS, var0_int, var0_bl, var0_tup, var0_lst, var0_str, var0_non, var0_cup, var0_scr, List.length_cons, List.length_nil, List.map_cons, List.map_nil, List.cons_append, List.nil_append, List.replicate_succ, List.replicate_zero, env0, Option.map_some, Nat.zero_add, Nat.reduceAdd, Nat.reduceSub, Nat.reduceLeDiff, Int.reduceLT, Int.reduceLE, Bool.not_true, Bool.not_false, decide_true, decide_false, natLit, at0, at1, at2, at3, at4, at5, Int.reduceAdd, Int.reduceSub, Int.reduceMul, Int.reducePow, Int.reduceNeg, Int.reduceDiv, Int.reduceMod, Int.reduceToNat, Int.reduceEq, reduceIte, decide_eq_true_eq, List.all_cons, List.all_nil, List.any_cons, List.any_nil, id, Bool.and_true, Bool.true_and, Bool.and_false, Bool.false_and, Bool.or_true, Bool.or_false, Bool.true_or, Bool.false_or, Bool.false_eq_true, Int.natCast_emod]
theorem law_divisor_ok {a b : Int} {c : Cup} : f_u_law_divisor [.int a, .int b] c = .ok (.int (Int.gcd a b)) c := by
  simp (disch := first | omega | exact Nat.le_of_ble_eq_true rfl | assumption | (simp only [List.length_append, List.length_cons, List.length_nil, List.length_map] <;> omega) | exact rfl | decide | (simp only [pl_int', pl_bl', pl_non', pl1l, pl1t, pl2l, pl2t, pl3l, pl3t, pl4l, pl4t, pl5l, pl5t, pl6l, pl6t, pl7l, pl7t, pl8l, pl8t, pl9l, pl9t, List.all_cons, List.all_nil, List.length_cons, List.length_nil, Nat.reduceAdd, Nat.reduceLeDiff, decide_true, Bool.and_true, Bool.true_and, Bool.and_self, *]; done) | fail) only [↓e_seq, ↓e_sl, ↓e_part, ↓e_par, ↓e_cupSet, ↓e_ifS, ↓e_ret, ↓e_drop, ↓e_asg, ↓e_B, ↓e_notB, ↓e_andB, ↓e_orB, ↓e_notD, ↓e_andD, ↓e_orD, ↓e_if, ↓e_op, ↓e_cons, ↓e_call, ↓e_icall, ↓e_tup', ↓e_lst, ↓e_neg, ↓e_chain, ↓e_last, ↓e_link, ↓e_un, ↓e_isi', ↓e_lc, ↓e_iseq, ↓e_for, ↓e_run0, ↓e_run1, ↓e_run2, ↓e_run3, ↓e_run4, ↓e_run5, ↓e_run6, ↓e_run7, ↓e_run8, k_sl1, k_sl2, sl_tup, sl_lst, e_noPart, k_part, revA_t, revA_l, k_par, put_nil, put_cons, e_ix0, e_ix1, k_cup0, k_cup1, in_ii2, zip_tt, zip_ll, then_ok, k_seqN, k_seqR, k_seqB, k_seqC, k_ifST, k_ifSF, e_skip, k_ret, e_retN, e_brk, e_cont, k_drop, k_asgName, k_asgTup, optE_some, g_tup, g_name, g_cons, g_nil, Option.bind_some, st0, stS, k_asB, k_notB, k_andBT, k_andBF, k_orBT, k_orBF, k_notD, k_andDT, k_andDF, k_orDT, k_orDF, k_ifT, k_ifF, e_C, k_op1, e_nil, k_c1, k_c2, k_tup, k_lst, k_neg, k_chain, k_link1, k_link2T, k_link2F, k_isi_int, k_isi_bl, k_isi_non, k_isi_str, k_isi_tup, k_isi_lst, D.isInt, D.isBool, D.isStr, D.isTup, D.isLst, k_runR, k_runN, k_lst', k_lc, l_nil, l_cons, optL_some, k_l1T, k_l1F, k_l2, e_yes, w_nil, w_cons, seqD_tup, seqD_lst, k_for, f_nil, f_cons, optF_some, k_f1N, k_f1C, k_f1B, k_f1R, len_tup, len_lst, len_scr, abs_i, int_i, int_b, list_l, list_t, list_s, tup_l, tup_t, max2, min2, sum_l, sum_t, okS_some, ints_nil, ints_cons, bls_nil, bls_cons, okB_some, all_l, any_l, lt_ii, le_ii, gt_ii, ge_ii, isN_non, isN_int, isN_bl, isN_str, isN_tup, isN_lst, notN_non, notN_int, notN_tup, notN_lst, add_ii', sub_ii', add_tt', add_ll', mul_sm, mul_bg, fdiv_sm, fdiv_bg, mod_sm, pow_sm, eq_ii', ne_ii', ix_tup, ix_lst, varS, var0_int, var0_bl, var0_tup, var0_lst, var0_str, var0_non, var0_cup, var0_scr, List.length_cons, List.length_nil, List.map_cons, List.map_nil, List.cons_append, List.nil_append, List.replicate_succ, List.replicate_zero, env0, Option.map_some, Nat.zero_add, Nat.reduceAdd, Nat.reduceSub, Nat.reduceLeDiff, Int.reduceLT, Int.reduceLE, Bool.not_true, Bool.not_false, decide_true, decide_false, natLit, at0, at1, at2, at3, at4, at5, Int.reduceAdd, Int.reduceSub, Int.reduceMul, Int.reducePow, Int.reduceNeg, Int.reduceDiv, Int.reduceMod, Int.reduceToNat, Int.reduceEq, reduceIte, decide_eq_true_eq, List.all_cons, List.all_nil, List.any_cons, List.any_nil, id, Bool.and_true, Bool.true_and, Bool.and_false, Bool.false_and, Bool.or_true, Bool.or_false, Bool.true_or, Bool.false_or, Bool.false_eq_true, f_u_law_divisor, b_u_law_divisor, abs_nat, law_divisor_loop _ _ _ (Nat.le_refl _)]
  rfl
theorem divisor_of_loop {c : Cup} : ∀ (n x y : Nat), y ≤ n → mWhile (mB (mOp neD (mVar 1) (mC (.int 0)))) (mPar [0, 1] (mCons (mVar 1) (mCons (mOp modD (mVar 0) (mVar 1)) (mNil)))) [some (.int x), some (.int y)] c = .ok (.nx [some (.int (Nat.gcd x y : Nat)), some (.int 0)]) c
  | 0, x, y, h => by
    have e : y = 0 := by omega
    subst e
    rw [Nat.gcd_zero_right]
    exact while_end (by simp (disch := first | omega | exact Nat.le_of_ble_eq_true rfl | assumption | (simp only [List.length_append, List.length_cons, List.length_nil, List.length_map] <;> omega) | exact rfl | decide | (simp only [pl_int', pl_bl', pl_non', pl1l, pl1t, pl2l, pl2t, pl3l, pl3t, pl4l, pl4t, pl5l, pl5t, pl6l, pl6t, pl7l, pl7t, pl8l, pl8t, pl9l, pl9t, List.all_cons, List.all_nil, List.length_cons, List.length_nil, Nat.reduceAdd, Nat.reduceLeDiff, decide_true, Bool.and_true, Bool.true_and, Bool.and_self, *]; done) | fail) only [↓e_seq, ↓e_sl, ↓e_part, ↓e_par, ↓e_cupSet, ↓e_ifS, ↓e_ret, ↓e_drop, ↓e_asg, ↓e_B, ↓e_notB, ↓e_andB, ↓e_orB, ↓e_notD, ↓e_andD, ↓e_orD, ↓e_if, ↓e_op, ↓e_cons, ↓e_call, ↓e_icall, ↓e_tup', ↓e_lst, ↓e_neg, ↓e_chain, ↓e_last, ↓e_link, ↓e_un, ↓e_isi', ↓e_lc, ↓e_iseq, ↓e_for, ↓e_run0, ↓e_run1, ↓e_run2, ↓e_run3, ↓e_run4, ↓e_run5, ↓e_run6, ↓e_run7, ↓e_run8, k_sl1, k_sl2, sl_tup, sl_lst, e_noPart, k_part, revA_t, revA_l, k_par, put_nil, put_cons, e_ix0, e_ix1, k_cup0, k_cup1, in_ii2, zip_tt, zip_ll, then_ok, k_seqN, k_seqR, k_seqB, k_seqC, k_ifST, k_ifSF, e_skip, k_ret, e_retN, e_brk, e_cont, k_drop, k_asgName, k_asgTup, optE_some, g_tup, g_name, g_cons, g_nil, Option.bind_some, st0, stS, k_asB, k_notB, k_andBT, k_andBF, k_orBT, k_orBF, k_notD, k_andDT, k_andDF, k_orDT, k_orDF, k_ifT, k_ifF, e_C, k_op1, e_nil, k_c1, k_c2, k_tup, k_lst, k_neg, k_chain, k_link1, k_link2T, k_link2F, k_isi_int, k_isi_bl, k_isi_non, k_isi_str, k_isi_tup, k_isi_lst, D.isInt, D.isBool, D.isStr, D.isTup, D.isLst, k_runR, k_runN, k_lst', k_lc, l_nil, l_cons, optL_some, k_l1T, k_l1F, k_l2, e_yes, w_nil, w_cons, seqD_tup, seqD_lst, k_for, f_nil, f_cons, optF_some, k_f1N, k_f1C, k_f1B, k_f1R, len_tup, len_lst, len_scr, abs_i, int_i, int_b, list_l, list_t, list_s, tup_l, tup_t, max2, min2, sum_l, sum_t, okS_some, ints_nil, ints_cons, bls_nil, bls_cons, okB_some, all_l, any_l, lt_ii, le_ii, gt_ii, ge_ii, isN_non, isN_int, isN_bl, isN_str, isN_tup, isN_lst, notN_non, notN_int, notN_tup, notN_lst, add_ii', sub_ii', add_tt', add_ll', mul_sm, mul_bg, fdiv_sm, fdiv_bg, mod_sm, pow_sm, eq_ii', ne_ii', ix_tup, ix_lst, varS, var0_int, var0_bl, var0_tup, var0_lst, var0_str, var0_non, var0_cup, var0_scr, List.length_cons, List.length_nil, List.map_cons, List.map_nil, List.cons_append, List.nil_append, List.replicate_succ, List.replicate_zero, env0, Option.map_some, Nat.zero_add, Nat.reduceAdd, Nat.reduceSub, Nat.reduceLeDiff, Int.reduceLT, Int.reduceLE, Bool.not_true, Bool.not_false, decide_true, decide_false, natLit, at0, at1, at2, at3, at4, at5, Int.reduceAdd, Int.reduceSub, Int.reduceMul, Int.reducePow, Int.reduceNeg, Int.reduceDiv, Int.reduceMod, Int.reduceToNat, Int.reduceEq, reduceIte, decide_eq_true_eq, List.all_cons, List.all_nil, List.any_cons, List.any_nil, id, Bool.and_true, Bool.true_and, Bool.and_false, Bool.false_and, Bool.or_true, Bool.or_false, Bool.true_or, Bool.false_or, Bool.false_eq_true, show ((0 : Nat) : Int) = 0 from rfl])
  | n + 1, x, y, h => by
    by_cases hy : y = 0
    · subst hy
      rw [Nat.gcd_zero_right]
      exact while_end (by simp (disch := first | omega | exact Nat.le_of_ble_eq_true rfl | assumption | (simp only [List.length_append, List.length_cons, List.length_nil, List.length_map] <;> omega) | exact rfl | decide | (simp only [pl_int', pl_bl', pl_non', pl1l, pl1t, pl2l, pl2t, pl3l, pl3t, pl4l, pl4t, pl5l, pl5t, pl6l, pl6t, pl7l, pl7t, pl8l, pl8t, pl9l, pl9t, List.all_cons, List.all_nil, List.length_cons, List.length_nil, Nat.reduceAdd, Nat.reduceLeDiff, decide_true, Bool.and_true, Bool.true_and, Bool.and_self, *]; done) | fail) only [↓e_seq, ↓e_sl, ↓e_part, ↓e_par, ↓e_cupSet, ↓e_ifS, ↓e_ret, ↓e_drop, ↓e_asg, ↓e_B, ↓e_notB, ↓e_andB, ↓e_orB, ↓e_notD, ↓e_andD, ↓e_orD, ↓e_if, ↓e_op, ↓e_cons, ↓e_call, ↓e_icall, ↓e_tup', ↓e_lst, ↓e_neg, ↓e_chain, ↓e_last, ↓e_link, ↓e_un, ↓e_isi', ↓e_lc, ↓e_iseq, ↓e_for, ↓e_run0, ↓e_run1, ↓e_run2, ↓e_run3, ↓e_run4, ↓e_run5, ↓e_run6, ↓e_run7, ↓e_run8, k_sl1, k_sl2, sl_tup, sl_lst, e_noPart, k_part, revA_t, revA_l, k_par, put_nil, put_cons, e_ix0, e_ix1, k_cup0, k_cup1, in_ii2, zip_tt, zip_ll, then_ok, k_seqN, k_seqR, k_seqB, k_seqC, k_ifST, k_ifSF, e_skip, k_ret, e_retN, e_brk, e_cont, k_drop, k_asgName, k_asgTup, optE_some, g_tup, g_name, g_cons, g_nil, Option.bind_some, st0, stS, k_asB, k_notB, k_andBT, k_andBF, k_orBT, k_orBF, k_notD, k_andDT, k_andDF, k_orDT, k_orDF, k_ifT, k_ifF, e_C, k_op1, e_nil, k_c1, k_c2, k_tup, k_lst, k_neg, k_chain, k_link1, k_link2T, k_link2F, k_isi_int, k_isi_bl, k_isi_non, k_isi_str, k_isi_tup, k_isi_lst, D.isInt, D.isBool, D.isStr, D.isTup, D.isLst, k_runR, k_runN, k_lst', k_lc, l_nil, l_cons, optL_some, k_l1T, k_l1F, k_l2, e_yes, w_nil, w_cons, seqD_tup, seqD_lst, k_for, f_nil, f_cons, optF_some, k_f1N, k_f1C, k_f1B, k_f1R, len_tup, len_lst, len_scr, abs_i, int_i, int_b, list_l, list_t, list_s, tup_l, tup_t, max2, min2, sum_l, sum_t, okS_some, ints_nil, ints_cons, bls_nil, bls_cons, okB_some, all_l, any_l, lt_ii, le_ii, gt_ii, ge_ii, isN_non, isN_int, isN_bl, isN_str, isN_tup, isN_lst, notN_non, notN_int, notN_tup, notN_lst, add_ii', sub_ii', add_tt', add_ll', mul_sm, mul_bg, fdiv_sm, fdiv_bg, mod_sm, pow_sm, eq_ii', ne_ii', ix_tup, ix_lst, varS, var0_int, var0_bl, var0_tup, var0_lst, var0_str, var0_non, var0_cup, var0_scr, List.length_cons, List.length_nil, List.map_cons, List.map_nil, List.cons_append, List.nil_append, List.replicate_succ, List.replicate_zero, env0, Option.map_some, Nat.zero_add, Nat.reduceAdd, Nat.reduceSub, Nat.reduceLeDiff, Int.reduceLT, Int.reduceLE, Bool.not_true, Bool.not_false, decide_true, decide_false, natLit, at0, at1, at2, at3, at4, at5, Int.reduceAdd, Int.reduceSub, Int.reduceMul, Int.reducePow, Int.reduceNeg, Int.reduceDiv, Int.reduceMod, Int.reduceToNat, Int.reduceEq, reduceIte, decide_eq_true_eq, List.all_cons, List.all_nil, List.any_cons, List.any_nil, id, Bool.and_true, Bool.true_and, Bool.and_false, Bool.false_and, Bool.or_true, Bool.or_false, Bool.true_or, Bool.false_or, Bool.false_eq_true, show ((0 : Nat) : Int) = 0 from rfl])
    · have hl := Nat.mod_lt x (show 0 < y by omega)
      have ih := divisor_of_loop (c := c) n y (x % y) (by omega)
      rw [Nat.gcd_comm y, ← Nat.gcd_rec, Nat.gcd_comm] at ih
      have hy' : ¬ (y : Int) = 0 := by omega
      have hy2 : 0 < (y : Int) := by omega
      refine while_turn (c1 := c) (c2 := c) (ρ' := [some (.int y), some (.int ((x % y : Nat) : Int))]) ?_ ?_ ih
      · simp (disch := first | omega | exact Nat.le_of_ble_eq_true rfl | assumption | (simp only [List.length_append, List.length_cons, List.length_nil, List.length_map] <;> omega) | exact rfl | decide | (simp only [pl_int', pl_bl', pl_non', pl1l, pl1t, pl2l, pl2t, pl3l, pl3t, pl4l, pl4t, pl5l, pl5t, pl6l, pl6t, pl7l, pl7t, pl8l, pl8t, pl9l, pl9t, List.all_cons, List.all_nil, List.length_cons, List.length_nil, Nat.reduceAdd, Nat.reduceLeDiff, decide_true, Bool.and_true, Bool.true_and, Bool.and_self, *]; done) | fail) only [↓e_seq, ↓e_sl, ↓e_part, ↓e_par, ↓e_cupSet, ↓e_ifS, ↓e_ret, ↓e_drop, ↓e_asg, ↓e_B, ↓e_notB, ↓e_andB, ↓e_orB, ↓e_notD, ↓e_andD, ↓e_orD, ↓e_if, ↓e_op, ↓e_cons, ↓e_call, ↓e_icall, ↓e_tup', ↓e_lst, ↓e_neg, ↓e_chain, ↓e_last, ↓e_link, ↓e_un, ↓e_isi', ↓e_lc, ↓e_iseq, ↓e_for, ↓e_run0, ↓e_run1, ↓e_run2, ↓e_run3, ↓e_run4, ↓e_run5, ↓e_run6, ↓e_run7, ↓e_run8, k_sl1, k_sl2, sl_tup, sl_lst, e_noPart, k_part, revA_t, revA_l, k_par, put_nil, put_cons, e_ix0, e_ix1, k_cup0, k_cup1, in_ii2, zip_tt, zip_ll, then_ok, k_seqN, k_seqR, k_seqB, k_seqC, k_ifST, k_ifSF, e_skip, k_ret, e_retN, e_brk, e_cont, k_drop, k_asgName, k_asgTup, optE_some, g_tup, g_name, g_cons, g_nil, Option.bind_some, st0, stS, k_asB, k_notB, k_andBT, k_andBF, k_orBT, k_orBF, k_notD, k_andDT, k_andDF, k_orDT, k_orDF, k_ifT, k_ifF, e_C, k_op1, e_nil, k_c1, k_c2, k_tup, k_lst, k_neg, k_chain, k_link1, k_link2T, k_link2F, k_isi_int, k_isi_bl, k_isi_non, k_isi_str, k_isi_tup, k_isi_lst, D.isInt, D.isBool, D.isStr, D.isTup, D.isLst, k_runR, k_runN, k_lst', k_lc, l_nil, l_cons, optL_some, k_l1T, k_l1F, k_l2, e_yes, w_nil, w_cons, seqD_tup, seqD_lst, k_for, f_nil, f_cons, optF_some, k_f1N, k_f1C, k_f1B, k_f1R, len_tup, len_lst, len_scr, abs_i, int_i, int_b, list_l, list_t, list_s, tup_l, tup_t, max2, min2, sum_l, sum_t, okS_some, ints_nil, ints_cons, bls_nil, bls_cons, okB_some, all_l, any_l, lt_ii, le_ii, gt_ii, ge_ii, isN_non, isN_int, isN_bl, isN_str, isN_tup, isN_lst, notN_non, notN_int, notN_tup, notN_lst, add_ii', sub_ii', add_tt', add_ll', mul_sm, mul_bg, fdiv_sm, fdiv_bg, mod_sm, pow_sm, eq_ii', ne_ii', ix_tup, ix_lst, varS, var0_int, var0_bl, var0_tup, var0_lst, var0_str, var0_non, var0_cup, var0_scr, List.length_cons, List.length_nil, List.map_cons, List.map_nil, List.cons_append, List.nil_append, List.replicate_succ, List.replicate_zero, env0, Option.map_some, Nat.zero_add, Nat.reduceAdd, Nat.reduceSub, Nat.reduceLeDiff, Int.reduceLT, Int.reduceLE, Bool.not_true, Bool.not_false, decide_true, decide_false, natLit, at0, at1, at2, at3, at4, at5, Int.reduceAdd, Int.reduceSub, Int.reduceMul, Int.reducePow, Int.reduceNeg, Int.reduceDiv, Int.reduceMod, Int.reduceToNat, Int.reduceEq, reduceIte, decide_eq_true_eq, List.all_cons, List.all_nil, List.any_cons, List.any_nil, id, Bool.and_true, Bool.true_and, Bool.and_false, Bool.false_and, Bool.or_true, Bool.or_false, Bool.true_or, Bool.false_or, Bool.false_eq_true, hy']
      · simp (disch := first | omega | exact Nat.le_of_ble_eq_true rfl | assumption | (simp only [List.length_append, List.length_cons, List.length_nil, List.length_map] <;> omega) | exact rfl | decide | (simp only [pl_int', pl_bl', pl_non', pl1l, pl1t, pl2l, pl2t, pl3l, pl3t, pl4l, pl4t, pl5l, pl5t, pl6l, pl6t, pl7l, pl7t, pl8l, pl8t, pl9l, pl9t, List.all_cons, List.all_nil, List.length_cons, List.length_nil, Nat.reduceAdd, Nat.reduceLeDiff, decide_true, Bool.and_true, Bool.true_and, Bool.and_self, *]; done) | fail) only [↓e_seq, ↓e_sl, ↓e_part, ↓e_par, ↓e_cupSet, ↓e_ifS, ↓e_ret, ↓e_drop, ↓e_asg, ↓e_B, ↓e_notB, ↓e_andB, ↓e_orB, ↓e_notD, ↓e_andD, ↓e_orD, ↓e_if, ↓e_op, ↓e_cons, ↓e_call, ↓e_icall, ↓e_tup', ↓e_lst, ↓e_neg, ↓e_chain, ↓e_last, ↓e_link, ↓e_un, ↓e_isi', ↓e_lc, ↓e_iseq, ↓e_for, ↓e_run0, ↓e_run1, ↓e_run2, ↓e_run3, ↓e_run4, ↓e_run5, ↓e_run6, ↓e_run7, ↓e_run8, k_sl1, k_sl2, sl_tup, sl_lst, e_noPart, k_part, revA_t, revA_l, k_par, put_nil, put_cons, e_ix0, e_ix1, k_cup0, k_cup1, in_ii2, zip_tt, zip_ll, then_ok, k_seqN, k_seqR, k_seqB, k_seqC, k_ifST, k_ifSF, e_skip, k_ret, e_retN, e_brk, e_cont, k_drop, k_asgName, k_asgTup, optE_some, g_tup, g_name, g_cons, g_nil, Option.bind_some, st0, stS, k_asB, k_notB, k_andBT, k_andBF, k_orBT, k_orBF, k_notD, k_andDT, k_andDF, k_orDT, k_orDF, k_ifT, k_ifF, e_C, k_op1, e_nil, k_c1, k_c2, k_tup, k_lst, k_neg, k_chain, k_link1, k_link2T, k_link2F, k_isi_int, k_isi_bl, k_isi_non, k_isi_str, k_isi_tup, k_isi_lst, D.isInt, D.isBool, D.isStr, D.isTup, D.isLst, k_runR, k_runN, k_lst', k_lc, l_nil, l_cons, optL_some, k_l1T, k_l1F, k_l2, e_yes, w_nil, w_cons, seqD_tup, seqD_lst, k_for, f_nil, f_cons, optF_some, k_f1N, k_f1C, k_f1B, k_f1R, len_tup, len_lst, len_scr, abs_i, int_i, int_b, list_l, list_t, list_s, tup_l, tup_t, max2, min2, sum_l, sum_t, okS_some, ints_nil, ints_cons, bls_nil, bls_cons, okB_some, all_l, any_l, lt_ii, le_ii, gt_ii, ge_ii, isN_non, isN_int, isN_bl, isN_str, isN_tup, isN_lst, notN_non, notN_int, notN_tup, notN_lst, add_ii', sub_ii', add_tt', add_ll', mul_sm, mul_bg, fdiv_sm, fdiv_bg, mod_sm, pow_sm, eq_ii', ne_ii', ix_tup, ix_lst, varS, var0_int, var0_bl, var0_tup, var0_lst, var0_str, var0_non, var0_cup, var0_scr, List.length_cons, List.length_nil, List.map_cons, List.map_nil, List.cons_append, List.nil_append, List.replicate_succ, List.replicate_zero, env0, Option.map_some, Nat.zero_add, Nat.reduceAdd, Nat.reduceSub, Nat.reduceLeDiff, Int.reduceLT, Int.reduceLE, Bool.not_true, Bool.not_false, decide_true, decide_false, natLit, at0, at1, at2, at3, at4, at5, Int.reduceAdd, Int.reduceSub, Int.reduceMul, Int.reducePow, Int.reduceNeg, Int.reduceDiv, Int.reduceMod, Int.reduceToNat, Int.reduceEq, reduceIte, decide_eq_true_eq, List.all_cons, List.all_nil, List.any_cons, List.any_nil, id, Bool.and_true, Bool.true_and, Bool.and_false, Bool.false_and, Bool.or_true, Bool.or_false, Bool.true_or, Bool.false_or, Bool.false_eq_true, Int.natCast_emod]
theorem divisor_of_ok {a b : Int} {c : Cup} : f_divisor_of [.int a, .int b] c = .ok (.int (Int.gcd a b)) c := by
  simp (disch := first | omega | exact Nat.le_of_ble_eq_true rfl | assumption | (simp only [List.length_append, List.length_cons, List.length_nil, List.length_map] <;> omega) | exact rfl | decide | (simp only [pl_int', pl_bl', pl_non', pl1l, pl1t, pl2l, pl2t, pl3l, pl3t, pl4l, pl4t, pl5l, pl5t, pl6l, pl6t, pl7l, pl7t, pl8l, pl8t, pl9l, pl9t, List.all_cons, List.all_nil, List.length_cons, List.length_nil, Nat.reduceAdd, Nat.reduceLeDiff, decide_true, Bool.and_true, Bool.true_and, Bool.and_self, *]; done) | fail) only [↓e_seq, ↓e_sl, ↓e_part, ↓e_par, ↓e_cupSet, ↓e_ifS, ↓e_ret, ↓e_drop, ↓e_asg, ↓e_B, ↓e_notB, ↓e_andB, ↓e_orB, ↓e_notD, ↓e_andD, ↓e_orD, ↓e_if, ↓e_op, ↓e_cons, ↓e_call, ↓e_icall, ↓e_tup', ↓e_lst, ↓e_neg, ↓e_chain, ↓e_last, ↓e_link, ↓e_un, ↓e_isi', ↓e_lc, ↓e_iseq, ↓e_for, ↓e_run0, ↓e_run1, ↓e_run2, ↓e_run3, ↓e_run4, ↓e_run5, ↓e_run6, ↓e_run7, ↓e_run8, k_sl1, k_sl2, sl_tup, sl_lst, e_noPart, k_part, revA_t, revA_l, k_par, put_nil, put_cons, e_ix0, e_ix1, k_cup0, k_cup1, in_ii2, zip_tt, zip_ll, then_ok, k_seqN, k_seqR, k_seqB, k_seqC, k_ifST, k_ifSF, e_skip, k_ret, e_retN, e_brk, e_cont, k_drop, k_asgName, k_asgTup, optE_some, g_tup, g_name, g_cons, g_nil, Option.bind_some, st0, stS, k_asB, k_notB, k_andBT, k_andBF, k_orBT, k_orBF, k_notD, k_andDT, k_andDF, k_orDT, k_orDF, k_ifT, k_ifF, e_C, k_op1, e_nil, k_c1, k_c2, k_tup, k_lst, k_neg, k_chain, k_link1, k_link2T, k_link2F, k_isi_int, k_isi_bl, k_isi_non, k_isi_str, k_isi_tup, k_isi_lst, D.isInt, D.isBool, D.isStr, D.isTup, D.isLst, k_runR, k_runN, k_lst', k_lc, l_nil, l_cons, optL_some, k_l1T, k_l1F, k_l2, e_yes, w_nil, w_cons, seqD_tup, seqD_lst, k_for, f_nil, f_cons, optF_some, k_f1N, k_f1C, k_f1B, k_f1R, len_tup, len_lst, len_scr, abs_i, int_i, int_b, list_l, list_t, list_s, tup_l, tup_t, max2, min2, sum_l, sum_t, okS_some, ints_nil, ints_cons, bls_nil, bls_cons, okB_some, all_l, any_l, lt_ii, le_ii, gt_ii, ge_ii, isN_non, isN_int, isN_bl, isN_str, isN_tup, isN_lst, notN_non, notN_int, notN_tup, notN_lst, add_ii', sub_ii', add_tt', add_ll', mul_sm, mul_bg, fdiv_sm, fdiv_bg, mod_sm, pow_sm, eq_ii', ne_ii', ix_tup, ix_lst, varS, var0_int, var0_bl, var0_tup, var0_lst, var0_str, var0_non, var0_cup, var0_scr, List.length_cons, List.length_nil, List.map_cons, List.map_nil, List.cons_append, List.nil_append, List.replicate_succ, List.replicate_zero, env0, Option.map_some, Nat.zero_add, Nat.reduceAdd, Nat.reduceSub, Nat.reduceLeDiff, Int.reduceLT, Int.reduceLE, Bool.not_true, Bool.not_false, decide_true, decide_false, natLit, at0, at1, at2, at3, at4, at5, Int.reduceAdd, Int.reduceSub, Int.reduceMul, Int.reducePow, Int.reduceNeg, Int.reduceDiv, Int.reduceMod, Int.reduceToNat, Int.reduceEq, reduceIte, decide_eq_true_eq, List.all_cons, List.all_nil, List.any_cons, List.any_nil, id, Bool.and_true, Bool.true_and, Bool.and_false, Bool.false_and, Bool.or_true, Bool.or_false, Bool.true_or, Bool.false_or, Bool.false_eq_true, f_divisor_of, b_divisor_of, abs_nat, divisor_of_loop _ _ _ (Nat.le_refl _)]
  rfl
abbrev G : Int := 1000000000000000000000000000000000000000000000000000000000000
theorem fr_g {x n : Int} (h : Fr G x n) : -1000000000000000000000000000000000000000000000000000000000000 < x ∧ x < 1000000000000000000000000000000000000000000000000000000000000 ∧ n < 1000000000000000000000000000000000000000000000000000000000000 ∧ 1 ≤ n := ⟨h.x1, h.x2, h.nB, h.n1⟩
section
variable {a b x n m : Int} {c : Cup}
abbrev pr (x n : Int) : D := .tup [.int x, .int n]
theorem fits_fr (h : Fr G x n) : f_fits_fraction [pr x n] c = .ok (.bl true) c := by
  obtain ⟨h1, h2, h3, h4⟩ := fr_g h
  have h5 : -1000000000000000000000000000000000000000000000000000000000000 < n := by omega
  simp (disch := first | omega | exact Nat.le_of_ble_eq_true rfl | assumption | (simp only [List.length_append, List.length_cons, List.length_nil, List.length_map] <;> omega) | exact rfl | decide | (simp only [pl_int', pl_bl', pl_non', pl1l, pl1t, pl2l, pl2t, pl3l, pl3t, pl4l, pl4t, pl5l, pl5t, pl6l, pl6t, pl7l, pl7t, pl8l, pl8t, pl9l, pl9t, List.all_cons, List.all_nil, List.length_cons, List.length_nil, Nat.reduceAdd, Nat.reduceLeDiff, decide_true, Bool.and_true, Bool.true_and, Bool.and_self, *]; done) | fail) only [↓e_seq, ↓e_sl, ↓e_part, ↓e_par, ↓e_cupSet, ↓e_ifS, ↓e_ret, ↓e_drop, ↓e_asg, ↓e_B, ↓e_notB, ↓e_andB, ↓e_orB, ↓e_notD, ↓e_andD, ↓e_orD, ↓e_if, ↓e_op, ↓e_cons, ↓e_call, ↓e_icall, ↓e_tup', ↓e_lst, ↓e_neg, ↓e_chain, ↓e_last, ↓e_link, ↓e_un, ↓e_isi', ↓e_lc, ↓e_iseq, ↓e_for, ↓e_run0, ↓e_run1, ↓e_run2, ↓e_run3, ↓e_run4, ↓e_run5, ↓e_run6, ↓e_run7, ↓e_run8, k_sl1, k_sl2, sl_tup, sl_lst, e_noPart, k_part, revA_t, revA_l, k_par, put_nil, put_cons, e_ix0, e_ix1, k_cup0, k_cup1, in_ii2, zip_tt, zip_ll, then_ok, k_seqN, k_seqR, k_seqB, k_seqC, k_ifST, k_ifSF, e_skip, k_ret, e_retN, e_brk, e_cont, k_drop, k_asgName, k_asgTup, optE_some, g_tup, g_name, g_cons, g_nil, Option.bind_some, st0, stS, k_asB, k_notB, k_andBT, k_andBF, k_orBT, k_orBF, k_notD, k_andDT, k_andDF, k_orDT, k_orDF, k_ifT, k_ifF, e_C, k_op1, e_nil, k_c1, k_c2, k_tup, k_lst, k_neg, k_chain, k_link1, k_link2T, k_link2F, k_isi_int, k_isi_bl, k_isi_non, k_isi_str, k_isi_tup, k_isi_lst, D.isInt, D.isBool, D.isStr, D.isTup, D.isLst, k_runR, k_runN, k_lst', k_lc, l_nil, l_cons, optL_some, k_l1T, k_l1F, k_l2, e_yes, w_nil, w_cons, seqD_tup, seqD_lst, k_for, f_nil, f_cons, optF_some, k_f1N, k_f1C, k_f1B, k_f1R, len_tup, len_lst, len_scr, abs_i, int_i, int_b, list_l, list_t, list_s, tup_l, tup_t, max2, min2, sum_l, sum_t, okS_some, ints_nil, ints_cons, bls_nil, bls_cons, okB_some, all_l, any_l, lt_ii, le_ii, gt_ii, ge_ii, isN_non, isN_int, isN_bl, isN_str, isN_tup, isN_lst, notN_non, notN_int, notN_tup, notN_lst, add_ii', sub_ii', add_tt', add_ll', mul_sm, mul_bg, fdiv_sm, fdiv_bg, mod_sm, pow_sm, eq_ii', ne_ii', ix_tup, ix_lst, varS, var0_int, var0_bl, var0_tup, var0_lst, var0_str, var0_non, var0_cup, var0_scr, List.length_cons, List.length_nil, List.map_cons, List.map_nil, List.cons_append, List.nil_append, List.replicate_succ, List.replicate_zero, env0, Option.map_some, Nat.zero_add, Nat.reduceAdd, Nat.reduceSub, Nat.reduceLeDiff, Int.reduceLT, Int.reduceLE, Bool.not_true, Bool.not_false, decide_true, decide_false, natLit, at0, at1, at2, at3, at4, at5, Int.reduceAdd, Int.reduceSub, Int.reduceMul, Int.reducePow, Int.reduceNeg, Int.reduceDiv, Int.reduceMod, Int.reduceToNat, Int.reduceEq, reduceIte, decide_eq_true_eq, List.all_cons, List.all_nil, List.any_cons, List.any_nil, id, Bool.and_true, Bool.true_and, Bool.and_false, Bool.false_and, Bool.or_true, Bool.or_false, Bool.true_or, Bool.false_or, Bool.false_eq_true, f_fits_fraction, b_fits_fraction, f_is_tuple_of, b_is_tuple_of, f_is_integer, b_is_integer, divisor_of_ok, h1, h2, h3, h4, h5, h.g]
theorem need_fr (h : Fr G x n) : f_need_fraction [pr x n] c = .ok .non c := by
  simp (disch := first | omega | exact Nat.le_of_ble_eq_true rfl | assumption | (simp only [List.length_append, List.length_cons, List.length_nil, List.length_map] <;> omega) | exact rfl | decide | (simp only [pl_int', pl_bl', pl_non', pl1l, pl1t, pl2l, pl2t, pl3l, pl3t, pl4l, pl4t, pl5l, pl5t, pl6l, pl6t, pl7l, pl7t, pl8l, pl8t, pl9l, pl9t, List.all_cons, List.all_nil, List.length_cons, List.length_nil, Nat.reduceAdd, Nat.reduceLeDiff, decide_true, Bool.and_true, Bool.true_and, Bool.and_self, *]; done) | fail) only [↓e_seq, ↓e_sl, ↓e_part, ↓e_par, ↓e_cupSet, ↓e_ifS, ↓e_ret, ↓e_drop, ↓e_asg, ↓e_B, ↓e_notB, ↓e_andB, ↓e_orB, ↓e_notD, ↓e_andD, ↓e_orD, ↓e_if, ↓e_op, ↓e_cons, ↓e_call, ↓e_icall, ↓e_tup', ↓e_lst, ↓e_neg, ↓e_chain, ↓e_last, ↓e_link, ↓e_un, ↓e_isi', ↓e_lc, ↓e_iseq, ↓e_for, ↓e_run0, ↓e_run1, ↓e_run2, ↓e_run3, ↓e_run4, ↓e_run5, ↓e_run6, ↓e_run7, ↓e_run8, k_sl1, k_sl2, sl_tup, sl_lst, e_noPart, k_part, revA_t, revA_l, k_par, put_nil, put_cons, e_ix0, e_ix1, k_cup0, k_cup1, in_ii2, zip_tt, zip_ll, then_ok, k_seqN, k_seqR, k_seqB, k_seqC, k_ifST, k_ifSF, e_skip, k_ret, e_retN, e_brk, e_cont, k_drop, k_asgName, k_asgTup, optE_some, g_tup, g_name, g_cons, g_nil, Option.bind_some, st0, stS, k_asB, k_notB, k_andBT, k_andBF, k_orBT, k_orBF, k_notD, k_andDT, k_andDF, k_orDT, k_orDF, k_ifT, k_ifF, e_C, k_op1, e_nil, k_c1, k_c2, k_tup, k_lst, k_neg, k_chain, k_link1, k_link2T, k_link2F, k_isi_int, k_isi_bl, k_isi_non, k_isi_str, k_isi_tup, k_isi_lst, D.isInt, D.isBool, D.isStr, D.isTup, D.isLst, k_runR, k_runN, k_lst', k_lc, l_nil, l_cons, optL_some, k_l1T, k_l1F, k_l2, e_yes, w_nil, w_cons, seqD_tup, seqD_lst, k_for, f_nil, f_cons, optF_some, k_f1N, k_f1C, k_f1B, k_f1R, len_tup, len_lst, len_scr, abs_i, int_i, int_b, list_l, list_t, list_s, tup_l, tup_t, max2, min2, sum_l, sum_t, okS_some, ints_nil, ints_cons, bls_nil, bls_cons, okB_some, all_l, any_l, lt_ii, le_ii, gt_ii, ge_ii, isN_non, isN_int, isN_bl, isN_str, isN_tup, isN_lst, notN_non, notN_int, notN_tup, notN_lst, add_ii', sub_ii', add_tt', add_ll', mul_sm, mul_bg, fdiv_sm, fdiv_bg, mod_sm, pow_sm, eq_ii', ne_ii', ix_tup, ix_lst, varS, var0_int, var0_bl, var0_tup, var0_lst, var0_str, var0_non, var0_cup, var0_scr, List.length_cons, List.length_nil, List.map_cons, List.map_nil, List.cons_append, List.nil_append, List.replicate_succ, List.replicate_zero, env0, Option.map_some, Nat.zero_add, Nat.reduceAdd, Nat.reduceSub, Nat.reduceLeDiff, Int.reduceLT, Int.reduceLE, Bool.not_true, Bool.not_false, decide_true, decide_false, natLit, at0, at1, at2, at3, at4, at5, Int.reduceAdd, Int.reduceSub, Int.reduceMul, Int.reducePow, Int.reduceNeg, Int.reduceDiv, Int.reduceMod, Int.reduceToNat, Int.reduceEq, reduceIte, decide_eq_true_eq, List.all_cons, List.all_nil, List.any_cons, List.any_nil, id, Bool.and_true, Bool.true_and, Bool.and_false, Bool.false_and, Bool.or_true, Bool.or_false, Bool.true_or, Bool.false_or, Bool.false_eq_true, f_need_fraction, b_need_fraction, fits_fr h]
theorem needs_fr (h : Fr G x n) (h' : Fr G a b) : f_need_fractions [pr x n, pr a b] c = .ok .non c := by
  simp (disch := first | omega | exact Nat.le_of_ble_eq_true rfl | assumption | (simp only [List.length_append, List.length_cons, List.length_nil, List.length_map] <;> omega) | exact rfl | decide | (simp only [pl_int', pl_bl', pl_non', pl1l, pl1t, pl2l, pl2t, pl3l, pl3t, pl4l, pl4t, pl5l, pl5t, pl6l, pl6t, pl7l, pl7t, pl8l, pl8t, pl9l, pl9t, List.all_cons, List.all_nil, List.length_cons, List.length_nil, Nat.reduceAdd, Nat.reduceLeDiff, decide_true, Bool.and_true, Bool.true_and, Bool.and_self, *]; done) | fail) only [↓e_seq, ↓e_sl, ↓e_part, ↓e_par, ↓e_cupSet, ↓e_ifS, ↓e_ret, ↓e_drop, ↓e_asg, ↓e_B, ↓e_notB, ↓e_andB, ↓e_orB, ↓e_notD, ↓e_andD, ↓e_orD, ↓e_if, ↓e_op, ↓e_cons, ↓e_call, ↓e_icall, ↓e_tup', ↓e_lst, ↓e_neg, ↓e_chain, ↓e_last, ↓e_link, ↓e_un, ↓e_isi', ↓e_lc, ↓e_iseq, ↓e_for, ↓e_run0, ↓e_run1, ↓e_run2, ↓e_run3, ↓e_run4, ↓e_run5, ↓e_run6, ↓e_run7, ↓e_run8, k_sl1, k_sl2, sl_tup, sl_lst, e_noPart, k_part, revA_t, revA_l, k_par, put_nil, put_cons, e_ix0, e_ix1, k_cup0, k_cup1, in_ii2, zip_tt, zip_ll, then_ok, k_seqN, k_seqR, k_seqB, k_seqC, k_ifST, k_ifSF, e_skip, k_ret, e_retN, e_brk, e_cont, k_drop, k_asgName, k_asgTup, optE_some, g_tup, g_name, g_cons, g_nil, Option.bind_some, st0, stS, k_asB, k_notB, k_andBT, k_andBF, k_orBT, k_orBF, k_notD, k_andDT, k_andDF, k_orDT, k_orDF, k_ifT, k_ifF, e_C, k_op1, e_nil, k_c1, k_c2, k_tup, k_lst, k_neg, k_chain, k_link1, k_link2T, k_link2F, k_isi_int, k_isi_bl, k_isi_non, k_isi_str, k_isi_tup, k_isi_lst, D.isInt, D.isBool, D.isStr, D.isTup, D.isLst, k_runR, k_runN, k_lst', k_lc, l_nil, l_cons, optL_some, k_l1T, k_l1F, k_l2, e_yes, w_nil, w_cons, seqD_tup, seqD_lst, k_for, f_nil, f_cons, optF_some, k_f1N, k_f1C, k_f1B, k_f1R, len_tup, len_lst, len_scr, abs_i, int_i, int_b, list_l, list_t, list_s, tup_l, tup_t, max2, min2, sum_l, sum_t, okS_some, ints_nil, ints_cons, bls_nil, bls_cons, okB_some, all_l, any_l, lt_ii, le_ii, gt_ii, ge_ii, isN_non, isN_int, isN_bl, isN_str, isN_tup, isN_lst, notN_non, notN_int, notN_tup, notN_lst, add_ii', sub_ii', add_tt', add_ll', mul_sm, mul_bg, fdiv_sm, fdiv_bg, mod_sm, pow_sm, eq_ii', ne_ii', ix_tup, ix_lst, varS, var0_int, var0_bl, var0_tup, var0_lst, var0_str, var0_non, var0_cup, var0_scr, List.length_cons, List.length_nil, List.map_cons, List.map_nil, List.cons_append, List.nil_append, List.replicate_succ, List.replicate_zero, env0, Option.map_some, Nat.zero_add, Nat.reduceAdd, Nat.reduceSub, Nat.reduceLeDiff, Int.reduceLT, Int.reduceLE, Bool.not_true, Bool.not_false, decide_true, decide_false, natLit, at0, at1, at2, at3, at4, at5, Int.reduceAdd, Int.reduceSub, Int.reduceMul, Int.reducePow, Int.reduceNeg, Int.reduceDiv, Int.reduceMod, Int.reduceToNat, Int.reduceEq, reduceIte, decide_eq_true_eq, List.all_cons, List.all_nil, List.any_cons, List.any_nil, id, Bool.and_true, Bool.true_and, Bool.and_false, Bool.false_and, Bool.or_true, Bool.or_false, Bool.true_or, Bool.false_or, Bool.false_eq_true, f_need_fractions, b_need_fractions, need_fr h, need_fr h']
theorem abs_one {t : Int} : ((t.natAbs : Int) = 1) ↔ (t = 1 ∨ t = -1) := by omega
/-- whether two circles touch -/
def toB (a n x m : Int) : Bool := decide (a * m - n * x = 1 ∨ a * m - n * x = -1)
theorem touching_ok (h : Fr G a n) (h' : Fr G x m) : f_are_touching [pr a n, pr x m] c = .ok (.bl (toB a n x m)) c := by
  obtain ⟨h1, h2, h3, h4⟩ := fr_g h
  obtain ⟨i1, i2, i3, i4⟩ := fr_g h'
  simp (disch := first | omega | exact Nat.le_of_ble_eq_true rfl | assumption | (simp only [List.length_append, List.length_cons, List.length_nil, List.length_map] <;> omega) | exact rfl | decide | (simp only [pl_int', pl_bl', pl_non', pl1l, pl1t, pl2l, pl2t, pl3l, pl3t, pl4l, pl4t, pl5l, pl5t, pl6l, pl6t, pl7l, pl7t, pl8l, pl8t, pl9l, pl9t, List.all_cons, List.all_nil, List.length_cons, List.length_nil, Nat.reduceAdd, Nat.reduceLeDiff, decide_true, Bool.and_true, Bool.true_and, Bool.and_self, *]; done) | fail) only [↓e_seq, ↓e_sl, ↓e_part, ↓e_par, ↓e_cupSet, ↓e_ifS, ↓e_ret, ↓e_drop, ↓e_asg, ↓e_B, ↓e_notB, ↓e_andB, ↓e_orB, ↓e_notD, ↓e_andD, ↓e_orD, ↓e_if, ↓e_op, ↓e_cons, ↓e_call, ↓e_icall, ↓e_tup', ↓e_lst, ↓e_neg, ↓e_chain, ↓e_last, ↓e_link, ↓e_un, ↓e_isi', ↓e_lc, ↓e_iseq, ↓e_for, ↓e_run0, ↓e_run1, ↓e_run2, ↓e_run3, ↓e_run4, ↓e_run5, ↓e_run6, ↓e_run7, ↓e_run8, k_sl1, k_sl2, sl_tup, sl_lst, e_noPart, k_part, revA_t, revA_l, k_par, put_nil, put_cons, e_ix0, e_ix1, k_cup0, k_cup1, in_ii2, zip_tt, zip_ll, then_ok, k_seqN, k_seqR, k_seqB, k_seqC, k_ifST, k_ifSF, e_skip, k_ret, e_retN, e_brk, e_cont, k_drop, k_asgName, k_asgTup, optE_some, g_tup, g_name, g_cons, g_nil, Option.bind_some, st0, stS, k_asB, k_notB, k_andBT, k_andBF, k_orBT, k_orBF, k_notD, k_andDT, k_andDF, k_orDT, k_orDF, k_ifT, k_ifF, e_C, k_op1, e_nil, k_c1, k_c2, k_tup, k_lst, k_neg, k_chain, k_link1, k_link2T, k_link2F, k_isi_int, k_isi_bl, k_isi_non, k_isi_str, k_isi_tup, k_isi_lst, D.isInt, D.isBool, D.isStr, D.isTup, D.isLst, k_runR, k_runN, k_lst', k_lc, l_nil, l_cons, optL_some, k_l1T, k_l1F, k_l2, e_yes, w_nil, w_cons, seqD_tup, seqD_lst, k_for, f_nil, f_cons, optF_some, k_f1N, k_f1C, k_f1B, k_f1R, len_tup, len_lst, len_scr, abs_i, int_i, int_b, list_l, list_t, list_s, tup_l, tup_t, max2, min2, sum_l, sum_t, okS_some, ints_nil, ints_cons, bls_nil, bls_cons, okB_some, all_l, any_l, lt_ii, le_ii, gt_ii, ge_ii, isN_non, isN_int, isN_bl, isN_str, isN_tup, isN_lst, notN_non, notN_int, notN_tup, notN_lst, add_ii', sub_ii', add_tt', add_ll', mul_sm, mul_bg, fdiv_sm, fdiv_bg, mod_sm, pow_sm, eq_ii', ne_ii', ix_tup, ix_lst, varS, var0_int, var0_bl, var0_tup, var0_lst, var0_str, var0_non, var0_cup, var0_scr, List.length_cons, List.length_nil, List.map_cons, List.map_nil, List.cons_append, List.nil_append, List.replicate_succ, List.replicate_zero, env0, Option.map_some, Nat.zero_add, Nat.reduceAdd, Nat.reduceSub, Nat.reduceLeDiff, Int.reduceLT, Int.reduceLE, Bool.not_true, Bool.not_false, decide_true, decide_false, natLit, at0, at1, at2, at3, at4, at5, Int.reduceAdd, Int.reduceSub, Int.reduceMul, Int.reducePow, Int.reduceNeg, Int.reduceDiv, Int.reduceMod, Int.reduceToNat, Int.reduceEq, reduceIte, decide_eq_true_eq, List.all_cons, List.all_nil, List.any_cons, List.any_nil, id, Bool.and_true, Bool.true_and, Bool.and_false, Bool.false_and, Bool.or_true, Bool.or_false, Bool.true_or, Bool.false_or, Bool.false_eq_true, f_are_touching, b_are_touching, abs_nat, abs_one, toB]
theorem do_touch_ok (h : Fr G a n) (h' : Fr G x m) : f_do_ford_touch [pr a n, pr x m] c = .ok (.bl (toB a n x m)) c := by
  simp (disch := first | omega | exact Nat.le_of_ble_eq_true rfl | assumption | (simp only [List.length_append, List.length_cons, List.length_nil, List.length_map] <;> omega) | exact rfl | decide | (simp only [pl_int', pl_bl', pl_non', pl1l, pl1t, pl2l, pl2t, pl3l, pl3t, pl4l, pl4t, pl5l, pl5t, pl6l, pl6t, pl7l, pl7t, pl8l, pl8t, pl9l, pl9t, List.all_cons, List.all_nil, List.length_cons, List.length_nil, Nat.reduceAdd, Nat.reduceLeDiff, decide_true, Bool.and_true, Bool.true_and, Bool.and_self, *]; done) | fail) only [↓e_seq, ↓e_sl, ↓e_part, ↓e_par, ↓e_cupSet, ↓e_ifS, ↓e_ret, ↓e_drop, ↓e_asg, ↓e_B, ↓e_notB, ↓e_andB, ↓e_orB, ↓e_notD, ↓e_andD, ↓e_orD, ↓e_if, ↓e_op, ↓e_cons, ↓e_call, ↓e_icall, ↓e_tup', ↓e_lst, ↓e_neg, ↓e_chain, ↓e_last, ↓e_link, ↓e_un, ↓e_isi', ↓e_lc, ↓e_iseq, ↓e_for, ↓e_run0, ↓e_run1, ↓e_run2, ↓e_run3, ↓e_run4, ↓e_run5, ↓e_run6, ↓e_run7, ↓e_run8, k_sl1, k_sl2, sl_tup, sl_lst, e_noPart, k_part, revA_t, revA_l, k_par, put_nil, put_cons, e_ix0, e_ix1, k_cup0, k_cup1, in_ii2, zip_tt, zip_ll, then_ok, k_seqN, k_seqR, k_seqB, k_seqC, k_ifST, k_ifSF, e_skip, k_ret, e_retN, e_brk, e_cont, k_drop, k_asgName, k_asgTup, optE_some, g_tup, g_name, g_cons, g_nil, Option.bind_some, st0, stS, k_asB, k_notB, k_andBT, k_andBF, k_orBT, k_orBF, k_notD, k_andDT, k_andDF, k_orDT, k_orDF, k_ifT, k_ifF, e_C, k_op1, e_nil, k_c1, k_c2, k_tup, k_lst, k_neg, k_chain, k_link1, k_link2T, k_link2F, k_isi_int, k_isi_bl, k_isi_non, k_isi_str, k_isi_tup, k_isi_lst, D.isInt, D.isBool, D.isStr, D.isTup, D.isLst, k_runR, k_runN, k_lst', k_lc, l_nil, l_cons, optL_some, k_l1T, k_l1F, k_l2, e_yes, w_nil, w_cons, seqD_tup, seqD_lst, k_for, f_nil, f_cons, optF_some, k_f1N, k_f1C, k_f1B, k_f1R, len_tup, len_lst, len_scr, abs_i, int_i, int_b, list_l, list_t, list_s, tup_l, tup_t, max2, min2, sum_l, sum_t, okS_some, ints_nil, ints_cons, bls_nil, bls_cons, okB_some, all_l, any_l, lt_ii, le_ii, gt_ii, ge_ii, isN_non, isN_int, isN_bl, isN_str, isN_tup, isN_lst, notN_non, notN_int, notN_tup, notN_lst, add_ii', sub_ii', add_tt', add_ll', mul_sm, mul_bg, fdiv_sm, fdiv_bg, mod_sm, pow_sm, eq_ii', ne_ii', ix_tup, ix_lst, varS, var0_int, var0_bl, var0_tup, var0_lst, var0_str, var0_non, var0_cup, var0_scr, List.length_cons, List.length_nil, List.map_cons, List.map_nil, List.cons_append, List.nil_append, List.replicate_succ, List.replicate_zero, env0, Option.map_some, Nat.zero_add, Nat.reduceAdd, Nat.reduceSub, Nat.reduceLeDiff, Int.reduceLT, Int.reduceLE, Bool.not_true, Bool.not_false, decide_true, decide_false, natLit, at0, at1, at2, at3, at4, at5, Int.reduceAdd, Int.reduceSub, Int.reduceMul, Int.reducePow, Int.reduceNeg, Int.reduceDiv, Int.reduceMod, Int.reduceToNat, Int.reduceEq, reduceIte, decide_eq_true_eq, List.all_cons, List.all_nil, List.any_cons, List.any_nil, id, Bool.and_true, Bool.true_and, Bool.and_false, Bool.false_and, Bool.or_true, Bool.or_false, Bool.true_or, Bool.false_or, Bool.false_eq_true, f_do_ford_touch, b_do_ford_touch, needs_fr h h', touching_ok h h']
theorem eqv_pr : (pr a n).eqv (pr x m) = (decide (a = x) && decide (n = m)) := by
  simp [D.eqv, D.toPy, D.toPys, PySem.PyData.eqv, PySem.PyData.eqvAll, Bool.beq_eq_decide_eq]
theorem ne_pr : neD (pr a n) (pr x m) c = .ok (.bl (!(decide (a = x) && decide (n = m)))) c := by
  show (if (pr a n).shp = true ∧ (pr x m).shp = true then _ else _ : M D) c = _
  rw [if_pos ⟨rfl, rfl⟩, eqv_pr]; rfl
/-- lesser numbers, for the law's own test -/
structure Lo (x n : Int) : Prop where
  h1 : 1 ≤ n
  h2 : n ≤ 1000000
  h3 : -1000000000 ≤ x
  h4 : x ≤ 1000000000
theorem pb {s t A B : Int} (hs : -A ≤ s ∧ s ≤ A) (ht : -B ≤ t ∧ t ≤ B) : -(A * B) ≤ s * t ∧ s * t ≤ A * B := by
  have e := Int.natAbs_mul s t
  have h : s.natAbs * t.natAbs ≤ A.natAbs * B.natAbs := Nat.mul_le_mul (by omega) (by omega)
  have e2 : ((A.natAbs * B.natAbs : Nat) : Int) = A * B := by
    rw [Int.natCast_mul, Int.natAbs_of_nonneg (by omega), Int.natAbs_of_nonneg (by omega)]
  omega
theorem sq_one {t : Int} : t * t = 1 ↔ (t = 1 ∨ t = -1) := by
  constructor
  · intro h
    have h2 : (t - 1) * (t + 1) = 0 := by grind
    rcases Int.mul_eq_zero.mp h2 with h | h <;> omega
  · rintro (h | h) <;> subst h <;> decide
theorem law_touch_ok (L : Lo a n) (L' : Lo x m) : f_u_law_touch [pr a n, pr x m] c = .ok (.bl (toB a n x m)) c := by
  have := L.h1; have := L.h2; have := L.h3; have := L.h4
  have := L'.h1; have := L'.h2; have := L'.h3; have := L'.h4
  have b1 := pb (s := a) (t := m) (A := 1000000000) (B := 1000000) (by omega) (by omega)
  have b2 := pb (s := x) (t := n) (A := 1000000000) (B := 1000000) (by omega) (by omega)
  have b3 := pb (s := n) (t := m) (A := 1000000) (B := 1000000) (by omega) (by omega)
  have b4 := pb (s := a * m - x * n) (t := a * m - x * n) (A := 2000000000000000) (B := 2000000000000000) (by omega) (by omega)
  have e0 : n * x = x * n := Int.mul_comm _ _
  have nm : n * m ≠ 0 := by have := Int.mul_pos (a := n) (b := m) (by omega) (by omega); omega
  have key : ((a * m - x * n) * (a * m - x * n) * (n * m) * (n * m) = n * m * (n * m)) ↔ (a * m - x * n = 1 ∨ a * m - x * n = -1) := by
    rw [← sq_one]
    constructor
    · intro h
      have h2 : (n * m) * ((n * m) * ((a * m - x * n) * (a * m - x * n) - 1)) = 0 := by grind
      rcases Int.mul_eq_zero.mp h2 with h | h
      · exact absurd h nm
      · rcases Int.mul_eq_zero.mp h with h | h
        · exact absurd h nm
        · omega
    · intro h
      rw [h]; grind
  have ne : (a * m - x * n = 1 ∨ a * m - x * n = -1) → ¬ (a = x ∧ n = m) := by
    rintro h ⟨rfl, rfl⟩
    omega
  by_cases h : a * m - x * n = 1 ∨ a * m - x * n = -1
  · have h1 := key.mpr h
    have h3 : (decide (a = x) && decide (n = m)) = false := by
      have := ne h
      rw [Bool.and_eq_false_iff, decide_eq_false_iff_not, decide_eq_false_iff_not]
      omega
    simp (disch := first | omega | exact Nat.le_of_ble_eq_true rfl | assumption | (simp only [List.length_append, List.length_cons, List.length_nil, List.length_map] <;> omega) | exact rfl | decide | (simp only [pl_int', pl_bl', pl_non', pl1l, pl1t, pl2l, pl2t, pl3l, pl3t, pl4l, pl4t, pl5l, pl5t, pl6l, pl6t, pl7l, pl7t, pl8l, pl8t, pl9l, pl9t, List.all_cons, List.all_nil, List.length_cons, List.length_nil, Nat.reduceAdd, Nat.reduceLeDiff, decide_true, Bool.and_true, Bool.true_and, Bool.and_self, *]; done) | fail) only [↓e_seq, ↓e_sl, ↓e_part, ↓e_par, ↓e_cupSet, ↓e_ifS, ↓e_ret, ↓e_drop, ↓e_asg, ↓e_B, ↓e_notB, ↓e_andB, ↓e_orB, ↓e_notD, ↓e_andD, ↓e_orD, ↓e_if, ↓e_op, ↓e_cons, ↓e_call, ↓e_icall, ↓e_tup', ↓e_lst, ↓e_neg, ↓e_chain, ↓e_last, ↓e_link, ↓e_un, ↓e_isi', ↓e_lc, ↓e_iseq, ↓e_for, ↓e_run0, ↓e_run1, ↓e_run2, ↓e_run3, ↓e_run4, ↓e_run5, ↓e_run6, ↓e_run7, ↓e_run8, k_sl1, k_sl2, sl_tup, sl_lst, e_noPart, k_part, revA_t, revA_l, k_par, put_nil, put_cons, e_ix0, e_ix1, k_cup0, k_cup1, in_ii2, zip_tt, zip_ll, then_ok, k_seqN, k_seqR, k_seqB, k_seqC, k_ifST, k_ifSF, e_skip, k_ret, e_retN, e_brk, e_cont, k_drop, k_asgName, k_asgTup, optE_some, g_tup, g_name, g_cons, g_nil, Option.bind_some, st0, stS, k_asB, k_notB, k_andBT, k_andBF, k_orBT, k_orBF, k_notD, k_andDT, k_andDF, k_orDT, k_orDF, k_ifT, k_ifF, e_C, k_op1, e_nil, k_c1, k_c2, k_tup, k_lst, k_neg, k_chain, k_link1, k_link2T, k_link2F, k_isi_int, k_isi_bl, k_isi_non, k_isi_str, k_isi_tup, k_isi_lst, D.isInt, D.isBool, D.isStr, D.isTup, D.isLst, k_runR, k_runN, k_lst', k_lc, l_nil, l_cons, optL_some, k_l1T, k_l1F, k_l2, e_yes, w_nil, w_cons, seqD_tup, seqD_lst, k_for, f_nil, f_cons, optF_some, k_f1N, k_f1C, k_f1B, k_f1R, len_tup, len_lst, len_scr, abs_i, int_i, int_b, list_l, list_t, list_s, tup_l, tup_t, max2, min2, sum_l, sum_t, okS_some, ints_nil, ints_cons, bls_nil, bls_cons, okB_some, all_l, any_l, lt_ii, le_ii, gt_ii, ge_ii, isN_non, isN_int, isN_bl, isN_str, isN_tup, isN_lst, notN_non, notN_int, notN_tup, notN_lst, add_ii', sub_ii', add_tt', add_ll', mul_sm, mul_bg, fdiv_sm, fdiv_bg, mod_sm, pow_sm, eq_ii', ne_ii', ix_tup, ix_lst, varS, var0_int, var0_bl, var0_tup, var0_lst, var0_str, var0_non, var0_cup, var0_scr, List.length_cons, List.length_nil, List.map_cons, List.map_nil, List.cons_append, List.nil_append, List.replicate_succ, List.replicate_zero, env0, Option.map_some, Nat.zero_add, Nat.reduceAdd, Nat.reduceSub, Nat.reduceLeDiff, Int.reduceLT, Int.reduceLE, Bool.not_true, Bool.not_false, decide_true, decide_false, natLit, at0, at1, at2, at3, at4, at5, Int.reduceAdd, Int.reduceSub, Int.reduceMul, Int.reducePow, Int.reduceNeg, Int.reduceDiv, Int.reduceMod, Int.reduceToNat, Int.reduceEq, reduceIte, decide_eq_true_eq, List.all_cons, List.all_nil, List.any_cons, List.any_nil, id, Bool.and_true, Bool.true_and, Bool.and_false, Bool.false_and, Bool.or_true, Bool.or_false, Bool.true_or, Bool.false_or, Bool.false_eq_true, f_u_law_touch, b_u_law_touch, h1, ne_pr, h3, toB, e0, h]
  · have h1 : ¬ ((a * m - x * n) * (a * m - x * n) * (n * m) * (n * m) = n * m * (n * m)) := fun q => h (key.mp q)
    simp (disch := first | omega | exact Nat.le_of_ble_eq_true rfl | assumption | (simp only [List.length_append, List.length_cons, List.length_nil, List.length_map] <;> omega) | exact rfl | decide | (simp only [pl_int', pl_bl', pl_non', pl1l, pl1t, pl2l, pl2t, pl3l, pl3t, pl4l, pl4t, pl5l, pl5t, pl6l, pl6t, pl7l, pl7t, pl8l, pl8t, pl9l, pl9t, List.all_cons, List.all_nil, List.length_cons, List.length_nil, Nat.reduceAdd, Nat.reduceLeDiff, decide_true, Bool.and_true, Bool.true_and, Bool.and_self, *]; done) | fail) only [↓e_seq, ↓e_sl, ↓e_part, ↓e_par, ↓e_cupSet, ↓e_ifS, ↓e_ret, ↓e_drop, ↓e_asg, ↓e_B, ↓e_notB, ↓e_andB, ↓e_orB, ↓e_notD, ↓e_andD, ↓e_orD, ↓e_if, ↓e_op, ↓e_cons, ↓e_call, ↓e_icall, ↓e_tup', ↓e_lst, ↓e_neg, ↓e_chain, ↓e_last, ↓e_link, ↓e_un, ↓e_isi', ↓e_lc, ↓e_iseq, ↓e_for, ↓e_run0, ↓e_run1, ↓e_run2, ↓e_run3, ↓e_run4, ↓e_run5, ↓e_run6, ↓e_run7, ↓e_run8, k_sl1, k_sl2, sl_tup, sl_lst, e_noPart, k_part, revA_t, revA_l, k_par, put_nil, put_cons, e_ix0, e_ix1, k_cup0, k_cup1, in_ii2, zip_tt, zip_ll, then_ok, k_seqN, k_seqR, k_seqB, k_seqC, k_ifST, k_ifSF, e_skip, k_ret, e_retN, e_brk, e_cont, k_drop, k_asgName, k_asgTup, optE_some, g_tup, g_name, g_cons, g_nil, Option.bind_some, st0, stS, k_asB, k_notB, k_andBT, k_andBF, k_orBT, k_orBF, k_notD, k_andDT, k_andDF, k_orDT, k_orDF, k_ifT, k_ifF, e_C, k_op1, e_nil, k_c1, k_c2, k_tup, k_lst, k_neg, k_chain, k_link1, k_link2T, k_link2F, k_isi_int, k_isi_bl, k_isi_non, k_isi_str, k_isi_tup, k_isi_lst, D.isInt, D.isBool, D.isStr, D.isTup, D.isLst, k_runR, k_runN, k_lst', k_lc, l_nil, l_cons, optL_some, k_l1T, k_l1F, k_l2, e_yes, w_nil, w_cons, seqD_tup, seqD_lst, k_for, f_nil, f_cons, optF_some, k_f1N, k_f1C, k_f1B, k_f1R, len_tup, len_lst, len_scr, abs_i, int_i, int_b, list_l, list_t, list_s, tup_l, tup_t, max2, min2, sum_l, sum_t, okS_some, ints_nil, ints_cons, bls_nil, bls_cons, okB_some, all_l, any_l, lt_ii, le_ii, gt_ii, ge_ii, isN_non, isN_int, isN_bl, isN_str, isN_tup, isN_lst, notN_non, notN_int, notN_tup, notN_lst, add_ii', sub_ii', add_tt', add_ll', mul_sm, mul_bg, fdiv_sm, fdiv_bg, mod_sm, pow_sm, eq_ii', ne_ii', ix_tup, ix_lst, varS, var0_int, var0_bl, var0_tup, var0_lst, var0_str, var0_non, var0_cup, var0_scr, List.length_cons, List.length_nil, List.map_cons, List.map_nil, List.cons_append, List.nil_append, List.replicate_succ, List.replicate_zero, env0, Option.map_some, Nat.zero_add, Nat.reduceAdd, Nat.reduceSub, Nat.reduceLeDiff, Int.reduceLT, Int.reduceLE, Bool.not_true, Bool.not_false, decide_true, decide_false, natLit, at0, at1, at2, at3, at4, at5, Int.reduceAdd, Int.reduceSub, Int.reduceMul, Int.reducePow, Int.reduceNeg, Int.reduceDiv, Int.reduceMod, Int.reduceToNat, Int.reduceEq, reduceIte, decide_eq_true_eq, List.all_cons, List.all_nil, List.any_cons, List.any_nil, id, Bool.and_true, Bool.true_and, Bool.and_false, Bool.false_and, Bool.or_true, Bool.or_false, Bool.true_or, Bool.false_or, Bool.false_eq_true, f_u_law_touch, b_u_law_touch, h1, ne_pr, toB, e0, h]
theorem least_ok (h : 0 < b) (hb : b < 1000000000000000000000000000000000000000000000000000000000000) (h1 : -1000000000000000000000000000000000000000000000000000000000000 < a ∧ a < 1000000000000000000000000000000000000000000000000000000000000) : ∃ x n g : Int, (∀ c, f_u_law_least [.int a, .int b] c = .ok (pr x n) c) ∧ (∀ c, f_lowest [.int a, .int b] c = .ok (pr x n) c) ∧ 0 < g ∧ a = g * x ∧ b = g * n ∧ Fr G x n := by
  obtain ⟨x, n, g, h3, h4, h5, h6, h7, h8, h9⟩ := low_fr (B := G) h hb h1.1 h1.2
  have hg := gcd_le (a := a) h
  have hn : ¬ b < 0 := by omega
  have hg1 : (if g > 1 then g else 1) = g := by split <;> omega
  refine ⟨x, n, g, fun c => ?_, fun c => ?_, h3, h7, h8, h9⟩
  · simp (disch := first | omega | exact Nat.le_of_ble_eq_true rfl | assumption | (simp only [List.length_append, List.length_cons, List.length_nil, List.length_map] <;> omega) | exact rfl | decide | (simp only [pl_int', pl_bl', pl_non', pl1l, pl1t, pl2l, pl2t, pl3l, pl3t, pl4l, pl4t, pl5l, pl5t, pl6l, pl6t, pl7l, pl7t, pl8l, pl8t, pl9l, pl9t, List.all_cons, List.all_nil, List.length_cons, List.length_nil, Nat.reduceAdd, Nat.reduceLeDiff, decide_true, Bool.and_true, Bool.true_and, Bool.and_self, *]; done) | fail) only [↓e_seq, ↓e_sl, ↓e_part, ↓e_par, ↓e_cupSet, ↓e_ifS, ↓e_ret, ↓e_drop, ↓e_asg, ↓e_B, ↓e_notB, ↓e_andB, ↓e_orB, ↓e_notD, ↓e_andD, ↓e_orD, ↓e_if, ↓e_op, ↓e_cons, ↓e_call, ↓e_icall, ↓e_tup', ↓e_lst, ↓e_neg, ↓e_chain, ↓e_last, ↓e_link, ↓e_un, ↓e_isi', ↓e_lc, ↓e_iseq, ↓e_for, ↓e_run0, ↓e_run1, ↓e_run2, ↓e_run3, ↓e_run4, ↓e_run5, ↓e_run6, ↓e_run7, ↓e_run8, k_sl1, k_sl2, sl_tup, sl_lst, e_noPart, k_part, revA_t, revA_l, k_par, put_nil, put_cons, e_ix0, e_ix1, k_cup0, k_cup1, in_ii2, zip_tt, zip_ll, then_ok, k_seqN, k_seqR, k_seqB, k_seqC, k_ifST, k_ifSF, e_skip, k_ret, e_retN, e_brk, e_cont, k_drop, k_asgName, k_asgTup, optE_some, g_tup, g_name, g_cons, g_nil, Option.bind_some, st0, stS, k_asB, k_notB, k_andBT, k_andBF, k_orBT, k_orBF, k_notD, k_andDT, k_andDF, k_orDT, k_orDF, k_ifT, k_ifF, e_C, k_op1, e_nil, k_c1, k_c2, k_tup, k_lst, k_neg, k_chain, k_link1, k_link2T, k_link2F, k_isi_int, k_isi_bl, k_isi_non, k_isi_str, k_isi_tup, k_isi_lst, D.isInt, D.isBool, D.isStr, D.isTup, D.isLst, k_runR, k_runN, k_lst', k_lc, l_nil, l_cons, optL_some, k_l1T, k_l1F, k_l2, e_yes, w_nil, w_cons, seqD_tup, seqD_lst, k_for, f_nil, f_cons, optF_some, k_f1N, k_f1C, k_f1B, k_f1R, len_tup, len_lst, len_scr, abs_i, int_i, int_b, list_l, list_t, list_s, tup_l, tup_t, max2, min2, sum_l, sum_t, okS_some, ints_nil, ints_cons, bls_nil, bls_cons, okB_some, all_l, any_l, lt_ii, le_ii, gt_ii, ge_ii, isN_non, isN_int, isN_bl, isN_str, isN_tup, isN_lst, notN_non, notN_int, notN_tup, notN_lst, add_ii', sub_ii', add_tt', add_ll', mul_sm, mul_bg, fdiv_sm, fdiv_bg, mod_sm, pow_sm, eq_ii', ne_ii', ix_tup, ix_lst, varS, var0_int, var0_bl, var0_tup, var0_lst, var0_str, var0_non, var0_cup, var0_scr, List.length_cons, List.length_nil, List.map_cons, List.map_nil, List.cons_append, List.nil_append, List.replicate_succ, List.replicate_zero, env0, Option.map_some, Nat.zero_add, Nat.reduceAdd, Nat.reduceSub, Nat.reduceLeDiff, Int.reduceLT, Int.reduceLE, Bool.not_true, Bool.not_false, decide_true, decide_false, natLit, at0, at1, at2, at3, at4, at5, Int.reduceAdd, Int.reduceSub, Int.reduceMul, Int.reducePow, Int.reduceNeg, Int.reduceDiv, Int.reduceMod, Int.reduceToNat, Int.reduceEq, reduceIte, decide_eq_true_eq, List.all_cons, List.all_nil, List.any_cons, List.any_nil, id, Bool.and_true, Bool.true_and, Bool.and_false, Bool.false_and, Bool.or_true, Bool.or_false, Bool.true_or, Bool.false_or, Bool.false_eq_true, f_u_law_least, b_u_law_least, law_divisor_ok, hn, h4, hg1, Int.one_mul, h5, h6]
  · simp (disch := first | omega | exact Nat.le_of_ble_eq_true rfl | assumption | (simp only [List.length_append, List.length_cons, List.length_nil, List.length_map] <;> omega) | exact rfl | decide | (simp only [pl_int', pl_bl', pl_non', pl1l, pl1t, pl2l, pl2t, pl3l, pl3t, pl4l, pl4t, pl5l, pl5t, pl6l, pl6t, pl7l, pl7t, pl8l, pl8t, pl9l, pl9t, List.all_cons, List.all_nil, List.length_cons, List.length_nil, Nat.reduceAdd, Nat.reduceLeDiff, decide_true, Bool.and_true, Bool.true_and, Bool.and_self, *]; done) | fail) only [↓e_seq, ↓e_sl, ↓e_part, ↓e_par, ↓e_cupSet, ↓e_ifS, ↓e_ret, ↓e_drop, ↓e_asg, ↓e_B, ↓e_notB, ↓e_andB, ↓e_orB, ↓e_notD, ↓e_andD, ↓e_orD, ↓e_if, ↓e_op, ↓e_cons, ↓e_call, ↓e_icall, ↓e_tup', ↓e_lst, ↓e_neg, ↓e_chain, ↓e_last, ↓e_link, ↓e_un, ↓e_isi', ↓e_lc, ↓e_iseq, ↓e_for, ↓e_run0, ↓e_run1, ↓e_run2, ↓e_run3, ↓e_run4, ↓e_run5, ↓e_run6, ↓e_run7, ↓e_run8, k_sl1, k_sl2, sl_tup, sl_lst, e_noPart, k_part, revA_t, revA_l, k_par, put_nil, put_cons, e_ix0, e_ix1, k_cup0, k_cup1, in_ii2, zip_tt, zip_ll, then_ok, k_seqN, k_seqR, k_seqB, k_seqC, k_ifST, k_ifSF, e_skip, k_ret, e_retN, e_brk, e_cont, k_drop, k_asgName, k_asgTup, optE_some, g_tup, g_name, g_cons, g_nil, Option.bind_some, st0, stS, k_asB, k_notB, k_andBT, k_andBF, k_orBT, k_orBF, k_notD, k_andDT, k_andDF, k_orDT, k_orDF, k_ifT, k_ifF, e_C, k_op1, e_nil, k_c1, k_c2, k_tup, k_lst, k_neg, k_chain, k_link1, k_link2T, k_link2F, k_isi_int, k_isi_bl, k_isi_non, k_isi_str, k_isi_tup, k_isi_lst, D.isInt, D.isBool, D.isStr, D.isTup, D.isLst, k_runR, k_runN, k_lst', k_lc, l_nil, l_cons, optL_some, k_l1T, k_l1F, k_l2, e_yes, w_nil, w_cons, seqD_tup, seqD_lst, k_for, f_nil, f_cons, optF_some, k_f1N, k_f1C, k_f1B, k_f1R, len_tup, len_lst, len_scr, abs_i, int_i, int_b, list_l, list_t, list_s, tup_l, tup_t, max2, min2, sum_l, sum_t, okS_some, ints_nil, ints_cons, bls_nil, bls_cons, okB_some, all_l, any_l, lt_ii, le_ii, gt_ii, ge_ii, isN_non, isN_int, isN_bl, isN_str, isN_tup, isN_lst, notN_non, notN_int, notN_tup, notN_lst, add_ii', sub_ii', add_tt', add_ll', mul_sm, mul_bg, fdiv_sm, fdiv_bg, mod_sm, pow_sm, eq_ii', ne_ii', ix_tup, ix_lst, varS, var0_int, var0_bl, var0_tup, var0_lst, var0_str, var0_non, var0_cup, var0_scr, List.length_cons, List.length_nil, List.map_cons, List.map_nil, List.cons_append, List.nil_append, List.replicate_succ, List.replicate_zero, env0, Option.map_some, Nat.zero_add, Nat.reduceAdd, Nat.reduceSub, Nat.reduceLeDiff, Int.reduceLT, Int.reduceLE, Bool.not_true, Bool.not_false, decide_true, decide_false, natLit, at0, at1, at2, at3, at4, at5, Int.reduceAdd, Int.reduceSub, Int.reduceMul, Int.reducePow, Int.reduceNeg, Int.reduceDiv, Int.reduceMod, Int.reduceToNat, Int.reduceEq, reduceIte, decide_eq_true_eq, List.all_cons, List.all_nil, List.any_cons, List.any_nil, id, Bool.and_true, Bool.true_and, Bool.and_false, Bool.false_and, Bool.or_true, Bool.or_false, Bool.true_or, Bool.false_or, Bool.false_eq_true, f_lowest, b_lowest, divisor_of_ok, h, h4, Int.mul_one, h5, h6]
end
/-! the extended divisor -/
theorem undone_loop {a b : Int} {c : Cup} (hb : 2 ≤ b) (hb' : b < 1000000000000000000000000000000000000000000000000000000000000) : ∀ (n : Nat) (p q f g s : Int), q.toNat ≤ n → 1 ≤ p → p ≤ b → 0 ≤ q → q ≤ b → (s = 1 ∨ s = -1) → 0 ≤ f → 0 ≤ g → f * q + g * p = b → Int.gcd p q = 1 →
    (∃ k, s * f * a = p + b * k) → (∃ k, -(s * g) * a = q + b * k) →
    ∃ f' g', mWhile (mB (mOp neD (mVar 3) (mC (.int 0)))) (mAsg (mgTup 4 (mgsCons (mgName 2) (mgsCons (mgName 3) (mgsCons (mgName 4) (mgsCons (mgName 5) (mgsNil)))))) (mTup (mCons (mVar 3) (mCons (mOp modD (mVar 2) (mVar 3)) (mCons (mVar 5) (mCons (mOp subD (mVar 4) (mOp mulD (mOp fdivD (mVar 2) (mVar 3)) (mVar 5))) (mNil))))))) [some (.int a), some (.int b), some (.int p), some (.int q), some (.int (s * f)), some (.int (-(s * g)))] c = .ok (.nx [some (.int a), some (.int b), some (.int 1), some (.int 0), some (.int f'), some (.int g')]) c ∧ ∃ k, f' * a = 1 + b * k := by
  intro n
  induction n with
  | zero =>
    intro p q f g s h1 h2 h3 h4 h5 h6 h7 h8 h9 h10 h11 h12
    have e : q = 0 := by omega
    subst e
    have ep : p = 1 := by
      rw [Int.gcd_zero_right] at h10; omega
    subst ep
    exact ⟨_, _, while_end (by simp (disch := first | omega | exact Nat.le_of_ble_eq_true rfl | assumption | (simp only [List.length_append, List.length_cons, List.length_nil, List.length_map] <;> omega) | exact rfl | decide | (simp only [pl_int', pl_bl', pl_non', pl1l, pl1t, pl2l, pl2t, pl3l, pl3t, pl4l, pl4t, pl5l, pl5t, pl6l, pl6t, pl7l, pl7t, pl8l, pl8t, pl9l, pl9t, List.all_cons, List.all_nil, List.length_cons, List.length_nil, Nat.reduceAdd, Nat.reduceLeDiff, decide_true, Bool.and_true, Bool.true_and, Bool.and_self, *]; done) | fail) only [↓e_seq, ↓e_sl, ↓e_part, ↓e_par, ↓e_cupSet, ↓e_ifS, ↓e_ret, ↓e_drop, ↓e_asg, ↓e_B, ↓e_notB, ↓e_andB, ↓e_orB, ↓e_notD, ↓e_andD, ↓e_orD, ↓e_if, ↓e_op, ↓e_cons, ↓e_call, ↓e_icall, ↓e_tup', ↓e_lst, ↓e_neg, ↓e_chain, ↓e_last, ↓e_link, ↓e_un, ↓e_isi', ↓e_lc, ↓e_iseq, ↓e_for, ↓e_run0, ↓e_run1, ↓e_run2, ↓e_run3, ↓e_run4, ↓e_run5, ↓e_run6, ↓e_run7, ↓e_run8, k_sl1, k_sl2, sl_tup, sl_lst, e_noPart, k_part, revA_t, revA_l, k_par, put_nil, put_cons, e_ix0, e_ix1, k_cup0, k_cup1, in_ii2, zip_tt, zip_ll, then_ok, k_seqN, k_seqR, k_seqB, k_seqC, k_ifST, k_ifSF, e_skip, k_ret, e_retN, e_brk, e_cont, k_drop, k_asgName, k_asgTup, optE_some, g_tup, g_name, g_cons, g_nil, Option.bind_some, st0, stS, k_asB, k_notB, k_andBT, k_andBF, k_orBT, k_orBF, k_notD, k_andDT, k_andDF, k_orDT, k_orDF, k_ifT, k_ifF, e_C, k_op1, e_nil, k_c1, k_c2, k_tup, k_lst, k_neg, k_chain, k_link1, k_link2T, k_link2F, k_isi_int, k_isi_bl, k_isi_non, k_isi_str, k_isi_tup, k_isi_lst, D.isInt, D.isBool, D.isStr, D.isTup, D.isLst, k_runR, k_runN, k_lst', k_lc, l_nil, l_cons, optL_some, k_l1T, k_l1F, k_l2, e_yes, w_nil, w_cons, seqD_tup, seqD_lst, k_for, f_nil, f_cons, optF_some, k_f1N, k_f1C, k_f1B, k_f1R, len_tup, len_lst, len_scr, abs_i, int_i, int_b, list_l, list_t, list_s, tup_l, tup_t, max2, min2, sum_l, sum_t, okS_some, ints_nil, ints_cons, bls_nil, bls_cons, okB_some, all_l, any_l, lt_ii, le_ii, gt_ii, ge_ii, isN_non, isN_int, isN_bl, isN_str, isN_tup, isN_lst, notN_non, notN_int, notN_tup, notN_lst, add_ii', sub_ii', add_tt', add_ll', mul_sm, mul_bg, fdiv_sm, fdiv_bg, mod_sm, pow_sm, eq_ii', ne_ii', ix_tup, ix_lst, varS, var0_int, var0_bl, var0_tup, var0_lst, var0_str, var0_non, var0_cup, var0_scr, List.length_cons, List.length_nil, List.map_cons, List.map_nil, List.cons_append, List.nil_append, List.replicate_succ, List.replicate_zero, env0, Option.map_some, Nat.zero_add, Nat.reduceAdd, Nat.reduceSub, Nat.reduceLeDiff, Int.reduceLT, Int.reduceLE, Bool.not_true, Bool.not_false, decide_true, decide_false, natLit, at0, at1, at2, at3, at4, at5, Int.reduceAdd, Int.reduceSub, Int.reduceMul, Int.reducePow, Int.reduceNeg, Int.reduceDiv, Int.reduceMod, Int.reduceToNat, Int.reduceEq, reduceIte, decide_eq_true_eq, List.all_cons, List.all_nil, List.any_cons, List.any_nil, id, Bool.and_true, Bool.true_and, Bool.and_false, Bool.false_and, Bool.or_true, Bool.or_false, Bool.true_or, Bool.false_or, Bool.false_eq_true]), h11⟩
  | succ n ih =>
    intro p q f g s h1 h2 h3 h4 h5 h6 h7 h8 h9 h10 h11 h12
    by_cases hq : q = 0
    · subst hq
      have ep : p = 1 := by
        rw [Int.gcd_zero_right] at h10; omega
      subst ep
      exact ⟨_, _, while_end (by simp (disch := first | omega | exact Nat.le_of_ble_eq_true rfl | assumption | (simp only [List.length_append, List.length_cons, List.length_nil, List.length_map] <;> omega) | exact rfl | decide | (simp only [pl_int', pl_bl', pl_non', pl1l, pl1t, pl2l, pl2t, pl3l, pl3t, pl4l, pl4t, pl5l, pl5t, pl6l, pl6t, pl7l, pl7t, pl8l, pl8t, pl9l, pl9t, List.all_cons, List.all_nil, List.length_cons, List.length_nil, Nat.reduceAdd, Nat.reduceLeDiff, decide_true, Bool.and_true, Bool.true_and, Bool.and_self, *]; done) | fail) only [↓e_seq, ↓e_sl, ↓e_part, ↓e_par, ↓e_cupSet, ↓e_ifS, ↓e_ret, ↓e_drop, ↓e_asg, ↓e_B, ↓e_notB, ↓e_andB, ↓e_orB, ↓e_notD, ↓e_andD, ↓e_orD, ↓e_if, ↓e_op, ↓e_cons, ↓e_call, ↓e_icall, ↓e_tup', ↓e_lst, ↓e_neg, ↓e_chain, ↓e_last, ↓e_link, ↓e_un, ↓e_isi', ↓e_lc, ↓e_iseq, ↓e_for, ↓e_run0, ↓e_run1, ↓e_run2, ↓e_run3, ↓e_run4, ↓e_run5, ↓e_run6, ↓e_run7, ↓e_run8, k_sl1, k_sl2, sl_tup, sl_lst, e_noPart, k_part, revA_t, revA_l, k_par, put_nil, put_cons, e_ix0, e_ix1, k_cup0, k_cup1, in_ii2, zip_tt, zip_ll, then_ok, k_seqN, k_seqR, k_seqB, k_seqC, k_ifST, k_ifSF, e_skip, k_ret, e_retN, e_brk, e_cont, k_drop, k_asgName, k_asgTup, optE_some, g_tup, g_name, g_cons, g_nil, Option.bind_some, st0, stS, k_asB, k_notB, k_andBT, k_andBF, k_orBT, k_orBF, k_notD, k_andDT, k_andDF, k_orDT, k_orDF, k_ifT, k_ifF, e_C, k_op1, e_nil, k_c1, k_c2, k_tup, k_lst, k_neg, k_chain, k_link1, k_link2T, k_link2F, k_isi_int, k_isi_bl, k_isi_non, k_isi_str, k_isi_tup, k_isi_lst, D.isInt, D.isBool, D.isStr, D.isTup, D.isLst, k_runR, k_runN, k_lst', k_lc, l_nil, l_cons, optL_some, k_l1T, k_l1F, k_l2, e_yes, w_nil, w_cons, seqD_tup, seqD_lst, k_for, f_nil, f_cons, optF_some, k_f1N, k_f1C, k_f1B, k_f1R, len_tup, len_lst, len_scr, abs_i, int_i, int_b, list_l, list_t, list_s, tup_l, tup_t, max2, min2, sum_l, sum_t, okS_some, ints_nil, ints_cons, bls_nil, bls_cons, okB_some, all_l, any_l, lt_ii, le_ii, gt_ii, ge_ii, isN_non, isN_int, isN_bl, isN_str, isN_tup, isN_lst, notN_non, notN_int, notN_tup, notN_lst, add_ii', sub_ii', add_tt', add_ll', mul_sm, mul_bg, fdiv_sm, fdiv_bg, mod_sm, pow_sm, eq_ii', ne_ii', ix_tup, ix_lst, varS, var0_int, var0_bl, var0_tup, var0_lst, var0_str, var0_non, var0_cup, var0_scr, List.length_cons, List.length_nil, List.map_cons, List.map_nil, List.cons_append, List.nil_append, List.replicate_succ, List.replicate_zero, env0, Option.map_some, Nat.zero_add, Nat.reduceAdd, Nat.reduceSub, Nat.reduceLeDiff, Int.reduceLT, Int.reduceLE, Bool.not_true, Bool.not_false, decide_true, decide_false, natLit, at0, at1, at2, at3, at4, at5, Int.reduceAdd, Int.reduceSub, Int.reduceMul, Int.reducePow, Int.reduceNeg, Int.reduceDiv, Int.reduceMod, Int.reduceToNat, Int.reduceEq, reduceIte, decide_eq_true_eq, List.all_cons, List.all_nil, List.any_cons, List.any_nil, id, Bool.and_true, Bool.true_and, Bool.and_false, Bool.false_and, Bool.or_true, Bool.or_false, Bool.true_or, Bool.false_or, Bool.false_eq_true]), h11⟩
    · have hq1 : 1 ≤ q := by omega
      have m0 := Int.emod_nonneg p hq
      have m1 := Int.emod_lt_of_pos p (show 0 < q by omega)
      have md := Int.emod_add_mul_ediv p q
      have d0 : 0 ≤ p / q := Int.ediv_nonneg (by omega) (by omega)
      have d1 : p / q ≤ p := Int.ediv_le_self _ (by omega)
      have gb : g ≤ b := by
        have := Int.mul_le_mul_of_nonneg_left (a := 1) (b := p) (c := g) (by omega) h8
        have := Int.mul_nonneg h7 h4
        omega
      have sb : -1000000000000000000000000000000000000000000000000000000000000 ≤ s * g ∧ s * g ≤ 1000000000000000000000000000000000000000000000000000000000000 := by
        rcases h6 with h | h <;> subst h <;> omega
      have hf : 0 ≤ f + (p / q) * g := by have := Int.mul_nonneg d0 h8; omega
      obtain ⟨k1, h11⟩ := h11
      obtain ⟨k2, h12⟩ := h12
      have e0 : s * f - p / q * -(s * g) = -(-s * (f + p / q * g)) := by grind
      have e1 : -(s * g) = -s * g := by grind
      obtain ⟨f', g', r1, r2⟩ := ih q (p % q) g (f + p / q * g) (-s) (by omega) hq1 h5 m0 (by omega) (by omega) h8 hf (by
          have : g * (p % q) + (f + p / q * g) * q = f * q + g * (p % q + q * (p / q)) := by grind
          rw [this, md]; exact h9) (by rw [Int.gcd_comm, gcd_emodL]; exact h10) ⟨k2, by rw [← e1]; exact h12⟩ ⟨k1 - (p / q) * k2, by
          have : -(-s * (f + p / q * g)) * a = s * f * a - (p / q) * (-(s * g) * a) := by grind
          rw [this, h11, h12]
          have : p % q = p - q * (p / q) := by omega
          rw [this]; grind⟩
      refine ⟨f', g', ?_, r2⟩
      rw [← e0, ← e1] at r1
      refine while_turn (c1 := c) (c2 := c) ?_ ?_ r1
      · simp (disch := first | omega | exact Nat.le_of_ble_eq_true rfl | assumption | (simp only [List.length_append, List.length_cons, List.length_nil, List.length_map] <;> omega) | exact rfl | decide | (simp only [pl_int', pl_bl', pl_non', pl1l, pl1t, pl2l, pl2t, pl3l, pl3t, pl4l, pl4t, pl5l, pl5t, pl6l, pl6t, pl7l, pl7t, pl8l, pl8t, pl9l, pl9t, List.all_cons, List.all_nil, List.length_cons, List.length_nil, Nat.reduceAdd, Nat.reduceLeDiff, decide_true, Bool.and_true, Bool.true_and, Bool.and_self, *]; done) | fail) only [↓e_seq, ↓e_sl, ↓e_part, ↓e_par, ↓e_cupSet, ↓e_ifS, ↓e_ret, ↓e_drop, ↓e_asg, ↓e_B, ↓e_notB, ↓e_andB, ↓e_orB, ↓e_notD, ↓e_andD, ↓e_orD, ↓e_if, ↓e_op, ↓e_cons, ↓e_call, ↓e_icall, ↓e_tup', ↓e_lst, ↓e_neg, ↓e_chain, ↓e_last, ↓e_link, ↓e_un, ↓e_isi', ↓e_lc, ↓e_iseq, ↓e_for, ↓e_run0, ↓e_run1, ↓e_run2, ↓e_run3, ↓e_run4, ↓e_run5, ↓e_run6, ↓e_run7, ↓e_run8, k_sl1, k_sl2, sl_tup, sl_lst, e_noPart, k_part, revA_t, revA_l, k_par, put_nil, put_cons, e_ix0, e_ix1, k_cup0, k_cup1, in_ii2, zip_tt, zip_ll, then_ok, k_seqN, k_seqR, k_seqB, k_seqC, k_ifST, k_ifSF, e_skip, k_ret, e_retN, e_brk, e_cont, k_drop, k_asgName, k_asgTup, optE_some, g_tup, g_name, g_cons, g_nil, Option.bind_some, st0, stS, k_asB, k_notB, k_andBT, k_andBF, k_orBT, k_orBF, k_notD, k_andDT, k_andDF, k_orDT, k_orDF, k_ifT, k_ifF, e_C, k_op1, e_nil, k_c1, k_c2, k_tup, k_lst, k_neg, k_chain, k_link1, k_link2T, k_link2F, k_isi_int, k_isi_bl, k_isi_non, k_isi_str, k_isi_tup, k_isi_lst, D.isInt, D.isBool, D.isStr, D.isTup, D.isLst, k_runR, k_runN, k_lst', k_lc, l_nil, l_cons, optL_some, k_l1T, k_l1F, k_l2, e_yes, w_nil, w_cons, seqD_tup, seqD_lst, k_for, f_nil, f_cons, optF_some, k_f1N, k_f1C, k_f1B, k_f1R, len_tup, len_lst, len_scr, abs_i, int_i, int_b, list_l, list_t, list_s, tup_l, tup_t, max2, min2, sum_l, sum_t, okS_some, ints_nil, ints_cons, bls_nil, bls_cons, okB_some, all_l, any_l, lt_ii, le_ii, gt_ii, ge_ii, isN_non, isN_int, isN_bl, isN_str, isN_tup, isN_lst, notN_non, notN_int, notN_tup, notN_lst, add_ii', sub_ii', add_tt', add_ll', mul_sm, mul_bg, fdiv_sm, fdiv_bg, mod_sm, pow_sm, eq_ii', ne_ii', ix_tup, ix_lst, varS, var0_int, var0_bl, var0_tup, var0_lst, var0_str, var0_non, var0_cup, var0_scr, List.length_cons, List.length_nil, List.map_cons, List.map_nil, List.cons_append, List.nil_append, List.replicate_succ, List.replicate_zero, env0, Option.map_some, Nat.zero_add, Nat.reduceAdd, Nat.reduceSub, Nat.reduceLeDiff, Int.reduceLT, Int.reduceLE, Bool.not_true, Bool.not_false, decide_true, decide_false, natLit, at0, at1, at2, at3, at4, at5, Int.reduceAdd, Int.reduceSub, Int.reduceMul, Int.reducePow, Int.reduceNeg, Int.reduceDiv, Int.reduceMod, Int.reduceToNat, Int.reduceEq, reduceIte, decide_eq_true_eq, List.all_cons, List.all_nil, List.any_cons, List.any_nil, id, Bool.and_true, Bool.true_and, Bool.and_false, Bool.false_and, Bool.or_true, Bool.or_false, Bool.true_or, Bool.false_or, Bool.false_eq_true, hq]
      · simp (disch := first | omega | exact Nat.le_of_ble_eq_true rfl | assumption | (simp only [List.length_append, List.length_cons, List.length_nil, List.length_map] <;> omega) | exact rfl | decide | (simp only [pl_int', pl_bl', pl_non', pl1l, pl1t, pl2l, pl2t, pl3l, pl3t, pl4l, pl4t, pl5l, pl5t, pl6l, pl6t, pl7l, pl7t, pl8l, pl8t, pl9l, pl9t, List.all_cons, List.all_nil, List.length_cons, List.length_nil, Nat.reduceAdd, Nat.reduceLeDiff, decide_true, Bool.and_true, Bool.true_and, Bool.and_self, *]; done) | fail) only [↓e_seq, ↓e_sl, ↓e_part, ↓e_par, ↓e_cupSet, ↓e_ifS, ↓e_ret, ↓e_drop, ↓e_asg, ↓e_B, ↓e_notB, ↓e_andB, ↓e_orB, ↓e_notD, ↓e_andD, ↓e_orD, ↓e_if, ↓e_op, ↓e_cons, ↓e_call, ↓e_icall, ↓e_tup', ↓e_lst, ↓e_neg, ↓e_chain, ↓e_last, ↓e_link, ↓e_un, ↓e_isi', ↓e_lc, ↓e_iseq, ↓e_for, ↓e_run0, ↓e_run1, ↓e_run2, ↓e_run3, ↓e_run4, ↓e_run5, ↓e_run6, ↓e_run7, ↓e_run8, k_sl1, k_sl2, sl_tup, sl_lst, e_noPart, k_part, revA_t, revA_l, k_par, put_nil, put_cons, e_ix0, e_ix1, k_cup0, k_cup1, in_ii2, zip_tt, zip_ll, then_ok, k_seqN, k_seqR, k_seqB, k_seqC, k_ifST, k_ifSF, e_skip, k_ret, e_retN, e_brk, e_cont, k_drop, k_asgName, k_asgTup, optE_some, g_tup, g_name, g_cons, g_nil, Option.bind_some, st0, stS, k_asB, k_notB, k_andBT, k_andBF, k_orBT, k_orBF, k_notD, k_andDT, k_andDF, k_orDT, k_orDF, k_ifT, k_ifF, e_C, k_op1, e_nil, k_c1, k_c2, k_tup, k_lst, k_neg, k_chain, k_link1, k_link2T, k_link2F, k_isi_int, k_isi_bl, k_isi_non, k_isi_str, k_isi_tup, k_isi_lst, D.isInt, D.isBool, D.isStr, D.isTup, D.isLst, k_runR, k_runN, k_lst', k_lc, l_nil, l_cons, optL_some, k_l1T, k_l1F, k_l2, e_yes, w_nil, w_cons, seqD_tup, seqD_lst, k_for, f_nil, f_cons, optF_some, k_f1N, k_f1C, k_f1B, k_f1R, len_tup, len_lst, len_scr, abs_i, int_i, int_b, list_l, list_t, list_s, tup_l, tup_t, max2, min2, sum_l, sum_t, okS_some, ints_nil, ints_cons, bls_nil, bls_cons, okB_some, all_l, any_l, lt_ii, le_ii, gt_ii, ge_ii, isN_non, isN_int, isN_bl, isN_str, isN_tup, isN_lst, notN_non, notN_int, notN_tup, notN_lst, add_ii', sub_ii', add_tt', add_ll', mul_sm, mul_bg, fdiv_sm, fdiv_bg, mod_sm, pow_sm, eq_ii', ne_ii', ix_tup, ix_lst, varS, var0_int, var0_bl, var0_tup, var0_lst, var0_str, var0_non, var0_cup, var0_scr, List.length_cons, List.length_nil, List.map_cons, List.map_nil, List.cons_append, List.nil_append, List.replicate_succ, List.replicate_zero, env0, Option.map_some, Nat.zero_add, Nat.reduceAdd, Nat.reduceSub, Nat.reduceLeDiff, Int.reduceLT, Int.reduceLE, Bool.not_true, Bool.not_false, decide_true, decide_false, natLit, at0, at1, at2, at3, at4, at5, Int.reduceAdd, Int.reduceSub, Int.reduceMul, Int.reducePow, Int.reduceNeg, Int.reduceDiv, Int.reduceMod, Int.reduceToNat, Int.reduceEq, reduceIte, decide_eq_true_eq, List.all_cons, List.all_nil, List.any_cons, List.any_nil, id, Bool.and_true, Bool.true_and, Bool.and_false, Bool.false_and, Bool.or_true, Bool.or_false, Bool.true_or, Bool.false_or, Bool.false_eq_true]
theorem undone_ok {a b : Int} {c : Cup} (hb : 2 ≤ b) (hb' : b < 1000000000000000000000000000000000000000000000000000000000000) (g : Int.gcd a b = 1) : ∃ r k, f_undone_by [.int a, .int b] c = .ok (.int r) c ∧ 1 ≤ r ∧ r < b ∧ a * r = 1 + b * k := by
  have m0 := Int.emod_nonneg a (show b ≠ 0 by omega)
  have m1 := Int.emod_lt_of_pos a (show 0 < b by omega)
  have md := Int.emod_add_mul_ediv a b
  have gm : Int.gcd (a % b) b = 1 := by rw [gcd_emodL]; exact g
  have hp : a % b ≠ 0 := by
    intro h
    rw [h, Int.gcd_zero_left] at gm; omega
  obtain ⟨f', g', h1, k, h2⟩ := undone_loop (a := a) (c := c) hb hb' _ (a % b) b 1 0 1 (Nat.le_refl _) (by omega) (by omega) (by omega) (by omega) (.inl rfl) (by omega) (by omega) (by omega) gm ⟨a / b, by omega⟩ ⟨-1, by grind⟩
  have e1 : (1 * 1 : Int) = 1 := rfl
  have e2 : (-(1 * 0) : Int) = 0 := rfl
  rw [e1, e2] at h1
  have r0 := Int.emod_nonneg f' (show b ≠ 0 by omega)
  have r1 := Int.emod_lt_of_pos f' (show 0 < b by omega)
  have rd := Int.emod_add_mul_ediv f' b
  have key : a * (f' % b) = 1 + b * (k - a * (f' / b)) := by
    have : f' % b = f' - b * (f' / b) := by omega
    rw [this]; grind
  have rn : f' % b ≠ 0 := by
    intro h
    rw [h] at key
    have : b * (a * (f' / b) - k) = 1 := by grind
    have := Int.le_of_dvd (by decide) (show b ∣ 1 from ⟨_, this.symm⟩)
    omega
  refine ⟨f' % b, k - a * (f' / b), ?_, by omega, r1, key⟩
  simp (disch := first | omega | exact Nat.le_of_ble_eq_true rfl | assumption | (simp only [List.length_append, List.length_cons, List.length_nil, List.length_map] <;> omega) | exact rfl | decide | (simp only [pl_int', pl_bl', pl_non', pl1l, pl1t, pl2l, pl2t, pl3l, pl3t, pl4l, pl4t, pl5l, pl5t, pl6l, pl6t, pl7l, pl7t, pl8l, pl8t, pl9l, pl9t, List.all_cons, List.all_nil, List.length_cons, List.length_nil, Nat.reduceAdd, Nat.reduceLeDiff, decide_true, Bool.and_true, Bool.true_and, Bool.and_self, *]; done) | fail) only [↓e_seq, ↓e_sl, ↓e_part, ↓e_par, ↓e_cupSet, ↓e_ifS, ↓e_ret, ↓e_drop, ↓e_asg, ↓e_B, ↓e_notB, ↓e_andB, ↓e_orB, ↓e_notD, ↓e_andD, ↓e_orD, ↓e_if, ↓e_op, ↓e_cons, ↓e_call, ↓e_icall, ↓e_tup', ↓e_lst, ↓e_neg, ↓e_chain, ↓e_last, ↓e_link, ↓e_un, ↓e_isi', ↓e_lc, ↓e_iseq, ↓e_for, ↓e_run0, ↓e_run1, ↓e_run2, ↓e_run3, ↓e_run4, ↓e_run5, ↓e_run6, ↓e_run7, ↓e_run8, k_sl1, k_sl2, sl_tup, sl_lst, e_noPart, k_part, revA_t, revA_l, k_par, put_nil, put_cons, e_ix0, e_ix1, k_cup0, k_cup1, in_ii2, zip_tt, zip_ll, then_ok, k_seqN, k_seqR, k_seqB, k_seqC, k_ifST, k_ifSF, e_skip, k_ret, e_retN, e_brk, e_cont, k_drop, k_asgName, k_asgTup, optE_some, g_tup, g_name, g_cons, g_nil, Option.bind_some, st0, stS, k_asB, k_notB, k_andBT, k_andBF, k_orBT, k_orBF, k_notD, k_andDT, k_andDF, k_orDT, k_orDF, k_ifT, k_ifF, e_C, k_op1, e_nil, k_c1, k_c2, k_tup, k_lst, k_neg, k_chain, k_link1, k_link2T, k_link2F, k_isi_int, k_isi_bl, k_isi_non, k_isi_str, k_isi_tup, k_isi_lst, D.isInt, D.isBool, D.isStr, D.isTup, D.isLst, k_runR, k_runN, k_lst', k_lc, l_nil, l_cons, optL_some, k_l1T, k_l1F, k_l2, e_yes, w_nil, w_cons, seqD_tup, seqD_lst, k_for, f_nil, f_cons, optF_some, k_f1N, k_f1C, k_f1B, k_f1R, len_tup, len_lst, len_scr, abs_i, int_i, int_b, list_l, list_t, list_s, tup_l, tup_t, max2, min2, sum_l, sum_t, okS_some, ints_nil, ints_cons, bls_nil, bls_cons, okB_some, all_l, any_l, lt_ii, le_ii, gt_ii, ge_ii, isN_non, isN_int, isN_bl, isN_str, isN_tup, isN_lst, notN_non, notN_int, notN_tup, notN_lst, add_ii', sub_ii', add_tt', add_ll', mul_sm, mul_bg, fdiv_sm, fdiv_bg, mod_sm, pow_sm, eq_ii', ne_ii', ix_tup, ix_lst, varS, var0_int, var0_bl, var0_tup, var0_lst, var0_str, var0_non, var0_cup, var0_scr, List.length_cons, List.length_nil, List.map_cons, List.map_nil, List.cons_append, List.nil_append, List.replicate_succ, List.replicate_zero, env0, Option.map_some, Nat.zero_add, Nat.reduceAdd, Nat.reduceSub, Nat.reduceLeDiff, Int.reduceLT, Int.reduceLE, Bool.not_true, Bool.not_false, decide_true, decide_false, natLit, at0, at1, at2, at3, at4, at5, Int.reduceAdd, Int.reduceSub, Int.reduceMul, Int.reducePow, Int.reduceNeg, Int.reduceDiv, Int.reduceMod, Int.reduceToNat, Int.reduceEq, reduceIte, decide_eq_true_eq, List.all_cons, List.all_nil, List.any_cons, List.any_nil, id, Bool.and_true, Bool.true_and, Bool.and_false, Bool.false_and, Bool.or_true, Bool.or_false, Bool.true_or, Bool.false_or, Bool.false_eq_true, f_undone_by, b_undone_by, h1]
theorem lasts_ok {a b : Int} {c : Cup} (F : Fr G a b) : ∃ l m k j, f_lasts_below [pr a b] c = .ok (.tup [.int l, .int m]) c ∧ 1 ≤ l ∧ l ≤ b ∧ 1 ≤ m ∧ m ≤ b ∧ a * l = 1 + b * k ∧ a * m = -1 + b * j ∧ (2 ≤ b → l < b ∧ m < b) := by
  obtain ⟨h1, h2, h3, h4⟩ := fr_g F
  by_cases hb : 1 < b
  · obtain ⟨l, k, u1, u2, u3, u4⟩ := undone_ok (c := c) (a := a) hb h3 F.g
    obtain ⟨m, j, v1, v2, v3, v4⟩ := undone_ok (c := c) (a := -a) hb h3 (by rw [Int.neg_gcd]; exact F.g)
    refine ⟨l, m, k, -j, ?_, u2, by omega, v2, by omega, u4, by grind, fun _ => ⟨u3, v3⟩⟩
    simp (disch := first | omega | exact Nat.le_of_ble_eq_true rfl | assumption | (simp only [List.length_append, List.length_cons, List.length_nil, List.length_map] <;> omega) | exact rfl | decide | (simp only [pl_int', pl_bl', pl_non', pl1l, pl1t, pl2l, pl2t, pl3l, pl3t, pl4l, pl4t, pl5l, pl5t, pl6l, pl6t, pl7l, pl7t, pl8l, pl8t, pl9l, pl9t, List.all_cons, List.all_nil, List.length_cons, List.length_nil, Nat.reduceAdd, Nat.reduceLeDiff, decide_true, Bool.and_true, Bool.true_and, Bool.and_self, *]; done) | fail) only [↓e_seq, ↓e_sl, ↓e_part, ↓e_par, ↓e_cupSet, ↓e_ifS, ↓e_ret, ↓e_drop, ↓e_asg, ↓e_B, ↓e_notB, ↓e_andB, ↓e_orB, ↓e_notD, ↓e_andD, ↓e_orD, ↓e_if, ↓e_op, ↓e_cons, ↓e_call, ↓e_icall, ↓e_tup', ↓e_lst, ↓e_neg, ↓e_chain, ↓e_last, ↓e_link, ↓e_un, ↓e_isi', ↓e_lc, ↓e_iseq, ↓e_for, ↓e_run0, ↓e_run1, ↓e_run2, ↓e_run3, ↓e_run4, ↓e_run5, ↓e_run6, ↓e_run7, ↓e_run8, k_sl1, k_sl2, sl_tup, sl_lst, e_noPart, k_part, revA_t, revA_l, k_par, put_nil, put_cons, e_ix0, e_ix1, k_cup0, k_cup1, in_ii2, zip_tt, zip_ll, then_ok, k_seqN, k_seqR, k_seqB, k_seqC, k_ifST, k_ifSF, e_skip, k_ret, e_retN, e_brk, e_cont, k_drop, k_asgName, k_asgTup, optE_some, g_tup, g_name, g_cons, g_nil, Option.bind_some, st0, stS, k_asB, k_notB, k_andBT, k_andBF, k_orBT, k_orBF, k_notD, k_andDT, k_andDF, k_orDT, k_orDF, k_ifT, k_ifF, e_C, k_op1, e_nil, k_c1, k_c2, k_tup, k_lst, k_neg, k_chain, k_link1, k_link2T, k_link2F, k_isi_int, k_isi_bl, k_isi_non, k_isi_str, k_isi_tup, k_isi_lst, D.isInt, D.isBool, D.isStr, D.isTup, D.isLst, k_runR, k_runN, k_lst', k_lc, l_nil, l_cons, optL_some, k_l1T, k_l1F, k_l2, e_yes, w_nil, w_cons, seqD_tup, seqD_lst, k_for, f_nil, f_cons, optF_some, k_f1N, k_f1C, k_f1B, k_f1R, len_tup, len_lst, len_scr, abs_i, int_i, int_b, list_l, list_t, list_s, tup_l, tup_t, max2, min2, sum_l, sum_t, okS_some, ints_nil, ints_cons, bls_nil, bls_cons, okB_some, all_l, any_l, lt_ii, le_ii, gt_ii, ge_ii, isN_non, isN_int, isN_bl, isN_str, isN_tup, isN_lst, notN_non, notN_int, notN_tup, notN_lst, add_ii', sub_ii', add_tt', add_ll', mul_sm, mul_bg, fdiv_sm, fdiv_bg, mod_sm, pow_sm, eq_ii', ne_ii', ix_tup, ix_lst, varS, var0_int, var0_bl, var0_tup, var0_lst, var0_str, var0_non, var0_cup, var0_scr, List.length_cons, List.length_nil, List.map_cons, List.map_nil, List.cons_append, List.nil_append, List.replicate_succ, List.replicate_zero, env0, Option.map_some, Nat.zero_add, Nat.reduceAdd, Nat.reduceSub, Nat.reduceLeDiff, Int.reduceLT, Int.reduceLE, Bool.not_true, Bool.not_false, decide_true, decide_false, natLit, at0, at1, at2, at3, at4, at5, Int.reduceAdd, Int.reduceSub, Int.reduceMul, Int.reducePow, Int.reduceNeg, Int.reduceDiv, Int.reduceMod, Int.reduceToNat, Int.reduceEq, reduceIte, decide_eq_true_eq, List.all_cons, List.all_nil, List.any_cons, List.any_nil, id, Bool.and_true, Bool.true_and, Bool.and_false, Bool.false_and, Bool.or_true, Bool.or_false, Bool.true_or, Bool.false_or, Bool.false_eq_true, f_lasts_below, b_lasts_below, hb, u1, v1]
  · have e : b = 1 := by omega
    subst e
    refine ⟨1, 1, a - 1, a + 1, ?_, by omega, by omega, by omega, by omega, by omega, by omega, by omega⟩
    simp (disch := first | omega | exact Nat.le_of_ble_eq_true rfl | assumption | (simp only [List.length_append, List.length_cons, List.length_nil, List.length_map] <;> omega) | exact rfl | decide | (simp only [pl_int', pl_bl', pl_non', pl1l, pl1t, pl2l, pl2t, pl3l, pl3t, pl4l, pl4t, pl5l, pl5t, pl6l, pl6t, pl7l, pl7t, pl8l, pl8t, pl9l, pl9t, List.all_cons, List.all_nil, List.length_cons, List.length_nil, Nat.reduceAdd, Nat.reduceLeDiff, decide_true, Bool.and_true, Bool.true_and, Bool.and_self, *]; done) | fail) only [↓e_seq, ↓e_sl, ↓e_part, ↓e_par, ↓e_cupSet, ↓e_ifS, ↓e_ret, ↓e_drop, ↓e_asg, ↓e_B, ↓e_notB, ↓e_andB, ↓e_orB, ↓e_notD, ↓e_andD, ↓e_orD, ↓e_if, ↓e_op, ↓e_cons, ↓e_call, ↓e_icall, ↓e_tup', ↓e_lst, ↓e_neg, ↓e_chain, ↓e_last, ↓e_link, ↓e_un, ↓e_isi', ↓e_lc, ↓e_iseq, ↓e_for, ↓e_run0, ↓e_run1, ↓e_run2, ↓e_run3, ↓e_run4, ↓e_run5, ↓e_run6, ↓e_run7, ↓e_run8, k_sl1, k_sl2, sl_tup, sl_lst, e_noPart, k_part, revA_t, revA_l, k_par, put_nil, put_cons, e_ix0, e_ix1, k_cup0, k_cup1, in_ii2, zip_tt, zip_ll, then_ok, k_seqN, k_seqR, k_seqB, k_seqC, k_ifST, k_ifSF, e_skip, k_ret, e_retN, e_brk, e_cont, k_drop, k_asgName, k_asgTup, optE_some, g_tup, g_name, g_cons, g_nil, Option.bind_some, st0, stS, k_asB, k_notB, k_andBT, k_andBF, k_orBT, k_orBF, k_notD, k_andDT, k_andDF, k_orDT, k_orDF, k_ifT, k_ifF, e_C, k_op1, e_nil, k_c1, k_c2, k_tup, k_lst, k_neg, k_chain, k_link1, k_link2T, k_link2F, k_isi_int, k_isi_bl, k_isi_non, k_isi_str, k_isi_tup, k_isi_lst, D.isInt, D.isBool, D.isStr, D.isTup, D.isLst, k_runR, k_runN, k_lst', k_lc, l_nil, l_cons, optL_some, k_l1T, k_l1F, k_l2, e_yes, w_nil, w_cons, seqD_tup, seqD_lst, k_for, f_nil, f_cons, optF_some, k_f1N, k_f1C, k_f1B, k_f1R, len_tup, len_lst, len_scr, abs_i, int_i, int_b, list_l, list_t, list_s, tup_l, tup_t, max2, min2, sum_l, sum_t, okS_some, ints_nil, ints_cons, bls_nil, bls_cons, okB_some, all_l, any_l, lt_ii, le_ii, gt_ii, ge_ii, isN_non, isN_int, isN_bl, isN_str, isN_tup, isN_lst, notN_non, notN_int, notN_tup, notN_lst, add_ii', sub_ii', add_tt', add_ll', mul_sm, mul_bg, fdiv_sm, fdiv_bg, mod_sm, pow_sm, eq_ii', ne_ii', ix_tup, ix_lst, varS, var0_int, var0_bl, var0_tup, var0_lst, var0_str, var0_non, var0_cup, var0_scr, List.length_cons, List.length_nil, List.map_cons, List.map_nil, List.cons_append, List.nil_append, List.replicate_succ, List.replicate_zero, env0, Option.map_some, Nat.zero_add, Nat.reduceAdd, Nat.reduceSub, Nat.reduceLeDiff, Int.reduceLT, Int.reduceLE, Bool.not_true, Bool.not_false, decide_true, decide_false, natLit, at0, at1, at2, at3, at4, at5, Int.reduceAdd, Int.reduceSub, Int.reduceMul, Int.reducePow, Int.reduceNeg, Int.reduceDiv, Int.reduceMod, Int.reduceToNat, Int.reduceEq, reduceIte, decide_eq_true_eq, List.all_cons, List.all_nil, List.any_cons, List.any_nil, id, Bool.and_true, Bool.true_and, Bool.and_false, Bool.false_and, Bool.or_true, Bool.or_false, Bool.true_or, Bool.false_or, Bool.false_eq_true, f_lasts_below, b_lasts_below]
theorem parents_val {a b l m k j : Int} {c : Cup} (F : Fr G a b) (hb : 2 ≤ b) (h : f_lasts_below [pr a b] c = .ok (.tup [.int l, .int m]) c) (l1 : 1 ≤ l) (l2 : l ≤ b) (m1 : 1 ≤ m) (m2 : m ≤ b) (hl : a * l = 1 + b * k) (hm : a * m = -1 + b * j) : f_ford_parents [pr a b] c = .ok (.tup [pr k l, pr j m]) c := by
  obtain ⟨h1, h2, h3, h4⟩ := fr_g F
  have nb : ¬ b = 1 := by omega
  have e1 : (a * l - 1) / b = k := by
    have : a * l - 1 = b * k := by omega
    rw [this, Int.mul_ediv_cancel_left _ (by omega)]
  have e2 : (a * m + 1) / b = j := by
    have : a * m + 1 = b * j := by omega
    rw [this, Int.mul_ediv_cancel_left _ (by omega)]
  simp (disch := first | omega | exact Nat.le_of_ble_eq_true rfl | assumption | (simp only [List.length_append, List.length_cons, List.length_nil, List.length_map] <;> omega) | exact rfl | decide | (simp only [pl_int', pl_bl', pl_non', pl1l, pl1t, pl2l, pl2t, pl3l, pl3t, pl4l, pl4t, pl5l, pl5t, pl6l, pl6t, pl7l, pl7t, pl8l, pl8t, pl9l, pl9t, List.all_cons, List.all_nil, List.length_cons, List.length_nil, Nat.reduceAdd, Nat.reduceLeDiff, decide_true, Bool.and_true, Bool.true_and, Bool.and_self, *]; done) | fail) only [↓e_seq, ↓e_sl, ↓e_part, ↓e_par, ↓e_cupSet, ↓e_ifS, ↓e_ret, ↓e_drop, ↓e_asg, ↓e_B, ↓e_notB, ↓e_andB, ↓e_orB, ↓e_notD, ↓e_andD, ↓e_orD, ↓e_if, ↓e_op, ↓e_cons, ↓e_call, ↓e_icall, ↓e_tup', ↓e_lst, ↓e_neg, ↓e_chain, ↓e_last, ↓e_link, ↓e_un, ↓e_isi', ↓e_lc, ↓e_iseq, ↓e_for, ↓e_run0, ↓e_run1, ↓e_run2, ↓e_run3, ↓e_run4, ↓e_run5, ↓e_run6, ↓e_run7, ↓e_run8, k_sl1, k_sl2, sl_tup, sl_lst, e_noPart, k_part, revA_t, revA_l, k_par, put_nil, put_cons, e_ix0, e_ix1, k_cup0, k_cup1, in_ii2, zip_tt, zip_ll, then_ok, k_seqN, k_seqR, k_seqB, k_seqC, k_ifST, k_ifSF, e_skip, k_ret, e_retN, e_brk, e_cont, k_drop, k_asgName, k_asgTup, optE_some, g_tup, g_name, g_cons, g_nil, Option.bind_some, st0, stS, k_asB, k_notB, k_andBT, k_andBF, k_orBT, k_orBF, k_notD, k_andDT, k_andDF, k_orDT, k_orDF, k_ifT, k_ifF, e_C, k_op1, e_nil, k_c1, k_c2, k_tup, k_lst, k_neg, k_chain, k_link1, k_link2T, k_link2F, k_isi_int, k_isi_bl, k_isi_non, k_isi_str, k_isi_tup, k_isi_lst, D.isInt, D.isBool, D.isStr, D.isTup, D.isLst, k_runR, k_runN, k_lst', k_lc, l_nil, l_cons, optL_some, k_l1T, k_l1F, k_l2, e_yes, w_nil, w_cons, seqD_tup, seqD_lst, k_for, f_nil, f_cons, optF_some, k_f1N, k_f1C, k_f1B, k_f1R, len_tup, len_lst, len_scr, abs_i, int_i, int_b, list_l, list_t, list_s, tup_l, tup_t, max2, min2, sum_l, sum_t, okS_some, ints_nil, ints_cons, bls_nil, bls_cons, okB_some, all_l, any_l, lt_ii, le_ii, gt_ii, ge_ii, isN_non, isN_int, isN_bl, isN_str, isN_tup, isN_lst, notN_non, notN_int, notN_tup, notN_lst, add_ii', sub_ii', add_tt', add_ll', mul_sm, mul_bg, fdiv_sm, fdiv_bg, mod_sm, pow_sm, eq_ii', ne_ii', ix_tup, ix_lst, varS, var0_int, var0_bl, var0_tup, var0_lst, var0_str, var0_non, var0_cup, var0_scr, List.length_cons, List.length_nil, List.map_cons, List.map_nil, List.cons_append, List.nil_append, List.replicate_succ, List.replicate_zero, env0, Option.map_some, Nat.zero_add, Nat.reduceAdd, Nat.reduceSub, Nat.reduceLeDiff, Int.reduceLT, Int.reduceLE, Bool.not_true, Bool.not_false, decide_true, decide_false, natLit, at0, at1, at2, at3, at4, at5, Int.reduceAdd, Int.reduceSub, Int.reduceMul, Int.reducePow, Int.reduceNeg, Int.reduceDiv, Int.reduceMod, Int.reduceToNat, Int.reduceEq, reduceIte, decide_eq_true_eq, List.all_cons, List.all_nil, List.any_cons, List.any_nil, id, Bool.and_true, Bool.true_and, Bool.and_false, Bool.false_and, Bool.or_true, Bool.or_false, Bool.true_or, Bool.false_or, Bool.false_eq_true, f_ford_parents, b_ford_parents, need_fr F, nb, h, e1, e2]
theorem parent_x {a b l k B t : Int} (hb : 2 ≤ b) (hB : 0 < B) (h1 : -B < a) (h2 : a < B) (l1 : 1 ≤ l) (l2 : l < b) (ht : t = 1 ∨ t = -1) (h : a * l = t + b * k) : -B < k ∧ k < B := by
  have b1 := pb (s := a) (t := l) (A := B - 1) (B := b - 1) (by omega) (by omega)
  have e : (B - 1) * (b - 1) = B * b - B - b + 1 := by grind
  constructor
  · by_cases hk : -B < k
    · exact hk
    · have := Int.mul_le_mul_of_nonneg_left (a := k) (b := -B) (c := b) (by omega) (by omega)
      have e3 : b * -B = -(B * b) := by grind
      omega
  · by_cases hk : k < B
    · exact hk
    · have := Int.mul_le_mul_of_nonneg_left (a := B) (b := k) (c := b) (by omega) (by omega)
      have e3 : b * B = B * b := by grind
      omega
theorem lowest_self {a b : Int} {c : Cup} (F : Fr G a b) : f_lowest [.int a, .int b] c = .ok (pr a b) c := by
  obtain ⟨h1, h2, h3, h4⟩ := fr_g F
  obtain ⟨x, n, g, _, lo, g0, x1, n1, FF⟩ := least_ok (a := a) (b := b) (by omega) (by omega) ⟨h1, h2⟩
  have xa : x = a ∧ n = b := frac_eq FF F (by rw [x1, n1]; grind)
  rw [lo c, xa.1, xa.2]
theorem lowest_twice {a b : Int} {c : Cup} (F : Fr G a b) (L : Lo a b) : f_lowest [.int (a + a), .int (b + b)] c = .ok (pr a b) c := by
  have := L.h1; have := L.h2; have := L.h3; have := L.h4
  obtain ⟨x, n, g, _, lo, g0, x1, n1, FF⟩ := least_ok (a := a + a) (b := b + b) (by omega) (by omega) (by omega)
  have xa : x = a ∧ n = b := frac_eq FF F (by
    have : 2 * (x * b) * g = 2 * (a * n) * g := by grind
    have := Int.eq_of_mul_eq_mul_right (by omega) this
    omega)
  rw [lo c, xa.1, xa.2]
theorem parents_right_ok {a b : Int} {c : Cup} (F : Fr G a b) : f_u_law_parents_right [pr a b] c = .ok (.bl true) c := by
  obtain ⟨h1, h2, h3, h4⟩ := fr_g F
  by_cases hb : b = 1
  · subst hb
    simp (disch := first | omega | exact Nat.le_of_ble_eq_true rfl | assumption | (simp only [List.length_append, List.length_cons, List.length_nil, List.length_map] <;> omega) | exact rfl | decide | (simp only [pl_int', pl_bl', pl_non', pl1l, pl1t, pl2l, pl2t, pl3l, pl3t, pl4l, pl4t, pl5l, pl5t, pl6l, pl6t, pl7l, pl7t, pl8l, pl8t, pl9l, pl9t, List.all_cons, List.all_nil, List.length_cons, List.length_nil, Nat.reduceAdd, Nat.reduceLeDiff, decide_true, Bool.and_true, Bool.true_and, Bool.and_self, *]; done) | fail) only [↓e_seq, ↓e_sl, ↓e_part, ↓e_par, ↓e_cupSet, ↓e_ifS, ↓e_ret, ↓e_drop, ↓e_asg, ↓e_B, ↓e_notB, ↓e_andB, ↓e_orB, ↓e_notD, ↓e_andD, ↓e_orD, ↓e_if, ↓e_op, ↓e_cons, ↓e_call, ↓e_icall, ↓e_tup', ↓e_lst, ↓e_neg, ↓e_chain, ↓e_last, ↓e_link, ↓e_un, ↓e_isi', ↓e_lc, ↓e_iseq, ↓e_for, ↓e_run0, ↓e_run1, ↓e_run2, ↓e_run3, ↓e_run4, ↓e_run5, ↓e_run6, ↓e_run7, ↓e_run8, k_sl1, k_sl2, sl_tup, sl_lst, e_noPart, k_part, revA_t, revA_l, k_par, put_nil, put_cons, e_ix0, e_ix1, k_cup0, k_cup1, in_ii2, zip_tt, zip_ll, then_ok, k_seqN, k_seqR, k_seqB, k_seqC, k_ifST, k_ifSF, e_skip, k_ret, e_retN, e_brk, e_cont, k_drop, k_asgName, k_asgTup, optE_some, g_tup, g_name, g_cons, g_nil, Option.bind_some, st0, stS, k_asB, k_notB, k_andBT, k_andBF, k_orBT, k_orBF, k_notD, k_andDT, k_andDF, k_orDT, k_orDF, k_ifT, k_ifF, e_C, k_op1, e_nil, k_c1, k_c2, k_tup, k_lst, k_neg, k_chain, k_link1, k_link2T, k_link2F, k_isi_int, k_isi_bl, k_isi_non, k_isi_str, k_isi_tup, k_isi_lst, D.isInt, D.isBool, D.isStr, D.isTup, D.isLst, k_runR, k_runN, k_lst', k_lc, l_nil, l_cons, optL_some, k_l1T, k_l1F, k_l2, e_yes, w_nil, w_cons, seqD_tup, seqD_lst, k_for, f_nil, f_cons, optF_some, k_f1N, k_f1C, k_f1B, k_f1R, len_tup, len_lst, len_scr, abs_i, int_i, int_b, list_l, list_t, list_s, tup_l, tup_t, max2, min2, sum_l, sum_t, okS_some, ints_nil, ints_cons, bls_nil, bls_cons, okB_some, all_l, any_l, lt_ii, le_ii, gt_ii, ge_ii, isN_non, isN_int, isN_bl, isN_str, isN_tup, isN_lst, notN_non, notN_int, notN_tup, notN_lst, add_ii', sub_ii', add_tt', add_ll', mul_sm, mul_bg, fdiv_sm, fdiv_bg, mod_sm, pow_sm, eq_ii', ne_ii', ix_tup, ix_lst, varS, var0_int, var0_bl, var0_tup, var0_lst, var0_str, var0_non, var0_cup, var0_scr, List.length_cons, List.length_nil, List.map_cons, List.map_nil, List.cons_append, List.nil_append, List.replicate_succ, List.replicate_zero, env0, Option.map_some, Nat.zero_add, Nat.reduceAdd, Nat.reduceSub, Nat.reduceLeDiff, Int.reduceLT, Int.reduceLE, Bool.not_true, Bool.not_false, decide_true, decide_false, natLit, at0, at1, at2, at3, at4, at5, Int.reduceAdd, Int.reduceSub, Int.reduceMul, Int.reducePow, Int.reduceNeg, Int.reduceDiv, Int.reduceMod, Int.reduceToNat, Int.reduceEq, reduceIte, decide_eq_true_eq, List.all_cons, List.all_nil, List.any_cons, List.any_nil, id, Bool.and_true, Bool.true_and, Bool.and_false, Bool.false_and, Bool.or_true, Bool.or_false, Bool.true_or, Bool.false_or, Bool.false_eq_true, f_u_law_parents_right, b_u_law_parents_right]
  · have hb2 : 2 ≤ b := by omega
    obtain ⟨l, m, k, j, hl, l1, l2, m1, m2, e1, e2, lt⟩ := lasts_ok (c := c) F
    obtain ⟨l3, m3⟩ := lt hb2
    have pv := parents_val F hb2 hl l1 l2 m1 m2 e1 e2
    have k1 := parent_x (B := G) hb2 (by decide) h1 h2 l1 l3 (.inl rfl) e1
    have j1 := parent_x (B := G) hb2 (by decide) h1 h2 m1 m3 (.inr rfl) e2
    have hd : b ∣ l + m := by
      have : b ∣ a * (l + m) := ⟨k + j, by grind⟩
      exact dvd_cop (by rw [Int.gcd_comm]; exact F.g) this
    have lm : l + m = b := by
      obtain ⟨t, ht⟩ := hd
      have t1 : 1 ≤ t := by
        by_cases q : 1 ≤ t
        · exact q
        · have := Int.mul_le_mul_of_nonneg_left (a := t) (b := 0) (c := b) (by omega) (by omega)
          omega
      have t2 : t ≤ 1 := by
        by_cases q : t ≤ 1
        · exact q
        · have := Int.mul_le_mul_of_nonneg_left (a := 2) (b := t) (c := b) (by omega) (by omega)
          omega
      have : t = 1 := by omega
      subst this
      omega
    have kj : k + j = a := by
      have : b * (k + j) = b * a := by rw [← lm]; grind
      exact Int.eq_of_mul_eq_mul_left (by omega) this
    have kl : k * m - j * l = -1 := by
      have : b * (k * m - j * l) = b * -1 := by
        have : b * (k * m - j * l) = (b * k) * m - (b * j) * l := by grind
        rw [this, show b * k = a * l - 1 by omega, show b * j = a * m + 1 by omega, ← lm]; grind
      exact Int.eq_of_mul_eq_mul_left (by omega) this
    have F1 : Fr G k l := ⟨l1, Int.lt_trans l3 h3, k1.1, k1.2, gcd_of_one (u := m) (v := -j) (.inr (by grind))⟩
    have F2 : Fr G j m := ⟨m1, Int.lt_trans m3 h3, j1.1, j1.2, gcd_of_one (u := -l) (v := k) (.inr (by grind))⟩
    have t1 : toB a b k l = true := decide_eq_true (.inl (by omega))
    have t2 : toB a b j m = true := decide_eq_true (.inr (by omega))
    have t3 : toB k l j m = true := decide_eq_true (.inr (by have : l * j = j * l := Int.mul_comm _ _; omega))
    have lo := fun c => lowest_self (c := c) F
    have lt2 : k * m < j * l := by omega
    have f1 := fr_g F1
    have f2 := fr_g F2
    have l0 : ¬ l < 1 := by omega
    have m0 : ¬ m < 1 := by omega
    simp (disch := first | omega | exact Nat.le_of_ble_eq_true rfl | assumption | (simp only [List.length_append, List.length_cons, List.length_nil, List.length_map] <;> omega) | exact rfl | decide | (simp only [pl_int', pl_bl', pl_non', pl1l, pl1t, pl2l, pl2t, pl3l, pl3t, pl4l, pl4t, pl5l, pl5t, pl6l, pl6t, pl7l, pl7t, pl8l, pl8t, pl9l, pl9t, List.all_cons, List.all_nil, List.length_cons, List.length_nil, Nat.reduceAdd, Nat.reduceLeDiff, decide_true, Bool.and_true, Bool.true_and, Bool.and_self, *]; done) | fail) only [↓e_seq, ↓e_sl, ↓e_part, ↓e_par, ↓e_cupSet, ↓e_ifS, ↓e_ret, ↓e_drop, ↓e_asg, ↓e_B, ↓e_notB, ↓e_andB, ↓e_orB, ↓e_notD, ↓e_andD, ↓e_orD, ↓e_if, ↓e_op, ↓e_cons, ↓e_call, ↓e_icall, ↓e_tup', ↓e_lst, ↓e_neg, ↓e_chain, ↓e_last, ↓e_link, ↓e_un, ↓e_isi', ↓e_lc, ↓e_iseq, ↓e_for, ↓e_run0, ↓e_run1, ↓e_run2, ↓e_run3, ↓e_run4, ↓e_run5, ↓e_run6, ↓e_run7, ↓e_run8, k_sl1, k_sl2, sl_tup, sl_lst, e_noPart, k_part, revA_t, revA_l, k_par, put_nil, put_cons, e_ix0, e_ix1, k_cup0, k_cup1, in_ii2, zip_tt, zip_ll, then_ok, k_seqN, k_seqR, k_seqB, k_seqC, k_ifST, k_ifSF, e_skip, k_ret, e_retN, e_brk, e_cont, k_drop, k_asgName, k_asgTup, optE_some, g_tup, g_name, g_cons, g_nil, Option.bind_some, st0, stS, k_asB, k_notB, k_andBT, k_andBF, k_orBT, k_orBF, k_notD, k_andDT, k_andDF, k_orDT, k_orDF, k_ifT, k_ifF, e_C, k_op1, e_nil, k_c1, k_c2, k_tup, k_lst, k_neg, k_chain, k_link1, k_link2T, k_link2F, k_isi_int, k_isi_bl, k_isi_non, k_isi_str, k_isi_tup, k_isi_lst, D.isInt, D.isBool, D.isStr, D.isTup, D.isLst, k_runR, k_runN, k_lst', k_lc, l_nil, l_cons, optL_some, k_l1T, k_l1F, k_l2, e_yes, w_nil, w_cons, seqD_tup, seqD_lst, k_for, f_nil, f_cons, optF_some, k_f1N, k_f1C, k_f1B, k_f1R, len_tup, len_lst, len_scr, abs_i, int_i, int_b, list_l, list_t, list_s, tup_l, tup_t, max2, min2, sum_l, sum_t, okS_some, ints_nil, ints_cons, bls_nil, bls_cons, okB_some, all_l, any_l, lt_ii, le_ii, gt_ii, ge_ii, isN_non, isN_int, isN_bl, isN_str, isN_tup, isN_lst, notN_non, notN_int, notN_tup, notN_lst, add_ii', sub_ii', add_tt', add_ll', mul_sm, mul_bg, fdiv_sm, fdiv_bg, mod_sm, pow_sm, eq_ii', ne_ii', ix_tup, ix_lst, varS, var0_int, var0_bl, var0_tup, var0_lst, var0_str, var0_non, var0_cup, var0_scr, List.length_cons, List.length_nil, List.map_cons, List.map_nil, List.cons_append, List.nil_append, List.replicate_succ, List.replicate_zero, env0, Option.map_some, Nat.zero_add, Nat.reduceAdd, Nat.reduceSub, Nat.reduceLeDiff, Int.reduceLT, Int.reduceLE, Bool.not_true, Bool.not_false, decide_true, decide_false, natLit, at0, at1, at2, at3, at4, at5, Int.reduceAdd, Int.reduceSub, Int.reduceMul, Int.reducePow, Int.reduceNeg, Int.reduceDiv, Int.reduceMod, Int.reduceToNat, Int.reduceEq, reduceIte, decide_eq_true_eq, List.all_cons, List.all_nil, List.any_cons, List.any_nil, id, Bool.and_true, Bool.true_and, Bool.and_false, Bool.false_and, Bool.or_true, Bool.or_false, Bool.true_or, Bool.false_or, Bool.false_eq_true, f_u_law_parents_right, b_u_law_parents_right, hb, pv, do_touch_ok F F1, do_touch_ok F F2, do_touch_ok F1 F2, t1, t2, t3, f_ford_between, b_ford_between, needs_fr F1 F2, f_between_in, b_between_in, lm, kj, lo, like_same, lt2, l0, m0]
theorem toB_sym {a n x m : Int} : toB x m a n = toB a n x m := by
  unfold toB
  have : x * n - m * a = -(a * m - n * x) := by grind
  rw [this]
  congr 1
  rw [eq_iff_iff]
  omega
theorem row_ok {n m : Int} {c : Cup} (h1 : 1 ≤ n ∧ n ≤ 1000000) (h2 : 1 ≤ m ∧ m ≤ 1000000) : f_is_row_of_bends [.tup [.int 0, .int (2 * n * n), .int (2 * m * m), .int (2 * (n + m) * (n + m))]] c = .ok (.bl true) c := by
  have p1 := pb (s := 2 * n) (t := n) (A := 2000000) (B := 1000000) (by omega) (by omega)
  have p2 := pb (s := 2 * m) (t := m) (A := 2000000) (B := 1000000) (by omega) (by omega)
  have p3 := pb (s := 2 * (n + m)) (t := n + m) (A := 4000000) (B := 2000000) (by omega) (by omega)
  have q1 := Int.mul_pos (a := 2 * n) (b := n) (by omega) (by omega)
  have q2 := Int.mul_pos (a := 2 * m) (b := m) (by omega) (by omega)
  have q3 := Int.mul_pos (a := 2 * (n + m)) (b := n + m) (by omega) (by omega)
  generalize hu : 2 * n * n = u at *
  generalize hv : 2 * m * m = v at *
  generalize hw : 2 * (n + m) * (n + m) = w at *
  have key : 2 * (0 + (u * u + (v * v + (w * w + 0)))) = (0 + (u + (v + (w + 0)))) ^ 2 := by subst hu hv hw; grind
  have b1 : -1000000000000000000000000000000000000000000000000000000000000 < u ∧ u < 1000000000000000000000000000000000000000000000000000000000000 := by omega
  have b2 : -1000000000000000000000000000000000000000000000000000000000000 < v ∧ v < 1000000000000000000000000000000000000000000000000000000000000 := by omega
  have b3 : -1000000000000000000000000000000000000000000000000000000000000 < w ∧ w < 1000000000000000000000000000000000000000000000000000000000000 := by omega
  have pos : 0 < 0 + (u + (v + (w + 0))) := by omega
  clear hu hv hw
  simp (disch := first | omega | exact Nat.le_of_ble_eq_true rfl | assumption | (simp only [List.length_append, List.length_cons, List.length_nil, List.length_map] <;> omega) | exact rfl | decide | (simp only [pl_int', pl_bl', pl_non', pl1l, pl1t, pl2l, pl2t, pl3l, pl3t, pl4l, pl4t, pl5l, pl5t, pl6l, pl6t, pl7l, pl7t, pl8l, pl8t, pl9l, pl9t, List.all_cons, List.all_nil, List.length_cons, List.length_nil, Nat.reduceAdd, Nat.reduceLeDiff, decide_true, Bool.and_true, Bool.true_and, Bool.and_self, *]; done) | fail) only [↓e_seq, ↓e_sl, ↓e_part, ↓e_par, ↓e_cupSet, ↓e_ifS, ↓e_ret, ↓e_drop, ↓e_asg, ↓e_B, ↓e_notB, ↓e_andB, ↓e_orB, ↓e_notD, ↓e_andD, ↓e_orD, ↓e_if, ↓e_op, ↓e_cons, ↓e_call, ↓e_icall, ↓e_tup', ↓e_lst, ↓e_neg, ↓e_chain, ↓e_last, ↓e_link, ↓e_un, ↓e_isi', ↓e_lc, ↓e_iseq, ↓e_for, ↓e_run0, ↓e_run1, ↓e_run2, ↓e_run3, ↓e_run4, ↓e_run5, ↓e_run6, ↓e_run7, ↓e_run8, k_sl1, k_sl2, sl_tup, sl_lst, e_noPart, k_part, revA_t, revA_l, k_par, put_nil, put_cons, e_ix0, e_ix1, k_cup0, k_cup1, in_ii2, zip_tt, zip_ll, then_ok, k_seqN, k_seqR, k_seqB, k_seqC, k_ifST, k_ifSF, e_skip, k_ret, e_retN, e_brk, e_cont, k_drop, k_asgName, k_asgTup, optE_some, g_tup, g_name, g_cons, g_nil, Option.bind_some, st0, stS, k_asB, k_notB, k_andBT, k_andBF, k_orBT, k_orBF, k_notD, k_andDT, k_andDF, k_orDT, k_orDF, k_ifT, k_ifF, e_C, k_op1, e_nil, k_c1, k_c2, k_tup, k_lst, k_neg, k_chain, k_link1, k_link2T, k_link2F, k_isi_int, k_isi_bl, k_isi_non, k_isi_str, k_isi_tup, k_isi_lst, D.isInt, D.isBool, D.isStr, D.isTup, D.isLst, k_runR, k_runN, k_lst', k_lc, l_nil, l_cons, optL_some, k_l1T, k_l1F, k_l2, e_yes, w_nil, w_cons, seqD_tup, seqD_lst, k_for, f_nil, f_cons, optF_some, k_f1N, k_f1C, k_f1B, k_f1R, len_tup, len_lst, len_scr, abs_i, int_i, int_b, list_l, list_t, list_s, tup_l, tup_t, max2, min2, sum_l, sum_t, okS_some, ints_nil, ints_cons, bls_nil, bls_cons, okB_some, all_l, any_l, lt_ii, le_ii, gt_ii, ge_ii, isN_non, isN_int, isN_bl, isN_str, isN_tup, isN_lst, notN_non, notN_int, notN_tup, notN_lst, add_ii', sub_ii', add_tt', add_ll', mul_sm, mul_bg, fdiv_sm, fdiv_bg, mod_sm, pow_sm, eq_ii', ne_ii', ix_tup, ix_lst, varS, var0_int, var0_bl, var0_tup, var0_lst, var0_str, var0_non, var0_cup, var0_scr, List.length_cons, List.length_nil, List.map_cons, List.map_nil, List.cons_append, List.nil_append, List.replicate_succ, List.replicate_zero, env0, Option.map_some, Nat.zero_add, Nat.reduceAdd, Nat.reduceSub, Nat.reduceLeDiff, Int.reduceLT, Int.reduceLE, Bool.not_true, Bool.not_false, decide_true, decide_false, natLit, at0, at1, at2, at3, at4, at5, Int.reduceAdd, Int.reduceSub, Int.reduceMul, Int.reducePow, Int.reduceNeg, Int.reduceDiv, Int.reduceMod, Int.reduceToNat, Int.reduceEq, reduceIte, decide_eq_true_eq, List.all_cons, List.all_nil, List.any_cons, List.any_nil, id, Bool.and_true, Bool.true_and, Bool.and_false, Bool.false_and, Bool.or_true, Bool.or_false, Bool.true_or, Bool.false_or, Bool.false_eq_true, f_is_row_of_bends, b_is_row_of_bends, f_fits_row, b_fits_row, f_is_tuple_of, b_is_tuple_of, f_is_integer, b_is_integer, f_is_touching, b_is_touching, b1.1, b1.2, b2.1, b2.2, b3.1, b3.2, List.sum_cons, List.sum_nil, key, pos]
theorem lt_cut {g p q : Int} (h : 0 < g) (e : g * p < g * q) : p < q := Int.lt_of_mul_lt_mul_left e (by omega)
theorem mean_lt {a n x m y k g : Int} (g0 : 0 < g) (y1 : a + x = g * y) (k1 : n + m = g * k) (h : a * m < x * n) : a * k < y * n ∧ y * m < x * k := by
  constructor
  · refine lt_cut g0 ?_
    have e1 : g * (a * k) = a * (n + m) := by rw [k1]; grind
    have e2 : g * (y * n) = (a + x) * n := by rw [y1]; grind
    rw [e1, e2]
    have e3 : a * (n + m) = a * n + a * m := by grind
    have e4 : (a + x) * n = a * n + x * n := by grind
    omega
  · refine lt_cut g0 ?_
    have e1 : g * (x * k) = x * (n + m) := by rw [k1]; grind
    have e2 : g * (y * m) = (a + x) * m := by rw [y1]; grind
    rw [e1, e2]
    have e3 : x * (n + m) = x * n + x * m := by grind
    have e4 : (a + x) * m = a * m + x * m := by grind
    omega
theorem mean_lt' {a n x m y k g : Int} (g0 : 0 < g) (y1 : a + x = g * y) (k1 : n + m = g * k) (h : x * n < a * m) : x * k < y * m ∧ y * n < a * k :=
  mean_lt (a := x) (n := m) (x := a) (m := n) g0 (by omega) (by omega) h
theorem mean_touch {a n x m y k g : Int} (g0 : 0 < g) (y1 : a + x = g * y) (k1 : n + m = g * k) (h : toB a n x m = true) : g = 1 := by
  have h := of_decide_eq_true h
  have e : g * (y * m - k * x) = a * m - n * x := by
    have : g * (y * m - k * x) = (g * y) * m - (g * k) * x := by grind
    rw [this, ← y1, ← k1]; grind
  have hd : g ∣ 1 := by
    rcases h with h | h
    · exact ⟨_, (e.trans h).symm⟩
    · exact ⟨-(y * m - k * x), by rw [Int.mul_neg, e, h]; rfl⟩
  have := Int.le_of_dvd (by decide) hd
  omega
theorem right_fr {a n x m : Int} {c : Cup} (F : Fr G a n) (F' : Fr G x m) (L : Lo a n) (L' : Lo x m) : f_u_law_right [.cup, pr a n, pr x m] c = .ok (.bl true) c := by
  have := L.h1; have := L.h2; have := L.h3; have := L.h4
  have := L'.h1; have := L'.h2; have := L'.h3; have := L'.h4
  obtain ⟨y, k, g, le, lo, g0, y1, k1, FF⟩ := least_ok (a := a + x) (b := n + m) (by omega) (by omega) (by omega)
  have lo2 := fun c => lowest_twice (c := c) F L
  have kb := mul_le_abs (x := k) (B := 2000001) g0 (by omega) (by omega)
  have yb := mul_le_abs (x := y) (B := 2000000001) g0 (by omega) (by omega)
  have kk := FF.n1
  have sy := toB_sym (a := a) (n := n) (x := x) (m := m)
  by_cases hT : toB a n x m = true
  · have g1 := mean_touch g0 y1 k1 hT
    subst g1
    rw [Int.one_mul] at y1 k1
    subst y1 k1
    have hx := of_decide_eq_true hT
    have t1 : toB a n (a + x) (n + m) = true := decide_eq_true (by
      have : a * (n + m) - n * (a + x) = a * m - n * x := by grind
      rw [this]; exact hx)
    have t2 : toB (a + x) (n + m) x m = true := decide_eq_true (by
      have : (a + x) * m - (n + m) * x = a * m - n * x := by grind
      rw [this]; exact hx)
    have ne : (decide (a = x) && decide (n = m)) = false := by
      rw [Bool.and_eq_false_iff, decide_eq_false_iff_not, decide_eq_false_iff_not]
      by_cases q : a = x
      · right; intro q2; subst q q2
        have : a * n - n * a = 0 := by grind
        omega
      · exact .inl q
    have rw1 := fun c => row_ok (c := c) (n := n) (m := m) (by omega) (by omega)
    have cm : n * x = x * n := Int.mul_comm _ _
    by_cases h : a * m < x * n
    · obtain ⟨m1, m2⟩ := mean_lt (a := a) (n := n) (x := x) (m := m) (y := a + x) (k := n + m) (g := 1) (by decide) (by omega) (by omega) h
      simp (disch := first | omega | exact Nat.le_of_ble_eq_true rfl | assumption | (simp only [List.length_append, List.length_cons, List.length_nil, List.length_map] <;> omega) | exact rfl | decide | (simp only [pl_int', pl_bl', pl_non', pl1l, pl1t, pl2l, pl2t, pl3l, pl3t, pl4l, pl4t, pl5l, pl5t, pl6l, pl6t, pl7l, pl7t, pl8l, pl8t, pl9l, pl9t, List.all_cons, List.all_nil, List.length_cons, List.length_nil, Nat.reduceAdd, Nat.reduceLeDiff, decide_true, Bool.and_true, Bool.true_and, Bool.and_self, *]; done) | fail) only [↓e_seq, ↓e_sl, ↓e_part, ↓e_par, ↓e_cupSet, ↓e_ifS, ↓e_ret, ↓e_drop, ↓e_asg, ↓e_B, ↓e_notB, ↓e_andB, ↓e_orB, ↓e_notD, ↓e_andD, ↓e_orD, ↓e_if, ↓e_op, ↓e_cons, ↓e_call, ↓e_icall, ↓e_tup', ↓e_lst, ↓e_neg, ↓e_chain, ↓e_last, ↓e_link, ↓e_un, ↓e_isi', ↓e_lc, ↓e_iseq, ↓e_for, ↓e_run0, ↓e_run1, ↓e_run2, ↓e_run3, ↓e_run4, ↓e_run5, ↓e_run6, ↓e_run7, ↓e_run8, k_sl1, k_sl2, sl_tup, sl_lst, e_noPart, k_part, revA_t, revA_l, k_par, put_nil, put_cons, e_ix0, e_ix1, k_cup0, k_cup1, in_ii2, zip_tt, zip_ll, then_ok, k_seqN, k_seqR, k_seqB, k_seqC, k_ifST, k_ifSF, e_skip, k_ret, e_retN, e_brk, e_cont, k_drop, k_asgName, k_asgTup, optE_some, g_tup, g_name, g_cons, g_nil, Option.bind_some, st0, stS, k_asB, k_notB, k_andBT, k_andBF, k_orBT, k_orBF, k_notD, k_andDT, k_andDF, k_orDT, k_orDF, k_ifT, k_ifF, e_C, k_op1, e_nil, k_c1, k_c2, k_tup, k_lst, k_neg, k_chain, k_link1, k_link2T, k_link2F, k_isi_int, k_isi_bl, k_isi_non, k_isi_str, k_isi_tup, k_isi_lst, D.isInt, D.isBool, D.isStr, D.isTup, D.isLst, k_runR, k_runN, k_lst', k_lc, l_nil, l_cons, optL_some, k_l1T, k_l1F, k_l2, e_yes, w_nil, w_cons, seqD_tup, seqD_lst, k_for, f_nil, f_cons, optF_some, k_f1N, k_f1C, k_f1B, k_f1R, len_tup, len_lst, len_scr, abs_i, int_i, int_b, list_l, list_t, list_s, tup_l, tup_t, max2, min2, sum_l, sum_t, okS_some, ints_nil, ints_cons, bls_nil, bls_cons, okB_some, all_l, any_l, lt_ii, le_ii, gt_ii, ge_ii, isN_non, isN_int, isN_bl, isN_str, isN_tup, isN_lst, notN_non, notN_int, notN_tup, notN_lst, add_ii', sub_ii', add_tt', add_ll', mul_sm, mul_bg, fdiv_sm, fdiv_bg, mod_sm, pow_sm, eq_ii', ne_ii', ix_tup, ix_lst, varS, var0_int, var0_bl, var0_tup, var0_lst, var0_str, var0_non, var0_cup, var0_scr, List.length_cons, List.length_nil, List.map_cons, List.map_nil, List.cons_append, List.nil_append, List.replicate_succ, List.replicate_zero, env0, Option.map_some, Nat.zero_add, Nat.reduceAdd, Nat.reduceSub, Nat.reduceLeDiff, Int.reduceLT, Int.reduceLE, Bool.not_true, Bool.not_false, decide_true, decide_false, natLit, at0, at1, at2, at3, at4, at5, Int.reduceAdd, Int.reduceSub, Int.reduceMul, Int.reducePow, Int.reduceNeg, Int.reduceDiv, Int.reduceMod, Int.reduceToNat, Int.reduceEq, reduceIte, decide_eq_true_eq, List.all_cons, List.all_nil, List.any_cons, List.any_nil, id, Bool.and_true, Bool.true_and, Bool.and_false, Bool.false_and, Bool.or_true, Bool.or_false, Bool.true_or, Bool.false_or, Bool.false_eq_true, f_u_law_right, b_u_law_right, le, law_touch_ok L L', do_touch_ok F F', do_touch_ok F' F, sy, f_ford_between, b_ford_between, needs_fr F F', needs_fr F F, f_between_in, b_between_in, lo, lo2, hT, like_same, h, ne_pr, ne, m1, m2, f_ford_bends, b_ford_bends, touching_ok F F', do_touch_ok F FF, do_touch_ok FF F', t1, t2, rw1]
    · obtain ⟨m1, m2⟩ := mean_lt' (a := a) (n := n) (x := x) (m := m) (y := a + x) (k := n + m) (g := 1) (by decide) (by omega) (by omega) (by omega)
      simp (disch := first | omega | exact Nat.le_of_ble_eq_true rfl | assumption | (simp only [List.length_append, List.length_cons, List.length_nil, List.length_map] <;> omega) | exact rfl | decide | (simp only [pl_int', pl_bl', pl_non', pl1l, pl1t, pl2l, pl2t, pl3l, pl3t, pl4l, pl4t, pl5l, pl5t, pl6l, pl6t, pl7l, pl7t, pl8l, pl8t, pl9l, pl9t, List.all_cons, List.all_nil, List.length_cons, List.length_nil, Nat.reduceAdd, Nat.reduceLeDiff, decide_true, Bool.and_true, Bool.true_and, Bool.and_self, *]; done) | fail) only [↓e_seq, ↓e_sl, ↓e_part, ↓e_par, ↓e_cupSet, ↓e_ifS, ↓e_ret, ↓e_drop, ↓e_asg, ↓e_B, ↓e_notB, ↓e_andB, ↓e_orB, ↓e_notD, ↓e_andD, ↓e_orD, ↓e_if, ↓e_op, ↓e_cons, ↓e_call, ↓e_icall, ↓e_tup', ↓e_lst, ↓e_neg, ↓e_chain, ↓e_last, ↓e_link, ↓e_un, ↓e_isi', ↓e_lc, ↓e_iseq, ↓e_for, ↓e_run0, ↓e_run1, ↓e_run2, ↓e_run3, ↓e_run4, ↓e_run5, ↓e_run6, ↓e_run7, ↓e_run8, k_sl1, k_sl2, sl_tup, sl_lst, e_noPart, k_part, revA_t, revA_l, k_par, put_nil, put_cons, e_ix0, e_ix1, k_cup0, k_cup1, in_ii2, zip_tt, zip_ll, then_ok, k_seqN, k_seqR, k_seqB, k_seqC, k_ifST, k_ifSF, e_skip, k_ret, e_retN, e_brk, e_cont, k_drop, k_asgName, k_asgTup, optE_some, g_tup, g_name, g_cons, g_nil, Option.bind_some, st0, stS, k_asB, k_notB, k_andBT, k_andBF, k_orBT, k_orBF, k_notD, k_andDT, k_andDF, k_orDT, k_orDF, k_ifT, k_ifF, e_C, k_op1, e_nil, k_c1, k_c2, k_tup, k_lst, k_neg, k_chain, k_link1, k_link2T, k_link2F, k_isi_int, k_isi_bl, k_isi_non, k_isi_str, k_isi_tup, k_isi_lst, D.isInt, D.isBool, D.isStr, D.isTup, D.isLst, k_runR, k_runN, k_lst', k_lc, l_nil, l_cons, optL_some, k_l1T, k_l1F, k_l2, e_yes, w_nil, w_cons, seqD_tup, seqD_lst, k_for, f_nil, f_cons, optF_some, k_f1N, k_f1C, k_f1B, k_f1R, len_tup, len_lst, len_scr, abs_i, int_i, int_b, list_l, list_t, list_s, tup_l, tup_t, max2, min2, sum_l, sum_t, okS_some, ints_nil, ints_cons, bls_nil, bls_cons, okB_some, all_l, any_l, lt_ii, le_ii, gt_ii, ge_ii, isN_non, isN_int, isN_bl, isN_str, isN_tup, isN_lst, notN_non, notN_int, notN_tup, notN_lst, add_ii', sub_ii', add_tt', add_ll', mul_sm, mul_bg, fdiv_sm, fdiv_bg, mod_sm, pow_sm, eq_ii', ne_ii', ix_tup, ix_lst, varS, var0_int, var0_bl, var0_tup, var0_lst, var0_str, var0_non, var0_cup, var0_scr, List.length_cons, List.length_nil, List.map_cons, List.map_nil, List.cons_append, List.nil_append, List.replicate_succ, List.replicate_zero, env0, Option.map_some, Nat.zero_add, Nat.reduceAdd, Nat.reduceSub, Nat.reduceLeDiff, Int.reduceLT, Int.reduceLE, Bool.not_true, Bool.not_false, decide_true, decide_false, natLit, at0, at1, at2, at3, at4, at5, Int.reduceAdd, Int.reduceSub, Int.reduceMul, Int.reducePow, Int.reduceNeg, Int.reduceDiv, Int.reduceMod, Int.reduceToNat, Int.reduceEq, reduceIte, decide_eq_true_eq, List.all_cons, List.all_nil, List.any_cons, List.any_nil, id, Bool.and_true, Bool.true_and, Bool.and_false, Bool.false_and, Bool.or_true, Bool.or_false, Bool.true_or, Bool.false_or, Bool.false_eq_true, f_u_law_right, b_u_law_right, le, law_touch_ok L L', do_touch_ok F F', do_touch_ok F' F, sy, f_ford_between, b_ford_between, needs_fr F F', needs_fr F F, f_between_in, b_between_in, lo, lo2, hT, like_same, h, ne_pr, ne, m1, m2, f_ford_bends, b_ford_bends, touching_ok F F', do_touch_ok F FF, do_touch_ok FF F', t1, t2, rw1]
  · have hT : toB a n x m = false := by simpa using hT
    by_cases ne : a = x ∧ n = m
    · have ne' : (decide (a = x) && decide (n = m)) = true := by simp [ne.1, ne.2]
      by_cases h : a * m < x * n
      · simp (disch := first | omega | exact Nat.le_of_ble_eq_true rfl | assumption | (simp only [List.length_append, List.length_cons, List.length_nil, List.length_map] <;> omega) | exact rfl | decide | (simp only [pl_int', pl_bl', pl_non', pl1l, pl1t, pl2l, pl2t, pl3l, pl3t, pl4l, pl4t, pl5l, pl5t, pl6l, pl6t, pl7l, pl7t, pl8l, pl8t, pl9l, pl9t, List.all_cons, List.all_nil, List.length_cons, List.length_nil, Nat.reduceAdd, Nat.reduceLeDiff, decide_true, Bool.and_true, Bool.true_and, Bool.and_self, *]; done) | fail) only [↓e_seq, ↓e_sl, ↓e_part, ↓e_par, ↓e_cupSet, ↓e_ifS, ↓e_ret, ↓e_drop, ↓e_asg, ↓e_B, ↓e_notB, ↓e_andB, ↓e_orB, ↓e_notD, ↓e_andD, ↓e_orD, ↓e_if, ↓e_op, ↓e_cons, ↓e_call, ↓e_icall, ↓e_tup', ↓e_lst, ↓e_neg, ↓e_chain, ↓e_last, ↓e_link, ↓e_un, ↓e_isi', ↓e_lc, ↓e_iseq, ↓e_for, ↓e_run0, ↓e_run1, ↓e_run2, ↓e_run3, ↓e_run4, ↓e_run5, ↓e_run6, ↓e_run7, ↓e_run8, k_sl1, k_sl2, sl_tup, sl_lst, e_noPart, k_part, revA_t, revA_l, k_par, put_nil, put_cons, e_ix0, e_ix1, k_cup0, k_cup1, in_ii2, zip_tt, zip_ll, then_ok, k_seqN, k_seqR, k_seqB, k_seqC, k_ifST, k_ifSF, e_skip, k_ret, e_retN, e_brk, e_cont, k_drop, k_asgName, k_asgTup, optE_some, g_tup, g_name, g_cons, g_nil, Option.bind_some, st0, stS, k_asB, k_notB, k_andBT, k_andBF, k_orBT, k_orBF, k_notD, k_andDT, k_andDF, k_orDT, k_orDF, k_ifT, k_ifF, e_C, k_op1, e_nil, k_c1, k_c2, k_tup, k_lst, k_neg, k_chain, k_link1, k_link2T, k_link2F, k_isi_int, k_isi_bl, k_isi_non, k_isi_str, k_isi_tup, k_isi_lst, D.isInt, D.isBool, D.isStr, D.isTup, D.isLst, k_runR, k_runN, k_lst', k_lc, l_nil, l_cons, optL_some, k_l1T, k_l1F, k_l2, e_yes, w_nil, w_cons, seqD_tup, seqD_lst, k_for, f_nil, f_cons, optF_some, k_f1N, k_f1C, k_f1B, k_f1R, len_tup, len_lst, len_scr, abs_i, int_i, int_b, list_l, list_t, list_s, tup_l, tup_t, max2, min2, sum_l, sum_t, okS_some, ints_nil, ints_cons, bls_nil, bls_cons, okB_some, all_l, any_l, lt_ii, le_ii, gt_ii, ge_ii, isN_non, isN_int, isN_bl, isN_str, isN_tup, isN_lst, notN_non, notN_int, notN_tup, notN_lst, add_ii', sub_ii', add_tt', add_ll', mul_sm, mul_bg, fdiv_sm, fdiv_bg, mod_sm, pow_sm, eq_ii', ne_ii', ix_tup, ix_lst, varS, var0_int, var0_bl, var0_tup, var0_lst, var0_str, var0_non, var0_cup, var0_scr, List.length_cons, List.length_nil, List.map_cons, List.map_nil, List.cons_append, List.nil_append, List.replicate_succ, List.replicate_zero, env0, Option.map_some, Nat.zero_add, Nat.reduceAdd, Nat.reduceSub, Nat.reduceLeDiff, Int.reduceLT, Int.reduceLE, Bool.not_true, Bool.not_false, decide_true, decide_false, natLit, at0, at1, at2, at3, at4, at5, Int.reduceAdd, Int.reduceSub, Int.reduceMul, Int.reducePow, Int.reduceNeg, Int.reduceDiv, Int.reduceMod, Int.reduceToNat, Int.reduceEq, reduceIte, decide_eq_true_eq, List.all_cons, List.all_nil, List.any_cons, List.any_nil, id, Bool.and_true, Bool.true_and, Bool.and_false, Bool.false_and, Bool.or_true, Bool.or_false, Bool.true_or, Bool.false_or, Bool.false_eq_true, f_u_law_right, b_u_law_right, le, law_touch_ok L L', do_touch_ok F F', do_touch_ok F' F, sy, f_ford_between, b_ford_between, needs_fr F F', needs_fr F F, f_between_in, b_between_in, lo, lo2, hT, like_same, h, ne_pr, ne']
      · simp (disch := first | omega | exact Nat.le_of_ble_eq_true rfl | assumption | (simp only [List.length_append, List.length_cons, List.length_nil, List.length_map] <;> omega) | exact rfl | decide | (simp only [pl_int', pl_bl', pl_non', pl1l, pl1t, pl2l, pl2t, pl3l, pl3t, pl4l, pl4t, pl5l, pl5t, pl6l, pl6t, pl7l, pl7t, pl8l, pl8t, pl9l, pl9t, List.all_cons, List.all_nil, List.length_cons, List.length_nil, Nat.reduceAdd, Nat.reduceLeDiff, decide_true, Bool.and_true, Bool.true_and, Bool.and_self, *]; done) | fail) only [↓e_seq, ↓e_sl, ↓e_part, ↓e_par, ↓e_cupSet, ↓e_ifS, ↓e_ret, ↓e_drop, ↓e_asg, ↓e_B, ↓e_notB, ↓e_andB, ↓e_orB, ↓e_notD, ↓e_andD, ↓e_orD, ↓e_if, ↓e_op, ↓e_cons, ↓e_call, ↓e_icall, ↓e_tup', ↓e_lst, ↓e_neg, ↓e_chain, ↓e_last, ↓e_link, ↓e_un, ↓e_isi', ↓e_lc, ↓e_iseq, ↓e_for, ↓e_run0, ↓e_run1, ↓e_run2, ↓e_run3, ↓e_run4, ↓e_run5, ↓e_run6, ↓e_run7, ↓e_run8, k_sl1, k_sl2, sl_tup, sl_lst, e_noPart, k_part, revA_t, revA_l, k_par, put_nil, put_cons, e_ix0, e_ix1, k_cup0, k_cup1, in_ii2, zip_tt, zip_ll, then_ok, k_seqN, k_seqR, k_seqB, k_seqC, k_ifST, k_ifSF, e_skip, k_ret, e_retN, e_brk, e_cont, k_drop, k_asgName, k_asgTup, optE_some, g_tup, g_name, g_cons, g_nil, Option.bind_some, st0, stS, k_asB, k_notB, k_andBT, k_andBF, k_orBT, k_orBF, k_notD, k_andDT, k_andDF, k_orDT, k_orDF, k_ifT, k_ifF, e_C, k_op1, e_nil, k_c1, k_c2, k_tup, k_lst, k_neg, k_chain, k_link1, k_link2T, k_link2F, k_isi_int, k_isi_bl, k_isi_non, k_isi_str, k_isi_tup, k_isi_lst, D.isInt, D.isBool, D.isStr, D.isTup, D.isLst, k_runR, k_runN, k_lst', k_lc, l_nil, l_cons, optL_some, k_l1T, k_l1F, k_l2, e_yes, w_nil, w_cons, seqD_tup, seqD_lst, k_for, f_nil, f_cons, optF_some, k_f1N, k_f1C, k_f1B, k_f1R, len_tup, len_lst, len_scr, abs_i, int_i, int_b, list_l, list_t, list_s, tup_l, tup_t, max2, min2, sum_l, sum_t, okS_some, ints_nil, ints_cons, bls_nil, bls_cons, okB_some, all_l, any_l, lt_ii, le_ii, gt_ii, ge_ii, isN_non, isN_int, isN_bl, isN_str, isN_tup, isN_lst, notN_non, notN_int, notN_tup, notN_lst, add_ii', sub_ii', add_tt', add_ll', mul_sm, mul_bg, fdiv_sm, fdiv_bg, mod_sm, pow_sm, eq_ii', ne_ii', ix_tup, ix_lst, varS, var0_int, var0_bl, var0_tup, var0_lst, var0_str, var0_non, var0_cup, var0_scr, List.length_cons, List.length_nil, List.map_cons, List.map_nil, List.cons_append, List.nil_append, List.replicate_succ, List.replicate_zero, env0, Option.map_some, Nat.zero_add, Nat.reduceAdd, Nat.reduceSub, Nat.reduceLeDiff, Int.reduceLT, Int.reduceLE, Bool.not_true, Bool.not_false, decide_true, decide_false, natLit, at0, at1, at2, at3, at4, at5, Int.reduceAdd, Int.reduceSub, Int.reduceMul, Int.reducePow, Int.reduceNeg, Int.reduceDiv, Int.reduceMod, Int.reduceToNat, Int.reduceEq, reduceIte, decide_eq_true_eq, List.all_cons, List.all_nil, List.any_cons, List.any_nil, id, Bool.and_true, Bool.true_and, Bool.and_false, Bool.false_and, Bool.or_true, Bool.or_false, Bool.true_or, Bool.false_or, Bool.false_eq_true, f_u_law_right, b_u_law_right, le, law_touch_ok L L', do_touch_ok F F', do_touch_ok F' F, sy, f_ford_between, b_ford_between, needs_fr F F', needs_fr F F, f_between_in, b_between_in, lo, lo2, hT, like_same, h, ne_pr, ne']
    · have ne' : (decide (a = x) && decide (n = m)) = false := by
        rw [Bool.and_eq_false_iff, decide_eq_false_iff_not, decide_eq_false_iff_not]
        omega
      by_cases h : a * m < x * n
      · obtain ⟨m1, m2⟩ := mean_lt g0 y1 k1 h
        clear y1 k1
        simp (disch := first | omega | exact Nat.le_of_ble_eq_true rfl | assumption | (simp only [List.length_append, List.length_cons, List.length_nil, List.length_map] <;> omega) | exact rfl | decide | (simp only [pl_int', pl_bl', pl_non', pl1l, pl1t, pl2l, pl2t, pl3l, pl3t, pl4l, pl4t, pl5l, pl5t, pl6l, pl6t, pl7l, pl7t, pl8l, pl8t, pl9l, pl9t, List.all_cons, List.all_nil, List.length_cons, List.length_nil, Nat.reduceAdd, Nat.reduceLeDiff, decide_true, Bool.and_true, Bool.true_and, Bool.and_self, *]; done) | fail) only [↓e_seq, ↓e_sl, ↓e_part, ↓e_par, ↓e_cupSet, ↓e_ifS, ↓e_ret, ↓e_drop, ↓e_asg, ↓e_B, ↓e_notB, ↓e_andB, ↓e_orB, ↓e_notD, ↓e_andD, ↓e_orD, ↓e_if, ↓e_op, ↓e_cons, ↓e_call, ↓e_icall, ↓e_tup', ↓e_lst, ↓e_neg, ↓e_chain, ↓e_last, ↓e_link, ↓e_un, ↓e_isi', ↓e_lc, ↓e_iseq, ↓e_for, ↓e_run0, ↓e_run1, ↓e_run2, ↓e_run3, ↓e_run4, ↓e_run5, ↓e_run6, ↓e_run7, ↓e_run8, k_sl1, k_sl2, sl_tup, sl_lst, e_noPart, k_part, revA_t, revA_l, k_par, put_nil, put_cons, e_ix0, e_ix1, k_cup0, k_cup1, in_ii2, zip_tt, zip_ll, then_ok, k_seqN, k_seqR, k_seqB, k_seqC, k_ifST, k_ifSF, e_skip, k_ret, e_retN, e_brk, e_cont, k_drop, k_asgName, k_asgTup, optE_some, g_tup, g_name, g_cons, g_nil, Option.bind_some, st0, stS, k_asB, k_notB, k_andBT, k_andBF, k_orBT, k_orBF, k_notD, k_andDT, k_andDF, k_orDT, k_orDF, k_ifT, k_ifF, e_C, k_op1, e_nil, k_c1, k_c2, k_tup, k_lst, k_neg, k_chain, k_link1, k_link2T, k_link2F, k_isi_int, k_isi_bl, k_isi_non, k_isi_str, k_isi_tup, k_isi_lst, D.isInt, D.isBool, D.isStr, D.isTup, D.isLst, k_runR, k_runN, k_lst', k_lc, l_nil, l_cons, optL_some, k_l1T, k_l1F, k_l2, e_yes, w_nil, w_cons, seqD_tup, seqD_lst, k_for, f_nil, f_cons, optF_some, k_f1N, k_f1C, k_f1B, k_f1R, len_tup, len_lst, len_scr, abs_i, int_i, int_b, list_l, list_t, list_s, tup_l, tup_t, max2, min2, sum_l, sum_t, okS_some, ints_nil, ints_cons, bls_nil, bls_cons, okB_some, all_l, any_l, lt_ii, le_ii, gt_ii, ge_ii, isN_non, isN_int, isN_bl, isN_str, isN_tup, isN_lst, notN_non, notN_int, notN_tup, notN_lst, add_ii', sub_ii', add_tt', add_ll', mul_sm, mul_bg, fdiv_sm, fdiv_bg, mod_sm, pow_sm, eq_ii', ne_ii', ix_tup, ix_lst, varS, var0_int, var0_bl, var0_tup, var0_lst, var0_str, var0_non, var0_cup, var0_scr, List.length_cons, List.length_nil, List.map_cons, List.map_nil, List.cons_append, List.nil_append, List.replicate_succ, List.replicate_zero, env0, Option.map_some, Nat.zero_add, Nat.reduceAdd, Nat.reduceSub, Nat.reduceLeDiff, Int.reduceLT, Int.reduceLE, Bool.not_true, Bool.not_false, decide_true, decide_false, natLit, at0, at1, at2, at3, at4, at5, Int.reduceAdd, Int.reduceSub, Int.reduceMul, Int.reducePow, Int.reduceNeg, Int.reduceDiv, Int.reduceMod, Int.reduceToNat, Int.reduceEq, reduceIte, decide_eq_true_eq, List.all_cons, List.all_nil, List.any_cons, List.any_nil, id, Bool.and_true, Bool.true_and, Bool.and_false, Bool.false_and, Bool.or_true, Bool.or_false, Bool.true_or, Bool.false_or, Bool.false_eq_true, f_u_law_right, b_u_law_right, le, law_touch_ok L L', do_touch_ok F F', do_touch_ok F' F, sy, f_ford_between, b_ford_between, needs_fr F F', needs_fr F F, f_between_in, b_between_in, lo, lo2, hT, like_same, h, ne_pr, ne', m1, m2]
      · have h2 : x * n < a * m := by
          have : a * m ≠ x * n := fun e => ne (frac_eq F F' e)
          omega
        obtain ⟨m1, m2⟩ := mean_lt' g0 y1 k1 h2
        clear y1 k1
        simp (disch := first | omega | exact Nat.le_of_ble_eq_true rfl | assumption | (simp only [List.length_append, List.length_cons, List.length_nil, List.length_map] <;> omega) | exact rfl | decide | (simp only [pl_int', pl_bl', pl_non', pl1l, pl1t, pl2l, pl2t, pl3l, pl3t, pl4l, pl4t, pl5l, pl5t, pl6l, pl6t, pl7l, pl7t, pl8l, pl8t, pl9l, pl9t, List.all_cons, List.all_nil, List.length_cons, List.length_nil, Nat.reduceAdd, Nat.reduceLeDiff, decide_true, Bool.and_true, Bool.true_and, Bool.and_self, *]; done) | fail) only [↓e_seq, ↓e_sl, ↓e_part, ↓e_par, ↓e_cupSet, ↓e_ifS, ↓e_ret, ↓e_drop, ↓e_asg, ↓e_B, ↓e_notB, ↓e_andB, ↓e_orB, ↓e_notD, ↓e_andD, ↓e_orD, ↓e_if, ↓e_op, ↓e_cons, ↓e_call, ↓e_icall, ↓e_tup', ↓e_lst, ↓e_neg, ↓e_chain, ↓e_last, ↓e_link, ↓e_un, ↓e_isi', ↓e_lc, ↓e_iseq, ↓e_for, ↓e_run0, ↓e_run1, ↓e_run2, ↓e_run3, ↓e_run4, ↓e_run5, ↓e_run6, ↓e_run7, ↓e_run8, k_sl1, k_sl2, sl_tup, sl_lst, e_noPart, k_part, revA_t, revA_l, k_par, put_nil, put_cons, e_ix0, e_ix1, k_cup0, k_cup1, in_ii2, zip_tt, zip_ll, then_ok, k_seqN, k_seqR, k_seqB, k_seqC, k_ifST, k_ifSF, e_skip, k_ret, e_retN, e_brk, e_cont, k_drop, k_asgName, k_asgTup, optE_some, g_tup, g_name, g_cons, g_nil, Option.bind_some, st0, stS, k_asB, k_notB, k_andBT, k_andBF, k_orBT, k_orBF, k_notD, k_andDT, k_andDF, k_orDT, k_orDF, k_ifT, k_ifF, e_C, k_op1, e_nil, k_c1, k_c2, k_tup, k_lst, k_neg, k_chain, k_link1, k_link2T, k_link2F, k_isi_int, k_isi_bl, k_isi_non, k_isi_str, k_isi_tup, k_isi_lst, D.isInt, D.isBool, D.isStr, D.isTup, D.isLst, k_runR, k_runN, k_lst', k_lc, l_nil, l_cons, optL_some, k_l1T, k_l1F, k_l2, e_yes, w_nil, w_cons, seqD_tup, seqD_lst, k_for, f_nil, f_cons, optF_some, k_f1N, k_f1C, k_f1B, k_f1R, len_tup, len_lst, len_scr, abs_i, int_i, int_b, list_l, list_t, list_s, tup_l, tup_t, max2, min2, sum_l, sum_t, okS_some, ints_nil, ints_cons, bls_nil, bls_cons, okB_some, all_l, any_l, lt_ii, le_ii, gt_ii, ge_ii, isN_non, isN_int, isN_bl, isN_str, isN_tup, isN_lst, notN_non, notN_int, notN_tup, notN_lst, add_ii', sub_ii', add_tt', add_ll', mul_sm, mul_bg, fdiv_sm, fdiv_bg, mod_sm, pow_sm, eq_ii', ne_ii', ix_tup, ix_lst, varS, var0_int, var0_bl, var0_tup, var0_lst, var0_str, var0_non, var0_cup, var0_scr, List.length_cons, List.length_nil, List.map_cons, List.map_nil, List.cons_append, List.nil_append, List.replicate_succ, List.replicate_zero, env0, Option.map_some, Nat.zero_add, Nat.reduceAdd, Nat.reduceSub, Nat.reduceLeDiff, Int.reduceLT, Int.reduceLE, Bool.not_true, Bool.not_false, decide_true, decide_false, natLit, at0, at1, at2, at3, at4, at5, Int.reduceAdd, Int.reduceSub, Int.reduceMul, Int.reducePow, Int.reduceNeg, Int.reduceDiv, Int.reduceMod, Int.reduceToNat, Int.reduceEq, reduceIte, decide_eq_true_eq, List.all_cons, List.all_nil, List.any_cons, List.any_nil, id, Bool.and_true, Bool.true_and, Bool.and_false, Bool.false_and, Bool.or_true, Bool.or_false, Bool.true_or, Bool.false_or, Bool.false_eq_true, f_u_law_right, b_u_law_right, le, law_touch_ok L L', do_touch_ok F F', do_touch_ok F' F, sy, f_ford_between, b_ford_between, needs_fr F F', needs_fr F F, f_between_in, b_between_in, lo, lo2, hT, like_same, h, ne_pr, ne', m1, m2]
/-! neighbours -/
def nbL (a b most l : Int) : List (Int × Int) := (List.range (sz l most b)).map fun (i : Nat) => ((a * (l + i * b) - 1) / b, l + i * b)
def nbM (a b most m : Int) : List (Int × Int) := (List.range (sz m most b)).map fun (i : Nat) => ((a * (m + i * b) + 1) / b, m + i * b)
def nb (a b most l m : Int) : List (Int × Int) := nbL a b most l ++ (nbM a b most m).reverse
theorem sz_le {l top b : Int} (hb : 1 ≤ b) (hl : 1 ≤ l) (ht : 0 ≤ top) : (sz l top b : Int) ≤ top := by
  by_cases h : (sz l top b : Int) ≤ top
  · exact h
  · have q : top.toNat < sz l top b := by omega
    have q1 := (sz_iff hb).mp q
    have : (top.toNat : Int) ≤ top.toNat * b := by
      have := Int.mul_le_mul_of_nonneg_left (a := 1) (b := b) (c := top.toNat) hb (by omega)
      omega
    omega
theorem lc_map {g : MG} {m : ME} {ρ : Env} {c : Cup} {y : D → D} {ds : List D} (h : ∀ d ∈ ds, ∃ ρ1, g d ρ = some ρ1 ∧ m ρ1 c = .ok (y d) c) : lcL g mYes m ρ ds c = .ok (ds.map y) c := by
  have q := lc_of (g := g) (t := mYes) (m := m) (ρ := ρ) (c := c) (ds := ds) (k := fun _ => true) (y := y) fun d hd => by
    obtain ⟨ρ1, h1, h2⟩ := h d hd
    exact ⟨ρ1, h1, rfl, fun _ => h2⟩
  rw [q, List.filter_eq_self.mpr fun _ _ => rfl]
section
variable {a b most l m : Int} {c : Cup}
theorem touching_in_ok (F : Fr G a b) (hb : b ≤ 1000000) (hm : 1 ≤ most ∧ most ≤ 1000) (h : f_lasts_below [pr a b] c = .ok (.tup [.int l, .int m]) c) (l1 : 1 ≤ l) (l2 : l ≤ b) (m1 : 1 ≤ m) (m2 : m ≤ b) :
    f_touching_in [pr a b, .int most] c = .ok (.lst ((nb a b most l m).map dp)) c := by
  obtain ⟨h1, h2, h3, h4⟩ := fr_g F
  have s1 := sz_le (l := l) (top := most) h4 l1 (by omega)
  have s2 := sz_le (l := m) (top := most) h4 m1 (by omega)
  have r1 := rng3_ok (l := l) (top := most) (b := b) (c := c) (by omega) (by omega) (by omega)
  have r2 := rng3_ok (l := m) (top := most) (b := b) (c := c) (by omega) (by omega) (by omega)
  have len1 : (rangeC l b (sz l most b)).length ≤ 1000000 := by rw [rangeC_len]; omega
  have len2 : (rangeC m b (sz m most b)).length ≤ 1000000 := by rw [rangeC_len]; omega
  have lo1 : lcL (mgName 8) mYes (mTup (mCons (mOp fdivD (mOp subD (mOp mulD (mVar 2) (mVar 8)) (mC (.int 1))) (mVar 3)) (mCons (mVar 8) (mNil)))) [some (pr a b), some (.int most), some (.int a), some (.int b), some (.int l), some (.int m), none, none, none] (rangeC l b (sz l most b)) c = .ok ((nbL a b most l).map dp) c := by
    have q := lc_map (g := mgName 8) (m := (mTup (mCons (mOp fdivD (mOp subD (mOp mulD (mVar 2) (mVar 8)) (mC (.int 1))) (mVar 3)) (mCons (mVar 8) (mNil))))) (ρ := [some (pr a b), some (.int most), some (.int a), some (.int b), some (.int l), some (.int m), none, none, none]) (c := c) (ds := rangeC l b (sz l most b)) (y := fun d => match d with | .int q => dp ((a * q - 1) / b, q) | d => d) fun d hd => by
      obtain ⟨i, hi, rfl⟩ := List.mem_map.mp hd
      have hi := (sz_iff h4).mp (List.mem_range.mp hi)
      have hi2 := Int.mul_nonneg (a := i) (b := b) (by omega) (by omega)
      have hq : 1 ≤ l + (i : Int) * b := by omega
      generalize l + (i : Int) * b = q at *
      refine ⟨_, rfl, ?_⟩
      simp (disch := first | omega | exact Nat.le_of_ble_eq_true rfl | assumption | (simp only [List.length_append, List.length_cons, List.length_nil, List.length_map] <;> omega) | exact rfl | decide | (simp only [pl_int', pl_bl', pl_non', pl1l, pl1t, pl2l, pl2t, pl3l, pl3t, pl4l, pl4t, pl5l, pl5t, pl6l, pl6t, pl7l, pl7t, pl8l, pl8t, pl9l, pl9t, List.all_cons, List.all_nil, List.length_cons, List.length_nil, Nat.reduceAdd, Nat.reduceLeDiff, decide_true, Bool.and_true, Bool.true_and, Bool.and_self, *]; done) | fail) only [↓e_seq, ↓e_sl, ↓e_part, ↓e_par, ↓e_cupSet, ↓e_ifS, ↓e_ret, ↓e_drop, ↓e_asg, ↓e_B, ↓e_notB, ↓e_andB, ↓e_orB, ↓e_notD, ↓e_andD, ↓e_orD, ↓e_if, ↓e_op, ↓e_cons, ↓e_call, ↓e_icall, ↓e_tup', ↓e_lst, ↓e_neg, ↓e_chain, ↓e_last, ↓e_link, ↓e_un, ↓e_isi', ↓e_lc, ↓e_iseq, ↓e_for, ↓e_run0, ↓e_run1, ↓e_run2, ↓e_run3, ↓e_run4, ↓e_run5, ↓e_run6, ↓e_run7, ↓e_run8, k_sl1, k_sl2, sl_tup, sl_lst, e_noPart, k_part, revA_t, revA_l, k_par, put_nil, put_cons, e_ix0, e_ix1, k_cup0, k_cup1, in_ii2, zip_tt, zip_ll, then_ok, k_seqN, k_seqR, k_seqB, k_seqC, k_ifST, k_ifSF, e_skip, k_ret, e_retN, e_brk, e_cont, k_drop, k_asgName, k_asgTup, optE_some, g_tup, g_name, g_cons, g_nil, Option.bind_some, st0, stS, k_asB, k_notB, k_andBT, k_andBF, k_orBT, k_orBF, k_notD, k_andDT, k_andDF, k_orDT, k_orDF, k_ifT, k_ifF, e_C, k_op1, e_nil, k_c1, k_c2, k_tup, k_lst, k_neg, k_chain, k_link1, k_link2T, k_link2F, k_isi_int, k_isi_bl, k_isi_non, k_isi_str, k_isi_tup, k_isi_lst, D.isInt, D.isBool, D.isStr, D.isTup, D.isLst, k_runR, k_runN, k_lst', k_lc, l_nil, l_cons, optL_some, k_l1T, k_l1F, k_l2, e_yes, w_nil, w_cons, seqD_tup, seqD_lst, k_for, f_nil, f_cons, optF_some, k_f1N, k_f1C, k_f1B, k_f1R, len_tup, len_lst, len_scr, abs_i, int_i, int_b, list_l, list_t, list_s, tup_l, tup_t, max2, min2, sum_l, sum_t, okS_some, ints_nil, ints_cons, bls_nil, bls_cons, okB_some, all_l, any_l, lt_ii, le_ii, gt_ii, ge_ii, isN_non, isN_int, isN_bl, isN_str, isN_tup, isN_lst, notN_non, notN_int, notN_tup, notN_lst, add_ii', sub_ii', add_tt', add_ll', mul_sm, mul_bg, fdiv_sm, fdiv_bg, mod_sm, pow_sm, eq_ii', ne_ii', ix_tup, ix_lst, varS, var0_int, var0_bl, var0_tup, var0_lst, var0_str, var0_non, var0_cup, var0_scr, List.length_cons, List.length_nil, List.map_cons, List.map_nil, List.cons_append, List.nil_append, List.replicate_succ, List.replicate_zero, env0, Option.map_some, Nat.zero_add, Nat.reduceAdd, Nat.reduceSub, Nat.reduceLeDiff, Int.reduceLT, Int.reduceLE, Bool.not_true, Bool.not_false, decide_true, decide_false, natLit, at0, at1, at2, at3, at4, at5, Int.reduceAdd, Int.reduceSub, Int.reduceMul, Int.reducePow, Int.reduceNeg, Int.reduceDiv, Int.reduceMod, Int.reduceToNat, Int.reduceEq, reduceIte, decide_eq_true_eq, List.all_cons, List.all_nil, List.any_cons, List.any_nil, id, Bool.and_true, Bool.true_and, Bool.and_false, Bool.false_and, Bool.or_true, Bool.or_false, Bool.true_or, Bool.false_or, Bool.false_eq_true, dp]
    rw [q, rangeC, nbL, List.map_map, List.map_map]; rfl
  have lo2 : lcL (mgName 8) mYes (mTup (mCons (mOp fdivD (mOp addD (mOp mulD (mVar 2) (mVar 8)) (mC (.int 1))) (mVar 3)) (mCons (mVar 8) (mNil)))) [some (pr a b), some (.int most), some (.int a), some (.int b), some (.int l), some (.int m), some (.lst ((nbL a b most l).map dp)), none, none] (rangeC m b (sz m most b)) c = .ok ((nbM a b most m).map dp) c := by
    have q := lc_map (g := mgName 8) (m := (mTup (mCons (mOp fdivD (mOp addD (mOp mulD (mVar 2) (mVar 8)) (mC (.int 1))) (mVar 3)) (mCons (mVar 8) (mNil))))) (ρ := [some (pr a b), some (.int most), some (.int a), some (.int b), some (.int l), some (.int m), some (.lst ((nbL a b most l).map dp)), none, none]) (c := c) (ds := rangeC m b (sz m most b)) (y := fun d => match d with | .int q => dp ((a * q + 1) / b, q) | d => d) fun d hd => by
      obtain ⟨i, hi, rfl⟩ := List.mem_map.mp hd
      have hi := (sz_iff h4).mp (List.mem_range.mp hi)
      have hi2 := Int.mul_nonneg (a := i) (b := b) (by omega) (by omega)
      have hq : 1 ≤ m + (i : Int) * b := by omega
      generalize m + (i : Int) * b = q at *
      refine ⟨_, rfl, ?_⟩
      simp (disch := first | omega | exact Nat.le_of_ble_eq_true rfl | assumption | (simp only [List.length_append, List.length_cons, List.length_nil, List.length_map] <;> omega) | exact rfl | decide | (simp only [pl_int', pl_bl', pl_non', pl1l, pl1t, pl2l, pl2t, pl3l, pl3t, pl4l, pl4t, pl5l, pl5t, pl6l, pl6t, pl7l, pl7t, pl8l, pl8t, pl9l, pl9t, List.all_cons, List.all_nil, List.length_cons, List.length_nil, Nat.reduceAdd, Nat.reduceLeDiff, decide_true, Bool.and_true, Bool.true_and, Bool.and_self, *]; done) | fail) only [↓e_seq, ↓e_sl, ↓e_part, ↓e_par, ↓e_cupSet, ↓e_ifS, ↓e_ret, ↓e_drop, ↓e_asg, ↓e_B, ↓e_notB, ↓e_andB, ↓e_orB, ↓e_notD, ↓e_andD, ↓e_orD, ↓e_if, ↓e_op, ↓e_cons, ↓e_call, ↓e_icall, ↓e_tup', ↓e_lst, ↓e_neg, ↓e_chain, ↓e_last, ↓e_link, ↓e_un, ↓e_isi', ↓e_lc, ↓e_iseq, ↓e_for, ↓e_run0, ↓e_run1, ↓e_run2, ↓e_run3, ↓e_run4, ↓e_run5, ↓e_run6, ↓e_run7, ↓e_run8, k_sl1, k_sl2, sl_tup, sl_lst, e_noPart, k_part, revA_t, revA_l, k_par, put_nil, put_cons, e_ix0, e_ix1, k_cup0, k_cup1, in_ii2, zip_tt, zip_ll, then_ok, k_seqN, k_seqR, k_seqB, k_seqC, k_ifST, k_ifSF, e_skip, k_ret, e_retN, e_brk, e_cont, k_drop, k_asgName, k_asgTup, optE_some, g_tup, g_name, g_cons, g_nil, Option.bind_some, st0, stS, k_asB, k_notB, k_andBT, k_andBF, k_orBT, k_orBF, k_notD, k_andDT, k_andDF, k_orDT, k_orDF, k_ifT, k_ifF, e_C, k_op1, e_nil, k_c1, k_c2, k_tup, k_lst, k_neg, k_chain, k_link1, k_link2T, k_link2F, k_isi_int, k_isi_bl, k_isi_non, k_isi_str, k_isi_tup, k_isi_lst, D.isInt, D.isBool, D.isStr, D.isTup, D.isLst, k_runR, k_runN, k_lst', k_lc, l_nil, l_cons, optL_some, k_l1T, k_l1F, k_l2, e_yes, w_nil, w_cons, seqD_tup, seqD_lst, k_for, f_nil, f_cons, optF_some, k_f1N, k_f1C, k_f1B, k_f1R, len_tup, len_lst, len_scr, abs_i, int_i, int_b, list_l, list_t, list_s, tup_l, tup_t, max2, min2, sum_l, sum_t, okS_some, ints_nil, ints_cons, bls_nil, bls_cons, okB_some, all_l, any_l, lt_ii, le_ii, gt_ii, ge_ii, isN_non, isN_int, isN_bl, isN_str, isN_tup, isN_lst, notN_non, notN_int, notN_tup, notN_lst, add_ii', sub_ii', add_tt', add_ll', mul_sm, mul_bg, fdiv_sm, fdiv_bg, mod_sm, pow_sm, eq_ii', ne_ii', ix_tup, ix_lst, varS, var0_int, var0_bl, var0_tup, var0_lst, var0_str, var0_non, var0_cup, var0_scr, List.length_cons, List.length_nil, List.map_cons, List.map_nil, List.cons_append, List.nil_append, List.replicate_succ, List.replicate_zero, env0, Option.map_some, Nat.zero_add, Nat.reduceAdd, Nat.reduceSub, Nat.reduceLeDiff, Int.reduceLT, Int.reduceLE, Bool.not_true, Bool.not_false, decide_true, decide_false, natLit, at0, at1, at2, at3, at4, at5, Int.reduceAdd, Int.reduceSub, Int.reduceMul, Int.reducePow, Int.reduceNeg, Int.reduceDiv, Int.reduceMod, Int.reduceToNat, Int.reduceEq, reduceIte, decide_eq_true_eq, List.all_cons, List.all_nil, List.any_cons, List.any_nil, id, Bool.and_true, Bool.true_and, Bool.and_false, Bool.false_and, Bool.or_true, Bool.or_false, Bool.true_or, Bool.false_or, Bool.false_eq_true, dp]
    rw [q, rangeC, nbM, List.map_map, List.map_map]; rfl
  have n1 : (nbL a b most l).length ≤ 1000 := by rw [nbL, List.length_map, List.length_range]; omega
  have n2 : (nbM a b most m).length ≤ 1000 := by rw [nbM, List.length_map, List.length_range]; omega
  have len3 : ((nbL a b most l).map dp).length + ((nbM a b most m).map dp).reverse.length ≤ 1000000 := by
    rw [List.length_map, List.length_reverse, List.length_map]; omega
  simp (disch := first | omega | exact Nat.le_of_ble_eq_true rfl | assumption | (simp only [List.length_append, List.length_cons, List.length_nil, List.length_map] <;> omega) | exact rfl | decide | (simp only [pl_int', pl_bl', pl_non', pl1l, pl1t, pl2l, pl2t, pl3l, pl3t, pl4l, pl4t, pl5l, pl5t, pl6l, pl6t, pl7l, pl7t, pl8l, pl8t, pl9l, pl9t, List.all_cons, List.all_nil, List.length_cons, List.length_nil, Nat.reduceAdd, Nat.reduceLeDiff, decide_true, Bool.and_true, Bool.true_and, Bool.and_self, *]; done) | fail) only [↓e_seq, ↓e_sl, ↓e_part, ↓e_par, ↓e_cupSet, ↓e_ifS, ↓e_ret, ↓e_drop, ↓e_asg, ↓e_B, ↓e_notB, ↓e_andB, ↓e_orB, ↓e_notD, ↓e_andD, ↓e_orD, ↓e_if, ↓e_op, ↓e_cons, ↓e_call, ↓e_icall, ↓e_tup', ↓e_lst, ↓e_neg, ↓e_chain, ↓e_last, ↓e_link, ↓e_un, ↓e_isi', ↓e_lc, ↓e_iseq, ↓e_for, ↓e_run0, ↓e_run1, ↓e_run2, ↓e_run3, ↓e_run4, ↓e_run5, ↓e_run6, ↓e_run7, ↓e_run8, k_sl1, k_sl2, sl_tup, sl_lst, e_noPart, k_part, revA_t, revA_l, k_par, put_nil, put_cons, e_ix0, e_ix1, k_cup0, k_cup1, in_ii2, zip_tt, zip_ll, then_ok, k_seqN, k_seqR, k_seqB, k_seqC, k_ifST, k_ifSF, e_skip, k_ret, e_retN, e_brk, e_cont, k_drop, k_asgName, k_asgTup, optE_some, g_tup, g_name, g_cons, g_nil, Option.bind_some, st0, stS, k_asB, k_notB, k_andBT, k_andBF, k_orBT, k_orBF, k_notD, k_andDT, k_andDF, k_orDT, k_orDF, k_ifT, k_ifF, e_C, k_op1, e_nil, k_c1, k_c2, k_tup, k_lst, k_neg, k_chain, k_link1, k_link2T, k_link2F, k_isi_int, k_isi_bl, k_isi_non, k_isi_str, k_isi_tup, k_isi_lst, D.isInt, D.isBool, D.isStr, D.isTup, D.isLst, k_runR, k_runN, k_lst', k_lc, l_nil, l_cons, optL_some, k_l1T, k_l1F, k_l2, e_yes, w_nil, w_cons, seqD_tup, seqD_lst, k_for, f_nil, f_cons, optF_some, k_f1N, k_f1C, k_f1B, k_f1R, len_tup, len_lst, len_scr, abs_i, int_i, int_b, list_l, list_t, list_s, tup_l, tup_t, max2, min2, sum_l, sum_t, okS_some, ints_nil, ints_cons, bls_nil, bls_cons, okB_some, all_l, any_l, lt_ii, le_ii, gt_ii, ge_ii, isN_non, isN_int, isN_bl, isN_str, isN_tup, isN_lst, notN_non, notN_int, notN_tup, notN_lst, add_ii', sub_ii', add_tt', add_ll', mul_sm, mul_bg, fdiv_sm, fdiv_bg, mod_sm, pow_sm, eq_ii', ne_ii', ix_tup, ix_lst, varS, var0_int, var0_bl, var0_tup, var0_lst, var0_str, var0_non, var0_cup, var0_scr, List.length_cons, List.length_nil, List.map_cons, List.map_nil, List.cons_append, List.nil_append, List.replicate_succ, List.replicate_zero, env0, Option.map_some, Nat.zero_add, Nat.reduceAdd, Nat.reduceSub, Nat.reduceLeDiff, Int.reduceLT, Int.reduceLE, Bool.not_true, Bool.not_false, decide_true, decide_false, natLit, at0, at1, at2, at3, at4, at5, Int.reduceAdd, Int.reduceSub, Int.reduceMul, Int.reducePow, Int.reduceNeg, Int.reduceDiv, Int.reduceMod, Int.reduceToNat, Int.reduceEq, reduceIte, decide_eq_true_eq, List.all_cons, List.all_nil, List.any_cons, List.any_nil, id, Bool.and_true, Bool.true_and, Bool.and_false, Bool.false_and, Bool.or_true, Bool.or_false, Bool.true_or, Bool.false_or, Bool.false_eq_true, f_touching_in, b_touching_in, h, r1, r2, lo1, lo2]
  rw [nb, List.map_append, List.map_reverse]
theorem neigh_ok (F : Fr G a b) (hb : b ≤ 1000000) (hm : 1 ≤ most ∧ most ≤ 1000) : ∃ l m k j, f_ford_neighbours [pr a b, .int most] c = .ok (.tup ((nb a b most l m).map dp)) c ∧ 1 ≤ l ∧ l ≤ b ∧ 1 ≤ m ∧ m ≤ b ∧ a * l = 1 + b * k ∧ a * m = -1 + b * j ∧ (2 ≤ b → l < b ∧ m < b) := by
  obtain ⟨l, m, k, j, hl, r⟩ := lasts_ok (c := c) F
  have ht := touching_in_ok F hb hm hl r.1 r.2.1 r.2.2.1 r.2.2.2.1
  refine ⟨l, m, k, j, ?_, r⟩
  simp (disch := first | omega | exact Nat.le_of_ble_eq_true rfl | assumption | (simp only [List.length_append, List.length_cons, List.length_nil, List.length_map] <;> omega) | exact rfl | decide | (simp only [pl_int', pl_bl', pl_non', pl1l, pl1t, pl2l, pl2t, pl3l, pl3t, pl4l, pl4t, pl5l, pl5t, pl6l, pl6t, pl7l, pl7t, pl8l, pl8t, pl9l, pl9t, List.all_cons, List.all_nil, List.length_cons, List.length_nil, Nat.reduceAdd, Nat.reduceLeDiff, decide_true, Bool.and_true, Bool.true_and, Bool.and_self, *]; done) | fail) only [↓e_seq, ↓e_sl, ↓e_part, ↓e_par, ↓e_cupSet, ↓e_ifS, ↓e_ret, ↓e_drop, ↓e_asg, ↓e_B, ↓e_notB, ↓e_andB, ↓e_orB, ↓e_notD, ↓e_andD, ↓e_orD, ↓e_if, ↓e_op, ↓e_cons, ↓e_call, ↓e_icall, ↓e_tup', ↓e_lst, ↓e_neg, ↓e_chain, ↓e_last, ↓e_link, ↓e_un, ↓e_isi', ↓e_lc, ↓e_iseq, ↓e_for, ↓e_run0, ↓e_run1, ↓e_run2, ↓e_run3, ↓e_run4, ↓e_run5, ↓e_run6, ↓e_run7, ↓e_run8, k_sl1, k_sl2, sl_tup, sl_lst, e_noPart, k_part, revA_t, revA_l, k_par, put_nil, put_cons, e_ix0, e_ix1, k_cup0, k_cup1, in_ii2, zip_tt, zip_ll, then_ok, k_seqN, k_seqR, k_seqB, k_seqC, k_ifST, k_ifSF, e_skip, k_ret, e_retN, e_brk, e_cont, k_drop, k_asgName, k_asgTup, optE_some, g_tup, g_name, g_cons, g_nil, Option.bind_some, st0, stS, k_asB, k_notB, k_andBT, k_andBF, k_orBT, k_orBF, k_notD, k_andDT, k_andDF, k_orDT, k_orDF, k_ifT, k_ifF, e_C, k_op1, e_nil, k_c1, k_c2, k_tup, k_lst, k_neg, k_chain, k_link1, k_link2T, k_link2F, k_isi_int, k_isi_bl, k_isi_non, k_isi_str, k_isi_tup, k_isi_lst, D.isInt, D.isBool, D.isStr, D.isTup, D.isLst, k_runR, k_runN, k_lst', k_lc, l_nil, l_cons, optL_some, k_l1T, k_l1F, k_l2, e_yes, w_nil, w_cons, seqD_tup, seqD_lst, k_for, f_nil, f_cons, optF_some, k_f1N, k_f1C, k_f1B, k_f1R, len_tup, len_lst, len_scr, abs_i, int_i, int_b, list_l, list_t, list_s, tup_l, tup_t, max2, min2, sum_l, sum_t, okS_some, ints_nil, ints_cons, bls_nil, bls_cons, okB_some, all_l, any_l, lt_ii, le_ii, gt_ii, ge_ii, isN_non, isN_int, isN_bl, isN_str, isN_tup, isN_lst, notN_non, notN_int, notN_tup, notN_lst, add_ii', sub_ii', add_tt', add_ll', mul_sm, mul_bg, fdiv_sm, fdiv_bg, mod_sm, pow_sm, eq_ii', ne_ii', ix_tup, ix_lst, varS, var0_int, var0_bl, var0_tup, var0_lst, var0_str, var0_non, var0_cup, var0_scr, List.length_cons, List.length_nil, List.map_cons, List.map_nil, List.cons_append, List.nil_append, List.replicate_succ, List.replicate_zero, env0, Option.map_some, Nat.zero_add, Nat.reduceAdd, Nat.reduceSub, Nat.reduceLeDiff, Int.reduceLT, Int.reduceLE, Bool.not_true, Bool.not_false, decide_true, decide_false, natLit, at0, at1, at2, at3, at4, at5, Int.reduceAdd, Int.reduceSub, Int.reduceMul, Int.reducePow, Int.reduceNeg, Int.reduceDiv, Int.reduceMod, Int.reduceToNat, Int.reduceEq, reduceIte, decide_eq_true_eq, List.all_cons, List.all_nil, List.any_cons, List.any_nil, id, Bool.and_true, Bool.true_and, Bool.and_false, Bool.false_and, Bool.or_true, Bool.or_false, Bool.true_or, Bool.false_or, Bool.false_eq_true, f_ford_neighbours, b_ford_neighbours, need_fr F, f_need_whole, b_need_whole, f_is_whole, b_is_whole, f_is_integer, b_is_integer, hm.1, hm.2, ht]
end
section
variable {a b most l m k j : Int}
theorem div_back {b x y : Int} (hb : 1 ≤ b) (h : y = b * x) : y / b = x := by rw [h, Int.mul_ediv_cancel_left _ (by omega)]
theorem mem_nbL (hb : 1 ≤ b) (l1 : 1 ≤ l) (l2 : l ≤ b) (e : a * l = 1 + b * k) {p : Int × Int} : p ∈ nbL a b most l ↔ 1 ≤ p.2 ∧ p.2 ≤ most ∧ a * p.2 - b * p.1 = 1 := by
  unfold nbL
  rw [List.mem_map]
  constructor
  · rintro ⟨i, hi, rfl⟩
    have hi := (sz_iff hb).mp (List.mem_range.mp hi)
    have hi2 := Int.mul_nonneg (a := i) (b := b) (by omega) (by omega)
    have e2 : a * (l + i * b) - 1 = b * (k + a * i) := by
      have : a * (l + i * b) = a * l + b * (a * i) := by grind
      rw [this, e]; grind
    refine ⟨by show 1 ≤ l + (i : Int) * b; omega, hi, ?_⟩
    show a * (l + i * b) - b * ((a * (l + i * b) - 1) / b) = 1
    rw [div_back hb e2]; omega
  · rintro ⟨q1, q2, q3⟩
    have e2 : p.2 - l = b * (l * p.1 - k * p.2) := by
      have e3 : a * p.2 = 1 + b * p.1 := by omega
      have e4 : p.2 = p.2 * (a * l - b * k) := by rw [e]; grind
      have e5 : p.2 * (a * l - b * k) = l * (a * p.2) - b * (k * p.2) := by grind
      rw [e5, e3] at e4
      have e6 : l * (1 + b * p.1) = l + b * (l * p.1) := by grind
      have e7 : b * (l * p.1 - k * p.2) = b * (l * p.1) - b * (k * p.2) := by grind
      omega
    generalize ht : l * p.1 - k * p.2 = t at e2
    have t0 : 0 ≤ t := by
      by_cases q : 0 ≤ t
      · exact q
      · have := Int.mul_le_mul_of_nonneg_left (a := t) (b := -1) (c := b) (by omega) (by omega)
        omega
    have et : ((t.toNat : Nat) : Int) = t := Int.toNat_of_nonneg t0
    have e8 : l + (t.toNat : Int) * b = p.2 := by
      rw [et]
      have : t * b = b * t := Int.mul_comm _ _
      omega
    refine ⟨t.toNat, List.mem_range.mpr ((sz_iff hb).mpr (by omega)), ?_⟩
    rw [e8]
    exact Prod.ext (div_back hb (by show a * p.2 - 1 = b * p.1; omega)) rfl
theorem mem_nbM (hb : 1 ≤ b) (l1 : 1 ≤ l) (l2 : l ≤ b) (e : a * l = -1 + b * k) {p : Int × Int} : p ∈ nbM a b most l ↔ 1 ≤ p.2 ∧ p.2 ≤ most ∧ a * p.2 - b * p.1 = -1 := by
  unfold nbM
  rw [List.mem_map]
  constructor
  · rintro ⟨i, hi, rfl⟩
    have hi := (sz_iff hb).mp (List.mem_range.mp hi)
    have hi2 := Int.mul_nonneg (a := i) (b := b) (by omega) (by omega)
    have e2 : a * (l + i * b) + 1 = b * (k + a * i) := by
      have : a * (l + i * b) = a * l + b * (a * i) := by grind
      rw [this, e]; grind
    refine ⟨by show 1 ≤ l + (i : Int) * b; omega, hi, ?_⟩
    show a * (l + i * b) - b * ((a * (l + i * b) + 1) / b) = -1
    rw [div_back hb e2]; omega
  · rintro ⟨q1, q2, q3⟩
    have e2 : p.2 - l = b * (k * p.2 - l * p.1) := by
      have e3 : a * p.2 = -1 + b * p.1 := by omega
      have e4 : p.2 = p.2 * (b * k - a * l) := by rw [e]; grind
      have e5 : p.2 * (b * k - a * l) = b * (k * p.2) - l * (a * p.2) := by grind
      rw [e5, e3] at e4
      have e6 : l * (-1 + b * p.1) = -l + b * (l * p.1) := by grind
      have e7 : b * (k * p.2 - l * p.1) = b * (k * p.2) - b * (l * p.1) := by grind
      omega
    generalize ht : k * p.2 - l * p.1 = t at e2
    have t0 : 0 ≤ t := by
      by_cases q : 0 ≤ t
      · exact q
      · have := Int.mul_le_mul_of_nonneg_left (a := t) (b := -1) (c := b) (by omega) (by omega)
        omega
    have et : ((t.toNat : Nat) : Int) = t := Int.toNat_of_nonneg t0
    have e8 : l + (t.toNat : Int) * b = p.2 := by
      rw [et]
      have : t * b = b * t := Int.mul_comm _ _
      omega
    refine ⟨t.toNat, List.mem_range.mpr ((sz_iff hb).mpr (by omega)), ?_⟩
    rw [e8]
    exact Prod.ext (div_back hb (by show a * p.2 + 1 = b * p.1; omega)) rfl
theorem mem_nb (hb : 1 ≤ b) (l1 : 1 ≤ l) (l2 : l ≤ b) (m1 : 1 ≤ m) (m2 : m ≤ b) (e : a * l = 1 + b * k) (e' : a * m = -1 + b * j) {p : Int × Int} : p ∈ nb a b most l m ↔ 1 ≤ p.2 ∧ p.2 ≤ most ∧ (a * p.2 - b * p.1 = 1 ∨ a * p.2 - b * p.1 = -1) := by
  unfold nb
  rw [List.mem_append, List.mem_reverse, mem_nbL hb l1 l2 e, mem_nbM hb m1 m2 e']
  constructor
  · rintro (⟨a, b, c⟩ | ⟨a, b, c⟩)
    · exact ⟨a, b, .inl c⟩
    · exact ⟨a, b, .inr c⟩
  · rintro ⟨a, b, c | c⟩
    · exact .inl ⟨a, b, c⟩
    · exact .inr ⟨a, b, c⟩
/-- one fraction is less -/
abbrev less (p q : Int × Int) : Prop := p.1 * q.2 < q.1 * p.2
theorem less_of {b x q y r s t a : Int} (hb : 1 ≤ b) (h : a * q - b * x = s) (h' : a * r - b * y = t) (hs : t * q < s * r) : x * r < y * q := by
  refine lt_cut (g := b) (by omega) ?_
  have e1 : b * (x * r) = (a * q - s) * r := by
    have : b * x = a * q - s := by omega
    have e : b * (x * r) = (b * x) * r := by grind
    rw [e, this]
  have e2 : b * (y * q) = (a * r - t) * q := by
    have : b * y = a * r - t := by omega
    have e : b * (y * q) = (b * y) * q := by grind
    rw [e, this]
  rw [e1, e2]
  have e3 : (a * q - s) * r = a * q * r - s * r := by grind
  have e4 : (a * r - t) * q = a * q * r - t * q := by grind
  omega
theorem nb_up (hb : 1 ≤ b) (l1 : 1 ≤ l) (l2 : l ≤ b) (m1 : 1 ≤ m) (m2 : m ≤ b) (e : a * l = 1 + b * k) (e' : a * m = -1 + b * j) : (nb a b most l m).Pairwise less := by
  have step : ∀ (u : Int) (i i' : Nat), i < i' → u + (i : Int) * b < u + (i' : Int) * b := fun u i i' h => by
    have := Int.mul_lt_mul_of_pos_right (a := i) (b := i') (c := b) (by omega) (by omega)
    omega
  unfold nb
  rw [List.pairwise_append, List.pairwise_reverse]
  refine ⟨?_, ?_, ?_⟩
  · have hm : ∀ i ∈ List.range (sz l most b), ∃ p, p ∈ nbL a b most l ∧ p = ((a * (l + i * b) - 1) / b, l + i * b) := fun i hi => ⟨_, List.mem_map.mpr ⟨i, hi, rfl⟩, rfl⟩
    unfold nbL
    rw [List.pairwise_map]
    refine (List.pairwise_lt_range).imp_of_mem fun {i i'} h1 h2 h => ?_
    obtain ⟨p, p1, p2⟩ := hm i h1
    obtain ⟨p', p1', p2'⟩ := hm i' h2
    have q := ((mem_nbL hb l1 l2 e).mp p1).2.2
    have q' := ((mem_nbL hb l1 l2 e).mp p1').2.2
    rw [p2] at q
    rw [p2'] at q'
    exact less_of hb q q' (by have := step l i i' h; omega)
  · have hm : ∀ i ∈ List.range (sz m most b), ∃ p, p ∈ nbM a b most m ∧ p = ((a * (m + i * b) + 1) / b, m + i * b) := fun i hi => ⟨_, List.mem_map.mpr ⟨i, hi, rfl⟩, rfl⟩
    unfold nbM
    rw [List.pairwise_map]
    refine (List.pairwise_lt_range).imp_of_mem fun {i i'} h1 h2 h => ?_
    obtain ⟨p, p1, p2⟩ := hm i h1
    obtain ⟨p', p1', p2'⟩ := hm i' h2
    have q := ((mem_nbM hb m1 m2 e').mp p1).2.2
    have q' := ((mem_nbM hb m1 m2 e').mp p1').2.2
    rw [p2] at q
    rw [p2'] at q'
    exact less_of hb q' q (by have := step m i i' h; omega)
  · intro p hp q hq
    have h1 := (mem_nbL hb l1 l2 e).mp hp
    have h2 := (mem_nbM hb m1 m2 e').mp (List.mem_reverse.mp hq)
    exact less_of hb h1.2.2 h2.2.2 (by omega)
theorem nodup_of {ps : List (Int × Int)} (h : ps.Pairwise less) : ps.Nodup := h.imp fun {p q} h e => by
  subst e
  exact absurd h (by show ¬ (p.1 * p.2 < p.1 * p.2); omega)
/-- the law's own list, one last number -/
def piece (a b last : Int) : List (Int × Int) := ((List.range 4).map fun (i : Nat) => (a * last / b - 1 + (i : Int), last)).filter fun p => toB a b p.1 p.2
theorem mem_piece (hb : 1 ≤ b) {last : Int} {p : Int × Int} : p ∈ piece a b last ↔ p.2 = last ∧ (a * p.2 - b * p.1 = 1 ∨ a * p.2 - b * p.1 = -1) := by
  unfold piece
  rw [List.mem_filter, List.mem_map]
  have md := Int.emod_add_mul_ediv (a * last) b
  have m0 := Int.emod_nonneg (a * last) (show b ≠ 0 by omega)
  have m1 := Int.emod_lt_of_pos (a * last) (show 0 < b by omega)
  constructor
  · rintro ⟨⟨i, hi, rfl⟩, h⟩
    exact ⟨rfl, of_decide_eq_true h⟩
  · rintro ⟨h1, h⟩
    refine ⟨⟨(p.1 - (a * last / b - 1)).toNat, List.mem_range.mpr ?_, ?_⟩, decide_eq_true h⟩
    all_goals
      rw [h1] at h
      have k1 : a * last / b - 1 ≤ p.1 := by
        by_cases q : a * last / b - 1 ≤ p.1
        · exact q
        · have := Int.mul_le_mul_of_nonneg_left (a := p.1) (b := a * last / b - 2) (c := b) (by omega) (by omega)
          have e : b * (a * last / b - 2) = b * (a * last / b) - 2 * b := by grind
          omega
      have k2 : p.1 ≤ a * last / b + 2 := by
        by_cases q : p.1 ≤ a * last / b + 2
        · exact q
        · have := Int.mul_le_mul_of_nonneg_left (a := a * last / b + 3) (b := p.1) (c := b) (by omega) (by omega)
          have e : b * (a * last / b + 3) = b * (a * last / b) + 3 * b := by grind
          omega
    · omega
    · exact Prod.ext (by show a * last / b - 1 + ((p.1 - (a * last / b - 1)).toNat : Int) = p.1; omega) h1.symm
def dues (a b most : Int) : List (Int × Int) := ((List.range most.toNat).map fun (i : Nat) => (1 + (i : Int))).flatMap (piece a b)
theorem mem_dues (hb : 1 ≤ b) {p : Int × Int} : p ∈ dues a b most ↔ 1 ≤ p.2 ∧ p.2 ≤ most ∧ (a * p.2 - b * p.1 = 1 ∨ a * p.2 - b * p.1 = -1) := by
  unfold dues
  rw [List.mem_flatMap]
  constructor
  · rintro ⟨t, h1, h2⟩
    obtain ⟨i, hi, rfl⟩ := List.mem_map.mp h1
    have hi := List.mem_range.mp hi
    have := (mem_piece hb).mp h2
    exact ⟨by omega, by omega, this.2⟩
  · rintro ⟨h1, h2, h3⟩
    exact ⟨p.2, List.mem_map.mpr ⟨(p.2 - 1).toNat, List.mem_range.mpr (by omega), by omega⟩, (mem_piece hb).mpr ⟨rfl, h3⟩⟩
theorem dues_nodup (hb : 1 ≤ b) : (dues a b most).Nodup := by
  unfold dues List.Nodup
  rw [List.pairwise_flatMap]
  constructor
  · intro t _
    unfold piece
    refine List.Pairwise.filter _ ?_
    rw [List.pairwise_map]
    exact (List.pairwise_lt_range).imp fun {i i'} h e => by
      have := congrArg Prod.fst e
      have : a * t / b - 1 + (i : Int) = a * t / b - 1 + (i' : Int) := this
      omega
  · rw [List.pairwise_map]
    exact (List.pairwise_lt_range).imp fun {i i'} h p hp q hq e => by
      have h1 := (mem_piece hb).mp hp
      have h2 := (mem_piece hb).mp hq
      subst e
      omega
theorem told_dues (hb : 1 ≤ b) (l1 : 1 ≤ l) (l2 : l ≤ b) (m1 : 1 ≤ m) (m2 : m ≤ b) (e : a * l = 1 + b * k) (e' : a * m = -1 + b * j) : (nb a b most l m).Perm (dues a b most) :=
  (List.perm_ext_iff_of_nodup (nodup_of (nb_up hb l1 l2 m1 m2 e e')) (dues_nodup hb)).mpr fun p => by
    rw [mem_nb hb l1 l2 m1 m2 e e', mem_dues hb]
end
section
variable {a b most l m k j : Int} {c : Cup}
theorem piece_len {last : Int} : (piece a b last).length ≤ 4 := by
  unfold piece
  refine Nat.le_trans (List.length_filter_le _ _) ?_
  rw [List.length_map, List.length_range]; omega
theorem piece_lc {o0 o2 o3 o4 o6 o7 o9 o10 : Option D} {last : Int} (hb : 1 ≤ b ∧ b ≤ 1000) (ha : -1000 ≤ a ∧ a ≤ 1000) (hl : 1 ≤ last ∧ last ≤ 1000) (ho : o4 = some (.int last)) :
    lcL (mgName 8) (mB (mCall f_u_law_touch (mCons (mVar 1) (mCons (mTup (mCons (mVar 8) (mCons (mVar 4) (mNil)))) (mNil))))) (mTup (mCons (mVar 8) (mCons (mVar 4) (mNil)))) [o0, some (pr a b), o2, o3, o4, some (.int (a * last / b)), o6, o7, none, o9, o10] (rangeL (a * last / b - 1) (a * last / b + 3)) c = .ok ((piece a b last).map dp) c := by
  subst ho
  have pb1 := pb (s := a) (t := last) (A := 1000) (B := 1000) (by omega) (by omega)
  have md := Int.emod_add_mul_ediv (a * last) b
  have m0 := Int.emod_nonneg (a * last) (show b ≠ 0 by omega)
  have m1 := Int.emod_lt_of_pos (a * last) (show 0 < b by omega)
  have db := mul_le_abs (g := b) (x := a * last / b) (B := 2000000) (by omega) (by omega) (by omega)
  have q := lc_of (g := mgName 8) (t := (mB (mCall f_u_law_touch (mCons (mVar 1) (mCons (mTup (mCons (mVar 8) (mCons (mVar 4) (mNil)))) (mNil)))))) (m := (mTup (mCons (mVar 8) (mCons (mVar 4) (mNil))))) (ρ := [o0, some (pr a b), o2, o3, some (.int last), some (.int (a * last / b)), o6, o7, none, o9, o10]) (c := c) (ds := rangeL (a * last / b - 1) (a * last / b + 3)) (k := fun d => match d with | .int x => toB a b x last | _ => false) (y := fun d => match d with | .int x => dp (x, last) | d => d) fun d hd => by
    obtain ⟨i, hi, rfl⟩ := List.mem_map.mp hd
    have hi := List.mem_range.mp hi
    have L : Lo a b := ⟨by omega, by omega, by omega, by omega⟩
    have L' : Lo (a * last / b - 1 + (i : Int)) last := ⟨by omega, by omega, by omega, by omega⟩
    refine ⟨_, rfl, ?_, fun _ => ?_⟩
    · simp (disch := first | omega | exact Nat.le_of_ble_eq_true rfl | assumption | (simp only [List.length_append, List.length_cons, List.length_nil, List.length_map] <;> omega) | exact rfl | decide | (simp only [pl_int', pl_bl', pl_non', pl1l, pl1t, pl2l, pl2t, pl3l, pl3t, pl4l, pl4t, pl5l, pl5t, pl6l, pl6t, pl7l, pl7t, pl8l, pl8t, pl9l, pl9t, List.all_cons, List.all_nil, List.length_cons, List.length_nil, Nat.reduceAdd, Nat.reduceLeDiff, decide_true, Bool.and_true, Bool.true_and, Bool.and_self, *]; done) | fail) only [↓e_seq, ↓e_sl, ↓e_part, ↓e_par, ↓e_cupSet, ↓e_ifS, ↓e_ret, ↓e_drop, ↓e_asg, ↓e_B, ↓e_notB, ↓e_andB, ↓e_orB, ↓e_notD, ↓e_andD, ↓e_orD, ↓e_if, ↓e_op, ↓e_cons, ↓e_call, ↓e_icall, ↓e_tup', ↓e_lst, ↓e_neg, ↓e_chain, ↓e_last, ↓e_link, ↓e_un, ↓e_isi', ↓e_lc, ↓e_iseq, ↓e_for, ↓e_run0, ↓e_run1, ↓e_run2, ↓e_run3, ↓e_run4, ↓e_run5, ↓e_run6, ↓e_run7, ↓e_run8, k_sl1, k_sl2, sl_tup, sl_lst, e_noPart, k_part, revA_t, revA_l, k_par, put_nil, put_cons, e_ix0, e_ix1, k_cup0, k_cup1, in_ii2, zip_tt, zip_ll, then_ok, k_seqN, k_seqR, k_seqB, k_seqC, k_ifST, k_ifSF, e_skip, k_ret, e_retN, e_brk, e_cont, k_drop, k_asgName, k_asgTup, optE_some, g_tup, g_name, g_cons, g_nil, Option.bind_some, st0, stS, k_asB, k_notB, k_andBT, k_andBF, k_orBT, k_orBF, k_notD, k_andDT, k_andDF, k_orDT, k_orDF, k_ifT, k_ifF, e_C, k_op1, e_nil, k_c1, k_c2, k_tup, k_lst, k_neg, k_chain, k_link1, k_link2T, k_link2F, k_isi_int, k_isi_bl, k_isi_non, k_isi_str, k_isi_tup, k_isi_lst, D.isInt, D.isBool, D.isStr, D.isTup, D.isLst, k_runR, k_runN, k_lst', k_lc, l_nil, l_cons, optL_some, k_l1T, k_l1F, k_l2, e_yes, w_nil, w_cons, seqD_tup, seqD_lst, k_for, f_nil, f_cons, optF_some, k_f1N, k_f1C, k_f1B, k_f1R, len_tup, len_lst, len_scr, abs_i, int_i, int_b, list_l, list_t, list_s, tup_l, tup_t, max2, min2, sum_l, sum_t, okS_some, ints_nil, ints_cons, bls_nil, bls_cons, okB_some, all_l, any_l, lt_ii, le_ii, gt_ii, ge_ii, isN_non, isN_int, isN_bl, isN_str, isN_tup, isN_lst, notN_non, notN_int, notN_tup, notN_lst, add_ii', sub_ii', add_tt', add_ll', mul_sm, mul_bg, fdiv_sm, fdiv_bg, mod_sm, pow_sm, eq_ii', ne_ii', ix_tup, ix_lst, varS, var0_int, var0_bl, var0_tup, var0_lst, var0_str, var0_non, var0_cup, var0_scr, List.length_cons, List.length_nil, List.map_cons, List.map_nil, List.cons_append, List.nil_append, List.replicate_succ, List.replicate_zero, env0, Option.map_some, Nat.zero_add, Nat.reduceAdd, Nat.reduceSub, Nat.reduceLeDiff, Int.reduceLT, Int.reduceLE, Bool.not_true, Bool.not_false, decide_true, decide_false, natLit, at0, at1, at2, at3, at4, at5, Int.reduceAdd, Int.reduceSub, Int.reduceMul, Int.reducePow, Int.reduceNeg, Int.reduceDiv, Int.reduceMod, Int.reduceToNat, Int.reduceEq, reduceIte, decide_eq_true_eq, List.all_cons, List.all_nil, List.any_cons, List.any_nil, id, Bool.and_true, Bool.true_and, Bool.and_false, Bool.false_and, Bool.or_true, Bool.or_false, Bool.true_or, Bool.false_or, Bool.false_eq_true, law_touch_ok L L']
    · simp (disch := first | omega | exact Nat.le_of_ble_eq_true rfl | assumption | (simp only [List.length_append, List.length_cons, List.length_nil, List.length_map] <;> omega) | exact rfl | decide | (simp only [pl_int', pl_bl', pl_non', pl1l, pl1t, pl2l, pl2t, pl3l, pl3t, pl4l, pl4t, pl5l, pl5t, pl6l, pl6t, pl7l, pl7t, pl8l, pl8t, pl9l, pl9t, List.all_cons, List.all_nil, List.length_cons, List.length_nil, Nat.reduceAdd, Nat.reduceLeDiff, decide_true, Bool.and_true, Bool.true_and, Bool.and_self, *]; done) | fail) only [↓e_seq, ↓e_sl, ↓e_part, ↓e_par, ↓e_cupSet, ↓e_ifS, ↓e_ret, ↓e_drop, ↓e_asg, ↓e_B, ↓e_notB, ↓e_andB, ↓e_orB, ↓e_notD, ↓e_andD, ↓e_orD, ↓e_if, ↓e_op, ↓e_cons, ↓e_call, ↓e_icall, ↓e_tup', ↓e_lst, ↓e_neg, ↓e_chain, ↓e_last, ↓e_link, ↓e_un, ↓e_isi', ↓e_lc, ↓e_iseq, ↓e_for, ↓e_run0, ↓e_run1, ↓e_run2, ↓e_run3, ↓e_run4, ↓e_run5, ↓e_run6, ↓e_run7, ↓e_run8, k_sl1, k_sl2, sl_tup, sl_lst, e_noPart, k_part, revA_t, revA_l, k_par, put_nil, put_cons, e_ix0, e_ix1, k_cup0, k_cup1, in_ii2, zip_tt, zip_ll, then_ok, k_seqN, k_seqR, k_seqB, k_seqC, k_ifST, k_ifSF, e_skip, k_ret, e_retN, e_brk, e_cont, k_drop, k_asgName, k_asgTup, optE_some, g_tup, g_name, g_cons, g_nil, Option.bind_some, st0, stS, k_asB, k_notB, k_andBT, k_andBF, k_orBT, k_orBF, k_notD, k_andDT, k_andDF, k_orDT, k_orDF, k_ifT, k_ifF, e_C, k_op1, e_nil, k_c1, k_c2, k_tup, k_lst, k_neg, k_chain, k_link1, k_link2T, k_link2F, k_isi_int, k_isi_bl, k_isi_non, k_isi_str, k_isi_tup, k_isi_lst, D.isInt, D.isBool, D.isStr, D.isTup, D.isLst, k_runR, k_runN, k_lst', k_lc, l_nil, l_cons, optL_some, k_l1T, k_l1F, k_l2, e_yes, w_nil, w_cons, seqD_tup, seqD_lst, k_for, f_nil, f_cons, optF_some, k_f1N, k_f1C, k_f1B, k_f1R, len_tup, len_lst, len_scr, abs_i, int_i, int_b, list_l, list_t, list_s, tup_l, tup_t, max2, min2, sum_l, sum_t, okS_some, ints_nil, ints_cons, bls_nil, bls_cons, okB_some, all_l, any_l, lt_ii, le_ii, gt_ii, ge_ii, isN_non, isN_int, isN_bl, isN_str, isN_tup, isN_lst, notN_non, notN_int, notN_tup, notN_lst, add_ii', sub_ii', add_tt', add_ll', mul_sm, mul_bg, fdiv_sm, fdiv_bg, mod_sm, pow_sm, eq_ii', ne_ii', ix_tup, ix_lst, varS, var0_int, var0_bl, var0_tup, var0_lst, var0_str, var0_non, var0_cup, var0_scr, List.length_cons, List.length_nil, List.map_cons, List.map_nil, List.cons_append, List.nil_append, List.replicate_succ, List.replicate_zero, env0, Option.map_some, Nat.zero_add, Nat.reduceAdd, Nat.reduceSub, Nat.reduceLeDiff, Int.reduceLT, Int.reduceLE, Bool.not_true, Bool.not_false, decide_true, decide_false, natLit, at0, at1, at2, at3, at4, at5, Int.reduceAdd, Int.reduceSub, Int.reduceMul, Int.reducePow, Int.reduceNeg, Int.reduceDiv, Int.reduceMod, Int.reduceToNat, Int.reduceEq, reduceIte, decide_eq_true_eq, List.all_cons, List.all_nil, List.any_cons, List.any_nil, id, Bool.and_true, Bool.true_and, Bool.and_false, Bool.false_and, Bool.or_true, Bool.or_false, Bool.true_or, Bool.false_or, Bool.false_eq_true, dp]
  rw [q]
  have e : (a * last / b + 3 - (a * last / b - 1)).toNat = 4 := by omega
  unfold rangeL piece
  rw [e, List.filter_map, List.filter_map, List.map_map, List.map_map]; rfl
theorem dues_loop {o0 o6 o7 o9 o10 : Option D} (hb : 1 ≤ b ∧ b ≤ 1000) (ha : -1000 ≤ a ∧ a ≤ 1000) : ∀ (lasts : List Int) (acc : List (Int × Int)) (o4 o5 : Option D), (∀ t ∈ lasts, 1 ≤ t ∧ t ≤ 1000) → acc.length + 4 * lasts.length ≤ 100000 →
    ∃ o4' o5', forL (mgName 4) (mSeq (mAsg (mgName 5) (mOp fdivD (mOp mulD (mOp ixD (mVar 1) (mC (.int 0))) (mVar 4)) (mOp ixD (mVar 1) (mC (.int 1))))) (mAsg (mgName 3) (mOp addD (mVar 3) (mLc [8] (miCall range2F (mCons (mOp subD (mVar 5) (mC (.int 1))) (mCons (mOp addD (mVar 5) (mC (.int 3))) (mNil)))) (mgName 8) (mB (mCall f_u_law_touch (mCons (mVar 1) (mCons (mTup (mCons (mVar 8) (mCons (mVar 4) (mNil)))) (mNil))))) (mTup (mCons (mVar 8) (mCons (mVar 4) (mNil)))))))) (lasts.map D.int)
      [o0, some (pr a b), some (.int most), some (.lst (acc.map dp)), o4, o5, o6, o7, none, o9, o10] c = .ok (.nx [o0, some (pr a b), some (.int most), some (.lst ((acc ++ lasts.flatMap (piece a b)).map dp)), o4', o5', o6, o7, none, o9, o10]) c
  | [], acc, o4, o5, _, _ => by
    refine ⟨o4, o5, ?_⟩
    rw [List.flatMap_nil, List.append_nil]; rfl
  | t :: lasts, acc, o4, o5, hl, hn => by
    have ht := hl t List.mem_cons_self
    have pl := piece_len (a := a) (b := b) (last := t)
    have pb1 := pb (s := a) (t := t) (A := 1000) (B := 1000) (by omega) (by omega)
    have md := Int.emod_add_mul_ediv (a * t) b
    have m0 := Int.emod_nonneg (a * t) (show b ≠ 0 by omega)
    have m1 := Int.emod_lt_of_pos (a * t) (show 0 < b by omega)
    have db := mul_le_abs (g := b) (x := a * t / b) (B := 2000000) (by omega) (by omega) (by omega)
    rw [List.length_cons] at hn
    obtain ⟨o4', o5', ih⟩ := dues_loop (o0 := o0) (o6 := o6) (o7 := o7) (o9 := o9) (o10 := o10) hb ha lasts (acc ++ piece a b t) (some (.int t)) (some (.int (a * t / b))) (fun u hu => hl u (List.mem_cons_of_mem _ hu)) (by rw [List.length_append]; omega)
    refine ⟨o4', o5', ?_⟩
    have q1 := fun c => piece_lc (c := c) (o0 := o0) (o2 := some (.int most)) (o3 := some (.lst (acc.map dp))) (o4 := some (.int t)) (o6 := o6) (o7 := o7) (o9 := o9) (o10 := o10) hb ha ht rfl
    have r1 := fun c => rng2_ok (c := c) (i := a * t / b - 1) (n := a * t / b + 3) (by omega) (by omega)
    have len1 : (rangeL (a * t / b - 1) (a * t / b + 3)).length ≤ 1000000 := by rw [rangeL_len]; omega
    have len2 : (acc.map dp).length + ((piece a b t).map dp).length ≤ 1000000 := by rw [List.length_map, List.length_map]; omega
    have e1 : (acc ++ piece a b t ++ lasts.flatMap (piece a b)) = acc ++ (t :: lasts).flatMap (piece a b) := by rw [List.flatMap_cons, List.append_assoc]
    rw [e1, List.map_append (l₁ := acc) (l₂ := piece a b t)] at ih
    have hb1 := hb.1
    simp (disch := first | omega | exact Nat.le_of_ble_eq_true rfl | assumption | (simp only [List.length_append, List.length_cons, List.length_nil, List.length_map] <;> omega) | exact rfl | decide | (simp only [pl_int', pl_bl', pl_non', pl1l, pl1t, pl2l, pl2t, pl3l, pl3t, pl4l, pl4t, pl5l, pl5t, pl6l, pl6t, pl7l, pl7t, pl8l, pl8t, pl9l, pl9t, List.all_cons, List.all_nil, List.length_cons, List.length_nil, Nat.reduceAdd, Nat.reduceLeDiff, decide_true, Bool.and_true, Bool.true_and, Bool.and_self, *]; done) | fail) only [↓e_seq, ↓e_sl, ↓e_part, ↓e_par, ↓e_cupSet, ↓e_ifS, ↓e_ret, ↓e_drop, ↓e_asg, ↓e_B, ↓e_notB, ↓e_andB, ↓e_orB, ↓e_notD, ↓e_andD, ↓e_orD, ↓e_if, ↓e_op, ↓e_cons, ↓e_call, ↓e_icall, ↓e_tup', ↓e_lst, ↓e_neg, ↓e_chain, ↓e_last, ↓e_link, ↓e_un, ↓e_isi', ↓e_lc, ↓e_iseq, ↓e_for, ↓e_run0, ↓e_run1, ↓e_run2, ↓e_run3, ↓e_run4, ↓e_run5, ↓e_run6, ↓e_run7, ↓e_run8, k_sl1, k_sl2, sl_tup, sl_lst, e_noPart, k_part, revA_t, revA_l, k_par, put_nil, put_cons, e_ix0, e_ix1, k_cup0, k_cup1, in_ii2, zip_tt, zip_ll, then_ok, k_seqN, k_seqR, k_seqB, k_seqC, k_ifST, k_ifSF, e_skip, k_ret, e_retN, e_brk, e_cont, k_drop, k_asgName, k_asgTup, optE_some, g_tup, g_name, g_cons, g_nil, Option.bind_some, st0, stS, k_asB, k_notB, k_andBT, k_andBF, k_orBT, k_orBF, k_notD, k_andDT, k_andDF, k_orDT, k_orDF, k_ifT, k_ifF, e_C, k_op1, e_nil, k_c1, k_c2, k_tup, k_lst, k_neg, k_chain, k_link1, k_link2T, k_link2F, k_isi_int, k_isi_bl, k_isi_non, k_isi_str, k_isi_tup, k_isi_lst, D.isInt, D.isBool, D.isStr, D.isTup, D.isLst, k_runR, k_runN, k_lst', k_lc, l_nil, l_cons, optL_some, k_l1T, k_l1F, k_l2, e_yes, w_nil, w_cons, seqD_tup, seqD_lst, k_for, f_nil, f_cons, optF_some, k_f1N, k_f1C, k_f1B, k_f1R, len_tup, len_lst, len_scr, abs_i, int_i, int_b, list_l, list_t, list_s, tup_l, tup_t, max2, min2, sum_l, sum_t, okS_some, ints_nil, ints_cons, bls_nil, bls_cons, okB_some, all_l, any_l, lt_ii, le_ii, gt_ii, ge_ii, isN_non, isN_int, isN_bl, isN_str, isN_tup, isN_lst, notN_non, notN_int, notN_tup, notN_lst, add_ii', sub_ii', add_tt', add_ll', mul_sm, mul_bg, fdiv_sm, fdiv_bg, mod_sm, pow_sm, eq_ii', ne_ii', ix_tup, ix_lst, varS, var0_int, var0_bl, var0_tup, var0_lst, var0_str, var0_non, var0_cup, var0_scr, List.length_cons, List.length_nil, List.map_cons, List.map_nil, List.cons_append, List.nil_append, List.replicate_succ, List.replicate_zero, env0, Option.map_some, Nat.zero_add, Nat.reduceAdd, Nat.reduceSub, Nat.reduceLeDiff, Int.reduceLT, Int.reduceLE, Bool.not_true, Bool.not_false, decide_true, decide_false, natLit, at0, at1, at2, at3, at4, at5, Int.reduceAdd, Int.reduceSub, Int.reduceMul, Int.reducePow, Int.reduceNeg, Int.reduceDiv, Int.reduceMod, Int.reduceToNat, Int.reduceEq, reduceIte, decide_eq_true_eq, List.all_cons, List.all_nil, List.any_cons, List.any_nil, id, Bool.and_true, Bool.true_and, Bool.and_false, Bool.false_and, Bool.or_true, Bool.or_false, Bool.true_or, Bool.false_or, Bool.false_eq_true, q1, r1, ih]
theorem up_lc {o0 o1 o2 o3 o4 o5 o6 o7 o8 : Option D} {ps : List (Int × Int)} (h : ps.Pairwise less) (hp : ∀ p ∈ ps, (-10000000 ≤ p.1 ∧ p.1 ≤ 10000000) ∧ 1 ≤ p.2 ∧ p.2 ≤ 1000) : lcL (mgTup 2 (mgsCons (mgName 9) (mgsCons (mgName 10) (mgsNil)))) (mB (mOp geD (mOp mulD (mOp ixD (mVar 9) (mC (.int 0))) (mOp ixD (mVar 10) (mC (.int 1)))) (mOp mulD (mOp ixD (mVar 10) (mC (.int 0))) (mOp ixD (mVar 9) (mC (.int 1)))))) (mC (.int 1)) [o0, o1, o2, o3, o4, o5, o6, o7, o8, none, none] (((ps.map dp).zip ((ps.map dp).drop 1)).map fun p => .tup [p.1, p.2]) c = .ok [] c := by
  have q := lc_of (g := (mgTup 2 (mgsCons (mgName 9) (mgsCons (mgName 10) (mgsNil))))) (t := (mB (mOp geD (mOp mulD (mOp ixD (mVar 9) (mC (.int 0))) (mOp ixD (mVar 10) (mC (.int 1)))) (mOp mulD (mOp ixD (mVar 10) (mC (.int 0))) (mOp ixD (mVar 9) (mC (.int 1))))))) (m := (mC (.int 1))) (ρ := [o0, o1, o2, o3, o4, o5, o6, o7, o8, none, none]) (c := c) (ds := (((ps.map dp).zip ((ps.map dp).drop 1)).map fun p => .tup [p.1, p.2])) (k := fun _ => false) (y := fun d => d) fun d hd => by
    obtain ⟨w, hw, rfl⟩ := List.mem_map.mp hd
    rw [← List.map_drop, List.zip_map] at hw
    obtain ⟨v, hv, rfl⟩ := List.mem_map.mp hw
    have hlt : v.1.1 * v.2.2 < v.2.1 * v.1.2 := zip_next h v hv
    have h1 := hp v.1 (List.of_mem_zip hv).1
    have h2 := hp v.2 (List.mem_of_mem_drop (List.of_mem_zip hv).2)
    have hge : ¬ (v.2.1 * v.1.2 ≤ v.1.1 * v.2.2) := by omega
    refine ⟨[o0, o1, o2, o3, o4, o5, o6, o7, o8, some (dp v.1), some (dp v.2)], rfl, ?_, fun q => by cases q⟩
    simp (disch := first | omega | exact Nat.le_of_ble_eq_true rfl | assumption | (simp only [List.length_append, List.length_cons, List.length_nil, List.length_map] <;> omega) | exact rfl | decide | (simp only [pl_int', pl_bl', pl_non', pl1l, pl1t, pl2l, pl2t, pl3l, pl3t, pl4l, pl4t, pl5l, pl5t, pl6l, pl6t, pl7l, pl7t, pl8l, pl8t, pl9l, pl9t, List.all_cons, List.all_nil, List.length_cons, List.length_nil, Nat.reduceAdd, Nat.reduceLeDiff, decide_true, Bool.and_true, Bool.true_and, Bool.and_self, *]; done) | fail) only [↓e_seq, ↓e_sl, ↓e_part, ↓e_par, ↓e_cupSet, ↓e_ifS, ↓e_ret, ↓e_drop, ↓e_asg, ↓e_B, ↓e_notB, ↓e_andB, ↓e_orB, ↓e_notD, ↓e_andD, ↓e_orD, ↓e_if, ↓e_op, ↓e_cons, ↓e_call, ↓e_icall, ↓e_tup', ↓e_lst, ↓e_neg, ↓e_chain, ↓e_last, ↓e_link, ↓e_un, ↓e_isi', ↓e_lc, ↓e_iseq, ↓e_for, ↓e_run0, ↓e_run1, ↓e_run2, ↓e_run3, ↓e_run4, ↓e_run5, ↓e_run6, ↓e_run7, ↓e_run8, k_sl1, k_sl2, sl_tup, sl_lst, e_noPart, k_part, revA_t, revA_l, k_par, put_nil, put_cons, e_ix0, e_ix1, k_cup0, k_cup1, in_ii2, zip_tt, zip_ll, then_ok, k_seqN, k_seqR, k_seqB, k_seqC, k_ifST, k_ifSF, e_skip, k_ret, e_retN, e_brk, e_cont, k_drop, k_asgName, k_asgTup, optE_some, g_tup, g_name, g_cons, g_nil, Option.bind_some, st0, stS, k_asB, k_notB, k_andBT, k_andBF, k_orBT, k_orBF, k_notD, k_andDT, k_andDF, k_orDT, k_orDF, k_ifT, k_ifF, e_C, k_op1, e_nil, k_c1, k_c2, k_tup, k_lst, k_neg, k_chain, k_link1, k_link2T, k_link2F, k_isi_int, k_isi_bl, k_isi_non, k_isi_str, k_isi_tup, k_isi_lst, D.isInt, D.isBool, D.isStr, D.isTup, D.isLst, k_runR, k_runN, k_lst', k_lc, l_nil, l_cons, optL_some, k_l1T, k_l1F, k_l2, e_yes, w_nil, w_cons, seqD_tup, seqD_lst, k_for, f_nil, f_cons, optF_some, k_f1N, k_f1C, k_f1B, k_f1R, len_tup, len_lst, len_scr, abs_i, int_i, int_b, list_l, list_t, list_s, tup_l, tup_t, max2, min2, sum_l, sum_t, okS_some, ints_nil, ints_cons, bls_nil, bls_cons, okB_some, all_l, any_l, lt_ii, le_ii, gt_ii, ge_ii, isN_non, isN_int, isN_bl, isN_str, isN_tup, isN_lst, notN_non, notN_int, notN_tup, notN_lst, add_ii', sub_ii', add_tt', add_ll', mul_sm, mul_bg, fdiv_sm, fdiv_bg, mod_sm, pow_sm, eq_ii', ne_ii', ix_tup, ix_lst, varS, var0_int, var0_bl, var0_tup, var0_lst, var0_str, var0_non, var0_cup, var0_scr, List.length_cons, List.length_nil, List.map_cons, List.map_nil, List.cons_append, List.nil_append, List.replicate_succ, List.replicate_zero, env0, Option.map_some, Nat.zero_add, Nat.reduceAdd, Nat.reduceSub, Nat.reduceLeDiff, Int.reduceLT, Int.reduceLE, Bool.not_true, Bool.not_false, decide_true, decide_false, natLit, at0, at1, at2, at3, at4, at5, Int.reduceAdd, Int.reduceSub, Int.reduceMul, Int.reducePow, Int.reduceNeg, Int.reduceDiv, Int.reduceMod, Int.reduceToNat, Int.reduceEq, reduceIte, decide_eq_true_eq, List.all_cons, List.all_nil, List.any_cons, List.any_nil, id, Bool.and_true, Bool.true_and, Bool.and_false, Bool.false_and, Bool.or_true, Bool.or_false, Bool.true_or, Bool.false_or, Bool.false_eq_true, dp, hge]
  rw [q, List.filter_eq_nil_iff.mpr (fun a _ h => by cases h)]; rfl
theorem own_lc {o0 o2 o3 o4 o5 o6 o8 o9 o10 : Option D} {ps : List (Int × Int)} (F : Fr G a b) (hp : ∀ p ∈ ps, Fr G p.1 p.2 ∧ toB a b p.1 p.2 = true) : lcL (mgName 7) (mOrB (mB (mOp neD (mCall f_u_law_divisor (mCons (mOp ixD (mVar 7) (mC (.int 0))) (mCons (mOp ixD (mVar 7) (mC (.int 1))) (mNil)))) (mC (.int 1)))) (mB (mOp notB (mCall f_do_ford_touch (mCons (mVar 1) (mCons (mVar 7) (mNil)))) (mC (.bl true))))) (mVar 7) [o0, some (pr a b), o2, o3, o4, o5, o6, none, o8, o9, o10] (ps.map dp) c = .ok [] c := by
  have q := lc_of (g := mgName 7) (t := (mOrB (mB (mOp neD (mCall f_u_law_divisor (mCons (mOp ixD (mVar 7) (mC (.int 0))) (mCons (mOp ixD (mVar 7) (mC (.int 1))) (mNil)))) (mC (.int 1)))) (mB (mOp notB (mCall f_do_ford_touch (mCons (mVar 1) (mCons (mVar 7) (mNil)))) (mC (.bl true)))))) (m := mVar 7) (ρ := [o0, some (pr a b), o2, o3, o4, o5, o6, none, o8, o9, o10]) (c := c) (ds := ps.map dp) (k := fun _ => false) (y := fun d => d) fun d hd => by
    obtain ⟨p, h, rfl⟩ := List.mem_map.mp hd
    obtain ⟨FF, ht⟩ := hp p h
    have nb : notB (.bl true) (.bl true) c = .ok (.bl false) c := rfl
    have g1 : ((Int.gcd p.1 p.2 : Nat) : Int) = 1 := by rw [FF.g]; rfl
    refine ⟨[o0, some (pr a b), o2, o3, o4, o5, o6, some (dp p), o8, o9, o10], rfl, ?_, fun q => by cases q⟩
    simp (disch := first | omega | exact Nat.le_of_ble_eq_true rfl | assumption | (simp only [List.length_append, List.length_cons, List.length_nil, List.length_map] <;> omega) | exact rfl | decide | (simp only [pl_int', pl_bl', pl_non', pl1l, pl1t, pl2l, pl2t, pl3l, pl3t, pl4l, pl4t, pl5l, pl5t, pl6l, pl6t, pl7l, pl7t, pl8l, pl8t, pl9l, pl9t, List.all_cons, List.all_nil, List.length_cons, List.length_nil, Nat.reduceAdd, Nat.reduceLeDiff, decide_true, Bool.and_true, Bool.true_and, Bool.and_self, *]; done) | fail) only [↓e_seq, ↓e_sl, ↓e_part, ↓e_par, ↓e_cupSet, ↓e_ifS, ↓e_ret, ↓e_drop, ↓e_asg, ↓e_B, ↓e_notB, ↓e_andB, ↓e_orB, ↓e_notD, ↓e_andD, ↓e_orD, ↓e_if, ↓e_op, ↓e_cons, ↓e_call, ↓e_icall, ↓e_tup', ↓e_lst, ↓e_neg, ↓e_chain, ↓e_last, ↓e_link, ↓e_un, ↓e_isi', ↓e_lc, ↓e_iseq, ↓e_for, ↓e_run0, ↓e_run1, ↓e_run2, ↓e_run3, ↓e_run4, ↓e_run5, ↓e_run6, ↓e_run7, ↓e_run8, k_sl1, k_sl2, sl_tup, sl_lst, e_noPart, k_part, revA_t, revA_l, k_par, put_nil, put_cons, e_ix0, e_ix1, k_cup0, k_cup1, in_ii2, zip_tt, zip_ll, then_ok, k_seqN, k_seqR, k_seqB, k_seqC, k_ifST, k_ifSF, e_skip, k_ret, e_retN, e_brk, e_cont, k_drop, k_asgName, k_asgTup, optE_some, g_tup, g_name, g_cons, g_nil, Option.bind_some, st0, stS, k_asB, k_notB, k_andBT, k_andBF, k_orBT, k_orBF, k_notD, k_andDT, k_andDF, k_orDT, k_orDF, k_ifT, k_ifF, e_C, k_op1, e_nil, k_c1, k_c2, k_tup, k_lst, k_neg, k_chain, k_link1, k_link2T, k_link2F, k_isi_int, k_isi_bl, k_isi_non, k_isi_str, k_isi_tup, k_isi_lst, D.isInt, D.isBool, D.isStr, D.isTup, D.isLst, k_runR, k_runN, k_lst', k_lc, l_nil, l_cons, optL_some, k_l1T, k_l1F, k_l2, e_yes, w_nil, w_cons, seqD_tup, seqD_lst, k_for, f_nil, f_cons, optF_some, k_f1N, k_f1C, k_f1B, k_f1R, len_tup, len_lst, len_scr, abs_i, int_i, int_b, list_l, list_t, list_s, tup_l, tup_t, max2, min2, sum_l, sum_t, okS_some, ints_nil, ints_cons, bls_nil, bls_cons, okB_some, all_l, any_l, lt_ii, le_ii, gt_ii, ge_ii, isN_non, isN_int, isN_bl, isN_str, isN_tup, isN_lst, notN_non, notN_int, notN_tup, notN_lst, add_ii', sub_ii', add_tt', add_ll', mul_sm, mul_bg, fdiv_sm, fdiv_bg, mod_sm, pow_sm, eq_ii', ne_ii', ix_tup, ix_lst, varS, var0_int, var0_bl, var0_tup, var0_lst, var0_str, var0_non, var0_cup, var0_scr, List.length_cons, List.length_nil, List.map_cons, List.map_nil, List.cons_append, List.nil_append, List.replicate_succ, List.replicate_zero, env0, Option.map_some, Nat.zero_add, Nat.reduceAdd, Nat.reduceSub, Nat.reduceLeDiff, Int.reduceLT, Int.reduceLE, Bool.not_true, Bool.not_false, decide_true, decide_false, natLit, at0, at1, at2, at3, at4, at5, Int.reduceAdd, Int.reduceSub, Int.reduceMul, Int.reducePow, Int.reduceNeg, Int.reduceDiv, Int.reduceMod, Int.reduceToNat, Int.reduceEq, reduceIte, decide_eq_true_eq, List.all_cons, List.all_nil, List.any_cons, List.any_nil, id, Bool.and_true, Bool.true_and, Bool.and_false, Bool.false_and, Bool.or_true, Bool.or_false, Bool.true_or, Bool.false_or, Bool.false_eq_true, dp, law_divisor_ok, g1, do_touch_ok F FF, ht, nb]
  rw [q, List.filter_eq_nil_iff.mpr (fun a _ h => by cases h)]; rfl
theorem nb_len (hb : 1 ≤ b) (l1 : 1 ≤ l) (m1 : 1 ≤ m) (hm : 0 ≤ most ∧ most ≤ 1000) : (nb a b most l m).length ≤ 2000 := by
  have s1 := sz_le (l := l) (top := most) hb l1 (by omega)
  have s2 := sz_le (l := m) (top := most) hb m1 (by omega)
  unfold nb nbL nbM
  rw [List.length_append, List.length_reverse, List.length_map, List.length_map, List.length_range, List.length_range]
  omega
theorem near_fr (F : Fr G a b) {B : Int} (hB : 1 ≤ B) (hBG : B * 1000 + 1 < G) (hBa : -B ≤ a ∧ a ≤ B) (hm : most ≤ 1000) {p : Int × Int} (h : 1 ≤ p.2 ∧ p.2 ≤ most ∧ (a * p.2 - b * p.1 = 1 ∨ a * p.2 - b * p.1 = -1)) : Fr G p.1 p.2 ∧ toB a b p.1 p.2 = true ∧ -(B * 1000 + 1) ≤ p.1 ∧ p.1 ≤ B * 1000 + 1 := by
  have hb := F.n1
  have pb1 := pb (s := a) (t := p.2) (A := B) (B := 1000) hBa (by omega)
  have hx := mul_le_abs (g := b) (x := p.1) (B := B * 1000 + 2) (by omega) (by omega) (by omega)
  have hG : (2000 : Int) < G := by decide
  refine ⟨⟨h.1, by omega, by omega, by omega, ?_⟩, decide_eq_true h.2.2, by omega, by omega⟩
  refine gcd_of_one (u := -b) (v := a) ?_
  have e : p.1 * -b + p.2 * a = a * p.2 - b * p.1 := by grind
  rw [e]; exact h.2.2
theorem small_right_ok {x : D} (hx : ∀ ρ c, mVar 0 (some x :: ρ) c = .ok x c) (F : Fr G a b) (hb : b ≤ 1000) (ha : -1000 ≤ a ∧ a ≤ 1000) (hm : 1 ≤ most ∧ most ≤ 1000) : f_u_law_small_right [x, pr a b, .int most] c = .ok (.bl true) c := by
  have hb1 := F.n1
  obtain ⟨l, m, k, j, hn, l1, l2, m1, m2, e, e', _⟩ := neigh_ok (most := most) (c := c) F (by omega) hm
  have hmem := fun p => mem_nb (p := p) (most := most) hb1 l1 l2 m1 m2 e e'
  have hup := nb_up (most := most) hb1 l1 l2 m1 m2 e e'
  have hperm := told_dues (most := most) hb1 l1 l2 m1 m2 e e'
  have hlen := nb_len (a := a) hb1 l1 m1 ⟨by omega, hm.2⟩
  have hfr := fun p (h : p ∈ nb a b most l m) => near_fr (most := most) (p := p) F (B := 1000) (by decide) (by decide) ha hm.2 ((hmem p).mp h)
  have er : rangeL 1 (most + 1) = ((List.range most.toNat).map fun (i : Nat) => (1 + (i : Int))).map D.int := by
    unfold rangeL
    rw [List.map_map, show (most + 1 - 1).toNat = most.toNat by omega]; rfl
  obtain ⟨o4, o5, lp⟩ := dues_loop (a := a) (b := b) (most := most) (c := c) (o0 := some x) (o6 := none) (o7 := none) (o9 := none) (o10 := none) ⟨hb1, hb⟩ ha ((List.range most.toNat).map fun (i : Nat) => (1 + (i : Int))) [] none none (fun t ht => by
    obtain ⟨i, hi, rfl⟩ := List.mem_map.mp ht
    have := List.mem_range.mp hi
    omega) (by rw [List.length_map, List.length_range]; simp; omega)
  rw [List.nil_append, List.map_nil, ← er] at lp
  have lp2 : List.flatMap (piece a b) ((List.range most.toNat).map fun (i : Nat) => (1 + (i : Int))) = dues a b most := rfl
  rw [lp2] at lp
  have r1 := rng2_ok (c := c) (i := 1) (n := most + 1) (by omega) (by omega)
  have so1 := sorted_pairsT (nb a b most l m) c
  have so2 := sorted_pairsL (dues a b most) c
  rw [srtP_eq hperm] at so1
  have nes := ne_same (c := c) (shp_lst (n := 1) (pairs_pl (srtP (dues a b most))) (by decide))
  have up := up_lc (c := c) (o0 := some x) (o1 := some (pr a b)) (o2 := some (.int most)) (o3 := some (.lst ((dues a b most).map dp))) (o4 := o4) (o5 := o5) (o6 := some (.tup ((nb a b most l m).map dp))) (o7 := none) (o8 := none) hup fun p h => by
    have := hfr p h
    have h2 := (hmem p).mp h
    exact ⟨by omega, h2.1, by omega⟩
  have ow := own_lc (c := c) (o0 := some x) (o2 := some (.int most)) (o3 := some (.lst ((dues a b most).map dp))) (o4 := o4) (o5 := o5) (o6 := some (.tup ((nb a b most l m).map dp))) (o8 := none) (o9 := none) (o10 := none) F fun p h => ⟨(hfr p h).1, (hfr p h).2.1⟩
  have n0 : (D.lst []).shp = true := rfl
  have len1 : ((((nb a b most l m).map dp).zip (((nb a b most l m).map dp).drop 1)).map fun p => D.tup [p.1, p.2]).length ≤ 1000000 := by
    rw [List.length_map, List.length_zip, List.length_map]; omega
  have len2 : ((nb a b most l m).map dp).length ≤ 1000000 := by rw [List.length_map]; omega
  simp (disch := first | omega | exact Nat.le_of_ble_eq_true rfl | assumption | (simp only [List.length_append, List.length_cons, List.length_nil, List.length_map] <;> omega) | exact rfl | decide | (simp only [pl_int', pl_bl', pl_non', pl1l, pl1t, pl2l, pl2t, pl3l, pl3t, pl4l, pl4t, pl5l, pl5t, pl6l, pl6t, pl7l, pl7t, pl8l, pl8t, pl9l, pl9t, List.all_cons, List.all_nil, List.length_cons, List.length_nil, Nat.reduceAdd, Nat.reduceLeDiff, decide_true, Bool.and_true, Bool.true_and, Bool.and_self, *]; done) | fail) only [↓e_seq, ↓e_sl, ↓e_part, ↓e_par, ↓e_cupSet, ↓e_ifS, ↓e_ret, ↓e_drop, ↓e_asg, ↓e_B, ↓e_notB, ↓e_andB, ↓e_orB, ↓e_notD, ↓e_andD, ↓e_orD, ↓e_if, ↓e_op, ↓e_cons, ↓e_call, ↓e_icall, ↓e_tup', ↓e_lst, ↓e_neg, ↓e_chain, ↓e_last, ↓e_link, ↓e_un, ↓e_isi', ↓e_lc, ↓e_iseq, ↓e_for, ↓e_run0, ↓e_run1, ↓e_run2, ↓e_run3, ↓e_run4, ↓e_run5, ↓e_run6, ↓e_run7, ↓e_run8, k_sl1, k_sl2, sl_tup, sl_lst, e_noPart, k_part, revA_t, revA_l, k_par, put_nil, put_cons, e_ix0, e_ix1, k_cup0, k_cup1, in_ii2, zip_tt, zip_ll, then_ok, k_seqN, k_seqR, k_seqB, k_seqC, k_ifST, k_ifSF, e_skip, k_ret, e_retN, e_brk, e_cont, k_drop, k_asgName, k_asgTup, optE_some, g_tup, g_name, g_cons, g_nil, Option.bind_some, st0, stS, k_asB, k_notB, k_andBT, k_andBF, k_orBT, k_orBF, k_notD, k_andDT, k_andDF, k_orDT, k_orDF, k_ifT, k_ifF, e_C, k_op1, e_nil, k_c1, k_c2, k_tup, k_lst, k_neg, k_chain, k_link1, k_link2T, k_link2F, k_isi_int, k_isi_bl, k_isi_non, k_isi_str, k_isi_tup, k_isi_lst, D.isInt, D.isBool, D.isStr, D.isTup, D.isLst, k_runR, k_runN, k_lst', k_lc, l_nil, l_cons, optL_some, k_l1T, k_l1F, k_l2, e_yes, w_nil, w_cons, seqD_tup, seqD_lst, k_for, f_nil, f_cons, optF_some, k_f1N, k_f1C, k_f1B, k_f1R, len_tup, len_lst, len_scr, abs_i, int_i, int_b, list_l, list_t, list_s, tup_l, tup_t, max2, min2, sum_l, sum_t, okS_some, ints_nil, ints_cons, bls_nil, bls_cons, okB_some, all_l, any_l, lt_ii, le_ii, gt_ii, ge_ii, isN_non, isN_int, isN_bl, isN_str, isN_tup, isN_lst, notN_non, notN_int, notN_tup, notN_lst, add_ii', sub_ii', add_tt', add_ll', mul_sm, mul_bg, fdiv_sm, fdiv_bg, mod_sm, pow_sm, eq_ii', ne_ii', ix_tup, ix_lst, varS, var0_int, var0_bl, var0_tup, var0_lst, var0_str, var0_non, var0_cup, var0_scr, List.length_cons, List.length_nil, List.map_cons, List.map_nil, List.cons_append, List.nil_append, List.replicate_succ, List.replicate_zero, env0, Option.map_some, Nat.zero_add, Nat.reduceAdd, Nat.reduceSub, Nat.reduceLeDiff, Int.reduceLT, Int.reduceLE, Bool.not_true, Bool.not_false, decide_true, decide_false, natLit, at0, at1, at2, at3, at4, at5, Int.reduceAdd, Int.reduceSub, Int.reduceMul, Int.reducePow, Int.reduceNeg, Int.reduceDiv, Int.reduceMod, Int.reduceToNat, Int.reduceEq, reduceIte, decide_eq_true_eq, List.all_cons, List.all_nil, List.any_cons, List.any_nil, id, Bool.and_true, Bool.true_and, Bool.and_false, Bool.false_and, Bool.or_true, Bool.or_false, Bool.true_or, Bool.false_or, Bool.false_eq_true, f_u_law_small_right, b_u_law_small_right, hx, r1, lp, hn, so1, so2, nes, cut_from1, up, ow, eq_nil n0, ne_nil n0, List.isEmpty_nil]
end
theorem law_cup_ok {ns : List Int} (h : ns.length ≤ 63) : ∃ a b, f_u_law_cup [.scr (ns.map D.int)] none = .ok [.int a, .int b] none := by
  have e : ∃ m r, (ns.map D.int) ++ [D.int 0] = D.int m :: r := by
    cases ns with
    | nil => exact ⟨0, [], rfl⟩
    | cons a t => exact ⟨a, t.map D.int ++ [.int 0], rfl⟩
  obtain ⟨m, r, e⟩ := e
  have hl : ((ns.map D.int)).length ≤ 63 := by rw [List.length_map]; exact h
  have hp : ∀ v : Int, (1000000000000000000 ≤ v) ∨ ¬ (1000000000000000000 ≤ v) := fun v => by omega
  rcases hp (if m < 0 then -m else m) with hv | hv
  · simp (disch := first | omega | exact Nat.le_of_ble_eq_true rfl | assumption | (simp only [List.length_append, List.length_cons, List.length_nil, List.length_map] <;> omega) | exact rfl | decide | (simp only [pl_int', pl_bl', pl_non', pl1l, pl1t, pl2l, pl2t, pl3l, pl3t, pl4l, pl4t, pl5l, pl5t, pl6l, pl6t, pl7l, pl7t, pl8l, pl8t, pl9l, pl9t, List.all_cons, List.all_nil, List.length_cons, List.length_nil, Nat.reduceAdd, Nat.reduceLeDiff, decide_true, Bool.and_true, Bool.true_and, Bool.and_self, *]; done) | fail) only [↓e_seq, ↓e_sl, ↓e_part, ↓e_par, ↓e_cupSet, ↓e_ifS, ↓e_ret, ↓e_drop, ↓e_asg, ↓e_B, ↓e_notB, ↓e_andB, ↓e_orB, ↓e_notD, ↓e_andD, ↓e_orD, ↓e_if, ↓e_op, ↓e_cons, ↓e_call, ↓e_icall, ↓e_tup', ↓e_lst, ↓e_neg, ↓e_chain, ↓e_last, ↓e_link, ↓e_un, ↓e_isi', ↓e_lc, ↓e_iseq, ↓e_for, ↓e_run0, ↓e_run1, ↓e_run2, ↓e_run3, ↓e_run4, ↓e_run5, ↓e_run6, ↓e_run7, ↓e_run8, k_sl1, k_sl2, sl_tup, sl_lst, e_noPart, k_part, revA_t, revA_l, k_par, put_nil, put_cons, e_ix0, e_ix1, k_cup0, k_cup1, in_ii2, zip_tt, zip_ll, then_ok, k_seqN, k_seqR, k_seqB, k_seqC, k_ifST, k_ifSF, e_skip, k_ret, e_retN, e_brk, e_cont, k_drop, k_asgName, k_asgTup, optE_some, g_tup, g_name, g_cons, g_nil, Option.bind_some, st0, stS, k_asB, k_notB, k_andBT, k_andBF, k_orBT, k_orBF, k_notD, k_andDT, k_andDF, k_orDT, k_orDF, k_ifT, k_ifF, e_C, k_op1, e_nil, k_c1, k_c2, k_tup, k_lst, k_neg, k_chain, k_link1, k_link2T, k_link2F, k_isi_int, k_isi_bl, k_isi_non, k_isi_str, k_isi_tup, k_isi_lst, D.isInt, D.isBool, D.isStr, D.isTup, D.isLst, k_runR, k_runN, k_lst', k_lc, l_nil, l_cons, optL_some, k_l1T, k_l1F, k_l2, e_yes, w_nil, w_cons, seqD_tup, seqD_lst, k_for, f_nil, f_cons, optF_some, k_f1N, k_f1C, k_f1B, k_f1R, len_tup, len_lst, len_scr, abs_i, int_i, int_b, list_l, list_t, list_s, tup_l, tup_t, max2, min2, sum_l, sum_t, okS_some, ints_nil, ints_cons, bls_nil, bls_cons, okB_some, all_l, any_l, lt_ii, le_ii, gt_ii, ge_ii, isN_non, isN_int, isN_bl, isN_str, isN_tup, isN_lst, notN_non, notN_int, notN_tup, notN_lst, add_ii', sub_ii', add_tt', add_ll', mul_sm, mul_bg, fdiv_sm, fdiv_bg, mod_sm, pow_sm, eq_ii', ne_ii', ix_tup, ix_lst, varS, var0_int, var0_bl, var0_tup, var0_lst, var0_str, var0_non, var0_cup, var0_scr, List.length_cons, List.length_nil, List.map_cons, List.map_nil, List.cons_append, List.nil_append, List.replicate_succ, List.replicate_zero, env0, Option.map_some, Nat.zero_add, Nat.reduceAdd, Nat.reduceSub, Nat.reduceLeDiff, Int.reduceLT, Int.reduceLE, Bool.not_true, Bool.not_false, decide_true, decide_false, natLit, at0, at1, at2, at3, at4, at5, Int.reduceAdd, Int.reduceSub, Int.reduceMul, Int.reducePow, Int.reduceNeg, Int.reduceDiv, Int.reduceMod, Int.reduceToNat, Int.reduceEq, reduceIte, decide_eq_true_eq, List.all_cons, List.all_nil, List.any_cons, List.any_nil, id, Bool.and_true, Bool.true_and, Bool.and_false, Bool.false_and, Bool.or_true, Bool.or_false, Bool.true_or, Bool.false_or, Bool.false_eq_true, f_u_law_cup, ↓e_new1, k_newR, k_new2, e, hv]
    exact ⟨_, _, rfl⟩
  · simp (disch := first | omega | exact Nat.le_of_ble_eq_true rfl | assumption | (simp only [List.length_append, List.length_cons, List.length_nil, List.length_map] <;> omega) | exact rfl | decide | (simp only [pl_int', pl_bl', pl_non', pl1l, pl1t, pl2l, pl2t, pl3l, pl3t, pl4l, pl4t, pl5l, pl5t, pl6l, pl6t, pl7l, pl7t, pl8l, pl8t, pl9l, pl9t, List.all_cons, List.all_nil, List.length_cons, List.length_nil, Nat.reduceAdd, Nat.reduceLeDiff, decide_true, Bool.and_true, Bool.true_and, Bool.and_self, *]; done) | fail) only [↓e_seq, ↓e_sl, ↓e_part, ↓e_par, ↓e_cupSet, ↓e_ifS, ↓e_ret, ↓e_drop, ↓e_asg, ↓e_B, ↓e_notB, ↓e_andB, ↓e_orB, ↓e_notD, ↓e_andD, ↓e_orD, ↓e_if, ↓e_op, ↓e_cons, ↓e_call, ↓e_icall, ↓e_tup', ↓e_lst, ↓e_neg, ↓e_chain, ↓e_last, ↓e_link, ↓e_un, ↓e_isi', ↓e_lc, ↓e_iseq, ↓e_for, ↓e_run0, ↓e_run1, ↓e_run2, ↓e_run3, ↓e_run4, ↓e_run5, ↓e_run6, ↓e_run7, ↓e_run8, k_sl1, k_sl2, sl_tup, sl_lst, e_noPart, k_part, revA_t, revA_l, k_par, put_nil, put_cons, e_ix0, e_ix1, k_cup0, k_cup1, in_ii2, zip_tt, zip_ll, then_ok, k_seqN, k_seqR, k_seqB, k_seqC, k_ifST, k_ifSF, e_skip, k_ret, e_retN, e_brk, e_cont, k_drop, k_asgName, k_asgTup, optE_some, g_tup, g_name, g_cons, g_nil, Option.bind_some, st0, stS, k_asB, k_notB, k_andBT, k_andBF, k_orBT, k_orBF, k_notD, k_andDT, k_andDF, k_orDT, k_orDF, k_ifT, k_ifF, e_C, k_op1, e_nil, k_c1, k_c2, k_tup, k_lst, k_neg, k_chain, k_link1, k_link2T, k_link2F, k_isi_int, k_isi_bl, k_isi_non, k_isi_str, k_isi_tup, k_isi_lst, D.isInt, D.isBool, D.isStr, D.isTup, D.isLst, k_runR, k_runN, k_lst', k_lc, l_nil, l_cons, optL_some, k_l1T, k_l1F, k_l2, e_yes, w_nil, w_cons, seqD_tup, seqD_lst, k_for, f_nil, f_cons, optF_some, k_f1N, k_f1C, k_f1B, k_f1R, len_tup, len_lst, len_scr, abs_i, int_i, int_b, list_l, list_t, list_s, tup_l, tup_t, max2, min2, sum_l, sum_t, okS_some, ints_nil, ints_cons, bls_nil, bls_cons, okB_some, all_l, any_l, lt_ii, le_ii, gt_ii, ge_ii, isN_non, isN_int, isN_bl, isN_str, isN_tup, isN_lst, notN_non, notN_int, notN_tup, notN_lst, add_ii', sub_ii', add_tt', add_ll', mul_sm, mul_bg, fdiv_sm, fdiv_bg, mod_sm, pow_sm, eq_ii', ne_ii', ix_tup, ix_lst, varS, var0_int, var0_bl, var0_tup, var0_lst, var0_str, var0_non, var0_cup, var0_scr, List.length_cons, List.length_nil, List.map_cons, List.map_nil, List.cons_append, List.nil_append, List.replicate_succ, List.replicate_zero, env0, Option.map_some, Nat.zero_add, Nat.reduceAdd, Nat.reduceSub, Nat.reduceLeDiff, Int.reduceLT, Int.reduceLE, Bool.not_true, Bool.not_false, decide_true, decide_false, natLit, at0, at1, at2, at3, at4, at5, Int.reduceAdd, Int.reduceSub, Int.reduceMul, Int.reducePow, Int.reduceNeg, Int.reduceDiv, Int.reduceMod, Int.reduceToNat, Int.reduceEq, reduceIte, decide_eq_true_eq, List.all_cons, List.all_nil, List.any_cons, List.any_nil, id, Bool.and_true, Bool.true_and, Bool.and_false, Bool.false_and, Bool.or_true, Bool.or_false, Bool.true_or, Bool.false_or, Bool.false_eq_true, f_u_law_cup, ↓e_new1, k_newR, k_new2, e, hv]
    exact ⟨_, _, rfl⟩
theorem law_fraction_ok {top x y : Int} (h : 1 ≤ top ∧ top ≤ 30) : ∃ a n x' y', f_u_law_fraction [.cup, .int top] (some (x, y)) = .ok (pr a n) (some (x', y')) ∧ Fr G a n ∧ (-60 ≤ a ∧ a ≤ 60) ∧ n ≤ 30 := by
  obtain ⟨r, x1, y1, h1, i1, j1⟩ := roll_ok (n := 4 * top + 1) (x := x) (y := y) (by omega)
  obtain ⟨s, x2, y2, h2, i2, j2⟩ := roll_ok (n := top) (x := x1) (y := y1) (by omega)
  obtain ⟨a, n, g, le, _, g0, e1, e2, F⟩ := least_ok (a := r - 2 * top) (b := 1 + s) (by omega) (by omega) (by omega)
  have q1 := mul_le_abs (g := g) (x := a) (B := 61) g0 (by omega) (by omega)
  have q2 := mul_le_abs (g := g) (x := n) (B := 31) g0 (by omega) (by omega)
  refine ⟨a, n, x2, y2, ?_, F, by omega, by omega⟩
  clear e1 e2
  simp (disch := first | omega | exact Nat.le_of_ble_eq_true rfl | assumption | (simp only [List.length_append, List.length_cons, List.length_nil, List.length_map] <;> omega) | exact rfl | decide | (simp only [pl_int', pl_bl', pl_non', pl1l, pl1t, pl2l, pl2t, pl3l, pl3t, pl4l, pl4t, pl5l, pl5t, pl6l, pl6t, pl7l, pl7t, pl8l, pl8t, pl9l, pl9t, List.all_cons, List.all_nil, List.length_cons, List.length_nil, Nat.reduceAdd, Nat.reduceLeDiff, decide_true, Bool.and_true, Bool.true_and, Bool.and_self, *]; done) | fail) only [↓e_seq, ↓e_sl, ↓e_part, ↓e_par, ↓e_cupSet, ↓e_ifS, ↓e_ret, ↓e_drop, ↓e_asg, ↓e_B, ↓e_notB, ↓e_andB, ↓e_orB, ↓e_notD, ↓e_andD, ↓e_orD, ↓e_if, ↓e_op, ↓e_cons, ↓e_call, ↓e_icall, ↓e_tup', ↓e_lst, ↓e_neg, ↓e_chain, ↓e_last, ↓e_link, ↓e_un, ↓e_isi', ↓e_lc, ↓e_iseq, ↓e_for, ↓e_run0, ↓e_run1, ↓e_run2, ↓e_run3, ↓e_run4, ↓e_run5, ↓e_run6, ↓e_run7, ↓e_run8, k_sl1, k_sl2, sl_tup, sl_lst, e_noPart, k_part, revA_t, revA_l, k_par, put_nil, put_cons, e_ix0, e_ix1, k_cup0, k_cup1, in_ii2, zip_tt, zip_ll, then_ok, k_seqN, k_seqR, k_seqB, k_seqC, k_ifST, k_ifSF, e_skip, k_ret, e_retN, e_brk, e_cont, k_drop, k_asgName, k_asgTup, optE_some, g_tup, g_name, g_cons, g_nil, Option.bind_some, st0, stS, k_asB, k_notB, k_andBT, k_andBF, k_orBT, k_orBF, k_notD, k_andDT, k_andDF, k_orDT, k_orDF, k_ifT, k_ifF, e_C, k_op1, e_nil, k_c1, k_c2, k_tup, k_lst, k_neg, k_chain, k_link1, k_link2T, k_link2F, k_isi_int, k_isi_bl, k_isi_non, k_isi_str, k_isi_tup, k_isi_lst, D.isInt, D.isBool, D.isStr, D.isTup, D.isLst, k_runR, k_runN, k_lst', k_lc, l_nil, l_cons, optL_some, k_l1T, k_l1F, k_l2, e_yes, w_nil, w_cons, seqD_tup, seqD_lst, k_for, f_nil, f_cons, optF_some, k_f1N, k_f1C, k_f1B, k_f1R, len_tup, len_lst, len_scr, abs_i, int_i, int_b, list_l, list_t, list_s, tup_l, tup_t, max2, min2, sum_l, sum_t, okS_some, ints_nil, ints_cons, bls_nil, bls_cons, okB_some, all_l, any_l, lt_ii, le_ii, gt_ii, ge_ii, isN_non, isN_int, isN_bl, isN_str, isN_tup, isN_lst, notN_non, notN_int, notN_tup, notN_lst, add_ii', sub_ii', add_tt', add_ll', mul_sm, mul_bg, fdiv_sm, fdiv_bg, mod_sm, pow_sm, eq_ii', ne_ii', ix_tup, ix_lst, varS, var0_int, var0_bl, var0_tup, var0_lst, var0_str, var0_non, var0_cup, var0_scr, List.length_cons, List.length_nil, List.map_cons, List.map_nil, List.cons_append, List.nil_append, List.replicate_succ, List.replicate_zero, env0, Option.map_some, Nat.zero_add, Nat.reduceAdd, Nat.reduceSub, Nat.reduceLeDiff, Int.reduceLT, Int.reduceLE, Bool.not_true, Bool.not_false, decide_true, decide_false, natLit, at0, at1, at2, at3, at4, at5, Int.reduceAdd, Int.reduceSub, Int.reduceMul, Int.reducePow, Int.reduceNeg, Int.reduceDiv, Int.reduceMod, Int.reduceToNat, Int.reduceEq, reduceIte, decide_eq_true_eq, List.all_cons, List.all_nil, List.any_cons, List.any_nil, id, Bool.and_true, Bool.true_and, Bool.and_false, Bool.false_and, Bool.or_true, Bool.or_false, Bool.true_or, Bool.false_or, Bool.false_eq_true, f_u_law_fraction, b_u_law_fraction, h1, h2, le]
theorem lo_of {a n A N : Int} (F : Fr G a n) (h : -A ≤ a ∧ a ≤ A) (h' : n ≤ N) (hA : A ≤ 1000000000) (hN : N ≤ 1000000) : Lo a n := ⟨F.n1, by omega, by omega, by omega⟩
theorem turn_ok {top x y : Int} (h : 1 ≤ top ∧ top ≤ 30) : ∃ o5' o6' o7' x' y', ∀ o0 o2 o3 o5 o6 o7 o8 o9 o10 o11 o12 : Option D,
    (mSeq (mPar [5, 6] (mCons (mCall f_u_law_fraction (mCons (mVar 1) (mCons (mVar 4) (mNil)))) (mCons (mCall f_u_law_fraction (mCons (mVar 1) (mCons (mVar 4) (mNil)))) (mNil)))) (mSeq (mIfS (mOrB (mNotB (mB (mCall f_u_law_right (mCons (mVar 1) (mCons (mVar 5) (mCons (mVar 6) (mNil))))))) (mOrB (mNotB (mB (mCall f_u_law_small_right (mCons (mVar 1) (mCons (mVar 5) (mCons (mOp addD (mC (.int 1)) (mCall f_u_law_roll (mCons (mVar 1) (mCons (mC (.int 40)) (mNil))))) (mNil))))))) (mNotB (mB (mCall f_u_law_parents_right (mCons (mVar 5) (mNil))))))) (mRet (mC (.bl false))) (mSkip)) (mSeq (mAsg (mgName 7) (mCall f_u_law_some (mCons (mVar 1) (mCons (mOp addD (mCall listF (mCons (mCall f_ford_neighbours (mCons (mVar 5) (mCons (mC (.int 60)) (mNil)))) (mNil))) (mLst (mCons (mVar 6) (mNil)))) (mNil))))) (mIfS (mOrB (mNotB (mB (mCall f_u_law_right (mCons (mVar 1) (mCons (mVar 5) (mCons (mVar 7) (mNil))))))) (mNotB (mB (mCall f_u_law_parents_right (mCons (mVar 7) (mNil)))))) (mRet (mC (.bl false))) (mSkip)))))
      [o0, some .cup, o2, o3, some (.int top), o5, o6, o7, o8, o9, o10, o11, o12] (some (x, y)) = .ok (.nx [o0, some .cup, o2, o3, some (.int top), o5', o6', o7', o8, o9, o10, o11, o12]) (some (x', y')) := by
  obtain ⟨a, n, x1, y1, h1, F, A1, N1⟩ := law_fraction_ok (x := x) (y := y) h
  obtain ⟨u, m, x2, y2, h2, F2, A2, N2⟩ := law_fraction_ok (x := x1) (y := y1) h
  obtain ⟨r, x3, y3, h3, i3, j3⟩ := roll_ok (n := 40) (x := x2) (y := y2) (by omega)
  have hn1 := F.n1
  have L := lo_of F A1 N1 (by decide) (by decide)
  have L2 := lo_of F2 A2 N2 (by decide) (by decide)
  have sr := fun c => small_right_ok (c := c) (most := 1 + r) (x := .cup) (fun _ _ => rfl) F (by omega) (by omega) (by omega)
  obtain ⟨l, mm, k, j, hn, l1, l2, m1, m2, e, e', _⟩ := neigh_ok (most := 60) (c := some (x3, y3)) F (by omega) (by decide)
  have hlen := nb_len (a := a) (b := n) (l := l) (m := mm) (most := 60) hn1 l1 m1 (by decide)
  have len1 : ((nb a n 60 l mm).map dp ++ [pr u m]).length ≤ 2001 := by rw [List.length_append, List.length_map]; simp; omega
  have len2 : ((nb a n 60 l mm).map dp).length + [pr u m].length ≤ 1000000 := by rw [List.length_map]; simp; omega
  obtain ⟨d, x4, y4, h4, hd⟩ := some_ok (xs := (nb a n 60 l mm).map dp ++ [pr u m]) (x := x3) (y := y3) ⟨by simp, by omega⟩
  have hd : ∃ v w, d = pr v w ∧ Fr G v w ∧ Lo v w := by
    rcases List.mem_append.mp hd with hd | hd
    · obtain ⟨p, hp, rfl⟩ := List.mem_map.mp hd
      have hmem := (mem_nb (p := p) (most := 60) hn1 l1 l2 m1 m2 e e').mp hp
      have q := near_fr (most := 60) (p := p) F (B := 60) (by decide) (by decide) A1 (by decide) hmem
      exact ⟨p.1, p.2, rfl, q.1, ⟨hmem.1, by omega, by omega, by omega⟩⟩
    · have : d = pr u m := by simpa using hd
      exact ⟨u, m, this, F2, L2⟩
  obtain ⟨v, w, rfl, F3, L3⟩ := hd
  refine ⟨some (pr a n), some (pr u m), some (pr v w), x4, y4, fun o0 o2 o3 o5 o6 o7 o8 o9 o10 o11 o12 => ?_⟩
  simp (disch := first | omega | exact Nat.le_of_ble_eq_true rfl | assumption | (simp only [List.length_append, List.length_cons, List.length_nil, List.length_map] <;> omega) | exact rfl | decide | (simp only [pl_int', pl_bl', pl_non', pl1l, pl1t, pl2l, pl2t, pl3l, pl3t, pl4l, pl4t, pl5l, pl5t, pl6l, pl6t, pl7l, pl7t, pl8l, pl8t, pl9l, pl9t, List.all_cons, List.all_nil, List.length_cons, List.length_nil, Nat.reduceAdd, Nat.reduceLeDiff, decide_true, Bool.and_true, Bool.true_and, Bool.and_self, *]; done) | fail) only [↓e_seq, ↓e_sl, ↓e_part, ↓e_par, ↓e_cupSet, ↓e_ifS, ↓e_ret, ↓e_drop, ↓e_asg, ↓e_B, ↓e_notB, ↓e_andB, ↓e_orB, ↓e_notD, ↓e_andD, ↓e_orD, ↓e_if, ↓e_op, ↓e_cons, ↓e_call, ↓e_icall, ↓e_tup', ↓e_lst, ↓e_neg, ↓e_chain, ↓e_last, ↓e_link, ↓e_un, ↓e_isi', ↓e_lc, ↓e_iseq, ↓e_for, ↓e_run0, ↓e_run1, ↓e_run2, ↓e_run3, ↓e_run4, ↓e_run5, ↓e_run6, ↓e_run7, ↓e_run8, k_sl1, k_sl2, sl_tup, sl_lst, e_noPart, k_part, revA_t, revA_l, k_par, put_nil, put_cons, e_ix0, e_ix1, k_cup0, k_cup1, in_ii2, zip_tt, zip_ll, then_ok, k_seqN, k_seqR, k_seqB, k_seqC, k_ifST, k_ifSF, e_skip, k_ret, e_retN, e_brk, e_cont, k_drop, k_asgName, k_asgTup, optE_some, g_tup, g_name, g_cons, g_nil, Option.bind_some, st0, stS, k_asB, k_notB, k_andBT, k_andBF, k_orBT, k_orBF, k_notD, k_andDT, k_andDF, k_orDT, k_orDF, k_ifT, k_ifF, e_C, k_op1, e_nil, k_c1, k_c2, k_tup, k_lst, k_neg, k_chain, k_link1, k_link2T, k_link2F, k_isi_int, k_isi_bl, k_isi_non, k_isi_str, k_isi_tup, k_isi_lst, D.isInt, D.isBool, D.isStr, D.isTup, D.isLst, k_runR, k_runN, k_lst', k_lc, l_nil, l_cons, optL_some, k_l1T, k_l1F, k_l2, e_yes, w_nil, w_cons, seqD_tup, seqD_lst, k_for, f_nil, f_cons, optF_some, k_f1N, k_f1C, k_f1B, k_f1R, len_tup, len_lst, len_scr, abs_i, int_i, int_b, list_l, list_t, list_s, tup_l, tup_t, max2, min2, sum_l, sum_t, okS_some, ints_nil, ints_cons, bls_nil, bls_cons, okB_some, all_l, any_l, lt_ii, le_ii, gt_ii, ge_ii, isN_non, isN_int, isN_bl, isN_str, isN_tup, isN_lst, notN_non, notN_int, notN_tup, notN_lst, add_ii', sub_ii', add_tt', add_ll', mul_sm, mul_bg, fdiv_sm, fdiv_bg, mod_sm, pow_sm, eq_ii', ne_ii', ix_tup, ix_lst, varS, var0_int, var0_bl, var0_tup, var0_lst, var0_str, var0_non, var0_cup, var0_scr, List.length_cons, List.length_nil, List.map_cons, List.map_nil, List.cons_append, List.nil_append, List.replicate_succ, List.replicate_zero, env0, Option.map_some, Nat.zero_add, Nat.reduceAdd, Nat.reduceSub, Nat.reduceLeDiff, Int.reduceLT, Int.reduceLE, Bool.not_true, Bool.not_false, decide_true, decide_false, natLit, at0, at1, at2, at3, at4, at5, Int.reduceAdd, Int.reduceSub, Int.reduceMul, Int.reducePow, Int.reduceNeg, Int.reduceDiv, Int.reduceMod, Int.reduceToNat, Int.reduceEq, reduceIte, decide_eq_true_eq, List.all_cons, List.all_nil, List.any_cons, List.any_nil, id, Bool.and_true, Bool.true_and, Bool.and_false, Bool.false_and, Bool.or_true, Bool.or_false, Bool.true_or, Bool.false_or, Bool.false_eq_true, h1, h2, h3, right_fr F F2 L L2, sr, parents_right_ok F, hn, h4, right_fr F F3 L L3, parents_right_ok F3]
theorem loop_ok {x y : Int} : ∃ o5' o6' o7' x' y', ∀ o0 o2 o3 : Option D, forL (mgName 4) (mSeq (mPar [5, 6] (mCons (mCall f_u_law_fraction (mCons (mVar 1) (mCons (mVar 4) (mNil)))) (mCons (mCall f_u_law_fraction (mCons (mVar 1) (mCons (mVar 4) (mNil)))) (mNil)))) (mSeq (mIfS (mOrB (mNotB (mB (mCall f_u_law_right (mCons (mVar 1) (mCons (mVar 5) (mCons (mVar 6) (mNil))))))) (mOrB (mNotB (mB (mCall f_u_law_small_right (mCons (mVar 1) (mCons (mVar 5) (mCons (mOp addD (mC (.int 1)) (mCall f_u_law_roll (mCons (mVar 1) (mCons (mC (.int 40)) (mNil))))) (mNil))))))) (mNotB (mB (mCall f_u_law_parents_right (mCons (mVar 5) (mNil))))))) (mRet (mC (.bl false))) (mSkip)) (mSeq (mAsg (mgName 7) (mCall f_u_law_some (mCons (mVar 1) (mCons (mOp addD (mCall listF (mCons (mCall f_ford_neighbours (mCons (mVar 5) (mCons (mC (.int 60)) (mNil)))) (mNil))) (mLst (mCons (mVar 6) (mNil)))) (mNil))))) (mIfS (mOrB (mNotB (mB (mCall f_u_law_right (mCons (mVar 1) (mCons (mVar 5) (mCons (mVar 7) (mNil))))))) (mNotB (mB (mCall f_u_law_parents_right (mCons (mVar 7) (mNil)))))) (mRet (mC (.bl false))) (mSkip))))) [.int 2, .int 5, .int 12, .int 30] [o0, some .cup, o2, o3, none, none, none, none, none, none, none, none, none] (some (x, y)) = .ok (.nx [o0, some .cup, o2, o3, some (.int 30), o5', o6', o7', none, none, none, none, none]) (some (x', y')) := by
  obtain ⟨p5, p6, p7, x1, y1, g1⟩ := turn_ok (top := 2) (x := x) (y := y) (by decide)
  obtain ⟨q5, q6, q7, x2, y2, g2⟩ := turn_ok (top := 5) (x := x1) (y := y1) (by decide)
  obtain ⟨r5, r6, r7, x3, y3, g3⟩ := turn_ok (top := 12) (x := x2) (y := y2) (by decide)
  obtain ⟨s5, s6, s7, x4, y4, g4⟩ := turn_ok (top := 30) (x := x3) (y := y3) (by decide)
  refine ⟨s5, s6, s7, x4, y4, fun o0 o2 o3 => ?_⟩
  simp only [f_cons, f_nil, g_name, stS, st0, optF_some, g1, g2, g3, g4, then_ok, k_f1N]
theorem one_fr {a : Int} (h : -G < a ∧ a < G) : Fr G a 1 := ⟨by decide, by decide, h.1, h.2, by rw [Int.gcd_one_right]⟩
theorem neigh_one {a most : Int} {c : Cup} (h : -G < a ∧ a < G) (hm : 1 ≤ most ∧ most ≤ 1000) : f_ford_neighbours [pr a 1, .int most] c = .ok (.tup ((nb a 1 most 1 1).map dp)) c := by
  obtain ⟨l, m, k, j, hn, l1, l2, m1, m2, e, e', _⟩ := neigh_ok (most := most) (c := c) (one_fr h) (by decide) hm
  have : l = 1 := by omega
  have : m = 1 := by omega
  subst_vars
  exact hn
theorem told_ok {c : Cup} : f_ford_parents [pr 2 5] c = .ok (.tup [pr 1 3, pr 1 2]) c ∧ f_ford_parents [pr (-1) 2] c = .ok (.tup [pr (-1) 1, pr 0 1]) c ∧ f_ford_neighbours [pr 1 2, .int 5] c = .ok (.tup [pr 0 1, pr 1 3, pr 2 5, pr 3 5, pr 2 3, pr 1 1]) c ∧ f_ford_neighbours [pr 0 1, .int 2] c = .ok (.tup [pr (-1) 1, pr (-1) 2, pr 1 2, pr 1 1]) c := by
  refine ⟨?_, ?_, ?_, ?_⟩
  · have F : Fr G 2 5 := by constructor <;> decide
    obtain ⟨l, m, k, j, hl, l1, l2, m1, m2, e, e', lt⟩ := lasts_ok (c := c) F
    have : l = 3 := by omega
    have : m = 2 := by omega
    have : k = 1 := by omega
    have : j = 1 := by omega
    subst_vars
    exact parents_val F (by decide) hl l1 l2 m1 m2 e e'
  · have F : Fr G (-1) 2 := by constructor <;> decide
    obtain ⟨l, m, k, j, hl, l1, l2, m1, m2, e, e', lt⟩ := lasts_ok (c := c) F
    have : l = 1 := by omega
    have : m = 1 := by omega
    have : k = -1 := by omega
    have : j = 0 := by omega
    subst_vars
    exact parents_val F (by decide) hl l1 l2 m1 m2 e e'
  · have F : Fr G 1 2 := by constructor <;> decide
    obtain ⟨l, m, k, j, hn, l1, l2, m1, m2, e, e', _⟩ := neigh_ok (most := 5) (c := c) F (by decide) (by decide)
    have : l = 1 := by omega
    have : m = 1 := by omega
    subst_vars
    exact hn
  · exact neigh_one (by decide) (by decide)
theorem nb_row {w : Int} : (nb w 1 3 1 1).map dp = [pr (w * 1 - 1) 1, pr (w * 2 - 1) 2, pr (w * 3 - 1) 3, pr (w * 3 + 1) 3, pr (w * 2 + 1) 2, pr (w * 1 + 1) 1] := by
  have e : sz 1 3 1 = 3 := by decide +kernel
  simp [nb, nbL, nbM, e, dp, List.range_succ]
theorem nb_many {w : Int} : (((nb w 1 1000 1 1).map dp).length : Int) = 2000 := by
  have e : sz 1 1000 1 = 1000 := by decide +kernel
  simp [nb, nbL, nbM, e]
theorem low25 {c : Cup} : f_lowest [.int 2, .int 5] c = .ok (pr 2 5) c := lowest_self (by constructor <;> decide)
theorem low46 {c : Cup} : f_lowest [.int 4, .int 6] c = .ok (pr 2 3) c := by
  have q := lowest_twice (c := c) (a := 2) (b := 3) (by constructor <;> decide) (by constructor <;> decide)
  rwa [show (2 + 2 : Int) = 4 from rfl, show (3 + 3 : Int) = 6 from rfl] at q
section
variable {o0 : Option D} {c : Cup}
theorem seg0 : (mAsg (mgName 2) (mLst (mCons (mCall f_do_ford_touch (mCons (mTup (mCons (mC (.int 1)) (mCons (mC (.int 2)) (mNil)))) (mCons (mTup (mCons (mC (.int 1)) (mCons (mC (.int 3)) (mNil)))) (mNil)))) (mCons (mCall f_do_ford_touch (mCons (mTup (mCons (mC (.int 1)) (mCons (mC (.int 2)) (mNil)))) (mCons (mTup (mCons (mC (.int 3)) (mCons (mC (.int 4)) (mNil)))) (mNil)))) (mCons (mCall f_do_ford_touch (mCons (mTup (mCons (mC (.int 1)) (mCons (mC (.int 2)) (mNil)))) (mCons (mTup (mCons (mC (.int 1)) (mCons (mC (.int 2)) (mNil)))) (mNil)))) (mCons (mCall f_ford_between (mCons (mTup (mCons (mC (.int 1)) (mCons (mC (.int 2)) (mNil)))) (mCons (mTup (mCons (mC (.int 1)) (mCons (mC (.int 3)) (mNil)))) (mNil)))) (mNil))))))) [o0, some .cup, none, none, none, none, none, none, none, none, none, none, none] c = .ok (.nx [o0, some .cup, some (D.lst [D.bl true, D.bl false, D.bl false, pr 2 5]), none, none, none, none, none, none, none, none, none, none]) c := by
  have F12 : Fr G 1 2 := by constructor <;> decide
  have F13 : Fr G 1 3 := by constructor <;> decide
  have F34 : Fr G 3 4 := by constructor <;> decide
  have b1 : toB 1 2 1 3 = true := by decide
  have b2 : toB 1 2 3 4 = false := by decide
  have b3 : toB 1 2 1 2 = false := by decide
  have l1 := low25 (c := c)
  have l2 := low46 (c := c)
  have d1 := do_touch_ok (c := c) F12 F13
  have d2 := do_touch_ok (c := c) F12 F34
  have d3 := do_touch_ok (c := c) F12 F12
  have d4 := needs_fr (c := c) F12 F13
  have d5 := needs_fr (c := c) F12 F34
  have d6 := touching_ok (c := c) F12 F13
  clear F12 F13 F34
  simp (disch := first | omega | exact Nat.le_of_ble_eq_true rfl | assumption | (simp only [List.length_append, List.length_cons, List.length_nil, List.length_map] <;> omega) | exact rfl | decide | (simp only [pl_int', pl_bl', pl_non', pl1l, pl1t, pl2l, pl2t, pl3l, pl3t, pl4l, pl4t, pl5l, pl5t, pl6l, pl6t, pl7l, pl7t, pl8l, pl8t, pl9l, pl9t, List.all_cons, List.all_nil, List.length_cons, List.length_nil, Nat.reduceAdd, Nat.reduceLeDiff, decide_true, Bool.and_true, Bool.true_and, Bool.and_self, *]; done) | fail) only [↓e_seq, ↓e_sl, ↓e_part, ↓e_par, ↓e_cupSet, ↓e_ifS, ↓e_ret, ↓e_drop, ↓e_asg, ↓e_B, ↓e_notB, ↓e_andB, ↓e_orB, ↓e_notD, ↓e_andD, ↓e_orD, ↓e_if, ↓e_op, ↓e_cons, ↓e_call, ↓e_icall, ↓e_tup', ↓e_lst, ↓e_neg, ↓e_chain, ↓e_last, ↓e_link, ↓e_un, ↓e_isi', ↓e_lc, ↓e_iseq, ↓e_for, ↓e_run0, ↓e_run1, ↓e_run2, ↓e_run3, ↓e_run4, ↓e_run5, ↓e_run6, ↓e_run7, ↓e_run8, k_sl1, k_sl2, sl_tup, sl_lst, e_noPart, k_part, revA_t, revA_l, k_par, put_nil, put_cons, e_ix0, e_ix1, k_cup0, k_cup1, in_ii2, zip_tt, zip_ll, then_ok, k_seqN, k_seqR, k_seqB, k_seqC, k_ifST, k_ifSF, e_skip, k_ret, e_retN, e_brk, e_cont, k_drop, k_asgName, k_asgTup, optE_some, g_tup, g_name, g_cons, g_nil, Option.bind_some, st0, stS, k_asB, k_notB, k_andBT, k_andBF, k_orBT, k_orBF, k_notD, k_andDT, k_andDF, k_orDT, k_orDF, k_ifT, k_ifF, e_C, k_op1, e_nil, k_c1, k_c2, k_tup, k_lst, k_neg, k_chain, k_link1, k_link2T, k_link2F, k_isi_int, k_isi_bl, k_isi_non, k_isi_str, k_isi_tup, k_isi_lst, D.isInt, D.isBool, D.isStr, D.isTup, D.isLst, k_runR, k_runN, k_lst', k_lc, l_nil, l_cons, optL_some, k_l1T, k_l1F, k_l2, e_yes, w_nil, w_cons, seqD_tup, seqD_lst, k_for, f_nil, f_cons, optF_some, k_f1N, k_f1C, k_f1B, k_f1R, len_tup, len_lst, len_scr, abs_i, int_i, int_b, list_l, list_t, list_s, tup_l, tup_t, max2, min2, sum_l, sum_t, okS_some, ints_nil, ints_cons, bls_nil, bls_cons, okB_some, all_l, any_l, lt_ii, le_ii, gt_ii, ge_ii, isN_non, isN_int, isN_bl, isN_str, isN_tup, isN_lst, notN_non, notN_int, notN_tup, notN_lst, add_ii', sub_ii', add_tt', add_ll', mul_sm, mul_bg, fdiv_sm, fdiv_bg, mod_sm, pow_sm, eq_ii', ne_ii', ix_tup, ix_lst, varS, var0_int, var0_bl, var0_tup, var0_lst, var0_str, var0_non, var0_cup, var0_scr, List.length_cons, List.length_nil, List.map_cons, List.map_nil, List.cons_append, List.nil_append, List.replicate_succ, List.replicate_zero, env0, Option.map_some, Nat.zero_add, Nat.reduceAdd, Nat.reduceSub, Nat.reduceLeDiff, Int.reduceLT, Int.reduceLE, Bool.not_true, Bool.not_false, decide_true, decide_false, natLit, at0, at1, at2, at3, at4, at5, Int.reduceAdd, Int.reduceSub, Int.reduceMul, Int.reducePow, Int.reduceNeg, Int.reduceDiv, Int.reduceMod, Int.reduceToNat, Int.reduceEq, reduceIte, decide_eq_true_eq, List.all_cons, List.all_nil, List.any_cons, List.any_nil, id, Bool.and_true, Bool.true_and, Bool.and_false, Bool.false_and, Bool.or_true, Bool.or_false, Bool.true_or, Bool.false_or, Bool.false_eq_true, d1, d2, d3, b1, b2, b3, f_ford_between, b_ford_between, d4, d5, f_between_in, b_between_in, l1, l2, f_ford_bends, b_ford_bends, d6]
theorem seg1 : (mAsg (mgName 2) (mOp addD (mVar 2) (mLst (mCons (mCall f_ford_between (mCons (mTup (mCons (mC (.int 1)) (mCons (mC (.int 2)) (mNil)))) (mCons (mTup (mCons (mC (.int 3)) (mCons (mC (.int 4)) (mNil)))) (mNil)))) (mCons (mCall f_ford_bends (mCons (mTup (mCons (mC (.int 1)) (mCons (mC (.int 2)) (mNil)))) (mCons (mTup (mCons (mC (.int 1)) (mCons (mC (.int 3)) (mNil)))) (mNil)))) (mNil)))))) [o0, some .cup, some (D.lst [D.bl true, D.bl false, D.bl false, pr 2 5]), none, none, none, none, none, none, none, none, none, none] c = .ok (.nx [o0, some .cup, some (D.lst [D.bl true, D.bl false, D.bl false, pr 2 5, pr 2 3, .tup [.int 0, .int 8, .int 18, .int 50]]), none, none, none, none, none, none, none, none, none, none]) c := by
  have F12 : Fr G 1 2 := by constructor <;> decide
  have F13 : Fr G 1 3 := by constructor <;> decide
  have F34 : Fr G 3 4 := by constructor <;> decide
  have b1 : toB 1 2 1 3 = true := by decide
  have b2 : toB 1 2 3 4 = false := by decide
  have b3 : toB 1 2 1 2 = false := by decide
  have l1 := low25 (c := c)
  have l2 := low46 (c := c)
  have d1 := do_touch_ok (c := c) F12 F13
  have d2 := do_touch_ok (c := c) F12 F34
  have d3 := do_touch_ok (c := c) F12 F12
  have d4 := needs_fr (c := c) F12 F13
  have d5 := needs_fr (c := c) F12 F34
  have d6 := touching_ok (c := c) F12 F13
  clear F12 F13 F34
  simp (disch := first | omega | exact Nat.le_of_ble_eq_true rfl | assumption | (simp only [List.length_append, List.length_cons, List.length_nil, List.length_map] <;> omega) | exact rfl | decide | (simp only [pl_int', pl_bl', pl_non', pl1l, pl1t, pl2l, pl2t, pl3l, pl3t, pl4l, pl4t, pl5l, pl5t, pl6l, pl6t, pl7l, pl7t, pl8l, pl8t, pl9l, pl9t, List.all_cons, List.all_nil, List.length_cons, List.length_nil, Nat.reduceAdd, Nat.reduceLeDiff, decide_true, Bool.and_true, Bool.true_and, Bool.and_self, *]; done) | fail) only [↓e_seq, ↓e_sl, ↓e_part, ↓e_par, ↓e_cupSet, ↓e_ifS, ↓e_ret, ↓e_drop, ↓e_asg, ↓e_B, ↓e_notB, ↓e_andB, ↓e_orB, ↓e_notD, ↓e_andD, ↓e_orD, ↓e_if, ↓e_op, ↓e_cons, ↓e_call, ↓e_icall, ↓e_tup', ↓e_lst, ↓e_neg, ↓e_chain, ↓e_last, ↓e_link, ↓e_un, ↓e_isi', ↓e_lc, ↓e_iseq, ↓e_for, ↓e_run0, ↓e_run1, ↓e_run2, ↓e_run3, ↓e_run4, ↓e_run5, ↓e_run6, ↓e_run7, ↓e_run8, k_sl1, k_sl2, sl_tup, sl_lst, e_noPart, k_part, revA_t, revA_l, k_par, put_nil, put_cons, e_ix0, e_ix1, k_cup0, k_cup1, in_ii2, zip_tt, zip_ll, then_ok, k_seqN, k_seqR, k_seqB, k_seqC, k_ifST, k_ifSF, e_skip, k_ret, e_retN, e_brk, e_cont, k_drop, k_asgName, k_asgTup, optE_some, g_tup, g_name, g_cons, g_nil, Option.bind_some, st0, stS, k_asB, k_notB, k_andBT, k_andBF, k_orBT, k_orBF, k_notD, k_andDT, k_andDF, k_orDT, k_orDF, k_ifT, k_ifF, e_C, k_op1, e_nil, k_c1, k_c2, k_tup, k_lst, k_neg, k_chain, k_link1, k_link2T, k_link2F, k_isi_int, k_isi_bl, k_isi_non, k_isi_str, k_isi_tup, k_isi_lst, D.isInt, D.isBool, D.isStr, D.isTup, D.isLst, k_runR, k_runN, k_lst', k_lc, l_nil, l_cons, optL_some, k_l1T, k_l1F, k_l2, e_yes, w_nil, w_cons, seqD_tup, seqD_lst, k_for, f_nil, f_cons, optF_some, k_f1N, k_f1C, k_f1B, k_f1R, len_tup, len_lst, len_scr, abs_i, int_i, int_b, list_l, list_t, list_s, tup_l, tup_t, max2, min2, sum_l, sum_t, okS_some, ints_nil, ints_cons, bls_nil, bls_cons, okB_some, all_l, any_l, lt_ii, le_ii, gt_ii, ge_ii, isN_non, isN_int, isN_bl, isN_str, isN_tup, isN_lst, notN_non, notN_int, notN_tup, notN_lst, add_ii', sub_ii', add_tt', add_ll', mul_sm, mul_bg, fdiv_sm, fdiv_bg, mod_sm, pow_sm, eq_ii', ne_ii', ix_tup, ix_lst, varS, var0_int, var0_bl, var0_tup, var0_lst, var0_str, var0_non, var0_cup, var0_scr, List.length_cons, List.length_nil, List.map_cons, List.map_nil, List.cons_append, List.nil_append, List.replicate_succ, List.replicate_zero, env0, Option.map_some, Nat.zero_add, Nat.reduceAdd, Nat.reduceSub, Nat.reduceLeDiff, Int.reduceLT, Int.reduceLE, Bool.not_true, Bool.not_false, decide_true, decide_false, natLit, at0, at1, at2, at3, at4, at5, Int.reduceAdd, Int.reduceSub, Int.reduceMul, Int.reducePow, Int.reduceNeg, Int.reduceDiv, Int.reduceMod, Int.reduceToNat, Int.reduceEq, reduceIte, decide_eq_true_eq, List.all_cons, List.all_nil, List.any_cons, List.any_nil, id, Bool.and_true, Bool.true_and, Bool.and_false, Bool.false_and, Bool.or_true, Bool.or_false, Bool.true_or, Bool.false_or, Bool.false_eq_true, d1, d2, d3, b1, b2, b3, f_ford_between, b_ford_between, d4, d5, f_between_in, b_between_in, l1, l2, f_ford_bends, b_ford_bends, d6]
theorem seg2 : (mIfS (mNotB (mB (mCall f_u_law_like (mCons (mVar 2) (mCons (mLst (mCons (mC (.bl true)) (mCons (mC (.bl false)) (mCons (mC (.bl false)) (mCons (mTup (mCons (mC (.int 2)) (mCons (mC (.int 5)) (mNil)))) (mCons (mTup (mCons (mC (.int 2)) (mCons (mC (.int 3)) (mNil)))) (mCons (mTup (mCons (mC (.int 0)) (mCons (mC (.int 8)) (mCons (mC (.int 18)) (mCons (mC (.int 50)) (mNil)))))) (mNil)))))))) (mNil)))))) (mRet (mC (.bl false))) (mSkip)) [o0, some .cup, some (D.lst [D.bl true, D.bl false, D.bl false, pr 2 5, pr 2 3, .tup [.int 0, .int 8, .int 18, .int 50]]), none, none, none, none, none, none, none, none, none, none] c = .ok (.nx [o0, some .cup, some (D.lst [D.bl true, D.bl false, D.bl false, pr 2 5, pr 2 3, .tup [.int 0, .int 8, .int 18, .int 50]]), none, none, none, none, none, none, none, none, none, none]) c := by
  have p : (D.lst [D.bl true, D.bl false, D.bl false, pr 2 5, pr 2 3, .tup [.int 0, .int 8, .int 18, .int 50]]).pl 8 = true := by decide +kernel
  simp (disch := first | omega | exact Nat.le_of_ble_eq_true rfl | assumption | (simp only [List.length_append, List.length_cons, List.length_nil, List.length_map] <;> omega) | exact rfl | decide | (simp only [pl_int', pl_bl', pl_non', pl1l, pl1t, pl2l, pl2t, pl3l, pl3t, pl4l, pl4t, pl5l, pl5t, pl6l, pl6t, pl7l, pl7t, pl8l, pl8t, pl9l, pl9t, List.all_cons, List.all_nil, List.length_cons, List.length_nil, Nat.reduceAdd, Nat.reduceLeDiff, decide_true, Bool.and_true, Bool.true_and, Bool.and_self, *]; done) | fail) only [↓e_seq, ↓e_sl, ↓e_part, ↓e_par, ↓e_cupSet, ↓e_ifS, ↓e_ret, ↓e_drop, ↓e_asg, ↓e_B, ↓e_notB, ↓e_andB, ↓e_orB, ↓e_notD, ↓e_andD, ↓e_orD, ↓e_if, ↓e_op, ↓e_cons, ↓e_call, ↓e_icall, ↓e_tup', ↓e_lst, ↓e_neg, ↓e_chain, ↓e_last, ↓e_link, ↓e_un, ↓e_isi', ↓e_lc, ↓e_iseq, ↓e_for, ↓e_run0, ↓e_run1, ↓e_run2, ↓e_run3, ↓e_run4, ↓e_run5, ↓e_run6, ↓e_run7, ↓e_run8, k_sl1, k_sl2, sl_tup, sl_lst, e_noPart, k_part, revA_t, revA_l, k_par, put_nil, put_cons, e_ix0, e_ix1, k_cup0, k_cup1, in_ii2, zip_tt, zip_ll, then_ok, k_seqN, k_seqR, k_seqB, k_seqC, k_ifST, k_ifSF, e_skip, k_ret, e_retN, e_brk, e_cont, k_drop, k_asgName, k_asgTup, optE_some, g_tup, g_name, g_cons, g_nil, Option.bind_some, st0, stS, k_asB, k_notB, k_andBT, k_andBF, k_orBT, k_orBF, k_notD, k_andDT, k_andDF, k_orDT, k_orDF, k_ifT, k_ifF, e_C, k_op1, e_nil, k_c1, k_c2, k_tup, k_lst, k_neg, k_chain, k_link1, k_link2T, k_link2F, k_isi_int, k_isi_bl, k_isi_non, k_isi_str, k_isi_tup, k_isi_lst, D.isInt, D.isBool, D.isStr, D.isTup, D.isLst, k_runR, k_runN, k_lst', k_lc, l_nil, l_cons, optL_some, k_l1T, k_l1F, k_l2, e_yes, w_nil, w_cons, seqD_tup, seqD_lst, k_for, f_nil, f_cons, optF_some, k_f1N, k_f1C, k_f1B, k_f1R, len_tup, len_lst, len_scr, abs_i, int_i, int_b, list_l, list_t, list_s, tup_l, tup_t, max2, min2, sum_l, sum_t, okS_some, ints_nil, ints_cons, bls_nil, bls_cons, okB_some, all_l, any_l, lt_ii, le_ii, gt_ii, ge_ii, isN_non, isN_int, isN_bl, isN_str, isN_tup, isN_lst, notN_non, notN_int, notN_tup, notN_lst, add_ii', sub_ii', add_tt', add_ll', mul_sm, mul_bg, fdiv_sm, fdiv_bg, mod_sm, pow_sm, eq_ii', ne_ii', ix_tup, ix_lst, varS, var0_int, var0_bl, var0_tup, var0_lst, var0_str, var0_non, var0_cup, var0_scr, List.length_cons, List.length_nil, List.map_cons, List.map_nil, List.cons_append, List.nil_append, List.replicate_succ, List.replicate_zero, env0, Option.map_some, Nat.zero_add, Nat.reduceAdd, Nat.reduceSub, Nat.reduceLeDiff, Int.reduceLT, Int.reduceLE, Bool.not_true, Bool.not_false, decide_true, decide_false, natLit, at0, at1, at2, at3, at4, at5, Int.reduceAdd, Int.reduceSub, Int.reduceMul, Int.reducePow, Int.reduceNeg, Int.reduceDiv, Int.reduceMod, Int.reduceToNat, Int.reduceEq, reduceIte, decide_eq_true_eq, List.all_cons, List.all_nil, List.any_cons, List.any_nil, id, Bool.and_true, Bool.true_and, Bool.and_false, Bool.false_and, Bool.or_true, Bool.or_false, Bool.true_or, Bool.false_or, Bool.false_eq_true, like_ok p (by decide)]
theorem seg3 : (mAsg (mgName 2) (mLst (mCons (mCall f_ford_parents (mCons (mTup (mCons (mC (.int 2)) (mCons (mC (.int 5)) (mNil)))) (mNil))) (mCons (mCall f_ford_parents (mCons (mTup (mCons (mNeg (mC (.int 1))) (mCons (mC (.int 2)) (mNil)))) (mNil))) (mCons (mCall f_ford_neighbours (mCons (mTup (mCons (mC (.int 1)) (mCons (mC (.int 2)) (mNil)))) (mCons (mC (.int 5)) (mNil)))) (mCons (mCall f_ford_neighbours (mCons (mTup (mCons (mC (.int 0)) (mCons (mC (.int 1)) (mNil)))) (mCons (mC (.int 2)) (mNil)))) (mNil))))))) [o0, some .cup, some (D.lst [D.bl true, D.bl false, D.bl false, pr 2 5, pr 2 3, .tup [.int 0, .int 8, .int 18, .int 50]]), none, none, none, none, none, none, none, none, none, none] c = .ok (.nx [o0, some .cup, some (D.lst [D.tup [pr 1 3, pr 1 2], D.tup [pr (-1) 1, pr 0 1], D.tup [pr 0 1, pr 1 3, pr 2 5, pr 3 5, pr 2 3, pr 1 1], D.tup [pr (-1) 1, pr (-1) 2, pr 1 2, pr 1 1]]), none, none, none, none, none, none, none, none, none, none]) c := by
  have w := told_ok (c := c)
  simp (disch := first | omega | exact Nat.le_of_ble_eq_true rfl | assumption | (simp only [List.length_append, List.length_cons, List.length_nil, List.length_map] <;> omega) | exact rfl | decide | (simp only [pl_int', pl_bl', pl_non', pl1l, pl1t, pl2l, pl2t, pl3l, pl3t, pl4l, pl4t, pl5l, pl5t, pl6l, pl6t, pl7l, pl7t, pl8l, pl8t, pl9l, pl9t, List.all_cons, List.all_nil, List.length_cons, List.length_nil, Nat.reduceAdd, Nat.reduceLeDiff, decide_true, Bool.and_true, Bool.true_and, Bool.and_self, *]; done) | fail) only [↓e_seq, ↓e_sl, ↓e_part, ↓e_par, ↓e_cupSet, ↓e_ifS, ↓e_ret, ↓e_drop, ↓e_asg, ↓e_B, ↓e_notB, ↓e_andB, ↓e_orB, ↓e_notD, ↓e_andD, ↓e_orD, ↓e_if, ↓e_op, ↓e_cons, ↓e_call, ↓e_icall, ↓e_tup', ↓e_lst, ↓e_neg, ↓e_chain, ↓e_last, ↓e_link, ↓e_un, ↓e_isi', ↓e_lc, ↓e_iseq, ↓e_for, ↓e_run0, ↓e_run1, ↓e_run2, ↓e_run3, ↓e_run4, ↓e_run5, ↓e_run6, ↓e_run7, ↓e_run8, k_sl1, k_sl2, sl_tup, sl_lst, e_noPart, k_part, revA_t, revA_l, k_par, put_nil, put_cons, e_ix0, e_ix1, k_cup0, k_cup1, in_ii2, zip_tt, zip_ll, then_ok, k_seqN, k_seqR, k_seqB, k_seqC, k_ifST, k_ifSF, e_skip, k_ret, e_retN, e_brk, e_cont, k_drop, k_asgName, k_asgTup, optE_some, g_tup, g_name, g_cons, g_nil, Option.bind_some, st0, stS, k_asB, k_notB, k_andBT, k_andBF, k_orBT, k_orBF, k_notD, k_andDT, k_andDF, k_orDT, k_orDF, k_ifT, k_ifF, e_C, k_op1, e_nil, k_c1, k_c2, k_tup, k_lst, k_neg, k_chain, k_link1, k_link2T, k_link2F, k_isi_int, k_isi_bl, k_isi_non, k_isi_str, k_isi_tup, k_isi_lst, D.isInt, D.isBool, D.isStr, D.isTup, D.isLst, k_runR, k_runN, k_lst', k_lc, l_nil, l_cons, optL_some, k_l1T, k_l1F, k_l2, e_yes, w_nil, w_cons, seqD_tup, seqD_lst, k_for, f_nil, f_cons, optF_some, k_f1N, k_f1C, k_f1B, k_f1R, len_tup, len_lst, len_scr, abs_i, int_i, int_b, list_l, list_t, list_s, tup_l, tup_t, max2, min2, sum_l, sum_t, okS_some, ints_nil, ints_cons, bls_nil, bls_cons, okB_some, all_l, any_l, lt_ii, le_ii, gt_ii, ge_ii, isN_non, isN_int, isN_bl, isN_str, isN_tup, isN_lst, notN_non, notN_int, notN_tup, notN_lst, add_ii', sub_ii', add_tt', add_ll', mul_sm, mul_bg, fdiv_sm, fdiv_bg, mod_sm, pow_sm, eq_ii', ne_ii', ix_tup, ix_lst, varS, var0_int, var0_bl, var0_tup, var0_lst, var0_str, var0_non, var0_cup, var0_scr, List.length_cons, List.length_nil, List.map_cons, List.map_nil, List.cons_append, List.nil_append, List.replicate_succ, List.replicate_zero, env0, Option.map_some, Nat.zero_add, Nat.reduceAdd, Nat.reduceSub, Nat.reduceLeDiff, Int.reduceLT, Int.reduceLE, Bool.not_true, Bool.not_false, decide_true, decide_false, natLit, at0, at1, at2, at3, at4, at5, Int.reduceAdd, Int.reduceSub, Int.reduceMul, Int.reducePow, Int.reduceNeg, Int.reduceDiv, Int.reduceMod, Int.reduceToNat, Int.reduceEq, reduceIte, decide_eq_true_eq, List.all_cons, List.all_nil, List.any_cons, List.any_nil, id, Bool.and_true, Bool.true_and, Bool.and_false, Bool.false_and, Bool.or_true, Bool.or_false, Bool.true_or, Bool.false_or, Bool.false_eq_true, w.1, w.2.1, w.2.2.1, w.2.2.2]
theorem seg4 : (mAsg (mgName 3) (mLst (mCons (mTup (mCons (mTup (mCons (mC (.int 1)) (mCons (mC (.int 3)) (mNil)))) (mCons (mTup (mCons (mC (.int 1)) (mCons (mC (.int 2)) (mNil)))) (mNil)))) (mCons (mTup (mCons (mTup (mCons (mNeg (mC (.int 1))) (mCons (mC (.int 1)) (mNil)))) (mCons (mTup (mCons (mC (.int 0)) (mCons (mC (.int 1)) (mNil)))) (mNil)))) (mCons (mTup (mCons (mTup (mCons (mC (.int 0)) (mCons (mC (.int 1)) (mNil)))) (mCons (mTup (mCons (mC (.int 1)) (mCons (mC (.int 3)) (mNil)))) (mCons (mTup (mCons (mC (.int 2)) (mCons (mC (.int 5)) (mNil)))) (mCons (mTup (mCons (mC (.int 3)) (mCons (mC (.int 5)) (mNil)))) (mCons (mTup (mCons (mC (.int 2)) (mCons (mC (.int 3)) (mNil)))) (mCons (mTup (mCons (mC (.int 1)) (mCons (mC (.int 1)) (mNil)))) (mNil)))))))) (mCons (mTup (mCons (mTup (mCons (mNeg (mC (.int 1))) (mCons (mC (.int 1)) (mNil)))) (mCons (mTup (mCons (mNeg (mC (.int 1))) (mCons (mC (.int 2)) (mNil)))) (mCons (mTup (mCons (mC (.int 1)) (mCons (mC (.int 2)) (mNil)))) (mCons (mTup (mCons (mC (.int 1)) (mCons (mC (.int 1)) (mNil)))) (mNil)))))) (mNil))))))) [o0, some .cup, some (D.lst [D.tup [pr 1 3, pr 1 2], D.tup [pr (-1) 1, pr 0 1], D.tup [pr 0 1, pr 1 3, pr 2 5, pr 3 5, pr 2 3, pr 1 1], D.tup [pr (-1) 1, pr (-1) 2, pr 1 2, pr 1 1]]), none, none, none, none, none, none, none, none, none, none] c = .ok (.nx [o0, some .cup, some (D.lst [D.tup [pr 1 3, pr 1 2], D.tup [pr (-1) 1, pr 0 1], D.tup [pr 0 1, pr 1 3, pr 2 5, pr 3 5, pr 2 3, pr 1 1], D.tup [pr (-1) 1, pr (-1) 2, pr 1 2, pr 1 1]]), some (D.lst [D.tup [pr 1 3, pr 1 2], D.tup [pr (-1) 1, pr 0 1], D.tup [pr 0 1, pr 1 3, pr 2 5, pr 3 5, pr 2 3, pr 1 1], D.tup [pr (-1) 1, pr (-1) 2, pr 1 2, pr 1 1]]), none, none, none, none, none, none, none, none, none]) c := by
  simp (disch := first | omega | exact Nat.le_of_ble_eq_true rfl | assumption | (simp only [List.length_append, List.length_cons, List.length_nil, List.length_map] <;> omega) | exact rfl | decide | (simp only [pl_int', pl_bl', pl_non', pl1l, pl1t, pl2l, pl2t, pl3l, pl3t, pl4l, pl4t, pl5l, pl5t, pl6l, pl6t, pl7l, pl7t, pl8l, pl8t, pl9l, pl9t, List.all_cons, List.all_nil, List.length_cons, List.length_nil, Nat.reduceAdd, Nat.reduceLeDiff, decide_true, Bool.and_true, Bool.true_and, Bool.and_self, *]; done) | fail) only [↓e_seq, ↓e_sl, ↓e_part, ↓e_par, ↓e_cupSet, ↓e_ifS, ↓e_ret, ↓e_drop, ↓e_asg, ↓e_B, ↓e_notB, ↓e_andB, ↓e_orB, ↓e_notD, ↓e_andD, ↓e_orD, ↓e_if, ↓e_op, ↓e_cons, ↓e_call, ↓e_icall, ↓e_tup', ↓e_lst, ↓e_neg, ↓e_chain, ↓e_last, ↓e_link, ↓e_un, ↓e_isi', ↓e_lc, ↓e_iseq, ↓e_for, ↓e_run0, ↓e_run1, ↓e_run2, ↓e_run3, ↓e_run4, ↓e_run5, ↓e_run6, ↓e_run7, ↓e_run8, k_sl1, k_sl2, sl_tup, sl_lst, e_noPart, k_part, revA_t, revA_l, k_par, put_nil, put_cons, e_ix0, e_ix1, k_cup0, k_cup1, in_ii2, zip_tt, zip_ll, then_ok, k_seqN, k_seqR, k_seqB, k_seqC, k_ifST, k_ifSF, e_skip, k_ret, e_retN, e_brk, e_cont, k_drop, k_asgName, k_asgTup, optE_some, g_tup, g_name, g_cons, g_nil, Option.bind_some, st0, stS, k_asB, k_notB, k_andBT, k_andBF, k_orBT, k_orBF, k_notD, k_andDT, k_andDF, k_orDT, k_orDF, k_ifT, k_ifF, e_C, k_op1, e_nil, k_c1, k_c2, k_tup, k_lst, k_neg, k_chain, k_link1, k_link2T, k_link2F, k_isi_int, k_isi_bl, k_isi_non, k_isi_str, k_isi_tup, k_isi_lst, D.isInt, D.isBool, D.isStr, D.isTup, D.isLst, k_runR, k_runN, k_lst', k_lc, l_nil, l_cons, optL_some, k_l1T, k_l1F, k_l2, e_yes, w_nil, w_cons, seqD_tup, seqD_lst, k_for, f_nil, f_cons, optF_some, k_f1N, k_f1C, k_f1B, k_f1R, len_tup, len_lst, len_scr, abs_i, int_i, int_b, list_l, list_t, list_s, tup_l, tup_t, max2, min2, sum_l, sum_t, okS_some, ints_nil, ints_cons, bls_nil, bls_cons, okB_some, all_l, any_l, lt_ii, le_ii, gt_ii, ge_ii, isN_non, isN_int, isN_bl, isN_str, isN_tup, isN_lst, notN_non, notN_int, notN_tup, notN_lst, add_ii', sub_ii', add_tt', add_ll', mul_sm, mul_bg, fdiv_sm, fdiv_bg, mod_sm, pow_sm, eq_ii', ne_ii', ix_tup, ix_lst, varS, var0_int, var0_bl, var0_tup, var0_lst, var0_str, var0_non, var0_cup, var0_scr, List.length_cons, List.length_nil, List.map_cons, List.map_nil, List.cons_append, List.nil_append, List.replicate_succ, List.replicate_zero, env0, Option.map_some, Nat.zero_add, Nat.reduceAdd, Nat.reduceSub, Nat.reduceLeDiff, Int.reduceLT, Int.reduceLE, Bool.not_true, Bool.not_false, decide_true, decide_false, natLit, at0, at1, at2, at3, at4, at5, Int.reduceAdd, Int.reduceSub, Int.reduceMul, Int.reducePow, Int.reduceNeg, Int.reduceDiv, Int.reduceMod, Int.reduceToNat, Int.reduceEq, reduceIte, decide_eq_true_eq, List.all_cons, List.all_nil, List.any_cons, List.any_nil, id, Bool.and_true, Bool.true_and, Bool.and_false, Bool.false_and, Bool.or_true, Bool.or_false, Bool.true_or, Bool.false_or, Bool.false_eq_true]
theorem seg5 : (mIfS (mNotB (mB (mCall f_u_law_like (mCons (mVar 2) (mCons (mVar 3) (mNil)))))) (mRet (mC (.bl false))) (mSkip)) [o0, some .cup, some (D.lst [D.tup [pr 1 3, pr 1 2], D.tup [pr (-1) 1, pr 0 1], D.tup [pr 0 1, pr 1 3, pr 2 5, pr 3 5, pr 2 3, pr 1 1], D.tup [pr (-1) 1, pr (-1) 2, pr 1 2, pr 1 1]]), some (D.lst [D.tup [pr 1 3, pr 1 2], D.tup [pr (-1) 1, pr 0 1], D.tup [pr 0 1, pr 1 3, pr 2 5, pr 3 5, pr 2 3, pr 1 1], D.tup [pr (-1) 1, pr (-1) 2, pr 1 2, pr 1 1]]), none, none, none, none, none, none, none, none, none] c = .ok (.nx [o0, some .cup, some (D.lst [D.tup [pr 1 3, pr 1 2], D.tup [pr (-1) 1, pr 0 1], D.tup [pr 0 1, pr 1 3, pr 2 5, pr 3 5, pr 2 3, pr 1 1], D.tup [pr (-1) 1, pr (-1) 2, pr 1 2, pr 1 1]]), some (D.lst [D.tup [pr 1 3, pr 1 2], D.tup [pr (-1) 1, pr 0 1], D.tup [pr 0 1, pr 1 3, pr 2 5, pr 3 5, pr 2 3, pr 1 1], D.tup [pr (-1) 1, pr (-1) 2, pr 1 2, pr 1 1]]), none, none, none, none, none, none, none, none, none]) c := by
  have p : (D.lst [D.tup [pr 1 3, pr 1 2], D.tup [pr (-1) 1, pr 0 1], D.tup [pr 0 1, pr 1 3, pr 2 5, pr 3 5, pr 2 3, pr 1 1], D.tup [pr (-1) 1, pr (-1) 2, pr 1 2, pr 1 1]]).pl 8 = true := by decide +kernel
  simp (disch := first | omega | exact Nat.le_of_ble_eq_true rfl | assumption | (simp only [List.length_append, List.length_cons, List.length_nil, List.length_map] <;> omega) | exact rfl | decide | (simp only [pl_int', pl_bl', pl_non', pl1l, pl1t, pl2l, pl2t, pl3l, pl3t, pl4l, pl4t, pl5l, pl5t, pl6l, pl6t, pl7l, pl7t, pl8l, pl8t, pl9l, pl9t, List.all_cons, List.all_nil, List.length_cons, List.length_nil, Nat.reduceAdd, Nat.reduceLeDiff, decide_true, Bool.and_true, Bool.true_and, Bool.and_self, *]; done) | fail) only [↓e_seq, ↓e_sl, ↓e_part, ↓e_par, ↓e_cupSet, ↓e_ifS, ↓e_ret, ↓e_drop, ↓e_asg, ↓e_B, ↓e_notB, ↓e_andB, ↓e_orB, ↓e_notD, ↓e_andD, ↓e_orD, ↓e_if, ↓e_op, ↓e_cons, ↓e_call, ↓e_icall, ↓e_tup', ↓e_lst, ↓e_neg, ↓e_chain, ↓e_last, ↓e_link, ↓e_un, ↓e_isi', ↓e_lc, ↓e_iseq, ↓e_for, ↓e_run0, ↓e_run1, ↓e_run2, ↓e_run3, ↓e_run4, ↓e_run5, ↓e_run6, ↓e_run7, ↓e_run8, k_sl1, k_sl2, sl_tup, sl_lst, e_noPart, k_part, revA_t, revA_l, k_par, put_nil, put_cons, e_ix0, e_ix1, k_cup0, k_cup1, in_ii2, zip_tt, zip_ll, then_ok, k_seqN, k_seqR, k_seqB, k_seqC, k_ifST, k_ifSF, e_skip, k_ret, e_retN, e_brk, e_cont, k_drop, k_asgName, k_asgTup, optE_some, g_tup, g_name, g_cons, g_nil, Option.bind_some, st0, stS, k_asB, k_notB, k_andBT, k_andBF, k_orBT, k_orBF, k_notD, k_andDT, k_andDF, k_orDT, k_orDF, k_ifT, k_ifF, e_C, k_op1, e_nil, k_c1, k_c2, k_tup, k_lst, k_neg, k_chain, k_link1, k_link2T, k_link2F, k_isi_int, k_isi_bl, k_isi_non, k_isi_str, k_isi_tup, k_isi_lst, D.isInt, D.isBool, D.isStr, D.isTup, D.isLst, k_runR, k_runN, k_lst', k_lc, l_nil, l_cons, optL_some, k_l1T, k_l1F, k_l2, e_yes, w_nil, w_cons, seqD_tup, seqD_lst, k_for, f_nil, f_cons, optF_some, k_f1N, k_f1C, k_f1B, k_f1R, len_tup, len_lst, len_scr, abs_i, int_i, int_b, list_l, list_t, list_s, tup_l, tup_t, max2, min2, sum_l, sum_t, okS_some, ints_nil, ints_cons, bls_nil, bls_cons, okB_some, all_l, any_l, lt_ii, le_ii, gt_ii, ge_ii, isN_non, isN_int, isN_bl, isN_str, isN_tup, isN_lst, notN_non, notN_int, notN_tup, notN_lst, add_ii', sub_ii', add_tt', add_ll', mul_sm, mul_bg, fdiv_sm, fdiv_bg, mod_sm, pow_sm, eq_ii', ne_ii', ix_tup, ix_lst, varS, var0_int, var0_bl, var0_tup, var0_lst, var0_str, var0_non, var0_cup, var0_scr, List.length_cons, List.length_nil, List.map_cons, List.map_nil, List.cons_append, List.nil_append, List.replicate_succ, List.replicate_zero, env0, Option.map_some, Nat.zero_add, Nat.reduceAdd, Nat.reduceSub, Nat.reduceLeDiff, Int.reduceLT, Int.reduceLE, Bool.not_true, Bool.not_false, decide_true, decide_false, natLit, at0, at1, at2, at3, at4, at5, Int.reduceAdd, Int.reduceSub, Int.reduceMul, Int.reducePow, Int.reduceNeg, Int.reduceDiv, Int.reduceMod, Int.reduceToNat, Int.reduceEq, reduceIte, decide_eq_true_eq, List.all_cons, List.all_nil, List.any_cons, List.any_nil, id, Bool.and_true, Bool.true_and, Bool.and_false, Bool.false_and, Bool.or_true, Bool.or_false, Bool.true_or, Bool.false_or, Bool.false_eq_true, like_ok p (by decide)]
end
theorem seg6 {o0 o5 o6 o7 : Option D} {x y x' y' : Int} (g : ∀ o0 o2 o3 : Option D, forL (mgName 4) (mSeq (mPar [5, 6] (mCons (mCall f_u_law_fraction (mCons (mVar 1) (mCons (mVar 4) (mNil)))) (mCons (mCall f_u_law_fraction (mCons (mVar 1) (mCons (mVar 4) (mNil)))) (mNil)))) (mSeq (mIfS (mOrB (mNotB (mB (mCall f_u_law_right (mCons (mVar 1) (mCons (mVar 5) (mCons (mVar 6) (mNil))))))) (mOrB (mNotB (mB (mCall f_u_law_small_right (mCons (mVar 1) (mCons (mVar 5) (mCons (mOp addD (mC (.int 1)) (mCall f_u_law_roll (mCons (mVar 1) (mCons (mC (.int 40)) (mNil))))) (mNil))))))) (mNotB (mB (mCall f_u_law_parents_right (mCons (mVar 5) (mNil))))))) (mRet (mC (.bl false))) (mSkip)) (mSeq (mAsg (mgName 7) (mCall f_u_law_some (mCons (mVar 1) (mCons (mOp addD (mCall listF (mCons (mCall f_ford_neighbours (mCons (mVar 5) (mCons (mC (.int 60)) (mNil)))) (mNil))) (mLst (mCons (mVar 6) (mNil)))) (mNil))))) (mIfS (mOrB (mNotB (mB (mCall f_u_law_right (mCons (mVar 1) (mCons (mVar 5) (mCons (mVar 7) (mNil))))))) (mNotB (mB (mCall f_u_law_parents_right (mCons (mVar 7) (mNil)))))) (mRet (mC (.bl false))) (mSkip))))) [.int 2, .int 5, .int 12, .int 30] [o0, some .cup, o2, o3, none, none, none, none, none, none, none, none, none] (some (x, y)) = .ok (.nx [o0, some .cup, o2, o3, some (.int 30), o5, o6, o7, none, none, none, none, none]) (some (x', y'))) :
    (mFor (miSeq (mTup (mCons (mC (.int 2)) (mCons (mC (.int 5)) (mCons (mC (.int 12)) (mCons (mC (.int 30)) (mNil))))))) (mgName 4) (mSeq (mPar [5, 6] (mCons (mCall f_u_law_fraction (mCons (mVar 1) (mCons (mVar 4) (mNil)))) (mCons (mCall f_u_law_fraction (mCons (mVar 1) (mCons (mVar 4) (mNil)))) (mNil)))) (mSeq (mIfS (mOrB (mNotB (mB (mCall f_u_law_right (mCons (mVar 1) (mCons (mVar 5) (mCons (mVar 6) (mNil))))))) (mOrB (mNotB (mB (mCall f_u_law_small_right (mCons (mVar 1) (mCons (mVar 5) (mCons (mOp addD (mC (.int 1)) (mCall f_u_law_roll (mCons (mVar 1) (mCons (mC (.int 40)) (mNil))))) (mNil))))))) (mNotB (mB (mCall f_u_law_parents_right (mCons (mVar 5) (mNil))))))) (mRet (mC (.bl false))) (mSkip)) (mSeq (mAsg (mgName 7) (mCall f_u_law_some (mCons (mVar 1) (mCons (mOp addD (mCall listF (mCons (mCall f_ford_neighbours (mCons (mVar 5) (mCons (mC (.int 60)) (mNil)))) (mNil))) (mLst (mCons (mVar 6) (mNil)))) (mNil))))) (mIfS (mOrB (mNotB (mB (mCall f_u_law_right (mCons (mVar 1) (mCons (mVar 5) (mCons (mVar 7) (mNil))))))) (mNotB (mB (mCall f_u_law_parents_right (mCons (mVar 7) (mNil)))))) (mRet (mC (.bl false))) (mSkip)))))) [o0, some .cup, some (D.lst [D.tup [pr 1 3, pr 1 2], D.tup [pr (-1) 1, pr 0 1], D.tup [pr 0 1, pr 1 3, pr 2 5, pr 3 5, pr 2 3, pr 1 1], D.tup [pr (-1) 1, pr (-1) 2, pr 1 2, pr 1 1]]), some (D.lst [D.tup [pr 1 3, pr 1 2], D.tup [pr (-1) 1, pr 0 1], D.tup [pr 0 1, pr 1 3, pr 2 5, pr 3 5, pr 2 3, pr 1 1], D.tup [pr (-1) 1, pr (-1) 2, pr 1 2, pr 1 1]]), none, none, none, none, none, none, none, none, none] (some (x, y)) = .ok (.nx [o0, some .cup, some (D.lst [D.tup [pr 1 3, pr 1 2], D.tup [pr (-1) 1, pr 0 1], D.tup [pr 0 1, pr 1 3, pr 2 5, pr 3 5, pr 2 3, pr 1 1], D.tup [pr (-1) 1, pr (-1) 2, pr 1 2, pr 1 1]]), some (D.lst [D.tup [pr 1 3, pr 1 2], D.tup [pr (-1) 1, pr 0 1], D.tup [pr 0 1, pr 1 3, pr 2 5, pr 3 5, pr 2 3, pr 1 1], D.tup [pr (-1) 1, pr (-1) 2, pr 1 2, pr 1 1]]), some (.int 30), o5, o6, o7, none, none, none, none, none]) (some (x', y')) := by
  simp (disch := first | omega | exact Nat.le_of_ble_eq_true rfl | assumption | (simp only [List.length_append, List.length_cons, List.length_nil, List.length_map] <;> omega) | exact rfl | decide | (simp only [pl_int', pl_bl', pl_non', pl1l, pl1t, pl2l, pl2t, pl3l, pl3t, pl4l, pl4t, pl5l, pl5t, pl6l, pl6t, pl7l, pl7t, pl8l, pl8t, pl9l, pl9t, List.all_cons, List.all_nil, List.length_cons, List.length_nil, Nat.reduceAdd, Nat.reduceLeDiff, decide_true, Bool.and_true, Bool.true_and, Bool.and_self, *]; done) | fail) only [↓e_seq, ↓e_sl, ↓e_part, ↓e_par, ↓e_cupSet, ↓e_ifS, ↓e_ret, ↓e_drop, ↓e_asg, ↓e_B, ↓e_notB, ↓e_andB, ↓e_orB, ↓e_notD, ↓e_andD, ↓e_orD, ↓e_if, ↓e_op, ↓e_cons, ↓e_call, ↓e_icall, ↓e_tup', ↓e_lst, ↓e_neg, ↓e_chain, ↓e_last, ↓e_link, ↓e_un, ↓e_isi', ↓e_lc, ↓e_iseq, ↓e_for, ↓e_run0, ↓e_run1, ↓e_run2, ↓e_run3, ↓e_run4, ↓e_run5, ↓e_run6, ↓e_run7, ↓e_run8, k_sl1, k_sl2, sl_tup, sl_lst, e_noPart, k_part, revA_t, revA_l, k_par, put_nil, put_cons, e_ix0, e_ix1, k_cup0, k_cup1, in_ii2, zip_tt, zip_ll, then_ok, k_seqN, k_seqR, k_seqB, k_seqC, k_ifST, k_ifSF, e_skip, k_ret, e_retN, e_brk, e_cont, k_drop, k_asgName, k_asgTup, optE_some, g_tup, g_name, g_cons, g_nil, Option.bind_some, st0, stS, k_asB, k_notB, k_andBT, k_andBF, k_orBT, k_orBF, k_notD, k_andDT, k_andDF, k_orDT, k_orDF, k_ifT, k_ifF, e_C, k_op1, e_nil, k_c1, k_c2, k_tup, k_lst, k_neg, k_chain, k_link1, k_link2T, k_link2F, k_isi_int, k_isi_bl, k_isi_non, k_isi_str, k_isi_tup, k_isi_lst, D.isInt, D.isBool, D.isStr, D.isTup, D.isLst, k_runR, k_runN, k_lst', k_lc, l_nil, l_cons, optL_some, k_l1T, k_l1F, k_l2, e_yes, w_nil, w_cons, seqD_tup, seqD_lst, k_for, optF_some, k_f1N, k_f1C, k_f1B, k_f1R, len_tup, len_lst, len_scr, abs_i, int_i, int_b, list_l, list_t, list_s, tup_l, tup_t, max2, min2, sum_l, sum_t, okS_some, ints_nil, ints_cons, bls_nil, bls_cons, okB_some, all_l, any_l, lt_ii, le_ii, gt_ii, ge_ii, isN_non, isN_int, isN_bl, isN_str, isN_tup, isN_lst, notN_non, notN_int, notN_tup, notN_lst, add_ii', sub_ii', add_tt', add_ll', mul_sm, mul_bg, fdiv_sm, fdiv_bg, mod_sm, pow_sm, eq_ii', ne_ii', ix_tup, ix_lst, varS, var0_int, var0_bl, var0_tup, var0_lst, var0_str, var0_non, var0_cup, var0_scr, List.length_cons, List.length_nil, List.map_cons, List.map_nil, List.cons_append, List.nil_append, List.replicate_succ, List.replicate_zero, env0, Option.map_some, Nat.zero_add, Nat.reduceAdd, Nat.reduceSub, Nat.reduceLeDiff, Int.reduceLT, Int.reduceLE, Bool.not_true, Bool.not_false, decide_true, decide_false, natLit, at0, at1, at2, at3, at4, at5, Int.reduceAdd, Int.reduceSub, Int.reduceMul, Int.reducePow, Int.reduceNeg, Int.reduceDiv, Int.reduceMod, Int.reduceToNat, Int.reduceEq, reduceIte, decide_eq_true_eq, List.all_cons, List.all_nil, List.any_cons, List.any_nil, id, Bool.and_true, Bool.true_and, Bool.and_false, Bool.false_and, Bool.or_true, Bool.or_false, Bool.true_or, Bool.false_or, Bool.false_eq_true, g]
theorem law_true (ns : List Int) (h : ns.length ≤ 63) : ∃ c', b_law (some (.scr (ns.map D.int)) :: List.replicate 12 none) none = .ok (.ret (.bl true)) c' := by
  obtain ⟨x0, y0, h0⟩ := law_cup_ok h
  have hc := fun n => cup_then (i := 1) (fm := f_u_law_cup) (r := mCons (mVar 0) mNil) (n := n) (ρ := [some (.scr (ns.map D.int)), none, none, none, none, none, none, none, none, none, none, none, none]) (by simp (disch := first | omega | exact Nat.le_of_ble_eq_true rfl | assumption | (simp only [List.length_append, List.length_cons, List.length_nil, List.length_map] <;> omega) | exact rfl | decide | (simp only [pl_int', pl_bl', pl_non', pl1l, pl1t, pl2l, pl2t, pl3l, pl3t, pl4l, pl4t, pl5l, pl5t, pl6l, pl6t, pl7l, pl7t, pl8l, pl8t, pl9l, pl9t, List.all_cons, List.all_nil, List.length_cons, List.length_nil, Nat.reduceAdd, Nat.reduceLeDiff, decide_true, Bool.and_true, Bool.true_and, Bool.and_self, *]; done) | fail) only [↓e_seq, ↓e_sl, ↓e_part, ↓e_par, ↓e_cupSet, ↓e_ifS, ↓e_ret, ↓e_drop, ↓e_asg, ↓e_B, ↓e_notB, ↓e_andB, ↓e_orB, ↓e_notD, ↓e_andD, ↓e_orD, ↓e_if, ↓e_op, ↓e_cons, ↓e_call, ↓e_icall, ↓e_tup', ↓e_lst, ↓e_neg, ↓e_chain, ↓e_last, ↓e_link, ↓e_un, ↓e_isi', ↓e_lc, ↓e_iseq, ↓e_for, ↓e_run0, ↓e_run1, ↓e_run2, ↓e_run3, ↓e_run4, ↓e_run5, ↓e_run6, ↓e_run7, ↓e_run8, k_sl1, k_sl2, sl_tup, sl_lst, e_noPart, k_part, revA_t, revA_l, k_par, put_nil, put_cons, e_ix0, e_ix1, k_cup0, k_cup1, in_ii2, zip_tt, zip_ll, then_ok, k_seqN, k_seqR, k_seqB, k_seqC, k_ifST, k_ifSF, e_skip, k_ret, e_retN, e_brk, e_cont, k_drop, k_asgName, k_asgTup, optE_some, g_tup, g_name, g_cons, g_nil, Option.bind_some, st0, stS, k_asB, k_notB, k_andBT, k_andBF, k_orBT, k_orBF, k_notD, k_andDT, k_andDF, k_orDT, k_orDF, k_ifT, k_ifF, e_C, k_op1, e_nil, k_c1, k_c2, k_tup, k_lst, k_neg, k_chain, k_link1, k_link2T, k_link2F, k_isi_int, k_isi_bl, k_isi_non, k_isi_str, k_isi_tup, k_isi_lst, D.isInt, D.isBool, D.isStr, D.isTup, D.isLst, k_runR, k_runN, k_lst', k_lc, l_nil, l_cons, optL_some, k_l1T, k_l1F, k_l2, e_yes, w_nil, w_cons, seqD_tup, seqD_lst, k_for, f_nil, f_cons, optF_some, k_f1N, k_f1C, k_f1B, k_f1R, len_tup, len_lst, len_scr, abs_i, int_i, int_b, list_l, list_t, list_s, tup_l, tup_t, max2, min2, sum_l, sum_t, okS_some, ints_nil, ints_cons, bls_nil, bls_cons, okB_some, all_l, any_l, lt_ii, le_ii, gt_ii, ge_ii, isN_non, isN_int, isN_bl, isN_str, isN_tup, isN_lst, notN_non, notN_int, notN_tup, notN_lst, add_ii', sub_ii', add_tt', add_ll', mul_sm, mul_bg, fdiv_sm, fdiv_bg, mod_sm, pow_sm, eq_ii', ne_ii', ix_tup, ix_lst, varS, var0_int, var0_bl, var0_tup, var0_lst, var0_str, var0_non, var0_cup, var0_scr, List.length_cons, List.length_nil, List.map_cons, List.map_nil, List.cons_append, List.nil_append, List.replicate_succ, List.replicate_zero, env0, Option.map_some, Nat.zero_add, Nat.reduceAdd, Nat.reduceSub, Nat.reduceLeDiff, Int.reduceLT, Int.reduceLE, Bool.not_true, Bool.not_false, decide_true, decide_false, natLit, at0, at1, at2, at3, at4, at5, Int.reduceAdd, Int.reduceSub, Int.reduceMul, Int.reducePow, Int.reduceNeg, Int.reduceDiv, Int.reduceMod, Int.reduceToNat, Int.reduceEq, reduceIte, decide_eq_true_eq, List.all_cons, List.all_nil, List.any_cons, List.any_nil, id, Bool.and_true, Bool.true_and, Bool.and_false, Bool.false_and, Bool.or_true, Bool.or_false, Bool.true_or, Bool.false_or, Bool.false_eq_true]) h0
  have hmf : ([some (D.scr (ns.map D.int)), none, none, none, none, none, none, none, none, none, none, none, none] : Env).map forget = [forget (some (D.scr (ns.map D.int))), none, none, none, none, none, none, none, none, none, none, none, none] := rfl
  generalize forget (some (D.scr (ns.map D.int))) = o0 at hmf
  obtain ⟨p5, p6, p7, x4, y4, g1⟩ := loop_ok (x := x0) (y := y0)
  have hs : List.set [o0, none, none, none, none, none, none, none, none, none, none, none, none] 1 (some D.cup) = [o0, some D.cup, none, none, none, none, none, none, none, none, none, none, none] := rfl
  have hl : (some (D.scr (ns.map D.int)) :: List.replicate 12 none : Env) = [some (D.scr (ns.map D.int)), none, none, none, none, none, none, none, none, none, none, none, none] := rfl
  unfold b_law
  rw [hl, hc, hmf, hs, e_seq, seg0, then_ok, k_seqN, e_seq, seg1, then_ok, k_seqN, e_seq, seg2, then_ok, k_seqN, e_seq, seg3, then_ok, k_seqN, e_seq, seg4, then_ok, k_seqN, e_seq, seg5, then_ok, k_seqN, e_seq, seg6 g1, then_ok, k_seqN]
  clear hc hmf hs hl h0 h g1
  obtain ⟨t1, x5, y5, k1, i1, j1⟩ := roll_ok (n := 2001) (x := x4) (y := y4) (by omega)
  obtain ⟨t2, x6, y6, k2, i2, j2⟩ := roll_ok (n := 440) (x := x5) (y := y5) (by omega)
  obtain ⟨a, n, g, le, _, g0, e1, e2, F⟩ := least_ok (a := t1 - 1000) (b := 61 + t2) (by omega) (by omega) (by omega)
  have u1 := mul_le_abs (g := g) (x := a) (B := 1001) g0 (by omega) (by omega)
  have u2 := mul_le_abs (g := g) (x := n) (B := 502) g0 (by omega) (by omega)
  have sr := fun c => small_right_ok (c := c) (most := 1000) (x := .cup) (fun _ _ => rfl) F (by omega) (by omega) (by omega)
  obtain ⟨t3, x7, y7, k3, i3, j3⟩ := roll_ok (n := 1000000000000000000) (x := x6) (y := y6) (by omega)
  obtain ⟨t4, x8, y8, k4, i4, j4⟩ := roll_ok (n := 1000000000000000000) (x := x7) (y := y7) (by omega)
  obtain ⟨t5, x9, y9, k5, i5, j5⟩ := roll_ok (n := 1000000000000000000) (x := x8) (y := y8) (by omega)
  obtain ⟨a', n', g', le', _, g0', e1', e2', F'⟩ := least_ok (a := t3 * 100000000000000000000000000000000000000000 + t4) (b := 1 + t5 * 10000000000000000000000000000000000000000) (by omega) (by omega) (by omega)
  obtain ⟨t6, x10, y10, k6, i6, j6⟩ := roll_ok (n := 100) (x := x9) (y := y9) (by omega)
  have nn := fun c => neigh_one (c := c) (a := a') (most := 1000) ⟨F'.x1, F'.x2⟩ (by decide)
  have hG : (100 : Int) < G := by decide
  have nr := fun c => neigh_one (c := c) (a := t6) (most := 3) ⟨by omega, by omega⟩ (by decide)
  simp only [nb_row] at nr
  have nm := nb_many (w := a')
  have pa := fun c => parents_right_ok (c := c) F'
  clear e1 e2 e1' e2' hG u1 u2 F F' g0 g0'
  simp (disch := first | omega | exact Nat.le_of_ble_eq_true rfl | assumption | (simp only [List.length_append, List.length_cons, List.length_nil, List.length_map] <;> omega) | exact rfl | decide | (simp only [pl_int', pl_bl', pl_non', pl1l, pl1t, pl2l, pl2t, pl3l, pl3t, pl4l, pl4t, pl5l, pl5t, pl6l, pl6t, pl7l, pl7t, pl8l, pl8t, pl9l, pl9t, List.all_cons, List.all_nil, List.length_cons, List.length_nil, Nat.reduceAdd, Nat.reduceLeDiff, decide_true, Bool.and_true, Bool.true_and, Bool.and_self, *]; done) | fail) only [↓e_seq, ↓e_sl, ↓e_part, ↓e_par, ↓e_cupSet, ↓e_ifS, ↓e_ret, ↓e_drop, ↓e_asg, ↓e_B, ↓e_notB, ↓e_andB, ↓e_orB, ↓e_notD, ↓e_andD, ↓e_orD, ↓e_if, ↓e_op, ↓e_cons, ↓e_call, ↓e_icall, ↓e_tup', ↓e_lst, ↓e_neg, ↓e_chain, ↓e_last, ↓e_link, ↓e_un, ↓e_isi', ↓e_lc, ↓e_iseq, ↓e_for, ↓e_run0, ↓e_run1, ↓e_run2, ↓e_run3, ↓e_run4, ↓e_run5, ↓e_run6, ↓e_run7, ↓e_run8, k_sl1, k_sl2, sl_tup, sl_lst, e_noPart, k_part, revA_t, revA_l, k_par, put_nil, put_cons, e_ix0, e_ix1, k_cup0, k_cup1, in_ii2, zip_tt, zip_ll, then_ok, k_seqN, k_seqR, k_seqB, k_seqC, k_ifST, k_ifSF, e_skip, k_ret, e_retN, e_brk, e_cont, k_drop, k_asgName, k_asgTup, optE_some, g_tup, g_name, g_cons, g_nil, Option.bind_some, st0, stS, k_asB, k_notB, k_andBT, k_andBF, k_orBT, k_orBF, k_notD, k_andDT, k_andDF, k_orDT, k_orDF, k_ifT, k_ifF, e_C, k_op1, e_nil, k_c1, k_c2, k_tup, k_lst, k_neg, k_chain, k_link1, k_link2T, k_link2F, k_isi_int, k_isi_bl, k_isi_non, k_isi_str, k_isi_tup, k_isi_lst, D.isInt, D.isBool, D.isStr, D.isTup, D.isLst, k_runR, k_runN, k_lst', k_lc, l_nil, l_cons, optL_some, k_l1T, k_l1F, k_l2, e_yes, w_nil, w_cons, seqD_tup, seqD_lst, k_for, optF_some, k_f1N, k_f1C, k_f1B, k_f1R, len_tup, len_lst, len_scr, abs_i, int_i, int_b, list_l, list_t, list_s, tup_l, tup_t, max2, min2, sum_l, sum_t, okS_some, ints_nil, ints_cons, bls_nil, bls_cons, okB_some, all_l, any_l, lt_ii, le_ii, gt_ii, ge_ii, isN_non, isN_int, isN_bl, isN_str, isN_tup, isN_lst, notN_non, notN_int, notN_tup, notN_lst, add_ii', sub_ii', add_tt', add_ll', mul_sm, mul_bg, fdiv_sm, fdiv_bg, mod_sm, pow_sm, eq_ii', ne_ii', ix_tup, ix_lst, varS, var0_int, var0_bl, var0_tup, var0_lst, var0_str, var0_non, var0_cup, var0_scr, List.length_cons, List.length_nil, List.map_cons, List.map_nil, List.cons_append, List.nil_append, List.replicate_succ, List.replicate_zero, env0, Option.map_some, Nat.zero_add, Nat.reduceAdd, Nat.reduceSub, Nat.reduceLeDiff, Int.reduceLT, Int.reduceLE, Bool.not_true, Bool.not_false, decide_true, decide_false, natLit, at0, at1, at2, at3, at4, at5, Int.reduceAdd, Int.reduceSub, Int.reduceMul, Int.reducePow, Int.reduceNeg, Int.reduceDiv, Int.reduceMod, Int.reduceToNat, Int.reduceEq, reduceIte, decide_eq_true_eq, List.all_cons, List.all_nil, List.any_cons, List.any_nil, id, Bool.and_true, Bool.true_and, Bool.and_false, Bool.false_and, Bool.or_true, Bool.or_false, Bool.true_or, Bool.false_or, Bool.false_eq_true, k1, k2, le, sr, k3, k4, k5, le', pa, nn, nm, k6, nr, like_same]
  exact ⟨_, rfl⟩
end LK
namespace LK
open PySem PySem.Spec PyProof.Rows L2 DL
def topS (i : Nat) : Stmt := PySem.Challenge.pw_wholesides_k50_whole_ford_circles.main.body.getD i (.Pass ⟨0, 0, 0, 0⟩)
abbrev s_u_law_cup : Stmt := topS 32
abbrev N_u_law_cup : List Str := ["script", "cell"]
theorem sc_u_law_cup : FnScope N_u_law_cup ["script"] (defScope s_u_law_cup) := ⟨rfl, rfl, rfl, by decide +kernel, rfl, by decide +kernel, by decide +kernel⟩
abbrev s_u_law_divisor : Stmt := topS 37
abbrev N_u_law_divisor : List Str := ["one", "other"]
theorem sc_u_law_divisor : FnScope N_u_law_divisor ["one", "other"] (defScope s_u_law_divisor) := ⟨rfl, rfl, rfl, by decide +kernel, rfl, by decide +kernel, by decide +kernel⟩
abbrev s_u_law_least : Stmt := topS 38
abbrev N_u_law_least : List Str := ["above", "below", "sign", "whole"]
theorem sc_u_law_least : FnScope N_u_law_least ["above", "below"] (defScope s_u_law_least) := ⟨rfl, rfl, rfl, by decide +kernel, rfl, by decide +kernel, by decide +kernel⟩
abbrev s_u_law_roll : Stmt := topS 33
abbrev N_u_law_roll : List Str := ["cup", "many", "found", "deep"]
theorem sc_u_law_roll : FnScope N_u_law_roll ["cup", "many"] (defScope s_u_law_roll) := ⟨rfl, rfl, rfl, by decide +kernel, rfl, by decide +kernel, by decide +kernel⟩
abbrev s_is_tuple_of : Stmt := topS 9
abbrev N_is_tuple_of : List Str := ["value", "low", "high"]
theorem sc_is_tuple_of : FnScope N_is_tuple_of ["value", "low", "high"] (defScope s_is_tuple_of) := ⟨rfl, rfl, rfl, by decide +kernel, rfl, by decide +kernel, by decide +kernel⟩
abbrev s_divisor_of : Stmt := topS 10
abbrev N_divisor_of : List Str := ["one", "other"]
theorem sc_divisor_of : FnScope N_divisor_of ["one", "other"] (defScope s_divisor_of) := ⟨rfl, rfl, rfl, by decide +kernel, rfl, by decide +kernel, by decide +kernel⟩
abbrev s_is_integer : Stmt := topS 6
abbrev N_is_integer : List Str := ["value"]
theorem sc_is_integer : FnScope N_is_integer ["value"] (defScope s_is_integer) := ⟨rfl, rfl, rfl, by decide +kernel, rfl, by decide +kernel, by decide +kernel⟩
abbrev s_fits_fraction : Stmt := topS 12
abbrev N_fits_fraction : List Str := ["value", "number"]
theorem sc_fits_fraction : FnScope N_fits_fraction ["value"] (defScope s_fits_fraction) := ⟨rfl, rfl, rfl, by decide +kernel, rfl, by decide +kernel, by decide +kernel⟩
abbrev s_need_fraction : Stmt := topS 15
abbrev N_need_fraction : List Str := ["value"]
theorem sc_need_fraction : FnScope N_need_fraction ["value"] (defScope s_need_fraction) := ⟨rfl, rfl, rfl, by decide +kernel, rfl, by decide +kernel, by decide +kernel⟩
abbrev s_is_whole : Stmt := topS 7
abbrev N_is_whole : List Str := ["value", "low", "high"]
theorem sc_is_whole : FnScope N_is_whole ["value", "low", "high"] (defScope s_is_whole) := ⟨rfl, rfl, rfl, by decide +kernel, rfl, by decide +kernel, by decide +kernel⟩
abbrev s_need_whole : Stmt := topS 8
abbrev N_need_whole : List Str := ["value", "low", "high"]
theorem sc_need_whole : FnScope N_need_whole ["value", "low", "high"] (defScope s_need_whole) := ⟨rfl, rfl, rfl, by decide +kernel, rfl, by decide +kernel, by decide +kernel⟩
abbrev s_undone_by : Stmt := topS 19
abbrev N_undone_by : List Str := ["number", "whole", "one", "other", "first", "second"]
theorem sc_undone_by : FnScope N_undone_by ["number", "whole"] (defScope s_undone_by) := ⟨rfl, rfl, rfl, by decide +kernel, rfl, by decide +kernel, by decide +kernel⟩
abbrev s_lasts_below : Stmt := topS 20
abbrev N_lasts_below : List Str := ["fraction", "above", "below"]
theorem sc_lasts_below : FnScope N_lasts_below ["fraction"] (defScope s_lasts_below) := ⟨rfl, rfl, rfl, by decide +kernel, rfl, by decide +kernel, by decide +kernel⟩
abbrev s_touching_in : Stmt := topS 21
abbrev N_touching_in : List Str := ["fraction", "most", "above", "below", "less", "more", "lesser", "greater", "last"]
theorem sc_touching_in : FnScope N_touching_in ["fraction", "most"] (defScope s_touching_in) := ⟨rfl, rfl, rfl, by decide +kernel, rfl, by decide +kernel, by decide +kernel⟩
abbrev s_ford_neighbours : Stmt := topS 26
abbrev N_ford_neighbours : List Str := ["fraction", "most"]
theorem sc_ford_neighbours : FnScope N_ford_neighbours ["fraction", "most"] (defScope s_ford_neighbours) := ⟨rfl, rfl, rfl, by decide +kernel, rfl, by decide +kernel, by decide +kernel⟩
abbrev s_u_law_sort : Stmt := topS 34
abbrev N_u_law_sort : List Str := ["value"]
theorem sc_u_law_sort : FnScope N_u_law_sort ["value"] (defScope s_u_law_sort) := ⟨rfl, rfl, rfl, by decide +kernel, rfl, by decide +kernel, by decide +kernel⟩
abbrev s_u_law_like : Stmt := topS 35
abbrev N_u_law_like : List Str := ["one", "other", "sort", "first", "second"]
theorem sc_u_law_like : FnScope N_u_law_like ["one", "other"] (defScope s_u_law_like) := ⟨rfl, rfl, rfl, by decide +kernel, rfl, by decide +kernel, by decide +kernel⟩
abbrev s_need_fractions : Stmt := topS 16
abbrev N_need_fractions : List Str := ["one", "other"]
theorem sc_need_fractions : FnScope N_need_fractions ["one", "other"] (defScope s_need_fractions) := ⟨rfl, rfl, rfl, by decide +kernel, rfl, by decide +kernel, by decide +kernel⟩
abbrev s_are_touching : Stmt := topS 17
abbrev N_are_touching : List Str := ["one", "other"]
theorem sc_are_touching : FnScope N_are_touching ["one", "other"] (defScope s_are_touching) := ⟨rfl, rfl, rfl, by decide +kernel, rfl, by decide +kernel, by decide +kernel⟩
abbrev s_do_ford_touch : Stmt := topS 22
abbrev N_do_ford_touch : List Str := ["fraction", "other"]
theorem sc_do_ford_touch : FnScope N_do_ford_touch ["fraction", "other"] (defScope s_do_ford_touch) := ⟨rfl, rfl, rfl, by decide +kernel, rfl, by decide +kernel, by decide +kernel⟩
abbrev s_lowest : Stmt := topS 11
abbrev N_lowest : List Str := ["above", "below", "part"]
theorem sc_lowest : FnScope N_lowest ["above", "below"] (defScope s_lowest) := ⟨rfl, rfl, rfl, by decide +kernel, rfl, by decide +kernel, by decide +kernel⟩
abbrev s_between_in : Stmt := topS 18
abbrev N_between_in : List Str := ["one", "other"]
theorem sc_between_in : FnScope N_between_in ["one", "other"] (defScope s_between_in) := ⟨rfl, rfl, rfl, by decide +kernel, rfl, by decide +kernel, by decide +kernel⟩
abbrev s_ford_between : Stmt := topS 23
abbrev N_ford_between : List Str := ["fraction", "other"]
theorem sc_ford_between : FnScope N_ford_between ["fraction", "other"] (defScope s_ford_between) := ⟨rfl, rfl, rfl, by decide +kernel, rfl, by decide +kernel, by decide +kernel⟩
abbrev s_ford_parents : Stmt := topS 25
abbrev N_ford_parents : List Str := ["fraction", "less", "more"]
theorem sc_ford_parents : FnScope N_ford_parents ["fraction"] (defScope s_ford_parents) := ⟨rfl, rfl, rfl, by decide +kernel, rfl, by decide +kernel, by decide +kernel⟩
abbrev s_u_law_some : Stmt := topS 36
abbrev N_u_law_some : List Str := ["cup", "things"]
theorem sc_u_law_some : FnScope N_u_law_some ["cup", "things"] (defScope s_u_law_some) := ⟨rfl, rfl, rfl, by decide +kernel, rfl, by decide +kernel, by decide +kernel⟩
abbrev s_u_law_touch : Stmt := topS 40
abbrev N_u_law_touch : List Str := ["one", "other", "apart", "lasts"]
theorem sc_u_law_touch : FnScope N_u_law_touch ["one", "other"] (defScope s_u_law_touch) := ⟨rfl, rfl, rfl, by decide +kernel, rfl, by decide +kernel, by decide +kernel⟩
abbrev s_u_law_small_right : Stmt := topS 41
abbrev N_u_law_small_right : List Str := ["cup", "one", "most", "due", "last", "middle", "told", "own", "first", "low", "high"]
theorem sc_u_law_small_right : FnScope N_u_law_small_right ["cup", "one", "most"] (defScope s_u_law_small_right) := ⟨rfl, rfl, rfl, by decide +kernel, rfl, by decide +kernel, by decide +kernel⟩
abbrev s_ford_bends : Stmt := topS 24
abbrev N_ford_bends : List Str := ["fraction", "other", "lasts", "last"]
theorem sc_ford_bends : FnScope N_ford_bends ["fraction", "other"] (defScope s_ford_bends) := ⟨rfl, rfl, rfl, by decide +kernel, rfl, by decide +kernel, by decide +kernel⟩
abbrev s_u_law_fraction : Stmt := topS 39
abbrev N_u_law_fraction : List Str := ["cup", "most"]
theorem sc_u_law_fraction : FnScope N_u_law_fraction ["cup", "most"] (defScope s_u_law_fraction) := ⟨rfl, rfl, rfl, by decide +kernel, rfl, by decide +kernel, by decide +kernel⟩
abbrev s_u_law_parents_right : Stmt := topS 43
abbrev N_u_law_parents_right : List Str := ["one", "low", "high", "told"]
theorem sc_u_law_parents_right : FnScope N_u_law_parents_right ["one"] (defScope s_u_law_parents_right) := ⟨rfl, rfl, rfl, by decide +kernel, rfl, by decide +kernel, by decide +kernel⟩
abbrev s_is_touching : Stmt := topS 28
abbrev N_is_touching : List Str := ["row", "bend"]
theorem sc_is_touching : FnScope N_is_touching ["row"] (defScope s_is_touching) := ⟨rfl, rfl, rfl, by decide +kernel, rfl, by decide +kernel, by decide +kernel⟩
abbrev s_fits_row : Stmt := topS 29
abbrev N_fits_row : List Str := ["value", "bend"]
theorem sc_fits_row : FnScope N_fits_row ["value"] (defScope s_fits_row) := ⟨rfl, rfl, rfl, by decide +kernel, rfl, by decide +kernel, by decide +kernel⟩
abbrev s_is_row_of_bends : Stmt := topS 30
abbrev N_is_row_of_bends : List Str := ["value"]
theorem sc_is_row_of_bends : FnScope N_is_row_of_bends ["value"] (defScope s_is_row_of_bends) := ⟨rfl, rfl, rfl, by decide +kernel, rfl, by decide +kernel, by decide +kernel⟩
abbrev s_u_law_right : Stmt := topS 42
abbrev N_u_law_right : List Str := ["cup", "one", "other", "mean", "touch", "told", "low", "high", "row", "due"]
theorem sc_u_law_right : FnScope N_u_law_right ["cup", "one", "other"] (defScope s_u_law_right) := ⟨rfl, rfl, rfl, by decide +kernel, rfl, by decide +kernel, by decide +kernel⟩
abbrev s_law : Stmt := topS 44
abbrev N_law : List Str := ["script", "cup", "told", "due", "most", "one", "other", "near", "wide", "great", "whole", "row", "last"]
theorem sc_law : FnScope N_law ["script"] (defScope s_law) := ⟨rfl, rfl, rfl, by decide +kernel, rfl, by decide +kernel, by decide +kernel⟩
structure Txt (K : PySem.W.Frag) (mg : Str → Option Value) where
  u_law_cup : DefT K mg "_law_cup" s_u_law_cup ["script"]
  u_law_divisor : DefT K mg "_law_divisor" s_u_law_divisor ["one", "other"]
  u_law_least : DefT K mg "_law_least" s_u_law_least ["above", "below"]
  u_law_roll : DefT K mg "_law_roll" s_u_law_roll ["cup", "many"]
  is_tuple_of : DefT K mg "is_tuple_of" s_is_tuple_of ["value", "low", "high"]
  divisor_of : DefT K mg "divisor_of" s_divisor_of ["one", "other"]
  is_integer : DefT K mg "is_integer" s_is_integer ["value"]
  fits_fraction : DefT K mg "fits_fraction" s_fits_fraction ["value"]
  need_fraction : DefT K mg "need_fraction" s_need_fraction ["value"]
  is_whole : DefT K mg "is_whole" s_is_whole ["value", "low", "high"]
  need_whole : DefT K mg "need_whole" s_need_whole ["value", "low", "high"]
  undone_by : DefT K mg "undone_by" s_undone_by ["number", "whole"]
  lasts_below : DefT K mg "lasts_below" s_lasts_below ["fraction"]
  touching_in : DefT K mg "touching_in" s_touching_in ["fraction", "most"]
  ford_neighbours : DefT K mg "ford_neighbours" s_ford_neighbours ["fraction", "most"]
  u_law_sort : DefT K mg "_law_sort" s_u_law_sort ["value"]
  u_law_like : DefT K mg "_law_like" s_u_law_like ["one", "other"]
  need_fractions : DefT K mg "need_fractions" s_need_fractions ["one", "other"]
  are_touching : DefT K mg "are_touching" s_are_touching ["one", "other"]
  do_ford_touch : DefT K mg "do_ford_touch" s_do_ford_touch ["fraction", "other"]
  lowest : DefT K mg "lowest" s_lowest ["above", "below"]
  between_in : DefT K mg "between_in" s_between_in ["one", "other"]
  ford_between : DefT K mg "ford_between" s_ford_between ["fraction", "other"]
  ford_parents : DefT K mg "ford_parents" s_ford_parents ["fraction"]
  u_law_some : DefT K mg "_law_some" s_u_law_some ["cup", "things"]
  u_law_touch : DefT K mg "_law_touch" s_u_law_touch ["one", "other"]
  u_law_small_right : DefT K mg "_law_small_right" s_u_law_small_right ["cup", "one", "most"]
  ford_bends : DefT K mg "ford_bends" s_ford_bends ["fraction", "other"]
  u_law_fraction : DefT K mg "_law_fraction" s_u_law_fraction ["cup", "most"]
  u_law_parents_right : DefT K mg "_law_parents_right" s_u_law_parents_right ["one"]
  is_touching : DefT K mg "is_touching" s_is_touching ["row"]
  fits_row : DefT K mg "fits_row" s_fits_row ["value"]
  is_row_of_bends : DefT K mg "is_row_of_bends" s_is_row_of_bends ["value"]
  u_law_right : DefT K mg "_law_right" s_u_law_right ["cup", "one", "other"]
  law : DefT K mg "law" s_law ["script"]
  z_abs : mg "abs" = none
  z_all : mg "all" = none
  z_bool : mg "bool" = none
  z_int : mg "int" = none
  z_isinstance : mg "isinstance" = none
  z_len : mg "len" = none
  z_list : mg "list" = none
  z_max : mg "max" = none
  z_range : mg "range" = none
  z_sorted : mg "sorted" = none
  z_str : mg "str" = none
  z_sum : mg "sum" = none
  z_tuple : mg "tuple" = none
  z_zip : mg "zip" = none
  c_GREAT : ConstT K mg "GREAT" c_GREAT
  c_MOST : ConstT K mg "MOST" c_MOST
end LK
namespace LK
open PySem PySem.Spec PyProof.Rows L2 DL
section
variable {P : Program} {w : World} {K : PySem.W.Frag} {mg : Str → Option Value} {base : Heap}
theorem w_u_law_cup (T : Txt K mg) : FnOk P w K mg base CX0 1 T.u_law_cup.a T.u_law_cup.fd ["script"] (spNew K f_u_law_cup) :=
  new_ok (k := 0) T.u_law_cup.F sc_u_law_cup rfl (fun cdv A outer s H E hr => pds_set 1 sc_u_law_cup.nd (pd_abs rfl T.z_abs (pd_cons (pd_ix (pd_op op2_add op_addA (pd_list rfl T.z_list (pd_cons (pd_v 0) (pd_nil))) (pd_lst (pd_cons (pd_int) (pd_nil)))) (pd_int)) (pd_nil)))) (fun cdv A outer s H E hr => pd_cons (pd_if (pdt_cmp op2_cmp op_ge (nomark _) (pd_v 1) (pd_op op2_pow op_powX (pd_int) (pd_int))) (pd_op op2_fdiv op_fdivX (pd_v 1) (pd_int)) (pd_int)) (pd_cons (pd_op op2_add op_addA (pd_op op2_mod op_modX (pd_int' rfl T.z_int (pd_cons (pd_op op2_add op_addA (pd_op op2_mul op_mulX (pd_v 1) (pd_int)) (pd_int)) (pd_nil))) (pd_int)) (pd_int)) (pd_nil)))
theorem w_u_law_divisor (T : Txt K mg) : FnOk P w K mg base CX0 1 T.u_law_divisor.a T.u_law_divisor.fd ["one", "other"] (spD K f_u_law_divisor) :=
  def_ok (k := 0) T.u_law_divisor.F sc_u_law_divisor fun cdv A outer s H E hr => pds_cons (pds_par2 0 1 rfl sc_u_law_divisor.nd (pdan_cons (pdn_of (pd_abs rfl T.z_abs (pd_cons (pd_v 0) (pd_nil)))) (pdan_cons (pdn_of (pd_abs rfl T.z_abs (pd_cons (pd_v 1) (pd_nil)))) (pdan_nil)))) (pds_cons (pds_while PassesOwn.never (pdt_cmp op2_ne (op_neD hr.units) (nomark _) (pd_v 1) (pd_int)) (pds_one (pds_par2 0 1 rfl sc_u_law_divisor.nd (pdan_cons (pdn_of (pd_v 1)) (pdan_cons (pdn_of (pd_op op2_mod op_modX (pd_int' rfl T.z_int (pd_cons (pd_v 0) (pd_nil))) (pd_v 1))) (pdan_nil)))))) (pds_one (pds_return (pd_v 0))))
theorem w_u_law_least (T : Txt K mg) : FnOk P w K mg base CX0 2 T.u_law_least.a T.u_law_least.fd ["above", "below"] (spD K f_u_law_least) :=
  def_ok (k := 1) T.u_law_least.F sc_u_law_least fun cdv A outer s H E hr => pds_cons (pds_set 2 sc_u_law_least.nd (pd_if (pdt_cmp op2_cmp op_lt (nomark _) (pd_v 1) (pd_int)) (pd_neg (pd_int)) (pd_int))) (pds_cons (pds_set 3 sc_u_law_least.nd (pd_max rfl rfl T.z_max (pd_cons (pd_int) (pd_cons (pd_call (w_u_law_divisor T) (hr.mono (by decide)) rfl T.u_law_divisor.g T.u_law_divisor.F.kp T.u_law_divisor.b (pd_cons (pd_v 0) (pd_cons (pd_v 1) (pd_nil)))) (pd_nil))))) (pds_one (pds_return (pd_tup (pd_cons (pd_int' rfl T.z_int (pd_cons (pd_op op2_fdiv op_fdivX (pd_op op2_mul op_mulX (pd_v 2) (pd_v 0)) (pd_v 3)) (pd_nil))) (pd_cons (pd_int' rfl T.z_int (pd_cons (pd_op op2_fdiv op_fdivX (pd_op op2_mul op_mulX (pd_v 2) (pd_v 1)) (pd_v 3)) (pd_nil))) (pd_nil)))))))
theorem w_u_law_roll (T : Txt K mg) : FnOk P w K mg base CX0 1 T.u_law_roll.a T.u_law_roll.fd ["cup", "many"] (spD K f_u_law_roll) :=
  def_ok (k := 0) T.u_law_roll.F sc_u_law_roll fun cdv A outer s H E hr => pds_cons (pds_if (pdt_cmp op2_cmp op_gt (nomark _) (pd_cupIx 0 (pv 0)) (pd_int)) (pds_cons (pds_set 2 sc_u_law_roll.nd (pd_op op2_mod op_modX (pd_int' rfl T.z_int (pd_cons (pd_cupIx 0 (pv 0)) (pd_nil))) (pd_v 1))) (pds_cons (pds_cupSet 0 (pv 0) (pd_op op2_fdiv op_fdivX (pd_cupIx 0 (pv 0)) (pd_v 1))) (pds_one (pds_return (pd_v 2))))) (pds_nil)) (pds_cons (pds_cupSet 0 (pv 0) (pd_op op2_mod op_modX (pd_int' rfl T.z_int (pd_cons (pd_op op2_add op_addA (pd_op op2_mul op_mulX (pd_cupIx 0 (pv 0)) (pd_int)) (pd_int)) (pd_nil))) (pd_int))) (pds_cons (pds_set 3 sc_u_law_roll.nd (pd_op op2_mod op_modX (pd_int' rfl T.z_int (pd_cons (pd_op op2_mul op_mulX (pd_cupIx 0 (pv 0)) (pd_op op2_add op_addA (pd_cupIx 0 (pv 0)) (pd_int))) (pd_nil))) (pd_int))) (pds_one (pds_return (pd_op op2_mod op_modX (pd_int' rfl T.z_int (pd_cons (pd_op op2_fdiv op_fdivX (pd_v 3) (pd_int)) (pd_nil))) (pd_v 1))))))
theorem w_is_tuple_of (T : Txt K mg) : FnOk P w K mg base CX0 1 T.is_tuple_of.a T.is_tuple_of.fd ["value", "low", "high"] (spD K f_is_tuple_of) :=
  def_ok (k := 0) T.is_tuple_of.F sc_is_tuple_of fun cdv A outer s H E hr => pds_one (pds_return (pd_and (pd_isi (q := D.isTup) rfl T.z_isinstance rfl T.z_tuple bt_tuple kit_tup (by decide) (by decide) (pd_v 0)) (pd_one (pd_chain (pd_v 1) (ch_link op2_cmp op_le (pd_len' rfl T.z_len (pd_cons (pd_v 0) (pd_nil))) (ch_last op2_cmp op_le (pd_v 2)))))))
theorem w_divisor_of (T : Txt K mg) : FnOk P w K mg base CX0 1 T.divisor_of.a T.divisor_of.fd ["one", "other"] (spD K f_divisor_of) :=
  def_ok (k := 0) T.divisor_of.F sc_divisor_of fun cdv A outer s H E hr => pds_cons (pds_par2 0 1 rfl sc_divisor_of.nd (pdan_cons (pdn_of (pd_abs rfl T.z_abs (pd_cons (pd_v 0) (pd_nil)))) (pdan_cons (pdn_of (pd_abs rfl T.z_abs (pd_cons (pd_v 1) (pd_nil)))) (pdan_nil)))) (pds_cons (pds_while PassesOwn.never (pdt_cmp op2_ne (op_neD hr.units) (nomark _) (pd_v 1) (pd_int)) (pds_one (pds_par2 0 1 rfl sc_divisor_of.nd (pdan_cons (pdn_of (pd_v 1)) (pdan_cons (pdn_of (pd_op op2_mod op_modX (pd_v 0) (pd_v 1))) (pdan_nil)))))) (pds_one (pds_return (pd_v 0))))
theorem w_is_integer (T : Txt K mg) : FnOk P w K mg base CX0 1 T.is_integer.a T.is_integer.fd ["value"] (spD K f_is_integer) :=
  def_ok (k := 0) T.is_integer.F sc_is_integer fun cdv A outer s H E hr => pds_one (pds_return (pd_and (pd_isi (q := D.isInt) rfl T.z_isinstance rfl T.z_int bt_int kit_int (by decide) (by decide) (pd_v 0)) (pd_one (pd_not (pd_isi (q := D.isBool) rfl T.z_isinstance rfl T.z_bool bt_bool kit_bool (by decide) (by decide) (pd_v 0))))))
theorem w_fits_fraction (T : Txt K mg) : FnOk P w K mg base CX0 2 T.fits_fraction.a T.fits_fraction.fd ["value"] (spD K f_fits_fraction) :=
  def_ok (k := 1) T.fits_fraction.F sc_fits_fraction fun cdv A outer s H E hr => pds_cons (pds_if (pdt_w (pdw_or (pdt_not (pdt_val (pd_call (w_is_tuple_of T) (hr.mono (by decide)) rfl T.is_tuple_of.g T.is_tuple_of.F.kp T.is_tuple_of.b (pd_cons (pd_v 0) (pd_cons (pd_int) (pd_cons (pd_int) (pd_nil))))))) (pdw_or1 (pdt_not (pdt_val (pd_all rfl rfl T.z_all (pd_cons (pd_lc [("number", 1)] rfl sc_fits_fraction.nd (pid_seq (pd_v 0)) (blkOk_by (N := N_fits_fraction) (sc := defScope s_fits_fraction) (own := [("number", 1)]) (by decide +kernel)) (fun _ _ _ _ _ => pgd_name 1 sc_fits_fraction.nd) (fun _ _ _ _ _ => ptsd_nil) (fun _ _ _ _ _ => pd_and (pd_call (w_is_integer T) (hr.mono (by decide)) rfl T.is_integer.g T.is_integer.F.kp T.is_integer.b (pd_cons (pd_v 1) (pd_nil))) (pd_one (pd_chain (pd_neg (pd_const rfl T.c_GREAT)) (ch_link op2_cmp op_lt (pd_v 1) (ch_last op2_cmp op_lt (pd_const rfl T.c_GREAT))))))) (pd_nil)))))))) (pds_one (pds_return (pd_bl))) (pds_nil)) (pds_one (pds_return (pd_and (pd_cmp op2_cmp op_ge (nomark _) (pd_ix (pd_v 0) (pd_int)) (pd_int)) (pd_one (pd_cmp op2_eq (op_eqD hr.units) (nomark _) (pd_call (w_divisor_of T) (hr.mono (by decide)) rfl T.divisor_of.g T.divisor_of.F.kp T.divisor_of.b (pd_cons (pd_ix (pd_v 0) (pd_int)) (pd_cons (pd_ix (pd_v 0) (pd_int)) (pd_nil)))) (pd_int))))))
theorem w_need_fraction (T : Txt K mg) : FnOk P w K mg base CX0 3 T.need_fraction.a T.need_fraction.fd ["value"] (spD K f_need_fraction) :=
  def_ok (k := 2) T.need_fraction.F sc_need_fraction fun cdv A outer s H E hr => pds_one (pds_if (pdt_not (pdt_val (pd_call (w_fits_fraction T) (hr.mono (by decide)) rfl T.fits_fraction.g T.fits_fraction.F.kp T.fits_fraction.b (pd_cons (pd_v 0) (pd_nil))))) (pds_one (pds_never)) (pds_nil))
theorem w_is_whole (T : Txt K mg) : FnOk P w K mg base CX0 2 T.is_whole.a T.is_whole.fd ["value", "low", "high"] (spD K f_is_whole) :=
  def_ok (k := 1) T.is_whole.F sc_is_whole fun cdv A outer s H E hr => pds_one (pds_return (pd_and (pd_call (w_is_integer T) (hr.mono (by decide)) rfl T.is_integer.g T.is_integer.F.kp T.is_integer.b (pd_cons (pd_v 0) (pd_nil))) (pd_one (pd_chain (pd_v 1) (ch_link op2_cmp op_le (pd_v 0) (ch_last op2_cmp op_le (pd_v 2)))))))
theorem w_need_whole (T : Txt K mg) : FnOk P w K mg base CX0 3 T.need_whole.a T.need_whole.fd ["value", "low", "high"] (spD K f_need_whole) :=
  def_ok (k := 2) T.need_whole.F sc_need_whole fun cdv A outer s H E hr => pds_one (pds_if (pdt_not (pdt_val (pd_call (w_is_whole T) (hr.mono (by decide)) rfl T.is_whole.g T.is_whole.F.kp T.is_whole.b (pd_cons (pd_v 0) (pd_cons (pd_v 1) (pd_cons (pd_v 2) (pd_nil))))))) (pds_one (pds_never)) (pds_nil))
theorem w_undone_by (T : Txt K mg) : FnOk P w K mg base CX0 1 T.undone_by.a T.undone_by.fd ["number", "whole"] (spD K f_undone_by) :=
  def_ok (k := 0) T.undone_by.F sc_undone_by fun cdv A outer s H E hr => pds_cons (pds_asg (pgd_tup (n := 4) rfl (pgsd_cons (pgd_name 2 sc_undone_by.nd) (pgsd_cons (pgd_name 3 sc_undone_by.nd) (pgsd_cons (pgd_name 4 sc_undone_by.nd) (pgsd_cons (pgd_name 5 sc_undone_by.nd) (pgsd_nil)))))) (pd_tup (pd_cons (pd_op op2_mod op_modX (pd_v 0) (pd_v 1)) (pd_cons (pd_v 1) (pd_cons (pd_int) (pd_cons (pd_int) (pd_nil))))))) (pds_cons (pds_while PassesOwn.never (pdt_cmp op2_ne (op_neD hr.units) (nomark _) (pd_v 3) (pd_int)) (pds_one (pds_asg (pgd_tup (n := 4) rfl (pgsd_cons (pgd_name 2 sc_undone_by.nd) (pgsd_cons (pgd_name 3 sc_undone_by.nd) (pgsd_cons (pgd_name 4 sc_undone_by.nd) (pgsd_cons (pgd_name 5 sc_undone_by.nd) (pgsd_nil)))))) (pd_tup (pd_cons (pd_v 3) (pd_cons (pd_op op2_mod op_modX (pd_v 2) (pd_v 3)) (pd_cons (pd_v 5) (pd_cons (pd_op op2_sub op_sub (pd_v 4) (pd_op op2_mul op_mulX (pd_op op2_fdiv op_fdivX (pd_v 2) (pd_v 3)) (pd_v 5))) (pd_nil))))))))) (pds_one (pds_return (pd_op op2_mod op_modX (pd_v 4) (pd_v 1)))))
theorem w_lasts_below (T : Txt K mg) : FnOk P w K mg base CX0 2 T.lasts_below.a T.lasts_below.fd ["fraction"] (spD K f_lasts_below) :=
  def_ok (k := 1) T.lasts_below.F sc_lasts_below fun cdv A outer s H E hr => pds_cons (pds_asg (pgd_tup (n := 2) rfl (pgsd_cons (pgd_name 1 sc_lasts_below.nd) (pgsd_cons (pgd_name 2 sc_lasts_below.nd) (pgsd_nil)))) (pd_v 0)) (pds_one (pds_return (pd_tup (pd_cons (pd_if (pdt_cmp op2_cmp op_gt (nomark _) (pd_v 2) (pd_int)) (pd_call (w_undone_by T) (hr.mono (by decide)) rfl T.undone_by.g T.undone_by.F.kp T.undone_by.b (pd_cons (pd_v 1) (pd_cons (pd_v 2) (pd_nil)))) (pd_int)) (pd_cons (pd_if (pdt_cmp op2_cmp op_gt (nomark _) (pd_v 2) (pd_int)) (pd_call (w_undone_by T) (hr.mono (by decide)) rfl T.undone_by.g T.undone_by.F.kp T.undone_by.b (pd_cons (pd_neg (pd_v 1)) (pd_cons (pd_v 2) (pd_nil)))) (pd_int)) (pd_nil))))))
theorem w_touching_in (T : Txt K mg) : FnOk P w K mg base CX0 3 T.touching_in.a T.touching_in.fd ["fraction", "most"] (spD K f_touching_in) :=
  def_ok (k := 2) T.touching_in.F sc_touching_in fun cdv A outer s H E hr => pds_cons (pds_asg (pgd_tup (n := 2) rfl (pgsd_cons (pgd_name 2 sc_touching_in.nd) (pgsd_cons (pgd_name 3 sc_touching_in.nd) (pgsd_nil)))) (pd_v 0)) (pds_cons (pds_asg (pgd_tup (n := 2) rfl (pgsd_cons (pgd_name 4 sc_touching_in.nd) (pgsd_cons (pgd_name 5 sc_touching_in.nd) (pgsd_nil)))) (pd_call (w_lasts_below T) (hr.mono (by decide)) rfl T.lasts_below.g T.lasts_below.F.kp T.lasts_below.b (pd_cons (pd_v 0) (pd_nil)))) (pds_cons (pds_setLc 6 [("last", 8)] rfl sc_touching_in.nd (sw_true rfl rfl rfl (by decide +kernel)) (pid_range3 rfl T.z_range (pd_cons (pd_v 4) (pd_cons (pd_op op2_add op_addA (pd_v 1) (pd_int)) (pd_cons (pd_v 3) (pd_nil))))) (blkOk_by (N := N_touching_in) (sc := defScope s_touching_in) (own := [("last", 8)]) (by decide +kernel)) (fun _ _ _ _ _ => pgd_name 8 sc_touching_in.nd) (fun _ _ _ _ _ => ptsd_nil) (fun _ _ _ _ _ => pd_tup (pd_cons (pd_op op2_fdiv op_fdivX (pd_op op2_sub op_sub (pd_op op2_mul op_mulX (pd_v 2) (pd_v 8)) (pd_int)) (pd_v 3)) (pd_cons (pd_v 8) (pd_nil))))) (pds_cons (pds_setLc 7 [("last", 8)] rfl sc_touching_in.nd (sw_true rfl rfl rfl (by decide +kernel)) (pid_range3 rfl T.z_range (pd_cons (pd_v 5) (pd_cons (pd_op op2_add op_addA (pd_v 1) (pd_int)) (pd_cons (pd_v 3) (pd_nil))))) (blkOk_by (N := N_touching_in) (sc := defScope s_touching_in) (own := [("last", 8)]) (by decide +kernel)) (fun _ _ _ _ _ => pgd_name 8 sc_touching_in.nd) (fun _ _ _ _ _ => ptsd_nil) (fun _ _ _ _ _ => pd_tup (pd_cons (pd_op op2_fdiv op_fdivX (pd_op op2_add op_addA (pd_op op2_mul op_mulX (pd_v 2) (pd_v 8)) (pd_int)) (pd_v 3)) (pd_cons (pd_v 8) (pd_nil))))) (pds_one (pds_return (pd_op op2_add op_addA (pd_v 6) (pd_revA (pd_v 7))))))))
theorem w_ford_neighbours (T : Txt K mg) : FnOk P w K mg base CX0 4 T.ford_neighbours.a T.ford_neighbours.fd ["fraction", "most"] (spD K f_ford_neighbours) :=
  def_ok (k := 3) T.ford_neighbours.F sc_ford_neighbours fun cdv A outer s H E hr => pds_cons (pds_expr (pd_call (w_need_fraction T) (hr.mono (by decide)) rfl T.need_fraction.g T.need_fraction.F.kp T.need_fraction.b (pd_cons (pd_v 0) (pd_nil)))) (pds_cons (pds_expr (pd_call (w_need_whole T) (hr.mono (by decide)) rfl T.need_whole.g T.need_whole.F.kp T.need_whole.b (pd_cons (pd_v 1) (pd_cons (pd_int) (pd_cons (pd_const rfl T.c_MOST) (pd_nil)))))) (pds_one (pds_return (pd_tuple rfl T.z_tuple (pd_cons (pd_call (w_touching_in T) (hr.mono (by decide)) rfl T.touching_in.g T.touching_in.F.kp T.touching_in.b (pd_cons (pd_v 0) (pd_cons (pd_v 1) (pd_nil)))) (pd_nil))))))
theorem w_u_law_sort (T : Txt K mg) : FnOk P w K mg base CX0 1 T.u_law_sort.a T.u_law_sort.fd ["value"] (spD K f_u_law_sort) :=
  def_ok (k := 0) T.u_law_sort.F sc_u_law_sort fun cdv A outer s H E hr => pds_cons (pds_if (pdt_w (pdw_or (pdt_cmp op2_isN op_isN (nomark _) (pd_v 0) (pd_non)) (pdw_or1 (pdt_val (pd_isi (q := D.isBool) rfl T.z_isinstance rfl T.z_bool bt_bool kit_bool (by decide) (by decide) (pd_v 0)))))) (pds_one (pds_return (pd_if (pdt_cmp op2_isN op_isN (nomark _) (pd_v 0) (pd_non)) (pd_int) (pd_int)))) (pds_nil)) (pds_cons (pds_if (pdt_w (pdw_or (pdt_val (pd_isi (q := D.isInt) rfl T.z_isinstance rfl T.z_int bt_int kit_int (by decide) (by decide) (pd_v 0))) (pdw_or1 (pdt_val (pd_isi (q := D.isStr) rfl T.z_isinstance rfl T.z_str bt_str kit_str (by decide) (by decide) (pd_v 0)))))) (pds_one (pds_return (pd_if (pdt_val (pd_isi (q := D.isInt) rfl T.z_isinstance rfl T.z_int bt_int kit_int (by decide) (by decide) (pd_v 0))) (pd_int) (pd_int)))) (pds_nil)) (pds_one (pds_return (pd_if (pdt_val (pd_isi (q := D.isTup) rfl T.z_isinstance rfl T.z_tuple bt_tuple kit_tup (by decide) (by decide) (pd_v 0))) (pd_int) (pd_if (pdt_val (pd_isi (q := D.isLst) rfl T.z_isinstance rfl T.z_list bt_list kit_lst (by decide) (by decide) (pd_v 0))) (pd_int) (pd_int))))))
theorem ws_u_law_like (T : Txt K mg) (n : Nat) (ih : FnOk P w K mg base CX0 (1 + n) T.u_law_like.a T.u_law_like.fd ["one", "other"] (spD K (F_u_law_like n))) : FnOk P w K mg base CX0 (1 + n + 1) T.u_law_like.a T.u_law_like.fd ["one", "other"] (spD K (runD 5 2 (b_u_law_like (F_u_law_like n)))) :=
  def_ok (k := 1 + n) (m := b_u_law_like (F_u_law_like n)) T.u_law_like.F sc_u_law_like fun cdv A outer s H E hr => pds_cons (pds_set 2 sc_u_law_like.nd (pd_call (w_u_law_sort T) (hr.mono (by omega)) rfl T.u_law_sort.g T.u_law_sort.F.kp T.u_law_sort.b (pd_cons (pd_v 1) (pd_nil)))) (pds_cons (pds_if (pdt_w (pdw_or (pdt_cmp op2_ne (op_neD hr.units) (nomark _) (pd_call (w_u_law_sort T) (hr.mono (by omega)) rfl T.u_law_sort.g T.u_law_sort.F.kp T.u_law_sort.b (pd_cons (pd_v 0) (pd_nil))) (pd_v 2)) (pdw_or1 (pdt_cmp op2_eq (op_eqD hr.units) (nomark _) (pd_v 2) (pd_int))))) (pds_one (pds_return (pd_bl))) (pds_nil)) (pds_cons (pds_if (pdt_cmp op2_in op_in_seq (by with_unfolding_all rfl) (pd_v 2) (pd_tup (pd_cons (pd_int) (pd_cons (pd_int) (pd_nil))))) (pds_one (pds_return (pd_and (pd_cmp op2_eq (op_eqD hr.units) (nomark _) (pd_len' rfl T.z_len (pd_cons (pd_v 0) (pd_nil))) (pd_len' rfl T.z_len (pd_cons (pd_v 1) (pd_nil)))) (pd_one (pd_cmp op2_eq (op_eqD hr.units) (nomark _) (pd_lc [("first", 3), ("second", 4)] rfl sc_u_law_like.nd (pid_zip rfl T.z_zip (pd_cons (pd_v 0) (pd_cons (pd_v 1) (pd_nil)))) (blkOk_by (N := N_u_law_like) (sc := defScope s_u_law_like) (own := [("first", 3), ("second", 4)]) (by decide +kernel)) (fun _ _ _ _ _ => pgd_tup (n := 2) rfl (pgsd_cons (pgd_name 3 sc_u_law_like.nd) (pgsd_cons (pgd_name 4 sc_u_law_like.nd) (pgsd_nil)))) (fun _ _ _ _ _ => ptsd_one (pdt_not (pdt_val (pd_call (ih) hr rfl T.u_law_like.g T.u_law_like.F.kp T.u_law_like.b (pd_cons (pd_v 3) (pd_cons (pd_v 4) (pd_nil))))))) (fun _ _ _ _ _ => pd_int)) (pd_lst (pd_nil))))))) (pds_nil)) (pds_one (pds_return (pd_cmp op2_eq (op_eqD hr.units) (nomark _) (pd_v 0) (pd_v 1))))))
theorem w_u_law_like (T : Txt K mg) (n : Nat) : FnOk P w K mg base CX0 (1 + n) T.u_law_like.a T.u_law_like.fd ["one", "other"] (spD K (F_u_law_like n)) := by
  induction n with
  | zero => exact vac_ok
  | succ n ih =>
    have e : F_u_law_like (n + 1) = runD 5 2 (b_u_law_like (F_u_law_like n)) := rfl
    rw [e]
    exact ws_u_law_like T n ih
theorem w_need_fractions (T : Txt K mg) : FnOk P w K mg base CX0 4 T.need_fractions.a T.need_fractions.fd ["one", "other"] (spD K f_need_fractions) :=
  def_ok (k := 3) T.need_fractions.F sc_need_fractions fun cdv A outer s H E hr => pds_cons (pds_expr (pd_call (w_need_fraction T) (hr.mono (by decide)) rfl T.need_fraction.g T.need_fraction.F.kp T.need_fraction.b (pd_cons (pd_v 0) (pd_nil)))) (pds_one (pds_expr (pd_call (w_need_fraction T) (hr.mono (by decide)) rfl T.need_fraction.g T.need_fraction.F.kp T.need_fraction.b (pd_cons (pd_v 1) (pd_nil)))))
theorem w_are_touching (T : Txt K mg) : FnOk P w K mg base CX0 1 T.are_touching.a T.are_touching.fd ["one", "other"] (spD K f_are_touching) :=
  def_ok (k := 0) T.are_touching.F sc_are_touching fun cdv A outer s H E hr => pds_one (pds_return (pd_cmp op2_eq (op_eqD hr.units) (nomark _) (pd_abs rfl T.z_abs (pd_cons (pd_op op2_sub op_sub (pd_op op2_mul op_mulX (pd_ix (pd_v 0) (pd_int)) (pd_ix (pd_v 1) (pd_int))) (pd_op op2_mul op_mulX (pd_ix (pd_v 0) (pd_int)) (pd_ix (pd_v 1) (pd_int)))) (pd_nil))) (pd_int)))
theorem w_do_ford_touch (T : Txt K mg) : FnOk P w K mg base CX0 5 T.do_ford_touch.a T.do_ford_touch.fd ["fraction", "other"] (spD K f_do_ford_touch) :=
  def_ok (k := 4) T.do_ford_touch.F sc_do_ford_touch fun cdv A outer s H E hr => pds_cons (pds_expr (pd_call (w_need_fractions T) (hr.mono (by decide)) rfl T.need_fractions.g T.need_fractions.F.kp T.need_fractions.b (pd_cons (pd_v 0) (pd_cons (pd_v 1) (pd_nil))))) (pds_one (pds_return (pd_call (w_are_touching T) (hr.mono (by decide)) rfl T.are_touching.g T.are_touching.F.kp T.are_touching.b (pd_cons (pd_v 0) (pd_cons (pd_v 1) (pd_nil))))))
theorem w_lowest (T : Txt K mg) : FnOk P w K mg base CX0 2 T.lowest.a T.lowest.fd ["above", "below"] (spD K f_lowest) :=
  def_ok (k := 1) T.lowest.F sc_lowest fun cdv A outer s H E hr => pds_cons (pds_set 2 sc_lowest.nd (pd_op op2_mul op_mulX (pd_call (w_divisor_of T) (hr.mono (by decide)) rfl T.divisor_of.g T.divisor_of.F.kp T.divisor_of.b (pd_cons (pd_v 0) (pd_cons (pd_v 1) (pd_nil)))) (pd_if (pdt_cmp op2_cmp op_gt (nomark _) (pd_v 1) (pd_int)) (pd_int) (pd_neg (pd_int))))) (pds_one (pds_return (pd_tup (pd_cons (pd_op op2_fdiv op_fdivX (pd_v 0) (pd_v 2)) (pd_cons (pd_op op2_fdiv op_fdivX (pd_v 1) (pd_v 2)) (pd_nil))))))
theorem w_between_in (T : Txt K mg) : FnOk P w K mg base CX0 3 T.between_in.a T.between_in.fd ["one", "other"] (spD K f_between_in) :=
  def_ok (k := 2) T.between_in.F sc_between_in fun cdv A outer s H E hr => pds_one (pds_return (pd_call (w_lowest T) (hr.mono (by decide)) rfl T.lowest.g T.lowest.F.kp T.lowest.b (pd_cons (pd_op op2_add op_addA (pd_ix (pd_v 0) (pd_int)) (pd_ix (pd_v 1) (pd_int))) (pd_cons (pd_op op2_add op_addA (pd_ix (pd_v 0) (pd_int)) (pd_ix (pd_v 1) (pd_int))) (pd_nil)))))
theorem w_ford_between (T : Txt K mg) : FnOk P w K mg base CX0 5 T.ford_between.a T.ford_between.fd ["fraction", "other"] (spD K f_ford_between) :=
  def_ok (k := 4) T.ford_between.F sc_ford_between fun cdv A outer s H E hr => pds_cons (pds_expr (pd_call (w_need_fractions T) (hr.mono (by decide)) rfl T.need_fractions.g T.need_fractions.F.kp T.need_fractions.b (pd_cons (pd_v 0) (pd_cons (pd_v 1) (pd_nil))))) (pds_one (pds_return (pd_call (w_between_in T) (hr.mono (by decide)) rfl T.between_in.g T.between_in.F.kp T.between_in.b (pd_cons (pd_v 0) (pd_cons (pd_v 1) (pd_nil))))))
theorem w_ford_parents (T : Txt K mg) : FnOk P w K mg base CX0 4 T.ford_parents.a T.ford_parents.fd ["fraction"] (spD K f_ford_parents) :=
  def_ok (k := 3) T.ford_parents.F sc_ford_parents fun cdv A outer s H E hr => pds_cons (pds_expr (pd_call (w_need_fraction T) (hr.mono (by decide)) rfl T.need_fraction.g T.need_fraction.F.kp T.need_fraction.b (pd_cons (pd_v 0) (pd_nil)))) (pds_cons (pds_if (pdt_cmp op2_eq (op_eqD hr.units) (nomark _) (pd_ix (pd_v 0) (pd_int)) (pd_int)) (pds_one (pds_never)) (pds_nil)) (pds_cons (pds_asg (pgd_tup (n := 2) rfl (pgsd_cons (pgd_name 1 sc_ford_parents.nd) (pgsd_cons (pgd_name 2 sc_ford_parents.nd) (pgsd_nil)))) (pd_call (w_lasts_below T) (hr.mono (by decide)) rfl T.lasts_below.g T.lasts_below.F.kp T.lasts_below.b (pd_cons (pd_v 0) (pd_nil)))) (pds_one (pds_return (pd_tup (pd_cons (pd_tup (pd_cons (pd_op op2_fdiv op_fdivX (pd_op op2_sub op_sub (pd_op op2_mul op_mulX (pd_ix (pd_v 0) (pd_int)) (pd_v 1)) (pd_int)) (pd_ix (pd_v 0) (pd_int))) (pd_cons (pd_v 1) (pd_nil)))) (pd_cons (pd_tup (pd_cons (pd_op op2_fdiv op_fdivX (pd_op op2_add op_addA (pd_op op2_mul op_mulX (pd_ix (pd_v 0) (pd_int)) (pd_v 2)) (pd_int)) (pd_ix (pd_v 0) (pd_int))) (pd_cons (pd_v 2) (pd_nil)))) (pd_nil))))))))
theorem w_u_law_some (T : Txt K mg) : FnOk P w K mg base CX0 2 T.u_law_some.a T.u_law_some.fd ["cup", "things"] (spD K f_u_law_some) :=
  def_ok (k := 1) T.u_law_some.F sc_u_law_some fun cdv A outer s H E hr => pds_one (pds_return (pd_ix (pd_v 1) (pd_call (w_u_law_roll T) (hr.mono (by decide)) rfl T.u_law_roll.g T.u_law_roll.F.kp T.u_law_roll.b (pd_cons (pd_v 0) (pd_cons (pd_len' rfl T.z_len (pd_cons (pd_v 1) (pd_nil))) (pd_nil))))))
theorem w_u_law_touch (T : Txt K mg) : FnOk P w K mg base CX0 1 T.u_law_touch.a T.u_law_touch.fd ["one", "other"] (spD K f_u_law_touch) :=
  def_ok (k := 0) T.u_law_touch.F sc_u_law_touch fun cdv A outer s H E hr => pds_cons (pds_par2 2 3 rfl sc_u_law_touch.nd (pdan_cons (pdn_of (pd_op op2_sub op_sub (pd_op op2_mul op_mulX (pd_ix (pd_v 0) (pd_int)) (pd_ix (pd_v 1) (pd_int))) (pd_op op2_mul op_mulX (pd_ix (pd_v 1) (pd_int)) (pd_ix (pd_v 0) (pd_int))))) (pdan_cons (pdn_of (pd_op op2_mul op_mulX (pd_ix (pd_v 0) (pd_int)) (pd_ix (pd_v 1) (pd_int)))) (pdan_nil)))) (pds_one (pds_return (pd_and (pd_cmp op2_eq (op_eqD hr.units) (nomark _) (pd_op op2_mul op_mulX (pd_op op2_mul op_mulX (pd_op op2_mul op_mulX (pd_v 2) (pd_v 2)) (pd_v 3)) (pd_v 3)) (pd_op op2_mul op_mulX (pd_v 3) (pd_v 3))) (pd_one (pd_cmp op2_ne (op_neD hr.units) (nomark _) (pd_v 0) (pd_v 1))))))
theorem w_u_law_small_right (T : Txt K mg) : FnOk P w K mg base CX0 6 T.u_law_small_right.a T.u_law_small_right.fd ["cup", "one", "most"] (spD K f_u_law_small_right) :=
  def_ok (k := 5) T.u_law_small_right.F sc_u_law_small_right fun cdv A outer s H E hr => pds_cons (pds_set 3 sc_u_law_small_right.nd (pd_lst (pd_nil))) (pds_cons (pds_for PassesOwn.never rfl (pid_range2 rfl T.z_range (pd_cons (pd_int) (pd_cons (pd_op op2_add op_addA (pd_v 2) (pd_int)) (pd_nil)))) (pgd_name 4 sc_u_law_small_right.nd) (pds_cons (pds_set 5 sc_u_law_small_right.nd (pd_op op2_fdiv op_fdivX (pd_op op2_mul op_mulX (pd_ix (pd_v 1) (pd_int)) (pd_v 4)) (pd_ix (pd_v 1) (pd_int)))) (pds_one (pds_set 3 sc_u_law_small_right.nd (pd_op op2_add op_addA (pd_v 3) (pd_lc [("first", 8)] rfl sc_u_law_small_right.nd (pid_range2 rfl T.z_range (pd_cons (pd_op op2_sub op_sub (pd_v 5) (pd_int)) (pd_cons (pd_op op2_add op_addA (pd_v 5) (pd_int)) (pd_nil)))) (blkOk_by (N := N_u_law_small_right) (sc := defScope s_u_law_small_right) (own := [("first", 8)]) (by decide +kernel)) (fun _ _ _ _ _ => pgd_name 8 sc_u_law_small_right.nd) (fun _ _ _ _ _ => ptsd_one (pdt_val (pd_call (w_u_law_touch T) (hr.mono (by decide)) rfl T.u_law_touch.g T.u_law_touch.F.kp T.u_law_touch.b (pd_cons (pd_v 1) (pd_cons (pd_tup (pd_cons (pd_v 8) (pd_cons (pd_v 4) (pd_nil)))) (pd_nil)))))) (fun _ _ _ _ _ => pd_tup (pd_cons (pd_v 8) (pd_cons (pd_v 4) (pd_nil)))))))))) (pds_cons (pds_set 6 sc_u_law_small_right.nd (pd_call (w_ford_neighbours T) (hr.mono (by decide)) rfl T.ford_neighbours.g T.ford_neighbours.F.kp T.ford_neighbours.b (pd_cons (pd_v 1) (pd_cons (pd_v 2) (pd_nil))))) (pds_cons (pds_if (pdt_w (pdw_or (pdt_cmp op2_ne (op_neD hr.units) (nomark _) (pd_sorted hr rfl T.z_sorted (pd_cons (pd_v 6) (pd_nil))) (pd_sorted hr rfl T.z_sorted (pd_cons (pd_v 3) (pd_nil)))) (pdw_or1 (pdt_cmp op2_ne (op_neD hr.units) (nomark _) (pd_lc [("low", 9), ("high", 10)] rfl sc_u_law_small_right.nd (pid_zip rfl T.z_zip (pd_cons (pd_v 6) (pd_cons (pd_slice (pd_v 6) (pdo_some (pd_int)) pdo_none) (pd_nil)))) (blkOk_by (N := N_u_law_small_right) (sc := defScope s_u_law_small_right) (own := [("low", 9), ("high", 10)]) (by decide +kernel)) (fun _ _ _ _ _ => pgd_tup (n := 2) rfl (pgsd_cons (pgd_name 9 sc_u_law_small_right.nd) (pgsd_cons (pgd_name 10 sc_u_law_small_right.nd) (pgsd_nil)))) (fun _ _ _ _ _ => ptsd_one (pdt_cmp op2_cmp op_ge (nomark _) (pd_op op2_mul op_mulX (pd_ix (pd_v 9) (pd_int)) (pd_ix (pd_v 10) (pd_int))) (pd_op op2_mul op_mulX (pd_ix (pd_v 10) (pd_int)) (pd_ix (pd_v 9) (pd_int))))) (fun _ _ _ _ _ => pd_int)) (pd_lst (pd_nil)))))) (pds_one (pds_return (pd_bl))) (pds_nil)) (pds_one (pds_return (pd_cmp op2_eq (op_eqD hr.units) (nomark _) (pd_lc [("own", 7)] rfl sc_u_law_small_right.nd (pid_seq (pd_v 6)) (blkOk_by (N := N_u_law_small_right) (sc := defScope s_u_law_small_right) (own := [("own", 7)]) (by decide +kernel)) (fun _ _ _ _ _ => pgd_name 7 sc_u_law_small_right.nd) (fun _ _ _ _ _ => ptsd_one (pdt_w (pdw_or (pdt_cmp op2_ne (op_neD hr.units) (nomark _) (pd_call (w_u_law_divisor T) (hr.mono (by decide)) rfl T.u_law_divisor.g T.u_law_divisor.F.kp T.u_law_divisor.b (pd_cons (pd_ix (pd_v 7) (pd_int)) (pd_cons (pd_ix (pd_v 7) (pd_int)) (pd_nil)))) (pd_int)) (pdw_or1 (pdt_cmp op2_notB op_notBl (nomark _) (pd_call (w_do_ford_touch T) (hr.mono (by decide)) rfl T.do_ford_touch.g T.do_ford_touch.F.kp T.do_ford_touch.b (pd_cons (pd_v 1) (pd_cons (pd_v 7) (pd_nil)))) (pd_bl)))))) (fun _ _ _ _ _ => pd_v 7)) (pd_lst (pd_nil))))))))
theorem w_ford_bends (T : Txt K mg) : FnOk P w K mg base CX0 5 T.ford_bends.a T.ford_bends.fd ["fraction", "other"] (spD K f_ford_bends) :=
  def_ok (k := 4) T.ford_bends.F sc_ford_bends fun cdv A outer s H E hr => pds_cons (pds_expr (pd_call (w_need_fractions T) (hr.mono (by decide)) rfl T.need_fractions.g T.need_fractions.F.kp T.need_fractions.b (pd_cons (pd_v 0) (pd_cons (pd_v 1) (pd_nil))))) (pds_cons (pds_if (pdt_not (pdt_val (pd_call (w_are_touching T) (hr.mono (by decide)) rfl T.are_touching.g T.are_touching.F.kp T.are_touching.b (pd_cons (pd_v 0) (pd_cons (pd_v 1) (pd_nil)))))) (pds_one (pds_never)) (pds_nil)) (pds_cons (pds_set 2 sc_ford_bends.nd (pd_tup (pd_cons (pd_ix (pd_v 0) (pd_int)) (pd_cons (pd_ix (pd_v 1) (pd_int)) (pd_cons (pd_op op2_add op_addA (pd_ix (pd_v 0) (pd_int)) (pd_ix (pd_v 1) (pd_int))) (pd_nil)))))) (pds_one (pds_return (pd_op op2_add op_addA (pd_tup (pd_cons (pd_int) (pd_nil))) (pd_tuple rfl T.z_tuple (pd_cons (pd_lc [("last", 3)] rfl sc_ford_bends.nd (pid_seq (pd_v 2)) (blkOk_by (N := N_ford_bends) (sc := defScope s_ford_bends) (own := [("last", 3)]) (by decide +kernel)) (fun _ _ _ _ _ => pgd_name 3 sc_ford_bends.nd) (fun _ _ _ _ _ => ptsd_nil) (fun _ _ _ _ _ => pd_op op2_mul op_mulX (pd_op op2_mul op_mulX (pd_int) (pd_v 3)) (pd_v 3))) (pd_nil))))))))
theorem w_u_law_fraction (T : Txt K mg) : FnOk P w K mg base CX0 3 T.u_law_fraction.a T.u_law_fraction.fd ["cup", "most"] (spD K f_u_law_fraction) :=
  def_ok (k := 2) T.u_law_fraction.F sc_u_law_fraction fun cdv A outer s H E hr => pds_one (pds_return (pd_call (w_u_law_least T) (hr.mono (by decide)) rfl T.u_law_least.g T.u_law_least.F.kp T.u_law_least.b (pd_cons (pd_op op2_sub op_sub (pd_call (w_u_law_roll T) (hr.mono (by decide)) rfl T.u_law_roll.g T.u_law_roll.F.kp T.u_law_roll.b (pd_cons (pd_v 0) (pd_cons (pd_op op2_add op_addA (pd_op op2_mul op_mulX (pd_int) (pd_v 1)) (pd_int)) (pd_nil)))) (pd_op op2_mul op_mulX (pd_int) (pd_v 1))) (pd_cons (pd_op op2_add op_addA (pd_int) (pd_call (w_u_law_roll T) (hr.mono (by decide)) rfl T.u_law_roll.g T.u_law_roll.F.kp T.u_law_roll.b (pd_cons (pd_v 0) (pd_cons (pd_v 1) (pd_nil))))) (pd_nil)))))
theorem w_u_law_parents_right (T : Txt K mg) : FnOk P w K mg base CX0 12 T.u_law_parents_right.a T.u_law_parents_right.fd ["one"] (spD K f_u_law_parents_right) :=
  def_ok (k := 11) T.u_law_parents_right.F sc_u_law_parents_right fun cdv A outer s H E hr => pds_cons (pds_if (pdt_cmp op2_eq (op_eqD hr.units) (nomark _) (pd_ix (pd_v 0) (pd_int)) (pd_int)) (pds_one (pds_return (pd_bl))) (pds_nil)) (pds_cons (pds_asg (pgd_tup (n := 2) rfl (pgsd_cons (pgd_name 1 sc_u_law_parents_right.nd) (pgsd_cons (pgd_name 2 sc_u_law_parents_right.nd) (pgsd_nil)))) (pd_call (w_ford_parents T) (hr.mono (by decide)) rfl T.ford_parents.g T.ford_parents.F.kp T.ford_parents.b (pd_cons (pd_v 0) (pd_nil)))) (pds_cons (pds_if (pdt_w (pdw_or (pdt_not (pdt_cmp op2_eq (op_eqD hr.units) (nomark _) (pd_op op2_add op_addA (pd_ix (pd_v 1) (pd_int)) (pd_ix (pd_v 2) (pd_int))) (pd_ix (pd_v 0) (pd_int)))) (pdw_or (pdt_not (pdt_cmp op2_eq (op_eqD hr.units) (nomark _) (pd_op op2_add op_addA (pd_ix (pd_v 1) (pd_int)) (pd_ix (pd_v 2) (pd_int))) (pd_ix (pd_v 0) (pd_int)))) (pdw_or (pdt_cmp op2_cmp op_lt (nomark _) (pd_ix (pd_v 1) (pd_int)) (pd_int)) (pdw_or1 (pdt_cmp op2_cmp op_lt (nomark _) (pd_ix (pd_v 2) (pd_int)) (pd_int))))))) (pds_one (pds_return (pd_bl))) (pds_nil)) (pds_cons (pds_set 3 sc_u_law_parents_right.nd (pd_lst (pd_cons (pd_call (w_do_ford_touch T) (hr.mono (by decide)) rfl T.do_ford_touch.g T.do_ford_touch.F.kp T.do_ford_touch.b (pd_cons (pd_v 0) (pd_cons (pd_v 1) (pd_nil)))) (pd_cons (pd_call (w_do_ford_touch T) (hr.mono (by decide)) rfl T.do_ford_touch.g T.do_ford_touch.F.kp T.do_ford_touch.b (pd_cons (pd_v 0) (pd_cons (pd_v 2) (pd_nil)))) (pd_cons (pd_call (w_do_ford_touch T) (hr.mono (by decide)) rfl T.do_ford_touch.g T.do_ford_touch.F.kp T.do_ford_touch.b (pd_cons (pd_v 1) (pd_cons (pd_v 2) (pd_nil)))) (pd_cons (pd_call (w_ford_between T) (hr.mono (by decide)) rfl T.ford_between.g T.ford_between.F.kp T.ford_between.b (pd_cons (pd_v 1) (pd_cons (pd_v 2) (pd_nil)))) (pd_nil))))))) (pds_one (pds_return (pd_and (pd_call (w_u_law_like T 10) (hr.mono (by decide)) rfl T.u_law_like.g T.u_law_like.F.kp T.u_law_like.b (pd_cons (pd_v 3) (pd_cons (pd_lst (pd_cons (pd_bl) (pd_cons (pd_bl) (pd_cons (pd_bl) (pd_cons (pd_v 0) (pd_nil)))))) (pd_nil)))) (pd_one (pd_cmp op2_cmp op_lt (nomark _) (pd_op op2_mul op_mulX (pd_ix (pd_v 1) (pd_int)) (pd_ix (pd_v 2) (pd_int))) (pd_op op2_mul op_mulX (pd_ix (pd_v 2) (pd_int)) (pd_ix (pd_v 1) (pd_int)))))))))))
theorem w_is_touching (T : Txt K mg) : FnOk P w K mg base CX0 1 T.is_touching.a T.is_touching.fd ["row"] (spD K f_is_touching) :=
  def_ok (k := 0) T.is_touching.F sc_is_touching fun cdv A outer s H E hr => pds_one (pds_return (pd_and (pd_cmp op2_eq (op_eqD hr.units) (nomark _) (pd_op op2_mul op_mulX (pd_int) (pd_sum rfl rfl T.z_sum (pd_cons (pd_lc [("bend", 1)] rfl sc_is_touching.nd (pid_seq (pd_v 0)) (blkOk_by (N := N_is_touching) (sc := defScope s_is_touching) (own := [("bend", 1)]) (by decide +kernel)) (fun _ _ _ _ _ => pgd_name 1 sc_is_touching.nd) (fun _ _ _ _ _ => ptsd_nil) (fun _ _ _ _ _ => pd_op op2_mul op_mulX (pd_v 1) (pd_v 1))) (pd_nil)))) (pd_op op2_pow op_powX (pd_sum rfl rfl T.z_sum (pd_cons (pd_v 0) (pd_nil))) (pd_int))) (pd_one (pd_cmp op2_cmp op_gt (nomark _) (pd_sum rfl rfl T.z_sum (pd_cons (pd_v 0) (pd_nil))) (pd_int)))))
theorem w_fits_row (T : Txt K mg) : FnOk P w K mg base CX0 2 T.fits_row.a T.fits_row.fd ["value"] (spD K f_fits_row) :=
  def_ok (k := 1) T.fits_row.F sc_fits_row fun cdv A outer s H E hr => pds_cons (pds_if (pdt_w (pdw_or (pdt_not (pdt_val (pd_call (w_is_tuple_of T) (hr.mono (by decide)) rfl T.is_tuple_of.g T.is_tuple_of.F.kp T.is_tuple_of.b (pd_cons (pd_v 0) (pd_cons (pd_int) (pd_cons (pd_int) (pd_nil))))))) (pdw_or1 (pdt_not (pdt_val (pd_all rfl rfl T.z_all (pd_cons (pd_lc [("bend", 1)] rfl sc_fits_row.nd (pid_seq (pd_v 0)) (blkOk_by (N := N_fits_row) (sc := defScope s_fits_row) (own := [("bend", 1)]) (by decide +kernel)) (fun _ _ _ _ _ => pgd_name 1 sc_fits_row.nd) (fun _ _ _ _ _ => ptsd_nil) (fun _ _ _ _ _ => pd_and (pd_call (w_is_integer T) (hr.mono (by decide)) rfl T.is_integer.g T.is_integer.F.kp T.is_integer.b (pd_cons (pd_v 1) (pd_nil))) (pd_one (pd_chain (pd_neg (pd_const rfl T.c_GREAT)) (ch_link op2_cmp op_lt (pd_v 1) (ch_last op2_cmp op_lt (pd_const rfl T.c_GREAT))))))) (pd_nil)))))))) (pds_one (pds_return (pd_bl))) (pds_nil)) (pds_one (pds_return (pd_call (w_is_touching T) (hr.mono (by decide)) rfl T.is_touching.g T.is_touching.F.kp T.is_touching.b (pd_cons (pd_v 0) (pd_nil)))))
theorem w_is_row_of_bends (T : Txt K mg) : FnOk P w K mg base CX0 3 T.is_row_of_bends.a T.is_row_of_bends.fd ["value"] (spD K f_is_row_of_bends) :=
  def_ok (k := 2) T.is_row_of_bends.F sc_is_row_of_bends fun cdv A outer s H E hr => pds_one (pds_return (pd_call (w_fits_row T) (hr.mono (by decide)) rfl T.fits_row.g T.fits_row.F.kp T.fits_row.b (pd_cons (pd_v 0) (pd_nil))))
theorem w_u_law_right (T : Txt K mg) : FnOk P w K mg base CX0 12 T.u_law_right.a T.u_law_right.fd ["cup", "one", "other"] (spD K f_u_law_right) :=
  def_ok (k := 11) T.u_law_right.F sc_u_law_right fun cdv A outer s H E hr => pds_cons (pds_set 3 sc_u_law_right.nd (pd_call (w_u_law_least T) (hr.mono (by decide)) rfl T.u_law_least.g T.u_law_least.F.kp T.u_law_least.b (pd_cons (pd_op op2_add op_addA (pd_ix (pd_v 1) (pd_int)) (pd_ix (pd_v 2) (pd_int))) (pd_cons (pd_op op2_add op_addA (pd_ix (pd_v 1) (pd_int)) (pd_ix (pd_v 2) (pd_int))) (pd_nil))))) (pds_cons (pds_set 4 sc_u_law_right.nd (pd_call (w_u_law_touch T) (hr.mono (by decide)) rfl T.u_law_touch.g T.u_law_touch.F.kp T.u_law_touch.b (pd_cons (pd_v 1) (pd_cons (pd_v 2) (pd_nil))))) (pds_cons (pds_set 5 sc_u_law_right.nd (pd_lst (pd_cons (pd_call (w_do_ford_touch T) (hr.mono (by decide)) rfl T.do_ford_touch.g T.do_ford_touch.F.kp T.do_ford_touch.b (pd_cons (pd_v 1) (pd_cons (pd_v 2) (pd_nil)))) (pd_cons (pd_call (w_do_ford_touch T) (hr.mono (by decide)) rfl T.do_ford_touch.g T.do_ford_touch.F.kp T.do_ford_touch.b (pd_cons (pd_v 2) (pd_cons (pd_v 1) (pd_nil)))) (pd_cons (pd_call (w_ford_between T) (hr.mono (by decide)) rfl T.ford_between.g T.ford_between.F.kp T.ford_between.b (pd_cons (pd_v 1) (pd_cons (pd_v 2) (pd_nil)))) (pd_cons (pd_call (w_ford_between T) (hr.mono (by decide)) rfl T.ford_between.g T.ford_between.F.kp T.ford_between.b (pd_cons (pd_v 1) (pd_cons (pd_v 1) (pd_nil)))) (pd_nil))))))) (pds_cons (pds_if (pdt_not (pdt_val (pd_call (w_u_law_like T 10) (hr.mono (by decide)) rfl T.u_law_like.g T.u_law_like.F.kp T.u_law_like.b (pd_cons (pd_v 5) (pd_cons (pd_lst (pd_cons (pd_v 4) (pd_cons (pd_v 4) (pd_cons (pd_v 3) (pd_cons (pd_v 1) (pd_nil)))))) (pd_nil)))))) (pds_one (pds_return (pd_bl))) (pds_nil)) (pds_cons (pds_asg (pgd_tup (n := 2) rfl (pgsd_cons (pgd_name 6 sc_u_law_right.nd) (pgsd_cons (pgd_name 7 sc_u_law_right.nd) (pgsd_nil)))) (pd_if (pdt_cmp op2_cmp op_lt (nomark _) (pd_op op2_mul op_mulX (pd_ix (pd_v 1) (pd_int)) (pd_ix (pd_v 2) (pd_int))) (pd_op op2_mul op_mulX (pd_ix (pd_v 2) (pd_int)) (pd_ix (pd_v 1) (pd_int)))) (pd_tup (pd_cons (pd_v 1) (pd_cons (pd_v 2) (pd_nil)))) (pd_tup (pd_cons (pd_v 2) (pd_cons (pd_v 1) (pd_nil)))))) (pds_cons (pds_if (pdt_w (pdw_and (pdt_cmp op2_ne (op_neD hr.units) (nomark _) (pd_v 1) (pd_v 2)) (pdw_and1 (pdt_not (pdt_w (pdw_and (pdt_cmp op2_cmp op_lt (nomark _) (pd_op op2_mul op_mulX (pd_ix (pd_v 6) (pd_int)) (pd_ix (pd_v 3) (pd_int))) (pd_op op2_mul op_mulX (pd_ix (pd_v 3) (pd_int)) (pd_ix (pd_v 6) (pd_int)))) (pdw_and1 (pdt_cmp op2_cmp op_lt (nomark _) (pd_op op2_mul op_mulX (pd_ix (pd_v 3) (pd_int)) (pd_ix (pd_v 7) (pd_int))) (pd_op op2_mul op_mulX (pd_ix (pd_v 7) (pd_int)) (pd_ix (pd_v 3) (pd_int))))))))))) (pds_one (pds_return (pd_bl))) (pds_nil)) (pds_cons (pds_if (pdt_val (pd_v 4)) (pds_cons (pds_set 8 sc_u_law_right.nd (pd_call (w_ford_bends T) (hr.mono (by decide)) rfl T.ford_bends.g T.ford_bends.F.kp T.ford_bends.b (pd_cons (pd_v 1) (pd_cons (pd_v 2) (pd_nil))))) (pds_cons (pds_set 9 sc_u_law_right.nd (pd_tup (pd_cons (pd_int) (pd_cons (pd_op op2_mul op_mulX (pd_op op2_mul op_mulX (pd_int) (pd_ix (pd_v 1) (pd_int))) (pd_ix (pd_v 1) (pd_int))) (pd_cons (pd_op op2_mul op_mulX (pd_op op2_mul op_mulX (pd_int) (pd_ix (pd_v 2) (pd_int))) (pd_ix (pd_v 2) (pd_int))) (pd_cons (pd_op op2_mul op_mulX (pd_op op2_mul op_mulX (pd_int) (pd_op op2_add op_addA (pd_ix (pd_v 1) (pd_int)) (pd_ix (pd_v 2) (pd_int)))) (pd_op op2_add op_addA (pd_ix (pd_v 1) (pd_int)) (pd_ix (pd_v 2) (pd_int)))) (pd_nil))))))) (pds_one (pds_if (pdt_not (pdt_val (pd_call (w_u_law_like T 10) (hr.mono (by decide)) rfl T.u_law_like.g T.u_law_like.F.kp T.u_law_like.b (pd_cons (pd_lst (pd_cons (pd_v 8) (pd_cons (pd_call (w_is_row_of_bends T) (hr.mono (by decide)) rfl T.is_row_of_bends.g T.is_row_of_bends.F.kp T.is_row_of_bends.b (pd_cons (pd_v 8) (pd_nil))) (pd_cons (pd_call (w_do_ford_touch T) (hr.mono (by decide)) rfl T.do_ford_touch.g T.do_ford_touch.F.kp T.do_ford_touch.b (pd_cons (pd_v 1) (pd_cons (pd_v 3) (pd_nil)))) (pd_cons (pd_call (w_do_ford_touch T) (hr.mono (by decide)) rfl T.do_ford_touch.g T.do_ford_touch.F.kp T.do_ford_touch.b (pd_cons (pd_v 3) (pd_cons (pd_v 2) (pd_nil)))) (pd_nil)))))) (pd_cons (pd_lst (pd_cons (pd_v 9) (pd_cons (pd_bl) (pd_cons (pd_bl) (pd_cons (pd_bl) (pd_nil)))))) (pd_nil)))))) (pds_one (pds_return (pd_bl))) (pds_nil))))) (pds_nil)) (pds_one (pds_return (pd_bl)))))))))
theorem w_law (T : Txt K mg) (hm : ∀ ns : List Int, ns.length ≤ 63 → ∃ c', b_law (some (.scr (ns.map D.int)) :: List.replicate 12 none) none = .ok (.ret (.bl true)) c') : FnOk P w K mg base CX0 13 T.law.a T.law.fd ["script"] (spLaw K) :=
  law_ok (k := 12) T.law.F sc_law (fun cdv A outer s H E hr => law_cup 1 sc_law.nd (w_u_law_cup T) (hr.mono (by decide)) rfl T.u_law_cup.g T.u_law_cup.F.kp T.u_law_cup.b (pd_cons (pd_v 0) (pd_nil)) (law_of (pds_cons (pds_set 2 sc_law.nd (pd_lst (pd_cons (pd_call (w_do_ford_touch T) (hr.mono (by decide)) rfl T.do_ford_touch.g T.do_ford_touch.F.kp T.do_ford_touch.b (pd_cons (pd_tup (pd_cons (pd_int) (pd_cons (pd_int) (pd_nil)))) (pd_cons (pd_tup (pd_cons (pd_int) (pd_cons (pd_int) (pd_nil)))) (pd_nil)))) (pd_cons (pd_call (w_do_ford_touch T) (hr.mono (by decide)) rfl T.do_ford_touch.g T.do_ford_touch.F.kp T.do_ford_touch.b (pd_cons (pd_tup (pd_cons (pd_int) (pd_cons (pd_int) (pd_nil)))) (pd_cons (pd_tup (pd_cons (pd_int) (pd_cons (pd_int) (pd_nil)))) (pd_nil)))) (pd_cons (pd_call (w_do_ford_touch T) (hr.mono (by decide)) rfl T.do_ford_touch.g T.do_ford_touch.F.kp T.do_ford_touch.b (pd_cons (pd_tup (pd_cons (pd_int) (pd_cons (pd_int) (pd_nil)))) (pd_cons (pd_tup (pd_cons (pd_int) (pd_cons (pd_int) (pd_nil)))) (pd_nil)))) (pd_cons (pd_call (w_ford_between T) (hr.mono (by decide)) rfl T.ford_between.g T.ford_between.F.kp T.ford_between.b (pd_cons (pd_tup (pd_cons (pd_int) (pd_cons (pd_int) (pd_nil)))) (pd_cons (pd_tup (pd_cons (pd_int) (pd_cons (pd_int) (pd_nil)))) (pd_nil)))) (pd_nil))))))) (pds_cons (pds_set 2 sc_law.nd (pd_op op2_add op_addA (pd_v 2) (pd_lst (pd_cons (pd_call (w_ford_between T) (hr.mono (by decide)) rfl T.ford_between.g T.ford_between.F.kp T.ford_between.b (pd_cons (pd_tup (pd_cons (pd_int) (pd_cons (pd_int) (pd_nil)))) (pd_cons (pd_tup (pd_cons (pd_int) (pd_cons (pd_int) (pd_nil)))) (pd_nil)))) (pd_cons (pd_call (w_ford_bends T) (hr.mono (by decide)) rfl T.ford_bends.g T.ford_bends.F.kp T.ford_bends.b (pd_cons (pd_tup (pd_cons (pd_int) (pd_cons (pd_int) (pd_nil)))) (pd_cons (pd_tup (pd_cons (pd_int) (pd_cons (pd_int) (pd_nil)))) (pd_nil)))) (pd_nil)))))) (pds_cons (pds_if (pdt_not (pdt_val (pd_call (w_u_law_like T 10) (hr.mono (by decide)) rfl T.u_law_like.g T.u_law_like.F.kp T.u_law_like.b (pd_cons (pd_v 2) (pd_cons (pd_lst (pd_cons (pd_bl) (pd_cons (pd_bl) (pd_cons (pd_bl) (pd_cons (pd_tup (pd_cons (pd_int) (pd_cons (pd_int) (pd_nil)))) (pd_cons (pd_tup (pd_cons (pd_int) (pd_cons (pd_int) (pd_nil)))) (pd_cons (pd_tup (pd_cons (pd_int) (pd_cons (pd_int) (pd_cons (pd_int) (pd_cons (pd_int) (pd_nil)))))) (pd_nil)))))))) (pd_nil)))))) (pds_one (pds_return (pd_bl))) (pds_nil)) (pds_cons (pds_set 2 sc_law.nd (pd_lst (pd_cons (pd_call (w_ford_parents T) (hr.mono (by decide)) rfl T.ford_parents.g T.ford_parents.F.kp T.ford_parents.b (pd_cons (pd_tup (pd_cons (pd_int) (pd_cons (pd_int) (pd_nil)))) (pd_nil))) (pd_cons (pd_call (w_ford_parents T) (hr.mono (by decide)) rfl T.ford_parents.g T.ford_parents.F.kp T.ford_parents.b (pd_cons (pd_tup (pd_cons (pd_neg (pd_int)) (pd_cons (pd_int) (pd_nil)))) (pd_nil))) (pd_cons (pd_call (w_ford_neighbours T) (hr.mono (by decide)) rfl T.ford_neighbours.g T.ford_neighbours.F.kp T.ford_neighbours.b (pd_cons (pd_tup (pd_cons (pd_int) (pd_cons (pd_int) (pd_nil)))) (pd_cons (pd_int) (pd_nil)))) (pd_cons (pd_call (w_ford_neighbours T) (hr.mono (by decide)) rfl T.ford_neighbours.g T.ford_neighbours.F.kp T.ford_neighbours.b (pd_cons (pd_tup (pd_cons (pd_int) (pd_cons (pd_int) (pd_nil)))) (pd_cons (pd_int) (pd_nil)))) (pd_nil))))))) (pds_cons (pds_set 3 sc_law.nd (pd_lst (pd_cons (pd_tup (pd_cons (pd_tup (pd_cons (pd_int) (pd_cons (pd_int) (pd_nil)))) (pd_cons (pd_tup (pd_cons (pd_int) (pd_cons (pd_int) (pd_nil)))) (pd_nil)))) (pd_cons (pd_tup (pd_cons (pd_tup (pd_cons (pd_neg (pd_int)) (pd_cons (pd_int) (pd_nil)))) (pd_cons (pd_tup (pd_cons (pd_int) (pd_cons (pd_int) (pd_nil)))) (pd_nil)))) (pd_cons (pd_tup (pd_cons (pd_tup (pd_cons (pd_int) (pd_cons (pd_int) (pd_nil)))) (pd_cons (pd_tup (pd_cons (pd_int) (pd_cons (pd_int) (pd_nil)))) (pd_cons (pd_tup (pd_cons (pd_int) (pd_cons (pd_int) (pd_nil)))) (pd_cons (pd_tup (pd_cons (pd_int) (pd_cons (pd_int) (pd_nil)))) (pd_cons (pd_tup (pd_cons (pd_int) (pd_cons (pd_int) (pd_nil)))) (pd_cons (pd_tup (pd_cons (pd_int) (pd_cons (pd_int) (pd_nil)))) (pd_nil)))))))) (pd_cons (pd_tup (pd_cons (pd_tup (pd_cons (pd_neg (pd_int)) (pd_cons (pd_int) (pd_nil)))) (pd_cons (pd_tup (pd_cons (pd_neg (pd_int)) (pd_cons (pd_int) (pd_nil)))) (pd_cons (pd_tup (pd_cons (pd_int) (pd_cons (pd_int) (pd_nil)))) (pd_cons (pd_tup (pd_cons (pd_int) (pd_cons (pd_int) (pd_nil)))) (pd_nil)))))) (pd_nil))))))) (pds_cons (pds_if (pdt_not (pdt_val (pd_call (w_u_law_like T 10) (hr.mono (by decide)) rfl T.u_law_like.g T.u_law_like.F.kp T.u_law_like.b (pd_cons (pd_v 2) (pd_cons (pd_v 3) (pd_nil)))))) (pds_one (pds_return (pd_bl))) (pds_nil)) (pds_cons (pds_for PassesOwn.never rfl (pid_seq (pd_tup (pd_cons (pd_int) (pd_cons (pd_int) (pd_cons (pd_int) (pd_cons (pd_int) (pd_nil))))))) (pgd_name 4 sc_law.nd) (pds_cons (pds_par2 5 6 rfl sc_law.nd (pdan_cons (pdn_of (pd_call (w_u_law_fraction T) (hr.mono (by decide)) rfl T.u_law_fraction.g T.u_law_fraction.F.kp T.u_law_fraction.b (pd_cons (pd_v 1) (pd_cons (pd_v 4) (pd_nil))))) (pdan_cons (pdn_of (pd_call (w_u_law_fraction T) (hr.mono (by decide)) rfl T.u_law_fraction.g T.u_law_fraction.F.kp T.u_law_fraction.b (pd_cons (pd_v 1) (pd_cons (pd_v 4) (pd_nil))))) (pdan_nil)))) (pds_cons (pds_if (pdt_w (pdw_or (pdt_not (pdt_val (pd_call (w_u_law_right T) (hr.mono (by decide)) rfl T.u_law_right.g T.u_law_right.F.kp T.u_law_right.b (pd_cons (pd_v 1) (pd_cons (pd_v 5) (pd_cons (pd_v 6) (pd_nil))))))) (pdw_or (pdt_not (pdt_val (pd_call (w_u_law_small_right T) (hr.mono (by decide)) rfl T.u_law_small_right.g T.u_law_small_right.F.kp T.u_law_small_right.b (pd_cons (pd_v 1) (pd_cons (pd_v 5) (pd_cons (pd_op op2_add op_addA (pd_int) (pd_call (w_u_law_roll T) (hr.mono (by decide)) rfl T.u_law_roll.g T.u_law_roll.F.kp T.u_law_roll.b (pd_cons (pd_v 1) (pd_cons (pd_int) (pd_nil))))) (pd_nil))))))) (pdw_or1 (pdt_not (pdt_val (pd_call (w_u_law_parents_right T) (hr.mono (by decide)) rfl T.u_law_parents_right.g T.u_law_parents_right.F.kp T.u_law_parents_right.b (pd_cons (pd_v 5) (pd_nil))))))))) (pds_one (pds_return (pd_bl))) (pds_nil)) (pds_cons (pds_set 7 sc_law.nd (pd_call (w_u_law_some T) (hr.mono (by decide)) rfl T.u_law_some.g T.u_law_some.F.kp T.u_law_some.b (pd_cons (pd_v 1) (pd_cons (pd_op op2_add op_addA (pd_list rfl T.z_list (pd_cons (pd_call (w_ford_neighbours T) (hr.mono (by decide)) rfl T.ford_neighbours.g T.ford_neighbours.F.kp T.ford_neighbours.b (pd_cons (pd_v 5) (pd_cons (pd_int) (pd_nil)))) (pd_nil))) (pd_lst (pd_cons (pd_v 6) (pd_nil)))) (pd_nil))))) (pds_one (pds_if (pdt_w (pdw_or (pdt_not (pdt_val (pd_call (w_u_law_right T) (hr.mono (by decide)) rfl T.u_law_right.g T.u_law_right.F.kp T.u_law_right.b (pd_cons (pd_v 1) (pd_cons (pd_v 5) (pd_cons (pd_v 7) (pd_nil))))))) (pdw_or1 (pdt_not (pdt_val (pd_call (w_u_law_parents_right T) (hr.mono (by decide)) rfl T.u_law_parents_right.g T.u_law_parents_right.F.kp T.u_law_parents_right.b (pd_cons (pd_v 7) (pd_nil)))))))) (pds_one (pds_return (pd_bl))) (pds_nil))))))) (pds_cons (pds_set 8 sc_law.nd (pd_call (w_u_law_least T) (hr.mono (by decide)) rfl T.u_law_least.g T.u_law_least.F.kp T.u_law_least.b (pd_cons (pd_op op2_sub op_sub (pd_call (w_u_law_roll T) (hr.mono (by decide)) rfl T.u_law_roll.g T.u_law_roll.F.kp T.u_law_roll.b (pd_cons (pd_v 1) (pd_cons (pd_int) (pd_nil)))) (pd_int)) (pd_cons (pd_op op2_add op_addA (pd_int) (pd_call (w_u_law_roll T) (hr.mono (by decide)) rfl T.u_law_roll.g T.u_law_roll.F.kp T.u_law_roll.b (pd_cons (pd_v 1) (pd_cons (pd_int) (pd_nil))))) (pd_nil))))) (pds_cons (pds_if (pdt_not (pdt_val (pd_call (w_u_law_small_right T) (hr.mono (by decide)) rfl T.u_law_small_right.g T.u_law_small_right.F.kp T.u_law_small_right.b (pd_cons (pd_v 1) (pd_cons (pd_v 8) (pd_cons (pd_int) (pd_nil))))))) (pds_one (pds_return (pd_bl))) (pds_nil)) (pds_cons (pds_set 9 sc_law.nd (pd_call (w_u_law_least T) (hr.mono (by decide)) rfl T.u_law_least.g T.u_law_least.F.kp T.u_law_least.b (pd_cons (pd_op op2_add op_addA (pd_op op2_mul op_mulX (pd_call (w_u_law_roll T) (hr.mono (by decide)) rfl T.u_law_roll.g T.u_law_roll.F.kp T.u_law_roll.b (pd_cons (pd_v 1) (pd_cons (pd_op op2_pow op_powX (pd_int) (pd_int)) (pd_nil)))) (pd_op op2_pow op_powX (pd_int) (pd_int))) (pd_call (w_u_law_roll T) (hr.mono (by decide)) rfl T.u_law_roll.g T.u_law_roll.F.kp T.u_law_roll.b (pd_cons (pd_v 1) (pd_cons (pd_op op2_pow op_powX (pd_int) (pd_int)) (pd_nil))))) (pd_cons (pd_op op2_add op_addA (pd_int) (pd_op op2_mul op_mulX (pd_call (w_u_law_roll T) (hr.mono (by decide)) rfl T.u_law_roll.g T.u_law_roll.F.kp T.u_law_roll.b (pd_cons (pd_v 1) (pd_cons (pd_op op2_pow op_powX (pd_int) (pd_int)) (pd_nil)))) (pd_op op2_pow op_powX (pd_int) (pd_int)))) (pd_nil))))) (pds_cons (pds_if (pdt_w (pdw_or (pdt_not (pdt_val (pd_call (w_u_law_parents_right T) (hr.mono (by decide)) rfl T.u_law_parents_right.g T.u_law_parents_right.F.kp T.u_law_parents_right.b (pd_cons (pd_v 9) (pd_nil))))) (pdw_or1 (pdt_cmp op2_ne (op_neD hr.units) (nomark _) (pd_len' rfl T.z_len (pd_cons (pd_call (w_ford_neighbours T) (hr.mono (by decide)) rfl T.ford_neighbours.g T.ford_neighbours.F.kp T.ford_neighbours.b (pd_cons (pd_tup (pd_cons (pd_ix (pd_v 9) (pd_int)) (pd_cons (pd_int) (pd_nil)))) (pd_cons (pd_int) (pd_nil)))) (pd_nil))) (pd_int))))) (pds_one (pds_return (pd_bl))) (pds_nil)) (pds_cons (pds_set 10 sc_law.nd (pd_call (w_u_law_roll T) (hr.mono (by decide)) rfl T.u_law_roll.g T.u_law_roll.F.kp T.u_law_roll.b (pd_cons (pd_v 1) (pd_cons (pd_int) (pd_nil))))) (pds_cons (pds_set 11 sc_law.nd (pd_call (w_ford_neighbours T) (hr.mono (by decide)) rfl T.ford_neighbours.g T.ford_neighbours.F.kp T.ford_neighbours.b (pd_cons (pd_tup (pd_cons (pd_v 10) (pd_cons (pd_int) (pd_nil)))) (pd_cons (pd_int) (pd_nil))))) (pds_one (pds_return (pd_call (w_u_law_like T 10) (hr.mono (by decide)) rfl T.u_law_like.g T.u_law_like.F.kp T.u_law_like.b (pd_cons (pd_v 11) (pd_cons (pd_tuple rfl T.z_tuple (pd_cons (pd_op op2_add op_addA (pd_lc [("last", 12)] rfl sc_law.nd (pid_seq (pd_tup (pd_cons (pd_int) (pd_cons (pd_int) (pd_cons (pd_int) (pd_nil)))))) (blkOk_by (N := N_law) (sc := defScope s_law) (own := [("last", 12)]) (by decide +kernel)) (fun _ _ _ _ _ => pgd_name 12 sc_law.nd) (fun _ _ _ _ _ => ptsd_nil) (fun _ _ _ _ _ => pd_tup (pd_cons (pd_op op2_sub op_sub (pd_op op2_mul op_mulX (pd_v 10) (pd_v 12)) (pd_int)) (pd_cons (pd_v 12) (pd_nil))))) (pd_lc [("last", 12)] rfl sc_law.nd (pid_seq (pd_tup (pd_cons (pd_int) (pd_cons (pd_int) (pd_cons (pd_int) (pd_nil)))))) (blkOk_by (N := N_law) (sc := defScope s_law) (own := [("last", 12)]) (by decide +kernel)) (fun _ _ _ _ _ => pgd_name 12 sc_law.nd) (fun _ _ _ _ _ => ptsd_nil) (fun _ _ _ _ _ => pd_tup (pd_cons (pd_op op2_add op_addA (pd_op op2_mul op_mulX (pd_v 10) (pd_v 12)) (pd_int)) (pd_cons (pd_v 12) (pd_nil)))))) (pd_nil))) (pd_nil))))))))))))))))))))) hm
end
end LK
namespace LK
open PySem PySem.Spec PyProof.Rows L2 DL
noncomputable def txt_mk {K : PySem.W.Frag} {h : Heap} {mg : Str → Option Value} (X : K.In h) (G : h.Ns mainGlobals mg)
    {f0 : Addr} {od0 an0 : Option Addr} {sl0 : Array (Option Value)} {oc0 kV0 dc0 pm0 cd0 ct0 : Value}
    {f1 : Addr} {od1 an1 : Option Addr} {sl1 : Array (Option Value)} {oc1 kV1 dc1 pm1 cd1 ct1 : Value}
    {f2 : Addr} {od2 an2 : Option Addr} {sl2 : Array (Option Value)} {oc2 kV2 dc2 pm2 cd2 ct2 : Value}
    {f3 : Addr} {od3 an3 : Option Addr} {sl3 : Array (Option Value)} {oc3 kV3 dc3 pm3 cd3 ct3 : Value}
    {f4 : Addr} {od4 an4 : Option Addr} {sl4 : Array (Option Value)} {oc4 kV4 dc4 pm4 cd4 ct4 : Value}
    {f5 : Addr} {od5 an5 : Option Addr} {sl5 : Array (Option Value)} {oc5 kV5 dc5 pm5 cd5 ct5 : Value}
    {f6 : Addr} {od6 an6 : Option Addr} {sl6 : Array (Option Value)} {oc6 kV6 dc6 pm6 cd6 ct6 : Value}
    {f7 : Addr} {od7 an7 : Option Addr} {sl7 : Array (Option Value)} {oc7 kV7 dc7 pm7 cd7 ct7 : Value}
    {f8 : Addr} {od8 an8 : Option Addr} {sl8 : Array (Option Value)} {oc8 kV8 dc8 pm8 cd8 ct8 : Value}
    {f9 : Addr} {od9 an9 : Option Addr} {sl9 : Array (Option Value)} {oc9 kV9 dc9 pm9 cd9 ct9 : Value}
    {f10 : Addr} {od10 an10 : Option Addr} {sl10 : Array (Option Value)} {oc10 kV10 dc10 pm10 cd10 ct10 : Value}
    {f11 : Addr} {od11 an11 : Option Addr} {sl11 : Array (Option Value)} {oc11 kV11 dc11 pm11 cd11 ct11 : Value}
    {f12 : Addr} {od12 an12 : Option Addr} {sl12 : Array (Option Value)} {oc12 kV12 dc12 pm12 cd12 ct12 : Value}
    {f13 : Addr} {od13 an13 : Option Addr} {sl13 : Array (Option Value)} {oc13 kV13 dc13 pm13 cd13 ct13 : Value}
    {f14 : Addr} {od14 an14 : Option Addr} {sl14 : Array (Option Value)} {oc14 kV14 dc14 pm14 cd14 ct14 : Value}
    {f15 : Addr} {od15 an15 : Option Addr} {sl15 : Array (Option Value)} {oc15 kV15 dc15 pm15 cd15 ct15 : Value}
    {f16 : Addr} {od16 an16 : Option Addr} {sl16 : Array (Option Value)} {oc16 kV16 dc16 pm16 cd16 ct16 : Value}
    {f17 : Addr} {od17 an17 : Option Addr} {sl17 : Array (Option Value)} {oc17 kV17 dc17 pm17 cd17 ct17 : Value}
    {f18 : Addr} {od18 an18 : Option Addr} {sl18 : Array (Option Value)} {oc18 kV18 dc18 pm18 cd18 ct18 : Value}
    {f19 : Addr} {od19 an19 : Option Addr} {sl19 : Array (Option Value)} {oc19 kV19 dc19 pm19 cd19 ct19 : Value}
    {f20 : Addr} {od20 an20 : Option Addr} {sl20 : Array (Option Value)} {oc20 kV20 dc20 pm20 cd20 ct20 : Value}
    {f21 : Addr} {od21 an21 : Option Addr} {sl21 : Array (Option Value)} {oc21 kV21 dc21 pm21 cd21 ct21 : Value}
    {f22 : Addr} {od22 an22 : Option Addr} {sl22 : Array (Option Value)} {oc22 kV22 dc22 pm22 cd22 ct22 : Value}
    {f23 : Addr} {od23 an23 : Option Addr} {sl23 : Array (Option Value)} {oc23 kV23 dc23 pm23 cd23 ct23 : Value}
    {f24 : Addr} {od24 an24 : Option Addr} {sl24 : Array (Option Value)} {oc24 kV24 dc24 pm24 cd24 ct24 : Value}
    {f25 : Addr} {od25 an25 : Option Addr} {sl25 : Array (Option Value)} {oc25 kV25 dc25 pm25 cd25 ct25 : Value}
    {f26 : Addr} {od26 an26 : Option Addr} {sl26 : Array (Option Value)} {oc26 kV26 dc26 pm26 cd26 ct26 : Value}
    {f27 : Addr} {od27 an27 : Option Addr} {sl27 : Array (Option Value)} {oc27 kV27 dc27 pm27 cd27 ct27 : Value}
    {f28 : Addr} {od28 an28 : Option Addr} {sl28 : Array (Option Value)} {oc28 kV28 dc28 pm28 cd28 ct28 : Value}
    {f29 : Addr} {od29 an29 : Option Addr} {sl29 : Array (Option Value)} {oc29 kV29 dc29 pm29 cd29 ct29 : Value}
    {f30 : Addr} {od30 an30 : Option Addr} {sl30 : Array (Option Value)} {oc30 kV30 dc30 pm30 cd30 ct30 : Value}
    {f31 : Addr} {od31 an31 : Option Addr} {sl31 : Array (Option Value)} {oc31 kV31 dc31 pm31 cd31 ct31 : Value}
    {f32 : Addr} {od32 an32 : Option Addr} {sl32 : Array (Option Value)} {oc32 kV32 dc32 pm32 cd32 ct32 : Value}
    {f33 : Addr} {od33 an33 : Option Addr} {sl33 : Array (Option Value)} {oc33 kV33 dc33 pm33 cd33 ct33 : Value}
    {f34 : Addr} {od34 an34 : Option Addr} {sl34 : Array (Option Value)} {oc34 kV34 dc34 pm34 cd34 ct34 : Value}
    {t1 : Tok}
    {t2 : Tok}
    (a0 : PySem.W.nsIn K mainGlobals "_law_cup" = some (some (.ref f0))) (l0 : K.lookup f0 = some ⟨oc0, od0, .func (PySem.W.fnOf "_law_cup" "_law_cup" (defArgs s_u_law_cup) (defBody s_u_law_cup) (defScope s_u_law_cup) .none kV0 dc0 pm0 an0 cd0 ct0), sl0⟩) (q0 : PySem.W.codeIn K cd0 "_law_cup" = true) (k0 : PySem.W.keepIn K (.ref f0) = true)
    (a1 : PySem.W.nsIn K mainGlobals "_law_divisor" = some (some (.ref f1))) (l1 : K.lookup f1 = some ⟨oc1, od1, .func (PySem.W.fnOf "_law_divisor" "_law_divisor" (defArgs s_u_law_divisor) (defBody s_u_law_divisor) (defScope s_u_law_divisor) .none kV1 dc1 pm1 an1 cd1 ct1), sl1⟩) (q1 : PySem.W.codeIn K cd1 "_law_divisor" = true) (k1 : PySem.W.keepIn K (.ref f1) = true)
    (a2 : PySem.W.nsIn K mainGlobals "_law_least" = some (some (.ref f2))) (l2 : K.lookup f2 = some ⟨oc2, od2, .func (PySem.W.fnOf "_law_least" "_law_least" (defArgs s_u_law_least) (defBody s_u_law_least) (defScope s_u_law_least) .none kV2 dc2 pm2 an2 cd2 ct2), sl2⟩) (q2 : PySem.W.codeIn K cd2 "_law_least" = true) (k2 : PySem.W.keepIn K (.ref f2) = true)
    (a3 : PySem.W.nsIn K mainGlobals "_law_roll" = some (some (.ref f3))) (l3 : K.lookup f3 = some ⟨oc3, od3, .func (PySem.W.fnOf "_law_roll" "_law_roll" (defArgs s_u_law_roll) (defBody s_u_law_roll) (defScope s_u_law_roll) .none kV3 dc3 pm3 an3 cd3 ct3), sl3⟩) (q3 : PySem.W.codeIn K cd3 "_law_roll" = true) (k3 : PySem.W.keepIn K (.ref f3) = true)
    (a4 : PySem.W.nsIn K mainGlobals "is_tuple_of" = some (some (.ref f4))) (l4 : K.lookup f4 = some ⟨oc4, od4, .func (PySem.W.fnOf "is_tuple_of" "is_tuple_of" (defArgs s_is_tuple_of) (defBody s_is_tuple_of) (defScope s_is_tuple_of) .none kV4 dc4 pm4 an4 cd4 ct4), sl4⟩) (q4 : PySem.W.codeIn K cd4 "is_tuple_of" = true) (k4 : PySem.W.keepIn K (.ref f4) = true)
    (a5 : PySem.W.nsIn K mainGlobals "divisor_of" = some (some (.ref f5))) (l5 : K.lookup f5 = some ⟨oc5, od5, .func (PySem.W.fnOf "divisor_of" "divisor_of" (defArgs s_divisor_of) (defBody s_divisor_of) (defScope s_divisor_of) .none kV5 dc5 pm5 an5 cd5 ct5), sl5⟩) (q5 : PySem.W.codeIn K cd5 "divisor_of" = true) (k5 : PySem.W.keepIn K (.ref f5) = true)
    (a6 : PySem.W.nsIn K mainGlobals "is_integer" = some (some (.ref f6))) (l6 : K.lookup f6 = some ⟨oc6, od6, .func (PySem.W.fnOf "is_integer" "is_integer" (defArgs s_is_integer) (defBody s_is_integer) (defScope s_is_integer) .none kV6 dc6 pm6 an6 cd6 ct6), sl6⟩) (q6 : PySem.W.codeIn K cd6 "is_integer" = true) (k6 : PySem.W.keepIn K (.ref f6) = true)
    (a7 : PySem.W.nsIn K mainGlobals "fits_fraction" = some (some (.ref f7))) (l7 : K.lookup f7 = some ⟨oc7, od7, .func (PySem.W.fnOf "fits_fraction" "fits_fraction" (defArgs s_fits_fraction) (defBody s_fits_fraction) (defScope s_fits_fraction) .none kV7 dc7 pm7 an7 cd7 ct7), sl7⟩) (q7 : PySem.W.codeIn K cd7 "fits_fraction" = true) (k7 : PySem.W.keepIn K (.ref f7) = true)
    (a8 : PySem.W.nsIn K mainGlobals "need_fraction" = some (some (.ref f8))) (l8 : K.lookup f8 = some ⟨oc8, od8, .func (PySem.W.fnOf "need_fraction" "need_fraction" (defArgs s_need_fraction) (defBody s_need_fraction) (defScope s_need_fraction) .none kV8 dc8 pm8 an8 cd8 ct8), sl8⟩) (q8 : PySem.W.codeIn K cd8 "need_fraction" = true) (k8 : PySem.W.keepIn K (.ref f8) = true)
    (a9 : PySem.W.nsIn K mainGlobals "is_whole" = some (some (.ref f9))) (l9 : K.lookup f9 = some ⟨oc9, od9, .func (PySem.W.fnOf "is_whole" "is_whole" (defArgs s_is_whole) (defBody s_is_whole) (defScope s_is_whole) .none kV9 dc9 pm9 an9 cd9 ct9), sl9⟩) (q9 : PySem.W.codeIn K cd9 "is_whole" = true) (k9 : PySem.W.keepIn K (.ref f9) = true)
    (a10 : PySem.W.nsIn K mainGlobals "need_whole" = some (some (.ref f10))) (l10 : K.lookup f10 = some ⟨oc10, od10, .func (PySem.W.fnOf "need_whole" "need_whole" (defArgs s_need_whole) (defBody s_need_whole) (defScope s_need_whole) .none kV10 dc10 pm10 an10 cd10 ct10), sl10⟩) (q10 : PySem.W.codeIn K cd10 "need_whole" = true) (k10 : PySem.W.keepIn K (.ref f10) = true)
    (a11 : PySem.W.nsIn K mainGlobals "undone_by" = some (some (.ref f11))) (l11 : K.lookup f11 = some ⟨oc11, od11, .func (PySem.W.fnOf "undone_by" "undone_by" (defArgs s_undone_by) (defBody s_undone_by) (defScope s_undone_by) .none kV11 dc11 pm11 an11 cd11 ct11), sl11⟩) (q11 : PySem.W.codeIn K cd11 "undone_by" = true) (k11 : PySem.W.keepIn K (.ref f11) = true)
    (a12 : PySem.W.nsIn K mainGlobals "lasts_below" = some (some (.ref f12))) (l12 : K.lookup f12 = some ⟨oc12, od12, .func (PySem.W.fnOf "lasts_below" "lasts_below" (defArgs s_lasts_below) (defBody s_lasts_below) (defScope s_lasts_below) .none kV12 dc12 pm12 an12 cd12 ct12), sl12⟩) (q12 : PySem.W.codeIn K cd12 "lasts_below" = true) (k12 : PySem.W.keepIn K (.ref f12) = true)
    (a13 : PySem.W.nsIn K mainGlobals "touching_in" = some (some (.ref f13))) (l13 : K.lookup f13 = some ⟨oc13, od13, .func (PySem.W.fnOf "touching_in" "touching_in" (defArgs s_touching_in) (defBody s_touching_in) (defScope s_touching_in) .none kV13 dc13 pm13 an13 cd13 ct13), sl13⟩) (q13 : PySem.W.codeIn K cd13 "touching_in" = true) (k13 : PySem.W.keepIn K (.ref f13) = true)
    (a14 : PySem.W.nsIn K mainGlobals "ford_neighbours" = some (some (.ref f14))) (l14 : K.lookup f14 = some ⟨oc14, od14, .func (PySem.W.fnOf "ford_neighbours" "ford_neighbours" (defArgs s_ford_neighbours) (defBody s_ford_neighbours) (defScope s_ford_neighbours) .none kV14 dc14 pm14 an14 cd14 ct14), sl14⟩) (q14 : PySem.W.codeIn K cd14 "ford_neighbours" = true) (k14 : PySem.W.keepIn K (.ref f14) = true)
    (a15 : PySem.W.nsIn K mainGlobals "_law_sort" = some (some (.ref f15))) (l15 : K.lookup f15 = some ⟨oc15, od15, .func (PySem.W.fnOf "_law_sort" "_law_sort" (defArgs s_u_law_sort) (defBody s_u_law_sort) (defScope s_u_law_sort) .none kV15 dc15 pm15 an15 cd15 ct15), sl15⟩) (q15 : PySem.W.codeIn K cd15 "_law_sort" = true) (k15 : PySem.W.keepIn K (.ref f15) = true)
    (a16 : PySem.W.nsIn K mainGlobals "_law_like" = some (some (.ref f16))) (l16 : K.lookup f16 = some ⟨oc16, od16, .func (PySem.W.fnOf "_law_like" "_law_like" (defArgs s_u_law_like) (defBody s_u_law_like) (defScope s_u_law_like) .none kV16 dc16 pm16 an16 cd16 ct16), sl16⟩) (q16 : PySem.W.codeIn K cd16 "_law_like" = true) (k16 : PySem.W.keepIn K (.ref f16) = true)
    (a17 : PySem.W.nsIn K mainGlobals "need_fractions" = some (some (.ref f17))) (l17 : K.lookup f17 = some ⟨oc17, od17, .func (PySem.W.fnOf "need_fractions" "need_fractions" (defArgs s_need_fractions) (defBody s_need_fractions) (defScope s_need_fractions) .none kV17 dc17 pm17 an17 cd17 ct17), sl17⟩) (q17 : PySem.W.codeIn K cd17 "need_fractions" = true) (k17 : PySem.W.keepIn K (.ref f17) = true)
    (a18 : PySem.W.nsIn K mainGlobals "are_touching" = some (some (.ref f18))) (l18 : K.lookup f18 = some ⟨oc18, od18, .func (PySem.W.fnOf "are_touching" "are_touching" (defArgs s_are_touching) (defBody s_are_touching) (defScope s_are_touching) .none kV18 dc18 pm18 an18 cd18 ct18), sl18⟩) (q18 : PySem.W.codeIn K cd18 "are_touching" = true) (k18 : PySem.W.keepIn K (.ref f18) = true)
    (a19 : PySem.W.nsIn K mainGlobals "do_ford_touch" = some (some (.ref f19))) (l19 : K.lookup f19 = some ⟨oc19, od19, .func (PySem.W.fnOf "do_ford_touch" "do_ford_touch" (defArgs s_do_ford_touch) (defBody s_do_ford_touch) (defScope s_do_ford_touch) .none kV19 dc19 pm19 an19 cd19 ct19), sl19⟩) (q19 : PySem.W.codeIn K cd19 "do_ford_touch" = true) (k19 : PySem.W.keepIn K (.ref f19) = true)
    (a20 : PySem.W.nsIn K mainGlobals "lowest" = some (some (.ref f20))) (l20 : K.lookup f20 = some ⟨oc20, od20, .func (PySem.W.fnOf "lowest" "lowest" (defArgs s_lowest) (defBody s_lowest) (defScope s_lowest) .none kV20 dc20 pm20 an20 cd20 ct20), sl20⟩) (q20 : PySem.W.codeIn K cd20 "lowest" = true) (k20 : PySem.W.keepIn K (.ref f20) = true)
    (a21 : PySem.W.nsIn K mainGlobals "between_in" = some (some (.ref f21))) (l21 : K.lookup f21 = some ⟨oc21, od21, .func (PySem.W.fnOf "between_in" "between_in" (defArgs s_between_in) (defBody s_between_in) (defScope s_between_in) .none kV21 dc21 pm21 an21 cd21 ct21), sl21⟩) (q21 : PySem.W.codeIn K cd21 "between_in" = true) (k21 : PySem.W.keepIn K (.ref f21) = true)
    (a22 : PySem.W.nsIn K mainGlobals "ford_between" = some (some (.ref f22))) (l22 : K.lookup f22 = some ⟨oc22, od22, .func (PySem.W.fnOf "ford_between" "ford_between" (defArgs s_ford_between) (defBody s_ford_between) (defScope s_ford_between) .none kV22 dc22 pm22 an22 cd22 ct22), sl22⟩) (q22 : PySem.W.codeIn K cd22 "ford_between" = true) (k22 : PySem.W.keepIn K (.ref f22) = true)
    (a23 : PySem.W.nsIn K mainGlobals "ford_parents" = some (some (.ref f23))) (l23 : K.lookup f23 = some ⟨oc23, od23, .func (PySem.W.fnOf "ford_parents" "ford_parents" (defArgs s_ford_parents) (defBody s_ford_parents) (defScope s_ford_parents) .none kV23 dc23 pm23 an23 cd23 ct23), sl23⟩) (q23 : PySem.W.codeIn K cd23 "ford_parents" = true) (k23 : PySem.W.keepIn K (.ref f23) = true)
    (a24 : PySem.W.nsIn K mainGlobals "_law_some" = some (some (.ref f24))) (l24 : K.lookup f24 = some ⟨oc24, od24, .func (PySem.W.fnOf "_law_some" "_law_some" (defArgs s_u_law_some) (defBody s_u_law_some) (defScope s_u_law_some) .none kV24 dc24 pm24 an24 cd24 ct24), sl24⟩) (q24 : PySem.W.codeIn K cd24 "_law_some" = true) (k24 : PySem.W.keepIn K (.ref f24) = true)
    (a25 : PySem.W.nsIn K mainGlobals "_law_touch" = some (some (.ref f25))) (l25 : K.lookup f25 = some ⟨oc25, od25, .func (PySem.W.fnOf "_law_touch" "_law_touch" (defArgs s_u_law_touch) (defBody s_u_law_touch) (defScope s_u_law_touch) .none kV25 dc25 pm25 an25 cd25 ct25), sl25⟩) (q25 : PySem.W.codeIn K cd25 "_law_touch" = true) (k25 : PySem.W.keepIn K (.ref f25) = true)
    (a26 : PySem.W.nsIn K mainGlobals "_law_small_right" = some (some (.ref f26))) (l26 : K.lookup f26 = some ⟨oc26, od26, .func (PySem.W.fnOf "_law_small_right" "_law_small_right" (defArgs s_u_law_small_right) (defBody s_u_law_small_right) (defScope s_u_law_small_right) .none kV26 dc26 pm26 an26 cd26 ct26), sl26⟩) (q26 : PySem.W.codeIn K cd26 "_law_small_right" = true) (k26 : PySem.W.keepIn K (.ref f26) = true)
    (a27 : PySem.W.nsIn K mainGlobals "ford_bends" = some (some (.ref f27))) (l27 : K.lookup f27 = some ⟨oc27, od27, .func (PySem.W.fnOf "ford_bends" "ford_bends" (defArgs s_ford_bends) (defBody s_ford_bends) (defScope s_ford_bends) .none kV27 dc27 pm27 an27 cd27 ct27), sl27⟩) (q27 : PySem.W.codeIn K cd27 "ford_bends" = true) (k27 : PySem.W.keepIn K (.ref f27) = true)
    (a28 : PySem.W.nsIn K mainGlobals "_law_fraction" = some (some (.ref f28))) (l28 : K.lookup f28 = some ⟨oc28, od28, .func (PySem.W.fnOf "_law_fraction" "_law_fraction" (defArgs s_u_law_fraction) (defBody s_u_law_fraction) (defScope s_u_law_fraction) .none kV28 dc28 pm28 an28 cd28 ct28), sl28⟩) (q28 : PySem.W.codeIn K cd28 "_law_fraction" = true) (k28 : PySem.W.keepIn K (.ref f28) = true)
    (a29 : PySem.W.nsIn K mainGlobals "_law_parents_right" = some (some (.ref f29))) (l29 : K.lookup f29 = some ⟨oc29, od29, .func (PySem.W.fnOf "_law_parents_right" "_law_parents_right" (defArgs s_u_law_parents_right) (defBody s_u_law_parents_right) (defScope s_u_law_parents_right) .none kV29 dc29 pm29 an29 cd29 ct29), sl29⟩) (q29 : PySem.W.codeIn K cd29 "_law_parents_right" = true) (k29 : PySem.W.keepIn K (.ref f29) = true)
    (a30 : PySem.W.nsIn K mainGlobals "is_touching" = some (some (.ref f30))) (l30 : K.lookup f30 = some ⟨oc30, od30, .func (PySem.W.fnOf "is_touching" "is_touching" (defArgs s_is_touching) (defBody s_is_touching) (defScope s_is_touching) .none kV30 dc30 pm30 an30 cd30 ct30), sl30⟩) (q30 : PySem.W.codeIn K cd30 "is_touching" = true) (k30 : PySem.W.keepIn K (.ref f30) = true)
    (a31 : PySem.W.nsIn K mainGlobals "fits_row" = some (some (.ref f31))) (l31 : K.lookup f31 = some ⟨oc31, od31, .func (PySem.W.fnOf "fits_row" "fits_row" (defArgs s_fits_row) (defBody s_fits_row) (defScope s_fits_row) .none kV31 dc31 pm31 an31 cd31 ct31), sl31⟩) (q31 : PySem.W.codeIn K cd31 "fits_row" = true) (k31 : PySem.W.keepIn K (.ref f31) = true)
    (a32 : PySem.W.nsIn K mainGlobals "is_row_of_bends" = some (some (.ref f32))) (l32 : K.lookup f32 = some ⟨oc32, od32, .func (PySem.W.fnOf "is_row_of_bends" "is_row_of_bends" (defArgs s_is_row_of_bends) (defBody s_is_row_of_bends) (defScope s_is_row_of_bends) .none kV32 dc32 pm32 an32 cd32 ct32), sl32⟩) (q32 : PySem.W.codeIn K cd32 "is_row_of_bends" = true) (k32 : PySem.W.keepIn K (.ref f32) = true)
    (a33 : PySem.W.nsIn K mainGlobals "_law_right" = some (some (.ref f33))) (l33 : K.lookup f33 = some ⟨oc33, od33, .func (PySem.W.fnOf "_law_right" "_law_right" (defArgs s_u_law_right) (defBody s_u_law_right) (defScope s_u_law_right) .none kV33 dc33 pm33 an33 cd33 ct33), sl33⟩) (q33 : PySem.W.codeIn K cd33 "_law_right" = true) (k33 : PySem.W.keepIn K (.ref f33) = true)
    (a34 : PySem.W.nsIn K mainGlobals "law" = some (some (.ref f34))) (l34 : K.lookup f34 = some ⟨oc34, od34, .func (PySem.W.fnOf "law" "law" (defArgs s_law) (defBody s_law) (defScope s_law) .none kV34 dc34 pm34 an34 cd34 ct34), sl34⟩) (q34 : PySem.W.codeIn K cd34 "law" = true) (k34 : PySem.W.keepIn K (.ref f34) = true)
    (z0 : PySem.W.nsIn K mainGlobals "abs" = some none)
    (z1 : PySem.W.nsIn K mainGlobals "all" = some none)
    (z2 : PySem.W.nsIn K mainGlobals "bool" = some none)
    (z3 : PySem.W.nsIn K mainGlobals "int" = some none)
    (z4 : PySem.W.nsIn K mainGlobals "isinstance" = some none)
    (z5 : PySem.W.nsIn K mainGlobals "len" = some none)
    (z6 : PySem.W.nsIn K mainGlobals "list" = some none)
    (z7 : PySem.W.nsIn K mainGlobals "max" = some none)
    (z8 : PySem.W.nsIn K mainGlobals "range" = some none)
    (z9 : PySem.W.nsIn K mainGlobals "sorted" = some none)
    (z10 : PySem.W.nsIn K mainGlobals "str" = some none)
    (z11 : PySem.W.nsIn K mainGlobals "sum" = some none)
    (z12 : PySem.W.nsIn K mainGlobals "tuple" = some none)
    (z13 : PySem.W.nsIn K mainGlobals "zip" = some none)
    (g154 : PySem.W.nsIn K mainGlobals "GREAT" = some (some (.int 1000000000000000000000000000000000000000000000000000000000000 t1)))
    (g155 : PySem.W.nsIn K mainGlobals "MOST" = some (some (.int 1000 t2)))
    : Txt K mg where
  u_law_cup := ⟨f0, PySem.W.fnOf "_law_cup" "_law_cup" (defArgs s_u_law_cup) (defBody s_u_law_cup) (defScope s_u_law_cup) .none kV0 dc0 pm0 an0 cd0 ct0, fun_mk (st := s_u_law_cup) l0 q0 k0, PySem.W.mg_of X G a0, (fun_mk (st := s_u_law_cup) l0 q0 k0).binds fun _ _ _ _ _ _ us hl => match us, hl with | [_], _ => rfl⟩
  u_law_divisor := ⟨f1, PySem.W.fnOf "_law_divisor" "_law_divisor" (defArgs s_u_law_divisor) (defBody s_u_law_divisor) (defScope s_u_law_divisor) .none kV1 dc1 pm1 an1 cd1 ct1, fun_mk (st := s_u_law_divisor) l1 q1 k1, PySem.W.mg_of X G a1, (fun_mk (st := s_u_law_divisor) l1 q1 k1).binds fun _ _ _ _ _ _ us hl => match us, hl with | [_, _], _ => rfl⟩
  u_law_least := ⟨f2, PySem.W.fnOf "_law_least" "_law_least" (defArgs s_u_law_least) (defBody s_u_law_least) (defScope s_u_law_least) .none kV2 dc2 pm2 an2 cd2 ct2, fun_mk (st := s_u_law_least) l2 q2 k2, PySem.W.mg_of X G a2, (fun_mk (st := s_u_law_least) l2 q2 k2).binds fun _ _ _ _ _ _ us hl => match us, hl with | [_, _], _ => rfl⟩
  u_law_roll := ⟨f3, PySem.W.fnOf "_law_roll" "_law_roll" (defArgs s_u_law_roll) (defBody s_u_law_roll) (defScope s_u_law_roll) .none kV3 dc3 pm3 an3 cd3 ct3, fun_mk (st := s_u_law_roll) l3 q3 k3, PySem.W.mg_of X G a3, (fun_mk (st := s_u_law_roll) l3 q3 k3).binds fun _ _ _ _ _ _ us hl => match us, hl with | [_, _], _ => rfl⟩
  is_tuple_of := ⟨f4, PySem.W.fnOf "is_tuple_of" "is_tuple_of" (defArgs s_is_tuple_of) (defBody s_is_tuple_of) (defScope s_is_tuple_of) .none kV4 dc4 pm4 an4 cd4 ct4, fun_mk (st := s_is_tuple_of) l4 q4 k4, PySem.W.mg_of X G a4, (fun_mk (st := s_is_tuple_of) l4 q4 k4).binds fun _ _ _ _ _ _ us hl => match us, hl with | [_, _, _], _ => rfl⟩
  divisor_of := ⟨f5, PySem.W.fnOf "divisor_of" "divisor_of" (defArgs s_divisor_of) (defBody s_divisor_of) (defScope s_divisor_of) .none kV5 dc5 pm5 an5 cd5 ct5, fun_mk (st := s_divisor_of) l5 q5 k5, PySem.W.mg_of X G a5, (fun_mk (st := s_divisor_of) l5 q5 k5).binds fun _ _ _ _ _ _ us hl => match us, hl with | [_, _], _ => rfl⟩
  is_integer := ⟨f6, PySem.W.fnOf "is_integer" "is_integer" (defArgs s_is_integer) (defBody s_is_integer) (defScope s_is_integer) .none kV6 dc6 pm6 an6 cd6 ct6, fun_mk (st := s_is_integer) l6 q6 k6, PySem.W.mg_of X G a6, (fun_mk (st := s_is_integer) l6 q6 k6).binds fun _ _ _ _ _ _ us hl => match us, hl with | [_], _ => rfl⟩
  fits_fraction := ⟨f7, PySem.W.fnOf "fits_fraction" "fits_fraction" (defArgs s_fits_fraction) (defBody s_fits_fraction) (defScope s_fits_fraction) .none kV7 dc7 pm7 an7 cd7 ct7, fun_mk (st := s_fits_fraction) l7 q7 k7, PySem.W.mg_of X G a7, (fun_mk (st := s_fits_fraction) l7 q7 k7).binds fun _ _ _ _ _ _ us hl => match us, hl with | [_], _ => rfl⟩
  need_fraction := ⟨f8, PySem.W.fnOf "need_fraction" "need_fraction" (defArgs s_need_fraction) (defBody s_need_fraction) (defScope s_need_fraction) .none kV8 dc8 pm8 an8 cd8 ct8, fun_mk (st := s_need_fraction) l8 q8 k8, PySem.W.mg_of X G a8, (fun_mk (st := s_need_fraction) l8 q8 k8).binds fun _ _ _ _ _ _ us hl => match us, hl with | [_], _ => rfl⟩
  is_whole := ⟨f9, PySem.W.fnOf "is_whole" "is_whole" (defArgs s_is_whole) (defBody s_is_whole) (defScope s_is_whole) .none kV9 dc9 pm9 an9 cd9 ct9, fun_mk (st := s_is_whole) l9 q9 k9, PySem.W.mg_of X G a9, (fun_mk (st := s_is_whole) l9 q9 k9).binds fun _ _ _ _ _ _ us hl => match us, hl with | [_, _, _], _ => rfl⟩
  need_whole := ⟨f10, PySem.W.fnOf "need_whole" "need_whole" (defArgs s_need_whole) (defBody s_need_whole) (defScope s_need_whole) .none kV10 dc10 pm10 an10 cd10 ct10, fun_mk (st := s_need_whole) l10 q10 k10, PySem.W.mg_of X G a10, (fun_mk (st := s_need_whole) l10 q10 k10).binds fun _ _ _ _ _ _ us hl => match us, hl with | [_, _, _], _ => rfl⟩
  undone_by := ⟨f11, PySem.W.fnOf "undone_by" "undone_by" (defArgs s_undone_by) (defBody s_undone_by) (defScope s_undone_by) .none kV11 dc11 pm11 an11 cd11 ct11, fun_mk (st := s_undone_by) l11 q11 k11, PySem.W.mg_of X G a11, (fun_mk (st := s_undone_by) l11 q11 k11).binds fun _ _ _ _ _ _ us hl => match us, hl with | [_, _], _ => rfl⟩
  lasts_below := ⟨f12, PySem.W.fnOf "lasts_below" "lasts_below" (defArgs s_lasts_below) (defBody s_lasts_below) (defScope s_lasts_below) .none kV12 dc12 pm12 an12 cd12 ct12, fun_mk (st := s_lasts_below) l12 q12 k12, PySem.W.mg_of X G a12, (fun_mk (st := s_lasts_below) l12 q12 k12).binds fun _ _ _ _ _ _ us hl => match us, hl with | [_], _ => rfl⟩
  touching_in := ⟨f13, PySem.W.fnOf "touching_in" "touching_in" (defArgs s_touching_in) (defBody s_touching_in) (defScope s_touching_in) .none kV13 dc13 pm13 an13 cd13 ct13, fun_mk (st := s_touching_in) l13 q13 k13, PySem.W.mg_of X G a13, (fun_mk (st := s_touching_in) l13 q13 k13).binds fun _ _ _ _ _ _ us hl => match us, hl with | [_, _], _ => rfl⟩
  ford_neighbours := ⟨f14, PySem.W.fnOf "ford_neighbours" "ford_neighbours" (defArgs s_ford_neighbours) (defBody s_ford_neighbours) (defScope s_ford_neighbours) .none kV14 dc14 pm14 an14 cd14 ct14, fun_mk (st := s_ford_neighbours) l14 q14 k14, PySem.W.mg_of X G a14, (fun_mk (st := s_ford_neighbours) l14 q14 k14).binds fun _ _ _ _ _ _ us hl => match us, hl with | [_, _], _ => rfl⟩
  u_law_sort := ⟨f15, PySem.W.fnOf "_law_sort" "_law_sort" (defArgs s_u_law_sort) (defBody s_u_law_sort) (defScope s_u_law_sort) .none kV15 dc15 pm15 an15 cd15 ct15, fun_mk (st := s_u_law_sort) l15 q15 k15, PySem.W.mg_of X G a15, (fun_mk (st := s_u_law_sort) l15 q15 k15).binds fun _ _ _ _ _ _ us hl => match us, hl with | [_], _ => rfl⟩
  u_law_like := ⟨f16, PySem.W.fnOf "_law_like" "_law_like" (defArgs s_u_law_like) (defBody s_u_law_like) (defScope s_u_law_like) .none kV16 dc16 pm16 an16 cd16 ct16, fun_mk (st := s_u_law_like) l16 q16 k16, PySem.W.mg_of X G a16, (fun_mk (st := s_u_law_like) l16 q16 k16).binds fun _ _ _ _ _ _ us hl => match us, hl with | [_, _], _ => rfl⟩
  need_fractions := ⟨f17, PySem.W.fnOf "need_fractions" "need_fractions" (defArgs s_need_fractions) (defBody s_need_fractions) (defScope s_need_fractions) .none kV17 dc17 pm17 an17 cd17 ct17, fun_mk (st := s_need_fractions) l17 q17 k17, PySem.W.mg_of X G a17, (fun_mk (st := s_need_fractions) l17 q17 k17).binds fun _ _ _ _ _ _ us hl => match us, hl with | [_, _], _ => rfl⟩
  are_touching := ⟨f18, PySem.W.fnOf "are_touching" "are_touching" (defArgs s_are_touching) (defBody s_are_touching) (defScope s_are_touching) .none kV18 dc18 pm18 an18 cd18 ct18, fun_mk (st := s_are_touching) l18 q18 k18, PySem.W.mg_of X G a18, (fun_mk (st := s_are_touching) l18 q18 k18).binds fun _ _ _ _ _ _ us hl => match us, hl with | [_, _], _ => rfl⟩
  do_ford_touch := ⟨f19, PySem.W.fnOf "do_ford_touch" "do_ford_touch" (defArgs s_do_ford_touch) (defBody s_do_ford_touch) (defScope s_do_ford_touch) .none kV19 dc19 pm19 an19 cd19 ct19, fun_mk (st := s_do_ford_touch) l19 q19 k19, PySem.W.mg_of X G a19, (fun_mk (st := s_do_ford_touch) l19 q19 k19).binds fun _ _ _ _ _ _ us hl => match us, hl with | [_, _], _ => rfl⟩
  lowest := ⟨f20, PySem.W.fnOf "lowest" "lowest" (defArgs s_lowest) (defBody s_lowest) (defScope s_lowest) .none kV20 dc20 pm20 an20 cd20 ct20, fun_mk (st := s_lowest) l20 q20 k20, PySem.W.mg_of X G a20, (fun_mk (st := s_lowest) l20 q20 k20).binds fun _ _ _ _ _ _ us hl => match us, hl with | [_, _], _ => rfl⟩
  between_in := ⟨f21, PySem.W.fnOf "between_in" "between_in" (defArgs s_between_in) (defBody s_between_in) (defScope s_between_in) .none kV21 dc21 pm21 an21 cd21 ct21, fun_mk (st := s_between_in) l21 q21 k21, PySem.W.mg_of X G a21, (fun_mk (st := s_between_in) l21 q21 k21).binds fun _ _ _ _ _ _ us hl => match us, hl with | [_, _], _ => rfl⟩
  ford_between := ⟨f22, PySem.W.fnOf "ford_between" "ford_between" (defArgs s_ford_between) (defBody s_ford_between) (defScope s_ford_between) .none kV22 dc22 pm22 an22 cd22 ct22, fun_mk (st := s_ford_between) l22 q22 k22, PySem.W.mg_of X G a22, (fun_mk (st := s_ford_between) l22 q22 k22).binds fun _ _ _ _ _ _ us hl => match us, hl with | [_, _], _ => rfl⟩
  ford_parents := ⟨f23, PySem.W.fnOf "ford_parents" "ford_parents" (defArgs s_ford_parents) (defBody s_ford_parents) (defScope s_ford_parents) .none kV23 dc23 pm23 an23 cd23 ct23, fun_mk (st := s_ford_parents) l23 q23 k23, PySem.W.mg_of X G a23, (fun_mk (st := s_ford_parents) l23 q23 k23).binds fun _ _ _ _ _ _ us hl => match us, hl with | [_], _ => rfl⟩
  u_law_some := ⟨f24, PySem.W.fnOf "_law_some" "_law_some" (defArgs s_u_law_some) (defBody s_u_law_some) (defScope s_u_law_some) .none kV24 dc24 pm24 an24 cd24 ct24, fun_mk (st := s_u_law_some) l24 q24 k24, PySem.W.mg_of X G a24, (fun_mk (st := s_u_law_some) l24 q24 k24).binds fun _ _ _ _ _ _ us hl => match us, hl with | [_, _], _ => rfl⟩
  u_law_touch := ⟨f25, PySem.W.fnOf "_law_touch" "_law_touch" (defArgs s_u_law_touch) (defBody s_u_law_touch) (defScope s_u_law_touch) .none kV25 dc25 pm25 an25 cd25 ct25, fun_mk (st := s_u_law_touch) l25 q25 k25, PySem.W.mg_of X G a25, (fun_mk (st := s_u_law_touch) l25 q25 k25).binds fun _ _ _ _ _ _ us hl => match us, hl with | [_, _], _ => rfl⟩
  u_law_small_right := ⟨f26, PySem.W.fnOf "_law_small_right" "_law_small_right" (defArgs s_u_law_small_right) (defBody s_u_law_small_right) (defScope s_u_law_small_right) .none kV26 dc26 pm26 an26 cd26 ct26, fun_mk (st := s_u_law_small_right) l26 q26 k26, PySem.W.mg_of X G a26, (fun_mk (st := s_u_law_small_right) l26 q26 k26).binds fun _ _ _ _ _ _ us hl => match us, hl with | [_, _, _], _ => rfl⟩
  ford_bends := ⟨f27, PySem.W.fnOf "ford_bends" "ford_bends" (defArgs s_ford_bends) (defBody s_ford_bends) (defScope s_ford_bends) .none kV27 dc27 pm27 an27 cd27 ct27, fun_mk (st := s_ford_bends) l27 q27 k27, PySem.W.mg_of X G a27, (fun_mk (st := s_ford_bends) l27 q27 k27).binds fun _ _ _ _ _ _ us hl => match us, hl with | [_, _], _ => rfl⟩
  u_law_fraction := ⟨f28, PySem.W.fnOf "_law_fraction" "_law_fraction" (defArgs s_u_law_fraction) (defBody s_u_law_fraction) (defScope s_u_law_fraction) .none kV28 dc28 pm28 an28 cd28 ct28, fun_mk (st := s_u_law_fraction) l28 q28 k28, PySem.W.mg_of X G a28, (fun_mk (st := s_u_law_fraction) l28 q28 k28).binds fun _ _ _ _ _ _ us hl => match us, hl with | [_, _], _ => rfl⟩
  u_law_parents_right := ⟨f29, PySem.W.fnOf "_law_parents_right" "_law_parents_right" (defArgs s_u_law_parents_right) (defBody s_u_law_parents_right) (defScope s_u_law_parents_right) .none kV29 dc29 pm29 an29 cd29 ct29, fun_mk (st := s_u_law_parents_right) l29 q29 k29, PySem.W.mg_of X G a29, (fun_mk (st := s_u_law_parents_right) l29 q29 k29).binds fun _ _ _ _ _ _ us hl => match us, hl with | [_], _ => rfl⟩
  is_touching := ⟨f30, PySem.W.fnOf "is_touching" "is_touching" (defArgs s_is_touching) (defBody s_is_touching) (defScope s_is_touching) .none kV30 dc30 pm30 an30 cd30 ct30, fun_mk (st := s_is_touching) l30 q30 k30, PySem.W.mg_of X G a30, (fun_mk (st := s_is_touching) l30 q30 k30).binds fun _ _ _ _ _ _ us hl => match us, hl with | [_], _ => rfl⟩
  fits_row := ⟨f31, PySem.W.fnOf "fits_row" "fits_row" (defArgs s_fits_row) (defBody s_fits_row) (defScope s_fits_row) .none kV31 dc31 pm31 an31 cd31 ct31, fun_mk (st := s_fits_row) l31 q31 k31, PySem.W.mg_of X G a31, (fun_mk (st := s_fits_row) l31 q31 k31).binds fun _ _ _ _ _ _ us hl => match us, hl with | [_], _ => rfl⟩
  is_row_of_bends := ⟨f32, PySem.W.fnOf "is_row_of_bends" "is_row_of_bends" (defArgs s_is_row_of_bends) (defBody s_is_row_of_bends) (defScope s_is_row_of_bends) .none kV32 dc32 pm32 an32 cd32 ct32, fun_mk (st := s_is_row_of_bends) l32 q32 k32, PySem.W.mg_of X G a32, (fun_mk (st := s_is_row_of_bends) l32 q32 k32).binds fun _ _ _ _ _ _ us hl => match us, hl with | [_], _ => rfl⟩
  u_law_right := ⟨f33, PySem.W.fnOf "_law_right" "_law_right" (defArgs s_u_law_right) (defBody s_u_law_right) (defScope s_u_law_right) .none kV33 dc33 pm33 an33 cd33 ct33, fun_mk (st := s_u_law_right) l33 q33 k33, PySem.W.mg_of X G a33, (fun_mk (st := s_u_law_right) l33 q33 k33).binds fun _ _ _ _ _ _ us hl => match us, hl with | [_, _, _], _ => rfl⟩
  law := ⟨f34, PySem.W.fnOf "law" "law" (defArgs s_law) (defBody s_law) (defScope s_law) .none kV34 dc34 pm34 an34 cd34 ct34, fun_mk (st := s_law) l34 q34 k34, PySem.W.mg_of X G a34, (fun_mk (st := s_law) l34 q34 k34).binds fun _ _ _ _ _ _ us hl => match us, hl with | [_], _ => rfl⟩
  z_abs := PySem.W.mg_none_of X G z0
  z_all := PySem.W.mg_none_of X G z1
  z_bool := PySem.W.mg_none_of X G z2
  z_int := PySem.W.mg_none_of X G z3
  z_isinstance := PySem.W.mg_none_of X G z4
  z_len := PySem.W.mg_none_of X G z5
  z_list := PySem.W.mg_none_of X G z6
  z_max := PySem.W.mg_none_of X G z7
  z_range := PySem.W.mg_none_of X G z8
  z_sorted := PySem.W.mg_none_of X G z9
  z_str := PySem.W.mg_none_of X G z10
  z_sum := PySem.W.mg_none_of X G z11
  z_tuple := PySem.W.mg_none_of X G z12
  z_zip := PySem.W.mg_none_of X G z13
  c_GREAT := ⟨_, V.int 1000000000000000000000000000000000000000000000000000000000000, PySem.W.mg_of X G g154, ⟨_, rfl⟩, fun _ _ => .int _⟩
  c_MOST := ⟨_, V.int 1000, PySem.W.mg_of X G g155, ⟨_, rfl⟩, fun _ _ => .int _⟩
theorem all_mk {l : PySem.W.OpenLaw} {w : World} {K : PySem.W.Frag} {h : Heap} {mg : Str → Option Value} {fa : Addr} (X : K.In h) (G : h.Ns mainGlobals mg) (hfa : mg "law" = some (.ref fa))
    {f0 : Addr} {od0 an0 : Option Addr} {sl0 : Array (Option Value)} {oc0 kV0 dc0 pm0 cd0 ct0 : Value}
    {f1 : Addr} {od1 an1 : Option Addr} {sl1 : Array (Option Value)} {oc1 kV1 dc1 pm1 cd1 ct1 : Value}
    {f2 : Addr} {od2 an2 : Option Addr} {sl2 : Array (Option Value)} {oc2 kV2 dc2 pm2 cd2 ct2 : Value}
    {f3 : Addr} {od3 an3 : Option Addr} {sl3 : Array (Option Value)} {oc3 kV3 dc3 pm3 cd3 ct3 : Value}
    {f4 : Addr} {od4 an4 : Option Addr} {sl4 : Array (Option Value)} {oc4 kV4 dc4 pm4 cd4 ct4 : Value}
    {f5 : Addr} {od5 an5 : Option Addr} {sl5 : Array (Option Value)} {oc5 kV5 dc5 pm5 cd5 ct5 : Value}
    {f6 : Addr} {od6 an6 : Option Addr} {sl6 : Array (Option Value)} {oc6 kV6 dc6 pm6 cd6 ct6 : Value}
    {f7 : Addr} {od7 an7 : Option Addr} {sl7 : Array (Option Value)} {oc7 kV7 dc7 pm7 cd7 ct7 : Value}
    {f8 : Addr} {od8 an8 : Option Addr} {sl8 : Array (Option Value)} {oc8 kV8 dc8 pm8 cd8 ct8 : Value}
    {f9 : Addr} {od9 an9 : Option Addr} {sl9 : Array (Option Value)} {oc9 kV9 dc9 pm9 cd9 ct9 : Value}
    {f10 : Addr} {od10 an10 : Option Addr} {sl10 : Array (Option Value)} {oc10 kV10 dc10 pm10 cd10 ct10 : Value}
    {f11 : Addr} {od11 an11 : Option Addr} {sl11 : Array (Option Value)} {oc11 kV11 dc11 pm11 cd11 ct11 : Value}
    {f12 : Addr} {od12 an12 : Option Addr} {sl12 : Array (Option Value)} {oc12 kV12 dc12 pm12 cd12 ct12 : Value}
    {f13 : Addr} {od13 an13 : Option Addr} {sl13 : Array (Option Value)} {oc13 kV13 dc13 pm13 cd13 ct13 : Value}
    {f14 : Addr} {od14 an14 : Option Addr} {sl14 : Array (Option Value)} {oc14 kV14 dc14 pm14 cd14 ct14 : Value}
    {f15 : Addr} {od15 an15 : Option Addr} {sl15 : Array (Option Value)} {oc15 kV15 dc15 pm15 cd15 ct15 : Value}
    {f16 : Addr} {od16 an16 : Option Addr} {sl16 : Array (Option Value)} {oc16 kV16 dc16 pm16 cd16 ct16 : Value}
    {f17 : Addr} {od17 an17 : Option Addr} {sl17 : Array (Option Value)} {oc17 kV17 dc17 pm17 cd17 ct17 : Value}
    {f18 : Addr} {od18 an18 : Option Addr} {sl18 : Array (Option Value)} {oc18 kV18 dc18 pm18 cd18 ct18 : Value}
    {f19 : Addr} {od19 an19 : Option Addr} {sl19 : Array (Option Value)} {oc19 kV19 dc19 pm19 cd19 ct19 : Value}
    {f20 : Addr} {od20 an20 : Option Addr} {sl20 : Array (Option Value)} {oc20 kV20 dc20 pm20 cd20 ct20 : Value}
    {f21 : Addr} {od21 an21 : Option Addr} {sl21 : Array (Option Value)} {oc21 kV21 dc21 pm21 cd21 ct21 : Value}
    {f22 : Addr} {od22 an22 : Option Addr} {sl22 : Array (Option Value)} {oc22 kV22 dc22 pm22 cd22 ct22 : Value}
    {f23 : Addr} {od23 an23 : Option Addr} {sl23 : Array (Option Value)} {oc23 kV23 dc23 pm23 cd23 ct23 : Value}
    {f24 : Addr} {od24 an24 : Option Addr} {sl24 : Array (Option Value)} {oc24 kV24 dc24 pm24 cd24 ct24 : Value}
    {f25 : Addr} {od25 an25 : Option Addr} {sl25 : Array (Option Value)} {oc25 kV25 dc25 pm25 cd25 ct25 : Value}
    {f26 : Addr} {od26 an26 : Option Addr} {sl26 : Array (Option Value)} {oc26 kV26 dc26 pm26 cd26 ct26 : Value}
    {f27 : Addr} {od27 an27 : Option Addr} {sl27 : Array (Option Value)} {oc27 kV27 dc27 pm27 cd27 ct27 : Value}
    {f28 : Addr} {od28 an28 : Option Addr} {sl28 : Array (Option Value)} {oc28 kV28 dc28 pm28 cd28 ct28 : Value}
    {f29 : Addr} {od29 an29 : Option Addr} {sl29 : Array (Option Value)} {oc29 kV29 dc29 pm29 cd29 ct29 : Value}
    {f30 : Addr} {od30 an30 : Option Addr} {sl30 : Array (Option Value)} {oc30 kV30 dc30 pm30 cd30 ct30 : Value}
    {f31 : Addr} {od31 an31 : Option Addr} {sl31 : Array (Option Value)} {oc31 kV31 dc31 pm31 cd31 ct31 : Value}
    {f32 : Addr} {od32 an32 : Option Addr} {sl32 : Array (Option Value)} {oc32 kV32 dc32 pm32 cd32 ct32 : Value}
    {f33 : Addr} {od33 an33 : Option Addr} {sl33 : Array (Option Value)} {oc33 kV33 dc33 pm33 cd33 ct33 : Value}
    {f34 : Addr} {od34 an34 : Option Addr} {sl34 : Array (Option Value)} {oc34 kV34 dc34 pm34 cd34 ct34 : Value}
    {t1 : Tok}
    {t2 : Tok}
    (a0 : PySem.W.nsIn K mainGlobals "_law_cup" = some (some (.ref f0))) (l0 : K.lookup f0 = some ⟨oc0, od0, .func (PySem.W.fnOf "_law_cup" "_law_cup" (defArgs s_u_law_cup) (defBody s_u_law_cup) (defScope s_u_law_cup) .none kV0 dc0 pm0 an0 cd0 ct0), sl0⟩) (q0 : PySem.W.codeIn K cd0 "_law_cup" = true) (k0 : PySem.W.keepIn K (.ref f0) = true)
    (a1 : PySem.W.nsIn K mainGlobals "_law_divisor" = some (some (.ref f1))) (l1 : K.lookup f1 = some ⟨oc1, od1, .func (PySem.W.fnOf "_law_divisor" "_law_divisor" (defArgs s_u_law_divisor) (defBody s_u_law_divisor) (defScope s_u_law_divisor) .none kV1 dc1 pm1 an1 cd1 ct1), sl1⟩) (q1 : PySem.W.codeIn K cd1 "_law_divisor" = true) (k1 : PySem.W.keepIn K (.ref f1) = true)
    (a2 : PySem.W.nsIn K mainGlobals "_law_least" = some (some (.ref f2))) (l2 : K.lookup f2 = some ⟨oc2, od2, .func (PySem.W.fnOf "_law_least" "_law_least" (defArgs s_u_law_least) (defBody s_u_law_least) (defScope s_u_law_least) .none kV2 dc2 pm2 an2 cd2 ct2), sl2⟩) (q2 : PySem.W.codeIn K cd2 "_law_least" = true) (k2 : PySem.W.keepIn K (.ref f2) = true)
    (a3 : PySem.W.nsIn K mainGlobals "_law_roll" = some (some (.ref f3))) (l3 : K.lookup f3 = some ⟨oc3, od3, .func (PySem.W.fnOf "_law_roll" "_law_roll" (defArgs s_u_law_roll) (defBody s_u_law_roll) (defScope s_u_law_roll) .none kV3 dc3 pm3 an3 cd3 ct3), sl3⟩) (q3 : PySem.W.codeIn K cd3 "_law_roll" = true) (k3 : PySem.W.keepIn K (.ref f3) = true)
    (a4 : PySem.W.nsIn K mainGlobals "is_tuple_of" = some (some (.ref f4))) (l4 : K.lookup f4 = some ⟨oc4, od4, .func (PySem.W.fnOf "is_tuple_of" "is_tuple_of" (defArgs s_is_tuple_of) (defBody s_is_tuple_of) (defScope s_is_tuple_of) .none kV4 dc4 pm4 an4 cd4 ct4), sl4⟩) (q4 : PySem.W.codeIn K cd4 "is_tuple_of" = true) (k4 : PySem.W.keepIn K (.ref f4) = true)
    (a5 : PySem.W.nsIn K mainGlobals "divisor_of" = some (some (.ref f5))) (l5 : K.lookup f5 = some ⟨oc5, od5, .func (PySem.W.fnOf "divisor_of" "divisor_of" (defArgs s_divisor_of) (defBody s_divisor_of) (defScope s_divisor_of) .none kV5 dc5 pm5 an5 cd5 ct5), sl5⟩) (q5 : PySem.W.codeIn K cd5 "divisor_of" = true) (k5 : PySem.W.keepIn K (.ref f5) = true)
    (a6 : PySem.W.nsIn K mainGlobals "is_integer" = some (some (.ref f6))) (l6 : K.lookup f6 = some ⟨oc6, od6, .func (PySem.W.fnOf "is_integer" "is_integer" (defArgs s_is_integer) (defBody s_is_integer) (defScope s_is_integer) .none kV6 dc6 pm6 an6 cd6 ct6), sl6⟩) (q6 : PySem.W.codeIn K cd6 "is_integer" = true) (k6 : PySem.W.keepIn K (.ref f6) = true)
    (a7 : PySem.W.nsIn K mainGlobals "fits_fraction" = some (some (.ref f7))) (l7 : K.lookup f7 = some ⟨oc7, od7, .func (PySem.W.fnOf "fits_fraction" "fits_fraction" (defArgs s_fits_fraction) (defBody s_fits_fraction) (defScope s_fits_fraction) .none kV7 dc7 pm7 an7 cd7 ct7), sl7⟩) (q7 : PySem.W.codeIn K cd7 "fits_fraction" = true) (k7 : PySem.W.keepIn K (.ref f7) = true)
    (a8 : PySem.W.nsIn K mainGlobals "need_fraction" = some (some (.ref f8))) (l8 : K.lookup f8 = some ⟨oc8, od8, .func (PySem.W.fnOf "need_fraction" "need_fraction" (defArgs s_need_fraction) (defBody s_need_fraction) (defScope s_need_fraction) .none kV8 dc8 pm8 an8 cd8 ct8), sl8⟩) (q8 : PySem.W.codeIn K cd8 "need_fraction" = true) (k8 : PySem.W.keepIn K (.ref f8) = true)
    (a9 : PySem.W.nsIn K mainGlobals "is_whole" = some (some (.ref f9))) (l9 : K.lookup f9 = some ⟨oc9, od9, .func (PySem.W.fnOf "is_whole" "is_whole" (defArgs s_is_whole) (defBody s_is_whole) (defScope s_is_whole) .none kV9 dc9 pm9 an9 cd9 ct9), sl9⟩) (q9 : PySem.W.codeIn K cd9 "is_whole" = true) (k9 : PySem.W.keepIn K (.ref f9) = true)
    (a10 : PySem.W.nsIn K mainGlobals "need_whole" = some (some (.ref f10))) (l10 : K.lookup f10 = some ⟨oc10, od10, .func (PySem.W.fnOf "need_whole" "need_whole" (defArgs s_need_whole) (defBody s_need_whole) (defScope s_need_whole) .none kV10 dc10 pm10 an10 cd10 ct10), sl10⟩) (q10 : PySem.W.codeIn K cd10 "need_whole" = true) (k10 : PySem.W.keepIn K (.ref f10) = true)
    (a11 : PySem.W.nsIn K mainGlobals "undone_by" = some (some (.ref f11))) (l11 : K.lookup f11 = some ⟨oc11, od11, .func (PySem.W.fnOf "undone_by" "undone_by" (defArgs s_undone_by) (defBody s_undone_by) (defScope s_undone_by) .none kV11 dc11 pm11 an11 cd11 ct11), sl11⟩) (q11 : PySem.W.codeIn K cd11 "undone_by" = true) (k11 : PySem.W.keepIn K (.ref f11) = true)
    (a12 : PySem.W.nsIn K mainGlobals "lasts_below" = some (some (.ref f12))) (l12 : K.lookup f12 = some ⟨oc12, od12, .func (PySem.W.fnOf "lasts_below" "lasts_below" (defArgs s_lasts_below) (defBody s_lasts_below) (defScope s_lasts_below) .none kV12 dc12 pm12 an12 cd12 ct12), sl12⟩) (q12 : PySem.W.codeIn K cd12 "lasts_below" = true) (k12 : PySem.W.keepIn K (.ref f12) = true)
    (a13 : PySem.W.nsIn K mainGlobals "touching_in" = some (some (.ref f13))) (l13 : K.lookup f13 = some ⟨oc13, od13, .func (PySem.W.fnOf "touching_in" "touching_in" (defArgs s_touching_in) (defBody s_touching_in) (defScope s_touching_in) .none kV13 dc13 pm13 an13 cd13 ct13), sl13⟩) (q13 : PySem.W.codeIn K cd13 "touching_in" = true) (k13 : PySem.W.keepIn K (.ref f13) = true)
    (a14 : PySem.W.nsIn K mainGlobals "ford_neighbours" = some (some (.ref f14))) (l14 : K.lookup f14 = some ⟨oc14, od14, .func (PySem.W.fnOf "ford_neighbours" "ford_neighbours" (defArgs s_ford_neighbours) (defBody s_ford_neighbours) (defScope s_ford_neighbours) .none kV14 dc14 pm14 an14 cd14 ct14), sl14⟩) (q14 : PySem.W.codeIn K cd14 "ford_neighbours" = true) (k14 : PySem.W.keepIn K (.ref f14) = true)
    (a15 : PySem.W.nsIn K mainGlobals "_law_sort" = some (some (.ref f15))) (l15 : K.lookup f15 = some ⟨oc15, od15, .func (PySem.W.fnOf "_law_sort" "_law_sort" (defArgs s_u_law_sort) (defBody s_u_law_sort) (defScope s_u_law_sort) .none kV15 dc15 pm15 an15 cd15 ct15), sl15⟩) (q15 : PySem.W.codeIn K cd15 "_law_sort" = true) (k15 : PySem.W.keepIn K (.ref f15) = true)
    (a16 : PySem.W.nsIn K mainGlobals "_law_like" = some (some (.ref f16))) (l16 : K.lookup f16 = some ⟨oc16, od16, .func (PySem.W.fnOf "_law_like" "_law_like" (defArgs s_u_law_like) (defBody s_u_law_like) (defScope s_u_law_like) .none kV16 dc16 pm16 an16 cd16 ct16), sl16⟩) (q16 : PySem.W.codeIn K cd16 "_law_like" = true) (k16 : PySem.W.keepIn K (.ref f16) = true)
    (a17 : PySem.W.nsIn K mainGlobals "need_fractions" = some (some (.ref f17))) (l17 : K.lookup f17 = some ⟨oc17, od17, .func (PySem.W.fnOf "need_fractions" "need_fractions" (defArgs s_need_fractions) (defBody s_need_fractions) (defScope s_need_fractions) .none kV17 dc17 pm17 an17 cd17 ct17), sl17⟩) (q17 : PySem.W.codeIn K cd17 "need_fractions" = true) (k17 : PySem.W.keepIn K (.ref f17) = true)
    (a18 : PySem.W.nsIn K mainGlobals "are_touching" = some (some (.ref f18))) (l18 : K.lookup f18 = some ⟨oc18, od18, .func (PySem.W.fnOf "are_touching" "are_touching" (defArgs s_are_touching) (defBody s_are_touching) (defScope s_are_touching) .none kV18 dc18 pm18 an18 cd18 ct18), sl18⟩) (q18 : PySem.W.codeIn K cd18 "are_touching" = true) (k18 : PySem.W.keepIn K (.ref f18) = true)
    (a19 : PySem.W.nsIn K mainGlobals "do_ford_touch" = some (some (.ref f19))) (l19 : K.lookup f19 = some ⟨oc19, od19, .func (PySem.W.fnOf "do_ford_touch" "do_ford_touch" (defArgs s_do_ford_touch) (defBody s_do_ford_touch) (defScope s_do_ford_touch) .none kV19 dc19 pm19 an19 cd19 ct19), sl19⟩) (q19 : PySem.W.codeIn K cd19 "do_ford_touch" = true) (k19 : PySem.W.keepIn K (.ref f19) = true)
    (a20 : PySem.W.nsIn K mainGlobals "lowest" = some (some (.ref f20))) (l20 : K.lookup f20 = some ⟨oc20, od20, .func (PySem.W.fnOf "lowest" "lowest" (defArgs s_lowest) (defBody s_lowest) (defScope s_lowest) .none kV20 dc20 pm20 an20 cd20 ct20), sl20⟩) (q20 : PySem.W.codeIn K cd20 "lowest" = true) (k20 : PySem.W.keepIn K (.ref f20) = true)
    (a21 : PySem.W.nsIn K mainGlobals "between_in" = some (some (.ref f21))) (l21 : K.lookup f21 = some ⟨oc21, od21, .func (PySem.W.fnOf "between_in" "between_in" (defArgs s_between_in) (defBody s_between_in) (defScope s_between_in) .none kV21 dc21 pm21 an21 cd21 ct21), sl21⟩) (q21 : PySem.W.codeIn K cd21 "between_in" = true) (k21 : PySem.W.keepIn K (.ref f21) = true)
    (a22 : PySem.W.nsIn K mainGlobals "ford_between" = some (some (.ref f22))) (l22 : K.lookup f22 = some ⟨oc22, od22, .func (PySem.W.fnOf "ford_between" "ford_between" (defArgs s_ford_between) (defBody s_ford_between) (defScope s_ford_between) .none kV22 dc22 pm22 an22 cd22 ct22), sl22⟩) (q22 : PySem.W.codeIn K cd22 "ford_between" = true) (k22 : PySem.W.keepIn K (.ref f22) = true)
    (a23 : PySem.W.nsIn K mainGlobals "ford_parents" = some (some (.ref f23))) (l23 : K.lookup f23 = some ⟨oc23, od23, .func (PySem.W.fnOf "ford_parents" "ford_parents" (defArgs s_ford_parents) (defBody s_ford_parents) (defScope s_ford_parents) .none kV23 dc23 pm23 an23 cd23 ct23), sl23⟩) (q23 : PySem.W.codeIn K cd23 "ford_parents" = true) (k23 : PySem.W.keepIn K (.ref f23) = true)
    (a24 : PySem.W.nsIn K mainGlobals "_law_some" = some (some (.ref f24))) (l24 : K.lookup f24 = some ⟨oc24, od24, .func (PySem.W.fnOf "_law_some" "_law_some" (defArgs s_u_law_some) (defBody s_u_law_some) (defScope s_u_law_some) .none kV24 dc24 pm24 an24 cd24 ct24), sl24⟩) (q24 : PySem.W.codeIn K cd24 "_law_some" = true) (k24 : PySem.W.keepIn K (.ref f24) = true)
    (a25 : PySem.W.nsIn K mainGlobals "_law_touch" = some (some (.ref f25))) (l25 : K.lookup f25 = some ⟨oc25, od25, .func (PySem.W.fnOf "_law_touch" "_law_touch" (defArgs s_u_law_touch) (defBody s_u_law_touch) (defScope s_u_law_touch) .none kV25 dc25 pm25 an25 cd25 ct25), sl25⟩) (q25 : PySem.W.codeIn K cd25 "_law_touch" = true) (k25 : PySem.W.keepIn K (.ref f25) = true)
    (a26 : PySem.W.nsIn K mainGlobals "_law_small_right" = some (some (.ref f26))) (l26 : K.lookup f26 = some ⟨oc26, od26, .func (PySem.W.fnOf "_law_small_right" "_law_small_right" (defArgs s_u_law_small_right) (defBody s_u_law_small_right) (defScope s_u_law_small_right) .none kV26 dc26 pm26 an26 cd26 ct26), sl26⟩) (q26 : PySem.W.codeIn K cd26 "_law_small_right" = true) (k26 : PySem.W.keepIn K (.ref f26) = true)
    (a27 : PySem.W.nsIn K mainGlobals "ford_bends" = some (some (.ref f27))) (l27 : K.lookup f27 = some ⟨oc27, od27, .func (PySem.W.fnOf "ford_bends" "ford_bends" (defArgs s_ford_bends) (defBody s_ford_bends) (defScope s_ford_bends) .none kV27 dc27 pm27 an27 cd27 ct27), sl27⟩) (q27 : PySem.W.codeIn K cd27 "ford_bends" = true) (k27 : PySem.W.keepIn K (.ref f27) = true)
    (a28 : PySem.W.nsIn K mainGlobals "_law_fraction" = some (some (.ref f28))) (l28 : K.lookup f28 = some ⟨oc28, od28, .func (PySem.W.fnOf "_law_fraction" "_law_fraction" (defArgs s_u_law_fraction) (defBody s_u_law_fraction) (defScope s_u_law_fraction) .none kV28 dc28 pm28 an28 cd28 ct28), sl28⟩) (q28 : PySem.W.codeIn K cd28 "_law_fraction" = true) (k28 : PySem.W.keepIn K (.ref f28) = true)
    (a29 : PySem.W.nsIn K mainGlobals "_law_parents_right" = some (some (.ref f29))) (l29 : K.lookup f29 = some ⟨oc29, od29, .func (PySem.W.fnOf "_law_parents_right" "_law_parents_right" (defArgs s_u_law_parents_right) (defBody s_u_law_parents_right) (defScope s_u_law_parents_right) .none kV29 dc29 pm29 an29 cd29 ct29), sl29⟩) (q29 : PySem.W.codeIn K cd29 "_law_parents_right" = true) (k29 : PySem.W.keepIn K (.ref f29) = true)
    (a30 : PySem.W.nsIn K mainGlobals "is_touching" = some (some (.ref f30))) (l30 : K.lookup f30 = some ⟨oc30, od30, .func (PySem.W.fnOf "is_touching" "is_touching" (defArgs s_is_touching) (defBody s_is_touching) (defScope s_is_touching) .none kV30 dc30 pm30 an30 cd30 ct30), sl30⟩) (q30 : PySem.W.codeIn K cd30 "is_touching" = true) (k30 : PySem.W.keepIn K (.ref f30) = true)
    (a31 : PySem.W.nsIn K mainGlobals "fits_row" = some (some (.ref f31))) (l31 : K.lookup f31 = some ⟨oc31, od31, .func (PySem.W.fnOf "fits_row" "fits_row" (defArgs s_fits_row) (defBody s_fits_row) (defScope s_fits_row) .none kV31 dc31 pm31 an31 cd31 ct31), sl31⟩) (q31 : PySem.W.codeIn K cd31 "fits_row" = true) (k31 : PySem.W.keepIn K (.ref f31) = true)
    (a32 : PySem.W.nsIn K mainGlobals "is_row_of_bends" = some (some (.ref f32))) (l32 : K.lookup f32 = some ⟨oc32, od32, .func (PySem.W.fnOf "is_row_of_bends" "is_row_of_bends" (defArgs s_is_row_of_bends) (defBody s_is_row_of_bends) (defScope s_is_row_of_bends) .none kV32 dc32 pm32 an32 cd32 ct32), sl32⟩) (q32 : PySem.W.codeIn K cd32 "is_row_of_bends" = true) (k32 : PySem.W.keepIn K (.ref f32) = true)
    (a33 : PySem.W.nsIn K mainGlobals "_law_right" = some (some (.ref f33))) (l33 : K.lookup f33 = some ⟨oc33, od33, .func (PySem.W.fnOf "_law_right" "_law_right" (defArgs s_u_law_right) (defBody s_u_law_right) (defScope s_u_law_right) .none kV33 dc33 pm33 an33 cd33 ct33), sl33⟩) (q33 : PySem.W.codeIn K cd33 "_law_right" = true) (k33 : PySem.W.keepIn K (.ref f33) = true)
    (a34 : PySem.W.nsIn K mainGlobals "law" = some (some (.ref f34))) (l34 : K.lookup f34 = some ⟨oc34, od34, .func (PySem.W.fnOf "law" "law" (defArgs s_law) (defBody s_law) (defScope s_law) .none kV34 dc34 pm34 an34 cd34 ct34), sl34⟩) (q34 : PySem.W.codeIn K cd34 "law" = true) (k34 : PySem.W.keepIn K (.ref f34) = true)
    (z0 : PySem.W.nsIn K mainGlobals "abs" = some none)
    (z1 : PySem.W.nsIn K mainGlobals "all" = some none)
    (z2 : PySem.W.nsIn K mainGlobals "bool" = some none)
    (z3 : PySem.W.nsIn K mainGlobals "int" = some none)
    (z4 : PySem.W.nsIn K mainGlobals "isinstance" = some none)
    (z5 : PySem.W.nsIn K mainGlobals "len" = some none)
    (z6 : PySem.W.nsIn K mainGlobals "list" = some none)
    (z7 : PySem.W.nsIn K mainGlobals "max" = some none)
    (z8 : PySem.W.nsIn K mainGlobals "range" = some none)
    (z9 : PySem.W.nsIn K mainGlobals "sorted" = some none)
    (z10 : PySem.W.nsIn K mainGlobals "str" = some none)
    (z11 : PySem.W.nsIn K mainGlobals "sum" = some none)
    (z12 : PySem.W.nsIn K mainGlobals "tuple" = some none)
    (z13 : PySem.W.nsIn K mainGlobals "zip" = some none)
    (g154 : PySem.W.nsIn K mainGlobals "GREAT" = some (some (.int 1000000000000000000000000000000000000000000000000000000000000 t1)))
    (g155 : PySem.W.nsIn K mainGlobals "MOST" = some (some (.int 1000 t2)))
    : ∃ fd : FuncData, (∀ (s : Shared) (v : Value), BindsTo s fd ⟨[v], []⟩ [("script", v)]) ∧ ∀ base : Heap, K.In base → base.Ns mainGlobals mg → FnOk l.prog w K mg base CX0 13 fa fd ["script"] (spLaw K) := by
  have e := hfa.symm.trans (PySem.W.mg_of X G a34)
  cases e
  exact ⟨_, fun s v => .of_eq rfl, fun base _ _ => w_law (txt_mk X G a0 l0 q0 k0 a1 l1 q1 k1 a2 l2 q2 k2 a3 l3 q3 k3 a4 l4 q4 k4 a5 l5 q5 k5 a6 l6 q6 k6 a7 l7 q7 k7 a8 l8 q8 k8 a9 l9 q9 k9 a10 l10 q10 k10 a11 l11 q11 k11 a12 l12 q12 k12 a13 l13 q13 k13 a14 l14 q14 k14 a15 l15 q15 k15 a16 l16 q16 k16 a17 l17 q17 k17 a18 l18 q18 k18 a19 l19 q19 k19 a20 l20 q20 k20 a21 l21 q21 k21 a22 l22 q22 k22 a23 l23 q23 k23 a24 l24 q24 k24 a25 l25 q25 k25 a26 l26 q26 k26 a27 l27 q27 k27 a28 l28 q28 k28 a29 l29 q29 k29 a30 l30 q30 k30 a31 l31 q31 k31 a32 l32 q32 k32 a33 l33 q33 k33 a34 l34 q34 k34 z0 z1 z2 z3 z4 z5 z6 z7 z8 z9 z10 z11 z12 z13 g154 g155) law_true⟩
end LK
open PySem PySem.W PyProof.Rows
set_option maxHeartbeats 0 in
theorem PySem.Challenge.cw_wholesides_k50_whole_ford_circles_holds : PySem.Challenge.rw_wholesides_k50_whole_ford_circles.Holds := by
  w_on; o_law; k_head; (case hw => w_witness2)
  k_fill
  refine L2.walk_of (l := PySem.Challenge.rw_wholesides_k50_whole_ford_circles) (n := 63) (k := 13) (x := "script") (CX := fun _ => L2.CX0) (sp := fun w => DL.spLaw _) rfl (by decide) rfl ⟨rfl, by decide, by decide⟩ (fun w h Y => PySem.W.kIn_of Y) ?F (fun _ _ a ns hl _ hS => ⟨a, ns, rfl, hS, hl, fun _ => rfl⟩) (fun _ _ _ _ _ h => h)
  case F =>
    intro w mg fa h KX G hmg
    refine' LK.all_mk (l := PySem.Challenge.rw_wholesides_k50_whole_ford_circles) KX G hmg ?a0 ?l0 ?q0 ?k0 ?a1 ?l1 ?q1 ?k1 ?a2 ?l2 ?q2 ?k2 ?a3 ?l3 ?q3 ?k3 ?a4 ?l4 ?q4 ?k4 ?a5 ?l5 ?q5 ?k5 ?a6 ?l6 ?q6 ?k6 ?a7 ?l7 ?q7 ?k7 ?a8 ?l8 ?q8 ?k8 ?a9 ?l9 ?q9 ?k9 ?a10 ?l10 ?q10 ?k10 ?a11 ?l11 ?q11 ?k11 ?a12 ?l12 ?q12 ?k12 ?a13 ?l13 ?q13 ?k13 ?a14 ?l14 ?q14 ?k14 ?a15 ?l15 ?q15 ?k15 ?a16 ?l16 ?q16 ?k16 ?a17 ?l17 ?q17 ?k17 ?a18 ?l18 ?q18 ?k18 ?a19 ?l19 ?q19 ?k19 ?a20 ?l20 ?q20 ?k20 ?a21 ?l21 ?q21 ?k21 ?a22 ?l22 ?q22 ?k22 ?a23 ?l23 ?q23 ?k23 ?a24 ?l24 ?q24 ?k24 ?a25 ?l25 ?q25 ?k25 ?a26 ?l26 ?q26 ?k26 ?a27 ?l27 ?q27 ?k27 ?a28 ?l28 ?q28 ?k28 ?a29 ?l29 ?q29 ?k29 ?a30 ?l30 ?q30 ?k30 ?a31 ?l31 ?q31 ?k31 ?a32 ?l32 ?q32 ?k32 ?a33 ?l33 ?q33 ?k33 ?a34 ?l34 ?q34 ?k34 ?z0 ?z1 ?z2 ?z3 ?z4 ?z5 ?z6 ?z7 ?z8 ?z9 ?z10 ?z11 ?z12 ?z13 ?g154 ?g155
    (case a0 => k_is)
    (case l0 => k_is)
    (case q0 => k_is)
    (case k0 => k_is)
    (case a1 => k_is)
    (case l1 => k_is)
    (case q1 => k_is)
    (case k1 => k_is)
    (case a2 => k_is)
    (case l2 => k_is)
    (case q2 => k_is)
    (case k2 => k_is)
    (case a3 => k_is)
    (case l3 => k_is)
    (case q3 => k_is)
    (case k3 => k_is)
    (case a4 => k_is)
    (case l4 => k_is)
    (case q4 => k_is)
    (case k4 => k_is)
    (case a5 => k_is)
    (case l5 => k_is)
    (case q5 => k_is)
    (case k5 => k_is)
    (case a6 => k_is)
    (case l6 => k_is)
    (case q6 => k_is)
    (case k6 => k_is)
    (case a7 => k_is)
    (case l7 => k_is)
    (case q7 => k_is)
    (case k7 => k_is)
    (case a8 => k_is)
    (case l8 => k_is)
    (case q8 => k_is)
    (case k8 => k_is)
    (case a9 => k_is)
    (case l9 => k_is)
    (case q9 => k_is)
    (case k9 => k_is)
    (case a10 => k_is)
    (case l10 => k_is)
    (case q10 => k_is)
    (case k10 => k_is)
    (case a11 => k_is)
    (case l11 => k_is)
    (case q11 => k_is)
    (case k11 => k_is)
    (case a12 => k_is)
    (case l12 => k_is)
    (case q12 => k_is)
    (case k12 => k_is)
    (case a13 => k_is)
    (case l13 => k_is)
    (case q13 => k_is)
    (case k13 => k_is)
    (case a14 => k_is)
    (case l14 => k_is)
    (case q14 => k_is)
    (case k14 => k_is)
    (case a15 => k_is)
    (case l15 => k_is)
    (case q15 => k_is)
    (case k15 => k_is)
    (case a16 => k_is)
    (case l16 => k_is)
    (case q16 => k_is)
    (case k16 => k_is)
    (case a17 => k_is)
    (case l17 => k_is)
    (case q17 => k_is)
    (case k17 => k_is)
    (case a18 => k_is)
    (case l18 => k_is)
    (case q18 => k_is)
    (case k18 => k_is)
    (case a19 => k_is)
    (case l19 => k_is)
    (case q19 => k_is)
    (case k19 => k_is)
    (case a20 => k_is)
    (case l20 => k_is)
    (case q20 => k_is)
    (case k20 => k_is)
    (case a21 => k_is)
    (case l21 => k_is)
    (case q21 => k_is)
    (case k21 => k_is)
    (case a22 => k_is)
    (case l22 => k_is)
    (case q22 => k_is)
    (case k22 => k_is)
    (case a23 => k_is)
    (case l23 => k_is)
    (case q23 => k_is)
    (case k23 => k_is)
    (case a24 => k_is)
    (case l24 => k_is)
    (case q24 => k_is)
    (case k24 => k_is)
    (case a25 => k_is)
    (case l25 => k_is)
    (case q25 => k_is)
    (case k25 => k_is)
    (case a26 => k_is)
    (case l26 => k_is)
    (case q26 => k_is)
    (case k26 => k_is)
    (case a27 => k_is)
    (case l27 => k_is)
    (case q27 => k_is)
    (case k27 => k_is)
    (case a28 => k_is)
    (case l28 => k_is)
    (case q28 => k_is)
    (case k28 => k_is)
    (case a29 => k_is)
    (case l29 => k_is)
    (case q29 => k_is)
    (case k29 => k_is)
    (case a30 => k_is)
    (case l30 => k_is)
    (case q30 => k_is)
    (case k30 => k_is)
    (case a31 => k_is)
    (case l31 => k_is)
    (case q31 => k_is)
    (case k31 => k_is)
    (case a32 => k_is)
    (case l32 => k_is)
    (case q32 => k_is)
    (case k32 => k_is)
    (case a33 => k_is)
    (case l33 => k_is)
    (case q33 => k_is)
    (case k33 => k_is)
    (case a34 => k_is)
    (case l34 => k_is)
    (case q34 => k_is)
    (case k34 => k_is)
    (case z0 => k_is)
    (case z1 => k_is)
    (case z2 => k_is)
    (case z3 => k_is)
    (case z4 => k_is)
    (case z5 => k_is)
    (case z6 => k_is)
    (case z7 => k_is)
    (case z8 => k_is)
    (case z9 => k_is)
    (case z10 => k_is)
    (case z11 => k_is)
    (case z12 => k_is)
    (case z13 => k_is)
    (case g154 => k_is)
    (case g155 => k_is)
