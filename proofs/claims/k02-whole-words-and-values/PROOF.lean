import PyProof.Rows.All
import Wide.All
import OpenK.AllK
import Wide.FinOn
import HandS.ForMost
import HandS.ForExc
import HandS.Evl
import HandS.TupAny
import HandS.Style
import HandS.DictComp
import HandS.FStr
import HandS.IsInst
import HandS.ExcInit
import HandS.ExcField
import KE.KExcIs
import HandS.ExcIs
import HandS.More
import HandS.Star
import PyProof.EqAt
import KE.GoesMore
import KE.GoesEnum
import KE.KDictPairs
import HandS.HeadHook1
import HandS.HeadHook2
import HandS.HeadHook3
import HandS.HeadHook4
import HandS.Ends
import PySem.Challenge.RW_layerlore_k02_whole_words_and_values
import Wide.Once
import KE.KStateDown
import HandS.Head0
import HandS.Head1
import HandS.Head2
import HandS.HeadEnd
import KE.IntTextText
import KE.KIntText
set_option Elab.async false
set_option linter.all false
set_option maxRecDepth 100000
set_option maxHeartbeats 2000000
/-! data and what expressions make of it -/
namespace DL
open PySem PySem.Spec PyProof.Rows L2
open Evl (Ex)

inductive D where
  | non | bl (b : Bool) | int (i : Int) | str (s : Str) | lst (xs : List D) | tup (xs : List D) | dic (kvs : List (Key × D))
inductive R (α : Type) where
  | ok (a : α) | exc (c : Nat) (g : D) | bad
def R.bind {α β : Type} : R α → (α → R β) → R β
  | .ok a, k => k a
  | .exc c g, _ => .exc c g
  | .bad, _ => .bad
def R.of {α : Type} : Option α → R α
  | some a => .ok a
  | none => .bad
@[simp] theorem R.bind_ok {α β : Type} (a : α) (k : α → R β) : (R.ok a).bind k = k a := rfl
@[simp] theorem R.bind_exc {α β : Type} (c : Nat) (g : D) (k : α → R β) : (R.exc c g : R α).bind k = .exc c g := rfl
@[simp] theorem R.bind_bad {α β : Type} (k : α → R β) : (R.bad : R α).bind k = .bad := rfl
@[simp] theorem R.of_some {α : Type} (a : α) : R.of (some a) = .ok a := rfl
@[simp] theorem R.of_none {α : Type} : (R.of none : R α) = .bad := rfl

mutual
inductive Dv (K : PySem.W.Frag) (F : Hp) : V → D → Prop
  | non : Dv K F .non .non
  | bl (b : Bool) : Dv K F (.bl b) (.bl b)
  | int (i : Int) : Dv K F (.int i) (.int i)
  | str (s : Str) : Dv K F (.str s) (.str s)
  | lst {a : Addr} {xs : List V} {ds : List D} : SqL K F a xs → DvA K F xs ds → Dv K F (.ref a) (.lst ds)
  | tup {a : Addr} {xs : List V} {ds : List D} : SqT K F a xs → DvA K F xs ds → Dv K F (.ref a) (.tup ds)
  | dic {a : Addr} {kvs : List (Key × V)} {kds : List (Key × D)} : F a = some (.dK kvs) → DvK K F kvs kds → Dv K F (.ref a) (.dic kds)
inductive DvA (K : PySem.W.Frag) (F : Hp) : List V → List D → Prop
  | nil : DvA K F [] []
  | cons {v : V} {vs : List V} {d : D} {ds : List D} : Dv K F v d → DvA K F vs ds → DvA K F (v :: vs) (d :: ds)
inductive DvK (K : PySem.W.Frag) (F : Hp) : List (Key × V) → List (Key × D) → Prop
  | nil : DvK K F [] []
  | cons {k : Key} {v : V} {vs : List (Key × V)} {d : D} {ds : List (Key × D)} : Dv K F v d → DvK K F vs ds → DvK K F ((k, v) :: vs) ((k, d) :: ds)
end

section
variable {K : PySem.W.Frag} {F F' : Hp}
mutual
theorem Dv.mono (e : Ex F F') : ∀ {v : V} {d : D}, Dv K F v d → Dv K F' v d
  | _, _, .non => .non
  | _, _, .bl b => .bl b
  | _, _, .int i => .int i
  | _, _, .str s => .str s
  | _, _, .lst h t => .lst (Evl.ex_l e h) (DvA.mono e t)
  | _, _, .tup h t => .tup (Evl.ex_t e h) (DvA.mono e t)
  | _, _, .dic h t => .dic (e _ _ h) (DvK.mono e t)
theorem DvA.mono (e : Ex F F') : ∀ {vs : List V} {ds : List D}, DvA K F vs ds → DvA K F' vs ds
  | _, _, .nil => .nil
  | _, _, .cons h t => .cons (Dv.mono e h) (DvA.mono e t)
theorem DvK.mono (e : Ex F F') : ∀ {vs : List (Key × V)} {ds : List (Key × D)}, DvK K F vs ds → DvK K F' vs ds
  | _, _, .nil => .nil
  | _, _, .cons h t => .cons (Dv.mono e h) (DvK.mono e t)
end
theorem DvA.len : ∀ {vs : List V} {ds : List D}, DvA K F vs ds → vs.length = ds.length
  | _, _, .nil => rfl
  | _, _, .cons _ t => by simp [DvA.len t]
theorem DvK.len : ∀ {vs : List (Key × V)} {ds : List (Key × D)}, DvK K F vs ds → vs.length = ds.length
  | _, _, .nil => rfl
  | _, _, .cons _ t => by simp [DvK.len t]
theorem DvA.get : ∀ {vs : List V} {ds : List D} {i : Nat} {d : D}, DvA K F vs ds → ds[i]? = some d → ∃ v, vs[i]? = some v ∧ Dv K F v d
  | _, _, _, _, .nil, h => by simp at h
  | _, _, 0, _, .cons h _, e => by
    simp at e
    subst e
    exact ⟨_, rfl, h⟩
  | _, _, i + 1, _, .cons _ t, e => by
    obtain ⟨v, h1, h2⟩ := DvA.get (i := i) t (by simpa using e)
    exact ⟨v, by simpa using h1, h2⟩
theorem DvA.getV : ∀ {vs : List V} {ds : List D} {i : Nat} {v : V}, DvA K F vs ds → vs[i]? = some v → ∃ d, ds[i]? = some d ∧ Dv K F v d
  | _, _, _, _, .nil, h => by simp at h
  | _, _, 0, _, .cons h _, e => by
    simp at e
    subst e
    exact ⟨_, rfl, h⟩
  | _, _, i + 1, _, .cons _ t, e => by
    obtain ⟨v, h1, h2⟩ := DvA.getV (i := i) t (by simpa using e)
    exact ⟨v, by simpa using h1, h2⟩
theorem DvA.append : ∀ {vs ws : List V} {ds es : List D}, DvA K F vs ds → DvA K F ws es → DvA K F (vs ++ ws) (ds ++ es)
  | _, _, _, _, .nil, s => s
  | _, _, _, _, .cons h t, s => .cons h (DvA.append t s)
theorem DvA.take : ∀ {vs : List V} {ds : List D} (n : Nat), DvA K F vs ds → DvA K F (vs.take n) (ds.take n)
  | _, _, 0, _ => .nil
  | _, _, _ + 1, .nil => .nil
  | _, _, n + 1, .cons h t => .cons h (DvA.take n t)
theorem DvA.drop : ∀ {vs : List V} {ds : List D} (n : Nat), DvA K F vs ds → DvA K F (vs.drop n) (ds.drop n)
  | _, _, 0, r => r
  | _, _, _ + 1, .nil => .nil
  | _, _, n + 1, .cons _ t => DvA.drop n t
theorem DvA.rev : ∀ {vs : List V} {ds : List D}, DvA K F vs ds → DvA K F vs.reverse ds.reverse
  | _, _, .nil => .nil
  | _, _, .cons h t => by
    rw [List.reverse_cons, List.reverse_cons]
    exact DvA.append (DvA.rev t) (.cons h .nil)
end

/-- a step of the heap: F the part that is data and stands still; F' the same with new data -/
structure Stp (F H F' H' : Hp) : Prop where
  h : Ex H H'
  f : Ex F F'
  le : Ex F' H'
  new : ∀ a, F a = none → H a ≠ none → F' a = none
theorem Stp.refl {F H : Hp} (le : Ex F H) : Stp F H F H := ⟨Ex.refl H, Ex.refl F, le, fun _ h _ => h⟩
theorem Stp.trans {F H F1 H1 F2 H2 : Hp} (a : Stp F H F1 H1) (b : Stp F1 H1 F2 H2) : Stp F H F2 H2 :=
  ⟨a.h.trans b.h, a.f.trans b.f, b.le, fun x n m => b.new x (a.new x n m) fun z => by
    cases e : H x with
    | none => exact m e
    | some o =>
      rw [a.h x o e] at z
      cases z⟩
/-- a new object -/
theorem Stp.add {F H : Hp} {p : Addr} {o : HO} (le : Ex F H) (hp : H p = none) : Stp F H (upd F p o) (upd H p o) := by
  have hf : F p = none := Evl.fresh_back le hp
  refine ⟨Ex.new hp, Ex.new hf, fun a u e => ?_, fun a n m => ?_⟩
  · by_cases h : a = p
    · subst h
      rw [upd_same] at e ⊢
      exact e
    · rw [upd_ne h] at e ⊢
      exact le a u e
  · rw [upd_ne (fun z => m (by rw [z]; exact hp))]
    exact n

section
variable {α β : Type} {C : Nat → Addr} {K : PySem.W.Frag} {W : WX} {σ : L2.St} {F H F1 H1 : Hp}
/-- what is wanted of an outcome -/
def Out (C : Nat → Addr) (K : PySem.W.Frag) (W : WX) (σ : L2.St) (F H : Hp) (r : R α) (P : α → Hp → Hp → Prop) : Prop :=
  match r with
  | .ok a => ∀ F' H', Stp F H F' H' → P a F' H'
  | .exc c g => ∀ v F' H' dd, Stp F H F' H' → Dv K F' v g → H' dd = some (.xd [(("given" : Str), v)]) → W (.ref (C c)) (some dd) σ H'
  | .bad => False
theorem Out.bind {r : R α} {k : α → R β} {P : β → Hp → Hp → Prop} (o : Out C K W σ F H (r.bind k) P) : Out C K W σ F H r (fun a F1 H1 => Out C K W σ F1 H1 (k a) P) := by
  cases r with
  | ok a =>
    intro F1 H1 s1
    show Out C K W σ F1 H1 (k a) P
    have o' : Out C K W σ F H (k a) P := o
    cases h : k a with
    | ok b =>
      rw [h] at o'
      intro F2 H2 s2
      exact o' F2 H2 (s1.trans s2)
    | exc c g =>
      rw [h] at o'
      intro v F2 H2 dd s2 hv hd
      exact o' v F2 H2 dd (s1.trans s2) hv hd
    | bad =>
      rw [h] at o'
      exact o'
  | exc c g => exact o
  | bad => exact o
theorem Out.imp {r : R α} {P P' : α → Hp → Hp → Prop} (o : Out C K W σ F H r P) (h : ∀ a F1 H1, Stp F H F1 H1 → P a F1 H1 → P' a F1 H1) : Out C K W σ F H r P' := by
  cases r with
  | ok a => exact fun F1 H1 s1 => h a F1 H1 s1 (o F1 H1 s1)
  | exc c g => exact o
  | bad => exact o
theorem Out.of_some {x : Option α} {P : α → Hp → Hp → Prop} (o : Out C K W σ F H (R.of x) P) : ∃ a, x = some a ∧ ∀ F' H', Stp F H F' H' → P a F' H' := by
  cases x with
  | none => exact o.elim
  | some a => exact ⟨a, rfl, o⟩
theorem Out.mono {r : R α} {P : α → Hp → Hp → Prop} (s : Stp F H F1 H1) (o : Out C K W σ F H r P) : Out C K W σ F1 H1 r P := by
  cases r with
  | ok a => exact fun F2 H2 s2 => o F2 H2 (s.trans s2)
  | exc c g => exact fun v F2 H2 dd s2 hv hd => o v F2 H2 dd (s.trans s2) hv hd
  | bad => exact o
end

/-- the names' data, as far as they are data -/
abbrev DEnv := List (Option D)
structure EnvR (K : PySem.W.Frag) (F : Hp) (σ : L2.St) (ρ : DEnv) : Prop where
  len : σ.length = ρ.length
  get : ∀ (i : Nat) (d : D), ρ[i]? = some (some d) → ∃ v, σ[i]? = some (some v) ∧ Dv K F v d
section
variable {K : PySem.W.Frag} {F F' : Hp} {σ : L2.St} {ρ : DEnv}
theorem EnvR.mono (e : Ex F F') (r : EnvR K F σ ρ) : EnvR K F' σ ρ := ⟨r.len, fun i d h => let ⟨v, h1, h2⟩ := r.get i d h; ⟨v, h1, h2.mono e⟩⟩
theorem EnvR.set {i : Nat} {v : V} {d : D} (r : EnvR K F σ ρ) (h : Dv K F v d) : EnvR K F (σ.set i (some v)) (ρ.set i (some d)) := by
  refine ⟨by rw [List.length_set, List.length_set]; exact r.len, fun j e hj => ?_⟩
  by_cases hji : i = j
  · subst hji
    by_cases hl : i < ρ.length
    · rw [List.getElem?_set_self hl] at hj
      cases hj
      exact ⟨v, List.getElem?_set_self (by rw [r.len]; exact hl), h⟩
    · rw [List.getElem?_eq_none (by rw [List.length_set]; omega)] at hj
      cases hj
  · rw [List.getElem?_set_ne hji] at hj
    obtain ⟨w, h1, h2⟩ := r.get j e hj
    exact ⟨w, by rw [List.getElem?_set_ne hji]; exact h1, h2⟩
def wipeD (ρ : DEnv) : List Nat → DEnv
  | [] => ρ
  | v :: vs => (wipeD ρ vs).set v none
theorem EnvR.del {i : Nat} (r : EnvR K F σ ρ) : EnvR K F (σ.set i none) (ρ.set i none) := by
  refine ⟨by rw [List.length_set, List.length_set]; exact r.len, fun j e hj => ?_⟩
  by_cases hji : i = j
  · subst hji
    by_cases hl : i < ρ.length
    · rw [List.getElem?_set_self hl] at hj
      cases hj
    · rw [List.getElem?_eq_none (by rw [List.length_set]; omega)] at hj
      cases hj
  · rw [List.getElem?_set_ne hji] at hj
    obtain ⟨w, h1, h2⟩ := r.get j e hj
    exact ⟨w, by rw [List.getElem?_set_ne hji]; exact h1, h2⟩
theorem EnvR.wipe (r : EnvR K F σ ρ) : ∀ vs : List Nat, EnvR K F (L2.wipe σ vs) (wipeD ρ vs)
  | [] => r
  | v :: vs => (EnvR.wipe r vs).del
end

/-! ### judgements -/
abbrev E := DEnv → R D
def Pd (K : PySem.W.Frag) (Q : VK) : D → Hp → Hp → Prop := fun d F' H' => ∀ v, Dv K F' v d → Q v H'
def Pa (K : PySem.W.Frag) (Q : List V → Hp → Prop) : List D → Hp → Hp → Prop := fun d F' H' => ∀ v, DvA K F' v d → Q v H'
def Pt (Q : Bool → Hp → Prop) : Bool → Hp → Hp → Prop := fun b _ H' => Q b H'
def tE (C : Nat → Addr) (K : PySem.W.Frag) (W : WX) (g : E) : TE := fun σ H Q => ∃ F ρ, Ex F H ∧ EnvR K F σ ρ ∧ Out C K W σ F H (g ρ) (Pd K Q)
def tA (C : Nat → Addr) (K : PySem.W.Frag) (W : WX) (g : DEnv → R (List D)) : TA := fun σ H Q => ∃ F ρ, Ex F H ∧ EnvR K F σ ρ ∧ Out C K W σ F H (g ρ) (Pa K Q)
def tT (C : Nat → Addr) (K : PySem.W.Frag) (W : WX) (g : DEnv → R Bool) : TT := fun σ H Q => ∃ F ρ, Ex F H ∧ EnvR K F σ ρ ∧ Out C K W σ F H (g ρ) (Pt Q)
abbrev DE (X : Cx) (C : Nat → Addr) (W : WX) (e : Expr) (g : E) : Prop := PE X e (tE C X.K W g)
abbrev DA (X : Cx) (C : Nat → Addr) (W : WX) (e : List Expr) (g : DEnv → R (List D)) : Prop := PA X e (tA C X.K W g)
abbrev DT (X : Cx) (C : Nat → Addr) (W : WX) (e : Expr) (g : DEnv → R Bool) : Prop := PT X e (tT C X.K W g)
theorem pe_weak {X : Cx} {e : Expr} {t t' : TE} (h : PE X e t) (w : ∀ σ H Q, t' σ H Q → t σ H Q) : PE X e t' := ⟨fun pins s σ H Q I q => h.run pins s σ H Q I (w σ H Q q)⟩
theorem pa_weak {X : Cx} {e : List Expr} {t t' : TA} (h : PA X e t) (w : ∀ σ H Q, t' σ H Q → t σ H Q) : PA X e t' := ⟨fun pos pins s σ H Q I q => h.run pos pins s σ H Q I (w σ H Q q)⟩
theorem pt_weak {X : Cx} {e : Expr} {t t' : TT} (h : PT X e t) (w : ∀ σ H Q, t' σ H Q → t σ H Q) : PT X e t' := ⟨fun pins s σ H Q I q => h.run pins s σ H Q I (w σ H Q q)⟩
theorem pw_weak {X : Cx} {e : Expr} {t t' : TT} (h : PW X e t) (w : ∀ σ H Q, t' σ H Q → t σ H Q) : PW X e t' := ⟨fun wh pins s σ H Q I q => h.run wh pins s σ H Q I (w σ H Q q)⟩
theorem ps_weak {X : Cx} {e : Stmt} {t t' : TS} (h : PS X e t) (w : ∀ D σ H, t' D σ H → t D σ H) : PS X e t' := ⟨fun pins s σ H D I q => h.run pins s σ H D I (w D σ H q)⟩
theorem pss_weak {X : Cx} {e : List Stmt} {t t' : TS} (h : PSs X e t) (w : ∀ D σ H, t' D σ H → t D σ H) : PSs X e t' := ⟨fun pins s σ H D I q => h.run pins s σ H D I (w D σ H q)⟩

section
variable {X : Cx} {C : Nat → Addr} {W : WX} {a b c : Expr} {ga gb gc : E} {pos : Pos}
def E.var (i : Nat) : E := fun ρ => match ρ[i]? with | some (some d) => .ok d | _ => .bad
def E.k (d : D) : E := fun _ => .ok d
def E.op (f : D → D → Option D) (ga gb : E) : E := fun ρ => (ga ρ).bind fun x => (gb ρ).bind fun y => R.of (f x y)
def E.un (f : D → Option D) (ga : E) : E := fun ρ => (ga ρ).bind fun x => R.of (f x)
theorem de_var {i : Nat} (h : PE X a (tVar i)) : DE X C W a (E.var i) := pe_weak h fun σ H Q ⟨F, ρ, le, env, o⟩ => by
  unfold E.var at o
  cases h : ρ[i]? with
  | none => rw [h] at o; exact o.elim
  | some z =>
    cases z with
    | none => rw [h] at o; exact o.elim
    | some d =>
      rw [h] at o
      obtain ⟨v, h1, h2⟩ := env.get i d h
      exact ⟨v, h1, o F H (Stp.refl le) v h2⟩
/-- a constant -/
theorem de_c {v : V} {d : D} (h : PE X a (tC v)) (hd : ∀ F, Dv X.K F v d) : DE X C W a (E.k d) := pe_weak h fun σ H Q ⟨F, ρ, le, env, o⟩ => o F H (Stp.refl le) v (hd F)
theorem de_int {i : Int} {j} : DE X C W (.Constant (.int i) j pos) (E.k (.int i)) := de_c pe_int fun _ => .int i
theorem de_bl {i : Bool} {j} : DE X C W (.Constant (.bool i) j pos) (E.k (.bl i)) := de_c pe_bl fun _ => .bl i
theorem de_str {i : Str} {j} : DE X C W (.Constant (.str i) j pos) (E.k (.str i)) := de_c pe_str fun _ => .str i
theorem de_non {j} : DE X C W (.Constant .none j pos) (E.k .non) := de_c pe_non fun _ => .non
/-- an operation by data -/
def Op2 (K : PySem.W.Frag) (r : R2) (f : D → D → Option D) : Prop := ∀ F H v u x y d, Ex F H → Dv K F v x → Dv K F u y → f x y = some d → ∀ Q : VK, (∀ F' H', Stp F H F' H' → Pd K Q d F' H') → r v u H Q
def Op1 (K : PySem.W.Frag) (r : V → Hp → VK → Prop) (f : D → Option D) : Prop := ∀ F H v x d, Ex F H → Dv K F v x → f x = some d → ∀ Q : VK, (∀ F' H', Stp F H F' H' → Pd K Q d F' H') → r v H Q
def OpN (K : PySem.W.Frag) (r : List V → Hp → VK → Prop) (f : List D → Option D) : Prop := ∀ F H v x d, Ex F H → DvA K F v x → f x = some d → ∀ Q : VK, (∀ F' H', Stp F H F' H' → Pd K Q d F' H') → r v H Q
theorem op_lift {r : R2} {f : D → D → Option D} (hf : Op2 X.K r f) (σ : L2.St) (H : Hp) (Q : VK) (h : tE C X.K W (E.op f ga gb) σ H Q) : tOp r (tE C X.K W ga) (tE C X.K W gb) σ H Q := by
  obtain ⟨F, ρ, le, env, o⟩ := h
  refine ⟨F, ρ, le, env, o.bind.imp fun x F1 H1 s1 o1 v hv => ⟨F1, ρ, s1.le, env.mono s1.f, o1.bind.imp fun y F2 H2 s2 o2 u hu => ?_⟩⟩
  obtain ⟨d, e, q⟩ := o2.of_some
  exact hf F2 H2 v u x y d s2.le (hv.mono s2.f) hu e Q q
theorem de_op {op : Operator} {r : R2} {f : D → D → Option D} (ho : OpR X (binaryOp op) r) (hf : Op2 X.K r f) (ha : DE X C W a ga) (hb : DE X C W b gb) : DE X C W (.BinOp a op b pos) (E.op f ga gb) := pe_weak (pe_op ho ha hb) (op_lift hf)
theorem de_cmp {op : CmpOp} {r : R2} {f : D → D → Option D} (ho : OpR X (compareOp op) r) (hf : Op2 X.K r f) (ha : DE X C W a ga) (hb : DE X C W b gb) (hm : behindInMarks op b = false) : DE X C W (.Compare a [op] [b] pos) (E.op f ga gb) := pe_weak (pe_cmpR ho ha hb hm) (op_lift hf)
theorem de_un {op : UnaryOp} {r} {f : D → Option D} (ho : UnR X (unaryOp op) r) (hf : Op1 X.K r f) (ha : DE X C W a ga) : DE X C W (.UnaryOp op a pos) (E.un f ga) := pe_weak (pe_un ho ha) fun σ H Q ⟨F, ρ, le, env, o⟩ => by
  refine ⟨F, ρ, le, env, o.bind.imp fun x F1 H1 s1 o1 v hv => ?_⟩
  obtain ⟨d, e, q⟩ := o1.of_some
  exact hf F1 H1 v x d s1.le hv e Q q
/-! arguments -/
def A.nil : DEnv → R (List D) := fun _ => .ok []
def A.cons (ga : E) (gs : DEnv → R (List D)) : DEnv → R (List D) := fun ρ => (ga ρ).bind fun x => (gs ρ).bind fun xs => .ok (x :: xs)
variable {es : List Expr} {gs : DEnv → R (List D)}
theorem da_nil : DA X C W [] A.nil := pa_weak pa_nil fun σ H Q ⟨F, ρ, le, env, o⟩ => o F H (Stp.refl le) [] .nil
theorem a_lift (σ : L2.St) (H : Hp) (Q) (h : tA C X.K W (A.cons ga gs) σ H Q) : tCons (tE C X.K W ga) (tA C X.K W gs) σ H Q := by
  obtain ⟨F, ρ, le, env, o⟩ := h
  exact ⟨F, ρ, le, env, o.bind.imp fun x F1 H1 s1 o1 v hv => ⟨F1, ρ, s1.le, env.mono s1.f, o1.bind.imp fun ys F2 H2 s2 o2 vs hvs => o2 F2 H2 (Stp.refl s2.le) (v :: vs) (.cons (hv.mono s2.f) hvs)⟩⟩
theorem da_cons (ha : DE X C W a ga) (hb : DA X C W es gs) (hs : starEach (a :: es) X.env = (false, eval a X.env) :: starEach es X.env := by rfl) : DA X C W (a :: es) (A.cons ga gs) := pa_weak (pa_cons ha hb hs) a_lift
/-- displays -/
def small (n : Nat) : Bool := decide (n ≤ 100000)
theorem small_le {n : Nat} (h : small n = true) : n ≤ sizeLine := Evl.sz_of (of_decide_eq_true h)
def E.tup (gs : DEnv → R (List D)) : E := fun ρ => (gs ρ).bind fun xs => R.of (if small xs.length then some (D.tup xs) else none)
def E.lst (gs : DEnv → R (List D)) : E := fun ρ => (gs ρ).bind fun xs => R.of (if small xs.length then some (D.lst xs) else none)
theorem of_if {α : Type} {c : Bool} {x a : α} (h : (if c then some x else none) = some a) : c = true ∧ x = a := by
  cases c with
  | true => exact ⟨rfl, Option.some.inj h⟩
  | false => cases h
theorem put_tup {K : PySem.W.Frag} {F H : Hp} {p : Addr} {vs : List V} {ds : List D} (le : Ex F H) (hp : H p = none) (h : DvA K F vs ds) : Dv K (upd F p (.tup vs)) (.ref p) (.tup ds) :=
  .tup (Evl.st_of upd_same) (h.mono (Stp.add (o := .tup vs) le hp).f)
theorem put_lst {K : PySem.W.Frag} {F H : Hp} {p : Addr} {vs : List V} {ds : List D} (le : Ex F H) (hp : H p = none) (h : DvA K F vs ds) : Dv K (upd F p (.lst vs)) (.ref p) (.lst ds) :=
  .lst (Evl.sq_of upd_same) (h.mono (Stp.add (o := .lst vs) le hp).f)
theorem de_tup {x1} (h : DA X C W es gs) : DE X C W (.Tuple es x1 pos) (E.tup gs) := pe_weak (pe_tup h) fun σ H Q ⟨F, ρ, le, env, o⟩ =>
  ⟨F, ρ, le, env, o.bind.imp fun xs F1 H1 s1 o1 vs hvs => by
    obtain ⟨d, e, q⟩ := o1.of_some
    obtain ⟨e1, e2⟩ := of_if e
    subst e2
    exact ⟨by rw [hvs.len]; exact small_le e1, fun p hp => q _ _ (Stp.add s1.le hp) _ (put_tup s1.le hp hvs)⟩⟩
theorem de_lst (h : DA X C W es gs) : DE X C W (.List es pos) (E.lst gs) := pe_weak (pe_lst h) fun σ H Q ⟨F, ρ, le, env, o⟩ =>
  ⟨F, ρ, le, env, o.bind.imp fun xs F1 H1 s1 o1 vs hvs => by
    obtain ⟨d, e, q⟩ := o1.of_some
    obtain ⟨e1, e2⟩ := of_if e
    subst e2
    exact ⟨by rw [hvs.len]; exact small_le e1, fun p hp => q _ _ (Stp.add s1.le hp) _ (put_lst s1.le hp hvs)⟩⟩
/-! tests -/
def toB : D → Option Bool
  | .bl b => some b
  | _ => none
def T.val (ga : E) : DEnv → R Bool := fun ρ => (ga ρ).bind fun x => R.of (toB x)
theorem toB_some {K : PySem.W.Frag} {F : Hp} {x : D} {b : Bool} {v : V} (h : toB x = some b) (hv : Dv K F v x) : v = .bl b := by
  cases hv <;> simp [toB] at h
  subst h
  rfl
theorem dt_val (ha : DE X C W a ga) (he : ∀ whole, isTrue a X.env whole = (do let v ← whole; standAt a.pos; holding [v] (truthy v)) := by intro _; rfl) : DT X C W a (T.val ga) := pt_weak (pt_val ha he) fun σ H Q ⟨F, ρ, le, env, o⟩ =>
  ⟨F, ρ, le, env, o.bind.imp fun x F1 H1 s1 o1 v hv => by
    obtain ⟨b, e, q⟩ := o1.of_some
    exact ⟨b, toB_some e hv, q F1 H1 (Stp.refl s1.le)⟩⟩
theorem dt_cmp {op : CmpOp} {r : R2} {f : D → D → Option D} (ho : OpR X (compareOp op) r) (hf : Op2 X.K r f) (ha : DE X C W a ga) (hb : DE X C W b gb) (hm : behindInMarks op b = false) : DT X C W (.Compare a [op] [b] pos) (T.val (E.op f ga gb)) := pt_weak (pt_cmpR ho ha hb hm) fun σ H Q h => by
  show tOp r (tE C X.K W ga) (tE C X.K W gb) σ H _
  refine op_lift hf σ H _ ?_
  obtain ⟨F, ρ, le, env, o⟩ := h
  exact ⟨F, ρ, le, env, o.bind.imp fun x F1 H1 s1 o1 v hv => by
    obtain ⟨b, e, q⟩ := o1.of_some
    exact ⟨b, toB_some e hv, q F1 H1 (Stp.refl s1.le)⟩⟩
def T.not (t : DEnv → R Bool) : DEnv → R Bool := fun ρ => (t ρ).bind fun b => .ok (!b)
def T.and (t u : DEnv → R Bool) : DEnv → R Bool := fun ρ => (t ρ).bind fun b => if b then u ρ else .ok false
def T.or (t u : DEnv → R Bool) : DEnv → R Bool := fun ρ => (t ρ).bind fun b => if b then .ok true else u ρ
variable {t u : DEnv → R Bool} {rest : List Expr}
theorem dt_not (h : DT X C W a t) : DT X C W (.UnaryOp .Not a pos) (T.not t) := pt_weak (pt_not h) fun σ H Q ⟨F, ρ, le, env, o⟩ =>
  ⟨F, ρ, le, env, o.bind.imp fun b F1 H1 s1 o1 => o1 F1 H1 (Stp.refl s1.le)⟩
abbrev DW (X : Cx) (C : Nat → Addr) (W : WX) (e : Expr) (g : DEnv → R Bool) : Prop := PW X e (tT C X.K W g)
theorem dw_and1 (h : DT X C W a t) : DW X C W (.BoolOp .And [a] pos) t := pw_and1 h
theorem dw_or1 (h : DT X C W a t) : DW X C W (.BoolOp .Or [a] pos) t := pw_or1 h
theorem dw_and (h : DT X C W a t) (hr : DW X C W (.BoolOp .And (b :: rest) pos) u) : DW X C W (.BoolOp .And (a :: b :: rest) pos) (T.and t u) := pw_weak (pw_and h hr) fun σ H Q ⟨F, ρ, le, env, o⟩ =>
  ⟨F, ρ, le, env, o.bind.imp fun b F1 H1 s1 o1 => by
    cases b with
    | true => exact ⟨F1, ρ, s1.le, env.mono s1.f, o1⟩
    | false => exact o1 F1 H1 (Stp.refl s1.le)⟩
theorem dw_or (h : DT X C W a t) (hr : DW X C W (.BoolOp .Or (b :: rest) pos) u) : DW X C W (.BoolOp .Or (a :: b :: rest) pos) (T.or t u) := pw_weak (pw_or h hr) fun σ H Q ⟨F, ρ, le, env, o⟩ =>
  ⟨F, ρ, le, env, o.bind.imp fun b F1 H1 s1 o1 => by
    cases b with
    | false => exact ⟨F1, ρ, s1.le, env.mono s1.f, o1⟩
    | true => exact o1 F1 H1 (Stp.refl s1.le)⟩
/-- and, or of bools as values -/
def E.and (ga gb : E) : E := fun ρ => (ga ρ).bind fun x => (R.of (toB x)).bind fun b => if b then gb ρ else .ok (.bl false)
def E.or (ga gb : E) : E := fun ρ => (ga ρ).bind fun x => (R.of (toB x)).bind fun b => if b then .ok (.bl true) else gb ρ
def E.not (ga : E) : E := fun ρ => (ga ρ).bind fun x => (R.of (toB x)).bind fun b => .ok (.bl (!b))
theorem de_one {op} (h : DE X C W a ga) : DE X C W (.BoolOp op [a] pos) ga := pe_one h
theorem de_and (h : DE X C W a ga) (hr : DE X C W (.BoolOp .And (b :: rest) pos) gb) : DE X C W (.BoolOp .And (a :: b :: rest) pos) (E.and ga gb) := pe_weak (pe_and h hr) fun σ H Q ⟨F, ρ, le, env, o⟩ =>
  ⟨F, ρ, le, env, o.bind.imp fun x F1 H1 s1 o1 v hv => by
    cases e : toB x with
    | none => rw [e] at o1; exact o1.elim
    | some b =>
      rw [e] at o1
      refine ⟨b, toB_some e hv, ?_⟩
      cases b with
      | true => exact ⟨F1, ρ, s1.le, env.mono s1.f, o1⟩
      | false => exact o1 F1 H1 (Stp.refl s1.le) _ (.bl false)⟩
theorem de_or (h : DE X C W a ga) (hr : DE X C W (.BoolOp .Or (b :: rest) pos) gb) : DE X C W (.BoolOp .Or (a :: b :: rest) pos) (E.or ga gb) := pe_weak (pe_or h hr) fun σ H Q ⟨F, ρ, le, env, o⟩ =>
  ⟨F, ρ, le, env, o.bind.imp fun x F1 H1 s1 o1 v hv => by
    cases e : toB x with
    | none => rw [e] at o1; exact o1.elim
    | some b =>
      rw [e] at o1
      refine ⟨b, toB_some e hv, ?_⟩
      cases b with
      | false => exact ⟨F1, ρ, s1.le, env.mono s1.f, o1⟩
      | true => exact o1 F1 H1 (Stp.refl s1.le) _ (.bl true)⟩
theorem de_not (h : DE X C W a ga) : DE X C W (.UnaryOp .Not a pos) (E.not ga) := pe_weak (pe_not h) fun σ H Q ⟨F, ρ, le, env, o⟩ =>
  ⟨F, ρ, le, env, o.bind.imp fun x F1 H1 s1 o1 v hv => by
    cases e : toB x with
    | none => rw [e] at o1; exact o1.elim
    | some b =>
      rw [e] at o1
      exact ⟨b, toB_some e hv, o1 F1 H1 (Stp.refl s1.le) _ (.bl (!b))⟩⟩
def E.ite (t : DEnv → R Bool) (ga gb : E) : E := fun ρ => (t ρ).bind fun b => if b then ga ρ else gb ρ
theorem de_if (ht : DT X C W c t) (ha : DE X C W a ga) (hb : DE X C W b gb) : DE X C W (.IfExp c a b pos) (E.ite t ga gb) := pe_weak (pe_ifExp ht ha hb) fun σ H Q ⟨F, ρ, le, env, o⟩ =>
  ⟨F, ρ, le, env, o.bind.imp fun b F1 H1 s1 o1 => by
    cases b with
    | true => exact ⟨F1, ρ, s1.le, env.mono s1.f, o1⟩
    | false => exact ⟨F1, ρ, s1.le, env.mono s1.f, o1⟩⟩
/-- a < b < c -/
def E.chain (f f' : D → D → Option D) (ga gb gc : E) : E := fun ρ => (ga ρ).bind fun x => (gb ρ).bind fun y => (R.of (f x y)).bind fun z => (R.of (toB z)).bind fun k => if k then (gc ρ).bind fun w => R.of (f' y w) else .ok (.bl false)
theorem chain_lift {r r' : R2} {f f' : D → D → Option D} (hf : Op2 X.K r f) (hf' : Op2 X.K r' f') (σ : L2.St) (H : Hp) (Q : VK) (h : tE C X.K W (E.chain f f' ga gb gc) σ H Q) : tChain r r' (tE C X.K W ga) (tE C X.K W gb) (tE C X.K W gc) σ H Q := by
  obtain ⟨F, ρ, le, env, o⟩ := h
  refine ⟨F, ρ, le, env, o.bind.imp fun x F1 H1 s1 o1 v hv => ⟨F1, ρ, s1.le, env.mono s1.f, o1.bind.imp fun y F2 H2 s2 o2 u hu => ?_⟩⟩
  have env2 := (env.mono s1.f).mono s2.f
  have o3 := o2.bind
  obtain ⟨d, e, q⟩ := o3.of_some
  refine hf F2 H2 v u x y d s2.le (hv.mono s2.f) hu e _ fun F3 H3 s3 z hz => ?_
  have q3 := q F3 H3 s3
  cases e2 : toB d with
  | none => rw [e2] at q3; exact q3.elim
  | some k =>
    rw [e2] at q3
    refine ⟨k, toB_some e2 hz, ?_⟩
    cases k with
    | false => exact q3 F3 H3 (Stp.refl s3.le) _ (.bl false)
    | true =>
      have q4 : Out C X.K W σ F3 H3 ((gc ρ).bind fun w => R.of (f' y w)) (Pd X.K Q) := q3
      refine ⟨F3, ρ, s3.le, env2.mono s3.f, q4.bind.imp fun w F4 H4 s4 o4 w' hw => ?_⟩
      obtain ⟨d', e', q'⟩ := o4.of_some
      exact hf' F4 H4 u w' y w d' s4.le ((hu.mono s3.f).mono s4.f) hw e' Q q'
theorem de_chain {op op' : CmpOp} {r r' : R2} {f f' : D → D → Option D} (ho : OpR X (compareOp op) r) (ho' : OpR X (compareOp op') r') (hf : Op2 X.K r f) (hf' : Op2 X.K r' f') (ha : DE X C W a ga) (hb : DE X C W b gb) (hc : DE X C W c gc)
    (hm : lastMarks [op, op'] [b, c] = false := by with_unfolding_all rfl) : DE X C W (.Compare a [op, op'] [b, c] pos) (E.chain f f' ga gb gc) := pe_weak (pe_chain ho ho' ha hb hc hm) (chain_lift hf hf')
theorem dt_chain {op op' : CmpOp} {r r' : R2} {f f' : D → D → Option D} (ho : OpR X (compareOp op) r) (ho' : OpR X (compareOp op') r') (hf : Op2 X.K r f) (hf' : Op2 X.K r' f') (ha : DE X C W a ga) (hb : DE X C W b gb) (hc : DE X C W c gc)
    (hm : lastMarks [op, op'] [b, c] = false := by with_unfolding_all rfl) : DT X C W (.Compare a [op, op'] [b, c] pos) (T.val (E.chain f f' ga gb gc)) := pt_weak (pt_chain ho ho' ha hb hc hm) fun σ H Q h => by
  refine chain_lift hf hf' σ H _ ?_
  obtain ⟨F, ρ, le, env, o⟩ := h
  exact ⟨F, ρ, le, env, o.bind.imp fun x F1 H1 s1 o1 v hv => by
    obtain ⟨b, e, q⟩ := o1.of_some
    exact ⟨b, toB_some e hv, q F1 H1 (Stp.refl s1.le)⟩⟩
end
end DL

set_option Elab.async false
set_option linter.all false
set_option maxRecDepth 100000
set_option maxHeartbeats 2000000
/-! operations by data -/
namespace DL
open PySem PySem.Spec PyProof.Rows L2
open Evl (Ex)

section
variable {X : Cx} {K : PySem.W.Frag}
/-! ### + and - -/
def rStrCat : R2 := fun x y H Q => ∃ i j, x = .str i ∧ y = .str j ∧ i.length + j.length ≤ sizeLine ∧ Q (.str (i ++ j)) H
def rCatS (K : PySem.W.Frag) : R2 := fun x y H Q => ∃ l b xs zs, x = .ref l ∧ y = .ref b ∧ SqL K H l xs ∧ SqL K H b zs ∧ xs.length + zs.length ≤ sizeLine ∧ ∀ p, H p = none → Q (.ref p) (upd H p (.lst (xs ++ zs)))
theorem op_catS : OpR X (binaryOp .Add) (rCatS X.K) := by
  intro pins s σ H x y v u Q I rx ry h
  obtain ⟨l, b, xs, zs, rfl, rfl, hH, hB, hz, q⟩ := h
  cases rx
  cases ry
  obtain ⟨its, r, p1, z1⟩ := I.list hH
  obtain ⟨its2, r2, p2, z2⟩ := I.list hB
  obtain ⟨⟨cls, dd, data, sl⟩, ho, hc, n, hd⟩ := id p1.isList
  obtain ⟨⟨cls2, dd2, data2, sl2⟩, ho2, hc2, n2, hd2⟩ := id p2.isList
  simp only at hc hd hc2 hd2
  subst hc hd hc2 hd2
  have l1 := r.length
  have l2 := r2.length
  have e : its.toArray ++ its2.toArray = (its ++ its2).toArray := by simp
  refine concat_meets ⟨_, ho, rfl⟩ ⟨_, ho2, rfl⟩ noFill_list_add seq_list_add PySem.F.slot_list_add PySem.F.entry_list_add (PySem.F.args_list_add_2 _ _) (list_addW l b its.toArray its2.toArray n n2 dd dd2 sl sl2 (by simp only [List.size_toArray]; omega)) ⟨ho, ho2, ?_⟩
  rw [e]
  exact ⟨.ref _, _, I.lnew (t' := s.toks) (r.append r2) (by rw [List.length_append]; omega), rfl, q _ I.fresh⟩
def rAddD (K : PySem.W.Frag) : R2 := fun x y H Q => rI0 (fun i j => .int (i + j)) x y H Q ∨ (rStrCat x y H Q ∨ (rCatS K x y H Q ∨ rCatA K x y H Q))
theorem op_addD : OpR X (binaryOp .Add) (rAddD X.K) := OpR.or op_add (OpR.or op_add_str (OpR.or op_catS op_catA))
def addD : D → D → Option D
  | .int i, .int j => some (.int (i + j))
  | .str a, .str b => if small (a.length + b.length) then some (.str (a ++ b)) else none
  | .lst a, .lst b => if small (a.length + b.length) then some (.lst (a ++ b)) else none
  | .tup a, .tup b => if small (a.length + b.length) then some (.tup (a ++ b)) else none
  | _, _ => none
theorem o2_add : Op2 K (rAddD K) addD := by
  intro F H v u x y d le hv hu e Q q
  cases hv with
  | int i =>
    cases hu with
    | int j =>
      cases (show D.int (i + j) = d from Option.some.inj e)
      exact .inl ⟨i, j, rfl, rfl, q F H (Stp.refl le) _ (.int _)⟩
    | _ => cases e
  | str a =>
    cases hu with
    | str b =>
      obtain ⟨h1, h2⟩ := of_if (show (if small (a.length + b.length) then some (D.str (a ++ b)) else none) = some d from e)
      subst h2
      exact .inr (.inl ⟨a, b, rfl, rfl, small_le h1, q F H (Stp.refl le) _ (.str _)⟩)
    | _ => cases e
  | @lst a xs ds ha hda =>
    cases hu with
    | @lst b ys es hb hdb =>
      obtain ⟨h1, h2⟩ := of_if (show (if small (ds.length + es.length) then some (D.lst (ds ++ es)) else none) = some d from e)
      subst h2
      exact .inr (.inr (.inl ⟨a, b, xs, ys, rfl, rfl, Evl.ex_l le ha, Evl.ex_l le hb, by rw [hda.len, hdb.len]; exact small_le h1, fun p hp => q _ _ (Stp.add le hp) _ (put_lst le hp (hda.append hdb))⟩))
    | _ => cases e
  | @tup a xs ds ha hda =>
    cases hu with
    | @tup b ys es hb hdb =>
      obtain ⟨h1, h2⟩ := of_if (show (if small (ds.length + es.length) then some (D.tup (ds ++ es)) else none) = some d from e)
      subst h2
      refine .inr (.inr (.inr ⟨a, b, xs, ys, rfl, rfl, Evl.ex_t le ha, Evl.ex_t le hb, by rw [hda.len, hdb.len]; exact small_le h1, fun z => ?_, fun _ z => ?_, fun _ _ p hp => q _ _ (Stp.add le hp) _ (put_tup le hp (hda.append hdb))⟩))
      · subst z
        cases hda
        exact q F H (Stp.refl le) _ (.tup hb hdb)
      · subst z
        cases hdb
        rw [List.append_nil] at q
        exact q F H (Stp.refl le) _ (.tup ha hda)
    | _ => cases e
  | _ => cases hu <;> cases e
def subD : D → D → Option D
  | .int i, .int j => some (.int (i - j))
  | _, _ => none
theorem o2_sub : Op2 K (rI0 fun i j => .int (i - j)) subD := by
  intro F H v u x y d le hv hu e Q q
  cases hv with
  | int i =>
    cases hu with
    | int j =>
      cases (show D.int (i - j) = d from Option.some.inj e)
      exact ⟨i, j, rfl, rfl, q F H (Stp.refl le) _ (.int _)⟩
    | _ => cases e
  | _ => cases hu <;> cases e
/-! ### order of ints and texts -/
def rCmpI (p : Int → Int → Bool) (s : Str → Str → Bool) : R2 := fun x y H Q => rI0 (fun i j => .bl (p i j)) x y H Q ∨ ∃ i j, x = .str i ∧ y = .str j ∧ Q (.bl (s i j)) H
def cmpD (p : Int → Int → Bool) (s : Str → Str → Bool) : D → D → Option D
  | .int i, .int j => some (.bl (p i j))
  | .str i, .str j => some (.bl (s i j))
  | _, _ => none
theorem o2_cmp {p : Int → Int → Bool} {s : Str → Str → Bool} : Op2 K (rCmpI p s) (cmpD p s) := by
  intro F H v u x y d le hv hu e Q q
  cases hv with
  | int i =>
    cases hu with
    | int j =>
      cases (show D.bl (p i j) = d from Option.some.inj e)
      exact .inl ⟨i, j, rfl, rfl, q F H (Stp.refl le) _ (.bl _)⟩
    | _ => cases e
  | str i =>
    cases hu with
    | str j =>
      cases (show D.bl (s i j) = d from Option.some.inj e)
      exact .inr ⟨i, j, rfl, rfl, q F H (Stp.refl le) _ (.bl _)⟩
    | _ => cases e
  | _ => cases hu <;> cases e
def ltD := cmpD (fun i j => decide (i < j)) (fun i j => decide (i.cps.toList < j.cps.toList))
def leD := cmpD (fun i j => decide (i ≤ j)) (fun i j => !decide (j.cps.toList < i.cps.toList))
def gtD := cmpD (fun i j => decide (j < i)) (fun i j => decide (j.cps.toList < i.cps.toList))
def geD := cmpD (fun i j => decide (j ≤ i)) (fun i j => !decide (i.cps.toList < j.cps.toList))
theorem op_ltD : OpR X (compareOp .Lt) (rCmpI (fun i j => decide (i < j)) (fun i j => decide (i.cps.toList < j.cps.toList))) := OpR.or op_lt op_lt_str
theorem op_leD : OpR X (compareOp .LtE) (rCmpI (fun i j => decide (i ≤ j)) (fun i j => !decide (j.cps.toList < i.cps.toList))) := OpR.or op_le op_le_str
theorem op_gtD : OpR X (compareOp .Gt) (rCmpI (fun i j => decide (j < i)) (fun i j => decide (j.cps.toList < i.cps.toList))) := OpR.or op_gt op_gt_str
theorem op_geD : OpR X (compareOp .GtE) (rCmpI (fun i j => decide (j ≤ i)) (fun i j => !decide (i.cps.toList < j.cps.toList))) := OpR.or op_ge op_ge_str
/-! ### is None, is True -/
def isND : D → D → Option D
  | x, .non => some (.bl (match x with | .non => true | _ => false))
  | _, _ => none
def notND : D → D → Option D
  | x, .non => some (.bl (match x with | .non => false | _ => true))
  | _, _ => none
theorem o2_isN : Op2 K (fun x y H Q => y = .non ∧ Q (.bl (decide (x = .non))) H) isND := by
  intro F H v u x y d le hv hu e Q q
  cases hu with
  | non =>
    refine ⟨rfl, ?_⟩
    cases hv <;> (cases (Option.some.inj e); exact q F H (Stp.refl le) _ (.bl _))
  | _ => cases e
theorem o2_notN : Op2 K (fun x y H Q => y = .non ∧ Q (.bl (!decide (x = .non))) H) notND := by
  intro F H v u x y d le hv hu e Q q
  cases hu with
  | non =>
    refine ⟨rfl, ?_⟩
    cases hv <;> (cases (Option.some.inj e); exact q F H (Stp.refl le) _ (.bl _))
  | _ => cases e
/-- x is True, x is False -/
def rIsBl : R2 := fun x y H Q => ∃ b : Bool, y = .bl b ∧ ((∃ a : Bool, x = .bl a ∧ Q (.bl (decide (a = b))) H) ∨ ((x = .non ∨ (∃ i, x = .int i) ∨ (∃ s, x = .str s) ∨ ∃ p, x = .ref p) ∧ Q (.bl false) H))
theorem op_isBlD : OpR X (compareOp .Is) rIsBl := by
  intro pins s σ H x y v u Q I rx ry h
  obtain ⟨b, rfl, h⟩ := h
  cases (show u = Value.bool b from ry)
  rcases h with ⟨a, rfl, q⟩ | ⟨h, q⟩
  · cases (show v = Value.bool a from rx)
    by_cases e : a = b
    · subst e
      exact wpAny_is_self rfl ⟨.bl true, H, I, rfl, by simpa using q⟩
    · exact wpAny_is_other rfl (fun z => e (Value.bool.inj z)) ⟨.bl false, H, I, rfl, by simpa [e] using q⟩
  · rcases h with rfl | ⟨i, rfl⟩ | ⟨i, rfl⟩ | ⟨p, rfl⟩
    · cases (show v = Value.none from rx)
      exact wpAny_is_other rfl (fun z => nomatch z) ⟨.bl false, H, I, rfl, q⟩
    · obtain ⟨t, rfl⟩ := rx
      exact wpAny_is_other rfl (fun z => nomatch z) ⟨.bl false, H, I, rfl, q⟩
    · obtain ⟨t, rfl⟩ := rx
      exact wpAny_is_other rfl (fun z => nomatch z) ⟨.bl false, H, I, rfl, q⟩
    · cases (show v = Value.ref p from rx)
      exact wpAny_is_other rfl (fun z => nomatch z) ⟨.bl false, H, I, rfl, q⟩
def isBD : D → D → Option D
  | x, .bl b => some (.bl (match x with | .bl a => decide (a = b) | _ => false))
  | _, _ => none
theorem o2_isB : Op2 K rIsBl isBD := by
  intro F H v u x y d le hv hu e Q q
  cases hu with
  | bl b =>
    refine ⟨b, rfl, ?_⟩
    cases hv with
    | bl a => cases (Option.some.inj e); exact .inl ⟨a, rfl, q F H (Stp.refl le) _ (.bl _)⟩
    | non => cases (Option.some.inj e); exact .inr ⟨.inl rfl, q F H (Stp.refl le) _ (.bl _)⟩
    | int i => cases (Option.some.inj e); exact .inr ⟨.inr (.inl ⟨_, rfl⟩), q F H (Stp.refl le) _ (.bl _)⟩
    | str i => cases (Option.some.inj e); exact .inr ⟨.inr (.inr (.inl ⟨_, rfl⟩)), q F H (Stp.refl le) _ (.bl _)⟩
    | lst => cases (Option.some.inj e); exact .inr ⟨.inr (.inr (.inr ⟨_, rfl⟩)), q F H (Stp.refl le) _ (.bl _)⟩
    | tup => cases (Option.some.inj e); exact .inr ⟨.inr (.inr (.inr ⟨_, rfl⟩)), q F H (Stp.refl le) _ (.bl _)⟩
    | dic => cases (Option.some.inj e); exact .inr ⟨.inr (.inr (.inr ⟨_, rfl⟩)), q F H (Stp.refl le) _ (.bl _)⟩
  | _ => cases e
/-! ### ==, != -/
mutual
def toP : D → Option PyData
  | .non => some .none
  | .bl b => some (.bool b)
  | .int i => some (.int i)
  | .str s => some (.str s)
  | .lst xs => (toPs xs).map .list
  | .tup xs => (toPs xs).map .tuple
  | .dic _ => none
def toPs : List D → Option (List PyData)
  | [] => some []
  | x :: xs => (toP x).bind fun p => (toPs xs).map fun ps => p :: ps
end
mutual
theorem dp_of {F H : Hp} (le : Ex F H) : ∀ {v : V} {d : D} {p : PyData}, Dv K F v d → toP d = some p → Dp K H v p
  | _, _, _, .non, e => by
    rw [toP] at e
    cases e
    exact .non
  | _, _, _, .bl b, e => by
    rw [toP] at e
    cases e
    exact .bl b
  | _, _, _, .int b, e => by
    rw [toP] at e
    cases e
    exact .int b
  | _, _, _, .str b, e => by
    rw [toP] at e
    cases e
    exact .str b
  | _, _, _, .lst h t, e => by
    rw [toP] at e
    obtain ⟨ps, e1, e2⟩ := Option.map_eq_some_iff.mp e
    subst e2
    exact .lst (Evl.ex_l le h) (dps_of le t e1)
  | _, _, _, .tup h t, e => by
    rw [toP] at e
    obtain ⟨ps, e1, e2⟩ := Option.map_eq_some_iff.mp e
    subst e2
    exact .tup (Evl.ex_t le h) (dps_of le t e1)
  | _, _, _, .dic h t, e => by
    rw [toP] at e
    cases e
theorem dps_of {F H : Hp} (le : Ex F H) : ∀ {vs : List V} {ds : List D} {ps : List PyData}, DvA K F vs ds → toPs ds = some ps → DpAll K H vs ps
  | _, _, _, .nil, e => by
    rw [toPs] at e
    cases e
    exact .nil
  | _, _, _, .cons h t, e => by
    rw [toPs] at e
    obtain ⟨p, e1, e2⟩ := Option.bind_eq_some_iff.mp e
    obtain ⟨ps, e3, e4⟩ := Option.map_eq_some_iff.mp e2
    subst e4
    exact .cons (dp_of le h e1) (dps_of le t e3)
end
def eqP (x y : D) : Option Bool := (toP x).bind fun p => (toP y).bind fun q => if SeqAt.shaped p && SeqAt.shaped q then some (PyData.eqv p q) else none
def flatD : D → Bool
  | .non => true
  | .bl _ => true
  | .int _ => true
  | .str _ => true
  | _ => false
def toV : D → V
  | .non => .non
  | .bl b => .bl b
  | .int b => .int b
  | .str b => .str b
  | _ => .non
theorem flat_of {F : Hp} {v : V} {d : D} (h : Dv K F v d) (f : flatD d = true) : v = toV d ∧ flatV v = true := by
  cases h with
  | lst _ _ => cases f
  | tup _ _ => cases f
  | dic _ _ => cases f
  | _ => exact ⟨rfl, rfl⟩
def valD (kvs : List (Key × D)) (k : Key) : Option D := (kvs.find? fun p => decide (p.1 = k)).map (·.2)
end
end DL

set_option Elab.async false
set_option linter.all false
set_option maxRecDepth 100000
set_option maxHeartbeats 2000000
/-! more operations by data -/
namespace DL
open PySem PySem.Spec PyProof.Rows L2
open Evl (Ex)
section
variable {X : Cx} {K : PySem.W.Frag} {F F' H : Hp}
theorem flats_of : ∀ {vs : List V} {ds : List D}, DvA K F vs ds → ds.all flatD = true → vs = ds.map toV ∧ vs.all flatV = true
  | _, _, .nil, _ => ⟨rfl, rfl⟩
  | _, _, .cons h t, f => by
    rw [List.all_cons, Bool.and_eq_true] at f
    obtain ⟨h1, h2⟩ := flat_of h f.1
    obtain ⟨h3, h4⟩ := flats_of t f.2
    rw [List.map_cons, ← h1, ← h3, List.all_cons, h2, h4]
    exact ⟨rfl, rfl⟩
theorem DvK.val {k : Key} : ∀ {vs : List (Key × V)} {ds : List (Key × D)}, DvK K F vs ds → (valV vs k).isSome = (valD ds k).isSome ∧ ∀ d, valD ds k = some d → ∃ v, valV vs k = some v ∧ Dv K F v d
  | _, _, .nil => ⟨rfl, fun d h => by cases h⟩
  | _, _, .cons (k := k1) (v := v1) (vs := vs1) (d := d1) (ds := ds1) h t => by
    by_cases e : k1 = k
    · have e1 : valV ((k1, v1) :: vs1) k = some v1 := by simp [valV, List.find?_cons, e]
      have e2 : valD ((k1, d1) :: ds1) k = some d1 := by simp [valD, List.find?_cons, e]
      rw [e1, e2]
      exact ⟨rfl, fun d hd => ⟨v1, rfl, by cases hd; exact h⟩⟩
    · have e1 : valV ((k1, v1) :: vs1) k = valV vs1 k := by simp [valV, List.find?_cons, e]
      have e2 : valD ((k1, d1) :: ds1) k = valD ds1 k := by simp [valD, List.find?_cons, e]
      rw [e1, e2]
      exact DvK.val t
/-! ### ==, != -/
def sameF (x y : D) : Bool := match x, y with
  | .int i, .int j => decide (i = j)
  | .str i, .str j => decide (i = j)
  | .non, .non => true
  | _, _ => false
def eqK (ks ls : List (Key × D)) : Bool := decide (ks.length = ls.length) && ks.all fun p => match valD ls p.1 with
  | some d => sameF p.2 d
  | none => false
def eqD (x y : D) : Option D := match x, y with
  | .dic ks, .dic ls => if eqK ks ls then some (.bl true) else none
  | _, _ => (eqP x y).map .bl
def neD (x y : D) : Option D := match x, y with
  | .dic ks, .dic ls => if eqK ks ls then some (.bl false) else none
  | _, _ => (eqP x y).map fun b => .bl (!b)
theorem eqP_some {x y : D} {b : Bool} (h : eqP x y = some b) : ∃ p q, toP x = some p ∧ toP y = some q ∧ SeqAt.shaped p = true ∧ SeqAt.shaped q = true ∧ b = PyData.eqv p q := by
  obtain ⟨p, e1, h⟩ := Option.bind_eq_some_iff.mp h
  obtain ⟨q, e2, h⟩ := Option.bind_eq_some_iff.mp h
  obtain ⟨h1, h2⟩ := of_if h
  rw [Bool.and_eq_true] at h1
  exact ⟨p, q, e1, e2, h1.1, h1.2, h2.symm⟩
theorem sameF_of {u v : V} {x y : D} (h : sameF x y = true) (hu : Dv K F u x) (hv : Dv K F v y) : v = u ∧ flatB u = true := by
  cases hu with
  | non => cases hv with | non => exact ⟨rfl, rfl⟩ | _ => cases h
  | int i =>
    cases hv with
    | int j =>
      have e : i = j := of_decide_eq_true h
      subst e
      exact ⟨rfl, rfl⟩
    | _ => cases h
  | str i =>
    cases hv with
    | str j =>
      have e : i = j := of_decide_eq_true h
      subst e
      exact ⟨rfl, rfl⟩
    | _ => cases h
  | _ => cases hv <;> cases h
theorem eqK_of {ls : List (Key × D)} {vl : List (Key × V)} (hl : DvK K F vl ls) : ∀ {vk : List (Key × V)} {ks : List (Key × D)}, DvK K F vk ks → (ks.all fun p => match valD ls p.1 with | some d => sameF p.2 d | none => false) = true →
    ∀ p ∈ vk, valV vl p.1 = some p.2 ∧ flatB p.2 = true
  | _, _, .nil, _ => fun p hp => by cases hp
  | _, _, .cons (k := k1) (v := v1) (d := d1) h t, f => fun p hp => by
    rw [List.all_cons, Bool.and_eq_true] at f
    rcases List.mem_cons.mp hp with e | hp
    · subst e
      have f1 := f.1
      cases e2 : valD ls k1 with
      | none => rw [e2] at f1; cases f1
      | some d2 =>
        rw [e2] at f1
        obtain ⟨v2, h2, h3⟩ := (DvK.val (k := k1) hl).2 d2 e2
        obtain ⟨h4, h5⟩ := sameF_of f1 h h3
        subst h4
        exact ⟨h2, h5⟩
    · exact eqK_of hl t f.2 p hp
def rEqX (K : PySem.W.Frag) : R2 := fun x y H Q => rEqD K x y H Q ∨ rEqDA x y H Q
def rNeX (K : PySem.W.Frag) : R2 := fun x y H Q => rNeD K x y H Q ∨ rNeDA x y H Q
theorem op_eqX (hu : X.A.units + 64 < cLine) : OpR X (compareOp .Eq) (rEqX X.K) := OpR.or (op_eqD hu) (op_eq_dictA (by omega))
theorem op_neX (hu : X.A.units + 64 < cLine) : OpR X (compareOp .NotEq) (rNeX X.K) := OpR.or (op_neD hu) (op_ne_dictA (by omega))
theorem o2_eq : Op2 K (rEqX K) eqD := by
  intro F H v u x y d le hv hu e Q q
  have go : (eqP x y).map D.bl = some d → rEqX K v u H Q := fun e => by
    obtain ⟨b, e1, e2⟩ := Option.map_eq_some_iff.mp e
    subst e2
    obtain ⟨p, r, h1, h2, h3, h4, h5⟩ := eqP_some e1
    subst h5
    exact .inl ⟨p, r, dp_of le hv h1, dp_of le hu h2, h3, h4, q F H (Stp.refl le) _ (.bl _)⟩
  cases hv with
  | @dic a kvs kds ha hk =>
    cases hu with
    | @dic b lvs lds hb hl =>
      obtain ⟨h1, h2⟩ := of_if (show (if eqK kds lds then some (D.bl true) else none) = some d from e)
      subst h2
      rw [eqK, Bool.and_eq_true] at h1
      exact .inr ⟨a, b, kvs, lvs, rfl, rfl, le _ _ ha, le _ _ hb, by rw [hk.len, hl.len]; exact of_decide_eq_true h1.1, eqK_of hl hk h1.2, q F H (Stp.refl le) _ (.bl _)⟩
    | _ => exact go e
  | _ => exact go e
theorem o2_ne : Op2 K (rNeX K) neD := by
  intro F H v u x y d le hv hu e Q q
  have go : (eqP x y).map (fun b => D.bl (!b)) = some d → rNeX K v u H Q := fun e => by
    obtain ⟨b, e1, e2⟩ := Option.map_eq_some_iff.mp e
    subst e2
    obtain ⟨p, r, h1, h2, h3, h4, h5⟩ := eqP_some e1
    subst h5
    exact .inl ⟨p, r, dp_of le hv h1, dp_of le hu h2, h3, h4, q F H (Stp.refl le) _ (.bl _)⟩
  cases hv with
  | @dic a kvs kds ha hk =>
    cases hu with
    | @dic b lvs lds hb hl =>
      obtain ⟨h1, h2⟩ := of_if (show (if eqK kds lds then some (D.bl false) else none) = some d from e)
      subst h2
      rw [eqK, Bool.and_eq_true] at h1
      exact .inr ⟨a, b, kvs, lvs, rfl, rfl, le _ _ ha, le _ _ hb, by rw [hk.len, hl.len]; exact of_decide_eq_true h1.1, eqK_of hl hk h1.2, q F H (Stp.refl le) _ (.bl _)⟩
    | _ => exact go e
  | _ => exact go e
/-! ### in, not in -/
def keyD : D → Option Key
  | .int i => some (.inl i)
  | .str s => some (.inr s)
  | _ => none
theorem key_ofD {v : V} {d : D} {k : Key} (h : Dv K F v d) (e : keyD d = some k) : v = kV k := by
  cases h <;> cases e <;> rfl
def inB (x : D) (xs : List D) : Option Bool := if flatD x && xs.all flatD then some (inV (toV x) (xs.map toV)) else none
def inX (x y : D) : Option Bool := match y with
  | .lst xs => inB x xs
  | .tup xs => inB x xs
  | .str z => match x with
    | .str w => match w.cps.toList with
      | [c] => some (decide (c ∈ z.cps.toList))
      | _ => none
    | _ => none
  | .dic kvs => (keyD x).map fun k => (valD kvs k).isSome
  | _ => none
def inD (x y : D) : Option D := (inX x y).map .bl
def ninD (x y : D) : Option D := (inX x y).map fun b => .bl (!b)
def rInSg (neg : Bool) : R2 := fun x y H Q => ∃ (c : Nat) (z : Str), x = .str ⟨#[c]⟩ ∧ y = .str z ∧ Q (.bl (if neg then !decide (c ∈ z.cps.toList) else decide (c ∈ z.cps.toList))) H
def rInDc (neg : Bool) : R2 := fun y x H Q => ∃ a o, x = .ref a ∧ DGet H a y o ∧ Q (.bl (if neg then !o.isSome else o.isSome)) H
def rInX (K : PySem.W.Frag) (neg : Bool) : R2 := fun x y H Q => rIn K neg x y H Q ∨ (rInSg neg x y H Q ∨ rInDc neg x y H Q)
theorem op_inX (hu : X.A.units + 1 < cLine) : OpR X (compareOp .In) (rInX X.K false) := OpR.or op_in_seq (OpR.or op_in_sign (by
  intro pins s σ H x y v u Q I rx ry h
  obtain ⟨a, o, rfl, g, q⟩ := h
  cases (show u = Value.ref a from ry)
  exact d_in hu I g rx fun s' I' => ⟨.bl o.isSome, H, I', rfl, q⟩))
theorem op_ninX (hu : X.A.units + 1 < cLine) : OpR X (compareOp .NotIn) (rInX X.K true) := OpR.or op_notIn_seq (OpR.or op_notIn_sign (by
  intro pins s σ H x y v u Q I rx ry h
  obtain ⟨a, o, rfl, g, q⟩ := h
  cases (show u = Value.ref a from ry)
  exact d_notIn hu I g rx fun s' I' => ⟨.bl (!o.isSome), H, I', rfl, q⟩))
theorem in_core {neg : Bool} {v u : V} {x y : D} {b : Bool} (le : Ex F H) (hv : Dv K F v x) (hu : Dv K F u y) (e : inX x y = some b) {Q : VK} (q : Q (.bl (if neg then !b else b)) H) : rInX K neg v u H Q := by
  cases hu with
  | @lst a xs ds ha hd =>
    obtain ⟨h1, h2⟩ := of_if (show (if flatD x && ds.all flatD then some (inV (toV x) (ds.map toV)) else none) = some b from e)
    rw [Bool.and_eq_true] at h1
    obtain ⟨h3, h4⟩ := flat_of hv h1.1
    obtain ⟨h5, h6⟩ := flats_of hd h1.2
    subst h2
    rw [← h3, ← h5] at q
    exact .inl ⟨a, xs, rfl, .inl (Evl.ex_l le ha), h4, h6, q⟩
  | @tup a xs ds ha hd =>
    obtain ⟨h1, h2⟩ := of_if (show (if flatD x && ds.all flatD then some (inV (toV x) (ds.map toV)) else none) = some b from e)
    rw [Bool.and_eq_true] at h1
    obtain ⟨h3, h4⟩ := flat_of hv h1.1
    obtain ⟨h5, h6⟩ := flats_of hd h1.2
    subst h2
    rw [← h3, ← h5] at q
    exact .inl ⟨a, xs, rfl, .inr (Evl.ex_t le ha), h4, h6, q⟩
  | str z =>
    cases hv with
    | str w =>
      obtain ⟨⟨l⟩⟩ := w
      cases l with
      | nil => cases e
      | cons c r =>
        cases r with
        | nil =>
          have e' : decide (c ∈ z.cps.toList) = b := Option.some.inj e
          subst e'
          exact .inr (.inl ⟨c, z, rfl, rfl, q⟩)
        | cons _ _ => cases e
    | _ => cases e
  | @dic a kvs kds ha hk =>
    obtain ⟨k, e1, e2⟩ := Option.map_eq_some_iff.mp (show (keyD x).map (fun k => (valD kds k).isSome) = some b from e)
    have e3 := key_ofD hv e1
    subst e3
    subst e2
    rw [← (DvK.val (k := k) hk).1] at q
    exact .inr (.inr ⟨a, valV kvs k, rfl, DGet.k (le _ _ ha), q⟩)
  | _ => cases e
theorem o2_in : Op2 K (rInX K false) inD := by
  intro F H v u x y d le hv hu e Q q
  obtain ⟨b, e1, e2⟩ := Option.map_eq_some_iff.mp e
  subst e2
  exact in_core le hv hu e1 (q F H (Stp.refl le) _ (.bl _))
theorem o2_nin : Op2 K (rInX K true) ninD := by
  intro F H v u x y d le hv hu e Q q
  obtain ⟨b, e1, e2⟩ := Option.map_eq_some_iff.mp e
  subst e2
  exact in_core le hv hu e1 (q F H (Stp.refl le) _ (.bl _))
/-! ### x[i], of a list, a tuple, a text -/
theorem DvA.at_ {vs : List V} {ds : List D} {i : Int} {d : D} (h : DvA K F vs ds) (e : atI ds i = some d) : ∃ v, atI vs i = some v ∧ Dv K F v d := by
  unfold atI at e ⊢
  rw [h.len]
  cases hj : ixN ds.length i with
  | none => rw [hj] at e; cases e
  | some j =>
    rw [hj] at e
    exact h.get e
def ixD (x y : D) : Option D := match y with
  | .int i => match x with
    | .lst xs => atI xs i
    | .tup xs => atI xs i
    | .str z => if small z.length then (atI z.cps.toList i).map fun c => .str ⟨#[c]⟩ else none
    | _ => none
  | _ => none
theorem o2_ix : Op2 K (rIx K) ixD := by
  intro F H v u x y d le hv hu e Q q
  cases hu with
  | int i =>
    cases hv with
    | @lst a xs ds ha hd =>
      obtain ⟨w, h1, h2⟩ := hd.at_ (show atI ds i = some d from e)
      exact .inl ⟨a, xs, i, w, rfl, rfl, Evl.ex_l le ha, h1, q F H (Stp.refl le) _ h2⟩
    | @tup a xs ds ha hd =>
      obtain ⟨w, h1, h2⟩ := hd.at_ (show atI ds i = some d from e)
      exact .inr (.inl ⟨a, xs, i, w, rfl, rfl, Evl.ex_t le ha, h1, q F H (Stp.refl le) _ h2⟩)
    | str z =>
      have e' : (if small z.length then (atI z.cps.toList i).map fun c => D.str ⟨#[c]⟩ else none) = some d := e
      cases hz : small z.length with
      | false => rw [hz] at e'; cases e'
      | true =>
        rw [hz] at e'
        obtain ⟨c, h1, h2⟩ := Option.map_eq_some_iff.mp e'
        subst h2
        exact .inr (.inr ⟨z, i, c, rfl, rfl, small_le hz, h1, q F H (Stp.refl le) _ (.str _)⟩)
    | _ => cases e
  | _ => cases e
variable {C : Nat → Addr} {W : WX} {a b : Expr} {ga gb : E} {pos : Pos}
theorem de_ix (ha : DE X C W a ga) (hb : DE X C W b gb) (hs : PlainIx b := by exact fun _ _ => rfl) : DE X C W (.Subscript a b pos) (E.op ixD ga gb) := pe_weak (pe_ix ix_seq ha hb hs) (op_lift o2_ix)
/-- d[k], d a dict -/
def getD_ (x y : D) : Option D := match x with
  | .dic kvs => (keyD y).bind fun k => valD kvs k
  | _ => none
/-! ### slices -/
def Po (Q : Option Int → Hp → Prop) : Option Int → Hp → Hp → Prop := fun b _ H' => Q b H'
def tO (C : Nat → Addr) (K : PySem.W.Frag) (W : WX) (g : DEnv → R (Option Int)) : TO := fun σ H Q => ∃ F ρ, Ex F H ∧ EnvR K F σ ρ ∧ Out C K W σ F H (g ρ) (Po Q)
abbrev DO (X : Cx) (C : Nat → Addr) (W : WX) (e : Option Expr) (g : DEnv → R (Option Int)) : Prop := PO X e (tO C X.K W g)
theorem po_weak {e : Option Expr} {t t' : TO} (h : PO X e t) (w : ∀ σ H Q, t' σ H Q → t σ H Q) : PO X e t' := ⟨fun pins s σ H Q I q => h.run pins s σ H Q I (w σ H Q q)⟩
def O.no : DEnv → R (Option Int) := fun _ => .ok none
def toI : D → Option Int
  | .int i => some i
  | _ => none
theorem toI_some {x : D} {i : Int} {v : V} (h : toI x = some i) (hv : Dv K F v x) : v = .int i := by
  cases hv <;> cases h
  rfl
def O.some (ga : E) : DEnv → R (Option Int) := fun ρ => (ga ρ).bind fun x => (R.of (toI x)).bind fun i => .ok (Option.some i)
theorem do_none : DO X C W none O.no := po_weak po_none fun σ H Q ⟨F, ρ, le, env, o⟩ => o F H (Stp.refl le)
theorem do_some (h : DE X C W a ga) : DO X C W (some a) (O.some ga) := po_weak (po_some h) fun σ H Q ⟨F, ρ, le, env, o⟩ =>
  ⟨F, ρ, le, env, o.bind.imp fun x F1 H1 s1 o1 v hv => by
    obtain ⟨i, e, q⟩ := o1.bind.of_some
    exact ⟨i, toI_some e hv, q F1 H1 (Stp.refl s1.le) F1 H1 (Stp.refl s1.le)⟩⟩
def cutL {α : Type} (xs : List α) (lo hi : Option Int) : List α := (xs.drop (HT.sIx xs.length 0 lo)).take (HT.sIx xs.length xs.length hi - HT.sIx xs.length 0 lo)
theorem DvA.cut {vs : List V} {ds : List D} (h : DvA K F vs ds) (lo hi : Option Int) : DvA K F (cutV vs lo hi) (cutL ds lo hi) := by
  unfold cutV cutL
  rw [h.len]
  exact (h.drop _).take _
theorem cut_whole {α : Type} {xs : List α} {lo hi : Option Int} (h : HT.sIx xs.length 0 lo = 0 ∧ HT.sIx xs.length xs.length hi = xs.length) : cutL xs lo hi = xs := by
  unfold cutL
  rw [h.1, h.2]
  simp
def slD (x : D) (lo hi : Option Int) : Option D := match x with
  | .lst xs => some (.lst (cutL xs lo hi))
  | .tup xs => some (.tup (cutL xs lo hi))
  | .str z => if small z.length then some (.str (cutS z lo hi)) else none
  | _ => none
def E.slice (ga : E) (lo hi : DEnv → R (Option Int)) : E := fun ρ => (ga ρ).bind fun x => (lo ρ).bind fun l => (hi ρ).bind fun h => R.of (slD x l h)
def rSlX (K : PySem.W.Frag) : V → Option Int → Option Int → Hp → VK → Prop := fun x lo hi H Q => rSlL K x lo hi H Q ∨ (rSlA K x lo hi H Q ∨ rSlS x lo hi H Q)
theorem sl_x : SlR X (rSlX X.K) := SlR.or sl_list (SlR.or sl_tupA sl_str)
theorem sl_core {x : D} {v : V} {lo hi : Option Int} {d : D} (le : Ex F H) (hv : Dv K F v x) (e : slD x lo hi = some d) {Q : VK} (q : ∀ F' H', Stp F H F' H' → Pd K Q d F' H') : rSlX K v lo hi H Q := by
  cases hv with
  | @lst a xs ds ha hd =>
    cases (Option.some.inj e)
    exact .inl ⟨a, xs, rfl, Evl.ex_l le ha, fun p hp => q _ _ (Stp.add le hp) _ (put_lst le hp (hd.cut lo hi))⟩
  | @tup a xs ds ha hd =>
    cases (Option.some.inj e)
    refine .inr (.inl ⟨a, xs, rfl, Evl.ex_t le ha, fun w => ?_, fun w p hp => q _ _ (Stp.add le hp) _ (put_tup le hp (hd.cut lo hi))⟩)
    rw [hd.len] at w
    rw [cut_whole w] at q
    exact q F H (Stp.refl le) _ (.tup ha hd)
  | str z =>
    obtain ⟨h1, h2⟩ := of_if (show (if small z.length then some (D.str (cutS z lo hi)) else none) = some d from e)
    subst h2
    exact .inr (.inr ⟨z, rfl, small_le h1, q F H (Stp.refl le) _ (.str _)⟩)
  | _ => cases e
theorem de_slice {lo hi : Option Expr} {gl gh : DEnv → R (Option Int)} {p2 : Pos} (ha : DE X C W a ga) (hl : DO X C W lo gl) (hh : DO X C W hi gh) : DE X C W (.Subscript a (.Slice lo hi none p2) pos) (E.slice ga gl gh) := pe_weak (pe_slice sl_x ha hl hh) fun σ H Q ⟨F, ρ, le, env, o⟩ =>
  ⟨F, ρ, le, env, o.bind.imp fun x F1 H1 s1 o1 v hv => ⟨F1, ρ, s1.le, env.mono s1.f, o1.bind.imp fun l F2 H2 s2 o2 => ⟨F2, ρ, s2.le, (env.mono s1.f).mono s2.f, o2.bind.imp fun h F3 H3 s3 o3 => by
    obtain ⟨d, e, q⟩ := o3.of_some
    exact sl_core s3.le ((hv.mono s2.f).mono s3.f) e q⟩⟩⟩
/-- xs[::-1] of a list -/
def revD : D → Option D
  | .lst xs => some (.lst xs.reverse)
  | _ => none
theorem de_rev {k : Nat} {p1 p2 p3 : Pos} (ha : DE X C W a ga) : DE X C W (.Subscript a (.Slice none none (some (.UnaryOp .USub (.Constant (.int 1) k p1) p2)) p3) pos) (E.un revD ga) := pe_weak (pe_revL ha) fun σ H Q ⟨F, ρ, le, env, o⟩ =>
  ⟨F, ρ, le, env, o.bind.imp fun x F1 H1 s1 o1 v hv => by
    obtain ⟨d, e, q⟩ := o1.of_some
    cases hv with
    | @lst a xs ds ha hd =>
      cases (Option.some.inj e)
      exact ⟨a, xs, rfl, Evl.ex_l s1.le ha, fun p hp => q _ _ (Stp.add s1.le hp) _ (put_lst s1.le hp hd.rev)⟩
    | _ => cases e⟩
end
end DL

set_option Elab.async false
set_option linter.all false
set_option maxRecDepth 100000
set_option maxHeartbeats 2000000
/-! calls by data -/
namespace DL
open PySem PySem.Spec PyProof.Rows L2
open Evl (Ex)
section
variable {X : Cx} {K : PySem.W.Frag} {C : Nat → Addr} {W : WX} {a b c e : Expr} {es : List Expr} {ga gb gc : E} {gs : DEnv → R (List D)} {pos p : Pos} {x : Str} {σ : L2.St} {F H : Hp}
def E.fn (f : List D → Option D) (gs : DEnv → R (List D)) : E := fun ρ => (gs ρ).bind fun xs => R.of (f xs)
theorem fn_lift {r : List V → Hp → VK → Prop} {f : List D → Option D} (hf : OpN X.K r f) (σ : L2.St) (H : Hp) (Q : VK) (h : tE C X.K W (E.fn f gs) σ H Q) : tCB r (tA C X.K W gs) σ H Q := by
  obtain ⟨F, ρ, le, env, o⟩ := h
  refine ⟨F, ρ, le, env, o.bind.imp fun xs F1 H1 s1 o1 vs hvs => ?_⟩
  obtain ⟨d, e, q⟩ := o1.of_some
  exact hf F1 H1 vs xs d s1.le hvs e Q q
/-- a built-in function; a built-in class -/
theorem de_callB {id : String} {r : List V → Hp → VK → Prop} {f : List D → Option D} (hc : CallR X (.builtin id) r) (hf : OpN X.K r f) (hg : Gl X x) (hm : X.mg x = none) (hv : bootBuiltins x = some (.builtin id)) (ha : DA X C W (e :: es) gs) (hn : x ≠ "__name__" := by decide) (hdb : (x == ("__debug__" : Str)) = false := by decide)
    (he : starEach (e :: es) X.env = (false, eval e X.env) :: starEach es X.env := by rfl) (hpl : (backTo pos (starEach es X.env)).any (·.1) = false := by rfl) : DE X C W (.Call (.Name x p) (e :: es) [] pos) (E.fn f gs) :=
  pe_weak (pe_callB hc hg hm hv ha hn hdb he hpl) (fn_lift hf)
theorem de_callT {T : String} {r : List V → Hp → VK → Prop} {f : List D → Option D} (hc : CallR X (.type T) r) (hf : OpN X.K r f) (hg : Gl X x) (hm : X.mg x = none) (hv : bootBuiltins x = some (.type T)) (ha : DA X C W (e :: es) gs) (hn : x ≠ "__name__" := by decide) (hdb : (x == ("__debug__" : Str)) = false := by decide)
    (he : starEach (e :: es) X.env = (false, eval e X.env) :: starEach es X.env := by rfl) (hpl : (backTo pos (starEach es X.env)).any (·.1) = false := by rfl) : DE X C W (.Call (.Name x p) (e :: es) [] pos) (E.fn f gs) :=
  pe_weak (pe_callTy hc hg hm hv ha hn hdb he hpl) (fn_lift hf)
/-! len -/
def lenD : List D → Option D
  | [.str z] => if small z.length then some (.int z.length) else none
  | [.lst xs] => some (.int xs.length)
  | [.tup xs] => some (.int xs.length)
  | _ => none
theorem on_len : OpN K (fun xs H Q => ∃ x n, xs = [x] ∧ LenV K x H n ∧ Q (.int n) H) lenD := by
  intro F H v x d le hv e Q q
  cases hv with
  | nil => cases e
  | @cons v vs x ds h t =>
    cases t with
    | cons _ _ => cases x <;> cases e
    | nil =>
      cases h with
      | str z =>
        obtain ⟨h1, h2⟩ := of_if (show (if small z.length then some (D.int z.length) else none) = some d from e)
        subst h2
        exact ⟨_, z.length, rfl, ⟨small_le h1, rfl⟩, q F H (Stp.refl le) _ (.int _)⟩
      | @lst a xs ds ha hd =>
        cases (Option.some.inj e)
        have q' := q F H (Stp.refl le) _ (.int _)
        rw [← hd.len] at q'
        exact ⟨_, xs.length, rfl, .inl ⟨xs, Evl.ex_l le ha, rfl⟩, q'⟩
      | @tup a xs ds ha hd =>
        cases (Option.some.inj e)
        have q' := q F H (Stp.refl le) _ (.int _)
        rw [← hd.len] at q'
        exact ⟨_, xs.length, rfl, .inr ⟨xs, Evl.ex_t le ha, rfl⟩, q'⟩
      | _ => cases e
/-! tuple, list -/
def tupleD : List D → Option D
  | [.lst xs] => some (.tup xs)
  | [.tup xs] => some (.tup xs)
  | _ => none
theorem on_tuple : OpN K (fun xs H Q => ∃ p ys, xs = [.ref p] ∧ ((SqL K H p ys ∧ ∀ l, H l = none → Q (.ref l) (upd H l (.tup ys))) ∨ (SqT K H p ys ∧ Q (.ref p) H))) tupleD := by
  intro F H v x d le hv e Q q
  cases hv with
  | nil => cases e
  | @cons v vs x ds h t =>
    cases t with
    | cons _ _ => cases x <;> cases e
    | nil =>
      cases h with
      | @lst a xs ds ha hd =>
        cases (Option.some.inj e)
        exact ⟨a, xs, rfl, .inl ⟨Evl.ex_l le ha, fun l hl => q _ _ (Stp.add le hl) _ (put_tup le hl hd)⟩⟩
      | @tup a xs ds ha hd =>
        cases (Option.some.inj e)
        exact ⟨a, xs, rfl, .inr ⟨Evl.ex_t le ha, q F H (Stp.refl le) _ (.tup ha hd)⟩⟩
      | _ => cases e
def listD : List D → Option D
  | [.lst xs] => some (.lst xs)
  | [.tup xs] => some (.lst xs)
  | _ => none
theorem on_list : OpN K (fun xs H Q => ∃ p ys, xs = [.ref p] ∧ (SqL K H p ys ∨ SqT K H p ys) ∧ ∀ l, H l = none → Q (.ref l) (upd H l (.lst ys))) listD := by
  intro F H v x d le hv e Q q
  cases hv with
  | nil => cases e
  | @cons v vs x ds h t =>
    cases t with
    | cons _ _ => cases x <;> cases e
    | nil =>
      cases h with
      | @lst a xs ds ha hd =>
        cases (Option.some.inj e)
        exact ⟨a, xs, rfl, .inl (Evl.ex_l le ha), fun l hl => q _ _ (Stp.add le hl) _ (put_lst le hl hd)⟩
      | @tup a xs ds ha hd =>
        cases (Option.some.inj e)
        exact ⟨a, xs, rfl, .inr (Evl.ex_t le ha), fun l hl => q _ _ (Stp.add le hl) _ (put_lst le hl hd)⟩
      | _ => cases e
/-! int of a text, str of an int -/
def intD : List D → Option D
  | [.str z] => if decide (z.length ≤ 640) then (PySem.intText? z).map .int else none
  | _ => none
theorem on_int : OpN K (fun xs H Q => ∃ a n, xs = [.str a] ∧ PySem.intText? a = some n ∧ a.length ≤ 640 ∧ Q (.int n) H) intD := by
  intro F H v x d le hv e Q q
  cases hv with
  | nil => cases e
  | @cons v vs x ds h t =>
    cases t with
    | cons _ _ => cases x <;> cases e
    | nil =>
      cases h with
      | str z =>
        have e' : (if decide (z.length ≤ 640) then (PySem.intText? z).map D.int else none) = some d := e
        cases hz : decide (z.length ≤ 640) with
        | false => rw [hz] at e'; cases e'
        | true =>
          rw [hz] at e'
          obtain ⟨n, h1, h2⟩ := Option.map_eq_some_iff.mp e'
          subst h2
          exact ⟨z, n, rfl, h1, of_decide_eq_true hz, q F H (Stp.refl le) _ (.int _)⟩
      | _ => cases e
def strD : List D → Option D
  | [.int i] => if decide (i.natAbs.log2 < 1920) then some (.str (toString i)) else none
  | _ => none
theorem on_str : OpN K (fun xs H Q => ∃ i, xs = [.int i] ∧ i.natAbs.log2 < 1920 ∧ Q (.str (toString i)) H) strD := by
  intro F H v x d le hv e Q q
  cases hv with
  | nil => cases e
  | @cons v vs x ds h t =>
    cases t with
    | cons _ _ => cases x <;> cases e
    | nil =>
      cases h with
      | int i =>
        obtain ⟨h1, h2⟩ := of_if (show (if decide (i.natAbs.log2 < 1920) then some (D.str (toString i)) else none) = some d from e)
        subst h2
        exact ⟨i, rfl, of_decide_eq_true h1, q F H (Stp.refl le) _ (.str _)⟩
      | _ => cases e
/-! all of a list of bools -/
def toBs : List D → Option (List Bool)
  | [] => some []
  | x :: xs => (toB x).bind fun b => (toBs xs).map fun bs => b :: bs
theorem toBs_some : ∀ {vs : List V} {ds : List D} {bs : List Bool}, DvA K F vs ds → toBs ds = some bs → vs = bs.map V.bl
  | _, _, _, .nil, e => by cases e; rfl
  | _, _, _, .cons h t, e => by
    obtain ⟨b, e1, e2⟩ := Option.bind_eq_some_iff.mp e
    obtain ⟨bs, e3, e4⟩ := Option.map_eq_some_iff.mp e2
    subst e4
    rw [toB_some e1 h, toBs_some t e3]
    rfl
def allD : List D → Option D
  | [.lst xs] => (toBs xs).map fun bs => .bl (bs.all id)
  | _ => none
theorem on_all : OpN K (rAll K) allD := by
  intro F H v x d le hv e Q q
  cases hv with
  | nil => cases e
  | @cons v vs x ds h t =>
    cases t with
    | cons _ _ => cases x <;> cases e
    | nil =>
      cases h with
      | @lst a xs ds ha hd =>
        obtain ⟨bs, h1, h2⟩ := Option.map_eq_some_iff.mp (show (toBs ds).map (fun bs => D.bl (bs.all id)) = some d from e)
        subst h2
        have e2 := toBs_some hd h1
        subst e2
        exact ⟨a, bs, rfl, Evl.ex_l le ha, q F H (Stp.refl le) _ (.bl _)⟩
      | _ => cases e
/-! isinstance -/
inductive Tn where
  | int | bool | str | tuple | list | dict
def Tn.name : Tn → String
  | .int => "int" | .bool => "bool" | .str => "str" | .tuple => "tuple" | .list => "list" | .dict => "dict"
def tyN : D → String
  | .non => "NoneType" | .bl _ => "bool" | .int _ => "int" | .str _ => "str" | .lst _ => "list" | .tup _ => "tuple" | .dic _ => "dict"
def isiT : Tn → D → Bool
  | .int, .int _ => true
  | .int, .bl _ => true
  | .bool, .bl _ => true
  | .str, .str _ => true
  | .tuple, .tup _ => true
  | .list, .lst _ => true
  | .dict, .dic _ => true
  | _, _ => false
theorem isi_kit (T : Tn) (d : D) : kitB (tyN d) T.name = some (isiT T d) := by
  cases T <;> cases d <;> (first | rfl | decide +kernel)
theorem ty_of {v : V} {d : D} (le : Ex F H) (h : Dv K F v d) : TyX K H v (.type (tyN d)) := by
  cases h with
  | non => exact .base .non
  | bl b => exact .base (.bl b)
  | int b => exact .base (.int b)
  | str b => exact .base (.str b)
  | lst ha _ =>
    rcases ha with (ha | ⟨o, ha⟩) | ⟨o, its, n, hk, hc, _⟩
    · exact .base (.lst (le _ _ ha))
    · exact .base (.frz (le _ _ ha))
    · exact .kList hk hc
  | dic ha _ => exact .base (.dK (le _ _ ha))
  | tup ha _ =>
    rcases ha with (ha | ⟨o, ha⟩) | ⟨o, its, n, hk, hc, _⟩
    · exact .base (.tup (le _ _ ha))
    · exact .fTuple (le _ _ ha)
    · exact .kTuple hk hc
def E.isi (T : Tn) (ga : E) : E := fun ρ => (ga ρ).bind fun x => .ok (.bl (isiT T x))
theorem de_isi {T : Tn} {t : Str} {p2 : Pos} (hm : X.mg "isinstance" = none) (hmt : X.mg t = none) (hg : Gl X "isinstance") (hgt : Gl X t) (hv : bootBuiltins t = some (.type T.name)) (ha : DE X C W a ga) (hn : t ≠ "__name__" := by decide) (hdb : (t == ("__debug__" : Str)) = false := by decide)
    (he : starEach (a :: [.Name t p2]) X.env = (false, eval a X.env) :: starEach [.Name t p2] X.env := by rfl) (he2 : starEach [.Name t p2] X.env = (false, eval (.Name t p2) X.env) :: starEach [] X.env := by rfl) (hpl : (backTo pos (starEach [.Name t p2] X.env)).any (·.1) = false := by rfl) :
    DE X C W (.Call (.Name "isinstance" p) [a, .Name t p2] [] pos) (E.isi T ga) := by
  have ht : PE X (.Name t p2) (tC (.ty T.name)) := pe_bltn hgt hmt hv rfl hn hdb
  refine pe_weak (pe_callB call_isi hg hm (by decide +kernel) (pa_cons ha (pa_cons ht pa_nil he2) he) (by decide) (by decide) he hpl) fun σ H Q ⟨F, ρ, le, env, o⟩ => ?_
  exact ⟨F, ρ, le, env, o.bind.imp fun x F1 H1 s1 o1 v hv => ⟨v, _, _, _, _, rfl, .ty _, ty_of s1.le hv, kit_ty (isi_kit T x), o1 F1 H1 (Stp.refl s1.le) _ (.bl _)⟩⟩
/-! methods of texts and lists -/
def OpM (K : PySem.W.Frag) (T : String) (r : V → List V → Hp → VK → Prop) (f : D → List D → Option D) : Prop := ∀ F H F1 H1 v x us xs d, Ex F H → Dv K F v x → Stp F H F1 H1 → DvA K F1 us xs → f x xs = some d → ∀ Q : VK, (∀ F' H', Stp F1 H1 F' H' → Pd K Q d F' H') → tyV K T v H ∧ r v us H1 Q
def E.meth (T : D → Bool) (f : D → List D → Option D) (ga : E) (gs : DEnv → R (List D)) : E := fun ρ => (ga ρ).bind fun x => if T x then (gs ρ).bind fun xs => R.of (f x xs) else .bad
def isS : D → Bool
  | .str _ => true
  | _ => false
def isL : D → Bool
  | .lst _ => true
  | _ => false
theorem bm_lift {T : String} {isT : D → Bool} {r : V → List V → Hp → VK → Prop} {f : D → List D → Option D} (ht : ∀ F H v x, Ex F H → Dv X.K F v x → isT x = true → tyV X.K T v H)
    (hf : ∀ F H v x us xs d, Ex F H → Dv X.K F v x → DvA X.K F us xs → f x xs = some d → ∀ Q : VK, (∀ F' H', Stp F H F' H' → Pd X.K Q d F' H') → r v us H Q) (σ : L2.St) (H : Hp) (Q : VK) (h : tE C X.K W (E.meth isT f ga gs) σ H Q) :
    tBM X.K T r (tE C X.K W ga) (tA C X.K W gs) σ H Q := by
  obtain ⟨F, ρ, le, env, o⟩ := h
  refine ⟨F, ρ, le, env, o.bind.imp fun x F1 H1 s1 o1 v hv => ?_⟩
  cases hi : isT x with
  | false => rw [hi] at o1; exact o1.elim
  | true =>
    rw [hi] at o1
    have o1' : Out C X.K W σ F1 H1 ((gs ρ).bind fun xs => R.of (f x xs)) (Pd X.K Q) := o1
    refine ⟨ht F1 H1 v x s1.le hv hi, F1, ρ, s1.le, env.mono s1.f, o1'.bind.imp fun xs F2 H2 s2 o2 vs hvs => ?_⟩
    obtain ⟨d, e, q⟩ := o2.of_some
    exact hf F2 H2 v x vs xs d s2.le (hv.mono s2.f) hvs e Q q
theorem ty_S {F H : Hp} {v : V} {x : D} (le : Ex F H) (hv : Dv K F v x) (h : isS x = true) : tyV K "str" v H := by
  cases hv with
  | str s => exact (show "str" = "str" from rfl)
  | _ => cases h
theorem ty_L {F H : Hp} {v : V} {x : D} (le : Ex F H) (hv : Dv K F v x) (h : isL x = true) : tyV K "list" v H := by
  cases hv with
  | lst ha _ => exact .inl ⟨rfl, _, Evl.ex_l le ha⟩
  | _ => cases h
/-- s.split(t) -/
def splitD : D → List D → Option D
  | .str a, [.str b] => if !(b.length == 0) && small (a.length + 2) then some (.lst ((Txt.split a b).map .str)) else none
  | _, _ => none
theorem strs_dv : ∀ l : List Str, DvA K F (l.map V.str) (l.map D.str)
  | [] => .nil
  | s :: l => .cons (.str s) (strs_dv l)
theorem om_split : ∀ F H v x us xs d, Ex F H → Dv K F v x → DvA K F us xs → splitD x xs = some d → ∀ Q : VK, (∀ F' H', Stp F H F' H' → Pd K Q d F' H') →
    ∃ a b, v = .str a ∧ us = [.str b] ∧ (b.length == 0) = false ∧ a.length + 2 ≤ sizeLine ∧ rNewStrs (Txt.split a b) H Q := by
  intro F H v x us xs d le hv hvs e Q q
  cases hv with
  | str a =>
    cases hvs with
    | nil => cases e
    | @cons w ws y ys h t =>
      cases t with
      | cons _ _ => cases y <;> cases e
      | nil =>
        cases h with
        | str b =>
          obtain ⟨h1, h2⟩ := of_if (show (if !(b.length == 0) && small (a.length + 2) then some (D.lst ((Txt.split a b).map .str)) else none) = some d from e)
          subst h2
          rw [Bool.and_eq_true] at h1
          exact ⟨a, b, rfl, rfl, by simpa using h1.1, small_le h1.2, fun p hp => q _ _ (Stp.add le hp) _ (put_lst le hp (strs_dv _))⟩
        | _ => cases e
  | _ => cases xs with | nil => cases e | cons y ys => cases e
theorem de_split {apos : Pos} (ho : DE X C W a ga) (ha : DE X C W b gb) (hs : starEach [b] X.env = [(false, eval b X.env)] := by rfl) (hbase : attributeBase a "split" X.env (eval a X.env) = eval a X.env := by rfl) (hline : (apos.endLine == pos.line) = true := by rfl)
    (hfew : ((backTo pos (starEach (b :: []) X.env)).all (fun x => !x.1) && (backToKw pos (keywordEach [] X.env)).all (fun x => x.1.isSome) && decide ((b :: ([] : List Expr)).length + ([] : List Keyword).length + (if ([] : List Keyword).isEmpty then 0 else 1) < 30)) = true := by rfl)
    (hp : (backTo pos (starEach ([] : List Expr) X.env)).any (·.1) = false := by rfl) : DE X C W (.Call (.Attribute a "split" apos) [b] [] pos) (E.meth isS splitD ga (A.cons gb A.nil)) :=
  pe_weak (pe_bm PySem.F.plainAttrs_str PySem.F.slot_str_split PySem.F.type_str_split mt_split ho (da_cons ha da_nil hs) hbase hfew hline hs hp) (bm_lift (fun F H v x => ty_S) om_split)
/-- s.join(list or tuple of texts) -/
def toSs : List D → Option (List Str)
  | [] => some []
  | .str s :: xs => (toSs xs).map fun ss => s :: ss
  | _ :: _ => none
theorem toSs_some : ∀ {vs : List V} {ds : List D} {ss : List Str}, DvA K F vs ds → toSs ds = some ss → vs = ss.map V.str
  | _, _, _, .nil, e => by cases e; rfl
  | _, _, _, .cons (d := d) h t, e => by
    cases h with
    | str s =>
      obtain ⟨ss, e1, e2⟩ := Option.map_eq_some_iff.mp (show (toSs _).map (fun ss => s :: ss) = some _ from e)
      subst e2
      rw [toSs_some t e1]
      rfl
    | _ => cases e
def joinL (a : Str) (xs : List D) : Option D := (toSs xs).bind fun ss => if decide ((ss.map (·.length)).sum + ss.length * a.length ≤ 16777216) then some (.str (Txt.join a ss)) else none
def joinD : D → List D → Option D
  | .str a, [.lst xs] => joinL a xs
  | .str a, [.tup xs] => joinL a xs
  | _, _ => none
theorem om_join : ∀ F H v x us xs d, Ex F H → Dv K F v x → DvA K F us xs → joinD x xs = some d → ∀ Q : VK, (∀ F' H', Stp F H F' H' → Pd K Q d F' H') →
    ∃ a p, ∃ ys : List Str, v = .str a ∧ us = [.ref p] ∧ (SqL K H p (ys.map V.str) ∨ SqT K H p (ys.map V.str)) ∧ (ys.map (·.length)).sum + ys.length * a.length ≤ 16777216 ∧ Q (.str (Txt.join a ys)) H := by
  intro F H v x us xs d le hv hvs e Q q
  cases hv with
  | str a =>
    cases hvs with
    | nil => cases e
    | @cons w ws y ys h t =>
      cases t with
      | cons _ _ => cases y <;> cases e
      | nil =>
        cases h with
        | @lst p vs ds hp hd =>
          obtain ⟨ss, h1, h2⟩ := Option.bind_eq_some_iff.mp (show joinL a ds = some d from e)
          obtain ⟨h3, h4⟩ := of_if h2
          subst h4
          have e2 := toSs_some hd h1
          subst e2
          exact ⟨a, p, ss, rfl, rfl, .inl (Evl.ex_l le hp), of_decide_eq_true h3, q F H (Stp.refl le) _ (.str _)⟩
        | @tup p vs ds hp hd =>
          obtain ⟨ss, h1, h2⟩ := Option.bind_eq_some_iff.mp (show joinL a ds = some d from e)
          obtain ⟨h3, h4⟩ := of_if h2
          subst h4
          have e2 := toSs_some hd h1
          subst e2
          exact ⟨a, p, ss, rfl, rfl, .inr (Evl.ex_t le hp), of_decide_eq_true h3, q F H (Stp.refl le) _ (.str _)⟩
        | _ => cases e
  | _ => cases xs with | nil => cases e | cons y ys => cases e
theorem de_join {apos : Pos} (ho : DE X C W a ga) (ha : DE X C W b gb) (hs : starEach [b] X.env = [(false, eval b X.env)] := by rfl) (hbase : attributeBase a "join" X.env (eval a X.env) = eval a X.env := by rfl) (hline : (apos.endLine == pos.line) = true := by rfl)
    (hfew : ((backTo pos (starEach (b :: []) X.env)).all (fun x => !x.1) && (backToKw pos (keywordEach [] X.env)).all (fun x => x.1.isSome) && decide ((b :: ([] : List Expr)).length + ([] : List Keyword).length + (if ([] : List Keyword).isEmpty then 0 else 1) < 30)) = true := by rfl)
    (hp : (backTo pos (starEach ([] : List Expr) X.env)).any (·.1) = false := by rfl) : DE X C W (.Call (.Attribute a "join" apos) [b] [] pos) (E.meth isS joinD ga (A.cons gb A.nil)) :=
  pe_weak (pe_bm PySem.F.plainAttrs_str PySem.F.slot_str_join PySem.F.type_str_join mt_join ho (da_cons ha da_nil hs) hbase hfew hline hs hp) (bm_lift (fun F H v x => ty_S) om_join)
/-! f-strings -/
def fmtD : D → Option D
  | .str z => if small z.length then some (.str z) else none
  | .int i => if decide (i.natAbs.log2 < 1920) then some (.str (toString i)) else none
  | _ => none
theorem de_fmt (ha : DE X C W a ga) : DE X C W (.FormattedValue a (-1) none pos) (E.un fmtD ga) := pe_weak (pe_fmt ha) fun σ H Q ⟨F, ρ, le, env, o⟩ =>
  ⟨F, ρ, le, env, o.bind.imp fun x F1 H1 s1 o1 v hv => by
    obtain ⟨d, e, q⟩ := o1.of_some
    cases hv with
    | str z =>
      obtain ⟨h1, h2⟩ := of_if (show (if small z.length then some (D.str z) else none) = some d from e)
      subst h2
      exact .inl ⟨z, rfl, small_le h1, q F1 H1 (Stp.refl s1.le) _ (.str _)⟩
    | int i =>
      obtain ⟨h1, h2⟩ := of_if (show (if decide (i.natAbs.log2 < 1920) then some (D.str (toString i)) else none) = some d from e)
      subst h2
      exact .inr ⟨i, rfl, of_decide_eq_true h1, q F1 H1 (Stp.refl s1.le) _ (.str _)⟩
    | _ => cases e⟩
def toS : D → Option Str
  | .str s => some s
  | _ => none
def J : List E → Str → DEnv → R Str
  | [], acc, _ => .ok acc
  | g :: gs, acc, ρ => (g ρ).bind fun x => (R.of (toS x)).bind fun s => if small (acc ++ s).length then J gs (acc ++ s) ρ else .bad
inductive DJ (X : Cx) (C : Nat → Addr) (W : WX) : List Expr → List E → Prop where
  | nil : DJ X C W [] []
  | cons {e : Expr} {t : E} {es : List Expr} {ts : List E} (h : DE X C W e t) (r : DJ X C W es ts) : DJ X C W (e :: es) (t :: ts)
theorem DJ.pj {es : List Expr} {gs : List E} (h : DJ X C W es gs) : PJ X es (gs.map (tE C X.K W)) := by
  induction h with
  | nil => exact .nil
  | cons h _ ih => exact .cons h ih
theorem j_lift {σ : L2.St} {Q : Str → Hp → Prop} {ρ : DEnv} : ∀ (gs : List E) (acc : Str) (F H : Hp), Ex F H → EnvR K F σ ρ → Out C K W σ F H (J gs acc ρ) (fun s _ H' => Q s H') → tJs (gs.map (tE C K W)) acc σ H Q
  | [], acc, F, H, le, env, o => o F H (Stp.refl le)
  | g :: gs, acc, F, H, le, env, o => ⟨F, ρ, le, env, o.bind.imp fun x F1 H1 s1 o1 v hv => by
    cases hv with
    | str s =>
      have o2 : Out C K W σ F1 H1 (if small (acc ++ s).length then J gs (acc ++ s) ρ else .bad) (fun s _ H' => Q s H') := o1
      cases hz : small (acc ++ s).length with
      | false => rw [hz] at o2; exact o2.elim
      | true =>
        rw [hz] at o2
        exact ⟨s, rfl, small_le hz, j_lift gs (acc ++ s) F1 H1 s1.le (env.mono s1.f) o2⟩
    | _ => exact o1.elim⟩
def E.joined (gs : List E) : E := fun ρ => (J gs Str.empty ρ).bind fun s => .ok (.str s)
theorem de_joined {v1 v2 : Expr} {rest : List Expr} {gs : List E} (h : DJ X C W (v1 :: v2 :: rest) gs) : DE X C W (.JoinedStr (v1 :: v2 :: rest) pos) (E.joined gs) := pe_weak (pe_joined h.pj) fun σ H Q ⟨F, ρ, le, env, o⟩ =>
  j_lift gs Str.empty F H le env (o.bind.imp fun s F1 H1 s1 o1 => o1 F1 H1 (Stp.refl s1.le) _ (.str s))
/-! calls of defs -/
def spD (C : Nat → Addr) (K : PySem.W.Frag) (n : Nat) (f : List D → R D) : Sp := fun vs H Q E => vs.length = n ∧ ∃ F ds, Ex F H ∧ DvA K F vs ds ∧ Out C K (fun cls d _ H' => E cls d H') [] F H (f ds) (Pd K Q)
def E.call (f : List D → R D) (gs : DEnv → R (List D)) : E := fun ρ => (gs ρ).bind f
theorem Out.atw {α : Type} {r : R α} {P : α → Hp → Hp → Prop} (o : Out C K W σ F H r P) : Out C K (fun cls d _ H' => W cls d σ H') [] F H r P := by
  cases r with
  | ok a => exact o
  | exc c g => exact o
  | bad => exact o
theorem call_lift {n : Nat} {f : List D → R D} (hn : ∀ ds, ds.length ≠ n → f ds = .bad) (σ : L2.St) (H : Hp) (Q : VK) (h : tE C K W (E.call f gs) σ H Q) : tCallS (spD C K n f) (WE W) (tA C K W gs) σ H Q := by
  obtain ⟨F, ρ, le, env, o⟩ := h
  refine ⟨F, ρ, le, env, o.bind.imp fun xs F1 H1 s1 o1 vs hvs => ⟨?_, F1, xs, s1.le, hvs, o1.atw⟩⟩
  rw [hvs.len]
  by_cases e : xs.length = n
  · exact e
  · rw [hn xs e] at o1
    exact o1.elim
theorem de_call {n : Nat} {f : List D → R D} {k : Nat} {fa : Addr} {fd : FuncData} {ps : List Str} (hn : ∀ ds, ds.length ≠ n → f ds = .bad) (Fn : FnOk X.prog X.w X.K X.mg X.base (L2.CX X.prog X.w) k fa fd ps (spD C X.K n f)) (hr : Room k X.A) (hg : Gl X x) (hm : X.mg x = some (.ref fa)) (hk : PySem.W.keepIn X.K (.ref fa) = true)
    (hb : Binds X.K fd ps []) (tk : Takes X W) (ha : DA X C W (e :: es) gs) (hdb : (x == ("__debug__" : Str)) = false := by decide) (he : starEach (e :: es) X.env = (false, eval e X.env) :: starEach es X.env := by rfl) (hpl : (backTo pos (starEach es X.env)).any (·.1) = false := by rfl) :
    DE X C W (.Call (.Name x p) (e :: es) [] pos) (E.call f gs) := pe_weak (pe_callS Fn hr hg hm hk hb (fun σ => passAt tk σ) ha hdb he hpl) (call_lift hn)
end
end DL

set_option Elab.async false
set_option linter.all false
set_option maxRecDepth 100000
set_option maxHeartbeats 2000000
/-! walks and comprehensions by data -/
namespace DL
open PySem PySem.Spec PyProof.Rows L2
open Evl (Ex)
section
variable {X : Cx} {K : PySem.W.Frag} {C : Nat → Addr} {W : WX} {a b c e tg : Expr} {ga gb ge : E} {pos p : Pos} {σ : L2.St} {F H : Hp}
/-- J walks the data ds -/
def Wk (K : PySem.W.Frag) (F0 : Hp) (J : It) (ds : List D) : Prop := ∀ (i : Nat) (F H : Hp), Ex F0 F → Ex F H →
  (∀ d, ds[i]? = some d → J.go i H ∧ ∀ x H', J.yld i H x H' → ∃ F', Stp F H F' H' ∧ Dv K F' x d) ∧ (ds.length ≤ i → J.stop i H)
def Pi (K : PySem.W.Frag) (R : It → Hp → Prop) : List D → Hp → Hp → Prop := fun ds F1 H1 => ∀ J, Wk K F1 J ds → R J H1
def tI (C : Nat → Addr) (K : PySem.W.Frag) (W : WX) (g : DEnv → R (List D)) : TI := fun σ H R => ∃ F ρ, Ex F H ∧ EnvR K F σ ρ ∧ Out C K W σ F H (g ρ) (Pi K R)
abbrev DI (X : Cx) (C : Nat → Addr) (W : WX) (tg e : Expr) (g : DEnv → R (List D)) : Prop := PI X tg e (tI C X.K W g)
theorem pi_weak {t t' : TI} (h : PI X tg e t) (w : ∀ σ H Q, t' σ H Q → t σ H Q) : PI X tg e t' := ⟨fun pins s σ H Q I q => h.run pins s σ H Q I (w σ H Q q)⟩
/-- a list, a tuple, a text -/
def iAny (K : PySem.W.Frag) (te : TE) : TI := fun σ H R => te σ H fun x H1 => (∃ a, x = .ref a ∧ (∃ xs, SqL K H1 a xs) ∧ R (Itl K a) H1) ∨ (∃ a, x = .ref a ∧ (∃ xs, SqT K H1 a xs) ∧ R (Itt K a) H1) ∨ ∃ z, x = .str z ∧ R (Its z) H1
theorem pi_any {te : TE} (hl : PE X e te) : PI X tg e (iAny X.K te) := by
  refine ⟨fun pins s σ H R I h => ?_⟩
  refine thn (hl.run pins s σ H _ I h) fun v s1 ⟨x, H1, I1, r1, q1⟩ => ?_
  rcases q1 with ⟨a, e, ⟨xs, hq⟩, q⟩ | ⟨a, e, ⟨xs, hq⟩, q⟩ | ⟨z, e, q⟩
  · subst e
    cases r1
    obtain ⟨its, rv, p, hz⟩ := I1.list hq
    refine wpAny_pyIter_list p.isList ?_
    refine ⟨s1.heap.objs.size, [s1.heap.objs.size], _, _, H1, rfl, I1.kept (t' := s1.toks) fun b o e => Heap.get?_push_of_some _ e, turn_list a _, ⟨_, Heap.get?_push_size _ rfl, rfl, rfl⟩, fun b hb => ?_, q⟩
    have e : b = s1.heap.objs.size := by simpa using hb
    subst e
    exact I1.fpOk (Nat.le_refl _) (I1.hok.fresh (Nat.le_refl _))
  · subst e
    cases r1
    obtain ⟨its, rv, p, hz⟩ := I1.tuple hq
    refine wpAny_pyIter_tuple (show s1.heap.IsTuple a its.toArray from p) ?_
    refine ⟨s1.heap.objs.size, [s1.heap.objs.size], _, _, H1, rfl, I1.kept (t' := s1.toks) fun b o e => Heap.get?_push_of_some _ e, turn_tuple a _, ⟨_, Heap.get?_push_size _ rfl, rfl, rfl⟩, fun b hb => ?_, q⟩
    have e : b = s1.heap.objs.size := by simpa using hb
    subst e
    exact I1.fpOk (Nat.le_refl _) (I1.hok.fresh (Nat.le_refl _))
  · subst e
    obtain ⟨t, rfl⟩ := r1
    cases ha : z.cps.all (· < 128)
    · exact wpAny_pyIter_wide ha (pi_one (tk := s1.toks) I1 _ (turn_str _ z t "str_iterator" (.inr rfl)) ⟨_, Heap.get?_push_size _ rfl, rfl, rfl⟩ q)
    · exact wpAny_pyIter_ascii ha (pi_one (tk := s1.toks) I1 _ (turn_str _ z t "str_ascii_iterator" (.inl rfl)) ⟨_, Heap.get?_push_size _ rfl, rfl, rfl⟩ q)
theorem wk_list {a : Addr} {xs : List V} {ds : List D} {F0 : Hp} (h : SqL K F0 a xs) (hd : DvA K F0 xs ds) : Wk K F0 (Itl K a) ds := fun i F H e1 e2 => by
  have hs : SqL K H a xs := Evl.ex_l (e1.trans e2) h
  refine ⟨fun d hi => ?_, fun hi => ⟨xs, hs, by rw [hd.len]; exact hi⟩⟩
  obtain ⟨v, h1, h2⟩ := hd.get hi
  refine ⟨⟨xs, v, hs, h1⟩, fun x H' y => ?_⟩
  obtain ⟨y1, y2⟩ := y
  subst y1
  have h3 := y2 xs hs
  rw [h1] at h3
  cases h3
  exact ⟨F, Stp.refl e2, h2.mono e1⟩
theorem wk_tup {a : Addr} {xs : List V} {ds : List D} {F0 : Hp} (h : SqT K F0 a xs) (hd : DvA K F0 xs ds) : Wk K F0 (Itt K a) ds := fun i F H e1 e2 => by
  have hs : SqT K H a xs := Evl.ex_t (e1.trans e2) h
  refine ⟨fun d hi => ?_, fun hi => ⟨xs, hs, by rw [hd.len]; exact hi⟩⟩
  obtain ⟨v, h1, h2⟩ := hd.get hi
  refine ⟨⟨xs, v, hs, h1⟩, fun x H' y => ?_⟩
  obtain ⟨y1, y2⟩ := y
  subst y1
  have h3 := y2 xs hs
  rw [h1] at h3
  cases h3
  exact ⟨F, Stp.refl e2, h2.mono e1⟩
def signs (z : Str) : List D := z.cps.toList.map fun c => .str ⟨#[c]⟩
theorem wk_str {z : Str} {F0 : Hp} : Wk K F0 (Its z) (signs z) := fun i F H e1 e2 => by
  have hl : (signs z).length = z.cps.size := by unfold signs; rw [List.length_map, Array.length_toList]
  refine ⟨fun d hi => ?_, fun hi => by show z.cps.size ≤ i; rw [← hl]; exact hi⟩
  have hlt : i < z.cps.size := by
    have := (List.getElem?_eq_some_iff.mp hi).1
    rw [hl] at this
    exact this
  refine ⟨hlt, fun x H' y => ?_⟩
  obtain ⟨y1, c, y2, y3⟩ := y
  subst y1 y3
  have h4 : (signs z)[i]? = some (.str ⟨#[c]⟩) := by
    unfold signs
    rw [List.getElem?_map, Array.getElem?_toList, y2]
    rfl
  rw [h4] at hi
  cases hi
  exact ⟨F, Stp.refl e2, .str _⟩
def seqD : D → Option (List D)
  | .lst xs => some xs
  | .tup xs => some xs
  | .str z => some (signs z)
  | _ => none
def I.seq (ga : E) : DEnv → R (List D) := fun ρ => (ga ρ).bind fun x => R.of (seqD x)
theorem di_seq (ha : DE X C W a ga) : DI X C W tg a (I.seq ga) := pi_weak (pi_any ha) fun σ H Q ⟨F, ρ, le, env, o⟩ =>
  ⟨F, ρ, le, env, o.bind.imp fun x F1 H1 s1 o1 v hv => by
    obtain ⟨ds, e, q⟩ := o1.of_some
    cases hv with
    | @lst a xs ds ha hd =>
      cases (Option.some.inj e)
      exact .inl ⟨a, rfl, ⟨xs, Evl.ex_l s1.le ha⟩, q F1 H1 (Stp.refl s1.le) _ (wk_list ha hd)⟩
    | @tup a xs ds ha hd =>
      cases (Option.some.inj e)
      exact .inr (.inl ⟨a, rfl, ⟨xs, Evl.ex_t s1.le ha⟩, q F1 H1 (Stp.refl s1.le) _ (wk_tup ha hd)⟩)
    | str z =>
      cases (Option.some.inj e)
      exact .inr (.inr ⟨z, rfl, q F1 H1 (Stp.refl s1.le) _ wk_str⟩)
    | _ => cases e⟩
/-- range(n) -/
def rng (lo : Int) (n : Nat) : List D := (List.range n).map fun (k : Nat) => .int (lo + (k : Int))
theorem wk_rng {lo : Int} {n : Nat} {F0 : Hp} : Wk K F0 (Itr lo n) (rng lo n) := fun i F H e1 e2 => by
  have hl : (rng lo n).length = n := by unfold rng; rw [List.length_map, List.length_range]
  refine ⟨fun d hi => ?_, fun hi => by show n ≤ i; rw [← hl]; exact hi⟩
  have hlt : i < n := by
    have := (List.getElem?_eq_some_iff.mp hi).1
    rw [hl] at this
    exact this
  refine ⟨hlt, fun x H' y => ?_⟩
  obtain ⟨y1, y2⟩ := y
  subst y1 y2
  have h4 : (rng lo n)[i]? = some (.int (lo + (i : Int))) := by
    unfold rng
    rw [List.getElem?_map, List.getElem?_range hlt]
    rfl
  rw [h4] at hi
  cases hi
  exact ⟨F, Stp.refl e2, .int _⟩
def I.rng1 (ga : E) : DEnv → R (List D) := fun ρ => (ga ρ).bind fun x => (R.of (toI x)).bind fun j => if decide (-(2 ^ 62) ≤ j) && decide (j < 2 ^ 62) then .ok (rng 0 j.toNat) else .bad
theorem di_rng1 (hg : Gl X "range") (hm : X.mg "range" = none) (ha : DE X C W a ga) (hs : starEach [a] X.env = [(false, eval a X.env)] := by rfl) : DI X C W tg (.Call (.Name "range" p) [a] [] pos) (I.rng1 ga) :=
  pi_weak (pi_range1 hg hm (pa_cons ha pa_nil hs) hs) fun σ H Q ⟨F, ρ, le, env, o⟩ =>
  ⟨F, ρ, le, env, o.bind.imp fun x F1 H1 s1 o1 v hv => by
    cases e : toI x with
    | none => rw [e] at o1; exact o1.elim
    | some j =>
      rw [e] at o1
      have o2 : Out C X.K W σ F1 H1 (if decide (-(2 ^ 62) ≤ j) && decide (j < 2 ^ 62) then R.ok (rng 0 j.toNat) else .bad) (Pi X.K Q) := o1
      cases hc : decide (-(2 ^ 62) ≤ j) && decide (j < 2 ^ 62) with
      | false => rw [hc] at o2; exact o2.elim
      | true =>
        rw [hc] at o2
        rw [Bool.and_eq_true] at hc
        have hv' := toI_some e hv
        subst hv'
        exact ⟨j, rfl, of_decide_eq_true hc.1, of_decide_eq_true hc.2, o2 F1 H1 (Stp.refl s1.le) _ wk_rng⟩⟩
/-! targets -/
/-- a target's binding by data -/
abbrev Bd := D → DEnv → Option DEnv
def tG (K : PySem.W.Frag) (b : Bd) : TG := fun v σ H Q => ∃ F ρ d ρ', Ex F H ∧ EnvR K F σ ρ ∧ Dv K F v d ∧ b d ρ = some ρ' ∧ ∀ σ', EnvR K F σ' ρ' → (∀ vs : List Nat, True) → Q σ' H
def B.name (i : Nat) : Bd := fun d ρ => some (ρ.set i (some d))
def B.two (i j : Nat) : Bd := fun d ρ => match d with
  | .tup [x, y] => some ((ρ.set i (some x)).set j (some y))
  | _ => none
/-- what a target does to the slots: it changes the named ones alone -/
structure TgOk (K : PySem.W.Frag) (g : TG) (b : Bd) (vs : List Nat) : Prop where
  go : ∀ F H v σ ρ d ρ' Q, Ex F H → EnvR K F σ ρ → Dv K F v d → b d ρ = some ρ' → (∀ σ', EnvR K F σ' ρ' → (σ'.length = σ.length ∧ ∀ k, k ∉ vs → σ'[k]? = σ[k]?) → Q σ' H) → g v σ H Q
theorem tg_name {i : Nat} {vs : List Nat} (hi : i ∈ vs) : TgOk K (gName i) (B.name i) vs := ⟨fun F H v σ ρ d ρ' Q le env hv e q => by
  cases (Option.some.inj e)
  refine q _ (env.set hv) ⟨by simp, fun k hk => ?_⟩
  have : i ≠ k := fun z => hk (z ▸ hi)
  rw [List.getElem?_set_ne this]⟩
theorem tg_two {i j : Nat} {vs : List Nat} (hi : i ∈ vs) (hj : j ∈ vs) : TgOk K (gTup K 2 (gCons (gName i) (gCons (gName j) gNil))) (B.two i j) vs := ⟨fun F H v σ ρ d ρ' Q le env hv e q => by
  cases hv with
  | @tup a xs ds ha hd =>
    cases hd with
    | nil => cases e
    | cons h1 t1 =>
      cases t1 with
      | nil => cases e
      | cons h2 t2 =>
        cases t2 with
        | cons _ _ => cases e
        | nil =>
          cases (Option.some.inj e)
          refine ⟨a, _, rfl, Evl.ex_t le ha, rfl, _, _, rfl, _, _, rfl, rfl, q _ ((env.set h1).set h2) ⟨by simp, fun k hk => ?_⟩⟩
          have n1 : i ≠ k := fun z => hk (z ▸ hi)
          have n2 : j ≠ k := fun z => hk (z ▸ hj)
          rw [List.getElem?_set_ne n2, List.getElem?_set_ne n1]
  | _ => cases e⟩
theorem wipe_get {σ : L2.St} {k : Nat} : ∀ {vs : List Nat}, (L2.wipe σ vs)[k]? = if k ∈ vs then (if k < σ.length then some none else none) else σ[k]?
  | [] => by simp [L2.wipe]
  | v :: vs => by
    unfold L2.wipe
    by_cases h : v = k
    · subst h
      rw [if_pos (List.mem_cons_self ..)]
      by_cases hl : v < σ.length
      · rw [List.getElem?_set_self (by rw [wipe_length]; exact hl), if_pos hl]
      · rw [if_neg hl, List.getElem?_eq_none (by rw [List.length_set, wipe_length]; omega)]
    · rw [List.getElem?_set_ne h, wipe_get]
      have e : (k ∈ v :: vs) ↔ k ∈ vs := by
        rw [List.mem_cons]
        exact ⟨fun z => z.elim (fun q => absurd q.symm h) id, .inr⟩
      by_cases hk : k ∈ vs
      · rw [if_pos hk, if_pos (e.mpr hk)]
      · rw [if_neg hk, if_neg (fun z => hk (e.mp z))]
theorem wipe_same {σ σ' : L2.St} {vs : List Nat} (h : σ'.length = (L2.wipe σ vs).length ∧ ∀ k, k ∉ vs → σ'[k]? = (L2.wipe σ vs)[k]?) : L2.wipe σ' vs = L2.wipe σ vs := by
  refine List.ext_getElem? fun k => ?_
  rw [wipe_get]
  have hl := h.1
  rw [wipe_length] at hl
  by_cases hk : k ∈ vs
  · rw [if_pos hk, wipe_get, if_pos hk, hl]
  · rw [if_neg hk]
    exact h.2 k hk
/-! list comprehensions -/
def R.nx {α : Type} : R α → R α
  | .ok a => .ok a
  | _ => .bad
theorem R.nx_ok {α : Type} {r : R α} {a : α} (h : r.nx = .ok a) : r = .ok a := by
  cases r with
  | ok b => exact h
  | exc _ _ => cases h
  | bad => cases h
theorem R.bind_okE {α β : Type} {r : R α} {k : α → R β} {b : β} (h : r.bind k = .ok b) : ∃ a, r = .ok a ∧ k a = .ok b := by
  cases r with
  | ok a => exact ⟨a, rfl, h⟩
  | exc _ _ => cases h
  | bad => cases h
def lcL (bd : Bd) (t : DEnv → R Bool) (g : E) (ρ : DEnv) : List D → R (List D)
  | [] => .ok []
  | d :: ds => match bd d ρ with
    | none => .bad
    | some ρ1 => (t ρ1).bind fun b => if b then (g ρ1).bind fun y => (lcL bd t g ρ ds).bind fun ys => .ok (y :: ys) else lcL bd t g ρ ds
def E.lc (vs : List Nat) (bd : Bd) (gi : DEnv → R (List D)) (t : DEnv → R Bool) (g : E) : E := fun ρ => (gi ρ).bind fun ds => (lcL bd t g (wipeD ρ vs) ds).nx.bind fun ys => R.of (if small ys.length then some (.lst ys) else none)
abbrev WF : WX := fun _ _ _ _ => False
abbrev DTs (X : Cx) (C : Nat → Addr) (W : WX) (ifs : List Expr) (g : DEnv → R Bool) : Prop := PTs X ifs (tT C X.K W g)
def T.yes : DEnv → R Bool := fun _ => .ok true
theorem dts_nil : DTs X C W [] T.yes := ⟨fun pins s σ H Q I ⟨F, ρ, le, env, o⟩ => pts_nil.run pins s σ H Q I (o F H (Stp.refl le))⟩
theorem dts_one {t : DEnv → R Bool} (h : DT X C W a t) : DTs X C W [a] t := pts_one h
theorem out_ok {α : Type} {W' : WX} {r : R α} {a : α} {P : α → Hp → Hp → Prop} (e : r = .ok a) (h : ∀ F' H', Stp F H F' H' → P a F' H') : Out C K W' σ F H r P := by
  subst e
  exact h
/-- the comprehension's reading from the data -/
theorem lc_lift {g : TG} {bd : Bd} {vs : List Nat} {gi : DEnv → R (List D)} {t : DEnv → R Bool} (hg : TgOk K g bd vs) (σ : L2.St) (H : Hp) (Q : VK) (h : tE C K W (E.lc vs bd gi t ge) σ H Q) :
    tLc (tI C K W gi) g (tT C K WF t) (tE C K WF ge) vs σ H Q := by
  obtain ⟨F, ρ, le, env, o⟩ := h
  refine ⟨F, ρ, le, env, o.bind.imp fun ds F1 H1 s1 o1 J wk Dl hD => ?_⟩
  have env1 := (env.mono s1.f).wipe vs
  generalize hw : L2.wipe σ vs = σw at *
  generalize hr : wipeD ρ vs = ρw at *
  cases hres : lcL bd t ge ρw ds with
  | bad => rw [hres] at o1; exact o1.elim
  | exc _ _ => rw [hres] at o1; exact o1.elim
  | ok ys =>
    rw [hres] at o1
    obtain ⟨d0, e0, q0⟩ := o1.of_some
    obtain ⟨hsm, e0⟩ := of_if e0
    subst e0
    -- the state at turn i
    refine ⟨fun i m H' => m = ds.length - i ∧ i ≤ ds.length ∧ ∃ Fi us acc rest, Stp F1 H1 Fi H' ∧ Fi Dl = none ∧ H' Dl = some (.lst us) ∧ DvA K Fi us acc ∧ lcL bd t ge ρw (ds.drop i) = .ok rest ∧ ys = acc ++ rest, ⟨ds.length, by simp, Nat.zero_le _, F1, [], [], ys, ?_, ?_, upd_same, .nil, by simpa using hres, rfl⟩, ?_⟩
    · exact ⟨Ex.new hD, Ex.refl _, fun a o z => by rw [upd_ne (fun q => by rw [q] at z; rw [s1.le _ _ z] at hD; cases hD)]; exact s1.le _ _ z, fun a z _ => z⟩
    · exact Evl.fresh_back s1.le hD
    rintro i m H' ⟨rfl, hi, Fi, us, acc, rest, st, fD, hDl, hacc, hrest, hys⟩
    by_cases hlt : i < ds.length
    · have hgo := (wk i Fi H' st.f st.le).1 ds[i] (List.getElem?_eq_getElem hlt)
      refine .inr ⟨hgo.1, fun H' => ∃ m', m' < ds.length - i ∧ (m' = ds.length - (i + 1) ∧ i + 1 ≤ ds.length ∧ ∃ Fi us acc rest, Stp F1 H1 Fi H' ∧ Fi Dl = none ∧ H' Dl = some (.lst us) ∧ DvA K Fi us acc ∧ lcL bd t ge ρw (ds.drop (i + 1)) = .ok rest ∧ ys = acc ++ rest), fun H' z => z, fun x H2 y => ?_⟩
      obtain ⟨F2, st2, hx⟩ := hgo.2 x H2 y
      rw [List.drop_eq_getElem_cons hlt] at hrest
      unfold lcL at hrest
      cases hb : bd ds[i] ρw with
      | none => rw [hb] at hrest; cases hrest
      | some ρ1 =>
        rw [hb] at hrest
        have hrest : ((t ρ1).bind fun b => if b then (ge ρ1).bind fun y => (lcL bd t ge ρw (ds.drop (i + 1))).bind fun ys => .ok (y :: ys) else lcL bd t ge ρw (ds.drop (i + 1))) = .ok rest := hrest
        obtain ⟨bb, ht, hrest⟩ := R.bind_okE hrest
        have f2D : F2 Dl = none := st2.new Dl fD (by rw [hDl]; exact fun z => nomatch z)
        have h2D : H2 Dl = some (.lst us) := st2.h _ _ hDl
        have env2 : EnvR K F2 σw ρw := (env1.mono st.f).mono st2.f
        refine hg.go F2 H2 x σw ρw ds[i] ρ1 _ st2.le env2 hx hb fun σ' env3 hk => ⟨?_, F2, ρ1, st2.le, env3, ?_⟩
        · subst hw
          exact wipe_same hk
        rw [ht]
        intro F3 H3 st3
        have f3D : F3 Dl = none := st3.new Dl f2D (by rw [h2D]; exact fun z => nomatch z)
        have h3D : H3 Dl = some (.lst us) := st3.h _ _ h2D
        cases bb with
        | false =>
          have hrest' : lcL bd t ge ρw (ds.drop (i + 1)) = .ok rest := hrest
          exact ⟨ds.length - (i + 1), by omega, rfl, hlt, F3, us, acc, rest, (st.trans st2).trans st3, f3D, h3D, (hacc.mono st2.f).mono st3.f, hrest', hys⟩
        | true =>
          have hrest' : ((ge ρ1).bind fun y => (lcL bd t ge ρw (ds.drop (i + 1))).bind fun ys => R.ok (y :: ys)) = .ok rest := hrest
          obtain ⟨yy, hy, hrest'⟩ := R.bind_okE hrest'
          obtain ⟨rest2, hr2, hrest'⟩ := R.bind_okE hrest'
          have er : yy :: rest2 = rest := by
            injection hrest'
          refine ⟨F3, ρ1, st3.le, env3.mono st3.f, ?_⟩
          rw [hy]
          intro F4 H4 st4 v hv
          have f4D : F4 Dl = none := st4.new Dl f3D (by rw [h3D]; exact fun z => nomatch z)
          have h4D : H4 Dl = some (.lst us) := st4.h _ _ h3D
          have hlen : us.length = acc.length := hacc.len
          have hle : ys.length ≤ 100000 := of_decide_eq_true hsm
          have hys2 : ys.length = acc.length + (rest2.length + 1) := by rw [hys, ← er]; simp
          refine ⟨us, h4D, Evl.sz_lt (by omega), ds.length - (i + 1), by omega, rfl, hlt, F4, us ++ [v], acc ++ [yy], rest2, ?_, f4D, upd_same, (((hacc.mono st2.f).mono st3.f).mono st4.f).append (.cons hv .nil), hr2, by rw [hys, ← er]; simp⟩
          have s5 := ((st.trans st2).trans st3).trans st4
          exact ⟨Evl.Ex.mut s5.h hD, s5.f, fun a o z => by rw [upd_ne (fun q => by rw [q, f4D] at z; cases z)]; exact s5.le _ _ z, s5.new⟩
    · have ei : i = ds.length := by omega
      subst ei
      refine .inl ⟨(wk _ Fi H' st.f st.le).2 (Nat.le_refl _), ?_⟩
      rw [List.drop_length] at hrest
      have er : ([] : List D) = rest := by injection hrest
      subst er
      rw [List.append_nil] at hys
      subst hys
      refine q0 (upd Fi Dl (.lst us)) H' ⟨st.h, st.f.trans (Ex.new fD), fun a o z => ?_, fun a n m => ?_⟩ _ (.lst (Evl.sq_of upd_same) (hacc.mono (Ex.new fD)))
      · by_cases h : a = Dl
        · subst h
          rw [upd_same] at z
          rw [← z]
          exact hDl
        · rw [upd_ne h] at z
          exact st.le _ _ z
      · rw [upd_ne (fun z => m (by rw [z]; exact hD))]
        exact st.new a n m
theorem de_lc {iter : Expr} {ifs : List Expr} {scope : Scope} {own : List (Str × Nat)} {g : TG} {bd : Bd} {gi : DEnv → R (List D)} {t : DEnv → R Bool} (hc : X.calm = true) (hN : X.N.Nodup) (hi : DI X C W tg iter gi) (ok : BlkOk X.N X.env.scope scope own) (hgo : TgOk X.K g bd (own.map (·.2)))
    (hg : ∀ (s : Shared) (H : Hp) (Ca : Addr) (cl : List (Str × Addr)) (fp : List Addr), PG (X.blk s H scope (compEnvC scope cl Ca X.env) fp) tg g) (ht : ∀ (s : Shared) (H : Hp) (Ca : Addr) (cl : List (Str × Addr)) (fp : List Addr), DTs (X.blk s H scope (compEnvC scope cl Ca X.env) fp) C WF ifs t)
    (he : ∀ (s : Shared) (H : Hp) (Ca : Addr) (cl : List (Str × Addr)) (fp : List Addr), DE (X.blk s H scope (compEnvC scope cl Ca X.env) fp) C WF e ge) (hs : ∀ x, foldedSetIterable iter X.env x = pure x := by intro _; rfl) :
    DE X C W (.ListComp e [⟨tg, iter, ifs, 0⟩] scope pos) (E.lc (own.map (·.2)) bd gi t ge) := pe_weak (pe_lc hc hN hi ok hg ht he hs) (lc_lift hgo)
end
end DL

set_option Elab.async false
set_option linter.all false
set_option maxRecDepth 100000
set_option maxHeartbeats 2000000
/-! statements by data -/
namespace DL
open PySem PySem.Spec PyProof.Rows L2
open Evl (Ex)
inductive RS where
  | nx (ρ : DEnv) | rt (d : D) | bk (ρ : DEnv) | ct (ρ : DEnv) | exc (c : Nat) (g : D) (ρ : DEnv) | bad
def R.toS {α : Type} (r : R α) (ρ : DEnv) (k : α → RS) : RS := match r with
  | .ok a => k a
  | .exc c g => .exc c g ρ
  | .bad => .bad
@[simp] theorem R.toS_ok {α : Type} (a : α) (ρ : DEnv) (k : α → RS) : (R.ok a).toS ρ k = k a := rfl
abbrev Sm := DEnv → RS
section
variable {X : Cx} {K : PySem.W.Frag} {C : Nat → Addr} {W : WX} {a b c e tg : Expr} {ga gb ge : E} {pos p : Pos} {σ : L2.St} {F H F1 H1 : Hp} {st : Stmt} {sts : List Stmt} {s t u : Sm}
def OutS (C : Nat → Addr) (K : PySem.W.Frag) (W : WX) (F H : Hp) (r : RS) (D : Ends) : Prop := match r with
  | .nx ρ => ∀ σ' F' H', Stp F H F' H' → EnvR K F' σ' ρ → D.nx σ' H'
  | .bk ρ => ∀ σ' F' H', Stp F H F' H' → EnvR K F' σ' ρ → D.bk σ' H'
  | .ct ρ => ∀ σ' F' H', Stp F H F' H' → EnvR K F' σ' ρ → D.ct σ' H'
  | .rt d => ∀ v F' H', Stp F H F' H' → Dv K F' v d → D.rt v H'
  | .exc c g ρ => ∀ σ' v F' H' dd, Stp F H F' H' → EnvR K F' σ' ρ → Dv K F' v g → H' dd = some (.xd [(("given" : Str), v)]) → W (.ref (C c)) (some dd) σ' H'
  | .bad => False
def tS (C : Nat → Addr) (K : PySem.W.Frag) (W : WX) (s : Sm) : TS := fun D σ H => ∃ F ρ, Ex F H ∧ EnvR K F σ ρ ∧ OutS C K W F H (s ρ) D
abbrev DS (X : Cx) (C : Nat → Addr) (W : WX) (st : Stmt) (s : Sm) : Prop := PS X st (tS C X.K W s)
abbrev DSs (X : Cx) (C : Nat → Addr) (W : WX) (st : List Stmt) (s : Sm) : Prop := PSs X st (tS C X.K W s)
theorem OutS.mono {r : RS} {D : Ends} (o : OutS C K W F H r D) (m : Stp F H F1 H1) : OutS C K W F1 H1 r D := by
  cases r with
  | nx ρ => exact fun σ' F' H' s => o σ' F' H' (m.trans s)
  | bk ρ => exact fun σ' F' H' s => o σ' F' H' (m.trans s)
  | ct ρ => exact fun σ' F' H' s => o σ' F' H' (m.trans s)
  | rt ρ => exact fun v F' H' s => o v F' H' (m.trans s)
  | exc c g ρ => exact fun σ' v F' H' dd s => o σ' v F' H' dd (m.trans s)
  | bad => exact o
/-- an expression's outcome within a statement -/
theorem OutS.of {α : Type} {r : R α} {ρ : DEnv} {k : α → RS} {D : Ends} (env : EnvR K F σ ρ) (o : OutS C K W F H (r.toS ρ k) D) : Out C K W σ F H r (fun a F1 H1 => OutS C K W F1 H1 (k a) D) := by
  cases r with
  | ok a => exact fun F1 H1 s1 => OutS.mono o s1
  | exc c g => exact fun v F' H' dd st hv hd => o σ v F' H' dd st (env.mono st.f) hv hd
  | bad => exact o
def S.pass : Sm := fun ρ => .nx ρ
def S.set (i : Nat) (g : E) : Sm := fun ρ => (g ρ).toS ρ fun d => .nx (ρ.set i (some d))
def S.ret (g : E) : Sm := fun ρ => (g ρ).toS ρ fun d => .rt d
def S.expr (g : E) : Sm := fun ρ => (g ρ).toS ρ fun _ => .nx ρ
def S.ite (t : DEnv → R Bool) (s u : Sm) : Sm := fun ρ => (t ρ).toS ρ fun b => if b then s ρ else u ρ
def S.seq (s t : Sm) : Sm := fun ρ => match s ρ with
  | .nx ρ' => t ρ'
  | r => r
def S.raise (c : Nat) (g : E) : Sm := fun ρ => (g ρ).toS ρ fun d => .exc c d ρ
theorem dss_nil : DSs X C W [] S.pass := pss_weak pss_nil fun D σ H ⟨F, ρ, le, env, o⟩ => o σ F H (Stp.refl le) env
theorem dss_one (h : DS X C W st s) : DSs X C W [st] s := pss_one h
theorem seq_lift {D : Ends} (h : tS C K W (S.seq s t) D σ H) : tSeq (tS C K W s) (tS C K W t) D σ H := by
  obtain ⟨F, ρ, le, env, o⟩ := h
  refine ⟨F, ρ, le, env, ?_⟩
  unfold S.seq at o
  cases h : s ρ with
  | nx ρ' =>
    rw [h] at o
    exact fun σ' F' H' st env' => ⟨F', ρ', st.le, env', OutS.mono o st⟩
  | rt d => rw [h] at o; exact o
  | bk d => rw [h] at o; exact o
  | ct d => rw [h] at o; exact o
  | exc c g d => rw [h] at o; exact o
  | bad => rw [h] at o; exact o
theorem dss_cons (h : DS X C W st s) (hr : DSs X C W sts t) : DSs X C W (st :: sts) (S.seq s t) := pss_weak (pss_cons h hr) fun D σ H => seq_lift
theorem ds_pass : DS X C W (.Pass pos) S.pass := ps_weak ps_pass fun D σ H ⟨F, ρ, le, env, o⟩ => o σ F H (Stp.refl le) env
theorem ds_break : DS X C W (.Break pos) (fun ρ => .bk ρ) := ps_weak ps_break fun D σ H ⟨F, ρ, le, env, o⟩ => o σ F H (Stp.refl le) env
theorem ds_continue : DS X C W (.Continue pos) (fun ρ => .ct ρ) := ps_weak ps_continue fun D σ H ⟨F, ρ, le, env, o⟩ => o σ F H (Stp.refl le) env
/-- never reached -/
def S.never : Sm := fun _ => .bad
theorem ds_never : DS X C W st S.never := ps_weak ps_never fun D σ H ⟨F, ρ, le, env, o⟩ => o
theorem dss_never : DSs X C W sts S.never := pss_weak pss_never fun D σ H ⟨F, ρ, le, env, o⟩ => o
theorem de_never {te : TE} : True := trivial
theorem set_lift {i : Nat} {D : Ends} (h : tS C K W (S.set i ge) D σ H) : tAsg (tE C K W ge) (gName i) D σ H := by
  obtain ⟨F, ρ, le, env, o⟩ := h
  exact ⟨F, ρ, le, env, (OutS.of env o).imp fun d F1 H1 s1 o1 v hv => o1 _ F1 H1 (Stp.refl s1.le) ((env.mono s1.f).set hv)⟩
theorem ds_set {i : Nat} {x : Str} {pos' : Pos} (he : DE X C W e ge) (hN : X.N.Nodup) (hi : X.N[i]? = some x) (hx : Loc X.env.scope x) (hs : swapsWith e (some (.Name x pos')) pos.line X.env = pure false := by rfl) (hf : X.fn x = true ∨ X.env.scope.names.lookup x = some .local := by first | exact .inl rfl | exact .inr rfl) :
    DS X C W (.Assign [.Name x pos'] e pos) (S.set i ge) := ps_weak (ps_set hN hi hx he hs hf) fun D σ H => set_lift
theorem ds_setLc {i : Nat} {y : Str} {py spos : Pos} {iter : Expr} {ifs : List Expr} {scope : Scope} {own : List (Str × Nat)} {g : TG} {bd : Bd} {gi : DEnv → R (List D)} {t : DEnv → R Bool} (hc : X.calm = true) (hN : X.N.Nodup) (hy : X.N[i]? = some y) (hyl : X.env.scope.names.lookup y = some .local)
    (hsw : swapsWith (.ListComp e [⟨tg, iter, ifs, 0⟩] scope pos) (some (.Name y py)) spos.line X.env = pure true) (hi : DI X C W tg iter gi) (ok : BlkOk X.N X.env.scope scope own) (hgo : TgOk X.K g bd (own.map (·.2)))
    (hg : ∀ (s : Shared) (H : Hp) (Ca : Addr) (cl : List (Str × Addr)) (fp : List Addr), PG (X.blk s H scope (compEnvC scope cl Ca X.env) fp) tg g) (ht : ∀ (s : Shared) (H : Hp) (Ca : Addr) (cl : List (Str × Addr)) (fp : List Addr), DTs (X.blk s H scope (compEnvC scope cl Ca X.env) fp) C WF ifs t)
    (he : ∀ (s : Shared) (H : Hp) (Ca : Addr) (cl : List (Str × Addr)) (fp : List Addr), DE (X.blk s H scope (compEnvC scope cl Ca X.env) fp) C WF e ge) (hs : ∀ x, foldedSetIterable iter X.env x = pure x := by intro _; rfl) :
    DS X C W (.Assign [.Name y py] (.ListComp e [⟨tg, iter, ifs, 0⟩] scope pos) spos) (S.set i (E.lc (own.map (·.2)) bd gi t ge)) := ps_weak (ps_setLc hc hN hy hyl hsw hi ok hg ht he hs) fun D σ H h => by
  have h2 := set_lift h
  exact lc_lift hgo σ H _ h2
theorem ds_ret (he : DE X C W e ge) : DS X C W (.Return (some e) pos) (S.ret ge) := ps_weak (ps_ret he) fun D σ H ⟨F, ρ, le, env, o⟩ =>
  ⟨F, ρ, le, env, (OutS.of env o).imp fun d F1 H1 s1 o1 v hv => o1 v F1 H1 (Stp.refl s1.le) hv⟩
theorem ds_expr (he : DE X C W e ge) (hs : swapsWith e none pos.line X.env = pure false := by rfl) : DS X C W (.Expr e pos) (S.expr ge) := ps_weak (ps_expr he hs) fun D σ H ⟨F, ρ, le, env, o⟩ =>
  ⟨F, ρ, le, env, (OutS.of env o).imp fun d F1 H1 s1 o1 v hv => o1 σ F1 H1 (Stp.refl s1.le) (env.mono s1.f)⟩
theorem ds_if {A B : List Stmt} {tt : DEnv → R Bool} (hc : DT X C W c tt) (ha : DSs X C W A s) (hb : DSs X C W B u) : DS X C W (.If c A B pos) (S.ite tt s u) := ps_weak (ps_if hc ha hb) fun D σ H ⟨F, ρ, le, env, o⟩ =>
  ⟨F, ρ, le, env, (OutS.of env o).imp fun b F1 H1 s1 o1 => by
    cases b with
    | true => exact ⟨F1, ρ, s1.le, env.mono s1.f, o1⟩
    | false => exact ⟨F1, ρ, s1.le, env.mono s1.f, o1⟩⟩
/-- a, b = e (e a tuple at run time) -/
def S.set2 (i j : Nat) (g : E) : Sm := fun ρ => (g ρ).toS ρ fun d => match B.two i j d ρ with
  | some ρ' => .nx ρ'
  | none => .bad
theorem ds_set2 {i j : Nat} {tgt : Expr} (he : DE X C W e ge) (hg : PG X tgt (gTup X.K 2 (gCons (gName i) (gCons (gName j) gNil)))) (hs : swapsWithSole [tgt] e pos.line X.env = pure false := by rfl) (hw : swappedStores [tgt] e X.env = pure none := by rfl)
    (h1 : (assignEach [tgt] X.env).map (·.2) = [assign tgt X.env] := by rfl) : DS X C W (.Assign [tgt] e pos) (S.set2 i j ge) := ps_weak (ps_asg he hg hs hw h1) fun D σ H ⟨F, ρ, le, env, o⟩ =>
  ⟨F, ρ, le, env, (OutS.of env o).imp fun d F1 H1 s1 o1 v hv => by
    cases hb : B.two i j d ρ with
    | none => rw [hb] at o1; exact o1.elim
    | some ρ' =>
      rw [hb] at o1
      exact (tg_two (vs := [i, j]) (by simp) (by simp)).go F1 H1 v σ ρ d ρ' _ s1.le (env.mono s1.f) hv hb fun σ' env' _ => o1 σ' F1 H1 (Stp.refl s1.le) env'⟩
/-- a, b = x, y written -/
def S.par (i j : Nat) (ga gb : E) : Sm := fun ρ => (ga ρ).toS ρ fun x => (gb ρ).toS ρ fun y => .nx ((ρ.set i (some x)).set j (some y))
theorem ds_par {i j : Nat} {x y : Str} {px py pt : Pos} {kt k2 pt2} (hc : X.calm = true) (hN : X.N.Nodup) (hi : X.N[i]? = some x) (hj : X.N[j]? = some y) (hij : i ≠ j)
    (hx : X.env.scope.names.lookup x = some .local) (hy : X.env.scope.names.lookup y = some .local) (ha : DE X C W a ga) (hb : DE X C W b gb) (h1 : starEach (a :: [b]) X.env = (false, eval a X.env) :: starEach [b] X.env := by rfl) (h2 : starEach [b] X.env = (false, eval b X.env) :: starEach [] X.env := by rfl)
    (hw : swappedStores [.Tuple [.Name x px, .Name y py] kt pt] (.Tuple [a, b] k2 pt2) X.env = pure (some [x, y]) := by rfl)
    (hs : swapsWithSole [.Tuple [.Name x px, .Name y py] kt pt] (.Tuple [a, b] k2 pt2) pos.line X.env = pure false := by rfl) :
    DS X C W (.Assign [.Tuple [.Name x px, .Name y py] kt pt] (.Tuple [a, b] k2 pt2) pos) (S.par i j ga gb) := ps_weak (ps_par hc hN hi hj hij hx hy (da_cons ha (da_cons hb da_nil h2) h1) hw hs) fun D σ H ⟨F, ρ, le, env, o⟩ => by
  refine ⟨F, ρ, le, env, ?_⟩
  show Out C X.K W σ F H ((ga ρ).bind fun x => (A.cons gb A.nil ρ).bind fun xs => R.ok (x :: xs)) _
  have o : OutS C X.K W F H ((ga ρ).toS ρ fun x => (gb ρ).toS ρ fun y => .nx ((ρ.set i (some x)).set j (some y))) D := o
  have o1 := OutS.of env o
  cases hx : ga ρ with
  | bad => rw [hx] at o1; exact o1
  | exc _ _ => rw [hx] at o1; exact o1
  | ok x =>
    rw [hx] at o
    have o : OutS C X.K W F H ((gb ρ).toS ρ fun y => .nx ((ρ.set i (some x)).set j (some y))) D := o
    have o2 := OutS.of env o
    show Out C X.K W σ F H (((gb ρ).bind fun x => (R.ok [] : R (List DL.D)).bind fun xs => R.ok (x :: xs)).bind fun xs => R.ok (x :: xs)) _
    cases hy : gb ρ with
    | bad => rw [hy] at o2; exact o2
    | exc _ _ => rw [hy] at o2; exact o2
    | ok y =>
      rw [hy] at o
      intro F1 H1 s1 vs hvs
      cases hvs with
      | cons hv1 t1 =>
        cases t1 with
        | cons hv2 t2 =>
          cases t2
          exact ⟨_, _, rfl, (show ∀ σ' F' H', Stp F H F' H' → EnvR X.K F' σ' ((ρ.set i (some x)).set j (some y)) → D.nx σ' H' from o) _ F1 H1 s1 (((env.mono s1.f).set hv1).set hv2)⟩
/-! loops -/
def forL (bd : Bd) (s : Sm) : List D → Sm
  | [], ρ => .nx ρ
  | d :: ds, ρ => match bd d ρ with
    | none => .bad
    | some ρ1 => match s ρ1 with
      | .nx ρ2 => forL bd s ds ρ2
      | .ct ρ2 => forL bd s ds ρ2
      | .bk ρ2 => .nx ρ2
      | .rt d => .rt d
      | .exc c g ρ2 => .exc c g ρ2
      | .bad => .bad
def S.for (bd : Bd) (gi : DEnv → R (List D)) (s : Sm) : Sm := fun ρ => (gi ρ).toS ρ fun ds => forL bd s ds ρ
theorem for_lift {g : TG} {bd : Bd} {vs : List Nat} {gi : DEnv → R (List D)} (hg : TgOk K g bd vs) {D : Ends} (h : tS C K W (S.for bd gi s) D σ H) : tFor (tI C K W gi) g (tS C K W s) D σ H := by
  obtain ⟨F, ρ, le, env, o⟩ := h
  refine ⟨F, ρ, le, env, (OutS.of env o).imp fun ds F1 H1 s1 o1 J wk => ?_⟩
  refine ⟨fun i m σ' H' => m = ds.length - i ∧ i ≤ ds.length ∧ ∃ Fi ρi, Stp F1 H1 Fi H' ∧ EnvR K Fi σ' ρi ∧ OutS C K W Fi H' (forL bd s (ds.drop i) ρi) D, ⟨ds.length, by simp, Nat.zero_le _, F1, ρ, Stp.refl s1.le, env.mono s1.f, o1⟩, ?_⟩
  rintro i m σi Hi ⟨rfl, hi, Fi, ρi, st, envi, oi⟩
  by_cases hlt : i < ds.length
  · have hgo := (wk i Fi Hi st.f st.le).1 ds[i] (List.getElem?_eq_getElem hlt)
    refine .inr ⟨hgo.1, fun σ' H' => ∃ m', m' < ds.length - i ∧ (m' = ds.length - (i + 1) ∧ i + 1 ≤ ds.length ∧ ∃ Fi ρi, Stp F1 H1 Fi H' ∧ EnvR K Fi σ' ρi ∧ OutS C K W Fi H' (forL bd s (ds.drop (i + 1)) ρi) D), fun σ' H' z => z, fun x H2 y => ?_⟩
    obtain ⟨F2, st2, hx⟩ := hgo.2 x H2 y
    rw [List.drop_eq_getElem_cons hlt] at oi
    unfold forL at oi
    cases hb : bd ds[i] ρi with
    | none => rw [hb] at oi; exact oi.elim
    | some ρ1 =>
      rw [hb] at oi
      refine hg.go F2 H2 x σi ρi ds[i] ρ1 _ st2.le (envi.mono st2.f) hx hb fun σ' env3 hk => ⟨F2, ρ1, st2.le, env3, ?_⟩
      have oi2 := OutS.mono oi st2
      cases hs : s ρ1 with
      | nx ρ2 =>
        simp only [hs] at oi2
        exact fun σ4 F4 H4 st4 env4 => ⟨ds.length - (i + 1), by omega, rfl, hlt, F4, ρ2, (st.trans st2).trans st4, env4, OutS.mono oi2 st4⟩
      | ct ρ2 =>
        simp only [hs] at oi2
        exact fun σ4 F4 H4 st4 env4 => ⟨ds.length - (i + 1), by omega, rfl, hlt, F4, ρ2, (st.trans st2).trans st4, env4, OutS.mono oi2 st4⟩
      | bk ρ2 =>
        simp only [hs] at oi2
        exact oi2
      | rt d =>
        simp only [hs] at oi2
        exact oi2
      | exc c g ρ2 =>
        simp only [hs] at oi2
        exact oi2
      | bad =>
        simp only [hs] at oi2
        exact oi2
  · have ei : i = ds.length := by omega
    subst ei
    rw [List.drop_length] at oi
    exact .inl ⟨(wk _ Fi Hi st.f st.le).2 (Nat.le_refl _), oi σi Fi Hi (Stp.refl st.le) envi⟩
theorem ds_for {iter : Expr} {body : List Stmt} {g : TG} {bd : Bd} {vs : List Nat} {gi : DEnv → R (List D)} (hg : TgOk X.K g bd vs) (hp : PassesOwn (model X.prog X.w) X.A X.env X.xe) (hc : X.calm = true) (hi : DI X C W tg iter gi) (hgt : PG X tg g) (hb : DSs X C W body s)
    (hs : ∀ x, foldedSetIterable iter X.env x = pure x := by intro _; rfl) : DS X C W (.For tg iter body [] pos) (S.for bd gi s) := ps_weak (ps_for hp hc hi hgt hb hs) fun D σ H => for_lift hg
end
end DL

set_option Elab.async false
set_option linter.all false
set_option maxRecDepth 100000
set_option maxHeartbeats 2000000
/-! defs, errors by data -/
namespace DL
open PySem PySem.Spec PyProof.Rows L2
open Evl (Ex)
section
variable {X : Cx} {K : PySem.W.Frag} {C : Nat → Addr} {W : WX} {a b c e tg : Expr} {ga gb ge : E} {pos p : Pos} {σ : L2.St} {F H F1 H1 : Hp} {st : Stmt} {sts : List Stmt} {s t u : Sm}
/-! ### defs -/
def RS.fin : RS → R D
  | .nx _ => .ok .non
  | .rt d => .ok d
  | .exc c g _ => .exc c g
  | _ => .bad
def begin (n m : Nat) (ds : List D) : DEnv := ds.map some ++ List.replicate (m - n) none
def runD (n m : Nat) (body : Sm) (ds : List D) : R D := if ds.length = n then (body (begin n m ds)).fin else .bad
theorem runD_len {n m : Nat} {body : Sm} (ds : List D) (h : ds.length ≠ n) : runD n m body ds = .bad := if_neg h
theorem begin_env {N : List Str} {vs : List V} {ds : List D} (h : DvA K F vs ds) : EnvR K F (L2.start N vs) (begin vs.length N.length ds) := by
  unfold L2.start begin
  refine ⟨by simp [h.len], fun i d hi => ?_⟩
  by_cases hl : i < ds.length
  · rw [List.getElem?_append_left (by rw [List.length_map]; exact hl), List.getElem?_map] at hi
    obtain ⟨d', h1, h2⟩ := Option.map_eq_some_iff.mp hi
    cases h2
    obtain ⟨v, h3, h4⟩ := h.get h1
    refine ⟨v, ?_, h4⟩
    rw [List.getElem?_append_left (by rw [List.length_map, h.len]; exact hl), List.getElem?_map, h3]
    rfl
  · rw [List.getElem?_append_right (by rw [List.length_map]; omega), List.getElem?_replicate] at hi
    split at hi <;> cases hi
theorem fn_d {P : Program} {w : World} {mg : Str → Option Value} {base : Heap} {x qual : Str} {f : Addr} {fd : FuncData} {N ps : List Str} {k : Nat} {body : Sm} (Fn : Fun K x qual st f fd) (S : FnScope N ps (defScope st))
    (hbody : ∀ (cdv : Value) (A : Around) (outer : List PySem.Env) (s : Shared) (H : Hp) (E : XK), Room k (A.deeper (envOfC qual (defScope st) s.heap.objs.size f cdv)) → DSs (cxOf (L2.CX P w) P w K mg base N qual (defScope st) f cdv A outer s H E) C (fun cls d _ H' => E cls d H') (defBody st) body) :
    FnOk P w K mg base (L2.CX P w) (k + 1) f fd ps (spD C K ps.length (runD ps.length N.length body)) := by
  refine Fun.okX Fn S (fun vs H Q E h => h.1) fun cdv A outer s H vs Q E hr h => ⟨_, hbody cdv A outer s H E hr, ?_⟩
  obtain ⟨hl, F, ds, le, hd, o⟩ := h
  have hds : ds.length = ps.length := by rw [← hd.len]; exact hl
  have env := begin_env (N := N) hd
  rw [hl] at env
  refine ⟨F, begin ps.length N.length ds, le, env, ?_⟩
  unfold runD at o
  rw [if_pos hds] at o
  show OutS C K (fun cls d _ H' => E cls d H') F H (body (begin ps.length N.length ds)) { nx := fun _ H' => Q .non H', rt := Q }
  cases hb : body (begin ps.length N.length ds) with
  | nx ρ => rw [hb] at o; exact fun σ' F' H' st _ => o F' H' st .non .non
  | rt d => rw [hb] at o; exact fun v F' H' st hv => o F' H' st v hv
  | bk ρ => rw [hb] at o; exact o.elim
  | ct ρ => rw [hb] at o; exact o.elim
  | bad => rw [hb] at o; exact o.elim
  | exc c g ρ => rw [hb] at o; exact fun σ' v F' H' dd st _ hv hd' => o v F' H' dd st hv hd'
/-- what a def's body takes for its errors -/
theorem takesE {P : Program} {w : World} {mg : Str → Option Value} {base : Heap} {N : List Str} {qual : Str} {sc : Scope} {f : Addr} {cdv : Value} {A : Around} {outer : List PySem.Env} {s : Shared} {H : Hp} {E : XK} :
    Takes (cxOf (L2.CX P w) P w K mg base N qual sc f cdv A outer s H E) (fun cls d _ H' => E cls d H') := takes_of rfl rfl rfl rfl
/-! ### a call by a keyword alone -/
def tCallS1 (sp : Sp) (E : L2.St → XK) (t : TE) : TE := fun σ H Q => t σ H fun x H1 => sp [x] H1 Q (E σ)
theorem pe_callK1 {x kn : Str} {k : Nat} {fa : Addr} {fd : FuncData} {sp : Sp} {E : L2.St → XK} {te : TE} {kp : Pos} (Fn : FnOk X.prog X.w X.K X.mg X.base (L2.CX X.prog X.w) k fa fd [kn] sp) (hr : Room k X.A) (hg : Gl X x) (hm : X.mg x = some (.ref fa)) (hk : PySem.W.keepIn X.K (.ref fa) = true)
    (hb : ∀ (s : Shared) (u : Value), X.K.In s.heap → BindsTo s fd ⟨[], [(kn, u)]⟩ [(kn, u)]) (hx : ∀ σ, PassesAt (L2.CX X.prog X.w) X σ (E σ)) (ha : PE X e te) (hdb : (x == ("__debug__" : Str)) = false := by decide)
    (hall : (backToKw pos (keywordEach [⟨some kn, e, kp⟩] X.env)).all (·.1.isSome) = true := by rfl) (hks : (backToKw pos (keywordEach [⟨some kn, e, kp⟩] X.env)).filterMap (·.1) = [kn] := by rfl)
    (hpl : ((backTo pos (starEach [] X.env)).any (·.1) || (backToKw pos (keywordEach [⟨some kn, e, kp⟩] X.env)).any (·.1.isNone)) = false := by rfl) :
    PE X (.Call (.Name x p) [] [⟨some kn, e, kp⟩] pos) (tCallS1 sp E te) := by
  refine ⟨fun pins s σ H Q I h => ?_⟩
  refine wpAny_Call_Name_kw (ld_glob I hg hm ?_ hdb)
  refine PySem.W.callWith_KW0 (h₀ := X.base) I.ok.mod.kin hk hall ?_ hpl
  have hkw : PK X [⟨some kn, e, kp⟩] (fun σ H Q' => te σ H fun x H1 => Q' [x] H1) := pk_cons ha pk_nil
  refine thn (hkw.run pos pins s σ H (fun zs H2 => match zs with | [v] => sp [v] H2 Q (E σ) | _ => False) I h) fun ws s2 ⟨zs, H2, I2, rz, q2⟩ => ⟨I2.kIn, ?_⟩
  rw [hks]
  cases zs with
  | nil => exact q2.elim
  | cons v t =>
    cases t with
    | cons _ _ => exact q2.elim
    | nil =>
      cases rz with
      | @cons _ u _ _ r rr =>
        cases rr
        have b := hb s2 u I2.kIn
        refine wpAny_call (codeAny_mono (Fn.run X.A X.stack s2 H2 ⟨[], [(kn, u)]⟩ [u] [v] Q (E σ) hr I2.env0 b (.cons r .nil) q2) fun r s' hq => ?_)
        cases r with
        | error e => exact hx σ pins H2 s2 e s' I2 hq
        | ok fl =>
          cases fl with
          | ret u => exact I2.after hq
          | next => exact False.elim hq
          | brk => exact False.elim hq
          | cont => exact False.elim hq
def E.call1 (f : List D → R D) (ga : E) : E := fun ρ => (ga ρ).bind fun x => f [x]
theorem de_callK {x kn : Str} {k : Nat} {fa : Addr} {fd : FuncData} {f : List D → R D} {kp : Pos} (Fn : FnOk X.prog X.w X.K X.mg X.base (L2.CX X.prog X.w) k fa fd [kn] (spD C X.K 1 f)) (hr : Room k X.A) (hg : Gl X x) (hm : X.mg x = some (.ref fa)) (hk : PySem.W.keepIn X.K (.ref fa) = true)
    (hb : ∀ (s : Shared) (u : Value), X.K.In s.heap → BindsTo s fd ⟨[], [(kn, u)]⟩ [(kn, u)]) (tk : Takes X W) (ha : DE X C W e ge) (hdb : (x == ("__debug__" : Str)) = false := by decide)
    (hall : (backToKw pos (keywordEach [⟨some kn, e, kp⟩] X.env)).all (·.1.isSome) = true := by rfl) (hks : (backToKw pos (keywordEach [⟨some kn, e, kp⟩] X.env)).filterMap (·.1) = [kn] := by rfl)
    (hpl : ((backTo pos (starEach [] X.env)).any (·.1) || (backToKw pos (keywordEach [⟨some kn, e, kp⟩] X.env)).any (·.1.isNone)) = false := by rfl) :
    DE X C W (.Call (.Name x p) [] [⟨some kn, e, kp⟩] pos) (E.call1 f ge) := pe_weak (pe_callK1 Fn hr hg hm hk hb (fun σ => passAt tk σ) ha hdb hall hks hpl) fun σ H Q ⟨F, ρ, le, env, o⟩ =>
  ⟨F, ρ, le, env, o.bind.imp fun x F1 H1 s1 o1 v hv => ⟨rfl, F1, [x], s1.le, .cons hv .nil, o1.atw⟩⟩
/-! ### errors -/
/-- the promise of __init__(self, given) -/
def spI (C : Addr) : Sp := fun vs H Q _ => ∃ a v, vs = [.ref a, v] ∧ H a = some (exo a C none) ∧ ∀ dx, H dx = none → dx ≠ a → Q .non (upd (upd H dx (exd dx [(("given" : Str), v)])) a (exo a C (some dx)))
/-- what a made error's class must be -/
structure ErrC (K : PySem.W.Frag) (mg : Str → Option Value) (x : Str) (Ca fI : Addr) : Prop where
  oex : OexC K Ca
  iC : PySem.W.findIn K (.ref Ca) "__init__" = some (some (.ref fI))
  tI : PySem.W.typeIn K (.ref fI) = some (.type "function")
  no : PySem.W.findIn K (.ref Ca) "given" = some none
  mg : mg x = some (.ref Ca)
theorem xd_eq {H : Hp} {a dx : Addr} {o1 o2 o3 o4 : HO} (ha : H a = none) (hne : dx ≠ a) : upd (del (upd (upd (upd H a o1) dx o2) a o3) a) dx o4 = upd H dx o4 := by
  funext b
  by_cases h1 : b = dx
  · subst h1
    rw [upd_same, upd_same]
  · rw [upd_ne h1, upd_ne h1]
    by_cases h2 : b = a
    · subst h2
      rw [del_same, ha]
    · rw [del_ne h2, upd_ne h2, upd_ne h1, upd_ne h2]
theorem ds_raise {x : Str} {k i : Nat} {fI : Addr} {fd : FuncData} {pos2 : Pos} (T : ErrC X.K X.mg x (C i) fI) (Fn : FnOk X.prog X.w X.K X.mg X.base (L2.CX X.prog X.w) k fI fd ["self", "given"] (spI (C i))) (hr : Room (k + 1) X.A) (hb : Binds X.K fd ["self", "given"] []) (hg : Gl X x) (hc : X.calm = true) (tk : Takes X W)
    (ha : DE X C W e ge) (hdb : (x == ("__debug__" : Str)) = false := by decide) (he : starEach (e :: []) X.env = (false, eval e X.env) :: starEach [] X.env := by rfl) (hpl : (backTo pos (starEach [] X.env)).any (·.1) = false := by rfl) :
    DS X C W (.Raise (some (.Call (.Name x p) [e] [] pos)) none pos2) (S.raise i ge) := ps_weak (ps_raise hc tk (pmk_oex T.oex T.iC T.tI Fn hr hb .nil passL hg T.mg (pa_cons ha pa_nil he) hdb he hpl)) fun D σ H ⟨F, ρ, le, env, o⟩ => by
  refine ⟨F, ρ, le, env, (OutS.of env o).imp fun d F1 H1 s1 o1 v hv => ⟨by show 1 ≤ 1000; decide, fun a hn => ⟨a, v, rfl, upd_same, fun dx hdx hne => ⟨rfl, dx, [(("given" : Str), v)], upd_same, ?_, ?_, ?_⟩⟩⟩⟩
  · rw [upd_ne hne, upd_same]
  · rw [upd_ne hne] at hdx
    exact hdx
  · rw [xd_eq hn hne]
    rw [upd_ne hne] at hdx
    exact o1 σ v F1 _ dx ⟨Ex.new hdx, Ex.refl _, s1.le.trans (Ex.new hdx), fun a n _ => n⟩ (env.mono s1.f) hv upd_same
end
end DL

set_option Elab.async false
set_option linter.all false
set_option maxRecDepth 100000
set_option maxHeartbeats 2000000
/-! except by data -/
namespace DL
open PySem PySem.Spec PyProof.Rows L2
open Evl (Ex)
section
variable {X : Cx} {K : PySem.W.Frag} {C : Nat → Addr} {W : WX} {a b c e tg : Expr} {ga gb ge : E} {pos p : Pos} {σ : L2.St} {F H F1 H1 : Hp} {st : Stmt} {sts : List Stmt} {s t u : Sm}
/-- __init__ keeps its promise -/
theorem ok_init {P : Program} {w : World} {mg : Str → Option Value} {base : Heap} {x qual : Str} {Ca fI : Addr} {fd : FuncData} {p1 p2 p3 p4 : Pos} (T : ErrC K mg x Ca fI) (Fn : Fun K "__init__" qual st fI fd) (S : FnScope ["self", "given"] ["self", "given"] (defScope st))
    (hb : defBody st = [.Assign [.Attribute (.Name "self" p1) "given" p2] (.Name "given" p3) p4]) : FnOk P w K mg base (L2.CX P w) 1 fI fd ["self", "given"] (spI Ca) := by
  refine Fun.okX Fn S (fun vs H Q E h => by obtain ⟨a, v, rfl, _⟩ := h; rfl) fun cdv A outer s H vs Q E hr h => ?_
  rw [hb]
  have v0 : Vis (defScope st) "self" := (S.par "self" (by simp)).elim .inl fun q => .inr (.inl q)
  have v1 : Vis (defScope st) "given" := (S.par "given" (by simp)).elim .inl fun q => .inr (.inl q)
  refine ⟨_, pss_one (ps_ost (pe_var (i := 0) rfl v0) (pe_var (i := 1) rfl v1)), ?_⟩
  obtain ⟨a, v, rfl, ha, q⟩ := h
  exact ⟨v, rfl, .ref a, rfl, a, Ca, rfl, T.oex, T.no, .inl ⟨ha, fun dx hdx hne => q dx hdx hne⟩⟩
/-- what is asked of a caught error's class -/
structure CatC (K : PySem.W.Frag) (D : Addr) : Prop where
  ex : ExcC K D
  no : PySem.W.findIn K (.ref D) "given" = some none
theorem CatC.xf {D : Addr} (T : CatC K D) : XfC K D := ⟨T.ex.hg, T.ex.hk, T.ex.hs, T.ex.hd⟩
def rIsE2 (K : PySem.W.Frag) (D a dd Cw : Addr) (k : Bool) : List V → Hp → VK → Prop := fun xs H Q => xs = [.ref a, .ref Cw] ∧ (∃ fs, H dd = some (.xd fs)) ∧ Q (.bl k) H
theorem call_isE2 {ad D dd Cw : Addr} {oe : Obj} {pn : List (Addr × Obj)} {k : Bool} (T : ExcC X.K D) (hz : Zc (.ref D) (some dd) oe) (hf : ∃ vs, oe.data = .fields vs) (hk : PySem.W.kitOne X.K (.ref D) (.ref Cw) = some k) :
    CallR (X.suite ad ((ad, oe) :: pn)) (.builtin "isinstance") (rIsE2 X.K D ad dd Cw k) := by
  intro pins s σ H xs us Q I r h
  obtain ⟨rfl, ⟨fs, hd⟩, q⟩ := h
  cases r with
  | cons rx rr =>
    cases rr with
    | cons rt rr =>
      cases rr
      cases rx
      cases rt
      obtain ⟨hget, _⟩ := I.pin (ad, oe) (List.mem_append.mpr (.inl List.mem_cons_self))
      obtain ⟨vs, hv⟩ := hf
      have hx : ObjOk X.prog X.w H s.heap dd (.xd fs) := I.hok dd _ hd
      obtain ⟨mA, hns, hr⟩ := hx
      obtain ⟨od, ho, hl⟩ := lookIn_ns hns
      have J : PySem.W.InstAt s.heap ad oe D (some od) := ⟨hget, hz.1, by unfold PySem.W.notCls; rw [hv] <;> rfl, by rw [hz.2]; exact ho⟩
      have hcl : (PySem.W.clsIn X.K D).isSome = true := by
        obtain ⟨cd, hc, _⟩ := PySem.W.any_some T.hd
        rw [hc]
        rfl
      exact PySem.W.kia_one (PySem.W.kitx_exc hcl T.hg T.hk T.hs T.ha T.hn T.ht T.hm) I.kIn J hk (fun z => nomatch z) fun tk => ⟨.bl k, H, I.kept (t' := tk) fun _ _ z => z, rfl, q⟩
/-- [k1, n.given] if isinstance(n, Cls) else [k2, None] -/
def handV (k1 k2 : Str) (v : V) (k : Bool) : List V := if k then [.str k1, v] else [.str k2, .non]
def tHand (K : PySem.W.Frag) (i : Nat) (ad : Addr) (cls : Value) (d : Option Addr) (Cw : Addr) (k1 k2 : Str) : TE := fun σ H Q => σ[i]? = some (some (.ref ad)) ∧ ∃ D dd v k, cls = .ref D ∧ d = some dd ∧ H dd = some (.xd [(("given" : Str), v)]) ∧ CatC K D ∧
  PySem.W.kitOne K (.ref D) (.ref Cw) = some k ∧ ∀ q, H q = none → Q (.ref q) (upd H q (.lst (handV k1 k2 v k)))
theorem pe_hand {i : Nat} {ad Cw : Addr} {oe : Obj} {cls : Value} {d : Option Addr} {pn : List (Addr × Obj)} {n x k1 k2 : Str} {p0 p1 p2 p3 p4 p5 p6 p7 p8 p9 p10 p11 : Pos} {j1 j2 j3} (hz : Zc cls d oe) (hf : ∃ vs, oe.data = .fields vs)
    (hn : PE (X.suite ad ((ad, oe) :: pn)) (.Name n p1) (tVar i)) (hn2 : PE (X.suite ad ((ad, oe) :: pn)) (.Name n p4) (tVar i)) (hg : Gl X "isinstance") (hmi : X.mg "isinstance" = none) (hgx : Gl X x) (hmx : X.mg x = some (.ref Cw)) (hdx : (x == ("__debug__" : Str)) = false := by decide)
    (hb : attributeBase (.Name n p4) "given" X.env (eval (.Name n p4) X.env) = eval (.Name n p4) X.env := by rfl) :
    PE (X.suite ad ((ad, oe) :: pn)) (.IfExp (.Call (.Name "isinstance" p0) [.Name n p1, .Name x p2] [] p7) (.List [.Constant (.str k1) j1 p3, .Attribute (.Name n p4) "given" p5] p8) (.List [.Constant (.str k2) j2 p9, .Constant .none j3 p6] p10) p11) (tHand X.K i ad cls d Cw k1 k2) := by
  refine ⟨fun pins s σ H Q I h => ?_⟩
  obtain ⟨hi, D, dd, v, k, rfl, rfl, hd, T, hk, q⟩ := h
  have hc : PE (X.suite ad ((ad, oe) :: pn)) (.Name x p2) (tC (.ref Cw)) := pe_glob hgx hmx rfl hdx
  have ht := pe_ifExp (pos := p11) (pt_val (pe_callB (p := p0) (pos := p7) (call_isE2 T.ex hz hf hk) hg hmi (by decide +kernel) (pa_cons hn (pa_cons hc pa_nil))))
    (pe_lst (pos := p8) (pa_cons (pe_str (x := k1) (j := j1) (pos := p3)) (pa_cons (pe_xf (pos := p5) T.xf T.no hz hf hn2 hb) pa_nil))) (pe_lst (pos := p10) (pa_cons (pe_str (x := k2) (j := j2) (pos := p9)) (pa_cons (pe_non (j := j3) (pos := p6)) pa_nil)))
  refine ht.run pins s σ H Q I ?_
  refine ⟨.ref ad, hi, rfl, ⟨_, hd⟩, k, rfl, ?_⟩
  cases k with
  | true => exact ⟨.ref ad, hi, rfl, rfl, dd, _, v, rfl, hd, rfl, by show 2 ≤ sizeLine; decide, q⟩
  | false => exact ⟨by show 2 ≤ sizeLine; decide, q⟩
/-- try: body, except Base as n: <one statement of that form>: which class is the named one -/
def handD (k1 k2 : Str) (cw : Nat → Bool) (c : Nat) (g : D) : D := .lst (if cw c then [.str k1, g] else [.str k2, .non])
def S.try (s : Sm) (i : Nat) (ok : Nat → Bool) (h : Nat → D → Sm) : Sm := fun ρ => match s ρ with
  | .exc c g ρ' => if ok c && decide (i < ρ'.length) then h c g (ρ'.set i none) else .bad
  | r => r
/-- the program's errors: all of them under the caught base; which is the asked class -/
structure Errs (K : PySem.W.Frag) (C : Nat → Addr) (Cb Cw : Addr) (cw : Nat → Bool) (ok : Nat → Bool) : Prop where
  cat : ∀ c, ok c = true → CatC K (C c)
  under : ∀ c, ok c = true → PySem.W.exmOne K (.ref (C c)) (.ref Cb) = some true
  asked : ∀ c, ok c = true → PySem.W.kitOne K (.ref (C c)) (.ref Cw) = some (cw c)
def hSet (k1 k2 : Str) (cw : Nat → Bool) (j : Nat) : Nat → D → Sm := fun c g ρ => .nx (ρ.set j (some (handD k1 k2 cw c g)))
def hRet (k1 k2 : Str) (cw : Nat → Bool) : Nat → D → Sm := fun c g _ => .rt (handD k1 k2 cw c g)
theorem hand_dv {k1 k2 : Str} {cw : Nat → Bool} {c : Nat} {g : D} {v : V} {q : Addr} (le : Ex F H) (hq : H q = none) (hv : Dv K F v g) : Dv K (upd F q (.lst (handV k1 k2 v (cw c)))) (.ref q) (handD k1 k2 cw c g) := by
  unfold handD
  refine put_lst le hq ?_
  unfold handV
  cases cw c with
  | true => exact .cons (.str _) (.cons hv .nil)
  | false => exact .cons (.str _) (.cons .non .nil)
theorem try_lift {i : Nat} {Cb : Addr} {ok : Nat → Bool} {hd : Nat → D → Sm} {ts : Addr → Value → Option Addr → TS} {Dn : Ends} (under : ∀ c, ok c = true → PySem.W.exmOne K (.ref (C c)) (.ref Cb) = some true)
    (hh : ∀ c g ρ' σ' v F' H' dd ad, ok c = true → i < σ'.length → Ex F' H' → EnvR K F' σ' ρ' → Dv K F' v g → H' dd = some (.xd [(("given" : Str), v)]) → H' ad = none → OutS C K W F' H' (hd c g (ρ'.set i none)) Dn →
      ts ad (.ref (C c)) (some dd) { nx := fun σ' H' => Dn.nx (σ'.set i none) H', rt := Dn.rt, bk := fun σ' H' => Dn.bk (σ'.set i none) H', ct := fun σ' H' => Dn.ct (σ'.set i none) H' } (σ'.set i (some (.ref ad))) H')
    (h : tS C K W (S.try s i ok hd) Dn σ H) : tS C K (wAs K (.ref Cb) i ts W Dn) s Dn σ H := by
  obtain ⟨F, ρ, le, env, o⟩ := h
  refine ⟨F, ρ, le, env, ?_⟩
  unfold S.try at o
  cases hs : s ρ with
  | exc c g ρ' =>
    rw [hs] at o
    have o : OutS C K W F H (if ok c && decide (i < ρ'.length) then hd c g (ρ'.set i none) else .bad) Dn := o
    cases hok : ok c && decide (i < ρ'.length) with
    | false => rw [hok] at o; exact o.elim
    | true =>
      rw [hok] at o
      rw [Bool.and_eq_true] at hok
      intro σ' v F' H' dd st env' hv hd'
      exact ⟨true, under c hok.1, fun _ ad had => hh c g ρ' σ' v F' H' dd ad hok.1 (by rw [env'.len]; exact of_decide_eq_true hok.2) st.le env' hv hd' had (OutS.mono o st), fun z => nomatch z⟩
  | nx ρ' => rw [hs] at o; exact o
  | rt ρ' => rw [hs] at o; exact o
  | bk ρ' => rw [hs] at o; exact o
  | ct ρ' => rw [hs] at o; exact o
  | bad => rw [hs] at o; exact o
section
variable {n xb x k1 k2 y : Str} {i j : Nat} {Cb Cw : Addr} {cw ok : Nat → Bool} {np pos' p0 p1 p2 p3 p4 p5 p6 p7 p8 p9 p10 p11 p12 p13 : Pos} {j1 j2 j3 : Nat}
theorem ds_tryRet (Er : Errs X.K C Cb Cw cw ok) (hs : X.stack = X.env :: X.outer) (hf : X.env.frame = some X.env.locals) (hN : X.N.Nodup) (hi : X.N[i]? = some n) (hln : X.env.kindOf n = some .local) (hc : Names X xb (.ref Cb))
    (tk : Takes X W) (hb : ∀ (W' : WX) (pn : List (Addr × Obj)) (xe : Value → Shared → Prop), Takes (X.tr pn xe) W' → PassesOwn (model X.prog X.w) X.A X.env xe → DSs (X.tr pn xe) C W' sts s)
    (hg : Gl X "isinstance") (hmi : X.mg "isinstance" = none) (hgx : Gl X x) (hmx : X.mg x = some (.ref Cw)) (hdx : (x == ("__debug__" : Str)) = false := by decide) (hdn : (n == ("__debug__" : Str)) = false := by decide) (hdc : (n == ("__classdict__" : Str)) = false := by decide)
    (hba : attributeBase (.Name n p4) "given" X.env (eval (.Name n p4) X.env) = eval (.Name n p4) X.env := by rfl) :
    DS X C W (.Try sts [.ExceptHandler (some (.Name xb np)) (some n) [.Return (some (.IfExp (.Call (.Name "isinstance" p0) [.Name n p1, .Name x p2] [] p7) (.List [.Constant (.str k1) j1 p3, .Attribute (.Name n p4) "given" p5] p8) (.List [.Constant (.str k2) j2 p9, .Constant .none j3 p6] p10) p11)) p12] pos'] [] [] pos)
      (S.try s i ok (hRet k1 k2 cw)) := by
  refine ps_weak (ps_try_as (tb := fun W' => tS C X.K W' s) (ts := fun a cls d => tRet (tHand X.K i a cls d Cw k1 k2)) hs hf hN hi hln hc tk hb fun a oe cls d pn hz hf' => pss_one (ps_ret (pe_hand hz hf' (pe_var hi (.inl hln) hdn hdc) (pe_var hi (.inl hln) hdn hdc) hg hmi hgx hmx hdx hba))) fun Dn σ H => try_lift Er.under ?_
  intro c g ρ' σ' v F' H' dd ad hok hlt le env hv hd had o
  exact ⟨List.getElem?_set_self hlt, C c, dd, v, cw c, rfl, rfl, hd, Er.cat c hok, Er.asked c hok, fun q hq => o _ _ _ (Stp.add le hq) (hand_dv le hq hv)⟩
theorem ds_trySet (Er : Errs X.K C Cb Cw cw ok) (hs : X.stack = X.env :: X.outer) (hf : X.env.frame = some X.env.locals) (hN : X.N.Nodup) (hi : X.N[i]? = some n) (hln : X.env.kindOf n = some .local) (hc : Names X xb (.ref Cb))
    (tk : Takes X W) (hb : ∀ (W' : WX) (pn : List (Addr × Obj)) (xe : Value → Shared → Prop), Takes (X.tr pn xe) W' → PassesOwn (model X.prog X.w) X.A X.env xe → DSs (X.tr pn xe) C W' sts s)
    (hg : Gl X "isinstance") (hmi : X.mg "isinstance" = none) (hgx : Gl X x) (hmx : X.mg x = some (.ref Cw)) (hj : X.N[j]? = some y) (hyl : X.env.scope.names.lookup y = some .local) (hij : i ≠ j) (hdx : (x == ("__debug__" : Str)) = false := by decide) (hdn : (n == ("__debug__" : Str)) = false := by decide) (hdc : (n == ("__classdict__" : Str)) = false := by decide)
    (hba : attributeBase (.Name n p4) "given" X.env (eval (.Name n p4) X.env) = eval (.Name n p4) X.env := by rfl)
    (hsw : swapsWith (.IfExp (.Call (.Name "isinstance" p0) [.Name n p1, .Name x p2] [] p7) (.List [.Constant (.str k1) j1 p3, .Attribute (.Name n p4) "given" p5] p8) (.List [.Constant (.str k2) j2 p9, .Constant .none j3 p6] p10) p11) (some (.Name y p13)) p12.line X.env = pure false := by rfl) :
    DS X C W (.Try sts [.ExceptHandler (some (.Name xb np)) (some n) [.Assign [.Name y p13] (.IfExp (.Call (.Name "isinstance" p0) [.Name n p1, .Name x p2] [] p7) (.List [.Constant (.str k1) j1 p3, .Attribute (.Name n p4) "given" p5] p8) (.List [.Constant (.str k2) j2 p9, .Constant .none j3 p6] p10) p11) p12] pos'] [] [] pos)
      (S.try s i ok (hSet k1 k2 cw j)) := by
  refine ps_weak (ps_try_as (tb := fun W' => tS C X.K W' s) (ts := fun a cls d => tAsg (tHand X.K i a cls d Cw k1 k2) (gName j)) hs hf hN hi hln hc tk hb fun a oe cls d pn hz hf' => pss_one (ps_set (X := X.suite a ((a, oe) :: pn)) hN hj (.inl hyl) (pe_hand hz hf' (pe_var hi (.inl hln) hdn hdc) (pe_var hi (.inl hln) hdn hdc) hg hmi hgx hmx hdx hba) hsw (.inr hyl))) fun Dn σ H => try_lift Er.under ?_
  intro c g ρ' σ' v F' H' dd ad hok hlt le env hv hd had o
  refine ⟨List.getElem?_set_self hlt, C c, dd, v, cw c, rfl, rfl, hd, Er.cat c hok, Er.asked c hok, fun q hq => ?_⟩
  show Dn.nx (((σ'.set i (some (.ref ad))).set j (some (.ref q))).set i none) _
  rw [List.set_comm _ _ hij.symm, List.set_set]
  exact o _ _ _ (Stp.add le hq) ((env.del.mono (Stp.add (o := .lst _) le hq).f).set (hand_dv le hq hv))
end
end
end DL

set_option Elab.async false
set_option linter.all false
set_option maxRecDepth 100000
set_option maxHeartbeats 2000000
/-! dicts by data -/
namespace DL
open PySem PySem.Spec PyProof.Rows L2
open Evl (Ex)
section
variable {X : Cx} {K : PySem.W.Frag} {C : Nat → Addr} {W : WX} {a b c e tg : Expr} {ga gb ge : E} {pos p : Pos} {σ : L2.St} {F H F1 H1 : Hp} {st : Stmt} {sts : List Stmt} {s t u : Sm}
/-- a module's constant that is data -/
theorem de_glob {x : Str} {v : V} {u : Value} {d : D} (hg : Gl X x) (hm : X.mg x = some u) (r : RelV v u) (hd : ∀ F, Dv X.K F v d) (hdb : (x == ("__debug__" : Str)) = false := by decide) : DE X C W (.Name x pos) (E.k d) := de_c (pe_glob hg hm r hdb) hd
/-! ### written dicts with text keys -/
structure KTab (K : PySem.W.Frag) (w : World) (d : Addr) (tbl : Str → Option D) (miss : List Str) : Prop where
  kd : ∃ es n, KDict K w d es n
  at_ : ∀ z x, tbl z = some x → ∃ u v, PySem.W.nsIn K d z = some (some u) ∧ RelV v u ∧ ∀ F, Dv K F v x
  no : ∀ z, z ∈ miss → PySem.W.nsIn K d z = some none
def kixD (tbl : Str → Option D) : D → Option D
  | .str z => tbl z
  | _ => none
theorem de_kix {x : Str} {d : Addr} {tbl : Str → Option D} {miss : List Str} {p1 : Pos} (T : KTab X.K X.w d tbl miss) (hg : Gl X x) (hm : X.mg x = some (.ref d)) (he : DE X C W e ge) (hs : PlainIx e := by exact fun _ _ => rfl) (hdb : (x == ("__debug__" : Str)) = false := by decide) :
    DE X C W (.Subscript (.Name x p1) e pos) (E.un (kixD tbl) ge) := pe_weak (pe_ix ix_kdict (pe_glob (v := .ref d) hg hm rfl hdb) he hs) fun σ H Q ⟨F, ρ, le, env, o⟩ =>
  ⟨F, ρ, le, env, o.bind.imp fun x F1 H1 s1 o1 v hv => by
    obtain ⟨y, e1, q⟩ := o1.of_some
    cases hv with
    | str z =>
      obtain ⟨u, w, h1, h2, h3⟩ := T.at_ z y e1
      obtain ⟨es, n, kd⟩ := T.kd
      exact ⟨d, z, w, rfl, rfl, ⟨es, n, u, kd.at_, kd.lit, h1, h2⟩, q F1 H1 (Stp.refl s1.le) _ (h3 F1)⟩
    | _ => cases e1⟩
def tKGet2 (K : PySem.W.Frag) (w : World) (d : Addr) (ty tx : TE) : TE := fun σ H Q => ty σ H fun y H2 => tx σ H2 fun z H3 => ∃ (k : Str) (r : Option Value) (v : V), y = .str k ∧ PySem.W.nsIn K d k = some r ∧ (∀ u, r = some u → RelV v u) ∧ (r = none → v = z) ∧ Q v H3
theorem pe_kget2 {x : Str} {d : Addr} {es : Array DictEntry} {n : Nat} {f : Expr} {ty tx : TE} {apos p1 : Pos} (Dd : KDict X.K X.w d es n) (hg : Gl X x) (hm : X.mg x = some (.ref d)) (he : PE X e ty) (hf : PE X f tx) (m : M2 X (.Name x p1) "get" apos e f pos) (hdb : (x == ("__debug__" : Str)) = false := by decide) :
    PE X (.Call (.Attribute (.Name x p1) "get" apos) [e, f] [] pos) (tKGet2 X.K X.w d ty tx) := by
  refine ⟨fun pins s σ H Q I h => ?_⟩
  have ho : PE X (.Name x p1) (tC (.ref d)) := pe_glob hg hm rfl hdb
  refine wpAny_Call_method m.base m.few m.line PySem.F.plainAttrs_dict PySem.F.slot_dict_get PySem.F.type_dict_get (thn (ho.run pins s σ H (fun x H1 => x = .ref d ∧ H1 = H) I ⟨rfl, rfl⟩) fun u s1 ⟨x', H1, I1, rx, ex, eh⟩ => ?_)
  subst ex eh
  obtain rfl : u = Value.ref d := rx
  have mo := fun {s' : Shared} {σ' : L2.St} {H' : Hp} (J : Inv X pins σ' H' s') => PySem.W.mapOf_K (prog := X.prog) (w := X.w) J.kIn Dd.at_ Dd.lit
  refine ⟨(mo I1).typeIs, fun b q => ?_, ?_⟩
  · cases q
    exact ⟨_, I1.kIn _ _ Dd.at_, rfl⟩
  rw [m.trees]
  refine Calls.callWith_builtin rfl (Calls.evalArgs_plain (Calls.spliced_cons (thn (he.run pins s1 σ _ _ I1 h) fun iv s2 ⟨y, H2, I2, ry, q2⟩ =>
    Calls.spliced_cons (thn (hf.run pins s2 σ H2 _ I2 q2) fun fv s3 ⟨z, H3, I3, rz, k, r, v, ey, hn, h1, h2, q3⟩ => Calls.spliced_nil ?_))))
  subst ey
  obtain ⟨t, rfl⟩ := ry
  refine call_meetsIn PySem.F.slot_dict_get (mo I3).typeIs PySem.F.entry_dict_get (PySem.F.args_dict_get_3 _ _ _) (meets_dict_get_default (strKind X.prog X.w) d (strKind_is X.prog X.w k t) Dd.low fv) ⟨_, mo I3, ?_⟩
  rw [PySem.W.find_K Dd.at_ hn]
  cases r with
  | some u => exact ⟨v, H3, I3.tok _, h1 u rfl, q3⟩
  | none =>
    have ev := h2 rfl
    subst ev
    exact ⟨v, H3, I3.tok _, rz, q3⟩
def kgetD (tbl : Str → Option D) (miss : List Str) : D → D → Option D
  | .str z, y => match tbl z with
    | some v => some v
    | none => if decide (z ∈ miss) then some y else none
  | _, _ => none
theorem de_kget {x : Str} {d : Addr} {tbl : Str → Option D} {miss : List Str} {f : Expr} {apos p1 : Pos} (T : KTab X.K X.w d tbl miss) (hg : Gl X x) (hm : X.mg x = some (.ref d)) (he : DE X C W e ge) (hf : DE X C W f gb) (m : M2 X (.Name x p1) "get" apos e f pos := by exact ⟨rfl, rfl, rfl, rfl⟩)
    (hdb : (x == ("__debug__" : Str)) = false := by decide) : DE X C W (.Call (.Attribute (.Name x p1) "get" apos) [e, f] [] pos) (E.op (kgetD tbl miss) ge gb) := by
  obtain ⟨es, n, kd⟩ := T.kd
  refine pe_weak (pe_kget2 kd hg hm he hf m hdb) fun σ H Q ⟨F, ρ, le, env, o⟩ => ?_
  refine ⟨F, ρ, le, env, o.bind.imp fun x F1 H1 s1 o1 v hv => ⟨F1, ρ, s1.le, env.mono s1.f, o1.bind.imp fun y F2 H2 s2 o2 w hw => ?_⟩⟩
  obtain ⟨r, e1, q⟩ := o2.of_some
  cases hv with
  | str z =>
    have e2 : (match tbl z with | some v => some v | none => if decide (z ∈ miss) then some y else none) = some r := e1
    cases ht : tbl z with
    | some x =>
      rw [ht] at e2
      cases e2
      obtain ⟨u, w', h1, h2, h3⟩ := T.at_ z _ ht
      exact ⟨z, some u, w', rfl, h1, fun u' eu => by cases eu; exact h2, (fun z => nomatch z), q F2 H2 (Stp.refl s2.le) _ (h3 F2)⟩
    | none =>
      rw [ht] at e2
      obtain ⟨h1, h2⟩ := of_if e2
      subst h2
      exact ⟨z, none, w, rfl, T.no z (of_decide_eq_true h1), (fun u eu => nomatch eu), (fun _ => rfl), q F2 H2 (Stp.refl s2.le) _ hw⟩
  | _ => cases e1
/-! ### displays -/
def putD (kvs : List (Key × D)) (k : Key) (v : D) : List (Key × D) := if (kvs.any fun kv => decide (kv.1 = k)) = true then kvs.map (fun kv => if kv.1 = k then (kv.1, v) else kv) else kvs ++ [(k, v)]
def mergeD (kvs more : List (Key × D)) : List (Key × D) := more.foldl (fun acc kv => putD acc kv.1 kv.2) kvs
theorem DvK.any {k : Key} : ∀ {vs : List (Key × V)} {ds : List (Key × D)}, DvK K F vs ds → (vs.any fun kv => decide (kv.1 = k)) = ds.any fun kv => decide (kv.1 = k)
  | _, _, .nil => rfl
  | _, _, .cons h t => by rw [List.any_cons, List.any_cons, DvK.any t]
theorem DvK.mapv {k : Key} {v : V} {d : D} (hv : Dv K F v d) : ∀ {vs : List (Key × V)} {ds : List (Key × D)}, DvK K F vs ds → DvK K F (vs.map fun kv => if kv.1 = k then (kv.1, v) else kv) (ds.map fun kv => if kv.1 = k then (kv.1, d) else kv)
  | _, _, .nil => .nil
  | _, _, .cons (k := k1) h t => by
    rw [List.map_cons, List.map_cons]
    by_cases e : k1 = k
    · simp only [e, if_true]
      exact .cons hv (DvK.mapv hv t)
    · simp only [if_neg e]
      exact .cons h (DvK.mapv hv t)
theorem DvK.append : ∀ {vs ws : List (Key × V)} {ds es : List (Key × D)}, DvK K F vs ds → DvK K F ws es → DvK K F (vs ++ ws) (ds ++ es)
  | _, _, _, _, .nil, s => s
  | _, _, _, _, .cons h t, s => .cons h (DvK.append t s)
theorem DvK.put {k : Key} {v : V} {d : D} {vs : List (Key × V)} {ds : List (Key × D)} (h : DvK K F vs ds) (hv : Dv K F v d) : DvK K F (putK vs k v) (putD ds k d) := by
  unfold putK putD
  rw [h.any]
  split
  · exact h.mapv hv
  · exact h.append (.cons hv .nil)
theorem DvK.merge : ∀ {vs ws : List (Key × V)} {ds es : List (Key × D)}, DvK K F vs ds → DvK K F ws es → DvK K F (mergeK vs ws) (mergeD ds es)
  | _, _, _, _, h, .nil => h
  | vs, _, ds, _, h, .cons (k := k1) (v := v1) (vs := ws) (d := d1) (ds := es) hv t => (show DvK K F (mergeK (putK vs k1 v1) ws) (mergeD (putD ds k1 d1) es) from DvK.merge (h.put hv) t)
def E.dnew : E := fun _ => .ok (.dic [])
theorem put_dic {p : Addr} {kvs : List (Key × V)} {kds : List (Key × D)} (hf : F p = none) (h : DvK K F kvs kds) : Dv K (upd F p (.dK kvs)) (.ref p) (.dic kds) := .dic upd_same (h.mono (Ex.new hf))
theorem de_dnew : DE X C W (.Dict [] [] pos) E.dnew := pe_weak pe_dnewK fun σ H Q ⟨F, ρ, le, env, o⟩ p hp => o _ _ (Stp.add le hp) _ (put_dic (Evl.fresh_back le hp) .nil)
def pairsL : List (E × E) → DEnv → R (List (Key × D))
  | [], _ => .ok []
  | (g, h) :: r, ρ => (g ρ).bind fun x => (h ρ).bind fun y => (R.of (keyD x)).bind fun k => (pairsL r ρ).bind fun l => .ok ((k, y) :: l)
def E.disp (gs : List (E × E)) : E := fun ρ => (pairsL gs ρ).bind fun l => R.of (if decide (l.length ≤ 15) then some (.dic (mergeD [] l)) else none)
abbrev tPr (C : Nat → Addr) (K : PySem.W.Frag) (W : WX) (gs : List (E × E)) : List (TE × TE) := gs.map fun g => (tE C K W g.1, tE C K W g.2)
def Pk (K : PySem.W.Frag) (Q : List (V × V) → Hp → Prop) : List (Key × D) → Hp → Hp → Prop := fun l F' H' => ∀ kvs, DvK K F' kvs l → Q (kvs.map fun kv => (kV kv.1, kv.2)) H'
theorem pairs_lift {ρ : DEnv} : ∀ (gs : List (E × E)) (F H : Hp) (Q : List (V × V) → Hp → Prop), Ex F H → EnvR K F σ ρ → Out C K W σ F H (pairsL gs ρ) (Pk K Q) → tPairs (tPr C K W gs) σ H Q
  | [], F, H, Q, le, env, o => o F H (Stp.refl le) [] .nil
  | (g, h) :: r, F, H, Q, le, env, o => ⟨F, ρ, le, env, o.bind.imp fun x F1 H1 s1 o1 v hv => ⟨F1, ρ, s1.le, env.mono s1.f, o1.bind.imp fun y F2 H2 s2 o2 w hw => by
    have o3 := o2.bind
    obtain ⟨k, ek, q⟩ := o3.of_some
    have ev := key_ofD hv ek
    subst ev
    refine pairs_lift r F2 H2 _ s2.le ((env.mono s1.f).mono s2.f) ((q F2 H2 (Stp.refl s2.le)).bind.imp fun l F3 H3 s3 o4 kvs hk => ?_)
    exact o4 F3 H3 (Stp.refl s3.le) ((k, w) :: kvs) (.cons (hw.mono s3.f) hk)⟩⟩
theorem stp_dict {F H F' H' : Hp} {p : Addr} {o o' : HO} (hp : H p = none) (hf : F p = none) (s : Stp F (upd H p o) F' H') : F' p = none ∧ Stp F H (upd F' p o') (upd H' p o') := by
  have fp : F' p = none := s.new p hf (by rw [upd_same]; exact fun z => nomatch z)
  refine ⟨fp, Evl.Ex.mut ((Ex.new hp).trans s.h) hp, s.f.trans (Ex.new fp), fun a u z => ?_, fun a n m => ?_⟩
  · by_cases h : a = p
    · subst h
      rw [upd_same] at z ⊢
      exact z
    · rw [upd_ne h] at z ⊢
      exact s.le a u z
  · have h : a ≠ p := fun z => m (by rw [z]; exact hp)
    rw [upd_ne h]
    exact s.new a n (by rw [upd_ne h]; exact m)
theorem stp_in {F H : Hp} {p : Addr} {o : HO} (le : Ex F H) (hp : H p = none) : Ex F (upd H p o) := le.trans (Ex.new hp)
theorem de_disp {keys : List (Option Expr)} {values : List Expr} (gs : List (E × E)) (h : PPs X pos keys values (tPr C X.K W gs)) (hall : keys.all (·.isSome) = true := by rfl) (hl : keys.length = values.length := by rfl) (h0 : keys ≠ [] := by exact fun z => nomatch z) (h15 : keys.length ≤ 15 := by decide) :
    DE X C W (.Dict keys values pos) (E.disp gs) := pe_weak (pe_disp h hall hl h0 h15) fun σ H Q ⟨F, ρ, le, env, o⟩ p hp => by
  have hf := Evl.fresh_back le hp
  refine pairs_lift gs F (upd H p (.dK [])) _ (stp_in le hp) env ?_
  have o : Out C X.K W σ F H ((pairsL gs ρ).bind fun l => R.of (if decide (l.length ≤ 15) then some (.dic (mergeD [] l)) else none)) (Pd X.K Q) := o
  have o1 := o.bind
  cases hr : pairsL gs ρ with
  | bad => rw [hr] at o1; exact o1
  | exc c g =>
    rw [hr] at o1
    intro v F' H' dd st hv hd
    exact o1 v F' H' dd ⟨(Ex.new hp).trans st.h, st.f, st.le, fun a n m => st.new a n (fun z => m (by rw [upd_ne (fun q => by rw [q, hp] at m; exact m rfl)] at z; exact z))⟩ hv hd
  | ok l =>
    rw [hr] at o
    intro F' H' st kvs hk
    have o2 : Out C X.K W σ F H (R.of (if decide (l.length ≤ 15) then some (.dic (mergeD [] l)) else none)) (Pd X.K Q) := o
    obtain ⟨d, e1, q⟩ := o2.of_some
    obtain ⟨h1, h2⟩ := of_if e1
    subst h2
    obtain ⟨fp, st2⟩ := stp_dict (o' := .dK (mergeK [] kvs)) hp hf st
    refine ⟨st.h _ _ upd_same, kvs, rfl, by rw [hk.len]; exact of_decide_eq_true h1, q _ _ st2 _ (put_dic fp (DvK.merge .nil hk))⟩
/-! ### *e in a display -/
def A.star (ga : E) (gs : DEnv → R (List D)) : DEnv → R (List D) := fun ρ => (ga ρ).bind fun x => (match x with | .lst l => .ok l | .tup l => .ok l | _ => .bad : R (List D)).bind fun l => (gs ρ).bind fun xs => .ok (l ++ xs)
theorem da_star {es : List Expr} {gs : DEnv → R (List D)} (ha : DE X C W a ga) (hb : DA X C W es gs) (hs : starEach (.Starred a p :: es) X.env = (true, eval a X.env) :: starEach es X.env := by rfl) : DA X C W (.Starred a p :: es) (A.star ga gs) := pa_weak (StX.pa_star ha hb hs) fun σ H Q ⟨F, ρ, le, env, o⟩ =>
  ⟨F, ρ, le, env, o.bind.imp fun x F1 H1 s1 o1 v hv => by
    have go : ∀ {l : List D} {us : List V}, DvA X.K F1 us l → Out C X.K W σ F1 H1 ((gs ρ).bind fun xs => R.ok (l ++ xs)) (Pa X.K Q) → tA C X.K W gs σ H1 fun ys H2 => Q (us ++ ys) H2 := fun hus o2 =>
      ⟨F1, ρ, s1.le, env.mono s1.f, o2.bind.imp fun xs F2 H2 s2 o3 vs hvs => o3 F2 H2 (Stp.refl s2.le) _ ((hus.mono s2.f).append hvs)⟩
    cases hv with
    | @lst q us ds hq hd => exact ⟨q, us, rfl, .inr (Evl.ex_l s1.le hq), go hd o1⟩
    | @tup q us ds hq hd => exact ⟨q, us, rfl, .inl (Evl.ex_t s1.le hq), go hd o1⟩
    | _ => exact o1.elim⟩
end
end DL

set_option Elab.async false
set_option linter.all false
set_option maxRecDepth 100000
set_option maxHeartbeats 2000000
/-! dict comprehensions by data -/
namespace DL
open PySem PySem.Spec PyProof.Rows L2
open Evl (Ex)
section
variable {X : Cx} {K : PySem.W.Frag} {C : Nat → Addr} {W : WX} {a b c e f tg : Expr} {ga gb ge gk : E} {pos p : Pos} {σ : L2.St} {F H F1 H1 : Hp}
def dcL (bd : Bd) (gk gv : E) (ρ : DEnv) : List D → R (List (Key × D))
  | [] => .ok []
  | d :: ds => match bd d ρ with
    | none => .bad
    | some ρ1 => (gk ρ1).bind fun x => (gv ρ1).bind fun y => (R.of (keyD x)).bind fun k => (dcL bd gk gv ρ ds).bind fun ys => .ok ((k, y) :: ys)
def E.dc (vs : List Nat) (bd : Bd) (gi : DEnv → R (List D)) (gk gv : E) : E := fun ρ => (gi ρ).bind fun ds => (dcL bd gk gv (wipeD ρ vs) ds).nx.bind fun ys => R.of (if small ys.length then some (.dic (mergeD [] ys)) else none)
theorem mergeK_snoc (kvs : List (Key × V)) (k : Key) (v : V) : mergeK [] (kvs ++ [(k, v)]) = putK (mergeK [] kvs) k v := by unfold mergeK; rw [List.foldl_append]; rfl
theorem dc_lift {g : TG} {bd : Bd} {vs : List Nat} {gi : DEnv → R (List D)} (hg : TgOk K g bd vs) (σ : L2.St) (H : Hp) (Q : VK) (h : tE C K W (E.dc vs bd gi gk ge) σ H Q) :
    tDc (tI C K W gi) g tYes (tE C K WF gk) (tE C K WF ge) vs σ H Q := by
  obtain ⟨F, ρ, le, env, o⟩ := h
  refine ⟨F, ρ, le, env, o.bind.imp fun ds F1 H1 s1 o1 J wk Dl hD => ?_⟩
  have env1 := (env.mono s1.f).wipe vs
  generalize hw : L2.wipe σ vs = σw at *
  generalize hr : wipeD ρ vs = ρw at *
  cases hres : dcL bd gk ge ρw ds with
  | bad => rw [hres] at o1; exact o1.elim
  | exc _ _ => rw [hres] at o1; exact o1.elim
  | ok ys =>
    rw [hres] at o1
    obtain ⟨d0, e0, q0⟩ := o1.of_some
    obtain ⟨hsm, e0⟩ := of_if e0
    subst e0
    refine ⟨fun i m H' => m = ds.length - i ∧ i ≤ ds.length ∧ ∃ Fi us acc rest, Stp F1 H1 Fi H' ∧ Fi Dl = none ∧ H' Dl = some (.dK (mergeK [] us)) ∧ DvK K Fi us acc ∧ dcL bd gk ge ρw (ds.drop i) = .ok rest ∧ ys = acc ++ rest, ⟨ds.length, by simp, Nat.zero_le _, F1, [], [], ys, ?_, ?_, upd_same, .nil, by simpa using hres, rfl⟩, ?_⟩
    · exact ⟨Ex.new hD, Ex.refl _, fun a o z => by rw [upd_ne (fun q => by rw [q] at z; rw [s1.le _ _ z] at hD; cases hD)]; exact s1.le _ _ z, fun a z _ => z⟩
    · exact Evl.fresh_back s1.le hD
    rintro i m H' ⟨rfl, hi, Fi, us, acc, rest, st, fD, hDl, hacc, hrest, hys⟩
    by_cases hlt : i < ds.length
    · have hgo := (wk i Fi H' st.f st.le).1 ds[i] (List.getElem?_eq_getElem hlt)
      refine .inr ⟨hgo.1, fun H' => ∃ m', m' < ds.length - i ∧ (m' = ds.length - (i + 1) ∧ i + 1 ≤ ds.length ∧ ∃ Fi us acc rest, Stp F1 H1 Fi H' ∧ Fi Dl = none ∧ H' Dl = some (.dK (mergeK [] us)) ∧ DvK K Fi us acc ∧ dcL bd gk ge ρw (ds.drop (i + 1)) = .ok rest ∧ ys = acc ++ rest), fun H' z => z, fun x H2 y => ?_⟩
      obtain ⟨F2, st2, hx⟩ := hgo.2 x H2 y
      rw [List.drop_eq_getElem_cons hlt] at hrest
      unfold dcL at hrest
      cases hb : bd ds[i] ρw with
      | none => rw [hb] at hrest; cases hrest
      | some ρ1 =>
        rw [hb] at hrest
        have hrest : ((gk ρ1).bind fun x => (ge ρ1).bind fun y => (R.of (keyD x)).bind fun k => (dcL bd gk ge ρw (ds.drop (i + 1))).bind fun ys => R.ok ((k, y) :: ys)) = .ok rest := hrest
        obtain ⟨kx, hk1, hrest⟩ := R.bind_okE hrest
        obtain ⟨yy, hy, hrest⟩ := R.bind_okE hrest
        obtain ⟨k, hk2, hrest⟩ := R.bind_okE hrest
        obtain ⟨rest2, hr2, hrest⟩ := R.bind_okE hrest
        have er : (k, yy) :: rest2 = rest := by injection hrest
        have hk3 : keyD kx = some k := by
          cases hh : keyD kx with
          | none => rw [hh] at hk2; cases hk2
          | some k' => rw [hh] at hk2; injection hk2 with q; rw [q]
        have f2D : F2 Dl = none := st2.new Dl fD (by rw [hDl]; exact fun z => nomatch z)
        have h2D : H2 Dl = some (.dK (mergeK [] us)) := st2.h _ _ hDl
        have env2 : EnvR K F2 σw ρw := (env1.mono st.f).mono st2.f
        refine hg.go F2 H2 x σw ρw ds[i] ρ1 _ st2.le env2 hx hb fun σ' env3 hkk => ⟨?_, ?_⟩
        · subst hw
          exact wipe_same hkk
        refine ⟨F2, ρ1, st2.le, env3, ?_⟩
        rw [hk1]
        intro F3 H3 st3 xv hxv
        have f3D : F3 Dl = none := st3.new Dl f2D (by rw [h2D]; exact fun z => nomatch z)
        have h3D : H3 Dl = some (.dK (mergeK [] us)) := st3.h _ _ h2D
        refine ⟨F3, ρ1, st3.le, env3.mono st3.f, ?_⟩
        rw [hy]
        intro F4 H4 st4 v hv
        have f4D : F4 Dl = none := st4.new Dl f3D (by rw [h3D]; exact fun z => nomatch z)
        have h4D : H4 Dl = some (.dK (mergeK [] us)) := st4.h _ _ h3D
        have hlen : us.length = acc.length := hacc.len
        have hle : ys.length ≤ 100000 := of_decide_eq_true hsm
        have hys2 : ys.length = acc.length + (rest2.length + 1) := by rw [hys, ← er]; simp
        have hml := length_mergeK us []
        rw [List.length_nil] at hml
        refine ⟨mergeK [] us, k, key_ofD hxv hk3, h4D, Evl.sz_lt (by omega), ds.length - (i + 1), by omega, rfl, hlt, F4, us ++ [(k, v)], acc ++ [(k, yy)], rest2, ?_, f4D, by rw [mergeK_snoc]; exact upd_same, (((hacc.mono st2.f).mono st3.f).mono st4.f).append (.cons hv .nil), hr2, by rw [hys, ← er]; simp⟩
        have s5 := ((st.trans st2).trans st3).trans st4
        exact ⟨Evl.Ex.mut s5.h hD, s5.f, fun a o z => by rw [upd_ne (fun q => by rw [q, f4D] at z; cases z)]; exact s5.le _ _ z, s5.new⟩
    · have ei : i = ds.length := by omega
      subst ei
      refine .inl ⟨(wk _ Fi H' st.f st.le).2 (Nat.le_refl _), ?_⟩
      rw [List.drop_length] at hrest
      have er : ([] : List (Key × D)) = rest := by injection hrest
      subst er
      rw [List.append_nil] at hys
      subst hys
      refine q0 (upd Fi Dl (.dK (mergeK [] us))) H' ⟨st.h, st.f.trans (Ex.new fD), fun a o z => ?_, fun a n m => ?_⟩ _ (put_dic fD (DvK.merge .nil hacc))
      · by_cases h : a = Dl
        · subst h
          rw [upd_same] at z
          rw [← z]
          exact hDl
        · rw [upd_ne h] at z
          exact st.le _ _ z
      · rw [upd_ne (fun z => m (by rw [z]; exact hD))]
        exact st.new a n m
theorem de_dc {iter : Expr} {scope : Scope} {own : List (Str × Nat)} {g : TG} {bd : Bd} {gi : DEnv → R (List D)} (hc : X.calm = true) (hN : X.N.Nodup) (hi : DI X C W tg iter gi) (ok : BlkOk X.N X.env.scope scope own) (hgo : TgOk X.K g bd (own.map (·.2)))
    (hg : ∀ (s : Shared) (H : Hp) (Ca : Addr) (cl : List (Str × Addr)) (fp : List Addr), PG (X.blk s H scope (compEnvC scope cl Ca X.env) fp) tg g)
    (hk : ∀ (s : Shared) (H : Hp) (Ca : Addr) (cl : List (Str × Addr)) (fp : List Addr), DE (X.blk s H scope (compEnvC scope cl Ca X.env) fp) C WF e gk)
    (he : ∀ (s : Shared) (H : Hp) (Ca : Addr) (cl : List (Str × Addr)) (fp : List Addr), DE (X.blk s H scope (compEnvC scope cl Ca X.env) fp) C WF f ge) (hs : ∀ x, foldedSetIterable iter X.env x = pure x := by intro _; rfl) :
    DE X C W (.DictComp e f [⟨tg, iter, [], 0⟩] scope pos) (E.dc (own.map (·.2)) bd gi gk ge) := pe_weak (pe_dc hc hN hi ok hg (fun _ _ _ _ _ => pts_nil) hk he hs) (dc_lift hgo)
end
end DL

set_option Elab.async false
set_option linter.all false
set_option maxRecDepth 100000
set_option maxHeartbeats 2000000
/-! list.index from a place on, enumerate over a tuple, dict of a written tuple of pairs -/
namespace PySem.SeqAt
open PySem MeetsSeq
theorem list_indexAt3 (l : Addr) (items : Array Value) (n : Nat) (dd : Option Addr) (sl : Array (Option Value)) (x : Value) (e : Value → Bool) (i j : Nat) (t : Tok) (hi : (i : Int) < 2 ^ 63 - 1) (hij : i ≤ j) (hj : j < items.size) (hsmall : (j : Int) < 2 ^ 63 - 1)
    (hit : e items[j] = true) (hno : ∀ m (hm : m < items.size), i ≤ m → m < j → e items[m] = false) :
    Meets (Builtin.«list.index» ⟨[.ref l, x, .int i t], []⟩)
      (fun A R s => s.heap.get? l = some { cls := .type "list", dict := dd, data := .seq items n, slots := sl } ∧ (∀ y, y ∈ items → EqAt A.in1 s y x (e y)) ∧ R (.ok (.ret (.int j s.toks))) { s with toks := s.toks + 1 }) := by
  intro prog w A R s h
  obtain ⟨hp, g, d, tk, os⟩ := s
  obtain ⟨hl, he, h⟩ := h
  have a3 : ¬ ((i : Int) < 0) := by omega
  wp_walk using wpAny_loadPart' hl
  have a1 : ((fun i : Int => if i < 0 then max 0 (i + (items.size : Int)) else i) ((some (i : Int)).getD 0)) = ((i : Nat) : Int) := by simp [a3]
  have a2 : ((fun i : Int => if i < 0 then max 0 (i + (items.size : Int)) else i) ((none : Option Int).getD (2 ^ 63 - 1))) = 2 ^ 63 - 1 := by simp
  rw [a1, a2]
  refine ⟨plainId_quiet plain_index_loop _, codeAny_builtin entry_index_loop ?_⟩
  rw [Around.under_plainId plain_index_loop _]
  exact index_loopAt l items n dd sl x e (2 ^ 63 - 1) j hj hsmall hit _ i rfl hij (fun m hm h1 h2 => hno m hm h1 h2) prog w A R _ ⟨hl, he, h⟩
end PySem.SeqAt
namespace PySem
set_option maxHeartbeats 1000000 in
theorem enum_newT (l : Addr) (items : Array Value) :
    Meets (Builtin.«enumerate.__new__» ⟨[.type "enumerate", .ref l], []⟩) (fun _ R s => s.heap.IsTuple l items ∧
      R (.ok (.ret (.ref (s.heap.push { cls := .type "tuple_iterator", data := .fields #[.ref l, .int 0 0] }).objs.size)))
        { s with heap := (s.heap.push { cls := .type "tuple_iterator", data := .fields #[.ref l, .int 0 0] }).push { cls := .type "enumerate", data := .fields #[.none, .bool false, .ref s.heap.objs.size, rawInt 0, .none, .none] } }) :=
  .of_wp fun prog w A R s h => by
    obtain ⟨hp, g, d, tk, os⟩ := s
    obtain ⟨hL, h⟩ := h
    have hsub := sub_enumerate
    have q1 : ∀ {A' : Around} {E : Value → Shared → Prop} {Q : Value → Shared → Prop}, Q (.ref hp.objs.size) ⟨hp.push { cls := .type "tuple_iterator", data := .fields #[.ref l, .int 0 0] }, g, d, tk, os⟩ → wpAny (model prog w) A' (pyIter (.ref l)) Q E ⟨hp, g, d, tk, os⟩ :=
      fun q => wpAny_pyIter_tuple hL q
    wp_walk using q1
    refine wpAny_stack_any fun st => wpAny_pure ?_
    split
    · rename_i c _ _ _ _ _
      cases (c == Value.type "enumerate")
      · wp_walk using q1
        exact ⟨_, rfl, h⟩
      · wp_walk using q1
        exact ⟨_, rfl, h⟩
    · wp_walk using q1
      exact ⟨_, rfl, h⟩
section
variable {prog : Program} {w : World} {A : Around} {E : Value → Shared → Prop} {s : Shared}
theorem call_enumT {l : Addr} {items : Array Value} {Q : Value → Shared → Prop} (hL : s.heap.IsTuple l items)
    (h : ∀ h', IsEnum h' (s.heap.objs.size + 1) s.heap.objs.size 0 .none → h'.IsTupleIter s.heap.objs.size l 0 → h'.objs.size = s.heap.objs.size + 2 →
      (∀ b o, s.heap.get? b = some o → h'.get? b = some o) → Q (.ref (s.heap.objs.size + 1)) { s with heap := h' }) :
    wpAny (model prog w) A (call (.type "enumerate") [.ref l]) Q E s := by
  refine callType_new F.called_enumerate (by decide) (F.typeCall_enumerate_1 _) (F.newCall_enumerate_1 _) (fun obj => F.args_object_init_2 obj _) F.entry_enumerate_new
    (enum_newT l items) ⟨hL, ?_⟩
  have hz : (s.heap.push { cls := .type "tuple_iterator", data := .fields #[.ref l, .int 0 0] }).objs.size = s.heap.objs.size + 1 := Heap.size_push ..
  show _ ∧ _
  rw [hz]
  have he : IsEnum ((s.heap.push { cls := .type "tuple_iterator", data := .fields #[.ref l, .int 0 0] }).push
      { cls := .type "enumerate", data := .fields #[.none, .bool false, .ref s.heap.objs.size, rawInt 0, .none, .none] }) (s.heap.objs.size + 1) s.heap.objs.size 0 .none := by
    have := Heap.get?_push_size (s.heap.push { cls := .type "tuple_iterator", data := .fields #[.ref l, .int 0 0] })
      (o := { cls := .type "enumerate", data := .fields #[.none, .bool false, .ref s.heap.objs.size, rawInt 0, .none, .none] }) rfl
    rw [hz] at this
    exact this
  refine ⟨⟨_, he, rfl⟩, h _ he ⟨_, Heap.get?_push_of_some _ (Heap.get?_push_size _ rfl), rfl, rfl⟩ (by rw [Heap.size_push, hz]) fun b o x => Heap.get?_push_of_some _ (Heap.get?_push_of_some _ x)⟩
theorem enum_endT {e it l : Addr} {i : Nat} {items : Array Value} {old : Value} {Q : Option Value → Shared → Prop} (hh : A.handled = none) (he : IsEnum s.heap e it i old) (hit : s.heap.IsTupleIter it l i) (hl : s.heap.IsTuple l items) (hx : items[i]? = none)
    (hQ : ∀ h', Heap.ExtBut it s.heap h' → Q none { s with heap := h' }) : wpAny (model prog w) A (pyNext (.ref e)) Q E s := by
  have hT : s.TypeIs (.ref e) "enumerate" := ⟨_, he, rfl⟩
  unfold pyNext
  refine wpAny_bind (wpAny_attempt (wpAny_callSpecial?_slot (name := Str.ofString "__next__") hT F.slot_enumerate_next (wpAny_call_entry F.slot_enumerate_next hT F.entry_enumerate_next ?_ (F.args_enumerate_next_1 _))))
  show wpAny _ _ (field (.ref e) 2 >>= _) _ _ _
  refine wpAny_bind (wpAny_field he rfl (x := .ref it) rfl (wpAny_bind (wpAny_nextOf_tuple_end (A := A.in1) hh hit hl hx fun h' x he' hx' => ?_)))
  obtain ⟨o, ho, hc⟩ := hx'
  exact wpAny_bind (wpAny_isInstance (T := "StopIteration") (b := true) ⟨o, ho, hc⟩ isSubtype_stop (wpAny_pure (hQ _ he')))
end
end PySem
namespace L2
open PySem PySem.Spec PyProof.Rows
def IteT (K : PySem.W.Frag) (a : Addr) : It :=
  ⟨fun i H => ∃ (xs : List V) (x : V), SqT K H a xs ∧ xs[i]? = some x, fun i H v H' => ∃ T x, v = .ref T ∧ H T = none ∧ H' = upd H T (.tup [.int (i : Nat), x]) ∧ ∀ xs, SqT K H a xs → xs[i]? = some x, fun i H => ∃ xs : List V, SqT K H a xs ∧ xs.length ≤ i⟩
theorem turn_enumT {P : Program} {w : World} {K : PySem.W.Frag} {elts : List Expr} {kk : Nat} {tpos : Pos} (a e it : Addr) (items : Array Value) :
    Turn P w K (.Tuple elts kk tpos) (IteT K a) [e, it] e (fun i h => (∃ old, IsEnum h e it ((i : Nat) : Int) old) ∧ h.IsTupleIter it a i ∧ e ≠ it ∧ h.get? a = h.get? a) where
  mem := by simp
  obj := fun i h st b hb => by
    obtain ⟨⟨old, he⟩, ⟨o, ho, hc, hd⟩, _⟩ := st
    have e' : b = e ∨ b = it := by simpa using hb
    rcases e' with z | z
    · rw [z]
      exact ⟨_, he, fun v q => nomatch q⟩
    · rw [z]
      exact ⟨o, ho, fun v q => by rw [hd] at q; cases q⟩
  keep := fun i h h' st k => let ⟨⟨old, he⟩, hi, hne, _⟩ := st; ⟨⟨old, k e (by simp) _ he⟩, hi.at fun o q => k it (by simp) o q, hne, rfl⟩
  item := by
    intro X hP hw hK hc i pins s σ H E I hf st hg
    subst hP hw hK
    obtain ⟨⟨old, he⟩, hit, hne, _⟩ := st
    obtain ⟨xs, x, hq, hx⟩ := hg
    obtain ⟨its, rv, p, hz⟩ := I.tuple hq
    obtain ⟨u, hu, ru⟩ := rv.get hx
    have hel : e < s.heap.objs.size := Heap.lt_size he
    have hil : it < s.heap.objs.size := by obtain ⟨_, q, _⟩ := hit; exact Heap.lt_size q
    have hl : i < its.toArray.size := by have := (List.getElem?_eq_some_iff.mp hu).1; simpa using this
    have hpt : s.heap.IsTuple a its.toArray := p
    obtain ⟨oa, hoa, hca, na, hda⟩ := id hpt
    have hea : e ≠ a := fun z => by
      have he2 : s.heap.get? e = some _ := he
      rw [z, hoa] at he2
      have he3 := Option.some.inj he2
      rw [he3] at hca
      exact absurd (Value.type.inj hca) (by decide)
    have hia : a ≠ it := fun z => by
      obtain ⟨oi, h1, h2, _⟩ := hit
      rw [← z, hoa] at h1
      have h3 := Option.some.inj h1
      rw [← h3, hca] at h2
      exact absurd (Value.type.inj h2) (by decide)
    refine wpAny_pyNext_enum_itemD (Draws.tuple (A := X.A.in1) (I.ok.hd hc) it a hia its.toArray) he ⟨hit, hpt⟩ hl hne (by simp [hne, hea]) fun x' h' tk' hx' ho hit' hT hsz hk => ?_
    have hxu : x' = u := by
      have h1 : its.toArray[i]? = some u := by simpa using hu
      rw [h1] at hx'
      exact (Option.some.inj hx').symm
    subst hxu
    refine ⟨_, rfl, wpAny_letOwnedTupleGo_enum (s := { s with heap := h', toks := tk' + 1 }) ho fun h'' he' sb => ?_⟩
    have hT2 : h''.get? s.heap.objs.size = some { cls := .type "tuple", data := .seq #[.int i tk', x'] } := (sb.2 _ (Nat.ne_of_gt hel)).trans hT
    have new : ObjOk X.prog X.w (upd H s.heap.objs.size (.tup [.int (i : Nat), x])) h'' s.heap.objs.size (.tup [.int (i : Nat), x]) :=
      ⟨by show 2 ≤ sizeLine; decide, [.int i tk', x'], .cons ⟨_, rfl⟩ (.cons ru .nil), ⟨_, hT2, rfl, _, rfl⟩⟩
    have I1 : Inv X pins σ (upd H s.heap.objs.size (.tup [.int (i : Nat), x])) { s with heap := h'', toks := tk' + 1 } :=
      I.turnedNew (ch := [e, it]) (fun b ob hb q => (sb.2 b (fun z => hb (by simp [z]))).trans (hk b ob (fun z => hb (by simp [z])) (fun z => hb (by simp [z])) q)) hf (Nat.le_refl _) new
    refine ⟨.ref s.heap.objs.size, _, I1, rfl, ⟨_, x, rfl, I.hok.fresh (Nat.le_refl _), rfl, fun ys hy => by rw [I.tuple_inj hy hq]; exact hx⟩, ⟨⟨x', ?_⟩, hit'.1.at fun o q => (sb.2 it (Ne.symm hne)).trans q, hne, rfl⟩, fun b hb => ?_⟩
    · have e1 : ((i + 1 : Nat) : Int) = (i : Int) + 1 := by omega
      rw [e1]
      exact he'
    · have hb' : b < s.heap.objs.size := by
        have e' : b = e ∨ b = it := by simpa using hb
        rcases e' with z | z
        · rw [z]; exact hel
        · rw [z]; exact hil
      rw [upd_ne (Nat.ne_of_lt hb')]
      exact (hf b hb).1
  done := by
    intro X hP hw hK hc i pins s σ H E I hf st hg
    subst hP hw hK
    obtain ⟨⟨old, he⟩, hit, hne, _⟩ := st
    obtain ⟨xs, hq, hx⟩ := hg
    obtain ⟨its, rv, p, hz⟩ := I.tuple hq
    obtain ⟨f0, f1, f2, f3, f4, f5⟩ := hf it (by simp)
    have hl := rv.length
    have hpt : s.heap.IsTuple a its.toArray := p
    obtain ⟨oa, hoa, hca, na, hda⟩ := id hpt
    have hia : a ≠ it := fun z => by
      obtain ⟨oi, h1, h2, _⟩ := hit
      rw [← z, hoa] at h1
      have h3 := Option.some.inj h1
      rw [← h3, hca] at h2
      exact absurd (Value.type.inj h2) (by decide)
    exact enum_endT (I.ok.hd hc) he hit hpt (by simp; omega) fun h' eb => ⟨rfl, I.turned (t' := s.toks) (fun b o hb q => eb b o hb q) f0 f1 f3 f4 f5⟩
  self := fun A i s Q E st h => let ⟨⟨_, he⟩, _⟩ := st; wpAny_pyIter_enum he h
def iEnumA (K : PySem.W.Frag) (ta : TA) : TI := fun σ H R => ta σ H fun vs H1 => ∃ a xs, vs = [.ref a] ∧ ((SqL K H1 a xs ∧ R (Ite K a) H1) ∨ (SqT K H1 a xs ∧ R (IteT K a) H1))
theorem pi_enumA {X : Cx} {e : Expr} {ta : TA} {p pos tpos : Pos} {elts : List Expr} {kk : Nat} (hg : Gl X "enumerate") (hm : X.mg "enumerate" = none) (ha : PA X [e] ta) (hs : starEach [e] X.env = [(false, eval e X.env)] := by rfl) :
    PI X (.Tuple elts kk tpos) (.Call (.Name "enumerate" p) [e] [] pos) (iEnumA X.K ta) := by
  refine ⟨fun pins s σ H R I h => ?_⟩
  refine Call_ (ld_blt I hg hm boot_enumerate (PyProof.Rows.callWith_type1 (thn (ha.run pos pins s σ H _ I h) fun us s1 ⟨vs, H1, I1, r1, q1⟩ => ?_) hs rfl))
  obtain ⟨a, xs, ex, q⟩ := q1
  subst ex
  cases r1 with
  | cons r rr =>
    cases rr
    cases r
    have fp : ∀ b ∈ [s1.heap.objs.size + 1, s1.heap.objs.size], FpOk X pins H1 b := fun b hb => by
      have e' : b = s1.heap.objs.size + 1 ∨ b = s1.heap.objs.size := by simpa using hb
      have hle : s1.heap.objs.size ≤ b := by
        rcases e' with z | z
        · rw [z]; exact Nat.le_add_right _ _
        · rw [z]; exact Nat.le_refl _
      exact I1.fpOk hle (I1.hok.fresh hle)
    rcases q with ⟨hq, q⟩ | ⟨hq, q⟩
    · obtain ⟨its, rv, p', hz⟩ := I1.list hq
      refine call_enumerate_list p'.isList fun h' he hit hsz hk => wpAny_pyIter_enum he ?_
      have I2 : Inv X pins σ H1 { s1 with heap := h' } := I1.kept (t' := s1.toks) hk
      exact ⟨s1.heap.objs.size + 1, [s1.heap.objs.size + 1, s1.heap.objs.size], _, _, H1, rfl, I2, turn_enum a (s1.heap.objs.size + 1) s1.heap.objs.size, ⟨⟨.none, he⟩, hit, Nat.succ_ne_self _⟩, fp, q⟩
    · obtain ⟨its, rv, p', hz⟩ := I1.tuple hq
      refine PySem.call_enumT p' fun h' he hit hsz hk => wpAny_pyIter_enum he ?_
      have I2 : Inv X pins σ H1 { s1 with heap := h' } := I1.kept (t' := s1.toks) hk
      exact ⟨s1.heap.objs.size + 1, [s1.heap.objs.size + 1, s1.heap.objs.size], _, _, H1, rfl, I2, turn_enumT a (s1.heap.objs.size + 1) s1.heap.objs.size its.toArray, ⟨⟨.none, he⟩, hit, Nat.succ_ne_self _, rfl⟩, fp, q⟩
/-- l.index(x, i), flat items -/
def rIndexF (K : PySem.W.Frag) : V → List V → Hp → VK → Prop := fun x xs H Q => ∃ (a : Addr) (y : V) (zs : List V) (i j : Nat) (z : V), x = .ref a ∧ xs = [y, .int (i : Int)] ∧ SqL K H a zs ∧ flatV y = true ∧ zs.all flatV = true ∧ i ≤ j ∧ zs[j]? = some z ∧ eqV z y = true ∧
  (∀ (m : Nat) (z' : V), i ≤ m → m < j → zs[m]? = some z' → eqV z' y = false) ∧ Q (.int (j : Nat)) H
theorem mt_indexF {X : Cx} : MtR X "list.index" (rIndexF X.K) := by
  intro pins s σ H x xs v us Q I rx rxs h
  obtain ⟨a, y, zs, i, j, z, rfl, rfl, hs, fy, fz, hij, hz, hzy, hno, q⟩ := h
  cases rx
  obtain ⟨u1, u2, rfl, ry, ri⟩ := vals2 rxs
  obtain ⟨t, rfl⟩ := ri
  obtain ⟨its, rv, ⟨⟨cls, dd, data, sls⟩, n, ho, hc, hdn, hdt⟩, hlen⟩ := I.list hs
  simp only at hc hdt
  subst hc hdt
  have hvl := rv.length
  have hsl := sizeLine_eq
  have hjz : j < zs.length := (List.getElem?_eq_some_iff.mp hz).1
  have hj : j < its.toArray.size := by simp; omega
  have eqs : ∀ (m : Nat) (hm : m < its.toArray.size) (z' : V), zs[m]? = some z' → eqU y its.toArray[m] = eqV z' y := fun m hm z' hz' => by
    obtain ⟨w', h1, h2⟩ := rv.get hz'
    have h3 : its.toArray[m] = w' := by
      have h4 : its[m]? = some its.toArray[m] := by
        have hm' : m < its.length := by simpa using hm
        rw [List.getElem?_eq_getElem hm']
        simp
      rw [h4] at h1
      exact Option.some.inj h1
    rw [h3]
    have fm : flatV z' = true := List.all_eq_true.mp fz z' (List.mem_of_getElem? hz')
    exact eqU_of h2 fm
  refine call_meets PySem.F.slot_list_index ⟨_, ho, rfl⟩ PySem.F.entry_list_index (PySem.F.args_list_index_3 _ _ _)
    (SeqAt.list_indexAt3 a its.toArray n dd sls u1 (eqU y) i j t (by omega) hij hj (by omega) ?_ ?_) ⟨ho, fun w' hw => mem_eqAt ry fy rv fz w' (by simpa using hw), ?_⟩
  · rw [eqs j hj z hz]
    exact hzy
  · intro m hm h1 h2
    have hmz : m < zs.length := by have : m < its.length := by simpa using hm
                                   omega
    rw [eqs m hm zs[m] (List.getElem?_eq_getElem hmz)]
    exact hno m _ h1 h2 (List.getElem?_eq_getElem hmz)
  · exact ⟨.int (j : Nat), H, I.tok _, ⟨_, rfl⟩, q⟩
end L2

set_option Elab.async false
set_option linter.all false
set_option maxRecDepth 100000
set_option maxHeartbeats 2000000
/-! index, enumerate, written data -/
namespace DL
open PySem PySem.Spec PyProof.Rows L2
open Evl (Ex)
section
variable {X : Cx} {K : PySem.W.Frag} {C : Nat → Addr} {W : WX} {a b c e f tg : Expr} {ga gb gc ge gk : E} {pos p : Pos} {σ : L2.St} {F H F1 H1 : Hp}
/-! ### index -/
def idxF (y : V) (zs : List V) (i : Nat) : Option Nat := ((zs.drop i).findIdx? fun z => eqV z y).map fun k => i + k
def indexD : D → List D → Option D
  | .lst xs, [x, .int i] => if (flatD x && xs.all flatD) && decide (0 ≤ i) then (idxF (toV x) (xs.map toV) i.toNat).map fun j => .int (j : Nat) else none
  | _, _ => none
theorem om_index : ∀ F H v x us xs d, Ex F H → Dv K F v x → DvA K F us xs → indexD x xs = some d → ∀ Q : VK, (∀ F' H', Stp F H F' H' → Pd K Q d F' H') → rIndexF K v us H Q := by
  intro F H v x us xs d le hv hvs e Q q
  cases hv with
  | @lst l vs ds hl hd =>
    cases hvs with
    | nil => cases e
    | @cons w ws y ys h t =>
      cases t with
      | nil => cases y <;> cases e
      | @cons w2 ws2 y2 ys2 h2 t2 =>
        cases t2 with
        | cons _ _ => cases y2 <;> cases e
        | nil =>
          cases h2 with
          | int i =>
            have e' : (if (flatD y && ds.all flatD) && decide (0 ≤ i) then (idxF (toV y) (ds.map toV) i.toNat).map fun j => D.int (j : Nat) else none) = some d := e
            cases hc : (flatD y && ds.all flatD) && decide (0 ≤ i) with
            | false => rw [hc] at e'; cases e'
            | true =>
              rw [hc] at e'
              rw [Bool.and_eq_true, Bool.and_eq_true] at hc
              obtain ⟨⟨f1, f2⟩, h0⟩ := hc
              have h0 : 0 ≤ i := of_decide_eq_true h0
              obtain ⟨j, hj, ej⟩ := Option.map_eq_some_iff.mp (show (idxF (toV y) (ds.map toV) i.toNat).map (fun j => D.int (j : Nat)) = some d from e')
              subst ej
              obtain ⟨k, hk, ek⟩ := Option.map_eq_some_iff.mp hj
              obtain ⟨g1, g2⟩ := flat_of h f1
              obtain ⟨g3, g4⟩ := flats_of hd f2
              rw [← g1, ← g3] at hk
              obtain ⟨hlt, hp1, hp2⟩ := List.findIdx?_eq_some_iff_getElem.mp hk
              subst ek
              have hi : ((i.toNat : Nat) : Int) = i := Int.toNat_of_nonneg h0
              refine ⟨l, w, vs, i.toNat, i.toNat + k, (vs.drop i.toNat)[k], rfl, by rw [hi], Evl.ex_l le hl, g2, g4, Nat.le_add_right _ _, ?_, hp1, fun m z' h1 h2 hz => ?_, q F H (Stp.refl le) _ (.int _)⟩
              · rw [← List.getElem?_drop, List.getElem?_eq_getElem hlt]
              · have hm : m - i.toNat < k := by omega
                have h5 := hp2 (m - i.toNat) hm
                have h6 : (vs.drop i.toNat)[m - i.toNat]? = some z' := by rw [List.getElem?_drop, show i.toNat + (m - i.toNat) = m by omega]; exact hz
                have h7 : (vs.drop i.toNat)[m - i.toNat]'(by omega) = z' := by
                  rw [List.getElem?_eq_getElem (by omega)] at h6
                  exact Option.some.inj h6
                rw [h7] at h5
                simpa using h5
          | _ => cases e
  | _ => cases xs with | nil => cases e | cons y ys => cases e
theorem de_index {apos : Pos} (ho : DE X C W a ga) (ha : DE X C W b gb) (hb : DE X C W c gc) (hs : starEach [b, c] X.env = (false, eval b X.env) :: starEach [c] X.env := by rfl) (hs2 : starEach [c] X.env = (false, eval c X.env) :: starEach [] X.env := by rfl)
    (hbase : attributeBase a "index" X.env (eval a X.env) = eval a X.env := by rfl) (hline : (apos.endLine == pos.line) = true := by rfl)
    (hfew : ((backTo pos (starEach (b :: [c]) X.env)).all (fun x => !x.1) && (backToKw pos (keywordEach [] X.env)).all (fun x => x.1.isSome) && decide ((b :: ([c] : List Expr)).length + ([] : List Keyword).length + (if ([] : List Keyword).isEmpty then 0 else 1) < 30)) = true := by rfl)
    (hp : (backTo pos (starEach ([c] : List Expr) X.env)).any (·.1) = false := by rfl) : DE X C W (.Call (.Attribute a "index" apos) [b, c] [] pos) (E.meth isL indexD ga (A.cons gb (A.cons gc A.nil))) :=
  pe_weak (pe_bm PySem.F.plainAttrs_list PySem.F.slot_list_index PySem.F.type_list_index mt_indexF ho (da_cons ha (da_cons hb da_nil hs2) hs) hbase hfew hline hs hp) (bm_lift (fun F H v x => ty_L) om_index)
/-! ### enumerate -/
def enumL : Nat → List D → List D
  | _, [] => []
  | i, x :: xs => .tup [.int (i : Nat), x] :: enumL (i + 1) xs
theorem enumL_get : ∀ {xs : List D} {k i : Nat}, (enumL k xs)[i]? = (xs[i]?).map fun x => .tup [.int ((k + i : Nat) : Int), x]
  | [], k, i => by simp [enumL]
  | x :: xs, k, 0 => by simp [enumL]
  | x :: xs, k, i + 1 => by
    rw [enumL, List.getElem?_cons_succ, List.getElem?_cons_succ, enumL_get, show k + 1 + i = k + (i + 1) by omega]
theorem enumL_len : ∀ {xs : List D} {k : Nat}, (enumL k xs).length = xs.length
  | [], _ => rfl
  | _ :: xs, k => by rw [enumL, List.length_cons, List.length_cons, enumL_len]
def I.enum (ga : E) : DEnv → R (List D) := fun ρ => (ga ρ).bind fun x => R.of (match x with | .lst l => some (enumL 0 l) | .tup l => some (enumL 0 l) | _ => none)
theorem wk_enumL {q : Addr} {xs : List V} {ds : List D} {F0 : Hp} (h : SqL K F0 q xs) (hd : DvA K F0 xs ds) : Wk K F0 (Ite K q) (enumL 0 ds) := fun i F H e1 e2 => by
  have hs : SqL K H q xs := Evl.ex_l (e1.trans e2) h
  refine ⟨fun d hi => ?_, fun hi => ⟨xs, hs, by rw [hd.len]; rw [enumL_len] at hi; exact hi⟩⟩
  rw [enumL_get] at hi
  obtain ⟨x, hx, ex⟩ := Option.map_eq_some_iff.mp hi
  subst ex
  obtain ⟨v, h1, h2⟩ := hd.get hx
  refine ⟨⟨xs, v, hs, h1⟩, fun y H' hy => ?_⟩
  obtain ⟨T, v', y1, y2, y3, y4⟩ := hy
  subst y1 y3
  have h3 := y4 xs hs
  rw [h1] at h3
  cases h3
  have s := Stp.add (o := .tup [.int (i : Nat), v]) e2 y2
  exact ⟨_, s, by rw [Nat.zero_add]; exact put_tup e2 y2 (.cons (.int _) (.cons (h2.mono e1) .nil))⟩
theorem wk_enumT {q : Addr} {xs : List V} {ds : List D} {F0 : Hp} (h : SqT K F0 q xs) (hd : DvA K F0 xs ds) : Wk K F0 (IteT K q) (enumL 0 ds) := fun i F H e1 e2 => by
  have hs : SqT K H q xs := Evl.ex_t (e1.trans e2) h
  refine ⟨fun d hi => ?_, fun hi => ⟨xs, hs, by rw [hd.len]; rw [enumL_len] at hi; exact hi⟩⟩
  rw [enumL_get] at hi
  obtain ⟨x, hx, ex⟩ := Option.map_eq_some_iff.mp hi
  subst ex
  obtain ⟨v, h1, h2⟩ := hd.get hx
  refine ⟨⟨xs, v, hs, h1⟩, fun y H' hy => ?_⟩
  obtain ⟨T, v', y1, y2, y3, y4⟩ := hy
  subst y1 y3
  have h3 := y4 xs hs
  rw [h1] at h3
  cases h3
  have s := Stp.add (o := .tup [.int (i : Nat), v]) e2 y2
  exact ⟨_, s, by rw [Nat.zero_add]; exact put_tup e2 y2 (.cons (.int _) (.cons (h2.mono e1) .nil))⟩
theorem di_enum {elts : List Expr} {kk : Nat} {tpos : Pos} (hg : Gl X "enumerate") (hm : X.mg "enumerate" = none) (ha : DE X C W a ga) (hs : starEach [a] X.env = [(false, eval a X.env)] := by rfl) : DI X C W (.Tuple elts kk tpos) (.Call (.Name "enumerate" p) [a] [] pos) (I.enum ga) :=
  pi_weak (pi_enumA hg hm (pa_cons ha pa_nil hs) hs) fun σ H Q ⟨F, ρ, le, env, o⟩ =>
  ⟨F, ρ, le, env, o.bind.imp fun x F1 H1 s1 o1 v hv => by
    obtain ⟨ds, e, q⟩ := o1.of_some
    cases hv with
    | @lst l xs ds hl hd =>
      cases (Option.some.inj e)
      exact ⟨l, xs, rfl, .inl ⟨Evl.ex_l s1.le hl, q F1 H1 (Stp.refl s1.le) _ (wk_enumL hl hd)⟩⟩
    | @tup l xs ds hl hd =>
      cases (Option.some.inj e)
      exact ⟨l, xs, rfl, .inr ⟨Evl.ex_t s1.le hl, q F1 H1 (Stp.refl s1.le) _ (wk_enumT hl hd)⟩⟩
    | _ => cases e⟩
/-! ### written data -/
mutual
inductive Kv (K : PySem.W.Frag) : Value → D → Prop
  | non : Kv K .none .non
  | bl (b : Bool) : Kv K (.bool b) (.bl b)
  | int (i : Int) (t : Tok) : Kv K (.int i t) (.int i)
  | str (s : Str) (t : Tok) : Kv K (.str s t) (.str s)
  | tup {q : Addr} {o : Obj} {its : Array Value} {n : Nat} {ds : List D} : K.lookup q = some o → o.cls = .type "tuple" → o.dict = none → o.data = .seq its n → its.size ≤ sizeLine → KvA K its.toList ds → Kv K (.ref q) (.tup ds)
inductive KvA (K : PySem.W.Frag) : List Value → List D → Prop
  | nil : KvA K [] []
  | cons {v : Value} {vs : List Value} {d : D} {ds : List D} : Kv K v d → KvA K vs ds → KvA K (v :: vs) (d :: ds)
end
mutual
theorem Kv.dv : ∀ {u : Value} {d : D}, Kv K u d → ∃ v, RelV v u ∧ ∀ F, Dv K F v d
  | _, _, .non => ⟨.non, rfl, fun F => .non⟩
  | _, _, .bl b => ⟨.bl b, rfl, fun F => .bl b⟩
  | _, _, .int i t => ⟨.int i, ⟨t, rfl⟩, fun F => .int i⟩
  | _, _, .str s t => ⟨.str s, ⟨t, rfl⟩, fun F => .str s⟩
  | _, _, .tup (q := q) (o := o) (its := its) (n := n) h1 h2 h3 h4 h5 h6 => by
    obtain ⟨vs, r, hd⟩ := KvA.dv h6
    exact ⟨.ref q, rfl, fun F => .tup (.inr ⟨o, its, n, h1, h2, h4, h5, r⟩) (hd F)⟩
theorem KvA.dv : ∀ {us : List Value} {ds : List D}, KvA K us ds → ∃ vs, Vals vs us ∧ ∀ F, DvA K F vs ds
  | _, _, .nil => ⟨[], .nil, fun F => .nil⟩
  | _, _, .cons h t => by
    obtain ⟨v, r, hd⟩ := Kv.dv h
    obtain ⟨vs, rs, hds⟩ := KvA.dv t
    exact ⟨v :: vs, .cons r rs, fun F => .cons (hd F) (hds F)⟩
end
def chkA (f : Value → D → Bool) : List Value → List D → Bool
  | [], [] => true
  | v :: vs, d :: ds => f v d && chkA f vs ds
  | _, _ => false
def chk (K : PySem.W.Frag) : Nat → Value → D → Bool
  | _, .none, .non => true
  | _, .bool b, .bl c => decide (b = c)
  | _, .int i _, .int j => decide (i = j)
  | _, .str s _, .str t => decide (s = t)
  | n + 1, .ref q, .tup ds => match K.lookup q with
    | some ⟨.type c, none, .seq its _, _⟩ => decide (c = "tuple") && (small its.size && chkA (chk K n) its.toList ds)
    | _ => false
  | _, _, _ => false
theorem chkA_ok {f : Value → D → Bool} (hf : ∀ v d, f v d = true → Kv K v d) : ∀ {vs : List Value} {ds : List D}, chkA f vs ds = true → KvA K vs ds
  | [], [], _ => .nil
  | [], _ :: _, h => by cases h
  | _ :: _, [], h => by cases h
  | v :: vs, d :: ds, h => by
    rw [chkA, Bool.and_eq_true] at h
    exact .cons (hf v d h.1) (chkA_ok hf h.2)
theorem chk_ok : ∀ (n : Nat) (v : Value) (d : D), chk K n v d = true → Kv K v d := by
  intro n
  induction n with
  | zero =>
    intro v d h
    cases v <;> cases d <;> first
      | exact .non
      | (have e := of_decide_eq_true h; subst e; first | exact .bl _ | exact .int _ _ | exact .str _ _)
      | cases h
  | succ n ih =>
    intro v d h
    cases v <;> cases d <;> first
      | exact .non
      | (have e := of_decide_eq_true h; subst e; first | exact .bl _ | exact .int _ _ | exact .str _ _)
      | skip
    all_goals first
      | cases h
      | skip
    rename_i q ds
    have h' : (match K.lookup q with
      | some ⟨.type c, none, .seq its _, _⟩ => decide (c = "tuple") && (small its.size && chkA (chk K n) its.toList ds)
      | _ => false) = true := h
    cases hl : K.lookup q with
    | none => rw [hl] at h'; cases h'
    | some o =>
      rw [hl] at h'
      obtain ⟨oc, od, dt, sl⟩ := o
      cases oc with
      | type c =>
        cases od with
        | none =>
          cases dt with
          | seq its m =>
            have h2 : (decide (c = "tuple") && (small its.size && chkA (chk K n) its.toList ds)) = true := h'
            rw [Bool.and_eq_true, Bool.and_eq_true] at h2
            have ec : c = "tuple" := of_decide_eq_true h2.1
            subst ec
            exact .tup hl rfl rfl rfl (small_le h2.2.1) (chkA_ok ih h2.2.2)
          | _ => cases h'
        | some _ => cases dt <;> cases h'
      | _ => cases od <;> cases dt <;> cases h'
end
end DL

set_option Elab.async false
set_option linter.all false
set_option maxRecDepth 100000
set_option maxHeartbeats 2000000
/-! dict of a written tuple of pairs -/
namespace DL
open PySem PySem.Spec PyProof.Rows L2
open Evl (Ex)
section
variable {X : Cx} {K : PySem.W.Frag} {C : Nat → Addr} {W : WX} {a b c e f tg : Expr} {ga gb gc ge gk : E} {pos p : Pos} {σ : L2.St} {F H F1 H1 : Hp}
structure KTabW (K : PySem.W.Frag) (w : World) (d : Addr) (tbl : Str → Option D) (miss : List Str) : Prop where
  kd : ∃ es n, KDict K w d es n
  at_ : ∀ z x, tbl z = some x → ∃ u, PySem.W.nsIn K d z = some (some u) ∧ Kv K u x
  no : ∀ z, z ∈ miss → PySem.W.nsIn K d z = some none
theorem KTabW.tab {w : World} {d : Addr} {tbl : Str → Option D} {miss : List Str} (T : KTabW K w d tbl miss) : KTab K w d tbl miss :=
  ⟨T.kd, fun z x h => by
    obtain ⟨u, h1, h2⟩ := T.at_ z x h
    obtain ⟨v, r, hd⟩ := h2.dv
    exact ⟨u, v, h1, r, hd⟩, T.no⟩
def toPairs : List D → Option (List (Key × D))
  | [] => some []
  | .tup [x, y] :: ds => (keyD x).bind fun k => (toPairs ds).map fun l => (k, y) :: l
  | _ :: _ => none
theorem keyIs_kv {u : Value} {x : D} {k : Key} (h : Kv K u x) (e : keyD x = some k) : keyIs k u = true := by
  cases h <;> first | cases e | skip
  · exact keyIs_int _ _
  · exact keyIs_str _ _
theorem pairs_kv : ∀ {us : List Value} {ds : List D} {l : List (Key × D)}, KvA K us ds → toPairs ds = some l → ∃ (bs : List Addr) (prs : List (Value × Value)) (kvs : List (Key × Value)) (vvs : List (Key × V)),
    us = bs.map Value.ref ∧ prs.length = us.length ∧ kvs.length = us.length ∧ (∀ (j : Nat) k v, prs[j]? = some (k, v) → ∃ b, bs[j]? = some b ∧ ∀ h : Heap, K.In h → h.IsTuple b #[k, v]) ∧
    (∀ (j : Nat) k v, prs[j]? = some (k, v) → ∃ kk, kvs[j]? = some (kk, v) ∧ keyIs kk k = true) ∧ KV vvs kvs ∧ ∀ F, DvK K F vvs l
  | _, _, _, .nil, e => by
    cases e
    exact ⟨[], [], [], [], rfl, rfl, rfl, fun j k v h => by simp at h, fun j k v h => by simp at h, .nil, fun F => .nil⟩
  | _, _, _, .cons (v := u) (vs := us) (d := d) (ds := ds) h t, e => by
    cases h with
    | @tup q o its n ds2 h1 h2 h3 h4 h5 h6 =>
      obtain ⟨its⟩ := its
      cases h6 with
      | nil => cases e
      | @cons x vs2 dx ds3 hx t2 =>
        cases t2 with
        | nil => cases e
        | @cons y vs3 dy ds4 hy t3 =>
          cases t3 with
          | cons _ _ => cases e
          | nil =>
            obtain ⟨k, e1, e2⟩ := Option.bind_eq_some_iff.mp (show (keyD dx).bind (fun k => (toPairs ds).map fun l => (k, dy) :: l) = some _ from e)
            obtain ⟨l, e3, e4⟩ := Option.map_eq_some_iff.mp e2
            subst e4
            obtain ⟨bs, prs, kvs, vvs, g1, g2, g3, g4, g5, g6, g7⟩ := pairs_kv t e3
            obtain ⟨vy, ry, dvy⟩ := hy.dv
            refine ⟨q :: bs, (x, y) :: prs, (k, y) :: kvs, (k, vy) :: vvs, by rw [g1]; rfl, by simp [g2], by simp [g3], fun j kx v hj => ?_, fun j kx v hj => ?_, .cons ⟨rfl, ry⟩ g6, fun F => .cons (dvy F) (g7 F)⟩
            · cases j with
              | zero =>
                have e5 : (x, y) = (kx, v) := Option.some.inj hj
                cases e5
                exact ⟨q, rfl, fun h hin => ⟨o, hin _ _ h1, h2, n, h4⟩⟩
              | succ j =>
                obtain ⟨b, b1, b2⟩ := g4 j kx v (by simpa using hj)
                exact ⟨b, by simpa using b1, b2⟩
            · cases j with
              | zero =>
                have e5 : (x, y) = (kx, v) := Option.some.inj hj
                cases e5
                exact ⟨k, rfl, keyIs_kv hx e1⟩
              | succ j =>
                obtain ⟨b, b1, b2⟩ := g5 j kx v (by simpa using hj)
                exact ⟨b, by simpa using b1, b2⟩
    | _ => cases e
def rDictK (K : PySem.W.Frag) : List V → Hp → VK → Prop := fun xs H Q => ∃ (q : Addr) (ds : List D) (l : List (Key × D)), xs = [.ref q] ∧ Kv K (.ref q) (.tup ds) ∧ toPairs ds = some l ∧ ∀ p vvs, H p = none → (∀ F, DvK K F vvs l) → Q (.ref p) (upd H p (.dK (mergeK [] vvs)))
theorem call_dictK (hcalm : X.calm = true) : CallR X (.type "dict") (rDictK X.K) := by
  intro pins s σ H xs us Q I r h
  obtain ⟨q, ds, l, rfl, hk, hl, hq⟩ := h
  obtain ⟨u, rfl, rx⟩ := vals1 r
  cases rx
  cases hk with
  | @tup _ o its n _ h1 h2 h3 h4 h5 h6 =>
    obtain ⟨bs, prs, kvs, vvs, g1, g2, g3, g4, g5, g6, g7⟩ := pairs_kv h6 hl
    have hsz : its.size = its.toList.length := by simp
    have key : ∀ {T : Nat}, True := trivial
    refine PySem.call_dict_pairs (knd := mixKind X.prog X.w) (kvs := kvs) (PySem.PairArg.tuple q its (fun j => bs.getD j 0) prs) (I.ok.hd hcalm) ⟨⟨o, n, I.kIn _ _ h1, h2, h3, h4⟩, by omega, fun j k v hj => ?_⟩ ⟨by omega, fun i k v hr => ?_⟩ (by omega) fun h' tk hd' hkeep => ?_
    · obtain ⟨b, b1, b2⟩ := g4 j k v hj
      have e1 : its.toList[j]? = some (Value.ref b) := by rw [g1, List.getElem?_map, b1]; rfl
      have e2 : bs.getD j 0 = b := by rw [List.getD_eq_getElem?_getD, b1]; rfl
      show its[j]? = some (Value.ref (bs.getD j 0)) ∧ PySem.PairAt s.heap (bs.getD j 0) k v
      rw [e2]
      exact ⟨by rw [← Array.getElem?_toList]; exact e1, .inl (b2 _ I.kIn)⟩
    · exact g5 i k v hr
    · have hm : (s.heap.objs.size == sysModules) = false := beq_eq_false_iff_ne.mpr (Nat.ne_of_gt I.big)
      have hlen : (mergeK [] vvs).length ≤ sizeLine := by
        have e1 := length_mergeK vvs []
        have e2 : vvs.length = kvs.length := Paired.length g6
        rw [List.length_nil] at e1
        omega
      exact ⟨.ref s.heap.objs.size, upd H s.heap.objs.size (.dK (mergeK [] vvs)), I.laid (t' := tk) (fun b o e => hkeep b o (fun z => nomatch z) e) (Nat.le_refl _) (show ObjOk X.prog X.w _ _ _ (.dK (mergeK [] vvs)) from ⟨hlen, hm, merged [] kvs, KV.merge g6 .nil, hd'⟩), rfl, hq _ vvs (I.hok.fresh (Nat.le_refl _)) g7⟩
def dictD : D → Option D
  | .tup ds => (toPairs ds).map fun l => .dic (mergeD [] l)
  | _ => none
theorem de_dictK {x : Str} {d : Addr} {tbl : Str → Option D} {miss : List Str} {p1 p2 : Pos} (T : KTabW X.K X.w d tbl miss) (hcalm : X.calm = true) (hgd : Gl X "dict") (hmd : X.mg "dict" = none) (hg : Gl X x) (hm : X.mg x = some (.ref d)) (he : DE X C W e ge) (hs : PlainIx e := by exact fun _ _ => rfl) (hdb : (x == ("__debug__" : Str)) = false := by decide)
    (h1 : starEach ((.Subscript (.Name x p1) e p2) :: []) X.env = (false, eval (.Subscript (.Name x p1) e p2) X.env) :: starEach [] X.env := by rfl) (hpl : (backTo pos (starEach [] X.env)).any (·.1) = false := by rfl) :
    DE X C W (.Call (.Name "dict" p) [.Subscript (.Name x p1) e p2] [] pos) (E.un dictD (E.un (kixD tbl) ge)) := by
  refine pe_weak (pe_callTy (call_dictK hcalm) hgd hmd (by decide +kernel) (pa_cons (pe_ix ix_kdict (pe_glob (v := .ref d) hg hm rfl hdb) he hs) pa_nil h1) (by decide) (by decide) h1 hpl) fun σ H Q ⟨F, ρ, le, env, o⟩ => ?_
  have o : Out C X.K W σ F H (((ge ρ).bind fun x => R.of (kixD tbl x)).bind fun x => R.of (dictD x)) (Pd X.K Q) := o
  have o0 : Out C X.K W σ F H ((ge ρ).bind fun x => (R.of (kixD tbl x)).bind fun x => R.of (dictD x)) (Pd X.K Q) := by
    cases hh : ge ρ with
    | ok v => rw [hh] at o; exact o
    | exc _ _ => rw [hh] at o; exact o
    | bad => rw [hh] at o; exact o
  refine ⟨F, ρ, le, env, o0.bind.imp fun x F1 H1 s1 o1 v hv => ?_⟩
  obtain ⟨y, e1, q1⟩ := o1.bind.of_some
  obtain ⟨z, e2, q2⟩ := (q1 F1 H1 (Stp.refl s1.le)).of_some
  cases hv with
  | str k =>
    obtain ⟨u, g1, g2⟩ := T.at_ k y e1
    obtain ⟨es, n, kd⟩ := T.kd
    cases g2 with
    | @tup q o' its m ds k1 k2 k3 k4 k5 k6 =>
      obtain ⟨l, e3, e4⟩ := Option.map_eq_some_iff.mp (show (toPairs ds).map (fun l => D.dic (mergeD [] l)) = some z from e2)
      subst e4
      exact ⟨d, k, .ref q, rfl, rfl, ⟨es, n, _, kd.at_, kd.lit, g1, rfl⟩, q, ds, l, rfl, .tup k1 k2 k3 k4 k5 k6, e3, fun p' vvs hp hd => q2 _ _ (Stp.add s1.le hp) _ (put_dic (Evl.fresh_back s1.le hp) (DvK.merge .nil (hd F1)))⟩
    | _ => cases e2
  | _ => cases e1
end
end DL

set_option Elab.async false
set_option linter.all false
set_option maxRecDepth 100000
set_option maxHeartbeats 2000000
/-! what a printed walk takes -/
namespace DL
open PySem PySem.Spec PyProof.Rows L2
open Evl (Ex)
section
variable {X : Cx} {K : PySem.W.Frag} {C : Nat → Addr} {W : WX} {a b c e f tg : Expr} {ga gb gc ge gk : E} {es : List Expr} {gs : DEnv → R (List D)} {pos p : Pos} {σ : L2.St} {F H F1 H1 : Hp}
/-- a constant of the top -/
structure COk (K : PySem.W.Frag) (mg : Str → Option Value) (x : Str) (d : D) : Prop where
  ex : ∃ u v, mg x = some u ∧ RelV v u ∧ ∀ F, Dv K F v d
theorem de_gl {x : Str} {d : D} (h : COk X.K X.mg x d) (hg : Gl X x) (hdb : (x == ("__debug__" : Str)) = false := by decide) : DE X C W (.Name x pos) (E.k d) := by
  obtain ⟨u, v, h1, h2, h3⟩ := h.ex
  exact de_glob hg h1 h2 h3 hdb
/-- a def of the top -/
structure DOk (P : Program) (w : World) (K : PySem.W.Frag) (mg : Str → Option Value) (base : Heap) (C : Nat → Addr) (x : Str) (ps : List Str) (k : Nat) (f : List D → R D) : Prop where
  ex : ∃ fa fd, FnOk P w K mg base (L2.CX P w) k fa fd ps (spD C K ps.length f) ∧ mg x = some (.ref fa) ∧ PySem.W.keepIn K (.ref fa) = true ∧ Binds K fd ps [] ∧
    (∀ kn, ps = [kn] → ∀ (s : Shared) (u : Value), K.In s.heap → BindsTo s fd ⟨[], [(kn, u)]⟩ [(kn, u)])
  len : ∀ ds, ds.length ≠ ps.length → f ds = .bad
theorem de_callD {x : Str} {ps : List Str} {j k : Nat} {f : List D → R D} (Dk : DOk X.prog X.w X.K X.mg X.base C x ps j f) (hr : Room k X.A) (hjk : j ≤ k) (hg : Gl X x) (tk : Takes X W) (ha : DA X C W (e :: es) gs) (hdb : (x == ("__debug__" : Str)) = false := by decide)
    (he : starEach (e :: es) X.env = (false, eval e X.env) :: starEach es X.env := by rfl) (hpl : (backTo pos (starEach es X.env)).any (·.1) = false := by rfl) : DE X C W (.Call (.Name x p) (e :: es) [] pos) (E.call f gs) := by
  obtain ⟨fa, fd, h1, h2, h3, h4, h5⟩ := Dk.ex
  exact de_call Dk.len h1 (hr.mono hjk) hg h2 h3 h4 tk ha hdb he hpl
theorem de_callN {x kn : Str} {j k : Nat} {f : List D → R D} {kp : Pos} (Dk : DOk X.prog X.w X.K X.mg X.base C x [kn] j f) (hr : Room k X.A) (hjk : j ≤ k) (hg : Gl X x) (tk : Takes X W) (ha : DE X C W e ge) (hdb : (x == ("__debug__" : Str)) = false := by decide)
    (hall : (backToKw pos (keywordEach [⟨some kn, e, kp⟩] X.env)).all (·.1.isSome) = true := by rfl) (hks : (backToKw pos (keywordEach [⟨some kn, e, kp⟩] X.env)).filterMap (·.1) = [kn] := by rfl)
    (hpl : ((backTo pos (starEach [] X.env)).any (·.1) || (backToKw pos (keywordEach [⟨some kn, e, kp⟩] X.env)).any (·.1.isNone)) = false := by rfl) : DE X C W (.Call (.Name x p) [] [⟨some kn, e, kp⟩] pos) (E.call1 f ge) := by
  obtain ⟨fa, fd, h1, h2, h3, h4, h5⟩ := Dk.ex
  exact de_callK h1 (hr.mono hjk) hg h2 h3 (h5 kn rfl) tk ha hdb hall hks hpl
/-- an expression that is never reached -/
def E.bad : E := fun _ => .bad
theorem de_bad : DE X C W e E.bad := ⟨fun _ _ _ _ _ _ ⟨_, _, _, _, o⟩ => o.elim⟩
/-- negative numbers, powers -/
def negD : D → Option D
  | .int i => some (.int (-i))
  | _ => none
theorem o1_neg : Op1 K (rU fun i => .int (-i)) negD := by
  intro F H v x d le hv e Q q
  cases hv with
  | int i =>
    cases (Option.some.inj e)
    exact ⟨i, rfl, q F H (Stp.refl le) _ (.int _)⟩
  | _ => cases e
def powD : D → D → Option D
  | .int i, .int j => if decide (0 ≤ j) && (decide (j ≤ 1000000) && decide (i.natAbs < 2 ^ 64)) then some (.int (i ^ j.toNat)) else none
  | _, _ => none
theorem o2_pow : Op2 K (rI CPow fun i j => .int (i ^ j.toNat)) powD := by
  intro F H v u x y d le hv hu e Q q
  cases hv with
  | int i =>
    cases hu with
    | int j =>
      obtain ⟨h1, h2⟩ := of_if (show (if decide (0 ≤ j) && (decide (j ≤ 1000000) && decide (i.natAbs < 2 ^ 64)) then some (D.int (i ^ j.toNat)) else none) = some d from e)
      rw [Bool.and_eq_true, Bool.and_eq_true] at h1
      subst h2
      exact ⟨i, j, rfl, rfl, ⟨of_decide_eq_true h1.1, of_decide_eq_true h1.2.1, of_decide_eq_true h1.2.2⟩, q F H (Stp.refl le) _ (.int _)⟩
    | _ => cases e
  | _ => cases hu <;> cases e
end
section
variable {P : Program} {w : World} {K : PySem.W.Frag} {mg : Str → Option Value} {base : Heap} {C : Nat → Addr} {x : Str} {st : Stmt} {fa : Addr} {fd : FuncData} {N ps : List Str} {k : Nat} {body : Sm}
theorem mk_D (Fn : Fun K x x st fa fd) (S : FnScope N ps (defScope st)) (hm : mg x = some (.ref fa))
    (hb : ∀ (kV doc pm : Value) (an : Option Addr) (cdv ct : Value) (us : List Value), us.length = ps.length → bindArgs (PySem.W.fnOf x x (defArgs st) (defBody st) (defScope st) .none kV doc pm an cdv ct) ⟨us, []⟩ = pure (ps.zip us))
    (hk : ∀ kn, ps = [kn] → ∀ (kV doc pm : Value) (an : Option Addr) (cdv ct u : Value), bindArgs (PySem.W.fnOf x x (defArgs st) (defBody st) (defScope st) .none kV doc pm an cdv ct) ⟨[], [(kn, u)]⟩ = pure [(kn, u)])
    (hbody : ∀ (cdv : Value) (A : Around) (outer : List PySem.Env) (s : Shared) (H : Hp) (E : XK), Room k (A.deeper (envOfC x (defScope st) s.heap.objs.size fa cdv)) → DSs (cxOf (L2.CX P w) P w K mg base N x (defScope st) fa cdv A outer s H E) C (fun cls d _ H' => E cls d H') (defBody st) body) :
    DOk P w K mg base C x ps (k + 1) (runD ps.length N.length body) := by
  refine ⟨⟨fa, fd, fn_d Fn S hbody, hm, Fn.kp, Fn.binds hb, fun kn e s u _ => ?_⟩, fun ds h => runD_len ds h⟩
  obtain ⟨oc, od, kV, doc, pm, an, cdv, ct, osl, rfl, lk, hcd⟩ := Fn.ex
  exact .of_eq (hk kn e kV doc pm an cdv ct u)
end
end DL

set_option Elab.async false
set_option linter.all false
set_option maxRecDepth 100000
set_option maxHeartbeats 2000000
/-! calls with nothing given -/
namespace DL
open PySem PySem.Spec PyProof.Rows L2
open Evl (Ex)
section
variable {X : Cx} {C : Nat → Addr} {W : WX} {pos p : Pos} {x : Str}
theorem pe_callS0 {E : L2.St → XK} {k : Nat} {f : Addr} {fd : FuncData} {ps : List Str} {sp : Sp} (Fn : FnOk X.prog X.w X.K X.mg X.base (L2.CX X.prog X.w) k f fd ps sp) (hr : Room k X.A) (hg : Gl X x) (hm : X.mg x = some (.ref f)) (hk : PySem.W.keepIn X.K (.ref f) = true) (hb : Binds X.K fd ps [])
    (hx : ∀ σ, PassesAt (L2.CX X.prog X.w) X σ (E σ)) (hdb : (x == ("__debug__" : Str)) = false := by decide) : PE X (.Call (.Name x p) [] [] pos) (tCallS sp E tNil) := by
  refine ⟨fun pins s σ H Q I h => ?_⟩
  refine wpAny_Call_Name_kw (ld_glob I hg hm ?_ hdb)
  exact PySem.W.callWith_K0 I.kIn hk (run_fnS (us := []) Fn hr hb (hx σ) I .nil h)
theorem de_call0 {ps : List Str} {j k : Nat} {f : List D → R D} (Dk : DOk X.prog X.w X.K X.mg X.base C x ps j f) (hr : Room k X.A) (hjk : j ≤ k) (hg : Gl X x) (tk : Takes X W) (hdb : (x == ("__debug__" : Str)) = false := by decide) : DE X C W (.Call (.Name x p) [] [] pos) (E.call f A.nil) := by
  obtain ⟨fa, fd, h1, h2, h3, h4, h5⟩ := Dk.ex
  exact pe_weak (pe_callS0 h1 (hr.mono hjk) hg h2 h3 h4 (fun σ => passAt tk σ) hdb) fun σ H Q h => by
    obtain ⟨F, ρ, le, env, o⟩ := call_lift Dk.len σ H Q h
    exact o F H (Stp.refl le) [] .nil
/-- d[k], d a dict of data -/
def dixD (x y : D) : Option D := match x with
  | .dic kvs => (keyD y).bind fun k => valD kvs k
  | _ => none
theorem de_dix {a b : Expr} {ga gb : E} (hu : X.A.units + 1 < cLine) (ha : DE X C W a ga) (hb : DE X C W b gb) (hs : NoSl b := by exact fun _ _ => rfl) : DE X C W (.Subscript a b pos) (E.op dixD ga gb) := pe_weak (pe_dget hu ha hb hs) fun σ H Q ⟨F, ρ, le, env, o⟩ =>
  ⟨F, ρ, le, env, o.bind.imp fun x F1 H1 s1 o1 v hv => ⟨F1, ρ, s1.le, env.mono s1.f, o1.bind.imp fun y F2 H2 s2 o2 u hu => by
    obtain ⟨d, e, q⟩ := o2.of_some
    cases hv.mono s2.f with
    | @dic a kvs kds ha hk =>
      obtain ⟨k, e1, e2⟩ := Option.bind_eq_some_iff.mp (show (keyD y).bind (fun k => valD kds k) = some d from e)
      obtain ⟨v', e3, h3⟩ := (DvK.val (k := k) hk).2 d e2
      have e4 := key_ofD hu e1
      subst e4
      have g : DGet H2 a (kV k) (valV kvs k) := DGet.k (s2.le _ _ ha)
      rw [e3] at g
      exact ⟨a, v', rfl, g, q F2 H2 (Stp.refl s2.le) v' h3⟩
    | _ => cases e⟩⟩
end
end DL

set_option Elab.async false
set_option linter.all false
set_option maxRecDepth 100000
set_option maxHeartbeats 2000000
/-! drawing from a well: what may come out -/
namespace DL
open PySem PySem.Spec PyProof.Rows L2
open Evl (Ex)
structure N (α : Type) where
  ok : Prop
  out : α → Prop
def N.bind {α β : Type} (n : N α) (k : α → N β) : N β := ⟨n.ok ∧ ∀ a, n.out a → (k a).ok, fun b => ∃ a, n.out a ∧ (k a).out b⟩
def N.of {α : Type} (r : R α) : N α := ⟨∃ a, r = .ok a, fun a => r = .ok a⟩
def WellAt (H : Hp) (a : Addr) : Prop := ∃ x y z : Int, H a = some (.lst [.int x, .int y, .int z])
structure Wst (a : Addr) (F H F' H' : Hp) : Prop where
  kp : ∀ b o, b ≠ a → H b = some o → H' b = some o
  f : Ex F F'
  le : Ex F' H'
  new : ∀ b, F b = none → H b ≠ none → F' b = none
  wl : WellAt H' a
section
variable {α β : Type} {K : PySem.W.Frag} {a : Addr} {F H F1 H1 F2 H2 : Hp}
theorem WellAt.ne (w : WellAt H a) : H a ≠ none := by
  obtain ⟨x, y, z, h⟩ := w
  rw [h]
  exact fun z => nomatch z
theorem WellAt.ex (w : WellAt H a) (e : Ex H H1) : WellAt H1 a := by
  obtain ⟨x, y, z, h⟩ := w
  exact ⟨x, y, z, e _ _ h⟩
theorem Wst.of_stp (w : WellAt H a) (s : Stp F H F1 H1) : Wst a F H F1 H1 := ⟨fun b o _ h => s.h b o h, s.f, s.le, s.new, w.ex s.h⟩
theorem Wst.refl (le : Ex F H) (w : WellAt H a) : Wst a F H F H := ⟨fun _ _ _ h => h, Ex.refl F, le, fun _ h _ => h, w⟩
theorem Wst.trans (s : Wst a F H F1 H1) (t : Wst a F1 H1 F2 H2) : Wst a F H F2 H2 := ⟨fun b o n h => t.kp b o n (s.kp b o n h), s.f.trans t.f, t.le, fun x n m => t.new x (s.new x n m) (fun z => by
  by_cases h : x = a
  · subst h
    exact s.wl.ne z
  · cases e : H x with
    | none => exact m e
    | some o =>
      rw [s.kp x o h e] at z
      cases z), t.wl⟩
theorem Wst.fa (s : Wst a F H F1 H1) (n : F a = none) (w : WellAt H a) : F1 a = none := s.new a n w.ne
def OutN (a : Addr) (F H : Hp) (n : N α) (P : α → Hp → Hp → Prop) : Prop := n.ok ∧ ∀ d, n.out d → ∀ F' H', Wst a F H F' H' → P d F' H'
theorem OutN.bind {n : N α} {k : α → N β} {P : β → Hp → Hp → Prop} (o : OutN a F H (n.bind k) P) : OutN a F H n (fun x F1 H1 => OutN a F1 H1 (k x) P) :=
  ⟨o.1.1, fun d hd F1 H1 s1 => ⟨o.1.2 d hd, fun e he F2 H2 s2 => o.2 e ⟨d, hd, he⟩ F2 H2 (s1.trans s2)⟩⟩
theorem OutN.imp {n : N α} {P P' : α → Hp → Hp → Prop} (o : OutN a F H n P) (h : ∀ d F1 H1, n.out d → Wst a F H F1 H1 → P d F1 H1 → P' d F1 H1) : OutN a F H n P' :=
  ⟨o.1, fun d hd F1 H1 s1 => h d F1 H1 hd s1 (o.2 d hd F1 H1 s1)⟩
theorem OutN.mono {n : N α} {P : α → Hp → Hp → Prop} (s : Wst a F H F1 H1) (o : OutN a F H n P) : OutN a F1 H1 n P := ⟨o.1, fun d hd F2 H2 s2 => o.2 d hd F2 H2 (s.trans s2)⟩
/-- where nothing is drawn -/
theorem OutN.pure {C : Nat → Addr} {W : WX} {σ : L2.St} {r : R α} {P : α → Hp → Hp → Prop} (w : WellAt H a) (o : OutN a F H (N.of r) P) : Out C K W σ F H r P := by
  obtain ⟨x, e⟩ := o.1
  subst e
  exact fun F' H' s => o.2 x rfl F' H' (Wst.of_stp w s)
end
/-- the names' state with the well in the first slot -/
structure WIn (K : PySem.W.Frag) (a : Addr) (F H : Hp) (σ : L2.St) (ρ : DEnv) : Prop where
  le : Ex F H
  fa : F a = none
  w : WellAt H a
  s0 : σ[0]? = some (some (.ref a))
  env : EnvR K F σ ρ
section
variable {X : Cx} {K : PySem.W.Frag} {C : Nat → Addr} {W : WX} {a b c e tg : Expr} {es : List Expr} {pos p : Pos} {σ : L2.St} {F H F1 H1 : Hp} {wa : Addr} {ρ : DEnv}
theorem WIn.step (i : WIn K wa F H σ ρ) (s : Wst wa F H F1 H1) : WIn K wa F1 H1 σ ρ := ⟨s.le, s.fa i.fa i.w, s.wl, i.s0, i.env.mono s.f⟩
theorem WIn.set {i : Nat} {v : V} {d : D} (w : WIn K wa F H σ ρ) (hi : i ≠ 0) (h : Dv K F v d) : WIn K wa F H (σ.set i (some v)) (ρ.set i (some d)) := ⟨w.le, w.fa, w.w, by rw [List.getElem?_set_ne hi]; exact w.s0, w.env.set h⟩
abbrev EN := DEnv → N D
def nE (K : PySem.W.Frag) (g : EN) : TE := fun σ H Q => ∃ a F ρ, WIn K a F H σ ρ ∧ OutN a F H (g ρ) (Pd K Q)
def nA (K : PySem.W.Frag) (g : DEnv → N (List D)) : TA := fun σ H Q => ∃ a F ρ, WIn K a F H σ ρ ∧ OutN a F H (g ρ) (Pa K Q)
def nT (K : PySem.W.Frag) (g : DEnv → N Bool) : TT := fun σ H Q => ∃ a F ρ, WIn K a F H σ ρ ∧ OutN a F H (g ρ) (Pt Q)
def nI (K : PySem.W.Frag) (g : DEnv → N (List D)) : TI := fun σ H R => ∃ a F ρ, WIn K a F H σ ρ ∧ OutN a F H (g ρ) (Pi K R)
abbrev NE (X : Cx) (e : Expr) (g : EN) : Prop := PE X e (nE X.K g)
abbrev NA (X : Cx) (e : List Expr) (g : DEnv → N (List D)) : Prop := PA X e (nA X.K g)
abbrev NT (X : Cx) (e : Expr) (g : DEnv → N Bool) : Prop := PT X e (nT X.K g)
abbrev NI (X : Cx) (tg e : Expr) (g : DEnv → N (List D)) : Prop := PI X tg e (nI X.K g)
def M.pure {α : Type} (g : DEnv → R α) : DEnv → N α := fun ρ => N.of (g ρ)
def M.op (f : D → D → Option D) (ga gb : EN) : EN := fun ρ => (ga ρ).bind fun x => (gb ρ).bind fun y => N.of (R.of (f x y))
def M.un (f : D → Option D) (ga : EN) : EN := fun ρ => (ga ρ).bind fun x => N.of (R.of (f x))
theorem ne_pure {g : DL.E} (h : DE X C WF e g) : NE X e (M.pure g) := pe_weak h fun σ H Q ⟨a, F, ρ, i, o⟩ => ⟨F, ρ, i.le, i.env, o.pure i.w⟩
theorem nt_pure {g : DEnv → R Bool} (h : DT X C WF e g) : NT X e (M.pure g) := pt_weak h fun σ H Q ⟨a, F, ρ, i, o⟩ => ⟨F, ρ, i.le, i.env, o.pure i.w⟩
theorem nop_lift {r : R2} {f : D → D → Option D} {ga gb : EN} (hf : Op2 K r f) (σ : L2.St) (H : Hp) (Q : VK) (h : nE K (M.op f ga gb) σ H Q) : tOp r (nE K ga) (nE K gb) σ H Q := by
  obtain ⟨a, F, ρ, i, o⟩ := h
  refine ⟨a, F, ρ, i, o.bind.imp fun x F1 H1 _ s1 o1 v hv => ⟨a, F1, ρ, i.step s1, o1.bind.imp fun y F2 H2 _ s2 o2 u hu => ?_⟩⟩
  obtain ⟨d, e, q⟩ := Out.of_some (C := fun _ => a) (K := K) (W := WF) (σ := σ) (o2.pure s2.wl)
  exact hf F2 H2 v u x y d s2.le (hv.mono s2.f) hu e Q q
theorem ne_op {op : Operator} {r : R2} {f : D → D → Option D} {ga gb : EN} (ho : OpR X (binaryOp op) r) (hf : Op2 X.K r f) (ha : NE X a ga) (hb : NE X b gb) : NE X (.BinOp a op b pos) (M.op f ga gb) := pe_weak (pe_op ho ha hb) (nop_lift hf)
theorem ne_ix {ga gb : EN} (ha : NE X a ga) (hb : NE X b gb) (hs : PlainIx b := by exact fun _ _ => rfl) : NE X (.Subscript a b pos) (M.op ixD ga gb) := pe_weak (pe_ix ix_seq ha hb hs) (nop_lift o2_ix)
def M.val (g : EN) : DEnv → N Bool := fun ρ => (g ρ).bind fun x => N.of (R.of (toB x))
theorem nt_cmp {op : CmpOp} {r : R2} {f : D → D → Option D} {ga gb : EN} (ho : OpR X (compareOp op) r) (hf : Op2 X.K r f) (ha : NE X a ga) (hb : NE X b gb) (hm : behindInMarks op b = false) : NT X (.Compare a [op] [b] pos) (M.val (M.op f ga gb)) := pt_weak (pt_cmpR ho ha hb hm) fun σ H Q h => by
  refine nop_lift hf σ H _ ?_
  obtain ⟨a, F, ρ, i, o⟩ := h
  exact ⟨a, F, ρ, i, o.bind.imp fun x F1 H1 _ s1 o1 v hv => by
    obtain ⟨b, e, q⟩ := Out.of_some (C := fun _ => a) (K := X.K) (W := WF) (σ := σ) (o1.pure s1.wl)
    exact ⟨b, toB_some e hv, q F1 H1 (Stp.refl s1.le)⟩⟩
/-- and, the first pure -/
def M.and (g : DL.E) (gb : EN) : EN := fun ρ => (N.of (g ρ)).bind fun x => (N.of (R.of (toB x))).bind fun b => if b then gb ρ else N.of (.ok (.bl false))
theorem ne_one {op} {g : EN} (h : NE X a g) : NE X (.BoolOp op [a] pos) g := pe_one h
theorem ne_and {g : DL.E} {h : EN} {rest : List Expr} (ha : DE X C WF a g) (hb : NE X (.BoolOp .And (b :: rest) pos) h) : NE X (.BoolOp .And (a :: b :: rest) pos) (M.and g h) := pe_weak (pe_and (ne_pure ha) hb) fun σ H Q ⟨a, F, ρ, i, o⟩ =>
  ⟨a, F, ρ, i, o.bind.imp fun x F1 H1 _ s1 o1 v hv => by
    have o2 := o1.bind
    obtain ⟨b, e, q⟩ := Out.of_some (C := fun _ => a) (K := X.K) (W := WF) (σ := σ) (o2.pure s1.wl)
    have q1 := q F1 H1 (Stp.refl s1.le)
    refine ⟨b, toB_some e hv, ?_⟩
    cases b with
    | true => exact ⟨a, F1, ρ, i.step s1, q1⟩
    | false => exact q1.2 _ rfl F1 H1 (Wst.refl s1.le s1.wl) _ (.bl false)⟩
/-! displays -/
def MA.nil : DEnv → N (List D) := fun _ => N.of (.ok [])
def MA.cons (g : EN) (gs : DEnv → N (List D)) : DEnv → N (List D) := fun ρ => (g ρ).bind fun x => (gs ρ).bind fun xs => N.of (.ok (x :: xs))
theorem na_nil : NA X [] MA.nil := pa_weak pa_nil fun σ H Q ⟨a, F, ρ, i, o⟩ => o.2 [] rfl F H (Wst.refl i.le i.w) [] .nil
theorem na_cons {g : EN} {gs : DEnv → N (List D)} (ha : NE X a g) (hb : NA X es gs) (hs : starEach (a :: es) X.env = (false, eval a X.env) :: starEach es X.env := by rfl) : NA X (a :: es) (MA.cons g gs) := pa_weak (pa_cons ha hb hs) fun σ H Q ⟨a, F, ρ, i, o⟩ =>
  ⟨a, F, ρ, i, o.bind.imp fun x F1 H1 _ s1 o1 v hv => ⟨a, F1, ρ, i.step s1, o1.bind.imp fun ys F2 H2 _ s2 o2 vs hvs => o2.2 _ rfl F2 H2 (Wst.refl s2.le s2.wl) (v :: vs) (.cons (hv.mono s2.f) hvs)⟩⟩
def M.lst (gs : DEnv → N (List D)) : EN := fun ρ => (gs ρ).bind fun xs => N.of (R.of (if small xs.length then some (D.lst xs) else none))
theorem ne_lst {gs : DEnv → N (List D)} (h : NA X es gs) : NE X (.List es pos) (M.lst gs) := pe_weak (pe_lst h) fun σ H Q ⟨a, F, ρ, i, o⟩ =>
  ⟨a, F, ρ, i, o.bind.imp fun xs F1 H1 _ s1 o1 vs hvs => by
    obtain ⟨d, e, q⟩ := Out.of_some (C := fun _ => a) (K := X.K) (W := WF) (σ := σ) (o1.pure s1.wl)
    obtain ⟨e1, e2⟩ := of_if e
    subst e2
    exact ⟨by rw [hvs.len]; exact small_le e1, fun p hp => q _ _ (Stp.add s1.le hp) _ (put_lst s1.le hp hvs)⟩⟩
/-! calls -/
def spN (K : PySem.W.Frag) (n : Nat) (f : List D → N D) : Sp := fun vs H Q _ => ∃ a us F ds, vs = .ref a :: us ∧ us.length = n ∧ Ex F H ∧ F a = none ∧ WellAt H a ∧ DvA K F us ds ∧ OutN a F H (f ds) (Pd K Q)
def M.call (f : List D → N D) (gs : DEnv → R (List D)) : EN := fun ρ => (N.of (gs ρ)).bind f
structure NOk (P : Program) (w : World) (K : PySem.W.Frag) (mg : Str → Option Value) (base : Heap) (x : Str) (n k : Nat) (f : List D → N D) : Prop where
  ex : ∃ fa fd ps, FnOk P w K mg base (L2.CX P w) k fa fd ps (spN K n f) ∧ mg x = some (.ref fa) ∧ PySem.W.keepIn K (.ref fa) = true ∧ Binds K fd ps []
  len : ∀ ds, (f ds).ok → ds.length = n
theorem ne_call {x wn : Str} {pw : Pos} {n j k : Nat} {f : List D → N D} {gs : DEnv → R (List D)} (Nk : NOk X.prog X.w X.K X.mg X.base x n j f) (hr : Room k X.A) (hjk : j ≤ k) (hg : Gl X x) (tk : Takes X WF) (h0 : PE X (.Name wn pw) (tVar 0)) (ha : DA X C WF es gs) (hdb : (x == ("__debug__" : Str)) = false := by decide)
    (hs : starEach (.Name wn pw :: es) X.env = (false, eval (.Name wn pw) X.env) :: starEach es X.env := by rfl) (hpl : (backTo pos (starEach es X.env)).any (·.1) = false := by rfl) : NE X (.Call (.Name x p) (.Name wn pw :: es) [] pos) (M.call f gs) := by
  obtain ⟨fa, fd, ps, h1, h2, h3, h4⟩ := Nk.ex
  exact pe_weak (pe_callS h1 (hr.mono hjk) hg h2 h3 h4 (fun σ => passAt tk σ) (pa_cons h0 ha hs) hdb hs hpl) fun σ H Q ⟨a, F, ρ, i, o⟩ => by
    refine ⟨_, i.s0, F, ρ, i.le, i.env, ?_⟩
    have o1 := o.bind
    obtain ⟨xs, e⟩ := o1.1
    rw [e]
    intro F1 H1 s1 us hus
    have s1' := Wst.of_stp i.w s1
    have o2 := o1.2 xs e F1 H1 s1'
    exact ⟨a, us, F1, xs, rfl, by rw [hus.len]; exact Nk.len xs o2.1, s1.le, s1'.fa i.fa i.w, s1'.wl, hus, o2⟩
/-! walks -/
def M.rng (g : EN) : DEnv → N (List D) := fun ρ => (g ρ).bind fun x => N.of ((R.of (toI x)).bind fun j => if decide (-(2 ^ 62) ≤ j) && decide (j < 2 ^ 62) then .ok (DL.rng 0 j.toNat) else .bad)
theorem ni_rng1 {g : EN} (hg : Gl X "range") (hm : X.mg "range" = none) (ha : NE X a g) (hs : starEach [a] X.env = [(false, eval a X.env)] := by rfl) : NI X tg (.Call (.Name "range" p) [a] [] pos) (M.rng g) :=
  pi_weak (pi_range1 hg hm (pa_cons ha pa_nil hs) hs) fun σ H Q ⟨a, F, ρ, i, o⟩ =>
  ⟨a, F, ρ, i, o.bind.imp fun x F1 H1 _ s1 o1 v hv => by
    obtain ⟨ds, e⟩ := o1.1
    obtain ⟨j, h1, h2⟩ := R.bind_okE e
    have o2 := o1.2 ds e F1 H1 (Wst.refl s1.le s1.wl)
    cases ht : toI x with
    | none => rw [ht] at h1; cases h1
    | some j' =>
      rw [ht] at h1
      cases h1
      split at h2
      · rename_i hc
        rw [Bool.and_eq_true] at hc
        cases h2
        have hv' := toI_some ht hv
        subst hv'
        exact ⟨j, rfl, of_decide_eq_true hc.1, of_decide_eq_true hc.2, o2 _ wk_rng⟩
      · cases h2⟩
def M.seq (g : EN) : DEnv → N (List D) := fun ρ => (g ρ).bind fun x => N.of (R.of (seqD x))
theorem ni_seq {g : EN} (ha : NE X a g) : NI X tg a (M.seq g) := pi_weak (pi_any ha) fun σ H Q ⟨a, F, ρ, i, o⟩ =>
  ⟨a, F, ρ, i, o.bind.imp fun x F1 H1 _ s1 o1 v hv => by
    obtain ⟨ds, e, q⟩ := Out.of_some (C := fun _ => a) (K := X.K) (W := WF) (σ := σ) (o1.pure s1.wl)
    cases hv with
    | @lst a xs ds ha hd =>
      cases (Option.some.inj e)
      exact .inl ⟨a, rfl, ⟨xs, Evl.ex_l s1.le ha⟩, q F1 H1 (Stp.refl s1.le) _ (wk_list ha hd)⟩
    | @tup a xs ds ha hd =>
      cases (Option.some.inj e)
      exact .inr (.inl ⟨a, rfl, ⟨xs, Evl.ex_t s1.le ha⟩, q F1 H1 (Stp.refl s1.le) _ (wk_tup ha hd)⟩)
    | str z =>
      cases (Option.some.inj e)
      exact .inr (.inr ⟨z, rfl, q F1 H1 (Stp.refl s1.le) _ wk_str⟩)
    | _ => cases e⟩
end
end DL

set_option Elab.async false
set_option linter.all false
set_option maxRecDepth 100000
set_option maxHeartbeats 2000000
/-! drawing: comprehensions, statements, defs -/
namespace DL
open PySem PySem.Spec PyProof.Rows L2
open Evl (Ex)
section
variable {X : Cx} {K : PySem.W.Frag} {C : Nat → Addr} {W : WX} {a b c e tg : Expr} {es : List Expr} {pos p : Pos} {σ : L2.St} {F H F1 H1 : Hp} {wa : Addr} {ρ : DEnv} {st : Stmt} {sts : List Stmt}
def M.lc (vs : List Nat) (bd : Bd) (gi : DEnv → N (List D)) (ge : EN) : EN := fun ρ => (gi ρ).bind fun ds => ⟨small ds.length = true ∧ ∀ d ∈ ds, ∃ ρ1, bd d (wipeD ρ vs) = some ρ1 ∧ (ge ρ1).ok,
  fun y => ∃ ys, y = .lst ys ∧ ys.length = ds.length ∧ ∀ z ∈ ys, ∃ d, d ∈ ds ∧ ∃ ρ1, bd d (wipeD ρ vs) = some ρ1 ∧ (ge ρ1).out z⟩
theorem lcN_lift {g : TG} {bd : Bd} {vs : List Nat} {gi : DEnv → N (List D)} {ge : EN} (hg : TgOk K g bd vs) (h0 : 0 ∉ vs) (σ : L2.St) (H : Hp) (Q : VK) (h : nE K (M.lc vs bd gi ge) σ H Q) : tLc (nI K gi) g (fun σ H Q => Q true H) (nE K ge) vs σ H Q := by
  obtain ⟨a, F, ρ, w, o⟩ := h
  refine ⟨a, F, ρ, w, o.bind.imp fun ds F1 H1 _ s1 o1 J wk Dl hD => ?_⟩
  have w1 := w.step s1
  have hDa : Dl ≠ a := fun e => w1.w.ne (e ▸ hD)
  have env1 := w1.env.wipe vs
  have hw0 : (L2.wipe σ vs)[0]? = some (some (.ref a)) := by rw [wipe_get, if_neg h0]; exact w.s0
  obtain ⟨⟨hsm, hok⟩, ho⟩ := o1
  have hle : ds.length ≤ 100000 := of_decide_eq_true hsm
  refine ⟨fun i m H' => m = ds.length - i ∧ i ≤ ds.length ∧ ∃ Fi us acc, Wst a F1 H1 Fi H' ∧ Fi Dl = none ∧ H' Dl = some (.lst us) ∧ DvA K Fi us acc ∧ acc.length = i ∧ ∀ z ∈ acc, ∃ d, d ∈ ds ∧ ∃ ρ1, bd d (wipeD ρ vs) = some ρ1 ∧ (ge ρ1).out z,
    ⟨ds.length, by simp, Nat.zero_le _, F1, [], [], ⟨fun b o _ z => ?_, Ex.refl _, fun b o z => ?_, fun b z _ => z, ?_⟩, Evl.fresh_back s1.le hD, upd_same, .nil, rfl, by simp⟩, ?_⟩
  · rw [upd_ne (fun q => by rw [q, hD] at z; cases z)]
    exact z
  · have z' := s1.le _ _ z
    rw [upd_ne (fun q => by rw [q, hD] at z'; cases z')]
    exact z'
  · obtain ⟨x, y, z, hz⟩ := s1.wl
    exact ⟨x, y, z, by rw [upd_ne hDa.symm]; exact hz⟩
  rintro i m H' ⟨rfl, hi, Fi, us, acc, st, fD, hDl, hacc, hlen, hall⟩
  have hul : us.length = acc.length := hacc.len
  by_cases hlt : i < ds.length
  · have hgo := (wk i Fi H' st.f st.le).1 ds[i] (List.getElem?_eq_getElem hlt)
    refine .inr ⟨hgo.1, fun H' => ∃ m', m' < ds.length - i ∧ (m' = ds.length - (i + 1) ∧ i + 1 ≤ ds.length ∧ ∃ Fi us acc, Wst a F1 H1 Fi H' ∧ Fi Dl = none ∧ H' Dl = some (.lst us) ∧ DvA K Fi us acc ∧ acc.length = i + 1 ∧ ∀ z ∈ acc, ∃ d, d ∈ ds ∧ ∃ ρ1, bd d (wipeD ρ vs) = some ρ1 ∧ (ge ρ1).out z), fun H' z => z, fun x H2 y => ?_⟩
    obtain ⟨F2, st2, hx⟩ := hgo.2 x H2 y
    have t2 := Wst.of_stp st.wl st2
    obtain ⟨ρ1, hb, hgk⟩ := hok ds[i] (List.getElem_mem hlt)
    have f2D : F2 Dl = none := st2.new Dl fD (by rw [hDl]; exact fun z => nomatch z)
    have h2D : H2 Dl = some (.lst us) := st2.h _ _ hDl
    have env2 := (env1.mono st.f).mono st2.f
    refine hg.go F2 H2 x _ _ ds[i] ρ1 _ st2.le env2 hx hb fun σ' env3 hk => ⟨wipe_same hk, ?_⟩
    have s0' : σ'[0]? = some (some (.ref a)) := by rw [hk.2 0 h0]; exact hw0
    refine ⟨a, F2, ρ1, ⟨t2.le, t2.fa (st.fa w1.fa w1.w) st.wl, t2.wl, s0', env3⟩, hgk, fun z hz F4 H4 s4 v hv => ?_⟩
    have f4D : F4 Dl = none := s4.new Dl f2D (by rw [h2D]; exact fun z => nomatch z)
    have h4D : H4 Dl = some (.lst us) := s4.kp Dl _ hDa h2D
    have s5 := (st.trans t2).trans s4
    refine ⟨us, h4D, Evl.sz_lt (by omega), ds.length - (i + 1), by omega, rfl, hlt, F4, us ++ [v], acc ++ [z], ⟨fun b o n q => ?_, s5.f, fun b o q => ?_, s5.new, ?_⟩, f4D, upd_same, ((hacc.mono st2.f).mono s4.f).append (.cons hv .nil), by simp [hlen], fun y hy => ?_⟩
    · have q' := s5.kp b o n q
      rw [upd_ne (fun r => by rw [r, hD] at q; cases q)]
      exact q'
    · rw [upd_ne (fun r => by rw [r, f4D] at q; cases q)]
      exact s5.le _ _ q
    · obtain ⟨x, y, z, hz⟩ := s5.wl
      exact ⟨x, y, z, by rw [upd_ne hDa.symm]; exact hz⟩
    · rcases List.mem_append.mp hy with h | h
      · exact hall y h
      · rw [List.mem_singleton.mp h]
        exact ⟨ds[i], List.getElem_mem hlt, ρ1, hb, hz⟩
  · have ei : i = ds.length := by omega
    subst ei
    refine .inl ⟨(wk _ Fi H' st.f st.le).2 (Nat.le_refl _), ?_⟩
    refine ho (.lst acc) ⟨acc, rfl, hlen, hall⟩ (upd Fi Dl (.lst us)) H' ⟨st.kp, st.f.trans (Ex.new fD), fun b o z => ?_, fun b n m => ?_, st.wl⟩ _ (.lst (Evl.sq_of upd_same) (hacc.mono (Ex.new fD)))
    · by_cases h : b = Dl
      · subst h
        rw [upd_same] at z
        rw [← z]
        exact hDl
      · rw [upd_ne h] at z
        exact st.le _ _ z
    · rw [upd_ne (fun z => m (by rw [z]; exact hD))]
      exact st.new b n m
section
variable {iter : Expr} {scope : Scope} {own : List (Str × Nat)} {g : TG} {bd : Bd} {gi : DEnv → N (List D)} {ge : EN}
theorem ne_lc (hc : X.calm = true) (hN : X.N.Nodup) (hi : NI X tg iter gi) (ok : BlkOk X.N X.env.scope scope own) (hgo : TgOk X.K g bd (own.map (·.2))) (h0 : 0 ∉ own.map (·.2))
    (hg : ∀ (s : Shared) (H : Hp) (Ca : Addr) (cl : List (Str × Addr)) (fp : List Addr), PG (X.blk s H scope (compEnvC scope cl Ca X.env) fp) tg g)
    (he : ∀ (s : Shared) (H : Hp) (Ca : Addr) (cl : List (Str × Addr)) (fp : List Addr), NE (X.blk s H scope (compEnvC scope cl Ca X.env) fp) e ge) (hs : ∀ x, foldedSetIterable iter X.env x = pure x := by intro _; rfl) :
    NE X (.ListComp e [⟨tg, iter, [], 0⟩] scope pos) (M.lc (own.map (·.2)) bd gi ge) := pe_weak (pe_lc hc hN hi ok hg (fun _ _ _ _ _ => pts_nil) he hs) (lcN_lift hgo h0)
end
/-! joining what was drawn -/
def M.join (z : Str) (gb : EN) : EN := fun ρ => (gb ρ).bind fun x => N.of (R.of (joinD (.str z) [x]))
theorem ne_join {apos ap : Pos} {z : Str} {j} {gb : EN} (ha : NE X b gb) (hs : starEach [b] X.env = [(false, eval b X.env)] := by rfl) (hbase : attributeBase (.Constant (.str z) j ap) "join" X.env (eval (.Constant (.str z) j ap) X.env) = eval (.Constant (.str z) j ap) X.env := by rfl) (hline : (apos.endLine == pos.line) = true := by rfl)
    (hfew : ((backTo pos (starEach (b :: []) X.env)).all (fun x => !x.1) && (backToKw pos (keywordEach [] X.env)).all (fun x => x.1.isSome) && decide ((b :: ([] : List Expr)).length + ([] : List Keyword).length + (if ([] : List Keyword).isEmpty then 0 else 1) < 30)) = true := by rfl)
    (hp : (backTo pos (starEach ([] : List Expr) X.env)).any (·.1) = false := by rfl) : NE X (.Call (.Attribute (.Constant (.str z) j ap) "join" apos) [b] [] pos) (M.join z gb) :=
  pe_weak (pe_bm PySem.F.plainAttrs_str PySem.F.slot_str_join PySem.F.type_str_join mt_join pe_str (pa_cons ha pa_nil hs) hbase hfew hline hs hp) fun σ H Q ⟨a, F, ρ, i, o⟩ =>
    ⟨rfl, a, F, ρ, i, o.bind.imp fun x F1 H1 _ s1 o1 v hv => by
      obtain ⟨d, e, q⟩ := Out.of_some (C := fun _ => a) (K := X.K) (W := WF) (σ := σ) (o1.pure s1.wl)
      exact om_join F1 H1 (.str z) (.str z) [v] [x] d s1.le (.str z) (.cons hv .nil) e Q q⟩
/-! ### statements -/
def FinN (K : PySem.W.Frag) (a : Addr) (D : Ends) : RS → Hp → Hp → Prop
  | .nx ρ, F', H' => ∀ σ', σ'[0]? = some (some (.ref a)) → EnvR K F' σ' ρ → D.nx σ' H'
  | .rt d, F', H' => ∀ v, Dv K F' v d → D.rt v H'
  | _, _, _ => False
abbrev SN := DEnv → N RS
def nS (K : PySem.W.Frag) (s : SN) : TS := fun D σ H => ∃ a F ρ, WIn K a F H σ ρ ∧ OutN a F H (s ρ) (FinN K a D)
abbrev NS (X : Cx) (st : Stmt) (s : SN) : Prop := PS X st (nS X.K s)
abbrev NSs (X : Cx) (st : List Stmt) (s : SN) : Prop := PSs X st (nS X.K s)
def MS.set (i : Nat) (g : EN) : SN := fun ρ => (g ρ).bind fun d => N.of (.ok (.nx (ρ.set i (some d))))
def MS.ret (g : EN) : SN := fun ρ => (g ρ).bind fun d => N.of (.ok (.rt d))
def MS.ite (t : DEnv → N Bool) (s u : SN) : SN := fun ρ => (t ρ).bind fun b => if b then s ρ else u ρ
def MS.seq (s t : SN) : SN := fun ρ => (s ρ).bind fun r => match r with
  | .nx ρ' => t ρ'
  | r => N.of (.ok r)
def MS.pass : SN := fun ρ => N.of (.ok (.nx ρ))
theorem nset_lift {i : Nat} {g : EN} {D : Ends} (hi : i ≠ 0) (h : nS K (MS.set i g) D σ H) : tAsg (nE K g) (gName i) D σ H := by
  obtain ⟨a, F, ρ, w, o⟩ := h
  exact ⟨a, F, ρ, w, o.bind.imp fun d F1 H1 _ s1 o1 v hv => o1.2 _ rfl F1 H1 (Wst.refl s1.le s1.wl) _ (((w.step s1).set hi hv).s0) (((w.step s1).set hi hv).env)⟩
theorem ns_set {i : Nat} {x : Str} {pos' : Pos} {g : EN} (he : NE X e g) (h0 : i ≠ 0) (hN : X.N.Nodup) (hi : X.N[i]? = some x) (hx : Loc X.env.scope x) (hs : swapsWith e (some (.Name x pos')) pos.line X.env = pure false := by rfl) (hf : X.fn x = true ∨ X.env.scope.names.lookup x = some .local := by first | exact .inl rfl | exact .inr rfl) :
    NS X (.Assign [.Name x pos'] e pos) (MS.set i g) := ps_weak (ps_set hN hi hx he hs hf) fun D σ H => nset_lift h0
theorem ns_setLc {i : Nat} {y : Str} {py spos : Pos} {iter : Expr} {scope : Scope} {own : List (Str × Nat)} {g : TG} {bd : Bd} {gi : DEnv → N (List D)} {ge : EN} (hc : X.calm = true) (h0 : i ≠ 0) (hN : X.N.Nodup) (hy : X.N[i]? = some y) (hyl : X.env.scope.names.lookup y = some .local)
    (hsw : swapsWith (.ListComp e [⟨tg, iter, [], 0⟩] scope pos) (some (.Name y py)) spos.line X.env = pure true) (hi : NI X tg iter gi) (ok : BlkOk X.N X.env.scope scope own) (hgo : TgOk X.K g bd (own.map (·.2))) (hz : 0 ∉ own.map (·.2))
    (hg : ∀ (s : Shared) (H : Hp) (Ca : Addr) (cl : List (Str × Addr)) (fp : List Addr), PG (X.blk s H scope (compEnvC scope cl Ca X.env) fp) tg g)
    (he : ∀ (s : Shared) (H : Hp) (Ca : Addr) (cl : List (Str × Addr)) (fp : List Addr), NE (X.blk s H scope (compEnvC scope cl Ca X.env) fp) e ge) (hs : ∀ x, foldedSetIterable iter X.env x = pure x := by intro _; rfl) :
    NS X (.Assign [.Name y py] (.ListComp e [⟨tg, iter, [], 0⟩] scope pos) spos) (MS.set i (M.lc (own.map (·.2)) bd gi ge)) := ps_weak (ps_setLc hc hN hy hyl hsw hi ok hg (fun _ _ _ _ _ => pts_nil) he hs) fun D σ H h => by
  have h2 := nset_lift h0 h
  exact lcN_lift hgo hz σ H _ h2
theorem ns_ret {g : EN} (he : NE X e g) : NS X (.Return (some e) pos) (MS.ret g) := ps_weak (ps_ret he) fun D σ H ⟨a, F, ρ, w, o⟩ =>
  ⟨a, F, ρ, w, o.bind.imp fun d F1 H1 _ s1 o1 v hv => o1.2 _ rfl F1 H1 (Wst.refl s1.le s1.wl) v hv⟩
theorem ns_if {A B : List Stmt} {tt : DEnv → N Bool} {s u : SN} (hc : NT X c tt) (ha : NSs X A s) (hb : NSs X B u) : NS X (.If c A B pos) (MS.ite tt s u) := ps_weak (ps_if hc ha hb) fun D σ H ⟨a, F, ρ, w, o⟩ =>
  ⟨a, F, ρ, w, o.bind.imp fun b F1 H1 _ s1 o1 => by
    cases b with
    | true => exact ⟨a, F1, ρ, w.step s1, o1⟩
    | false => exact ⟨a, F1, ρ, w.step s1, o1⟩⟩
theorem nss_nil : NSs X [] MS.pass := pss_weak pss_nil fun D σ H ⟨a, F, ρ, w, o⟩ => o.2 _ rfl F H (Wst.refl w.le w.w) σ w.s0 w.env
theorem nss_one {s : SN} (h : NS X st s) : NSs X [st] s := pss_one h
theorem nss_cons {s t : SN} (h : NS X st s) (hr : NSs X sts t) : NSs X (st :: sts) (MS.seq s t) := pss_weak (pss_cons h hr) fun D σ H ⟨a, F, ρ, w, o⟩ =>
  ⟨a, F, ρ, w, o.bind.imp fun r F1 H1 _ s1 o1 => by
    cases r with
    | nx ρ' => exact fun σ' h0 env' => ⟨a, F1, ρ', ⟨s1.le, s1.fa w.fa w.w, s1.wl, h0, env'⟩, o1⟩
    | rt d => exact o1.2 _ rfl F1 H1 (Wst.refl s1.le s1.wl)
    | bk d => exact o1.2 _ rfl F1 H1 (Wst.refl s1.le s1.wl)
    | ct d => exact o1.2 _ rfl F1 H1 (Wst.refl s1.le s1.wl)
    | exc c g d => exact o1.2 _ rfl F1 H1 (Wst.refl s1.le s1.wl)
    | bad => exact o1.2 _ rfl F1 H1 (Wst.refl s1.le s1.wl)⟩
/-- what comes last draws nothing more -/
def MS.last (s : Sm) : SN := fun ρ => ⟨∃ d, s ρ = .rt d, fun r => s ρ = r⟩
theorem last_out {s : Sm} {D : Ends} {r : RS} (w : WellAt H wa) (o : OutN wa F H ⟨∃ d, r = .rt d, fun x => r = x⟩ (FinN K wa D)) : OutS C K WF F H r D := by
  obtain ⟨d, e⟩ := o.1
  have e : r = .rt d := e
  subst e
  exact fun v F' H' s hv => o.2 _ rfl F' H' (Wst.of_stp w s) v hv
theorem nss_last {s : Sm} (h : DSs X C WF sts s) : NSs X sts (MS.last s) := pss_weak h fun D σ H ⟨a, F, ρ, w, o⟩ => ⟨F, ρ, w.le, w.env, last_out (s := s) w.w o⟩
theorem for_core {g : TG} {bd : Bd} {vs : List Nat} {s : Sm} {ds : List D} {J : It} {D : Ends} (hg : TgOk K g bd vs) (le : Ex F1 H1) (env : EnvR K F1 σ ρ) (o1 : OutS C K W F1 H1 (forL bd s ds ρ) D) (wk : Wk K F1 J ds) :
    ∃ Wf : Nat → Nat → L2.St → Hp → Prop, (∃ m, Wf 0 m σ H1) ∧ ∀ i m σ H, Wf i m σ H → (J.stop i H ∧ D.nx σ H) ∨ (J.go i H ∧ ∃ N : L2.St → Hp → Prop, (∀ σ' H', N σ' H' → ∃ m', m' < m ∧ Wf (i + 1) m' σ' H') ∧ ∀ x H', J.yld i H x H' → g x σ H' fun σ2 H2 => tS C K W s { D with nx := N, ct := N, bk := D.nx } σ2 H2) := by
  refine ⟨fun i m σ' H' => m = ds.length - i ∧ i ≤ ds.length ∧ ∃ Fi ρi, Stp F1 H1 Fi H' ∧ EnvR K Fi σ' ρi ∧ OutS C K W Fi H' (forL bd s (ds.drop i) ρi) D, ⟨ds.length, by simp, Nat.zero_le _, F1, ρ, Stp.refl le, env, o1⟩, ?_⟩
  rintro i m σi Hi ⟨rfl, hi, Fi, ρi, st, envi, oi⟩
  by_cases hlt : i < ds.length
  · have hgo := (wk i Fi Hi st.f st.le).1 ds[i] (List.getElem?_eq_getElem hlt)
    refine .inr ⟨hgo.1, fun σ' H' => ∃ m', m' < ds.length - i ∧ (m' = ds.length - (i + 1) ∧ i + 1 ≤ ds.length ∧ ∃ Fi ρi, Stp F1 H1 Fi H' ∧ EnvR K Fi σ' ρi ∧ OutS C K W Fi H' (forL bd s (ds.drop (i + 1)) ρi) D), fun σ' H' z => z, fun x H2 y => ?_⟩
    obtain ⟨F2, st2, hx⟩ := hgo.2 x H2 y
    rw [List.drop_eq_getElem_cons hlt] at oi
    unfold forL at oi
    cases hb : bd ds[i] ρi with
    | none => rw [hb] at oi; exact oi.elim
    | some ρ1 =>
      rw [hb] at oi
      refine hg.go F2 H2 x σi ρi ds[i] ρ1 _ st2.le (envi.mono st2.f) hx hb fun σ' env3 hk => ⟨F2, ρ1, st2.le, env3, ?_⟩
      have oi2 := OutS.mono oi st2
      cases hs : s ρ1 with
      | nx ρ2 =>
        simp only [hs] at oi2
        exact fun σ4 F4 H4 st4 env4 => ⟨ds.length - (i + 1), by omega, rfl, hlt, F4, ρ2, (st.trans st2).trans st4, env4, OutS.mono oi2 st4⟩
      | ct ρ2 =>
        simp only [hs] at oi2
        exact fun σ4 F4 H4 st4 env4 => ⟨ds.length - (i + 1), by omega, rfl, hlt, F4, ρ2, (st.trans st2).trans st4, env4, OutS.mono oi2 st4⟩
      | bk ρ2 => simp only [hs] at oi2; exact oi2
      | rt d => simp only [hs] at oi2; exact oi2
      | exc c g ρ2 => simp only [hs] at oi2; exact oi2
      | bad => simp only [hs] at oi2; exact oi2
  · have ei : i = ds.length := by omega
    subst ei
    rw [List.drop_length] at oi
    exact .inl ⟨(wk _ Fi Hi st.f st.le).2 (Nat.le_refl _), oi σi Fi Hi (Stp.refl st.le) envi⟩
/-- a loop over what was drawn, its turns and all that comes after it draw nothing -/
def MS.forLast (bd : Bd) (gi : DEnv → N (List D)) (s rest : Sm) : SN := fun ρ => (gi ρ).bind fun ds => ⟨∃ d, S.seq (forL bd s ds) rest ρ = .rt d, fun r => S.seq (forL bd s ds) rest ρ = r⟩
theorem nss_for {iter : Expr} {body : List Stmt} {g : TG} {bd : Bd} {vs : List Nat} {gi : DEnv → N (List D)} {s rest : Sm} (hg : TgOk X.K g bd vs) (hp : PassesOwn (model X.prog X.w) X.A X.env X.xe) (hc : X.calm = true) (hi : NI X tg iter gi) (hgt : PG X tg g) (hb : DSs X C WF body s) (hr : DSs X C WF sts rest)
    (hs : ∀ x, foldedSetIterable iter X.env x = pure x := by intro _; rfl) : NSs X (.For tg iter body [] pos :: sts) (MS.forLast bd gi s rest) := pss_weak (pss_cons (ps_for hp hc hi hgt hb hs) hr) fun D σ H ⟨a, F, ρ, w, o⟩ =>
  ⟨a, F, ρ, w, o.bind.imp fun ds F1 H1 _ s1 o1 J wk => by
    have o2 : OutS C X.K WF F1 H1 (S.seq (forL bd s ds) rest ρ) D := last_out (s := s) s1.wl o1
    obtain ⟨F', ρ', le', env', _⟩ : tS C X.K WF (S.seq (forL bd s ds) rest) D σ H1 := ⟨F1, ρ, s1.le, w.env.mono s1.f, o2⟩
    have o3 : OutS C X.K WF F1 H1 (forL bd s ds ρ) { D with nx := tS C X.K WF rest D } := by
      unfold S.seq at o2
      cases h : forL bd s ds ρ with
      | nx ρ' =>
        simp only [h] at o2
        exact fun σ' F' H' st env' => ⟨F', ρ', st.le, env', OutS.mono o2 st⟩
      | rt d => simp only [h] at o2; exact o2
      | bk d => simp only [h] at o2; exact o2
      | ct d => simp only [h] at o2; exact o2
      | exc c g d => simp only [h] at o2; exact o2
      | bad => simp only [h] at o2; exact o2
    exact for_core hg s1.le (w.env.mono s1.f) o3 wk⟩
end
/-! ### defs -/
def finN : N RS → N D := fun n => n.bind fun r => match r with
  | .rt d => N.of (.ok d)
  | .nx _ => N.of (.ok .non)
  | _ => N.of .bad
def beginN (m : Nat) (ds : List D) : DEnv := none :: begin ds.length m ds
def runN (n m : Nat) (s : SN) (ds : List D) : N D := ⟨ds.length = n ∧ (finN (s (beginN m ds))).ok, (finN (s (beginN m ds))).out⟩
section
variable {P : Program} {w : World} {K : PySem.W.Frag} {mg : Str → Option Value} {base : Heap} {C : Nat → Addr} {x qual : Str} {st : Stmt} {fa : Addr} {fd : FuncData} {n0 : Str} {N ps : List Str} {p0 : Str} {k : Nat} {body : SN}
theorem fn_n (Fn : Fun K x qual st fa fd) (S : FnScope (n0 :: N) (p0 :: ps) (defScope st))
    (hbody : ∀ (cdv : Value) (A : Around) (outer : List PySem.Env) (s : Shared) (H : Hp) (E : XK), Room k (A.deeper (envOfC qual (defScope st) s.heap.objs.size fa cdv)) → NSs (cxOf (L2.CX P w) P w K mg base (n0 :: N) qual (defScope st) fa cdv A outer s H E) (defBody st) body) :
    FnOk P w K mg base (L2.CX P w) (k + 1) fa fd (p0 :: ps) (spN K ps.length (runN ps.length N.length body)) := by
  refine Fun.okX Fn S (fun vs H Q E h => ?_) fun cdv A outer s H vs Q E hr h => ⟨_, hbody cdv A outer s H E hr, ?_⟩
  · obtain ⟨a, us, F, ds, rfl, hl, _⟩ := h
    simp [hl]
  · obtain ⟨a, us, F, ds, rfl, hl, le, fa', w', hd, o⟩ := h
    have hds : ds.length = ps.length := by rw [← hd.len]; exact hl
    have env := begin_env (N := N) hd
    have e1 : L2.start (n0 :: N) (.ref a :: us) = some (.ref a) :: L2.start N us := by
      unfold L2.start
      simp
    have env' : EnvR K F (L2.start (n0 :: N) (.ref a :: us)) (beginN N.length ds) := by
      rw [e1]
      unfold beginN
      rw [← hd.len]
      refine ⟨by simp [env.len], fun i d hi => ?_⟩
      cases i with
      | zero => simp at hi
      | succ i => exact env.get i d (by simpa using hi)
    refine ⟨a, F, beginN N.length ds, ⟨le, fa', w', by rw [e1]; rfl, env'⟩, ?_⟩
    have o' : OutN a F H (finN (body (beginN N.length ds))) (Pd K Q) := ⟨o.1.2, o.2⟩
    refine o'.bind.imp fun r F1 H1 _ s1 o1 => ?_
    cases r with
    | nx ρ => exact fun σ' _ _ => o1.2 _ rfl F1 H1 (Wst.refl s1.le s1.wl) _ .non
    | rt d => exact fun v hv => o1.2 _ rfl F1 H1 (Wst.refl s1.le s1.wl) v hv
    | bk d => obtain ⟨x, e⟩ := o1.1; cases e
    | ct d => obtain ⟨x, e⟩ := o1.1; cases e
    | exc c g d => obtain ⟨x, e⟩ := o1.1; cases e
    | bad => obtain ⟨x, e⟩ := o1.1; cases e
theorem mk_N (Fn : Fun K x x st fa fd) (S : FnScope (n0 :: N) (p0 :: ps) (defScope st)) (hm : mg x = some (.ref fa))
    (hb : ∀ (kV doc pm : Value) (an : Option Addr) (cdv ct : Value) (us : List Value), us.length = (p0 :: ps).length → bindArgs (PySem.W.fnOf x x (defArgs st) (defBody st) (defScope st) .none kV doc pm an cdv ct) ⟨us, []⟩ = pure ((p0 :: ps).zip us))
    (hbody : ∀ (cdv : Value) (A : Around) (outer : List PySem.Env) (s : Shared) (H : Hp) (E : XK), Room k (A.deeper (envOfC x (defScope st) s.heap.objs.size fa cdv)) → NSs (cxOf (L2.CX P w) P w K mg base (n0 :: N) x (defScope st) fa cdv A outer s H E) (defBody st) body) :
    NOk P w K mg base x ps.length (k + 1) (runN ps.length N.length body) :=
  ⟨⟨fa, fd, _, fn_n Fn S hbody, hm, Fn.kp, Fn.binds hb⟩, fun ds h => h.1⟩
end
end DL

set_option Elab.async false
set_option linter.all false
set_option maxRecDepth 100000
set_option maxHeartbeats 2000000
/-! numbers' further operations; the well itself -/
namespace DL
open PySem PySem.Spec PyProof.Rows L2
open Evl (Ex)
section
variable {K : PySem.W.Frag}
def modD : D → D → Option D
  | .int i, .int j => if decide (0 < j) then some (.int (i % j)) else none
  | _, _ => none
theorem o2_mod : Op2 K (rI (fun _ j => 0 < j) fun i j => .int (i % j)) modD := by
  intro F H v u x y d le hv hu e Q q
  cases hv with
  | int i =>
    cases hu with
    | int j =>
      obtain ⟨h1, h2⟩ := of_if (show (if decide (0 < j) then some (D.int (i % j)) else none) = some d from e)
      subst h2
      exact ⟨i, j, rfl, rfl, of_decide_eq_true h1, q F H (Stp.refl le) _ (.int _)⟩
    | _ => cases e
  | _ => cases hu <;> cases e
def fdivD : D → D → Option D
  | .int i, .int j => if decide (0 < j) && decide (j < 1073741824) then some (.int (i / j)) else none
  | _, _ => none
theorem o2_fdiv : Op2 K (rI CDiv fun i j => .int (i / j)) fdivD := by
  intro F H v u x y d le hv hu e Q q
  cases hv with
  | int i =>
    cases hu with
    | int j =>
      obtain ⟨h1, h2⟩ := of_if (show (if decide (0 < j) && decide (j < 1073741824) then some (D.int (i / j)) else none) = some d from e)
      rw [Bool.and_eq_true] at h1
      subst h2
      exact ⟨i, j, rfl, rfl, ⟨of_decide_eq_true h1.1, of_decide_eq_true h1.2⟩, q F H (Stp.refl le) _ (.int _)⟩
    | _ => cases e
  | _ => cases hu <;> cases e
def sixty (i : Int) : Bool := decide (-(2 ^ 64) < i) && decide (i < 2 ^ 64)
/-- a text, many times -/
def repS (z : Str) (n : Nat) : Str := ⟨(List.replicate n z.cps).foldl (· ++ ·) #[]⟩
theorem repS_len (z : Str) (n : Nat) : (repS z n).length = z.length * n := by
  have a : ∀ (k : Nat) (acc : Array Nat), ((List.replicate k z.cps).foldl (· ++ ·) acc).size = acc.size + z.cps.size * k := fun k => by
    induction k with
    | zero => intro acc; simp
    | succ k ih =>
      intro acc
      rw [List.replicate_succ, List.foldl_cons, ih, Array.size_append, Nat.mul_succ]
      omega
  show ((List.replicate n z.cps).foldl (· ++ ·) #[]).size = _
  rw [a]
  simp [Str.length]
def rMulS : R2 := fun x y H Q => ∃ (i : Str) (n : Int), x = .str i ∧ y = .int n ∧ 2 ≤ n ∧ n ≤ 1000 ∧ 1 ≤ i.length ∧ i.length ≤ 1000 ∧ Q (.str (repS i n.toNat)) H
theorem op_mulS {X : Cx} : OpR X (binaryOp .Mult) rMulS := by
  intro pins s σ H x y v u Q I rx ry h
  obtain ⟨i, n, rfl, rfl, h1, h2, h3, h4, q⟩ := h
  obtain ⟨t, rfl⟩ := rx
  obtain ⟨t', rfl⟩ := ry
  have hz : i.length * n.toNat ≤ 1000000 := Nat.le_trans (Nat.mul_le_mul h4 (show n.toNat ≤ 1000 by omega)) (by decide)
  have hs : (1000000 : Nat) ≤ sizeLine := by decide
  have hl : Builtin.Str.tooLong (i.length * n.toNat) = false := by
    show decide (i.length * n.toNat > sizeLine) = false
    exact decide_eq_false (by omega)
  have hr : (repS i n.toNat).length = i.length * n.toNat := by
    rw [repS_len]
  refine PySem.P.mul_str (by rw [decide_eq_false (by omega), decide_eq_false (by omega)]; rfl) (fun _ _ => ?_) (fun _ _ => hl) ?_
  · have h9 : (1000 : Int) ≤ (2 ^ 63 - 1) / n := (Int.le_ediv_iff_mul_le (by omega)).mpr (by omega)
    omega
  · rw [if_neg (by omega), if_neg]
    · exact ⟨by show (repS i n.toNat).length ≤ sizeLine; rw [hr]; omega, ⟨.str (repS i n.toNat), H, I.tok _, ⟨_, rfl⟩, q⟩⟩
    · rw [Bool.or_eq_true]
      intro h
      rcases h with h | h
      · have := eq_of_beq h; omega
      · have := eq_of_beq h; omega
def rMulD : R2 := fun x y H Q => rI CMul (fun i j => .int (i * j)) x y H Q ∨ rMulS x y H Q
theorem op_mulD {X : Cx} : OpR X (binaryOp .Mult) rMulD := OpR.or op_mul op_mulS
def mulD : D → D → Option D
  | .int i, .int j => if sixty i || sixty j then some (.int (i * j)) else none
  | .str z, .int n => if (decide (2 ≤ n) && decide (n ≤ 1000)) && (decide (1 ≤ z.length) && decide (z.length ≤ 1000)) then some (.str (repS z n.toNat)) else none
  | _, _ => none
theorem o2_mul : Op2 K rMulD mulD := by
  intro F H v u x y d le hv hu e Q q
  cases hv with
  | int i =>
    cases hu with
    | int j =>
      obtain ⟨h1, h2⟩ := of_if (show (if sixty i || sixty j then some (D.int (i * j)) else none) = some d from e)
      rw [Bool.or_eq_true] at h1
      subst h2
      refine .inl ⟨i, j, rfl, rfl, ?_, q F H (Stp.refl le) _ (.int _)⟩
      unfold sixty at h1
      rw [Bool.and_eq_true, Bool.and_eq_true] at h1
      rcases h1 with h | h
      · exact .inl ⟨of_decide_eq_true h.1, of_decide_eq_true h.2⟩
      · exact .inr ⟨of_decide_eq_true h.1, of_decide_eq_true h.2⟩
    | _ => cases e
  | str z =>
    cases hu with
    | int n =>
      obtain ⟨h1, h2⟩ := of_if (show (if (decide (2 ≤ n) && decide (n ≤ 1000)) && (decide (1 ≤ z.length) && decide (z.length ≤ 1000)) then some (D.str (repS z n.toNat)) else none) = some d from e)
      rw [Bool.and_eq_true, Bool.and_eq_true, Bool.and_eq_true] at h1
      subst h2
      exact .inr ⟨z, n, rfl, rfl, of_decide_eq_true h1.1.1, of_decide_eq_true h1.1.2, of_decide_eq_true h1.2.1, of_decide_eq_true h1.2.2, q F H (Stp.refl le) _ (.str _)⟩
    | _ => cases e
  | _ => cases hu <;> cases e
/-- one int in, an int out -/
def intID : List D → Option D
  | [.int i] => some (.int i)
  | _ => none
theorem on_intI : OpN K (fun xs H Q => (∃ i, xs = [.int i] ∧ Q (.int i) H) ∨ ∃ k, xs = [.bl k] ∧ Q (.int (if k then 1 else 0)) H) intID := by
  intro F H v x d le hv e Q q
  cases hv with
  | nil => cases e
  | @cons v vs x ds h t =>
    cases t with
    | cons _ _ => cases x <;> cases e
    | nil =>
      cases h with
      | int z =>
        cases (Option.some.inj e)
        exact .inl ⟨z, rfl, q F H (Stp.refl le) _ (.int _)⟩
      | _ => cases e
def absD : List D → Option D
  | [.int i] => some (.int (if i < 0 then -i else i))
  | _ => none
theorem on_abs : OpN K (fun xs H Q => ∃ i, xs = [.int i] ∧ Q (.int (if i < 0 then -i else i)) H) absD := by
  intro F H v x d le hv e Q q
  cases hv with
  | nil => cases e
  | @cons v vs x ds h t =>
    cases t with
    | cons _ _ => cases x <;> cases e
    | nil =>
      cases h with
      | int z =>
        cases (Option.some.inj e)
        exact ⟨z, rfl, q F H (Stp.refl le) _ (.int _)⟩
      | _ => cases e
def maxD : List D → Option D
  | [.int i, .int j] => some (.int (if j > i then j else i))
  | _ => none
def minD : List D → Option D
  | [.int i, .int j] => some (.int (if j < i then j else i))
  | _ => none
theorem two_ints {F : Hp} {v : List V} {i j : Int} (h : DvA K F v [.int i, .int j]) : v = [.int i, .int j] := by
  cases h with
  | cons h1 t1 =>
    cases t1 with
    | cons h2 t2 =>
      cases t2
      cases h1
      cases h2
      rfl
theorem on_max : OpN K (fun xs H Q => ∃ i j, xs = [.int i, .int j] ∧ Q (.int (if j > i then j else i)) H) maxD := by
  intro F H v x d le hv e Q q
  unfold maxD at e
  split at e
  · cases (Option.some.inj e)
    exact ⟨_, _, two_ints hv, q F H (Stp.refl le) _ (.int _)⟩
  · cases e
theorem on_min : OpN K (fun xs H Q => ∃ i j, xs = [.int i, .int j] ∧ Q (.int (if j < i then j else i)) H) minD := by
  intro F H v x d le hv e Q q
  unfold minD at e
  split at e
  · cases (Option.some.inj e)
    exact ⟨_, _, two_ints hv, q F H (Stp.refl le) _ (.int _)⟩
  · cases e
def divmodD : List D → Option D
  | [.int i, .int j] => if decide (0 < j) && decide (j < 1073741824) then some (.tup [.int (i / j), .int (i % j)]) else none
  | _ => none
theorem on_divmod : OpN K (fun xs H Q => ∃ i j, xs = [.int i, .int j] ∧ CDiv i j ∧ ∀ p, H p = none → Q (.ref p) (upd H p (.tup [.int (i / j), .int (i % j)]))) divmodD := by
  intro F H v x d le hv e Q q
  unfold divmodD at e
  split at e
  · rename_i i j
    obtain ⟨h1, h2⟩ := of_if e
    rw [Bool.and_eq_true] at h1
    subst h2
    exact ⟨_, _, two_ints hv, ⟨of_decide_eq_true h1.1, of_decide_eq_true h1.2⟩, fun p hp => q _ _ (Stp.add le hp) _ (put_tup le hp (.cons (.int _) (.cons (.int _) .nil)))⟩
  · cases e
def intsD : List D → Option (List Int)
  | [] => some []
  | .int i :: ds => (intsD ds).map (i :: ·)
  | _ :: _ => none
theorem ints_some {F : Hp} : ∀ {ds : List D} {ns : List Int} {vs : List V}, intsD ds = some ns → DvA K F vs ds → vs = ns.map V.int
  | [], _, _, e, .nil => by
    cases (Option.some.inj e)
    rfl
  | .int i :: ds, _, _, e, .cons h t => by
    obtain ⟨m, h1, h2⟩ := Option.map_eq_some_iff.mp (show (intsD ds).map (i :: ·) = some _ from e)
    subst h2
    cases h
    rw [ints_some h1 t]
    rfl
  | .non :: _, _, _, e, _ => by cases e
  | .bl _ :: _, _, _, e, _ => by cases e
  | .str _ :: _, _, _, e, _ => by cases e
  | .lst _ :: _, _, _, e, _ => by cases e
  | .tup _ :: _, _, _, e, _ => by cases e
  | .dic _ :: _, _, _, e, _ => by cases e
def sumD : List D → Option D
  | [.lst ds] => (intsD ds).map fun ns => .int ns.sum
  | _ => none
theorem on_sum : OpN K (rSum K) sumD := by
  intro F H v x d le hv e Q q
  cases hv with
  | nil => cases e
  | @cons v vs x ds h t =>
    cases t with
    | cons _ _ => cases x <;> cases e
    | nil =>
      cases h with
      | @lst a xs ds ha hd =>
        obtain ⟨ns, h1, h2⟩ := Option.map_eq_some_iff.mp (show (intsD ds).map (fun ns => D.int ns.sum) = some d from e)
        subst h2
        have hx := ints_some h1 hd
        subst hx
        exact ⟨a, ns, rfl, Evl.ex_l le ha, q F H (Stp.refl le) _ (.int _)⟩
      | _ => cases e
end
section
variable {X : Cx} {K : PySem.W.Frag} {C : Nat → Addr} {W : WX} {a b c e tg : Expr} {es : List Expr} {pos p : Pos} {σ : L2.St} {F H F1 H1 : Hp} {wa : Addr} {ρ : DEnv} {st : Stmt} {sts : List Stmt} {x : Str}
/-! ### built-in functions of what was drawn -/
def M.fn (f : List D → Option D) (gs : DEnv → N (List D)) : EN := fun ρ => (gs ρ).bind fun xs => N.of (R.of (f xs))
theorem nfn_lift {r : List V → Hp → VK → Prop} {f : List D → Option D} {gs : DEnv → N (List D)} (hf : OpN X.K r f) (σ : L2.St) (H : Hp) (Q : VK) (h : nE X.K (M.fn f gs) σ H Q) : tCB r (nA X.K gs) σ H Q := by
  obtain ⟨a, F, ρ, i, o⟩ := h
  refine ⟨a, F, ρ, i, o.bind.imp fun xs F1 H1 _ s1 o1 vs hvs => ?_⟩
  obtain ⟨d, e, q⟩ := Out.of_some (C := fun _ => a) (K := X.K) (W := WF) (σ := σ) (o1.pure s1.wl)
  exact hf F1 H1 vs xs d s1.le hvs e Q q
theorem ne_callB {id : String} {r : List V → Hp → VK → Prop} {f : List D → Option D} {gs : DEnv → N (List D)} (hc : CallR X (.builtin id) r) (hf : OpN X.K r f) (hg : Gl X x) (hm : X.mg x = none) (hv : bootBuiltins x = some (.builtin id)) (ha : NA X (e :: es) gs) (hn : x ≠ "__name__" := by decide) (hdb : (x == ("__debug__" : Str)) = false := by decide)
    (he : starEach (e :: es) X.env = (false, eval e X.env) :: starEach es X.env := by rfl) (hpl : (backTo pos (starEach es X.env)).any (·.1) = false := by rfl) : NE X (.Call (.Name x p) (e :: es) [] pos) (M.fn f gs) :=
  pe_weak (pe_callB hc hg hm hv ha hn hdb he hpl) (nfn_lift hf)
theorem ne_callT {T : String} {r : List V → Hp → VK → Prop} {f : List D → Option D} {gs : DEnv → N (List D)} (hc : CallR X (.type T) r) (hf : OpN X.K r f) (hg : Gl X x) (hm : X.mg x = none) (hv : bootBuiltins x = some (.type T)) (ha : NA X (e :: es) gs) (hn : x ≠ "__name__" := by decide) (hdb : (x == ("__debug__" : Str)) = false := by decide)
    (he : starEach (e :: es) X.env = (false, eval e X.env) :: starEach es X.env := by rfl) (hpl : (backTo pos (starEach es X.env)).any (·.1) = false := by rfl) : NE X (.Call (.Name x p) (e :: es) [] pos) (M.fn f gs) :=
  pe_weak (pe_callTy hc hg hm hv ha hn hdb he hpl) (nfn_lift hf)
/-! ### the well read, the well written -/
def M.well : EN := fun _ => ⟨True, fun d => ∃ i : Int, d = .int i⟩
theorem ne_well {wn : Str} {pw : Pos} {k : Int} {j} {p2 : Pos} (hk : 0 ≤ k ∧ k < 3) (h0 : PE X (.Name wn pw) (tVar 0)) (hs : PlainIx (.Constant (.int k) j p2) := by exact fun _ _ => rfl) : NE X (.Subscript (.Name wn pw) (.Constant (.int k) j p2) pos) M.well :=
  pe_weak (pe_ix ix_seq h0 pe_int hs) fun σ H Q ⟨a, F, ρ, i, o⟩ => by
    obtain ⟨x, y, z, hw⟩ := i.w
    have q := fun (n : Int) => o.2 (.int n) ⟨n, rfl⟩ F H (Wst.refl i.le i.w) _ (.int n)
    refine ⟨_, i.s0, ?_⟩
    have hk' : k = 0 ∨ k = 1 ∨ k = 2 := by omega
    rcases hk' with rfl | rfl | rfl
    · exact .inl ⟨a, _, 0, .int x, rfl, rfl, Evl.sq_of hw, rfl, q x⟩
    · exact .inl ⟨a, _, 1, .int y, rfl, rfl, Evl.sq_of hw, rfl, q y⟩
    · exact .inl ⟨a, _, 2, .int z, rfl, rfl, Evl.sq_of hw, rfl, q z⟩
/-- an int put into the well -/
theorem put_well {k : Int} {n : Int} {Q : Hp → Prop} (hk : 0 ≤ k ∧ k < 3) (fa : F wa = none) (le : Ex F H) (w : WellAt H wa) (q : ∀ H', Wst wa F H F H' → Q H') : rSetL (.ref wa) (.int k) (.int n) H Q := by
  obtain ⟨x, y, z, hw⟩ := w
  have st : ∀ us : List V, (∃ x y z : Int, us = [.int x, .int y, .int z]) → Wst wa F H F (upd H wa (.lst us)) := fun us ⟨x, y, z, e⟩ => ⟨fun b o n h => by rw [upd_ne n]; exact h, Ex.refl F, fun b o h => by rw [upd_ne (fun r => by rw [r, fa] at h; cases h)]; exact le _ _ h, fun b n _ => n, ⟨x, y, z, by rw [upd_same, e]⟩⟩
  have hk' : k = 0 ∨ k = 1 ∨ k = 2 := by omega
  rcases hk' with rfl | rfl | rfl
  · exact ⟨wa, _, 0, 0, rfl, rfl, hw, rfl, q _ (st _ ⟨n, y, z, rfl⟩)⟩
  · exact ⟨wa, _, 1, 1, rfl, rfl, hw, rfl, q _ (st _ ⟨x, n, z, rfl⟩)⟩
  · exact ⟨wa, _, 2, 2, rfl, rfl, hw, rfl, q _ (st _ ⟨x, y, n, rfl⟩)⟩
def MS.put (g : EN) : SN := fun ρ => (g ρ).bind fun d => ⟨∃ n : Int, d = .int n, fun r => r = .nx ρ⟩
theorem ns_put {wn : Str} {pw ps : Pos} {k : Int} {j} {p2 : Pos} {g : EN} (hk : 0 ≤ k ∧ k < 3) (h0 : PE X (.Name wn pw) (tVar 0)) (he : NE X e g)
    (ha : ∀ v, assign (.Subscript (.Name wn pw) (.Constant (.int k) j p2) ps) X.env v = (do
      let ov ← holding [v] (eval (.Name wn pw) X.env)
      let iv ← holding [v, ov] (eval (.Constant (.int k) j p2) X.env)
      standAt ps
      holding [v, ov, iv] (setItem ov iv v)
      release [v, ov, iv] []) := by intro _; rfl) (hs : swapsWithSole [.Subscript (.Name wn pw) (.Constant (.int k) j p2) ps] e pos.line X.env = pure false := by rfl) (hw : swappedStores [.Subscript (.Name wn pw) (.Constant (.int k) j p2) ps] e X.env = pure none := by rfl)
    (h1 : (assignEach [.Subscript (.Name wn pw) (.Constant (.int k) j p2) ps] X.env).map (·.2) = [assign (.Subscript (.Name wn pw) (.Constant (.int k) j p2) ps) X.env] := by rfl) :
    NS X (.Assign [.Subscript (.Name wn pw) (.Constant (.int k) j p2) ps] e pos) (MS.put g) := ps_weak (ps_asg he (pg_sub h0 pe_int set_list ha) hs hw h1) fun D σ H ⟨a, F, ρ, w, o⟩ =>
  ⟨a, F, ρ, w, o.bind.imp fun d F1 H1 _ s1 o1 v hv => by
    obtain ⟨n, e⟩ := o1.1
    subst e
    cases hv
    have w1 := w.step s1
    exact ⟨_, w1.s0, put_well hk w1.fa w1.le w1.w fun H' s' => o1.2 _ rfl F1 H' s' σ w1.s0 (w1.env)⟩⟩
/-- well[k], name = a pair of ints -/
def MS.putTwo (i : Nat) (g : EN) : SN := fun ρ => (g ρ).bind fun d => ⟨∃ n m : Int, d = .tup [.int n, .int m], fun r => ∃ n m : Int, d = .tup [.int n, .int m] ∧ r = .nx (ρ.set i (some (.int m)))⟩
theorem ns_putTwo {wn : Str} {pw ps pt : Pos} {k : Int} {j kt} {p2 : Pos} {i : Nat} {nm : Expr} {g : EN} (hc : X.calm = true) (hk : 0 ≤ k ∧ k < 3) (h0 : PE X (.Name wn pw) (tVar 0)) (hi0 : i ≠ 0) (hn : PG X nm (gName i)) (he : NE X e g)
    (ha : ∀ v, assign (.Subscript (.Name wn pw) (.Constant (.int k) j p2) ps) X.env v = (do
      let ov ← holding [v] (eval (.Name wn pw) X.env)
      let iv ← holding [v, ov] (eval (.Constant (.int k) j p2) X.env)
      standAt ps
      holding [v, ov, iv] (setItem ov iv v)
      release [v, ov, iv] []) := by intro _; rfl)
    (hpg : ∀ t, PGs X [.Subscript (.Name wn pw) (.Constant (.int k) j p2) ps, nm] t → PG X (.Tuple [.Subscript (.Name wn pw) (.Constant (.int k) j p2) ps, nm] kt pt) (gTup X.K 2 t))
    (hs : swapsWithSole [.Tuple [.Subscript (.Name wn pw) (.Constant (.int k) j p2) ps, nm] kt pt] e pos.line X.env = pure false := by rfl) (hw : swappedStores [.Tuple [.Subscript (.Name wn pw) (.Constant (.int k) j p2) ps, nm] kt pt] e X.env = pure none := by rfl)
    (h1 : (assignEach [.Tuple [.Subscript (.Name wn pw) (.Constant (.int k) j p2) ps, nm] kt pt] X.env).map (·.2) = [assign (.Tuple [.Subscript (.Name wn pw) (.Constant (.int k) j p2) ps, nm] kt pt) X.env] := by rfl)
    (hps : PGs X [.Subscript (.Name wn pw) (.Constant (.int k) j p2) ps, nm] (gCons (gSub (tVar 0) (tC (.int k)) rSetL) (gCons (gName i) gNil))) :
    NS X (.Assign [.Tuple [.Subscript (.Name wn pw) (.Constant (.int k) j p2) ps, nm] kt pt] e pos) (MS.putTwo i g) := ps_weak (ps_asg he (hpg _ hps) hs hw h1) fun D σ H ⟨a, F, ρ, w, o⟩ =>
  ⟨a, F, ρ, w, o.bind.imp fun d F1 H1 _ s1 o1 v hv => by
    obtain ⟨n, m, e⟩ := o1.1
    subst e
    have w1 := w.step s1
    cases hv with
    | @tup b xs ds hb hd =>
      have hx := two_ints hd
      subst hx
      refine ⟨b, _, rfl, Evl.ex_t w1.le hb, rfl, _, _, rfl, _, w1.s0, put_well hk w1.fa w1.le w1.w fun H' s' => ⟨_, _, rfl, rfl, ?_⟩⟩
      have w2 := (w1.step s').set hi0 (.int m)
      exact o1.2 _ ⟨n, m, rfl, rfl⟩ F1 H' s' _ w2.s0 w2.env⟩
/-! ### a well made -/
def spW (K : PySem.W.Frag) (n : Nat) (f : List D → R (List D)) : Sp := fun vs H Q _ => vs.length = n ∧ ∃ F ds x y z, Ex F H ∧ DvA K F vs ds ∧ f ds = .ok [.int x, .int y, .int z] ∧ ∀ F' H' q, Stp F H F' H' → H' q = none → Q (.ref q) (upd H' q (.lst [.int x, .int y, .int z]))
structure WOk (P : Program) (w : World) (K : PySem.W.Frag) (mg : Str → Option Value) (base : Heap) (x : Str) (n k : Nat) (f : List D → R (List D)) : Prop where
  ex : ∃ fa fd ps, FnOk P w K mg base (L2.CX P w) k fa fd ps (spW K n f) ∧ mg x = some (.ref fa) ∧ PySem.W.keepIn K (.ref fa) = true ∧ Binds K fd ps []
def f_wr (fw : List D → R (List D)) (n : Nat) : List D → R D := fun ds => if ds.length = n then (fw ds).nx.bind fun xs => match xs with
  | [.int _, .int _, .int _] => .ok (.bl true)
  | _ => .bad else .bad
theorem de_right {x2 : Str} {p2 pos2 : Pos} {n j k k2 : Nat} {fw : List D → R (List D)} {fr : List D → N D} {gs : DEnv → R (List D)} (Wk : WOk X.prog X.w X.K X.mg X.base x2 n j fw) (Nk : NOk X.prog X.w X.K X.mg X.base x 0 k2 fr) (hR : (fr []).ok ∧ ∀ d, (fr []).out d → d = .bl true) (hr : Room k X.A) (hjk : j ≤ k) (hjk2 : k2 ≤ k) (hg : Gl X x) (hg2 : Gl X x2) (tk : Takes X W)
    (ha : DA X C W (e :: es) gs) (hdb : (x == ("__debug__" : Str)) = false := by decide) (hdb2 : (x2 == ("__debug__" : Str)) = false := by decide)
    (hs2 : starEach (e :: es) X.env = (false, eval e X.env) :: starEach es X.env := by rfl) (hpl2 : (backTo pos2 (starEach es X.env)).any (·.1) = false := by rfl)
    (hs : starEach [.Call (.Name x2 p2) (e :: es) [] pos2] X.env = (false, eval (.Call (.Name x2 p2) (e :: es) [] pos2) X.env) :: starEach [] X.env := by rfl) (hpl : (backTo pos (starEach [] X.env)).any (·.1) = false := by rfl) :
    DE X C W (.Call (.Name x p) [.Call (.Name x2 p2) (e :: es) [] pos2] [] pos) (E.call (f_wr fw n) gs) := by
  obtain ⟨fa, fd, ps, h1, h2, h3, h4⟩ := Nk.ex
  obtain ⟨ga, gd, qs, g1, g2, g3, g4⟩ := Wk.ex
  refine pe_weak (pe_callS (E := WE W) h1 (hr.mono hjk2) hg h2 h3 h4 (fun σ => passAt tk σ) (pa_cons (pe_callS (E := WE W) g1 (hr.mono hjk) hg2 g2 g3 g4 (fun σ => passAt tk σ) ha hdb2 hs2 hpl2) pa_nil hs) hdb hs hpl) fun σ H Q ⟨F, ρ, le, env, o⟩ => ?_
  refine ⟨F, ρ, le, env, o.bind.imp fun xs F1 H1 s1 o1 vs hvs => ?_⟩
  unfold f_wr at o1
  by_cases hl : xs.length = n
  · rw [if_pos hl] at o1
    have o2 := o1.bind
    cases hf : fw xs with
    | bad => rw [hf] at o2; exact o2.elim
    | exc c g => rw [hf] at o2; exact o2.elim
    | ok ys =>
      rw [hf] at o2
      have o3 := o2 F1 H1 (Stp.refl s1.le)
      dsimp only at o3
      split at o3
      · rename_i x y z
        refine ⟨by rw [hvs.len]; exact hl, F1, xs, x, y, z, s1.le, hvs, hf, fun F2 H2 q s2 hq => ?_⟩
        have fq : F2 q = none := Evl.fresh_back s2.le hq
        have le3 : Ex F2 (upd H2 q (.lst [.int x, .int y, .int z])) := s2.le.trans (Ex.new hq)
        refine ⟨q, [], F2, [], rfl, rfl, le3, fq, ⟨x, y, z, upd_same⟩, .nil, hR.1, fun d hd F3 H3 s3 => ?_⟩
        rw [hR.2 d hd]
        refine o3 F3 H3 ⟨fun b u h => ?_, s2.f.trans s3.f, s3.le, fun b n1 n2 => ?_⟩
        · have h2 := s2.h b u h
          have hb : b ≠ q := fun r => by rw [r, hq] at h2; cases h2
          exact s3.kp b u hb (by rw [upd_ne hb]; exact h2)
        · refine s3.new b (s2.new b n1 n2) fun r => ?_
          cases hu : H1 b with
          | none => exact n2 hu
          | some u =>
            have h2 := s2.h b u hu
            have hb : b ≠ q := fun r => by rw [r, hq] at h2; cases h2
            rw [upd_ne hb, h2] at r
            cases r
      · exact o3.elim
  · rw [if_neg hl] at o1
    exact o1.elim
end
end DL

set_option Elab.async false
set_option linter.all false
set_option maxRecDepth 100000
set_option maxHeartbeats 2000000
/-! a def that makes a well -/
namespace DL
open PySem PySem.Spec PyProof.Rows L2
open Evl (Ex)
theorem seq_nx {K : PySem.W.Frag} {C : Nat → Addr} {W : WX} {m : Sm} {u : TS} {ρ ρ' : DEnv} {D : Ends} {σ : L2.St} {F H : Hp} (h : m ρ = .nx ρ') (le : Ex F H) (env : EnvR K F σ ρ) (q : ∀ σ' F' H', Stp F H F' H' → EnvR K F' σ' ρ' → u D σ' H') : tSeq (tS C K W m) u D σ H :=
  ⟨F, ρ, le, env, by rw [h]; exact q⟩
def f_well (n m : Nat) (m1 m2 m3 : Sm) (gs : DEnv → R (List D)) : List D → R (List D) := fun ds => if ds.length = n then (match S.seq m1 (S.seq m2 m3) (begin n m ds) with
  | .nx ρ => (gs ρ).nx
  | _ => .bad) else .bad
theorem seq_nxE {m u : Sm} {ρ ρ' : DEnv} (h : S.seq m u ρ = .nx ρ') : ∃ ρ1, m ρ = .nx ρ1 ∧ u ρ1 = .nx ρ' := by
  unfold S.seq at h
  cases e : m ρ with
  | nx ρ1 => rw [e] at h; exact ⟨ρ1, rfl, h⟩
  | _ => rw [e] at h; cases h
section
variable {P : Program} {w : World} {K : PySem.W.Frag} {mg : Str → Option Value} {base : Heap} {C : Nat → Addr} {x : Str} {st : Stmt} {fa : Addr} {fd : FuncData} {N ps : List Str} {k : Nat} {m1 m2 m3 : Sm} {gs : DEnv → R (List D)} {s1 s2 s3 : Stmt} {es : List Expr} {p1 p2 : Pos}
theorem mk_W (Fn : Fun K x x st fa fd) (S : FnScope N ps (defScope st)) (hm : mg x = some (.ref fa))
    (hb : ∀ (kV doc pm : Value) (an : Option Addr) (cdv ct : Value) (us : List Value), us.length = ps.length → bindArgs (PySem.W.fnOf x x (defArgs st) (defBody st) (defScope st) .none kV doc pm an cdv ct) ⟨us, []⟩ = pure (ps.zip us))
    (he : defBody st = [s1, s2, s3, .Return (some (.List es p1)) p2])
    (d1 : ∀ (cdv : Value) (A : Around) (outer : List PySem.Env) (s : Shared) (H : Hp) (E : XK), Room k (A.deeper (envOfC x (defScope st) s.heap.objs.size fa cdv)) → DS (cxOf (L2.CX P w) P w K mg base N x (defScope st) fa cdv A outer s H E) C WF s1 m1)
    (d2 : ∀ (cdv : Value) (A : Around) (outer : List PySem.Env) (s : Shared) (H : Hp) (E : XK), Room k (A.deeper (envOfC x (defScope st) s.heap.objs.size fa cdv)) → DS (cxOf (L2.CX P w) P w K mg base N x (defScope st) fa cdv A outer s H E) C WF s2 m2)
    (d3 : ∀ (cdv : Value) (A : Around) (outer : List PySem.Env) (s : Shared) (H : Hp) (E : XK), Room k (A.deeper (envOfC x (defScope st) s.heap.objs.size fa cdv)) → DS (cxOf (L2.CX P w) P w K mg base N x (defScope st) fa cdv A outer s H E) C WF s3 m3)
    (dl : ∀ (cdv : Value) (A : Around) (outer : List PySem.Env) (s : Shared) (H : Hp) (E : XK), Room k (A.deeper (envOfC x (defScope st) s.heap.objs.size fa cdv)) → DA (cxOf (L2.CX P w) P w K mg base N x (defScope st) fa cdv A outer s H E) C WF es gs) :
    WOk P w K mg base x ps.length (k + 1) (f_well ps.length N.length m1 m2 m3 gs) := by
  refine ⟨fa, fd, ps, Fun.okX Fn S (fun vs H Q E h => h.1) fun cdv A outer s H vs Q E hr h => ⟨tSeq (tS C K WF m1) (tSeq (tS C K WF m2) (tSeq (tS C K WF m3) (tRet (tLst (tA C K WF gs))))), ?_, ?_⟩, hm, Fn.kp, Fn.binds hb⟩
  · rw [he]
    exact pss_cons (d1 cdv A outer s H E hr) (pss_cons (d2 cdv A outer s H E hr) (pss_cons (d3 cdv A outer s H E hr) (pss_one (ps_ret (pe_lst (dl cdv A outer s H E hr))))))
  · obtain ⟨hl, F, ds, x0, y0, z0, le, hd, hf, q⟩ := h
    have hds : ds.length = ps.length := by rw [← hd.len]; exact hl
    have env := begin_env (N := N) hd
    rw [hl] at env
    unfold f_well at hf
    rw [if_pos hds] at hf
    split at hf
    · rename_i ρ3 e3
      obtain ⟨ρ1, e1, e23⟩ := seq_nxE e3
      obtain ⟨ρ2, e2, e3⟩ := seq_nxE e23
      have hg := R.nx_ok hf
      refine seq_nx e1 le env fun σ1 F1 H1 t1 v1 => seq_nx e2 t1.le v1 fun σ2 F2 H2 t2 v2 => seq_nx e3 t2.le v2 fun σ3 F3 H3 t3 v3 => ?_
      refine ⟨F3, ρ3, t3.le, v3, ?_⟩
      rw [hg]
      intro F4 H4 t4 vs hvs
      cases hvs with
      | cons h1 r1 =>
      cases r1 with
      | cons h2 r2 =>
      cases r2 with
      | cons h3 r3 =>
      cases r3
      cases h1
      cases h2
      cases h3
      exact ⟨Evl.sz_of (show 3 ≤ 100000 by decide), fun p hp => q F4 H4 p (((t1.trans t2).trans t3).trans t4) hp⟩
    · cases hf
end
end DL

set_option Elab.async false
set_option linter.all false
set_option maxRecDepth 100000
set_option maxHeartbeats 2000000
/-! what the head checks, and what follows from it -/
namespace DL
open PySem PySem.Spec PyProof.Rows L2 He
section
variable {K : PySem.W.Frag} {h : Heap} {mg : Str → Option Value}
def conX (K : PySem.W.Frag) (x : Str) (d : D) : Bool := match PySem.W.nsIn K mainGlobals x with
  | some (some u) => chk K 6 u d
  | _ => false
theorem conX_ok (X : K.In h) (G : h.Ns mainGlobals mg) {x : Str} {d : D} (c : conX K x d = true) : COk K mg x d := by
  unfold conX at c
  split at c
  · rename_i u e
    obtain ⟨v, r, hd⟩ := (chk_ok 6 u d c).dv
    exact ⟨u, v, PySem.W.mg_of X G e, r, hd⟩
  · cases c
def tabX (K : PySem.W.Frag) (a : Addr) (l : List (Str × D)) (m : List Str) : Bool := (l.all fun q => match PySem.W.nsIn K a q.1 with
  | some (some u) => chk K 8 u q.2
  | _ => false) && m.all fun z => eqO (PySem.W.nsIn K a z) (some none)
theorem look_mem {x : Str} {d : D} : ∀ {l : List (Str × D)}, l.lookup x = some d → (x, d) ∈ l
  | [], h => by cases h
  | (y, e) :: r, h => by
    have h2 : (match x == y with | true => some e | false => r.lookup x) = some d := h
    cases q : (x == y) with
    | true =>
      rw [q] at h2
      rw [eq_of_beq q, Option.some.inj h2]
      exact List.mem_cons_self
    | false =>
      rw [q] at h2
      exact List.mem_cons_of_mem _ (look_mem h2)
theorem tabX_ok {w : World} {a : Addr} {l : List (Str × D)} {m : List Str} (kd : ∃ es n, KDict K w a es n) (c : tabX K a l m = true) : KTabW K w a (fun z => l.lookup z) m := by
  obtain ⟨c1, c2⟩ := ba c
  refine ⟨kd, fun z x e => ?_, fun z hz => eqO_ok (List.all_eq_true.mp c2 z hz)⟩
  have h2 := List.all_eq_true.mp c1 _ (look_mem e)
  dsimp only at h2
  split at h2
  · rename_i u e2
    exact ⟨u, e2, chk_ok 8 u x h2⟩
  · cases h2
def oexX (K : PySem.W.Frag) (C : Addr) : Bool := (match K.lookup C with
  | some ⟨.type t, _, .cls cd, sl⟩ => decide (t = "type") && (match cd.mro, sl.toList with
    | .ref C' :: bm, [_, _, _, _, some (.builtin n), _] => decide (C' = C) && (decide (n = "ValueError.__new__") && (!cd.hasDel && (cd.hasDict && PySem.HandSPX.refsVE bm)))
    | _, _ => false)
  | _ => false) && (eqO (PySem.W.findIn K (.ref C) "__setattr__") (some (some (.builtin "object.__setattr__"))) && (decide (PySem.W.subIn K (.ref C) (.type "BaseException") = some true) && (decide (PySem.W.typeIn K (.ref C) = some (.type "type")) && PySem.W.keepIn K (.ref C))))
theorem oexX_ok {C : Addr} (c : oexX K C = true) : OexC K C := by
  obtain ⟨c1, c⟩ := ba c
  obtain ⟨c2, c⟩ := ba c
  obtain ⟨c3, c⟩ := ba c
  obtain ⟨c4, c5⟩ := ba c
  refine ⟨?_, eqO_ok c2, of_decide_eq_true c3, of_decide_eq_true c4, c5⟩
  split at c1
  · rename_i t dd cd sl ho
    obtain ⟨ht, e1⟩ := ba c1
    clear c1
    have ht := of_decide_eq_true ht
    subst ht
    split at e1
    · rename_i C' bm k0 k1 k2 k3 n k5 hm hs
      obtain ⟨h1, e2⟩ := ba e1
      obtain ⟨h2, e3⟩ := ba e2
      obtain ⟨h3, e4⟩ := ba e3
      obtain ⟨h4, h5⟩ := ba e4
      have h1 := of_decide_eq_true h1
      have h2 := of_decide_eq_true h2
      subst h1 h2
      obtain ⟨nm, bs, mro, ns, qn, hd, sn, sub, ab, col, del⟩ := cd
      dsimp only at hm h3 h4
      have h3 : del = false := by simpa using h3
      subst hm h3 h4
      have hsl : sl = #[k0, k1, k2, k3, some (.builtin "ValueError.__new__"), k5] := by
        obtain ⟨l⟩ := sl
        simp only at hs
        rw [hs]
      subst hsl
      exact ⟨nm, qn, ns, bs, bm, sn, sub, ab, col, dd, k0, k1, k2, k3, k5, ho, h5⟩
    · cases e1
  · cases c1
def errX (K : PySem.W.Frag) (x : Str) : Bool := oexX K (ga K x) && (eqO (PySem.W.findIn K (.ref (ga K x)) "__init__") (some (some (.ref (ma K (ga K x) "__init__")))) && (decide (PySem.W.typeIn K (.ref (ma K (ga K x) "__init__")) = some (.type "function")) && eqO (PySem.W.findIn K (.ref (ga K x)) "given") (some none)))
theorem errX_ok {x : Str} (hm : mg x = some (.ref (ga K x))) (c : errX K x = true) : ErrC K mg x (ga K x) (ma K (ga K x) "__init__") := by
  obtain ⟨c1, c⟩ := ba c
  obtain ⟨c2, c⟩ := ba c
  obtain ⟨c3, c4⟩ := ba c
  exact ⟨oexX_ok c1, eqO_ok c2, of_decide_eq_true c3, eqO_ok c4, hm⟩
def catX (K : PySem.W.Frag) (D : Addr) : Bool := eqO (PySem.W.findIn K (.ref D) "__getattribute__") (some (some (.builtin "BaseException.__getattribute__"))) && (eqO (PySem.W.findIn K (.ref D) "__getattr__") (some none) && (decide (PySem.W.subIn K (.ref D) (.type "BaseException") = some true) && (PySem.W.hasDictIn K D &&
  (eqO (PySem.W.findIn K (.ref D) "__class__") (some (some (.builtin "object.__class__"))) && (eqO (PySem.W.specialIn K (.builtin "object.__class__") "__get__") (some (some (.builtin "getset_descriptor.__get__"))) && (decide (PySem.W.takesIn K (.builtin "object.__class__") = some true) && (decide (PySem.W.mroIn K D (.type "object") = some true) && eqO (PySem.W.findIn K (.ref D) "given") (some none))))))))
theorem catX_ok {D : Addr} (c : catX K D = true) : CatC K D := by
  obtain ⟨c1, c⟩ := ba c
  obtain ⟨c2, c⟩ := ba c
  obtain ⟨c3, c⟩ := ba c
  obtain ⟨c4, c⟩ := ba c
  obtain ⟨c5, c⟩ := ba c
  obtain ⟨c6, c⟩ := ba c
  obtain ⟨c7, c⟩ := ba c
  obtain ⟨c8, c9⟩ := ba c
  exact ⟨⟨eqO_ok c1, eqO_ok c2, of_decide_eq_true c3, c4, eqO_ok c5, eqO_ok c6, of_decide_eq_true c7, of_decide_eq_true c8⟩, eqO_ok c9⟩
/-- n classes of errors, by their names -/
def errsX (K : PySem.W.Frag) (nm : Nat → Str) (n : Nat) (b cwn : Str) (cw : Nat → Bool) : Bool := (List.range n).all fun c => catX K (ga K (nm c)) && (decide (PySem.W.exmOne K (.ref (ga K (nm c))) (.ref (ga K b)) = some true) && decide (PySem.W.kitOne K (.ref (ga K (nm c))) (.ref (ga K cwn)) = some (cw c)))
theorem errsX_ok {nm : Nat → Str} {n : Nat} {b cwn : Str} {cw : Nat → Bool} (c : errsX K nm n b cwn cw = true) : Errs K (fun i => ga K (nm i)) (ga K b) (ga K cwn) cw (fun i => decide (i < n)) := by
  have key : ∀ i, decide (i < n) = true → _ := fun i hi => ba (List.all_eq_true.mp c i (List.mem_range.mpr (of_decide_eq_true hi)))
  exact ⟨fun i hi => catX_ok (key i hi).1, fun i hi => of_decide_eq_true (ba (key i hi).2).1, fun i hi => of_decide_eq_true (ba (key i hi).2).2⟩
/-- a def's datum -/
def dD (x : Str) (st : Stmt) : DefD := ⟨(x, none), x, x, defArgs st, defBody st, defScope st, [], []⟩
def dI (x qual : Str) (st : Stmt) : DefD := ⟨(x, some "__init__"), "__init__", qual, defArgs st, defBody st, defScope st, [], []⟩
theorem fun_of {x qual : Str} {st : Stmt} {f : Addr} {fd : FuncData} (F : FunD K x qual (defArgs st) (defBody st) (defScope st) [] [] f fd) : Fun K x qual st f fd := by
  obtain ⟨oc, od, dV, kV, doc, pm, an, cdv, ct, osl, e, lk, hcd, hd, hk⟩ := F.ex
  refine ⟨⟨oc, od, kV, doc, pm, an, cdv, ct, osl, ?_, lk, hcd⟩, F.kp⟩
  rcases hd with ⟨_, e2⟩ | ⟨e2, _⟩
  · rw [e, e2]
  · exact absurd rfl e2
end
end DL

set_option Elab.async false
set_option linter.all false
set_option maxRecDepth 100000
set_option maxHeartbeats 2000000
/-! a hook over a list of addresses of one's own; a law's end with errors -/
namespace DL
open PySem PySem.Spec PyProof.Rows L2 He
def growN (g : Addr → Option Obj) : Nat → List Addr → List Addr
  | 0, as => as
  | n + 1, as => growN g n (growD g as)
/-- the object that the top's name x stands for -/
def gA (g : Addr → Option Obj) (x : Str) : Addr := ga (frG g [mainGlobals]) x
structure SaysO (fa : List Fa) (fn : List DefD) (ts : List Tab) (ex : PySem.W.Frag → Bool) (w : World) (K : PySem.W.Frag) : Prop where
  t : SaysT fa fn ts w K
  more : ex K = true
abbrev AlO : Type := AlT × Bool
def obsO (as : (Addr → Option Obj) → List Addr) (fa : List Fa) (fn : List DefD) (ts : List Tab) (ex : PySem.W.Frag → Bool) (g : Addr → Option Obj) : AlO := (fun K => (obsT fa fn ts K, ex K)) (frT g (as g))
def hookO (as : (Addr → Option Obj) → List Addr) (fa : List Fa) (fn : List DefD) (ts : List Tab) (ex : PySem.W.Frag → Bool) : PySem.W.Hook where
  α := AlO
  obs := fun s => obsO as fa fn ts ex s.heap.get?
  val := fun w => (valT fn ts w, true)
  says := fun w h => ∃ K : PySem.W.Frag, K.In h ∧ SaysO fa fn ts ex w K
  of := fun _ _ e => ⟨_, frT_in, ⟨congrArg (fun z : AlO => z.1) e, congrArg (fun z : AlO => z.2) e⟩⟩
  keeps := fun _ _ _ ⟨K, hK, c⟩ k => ⟨K, PySem.W.Frag.In.keeps hK k, c⟩
theorem obsO_eq {as : (Addr → Option Obj) → List Addr} {fa : List Fa} {fn : List DefD} {ts : List Tab} {ex : PySem.W.Frag → Bool} {g : Addr → Option Obj} {s : Shared} (h : ∀ a, g a = s.heap.get? a) : obsO as fa fn ts ex g = (hookO as fa fn ts ex).obs s := by
  have e : g = s.heap.get? := funext h
  rw [e] <;> rfl
theorem walk_ofC {l : PySem.W.OpenLaw} {n k : Nat} {q : Program} {loose : List Str} {XP : (Str → Option Value) → Heap → Prop} {YP : World → Heap → Prop} {d : DefRec} {CX : World → CXT} {x : Str}
    (hn : l.most = some n) (hn2 : n ≤ sizeLine) (hdf : d.params.defaults = []) (hr : Room k callerA)
    (F : ∀ (w : World) (mg : Str → Option Value) (fa : Addr) (h : Heap), YP w h → h.Ns mainGlobals mg → mg d.name = some (.ref fa) →
      ∃ (K : PySem.W.Frag) (fd : FuncData) (sp : Sp), K.In h ∧ (∀ (s : Shared) (u : Value), BindsTo s fd ⟨[u], []⟩ [(x, u)]) ∧
        (∀ (H : Hp) (a : Addr) (ns : List Int), ns.length ≤ n → Only H → SqL K H a (ns.map V.int) → sp [.ref a] H (fun v _ => v = .bl true) fun _ _ _ => False) ∧
        ∀ base : Heap, K.In base → base.Ns mainGlobals mg → FnOk l.prog w K mg base (CX w) k fa fd [x] sp)
    (hCX : ∀ (w : World) (H : Hp) (s : Shared) (e : Value) (s' : Shared), CX w [] H s (fun _ _ _ => False) e s' → False) :
    PySem.W.WalkO q loose XP YP l.row.toRowW d [] (fun f vs => PySem.call f vs) := by
  refine Att.attach_call hn hdf fun w s₀ s₁ mg mb fa o pm cd doc a vs ns G Y ho hd hcd hmg hobj hints hlen hg => ?_
  obtain ⟨K, fd, sp, KX, hb, hsp, hF⟩ := F w mg fa _ Y G.T.g hmg
  exact law_call KX G.T.g G.T.b G.T.builtins G.T.nolimit hg hobj hints (Nat.le_trans hlen hn2) hr hF hb (fun H hO hS => hsp H a ns hlen hO hS) fun H e s' => hCX w H s₁ e s'
end DL

set_option Elab.async false
set_option linter.all false
set_option maxRecDepth 100000
set_option maxHeartbeats 4000000
namespace K2
open PySem PySem.Spec PyProof.Rows L2 DL
open Evl (Ex)
/-! printed by gen.py -/
abbrev topP : Program := PySem.Challenge.pw_layerlore_k02_whole_words_and_values
def topS (i : Nat) : Stmt := topP.main.body.getD i (.Pass ⟨0, 0, 0, 0⟩)
def c_ASK : D := (.str "ask")
def c_ATOM : D := (.str "atom")
def c_BACK : D := (.str "back")
def c_BELOW : D := (.str "BELOW")
def c_BODY : D := (.str "body")
def c_CAPITALS : D := (.str "ABCDEFGHIJKLMNOPQRSTUVWXYZ")
def c_COMPARING : D := (.tup [(.str "<"), (.str "="), (.str ">")])
def c_DIGITS : D := (.str "0123456789")
def c_DROP : D := (.str "drop")
def c_ENTRY : D := (.str "entry")
def c_ENTRY_OR_ASKED : D := (.str "said")
def c_GREATEST : D := (.int 999999)
def c_KEY : D := (.str "key")
def c_KEY_WORDS : D := (.tup [(.str "fact"), (.str "take"), (.str "rule"), (.str "drop"), (.str "if"), (.str "not"), (.str "ask"), (.str "why"), (.str "ways"), (.str "back"), (.str "since")])
def c_LETTERS : D := (.str "abcdefghijklmnopqrstuvwxyz")
def c_LITERAL : D := (.str "literal")
def c_LONGEST : D := (.int 6)
def c_LONGEST_LINE : D := (.int 200)
def c_MOST_LITERALS : D := (.int 4)
def c_MOST_TERMS : D := (.int 3)
def c_NAME : D := (.str "name")
def c_NONE : D := (.str "none")
def c_NOT : D := (.str "not")
def c_NUMBER : D := (.str "number")
def c_OF_FACTS : D := (.tup [(.str "fact"), (.str "take")])
def c_RULE : D := (.str "rule")
def c_SIGN : D := (.str "sign")
def c_SIGNS : D := (.str " (),.+-&0123456789<=>abcdefghijklmnopqrstuvwxyzABCDEFGHIJKLMNOPQRSTUVWXYZ")
def c_SIGN_WORDS : D := (.tup [(.str "("), (.str ")"), (.str ","), (.str "&"), (.str "<"), (.str "="), (.str ">")])
def c_SINCE : D := (.str "since")
def c_VAL : D := (.str "val")
def c_VAR : D := (.str "var")
def c_VARIABLE : D := (.str "variable")
def c_WORD : D := (.str "word")
def c_YES : D := (.str "yes")
def l_ANY : List (Str × D) := [("name", (.str "NAME")),
  ("variable", (.str "VARIABLE")),
  ("number", (.str "NUMBER")),
  ("word", (.str "WORD"))]
def t_ANY : Str → Option D := fun z => l_ANY.lookup z
def m_ANY : List Str := ["key", "sign", "none"]
def l_OPTIONS : List (Str × D) := [("entry", (.tup [(.tup [(.str "fact"), (.tup [(.str "known")])]), (.tup [(.str "take"), (.tup [(.str "known")])]), (.tup [(.str "rule"), (.tup [(.str "atom"), (.str "if"), (.str "body")])]), (.tup [(.str "drop"), (.tup [(.str "count")])])])),
  ("asked", (.tup [(.tup [(.str "ask"), (.tup [(.str "body")])]), (.tup [(.str "why"), (.tup [(.str "known")])]), (.tup [(.str "ways"), (.tup [(.str "known")])]), (.tup [(.str "back"), (.tup [])]), (.tup [(.str "since"), (.tup [(.str "count")])])])),
  ("atom", (.tup [(.tup [(.str "NAME"), (.tup [(.str "("), (.str "term"), (.tup [(.str "term"), (.int 2)])])])])),
  ("known", (.tup [(.tup [(.str "NAME"), (.tup [(.str "("), (.str "value"), (.tup [(.str "value"), (.int 2)])])])])),
  ("term", (.tup [(.tup [(.str "VARIABLE"), (.tup [])]), (.tup [(.str "NUMBER"), (.tup [])]), (.tup [(.str "BELOW"), (.tup [])]), (.tup [(.str "WORD"), (.tup [])])])),
  ("value", (.tup [(.tup [(.str "NUMBER"), (.tup [])]), (.tup [(.str "BELOW"), (.tup [])]), (.tup [(.str "WORD"), (.tup [])])])),
  ("count", (.tup [(.tup [(.str "NUMBER"), (.tup [])])])),
  ("(", (.tup [(.tup [(.str "("), (.tup [])])])),
  ("if", (.tup [(.tup [(.str "if"), (.tup [])])])),
  ("sign", (.tup [(.tup [(.str "<"), (.tup [])]), (.tup [(.str "="), (.tup [])]), (.tup [(.str ">"), (.tup [])])])),
  ("body", (.tup [])),
  ("literal", (.tup [(.tup [(.str "NAME"), (.tup [(.str "("), (.str "term"), (.tup [(.str "term"), (.int 2)])])]), (.tup [(.str "not"), (.tup [(.str "atom")])]), (.tup [(.str "VARIABLE"), (.tup [(.str "sign"), (.str "term")])]), (.tup [(.str "NUMBER"), (.tup [(.str "sign"), (.str "term")])]), (.tup [(.str "BELOW"), (.tup [(.str "sign"), (.str "term")])]), (.tup [(.str "WORD"), (.tup [(.str "sign"), (.str "term")])])]))]
def t_OPTIONS : Str → Option D := fun z => l_OPTIONS.lookup z
def m_OPTIONS : List Str := []
def freeN : List Str := ["abs", "all", "bool", "dict", "divmod", "enumerate", "int", "isinstance", "len", "list", "max", "min", "range", "str", "sum", "tuple"]
def okE (c : Nat) : Bool := decide (c < 4)
def cw_BadWord (c : Nat) : Bool := decide (c = 1)
def cw_InvalidText (c : Nat) : Bool := decide (c = 0)
def cw_InvalidValue (c : Nat) : Bool := decide (c = 3)
abbrev st_is_text_of : Stmt := topS 9
abbrev st_is_lined : Stmt := topS 27
abbrev st_is_line : Stmt := topS 74
abbrev st_check_line : Stmt := topS 70
abbrev st_words_by : Stmt := topS 34
abbrev st_words_of : Stmt := topS 75
abbrev st_check_text : Stmt := topS 69
abbrev st_is_name : Stmt := topS 28
abbrev st_is_variable : Stmt := topS 29
abbrev st_is_number_word : Stmt := topS 35
abbrev st_is_word_text : Stmt := topS 32
abbrev st_is_value_word : Stmt := topS 36
abbrev st_word_kind_by : Stmt := topS 37
abbrev st_word_kind : Stmt := topS 76
abbrev st_value_by : Stmt := topS 38
abbrev st_value_of : Stmt := topS 77
abbrev st_is_whole : Stmt := topS 7
abbrev st_is_number : Stmt := topS 30
abbrev st_is_value : Stmt := topS 33
abbrev st_word_by : Stmt := topS 39
abbrev st_word_of : Stmt := topS 78
abbrev st_term_text : Stmt := topS 61
abbrev st_listed : Stmt := topS 60
abbrev st_text_of_fact : Stmt := topS 63
abbrev st_text_of_atom : Stmt := topS 62
abbrev st_text_of_literal : Stmt := topS 64
abbrev st_text_of_body : Stmt := topS 65
abbrev st_text_of_rule : Stmt := topS 66
abbrev st_text_of_entry : Stmt := topS 67
abbrev st_is_tuple_of : Stmt := topS 8
abbrev st_is_term : Stmt := topS 53
abbrev st_is_atom_tree : Stmt := topS 55
abbrev st_is_literal : Stmt := topS 57
abbrev st_is_body_tree : Stmt := topS 58
abbrev st_is_some_row : Stmt := topS 54
abbrev st_is_fact_tree : Stmt := topS 56
abbrev st_is_count : Stmt := topS 31
abbrev st_is_entry_tree : Stmt := topS 59
abbrev st_check_entry : Stmt := topS 71
abbrev st_check_body : Stmt := topS 72
abbrev st_options_behind : Stmt := topS 91
abbrev st_options_of : Stmt := topS 92
abbrev st_told_as : Stmt := topS 93
abbrev st_walked : Stmt := topS 94
abbrev st_can_end : Stmt := topS 95
abbrev st_first_bad_by : Stmt := topS 96
abbrev st_term_read : Stmt := topS 97
abbrev st_words_in_brackets : Stmt := topS 98
abbrev st_atom_read : Stmt := topS 99
abbrev st_fact_read : Stmt := topS 100
abbrev st_literal_read : Stmt := topS 101
abbrev st_first_bad : Stmt := topS 109
abbrev st_body_read : Stmt := topS 102
abbrev st_entry_read : Stmt := topS 103
abbrev st_tree_by : Stmt := topS 104
abbrev st_read_as : Stmt := topS 106
abbrev st_read_entry : Stmt := topS 107
abbrev st_read_body : Stmt := topS 108
abbrev st_entry_text : Stmt := topS 111
abbrev st_body_text : Stmt := topS 112
abbrev st__law_is : Stmt := topS 117
abbrev st__law_whole : Stmt := topS 119
abbrev st__law_keys : Stmt := topS 120
abbrev st__law_small : Stmt := topS 121
abbrev st__law_is_name : Stmt := topS 122
abbrev st__law_is_variable : Stmt := topS 123
abbrev st__law_is_value : Stmt := topS 124
abbrev st__law_signs : Stmt := topS 125
abbrev st__law_of_number : Stmt := topS 126
abbrev st__law_value : Stmt := topS 127
abbrev st__law_told_kind : Stmt := topS 128
abbrev st__law_tried : Stmt := topS 130
abbrev st__law_word_right : Stmt := topS 131
abbrev st__law_line_right : Stmt := topS 132
abbrev st__law_take : Stmt := topS 115
abbrev st__law_pick : Stmt := topS 116
abbrev st__law_odd : Stmt := topS 118
abbrev st__law_drawn_word : Stmt := topS 129
abbrev st__law_values_right : Stmt := topS 133
abbrev st__law_right : Stmt := topS 134
abbrev st__law_well : Stmt := topS 114
abbrev st_law : Stmt := topS 135
end K2

set_option Elab.async false
set_option linter.all false
set_option maxRecDepth 100000
set_option maxHeartbeats 0
namespace K2
open PySem PySem.Spec PyProof.Rows L2 DL
open Evl (Ex)
def nmE (c : Nat) : Str := match c with
  | 0 => "InvalidText"
  | 1 => "BadWord"
  | 2 => "InvalidTree"
  | _ => "InvalidValue"
def clsS (i : Nat) : Stmt := match topS i with
  | .ClassDef _ _ _ b .. => b.getD 0 (.Pass ⟨0, 0, 0, 0⟩)
  | s => s
def gloN0 : List Str := ["is_text_of", "is_lined", "is_line", "check_line", "words_by", "words_of", "check_text", "is_name", "is_variable", "is_number_word", "is_word_text", "is_value_word", "word_kind_by", "word_kind", "value_by", "value_of", "is_whole", "is_number", "is_value", "word_by"]
def gloN1 : List Str := ["word_of", "term_text", "listed", "text_of_fact", "text_of_atom", "text_of_literal", "text_of_body", "text_of_rule", "text_of_entry", "is_tuple_of", "is_term", "is_atom_tree", "is_literal", "is_body_tree", "is_some_row", "is_fact_tree", "is_count", "is_entry_tree", "check_entry", "check_body"]
def gloN2 : List Str := ["options_behind", "options_of", "told_as", "walked", "can_end", "first_bad_by", "term_read", "words_in_brackets", "atom_read", "fact_read", "literal_read", "first_bad", "body_read", "entry_read", "tree_by", "read_as", "read_entry", "read_body", "entry_text", "body_text"]
def gloN3 : List Str := ["_law_is", "_law_whole", "_law_keys", "_law_small", "_law_is_name", "_law_is_variable", "_law_is_value", "_law_signs", "_law_of_number", "_law_value", "_law_told_kind", "_law_tried", "_law_word_right", "_law_line_right", "_law_take", "_law_pick", "_law_odd", "_law_drawn_word", "_law_values_right", "_law_right"]
def gloN4 : List Str := ["_law_well", "law", "BadWord", "InvalidText", "InvalidTree", "InvalidValue", "BookError", "ANY", "OPTIONS"]
def gloN : List Str := gloN0 ++ gloN1 ++ gloN2 ++ gloN3 ++ gloN4
def faL : List He.Fa := gloN.map He.Fa.glo ++ freeN.map He.Fa.free
def fnL0 : List He.DefD := [dD "is_text_of" st_is_text_of, dD "is_lined" st_is_lined, dD "is_line" st_is_line, dD "check_line" st_check_line, dD "words_by" st_words_by, dD "words_of" st_words_of, dD "check_text" st_check_text, dD "is_name" st_is_name, dD "is_variable" st_is_variable, dD "is_number_word" st_is_number_word, dD "is_word_text" st_is_word_text, dD "is_value_word" st_is_value_word, dD "word_kind_by" st_word_kind_by, dD "word_kind" st_word_kind, dD "value_by" st_value_by, dD "value_of" st_value_of, dD "is_whole" st_is_whole, dD "is_number" st_is_number, dD "is_value" st_is_value, dD "word_by" st_word_by]
def fnL1 : List He.DefD := [dD "word_of" st_word_of, dD "term_text" st_term_text, dD "listed" st_listed, dD "text_of_fact" st_text_of_fact, dD "text_of_atom" st_text_of_atom, dD "text_of_literal" st_text_of_literal, dD "text_of_body" st_text_of_body, dD "text_of_rule" st_text_of_rule, dD "text_of_entry" st_text_of_entry, dD "is_tuple_of" st_is_tuple_of, dD "is_term" st_is_term, dD "is_atom_tree" st_is_atom_tree, dD "is_literal" st_is_literal, dD "is_body_tree" st_is_body_tree, dD "is_some_row" st_is_some_row, dD "is_fact_tree" st_is_fact_tree, dD "is_count" st_is_count, dD "is_entry_tree" st_is_entry_tree, dD "check_entry" st_check_entry, dD "check_body" st_check_body]
def fnL2 : List He.DefD := [dD "options_behind" st_options_behind, dD "options_of" st_options_of, dD "told_as" st_told_as, dD "walked" st_walked, dD "can_end" st_can_end, dD "first_bad_by" st_first_bad_by, dD "term_read" st_term_read, dD "words_in_brackets" st_words_in_brackets, dD "atom_read" st_atom_read, dD "fact_read" st_fact_read, dD "literal_read" st_literal_read, dD "first_bad" st_first_bad, dD "body_read" st_body_read, dD "entry_read" st_entry_read, dD "tree_by" st_tree_by, dD "read_as" st_read_as, dD "read_entry" st_read_entry, dD "read_body" st_read_body, dD "entry_text" st_entry_text, dD "body_text" st_body_text]
def fnL3 : List He.DefD := [dD "_law_is" st__law_is, dD "_law_whole" st__law_whole, dD "_law_keys" st__law_keys, dD "_law_small" st__law_small, dD "_law_is_name" st__law_is_name, dD "_law_is_variable" st__law_is_variable, dD "_law_is_value" st__law_is_value, dD "_law_signs" st__law_signs, dD "_law_of_number" st__law_of_number, dD "_law_value" st__law_value, dD "_law_told_kind" st__law_told_kind, dD "_law_tried" st__law_tried, dD "_law_word_right" st__law_word_right, dD "_law_line_right" st__law_line_right, dD "_law_take" st__law_take, dD "_law_pick" st__law_pick, dD "_law_odd" st__law_odd, dD "_law_drawn_word" st__law_drawn_word, dD "_law_values_right" st__law_values_right, dD "_law_right" st__law_right]
def fnL4 : List He.DefD := [dD "_law_well" st__law_well, dD "law" st_law, dI "BadWord" "BadWord.__init__" (clsS 3), dI "InvalidText" "InvalidText.__init__" (clsS 2), dI "InvalidTree" "InvalidTree.__init__" (clsS 4), dI "InvalidValue" "InvalidValue.__init__" (clsS 5)]
def fnL : List He.DefD := fnL0 ++ fnL1 ++ fnL2 ++ fnL3 ++ fnL4
def tsL : List He.Tab := [(fun K => He.ga K "ANY", l_ANY.map (·.1)), (fun K => He.ga K "OPTIONS", l_OPTIONS.map (·.1))]
def exL0 : List (PySem.W.Frag → Bool) := [fun K => conX K "ASK" c_ASK, fun K => conX K "ATOM" c_ATOM, fun K => conX K "BACK" c_BACK, fun K => conX K "BELOW" c_BELOW, fun K => conX K "BODY" c_BODY, fun K => conX K "CAPITALS" c_CAPITALS, fun K => conX K "COMPARING" c_COMPARING, fun K => conX K "DIGITS" c_DIGITS, fun K => conX K "DROP" c_DROP, fun K => conX K "ENTRY" c_ENTRY, fun K => conX K "ENTRY_OR_ASKED" c_ENTRY_OR_ASKED, fun K => conX K "GREATEST" c_GREATEST, fun K => conX K "KEY" c_KEY, fun K => conX K "KEY_WORDS" c_KEY_WORDS, fun K => conX K "LETTERS" c_LETTERS, fun K => conX K "LITERAL" c_LITERAL, fun K => conX K "LONGEST" c_LONGEST, fun K => conX K "LONGEST_LINE" c_LONGEST_LINE, fun K => conX K "MOST_LITERALS" c_MOST_LITERALS, fun K => conX K "MOST_TERMS" c_MOST_TERMS]
def exL1 : List (PySem.W.Frag → Bool) := [fun K => conX K "NAME" c_NAME, fun K => conX K "NONE" c_NONE, fun K => conX K "NOT" c_NOT, fun K => conX K "NUMBER" c_NUMBER, fun K => conX K "OF_FACTS" c_OF_FACTS, fun K => conX K "RULE" c_RULE, fun K => conX K "SIGN" c_SIGN, fun K => conX K "SIGNS" c_SIGNS, fun K => conX K "SIGN_WORDS" c_SIGN_WORDS, fun K => conX K "SINCE" c_SINCE, fun K => conX K "VAL" c_VAL, fun K => conX K "VAR" c_VAR, fun K => conX K "VARIABLE" c_VARIABLE, fun K => conX K "WORD" c_WORD, fun K => conX K "YES" c_YES, fun K => tabX K (He.ga K "ANY") l_ANY m_ANY, fun K => tabX K (He.ga K "OPTIONS") l_OPTIONS m_OPTIONS, fun K => errX K "BadWord", fun K => errX K "InvalidText", fun K => errX K "InvalidTree"]
def exL2 : List (PySem.W.Frag → Bool) := [fun K => errX K "InvalidValue", fun K => errsX K nmE 4 "BookError" "BadWord" cw_BadWord, fun K => errsX K nmE 4 "BookError" "InvalidText" cw_InvalidText, fun K => errsX K nmE 4 "BookError" "InvalidValue" cw_InvalidValue]
def exL : List (PySem.W.Frag → Bool) := exL0 ++ exL1 ++ exL2
def exB (K : PySem.W.Frag) : Bool := exL.all fun f => f K
abbrev rowR : PySem.W.OpenRow := PySem.W.OpenLaw.row PySem.Challenge.rw_layerlore_k02_whole_words_and_values
def asL (g : Addr → Option Obj) : List Addr := He.asD g 2 ++ (growN g 5 [gA g "ANY", gA g "OPTIONS"] ++ growN g 3 [gA g "BadWord", gA g "InvalidText", gA g "InvalidTree", gA g "InvalidValue", gA g "BookError"])
abbrev hkH : PySem.W.Hook := hookO asL faL fnL tsL exB
def obH (s : PySem.W.SharedT) : AlO := obsO asL faL fnL tsL exB (HandSHeadRun.getT s)
theorem obH_eq (s : PySem.W.SharedT) : obH s = hkH.obs s.abs := obsO_eq (HandSHeadRun.getT_eq s)
def looseL0 : List Str := ["BookError", "InvalidText", "BadWord", "InvalidTree", "InvalidValue", "is_whole", "is_tuple_of", "is_text_of", "DIGITS", "LETTERS", "CAPITALS", "SIGNS", "LONGEST_LINE", "LONGEST", "GREATEST", "SIGN_WORDS", "KEY_WORDS", "KEY", "NAME", "VARIABLE"]
def looseL1 : List Str := ["NUMBER", "WORD", "SIGN", "NONE", "is_lined", "is_name", "is_variable", "is_number", "is_count", "is_word_text", "is_value", "words_by", "is_number_word", "is_value_word", "word_kind_by", "value_by", "word_by", "VAR", "VAL", "YES"]
def looseL2 : List Str := ["NOT", "COMPARING", "MOST_TERMS", "MOST_LITERALS", "FACT", "TAKE", "RULE", "DROP", "OF_FACTS", "is_term", "is_some_row", "is_atom_tree", "is_fact_tree", "is_literal", "is_body_tree", "is_entry_tree", "listed", "term_text", "text_of_atom", "text_of_fact"]
def looseL3 : List Str := ["text_of_literal", "text_of_body", "text_of_rule", "text_of_entry", "check_text", "check_line", "check_entry", "check_body", "is_line", "words_of", "word_kind", "value_of", "word_of", "ANY", "BELOW", "ENTRY", "ATOM", "BODY", "LITERAL", "ENTRY_OR_ASKED"]
def looseL4 : List Str := ["ASK", "BACK", "SINCE", "OPTIONS", "options_behind", "options_of", "told_as", "walked", "can_end", "first_bad_by", "term_read", "words_in_brackets", "atom_read", "fact_read", "literal_read", "body_read", "entry_read", "tree_by", "read_as", "read_entry"]
def looseL5 : List Str := ["read_body", "first_bad", "entry_text", "body_text", "_law_well", "_law_take", "_law_pick", "_law_is", "_law_odd", "_law_whole", "_law_keys", "_law_small", "_law_is_name", "_law_is_variable", "_law_is_value", "_law_signs", "_law_of_number", "_law_value", "_law_told_kind", "_law_drawn_word"]
def looseL6 : List Str := ["_law_tried", "_law_word_right", "_law_line_right", "_law_values_right", "_law_right"]
def looseL : List Str := looseL0 ++ looseL1 ++ looseL2 ++ looseL3 ++ looseL4 ++ looseL5 ++ looseL6
section
open PySem.W PySem.Calls HandSHeadRun
noncomputable def topRunX (w : World) (os : OsState) : Option SharedT := endF (stepQ (denQ tabQ) rowR.prog w) 30000 rowR.prog w os
theorem run_join {w : World} (h1 : ∀ os, (topRunX w os).map (fun s => looksF rowR.prog (boot_heap w.params) s.abs) = some true)
    (h2 : ∀ os, (topRunX w os).map (fun s => seenQ (view rowR.prog [135]) looseL (importedModules rowR.prog.main.body) (fun s => xlAt (view rowR.prog [135]) [] s && recOk rowR.toRowW.records s) s.abs) = some (openGood (view rowR.prog [135]) looseL))
    (h3 : ∀ os, (topRunX w os).map obH = some (hkH.val w)) : RunEq rowR (view rowR.prog [135]) hkH obH 30000 looseL w := fun os => by
  obtain ⟨s, e, l1⟩ := Option.map_eq_some_iff.mp (h1 os)
  have l2 := h2 os
  have l3 := h3 os
  rw [e] at l2 l3
  have l2 := Option.some.inj l2
  have l3 := Option.some.inj l3
  show (topRunX w os).map _ = _
  rw [e]
  exact congrArg some (Prod.ext l1 (Prod.ext l2 l3))
theorem runLF (w : World) : ∀ os : OsState, (topRunX (w.withFollow "special-get-raises" false) os).map (fun s => looksF rowR.prog (boot_heap (w.withFollow "special-get-raises" false).params) s.abs) = some true := by
  intro os
  kernel_rfl
theorem runSF (w : World) : ∀ os : OsState, (topRunX (w.withFollow "special-get-raises" false) os).map (fun s => seenQ (view rowR.prog [135]) looseL (importedModules rowR.prog.main.body) (fun s => xlAt (view rowR.prog [135]) [] s && recOk rowR.toRowW.records s) s.abs) = some (openGood (view rowR.prog [135]) looseL) := by
  intro os
  kernel_rfl
theorem runOF (w : World) : ∀ os : OsState, (topRunX (w.withFollow "special-get-raises" false) os).map obH = some (hkH.val (w.withFollow "special-get-raises" false)) := by
  intro os
  kernel_rfl
theorem runLT (w : World) : ∀ os : OsState, (topRunX (w.withFollow "special-get-raises" true) os).map (fun s => looksF rowR.prog (boot_heap (w.withFollow "special-get-raises" true).params) s.abs) = some true := by
  intro os
  kernel_rfl
theorem runST (w : World) : ∀ os : OsState, (topRunX (w.withFollow "special-get-raises" true) os).map (fun s => seenQ (view rowR.prog [135]) looseL (importedModules rowR.prog.main.body) (fun s => xlAt (view rowR.prog [135]) [] s && recOk rowR.toRowW.records s) s.abs) = some (openGood (view rowR.prog [135]) looseL) := by
  intro os
  kernel_rfl
theorem runOT (w : World) : ∀ os : OsState, (topRunX (w.withFollow "special-get-raises" true) os).map obH = some (hkH.val (w.withFollow "special-get-raises" true)) := by
  intro os
  kernel_rfl
theorem runH (w : World) : RunEq rowR (view rowR.prog [135]) hkH obH 30000 looseL w := byRow2 "special-get-raises" (P := fun w => RunEq rowR (view rowR.prog [135]) hkH obH 30000 looseL w) (fun w => run_join (runLF w) (runSF w) (runOF w)) (fun w => run_join (runLT w) (runST w) (runOT w)) w
end
end K2

set_option Elab.async false
set_option linter.all false
set_option maxRecDepth 100000
set_option maxHeartbeats 4000000
namespace K2
open PySem PySem.Spec PyProof.Rows L2 DL
open Evl (Ex)
structure Tx (P : Program) (w : World) (K : PySem.W.Frag) (mg : Str → Option Value) (base : Heap) (C : Nat → Addr) (a_ANY : Addr) (a_OPTIONS : Addr) (i_BadWord : Addr) (fd_BadWord : FuncData) (i_InvalidText : Addr) (fd_InvalidText : FuncData) (i_InvalidTree : Addr) (fd_InvalidTree : FuncData) (i_InvalidValue : Addr) (fd_InvalidValue : FuncData) (a_BookError : Addr) : Prop where
  fr : ∀ x, x ∈ freeN → mg x = none
  c_ASK : COk K mg "ASK" c_ASK
  c_ATOM : COk K mg "ATOM" c_ATOM
  c_BACK : COk K mg "BACK" c_BACK
  c_BELOW : COk K mg "BELOW" c_BELOW
  c_BODY : COk K mg "BODY" c_BODY
  c_CAPITALS : COk K mg "CAPITALS" c_CAPITALS
  c_COMPARING : COk K mg "COMPARING" c_COMPARING
  c_DIGITS : COk K mg "DIGITS" c_DIGITS
  c_DROP : COk K mg "DROP" c_DROP
  c_ENTRY : COk K mg "ENTRY" c_ENTRY
  c_ENTRY_OR_ASKED : COk K mg "ENTRY_OR_ASKED" c_ENTRY_OR_ASKED
  c_GREATEST : COk K mg "GREATEST" c_GREATEST
  c_KEY : COk K mg "KEY" c_KEY
  c_KEY_WORDS : COk K mg "KEY_WORDS" c_KEY_WORDS
  c_LETTERS : COk K mg "LETTERS" c_LETTERS
  c_LITERAL : COk K mg "LITERAL" c_LITERAL
  c_LONGEST : COk K mg "LONGEST" c_LONGEST
  c_LONGEST_LINE : COk K mg "LONGEST_LINE" c_LONGEST_LINE
  c_MOST_LITERALS : COk K mg "MOST_LITERALS" c_MOST_LITERALS
  c_MOST_TERMS : COk K mg "MOST_TERMS" c_MOST_TERMS
  c_NAME : COk K mg "NAME" c_NAME
  c_NONE : COk K mg "NONE" c_NONE
  c_NOT : COk K mg "NOT" c_NOT
  c_NUMBER : COk K mg "NUMBER" c_NUMBER
  c_OF_FACTS : COk K mg "OF_FACTS" c_OF_FACTS
  c_RULE : COk K mg "RULE" c_RULE
  c_SIGN : COk K mg "SIGN" c_SIGN
  c_SIGNS : COk K mg "SIGNS" c_SIGNS
  c_SIGN_WORDS : COk K mg "SIGN_WORDS" c_SIGN_WORDS
  c_SINCE : COk K mg "SINCE" c_SINCE
  c_VAL : COk K mg "VAL" c_VAL
  c_VAR : COk K mg "VAR" c_VAR
  c_VARIABLE : COk K mg "VARIABLE" c_VARIABLE
  c_WORD : COk K mg "WORD" c_WORD
  c_YES : COk K mg "YES" c_YES
  t_ANY : KTabW K w a_ANY t_ANY m_ANY
  m_ANY : mg "ANY" = some (.ref a_ANY)
  t_OPTIONS : KTabW K w a_OPTIONS t_OPTIONS m_OPTIONS
  m_OPTIONS : mg "OPTIONS" = some (.ref a_OPTIONS)
  e_BadWord : ErrC K mg "BadWord" (C 1) i_BadWord
  i_BadWord : FnOk P w K mg base (L2.CX P w) 1 i_BadWord fd_BadWord ["self", "given"] (spI (C 1))
  b_BadWord : Binds K fd_BadWord ["self", "given"] []
  e_InvalidText : ErrC K mg "InvalidText" (C 0) i_InvalidText
  i_InvalidText : FnOk P w K mg base (L2.CX P w) 1 i_InvalidText fd_InvalidText ["self", "given"] (spI (C 0))
  b_InvalidText : Binds K fd_InvalidText ["self", "given"] []
  e_InvalidTree : ErrC K mg "InvalidTree" (C 2) i_InvalidTree
  i_InvalidTree : FnOk P w K mg base (L2.CX P w) 1 i_InvalidTree fd_InvalidTree ["self", "given"] (spI (C 2))
  b_InvalidTree : Binds K fd_InvalidTree ["self", "given"] []
  e_InvalidValue : ErrC K mg "InvalidValue" (C 3) i_InvalidValue
  i_InvalidValue : FnOk P w K mg base (L2.CX P w) 1 i_InvalidValue fd_InvalidValue ["self", "given"] (spI (C 3))
  b_InvalidValue : Binds K fd_InvalidValue ["self", "given"] []
  x_BadWord : Errs K C a_BookError (C 1) cw_BadWord okE
  g_BadWord : mg "BadWord" = some (.ref (C 1))
  x_InvalidText : Errs K C a_BookError (C 0) cw_InvalidText okE
  g_InvalidText : mg "InvalidText" = some (.ref (C 0))
  x_InvalidValue : Errs K C a_BookError (C 3) cw_InvalidValue okE
  g_InvalidValue : mg "InvalidValue" = some (.ref (C 3))
  g_BookError : mg "BookError" = some (.ref a_BookError)
section
variable {P : Program} {w : World} {K : PySem.W.Frag} {mg : Str → Option Value} {base : Heap} {C : Nat → Addr} {a_ANY : Addr} {a_OPTIONS : Addr} {i_BadWord : Addr} {fd_BadWord : FuncData} {i_InvalidText : Addr} {fd_InvalidText : FuncData} {i_InvalidTree : Addr} {fd_InvalidTree : FuncData} {i_InvalidValue : Addr} {fd_InvalidValue : FuncData} {a_BookError : Addr} {fa : Addr} {fd : FuncData}
theorem hu1 {X : Cx} {k : Nat} (hr : Room k X.A) : X.A.units + 1 < cLine := by have := hr.units; omega
abbrev N_is_text_of : List Str := ["value", "signs", "sign"]
theorem sc_is_text_of : FnScope N_is_text_of ["value", "signs"] (defScope st_is_text_of) := ⟨rfl, rfl, rfl, by decide +kernel, rfl, by decide +kernel, by decide +kernel⟩
def b_is_text_of : Sm := (S.ret (E.and (E.isi .str (E.var 0)) (E.fn allD (A.cons (E.lc [2] (B.name 2) (I.seq (E.var 0)) T.yes (E.op inD (E.var 2) (E.var 1))) A.nil))))
def f_is_text_of : List D → R D := runD 2 3 b_is_text_of
theorem ok_is_text_of (T : Tx P w K mg base C a_ANY a_OPTIONS i_BadWord fd_BadWord i_InvalidText fd_InvalidText i_InvalidTree fd_InvalidTree i_InvalidValue fd_InvalidValue a_BookError) (Fn : Fun K "is_text_of" "is_text_of" st_is_text_of fa fd) (hm : mg "is_text_of" = some (.ref fa))  : DOk P w K mg base C "is_text_of" ["value", "signs"] 1 f_is_text_of :=
  mk_D (N := N_is_text_of) Fn sc_is_text_of hm (fun _ _ _ _ _ _ us hl => match us, hl with | [_, _], _ => rfl) (fun kn e => nomatch e)
      (fun cdv0 A0 outer0 s0 H0 E0 hr => (dss_one (ds_ret (de_and (de_isi (T := .str) (T.fr "isinstance" (by decide)) (T.fr "str" (by decide)) (by rfl) (by rfl) (by decide +kernel) (de_var (pv 0))) (de_one (de_callB (cr_all rfl) on_all (by rfl) (T.fr "all" (by decide)) (by decide +kernel) (da_cons (de_lc (own := [("sign", 2)]) (g := gName 2) rfl sc_is_text_of.nd (di_seq (de_var (pv 0))) (blkOk_by (N := N_is_text_of) (sc := defScope st_is_text_of) (own := [("sign", 2)]) (by decide +kernel)) (tg_name (by decide)) (fun _ _ _ _ _ => pg_name (i := 2) sc_is_text_of.nd rfl (Or.inl rfl)) (fun _ _ _ _ _ => dts_nil) (fun _ _ _ _ _ => (de_cmp (op_inX (hu1 hr)) o2_in (de_var (pv 2)) (de_var (pv 1)) rfl))) da_nil)))))))
abbrev N_is_lined : List Str := ["value"]
theorem sc_is_lined : FnScope N_is_lined ["value"] (defScope st_is_lined) := ⟨rfl, rfl, rfl, by decide +kernel, rfl, by decide +kernel, by decide +kernel⟩
def b_is_lined : Sm := (S.ret (E.and (E.call f_is_text_of (A.cons (E.var 0) (A.cons (E.k c_SIGNS) A.nil))) (E.op leD (E.fn lenD (A.cons (E.var 0) A.nil)) (E.k c_LONGEST_LINE))))
def f_is_lined : List D → R D := runD 1 1 b_is_lined
theorem ok_is_lined (T : Tx P w K mg base C a_ANY a_OPTIONS i_BadWord fd_BadWord i_InvalidText fd_InvalidText i_InvalidTree fd_InvalidTree i_InvalidValue fd_InvalidValue a_BookError) (Fn : Fun K "is_lined" "is_lined" st_is_lined fa fd) (hm : mg "is_lined" = some (.ref fa)) (d_is_text_of : DOk P w K mg base C "is_text_of" ["value", "signs"] 1 f_is_text_of) : DOk P w K mg base C "is_lined" ["value"] 2 f_is_lined :=
  mk_D (N := N_is_lined) Fn sc_is_lined hm (fun _ _ _ _ _ _ us hl => match us, hl with | [_], _ => rfl) (fun kn e _ _ _ _ _ _ _ => by cases e; rfl)
      (fun cdv0 A0 outer0 s0 H0 E0 hr => (dss_one (ds_ret (de_and (de_callD d_is_text_of hr (by decide) (by rfl) takesE (da_cons (de_var (pv 0)) (da_cons (de_gl T.c_SIGNS (by rfl)) da_nil))) (de_one (de_cmp (op_leD) o2_cmp (de_callB call_len on_len (by rfl) (T.fr "len" (by decide)) boot_len (da_cons (de_var (pv 0)) da_nil)) (de_gl T.c_LONGEST_LINE (by rfl)) (nomark _)))))))
abbrev N_is_line : List Str := ["value"]
theorem sc_is_line : FnScope N_is_line ["value"] (defScope st_is_line) := ⟨rfl, rfl, rfl, by decide +kernel, rfl, by decide +kernel, by decide +kernel⟩
def b_is_line : Sm := (S.ret (E.call f_is_lined (A.cons (E.var 0) A.nil)))
def f_is_line : List D → R D := runD 1 1 b_is_line
theorem ok_is_line (T : Tx P w K mg base C a_ANY a_OPTIONS i_BadWord fd_BadWord i_InvalidText fd_InvalidText i_InvalidTree fd_InvalidTree i_InvalidValue fd_InvalidValue a_BookError) (Fn : Fun K "is_line" "is_line" st_is_line fa fd) (hm : mg "is_line" = some (.ref fa)) (d_is_lined : DOk P w K mg base C "is_lined" ["value"] 2 f_is_lined) : DOk P w K mg base C "is_line" ["value"] 3 f_is_line :=
  mk_D (N := N_is_line) Fn sc_is_line hm (fun _ _ _ _ _ _ us hl => match us, hl with | [_], _ => rfl) (fun kn e _ _ _ _ _ _ _ => by cases e; rfl)
      (fun cdv0 A0 outer0 s0 H0 E0 hr => (dss_one (ds_ret (de_callD d_is_lined hr (by decide) (by rfl) takesE (da_cons (de_var (pv 0)) da_nil)))))
abbrev N_check_line : List Str := ["text"]
theorem sc_check_line : FnScope N_check_line ["text"] (defScope st_check_line) := ⟨rfl, rfl, rfl, by decide +kernel, rfl, by decide +kernel, by decide +kernel⟩
def b_check_line : Sm := (S.ite (T.not (T.val (E.call f_is_lined (A.cons (E.var 0) A.nil)))) (S.raise 0 (E.var 0)) S.pass)
def f_check_line : List D → R D := runD 1 1 b_check_line
theorem ok_check_line (T : Tx P w K mg base C a_ANY a_OPTIONS i_BadWord fd_BadWord i_InvalidText fd_InvalidText i_InvalidTree fd_InvalidTree i_InvalidValue fd_InvalidValue a_BookError) (Fn : Fun K "check_line" "check_line" st_check_line fa fd) (hm : mg "check_line" = some (.ref fa)) (d_is_lined : DOk P w K mg base C "is_lined" ["value"] 2 f_is_lined) : DOk P w K mg base C "check_line" ["text"] 3 f_check_line :=
  mk_D (N := N_check_line) Fn sc_check_line hm (fun _ _ _ _ _ _ us hl => match us, hl with | [_], _ => rfl) (fun kn e _ _ _ _ _ _ _ => by cases e; rfl)
      (fun cdv0 A0 outer0 s0 H0 E0 hr => (dss_one (ds_if (dt_not (dt_val (de_callD d_is_lined hr (by decide) (by rfl) takesE (da_cons (de_var (pv 0)) da_nil)))) (dss_one (ds_raise (i := 0) T.e_InvalidText T.i_InvalidText (hr.mono (by decide)) T.b_InvalidText (by rfl) rfl takesE (de_var (pv 0)))) dss_nil)))
abbrev N_words_by : List Str := ["line"]
theorem sc_words_by : FnScope N_words_by ["line"] (defScope st_words_by) := ⟨rfl, rfl, rfl, by decide +kernel, rfl, by decide +kernel, by decide +kernel⟩
def b_words_by : Sm := (S.ret (E.ite (T.val (E.op neD (E.var 0) (E.k (.str "")))) (E.meth isS splitD (E.var 0) (A.cons (E.k (.str " ")) A.nil)) (E.lst A.nil)))
def f_words_by : List D → R D := runD 1 1 b_words_by
theorem ok_words_by (T : Tx P w K mg base C a_ANY a_OPTIONS i_BadWord fd_BadWord i_InvalidText fd_InvalidText i_InvalidTree fd_InvalidTree i_InvalidValue fd_InvalidValue a_BookError) (Fn : Fun K "words_by" "words_by" st_words_by fa fd) (hm : mg "words_by" = some (.ref fa))  : DOk P w K mg base C "words_by" ["line"] 1 f_words_by :=
  mk_D (N := N_words_by) Fn sc_words_by hm (fun _ _ _ _ _ _ us hl => match us, hl with | [_], _ => rfl) (fun kn e _ _ _ _ _ _ _ => by cases e; rfl)
      (fun cdv0 A0 outer0 s0 H0 E0 hr => (dss_one (ds_ret (de_if (dt_cmp (op_neX hr.units) o2_ne (de_var (pv 0)) de_str (nomark _)) (de_split (de_var (pv 0)) de_str) (de_lst da_nil)))))
abbrev N_words_of : List Str := ["text"]
theorem sc_words_of : FnScope N_words_of ["text"] (defScope st_words_of) := ⟨rfl, rfl, rfl, by decide +kernel, rfl, by decide +kernel, by decide +kernel⟩
def b_words_of : Sm := (S.seq (S.expr (E.call f_check_line (A.cons (E.var 0) A.nil))) (S.ret (E.fn tupleD (A.cons (E.call f_words_by (A.cons (E.var 0) A.nil)) A.nil))))
def f_words_of : List D → R D := runD 1 1 b_words_of
theorem ok_words_of (T : Tx P w K mg base C a_ANY a_OPTIONS i_BadWord fd_BadWord i_InvalidText fd_InvalidText i_InvalidTree fd_InvalidTree i_InvalidValue fd_InvalidValue a_BookError) (Fn : Fun K "words_of" "words_of" st_words_of fa fd) (hm : mg "words_of" = some (.ref fa)) (d_check_line : DOk P w K mg base C "check_line" ["text"] 3 f_check_line) (d_words_by : DOk P w K mg base C "words_by" ["line"] 1 f_words_by) : DOk P w K mg base C "words_of" ["text"] 4 f_words_of :=
  mk_D (N := N_words_of) Fn sc_words_of hm (fun _ _ _ _ _ _ us hl => match us, hl with | [_], _ => rfl) (fun kn e _ _ _ _ _ _ _ => by cases e; rfl)
      (fun cdv0 A0 outer0 s0 H0 E0 hr => (dss_cons (ds_expr (de_callD d_check_line hr (by decide) (by rfl) takesE (da_cons (de_var (pv 0)) da_nil))) (dss_one (ds_ret (de_callT call_tuple_of on_tuple (by rfl) (T.fr "tuple" (by decide)) (by decide +kernel) (da_cons (de_callD d_words_by hr (by decide) (by rfl) takesE (da_cons (de_var (pv 0)) da_nil)) da_nil))))))
abbrev N_check_text : List Str := ["text"]
theorem sc_check_text : FnScope N_check_text ["text"] (defScope st_check_text) := ⟨rfl, rfl, rfl, by decide +kernel, rfl, by decide +kernel, by decide +kernel⟩
def b_check_text : Sm := (S.ite (T.not (T.val (E.isi .str (E.var 0)))) (S.raise 0 (E.var 0)) S.pass)
def f_check_text : List D → R D := runD 1 1 b_check_text
theorem ok_check_text (T : Tx P w K mg base C a_ANY a_OPTIONS i_BadWord fd_BadWord i_InvalidText fd_InvalidText i_InvalidTree fd_InvalidTree i_InvalidValue fd_InvalidValue a_BookError) (Fn : Fun K "check_text" "check_text" st_check_text fa fd) (hm : mg "check_text" = some (.ref fa))  : DOk P w K mg base C "check_text" ["text"] 3 f_check_text :=
  mk_D (N := N_check_text) Fn sc_check_text hm (fun _ _ _ _ _ _ us hl => match us, hl with | [_], _ => rfl) (fun kn e _ _ _ _ _ _ _ => by cases e; rfl)
      (fun cdv0 A0 outer0 s0 H0 E0 hr => (dss_one (ds_if (dt_not (dt_val (de_isi (T := .str) (T.fr "isinstance" (by decide)) (T.fr "str" (by decide)) (by rfl) (by rfl) (by decide +kernel) (de_var (pv 0))))) (dss_one (ds_raise (i := 0) T.e_InvalidText T.i_InvalidText (hr.mono (by decide)) T.b_InvalidText (by rfl) rfl takesE (de_var (pv 0)))) dss_nil)))
abbrev N_is_name : List Str := ["value"]
theorem sc_is_name : FnScope N_is_name ["value"] (defScope st_is_name) := ⟨rfl, rfl, rfl, by decide +kernel, rfl, by decide +kernel, by decide +kernel⟩
def b_is_name : Sm := (S.ret (E.and (E.call f_is_text_of (A.cons (E.var 0) (A.cons (E.k c_LETTERS) A.nil))) (E.and (E.chain leD leD (E.k (.int 1)) (E.fn lenD (A.cons (E.var 0) A.nil)) (E.k c_LONGEST)) (E.op ninD (E.var 0) (E.k c_KEY_WORDS)))))
def f_is_name : List D → R D := runD 1 1 b_is_name
theorem ok_is_name (T : Tx P w K mg base C a_ANY a_OPTIONS i_BadWord fd_BadWord i_InvalidText fd_InvalidText i_InvalidTree fd_InvalidTree i_InvalidValue fd_InvalidValue a_BookError) (Fn : Fun K "is_name" "is_name" st_is_name fa fd) (hm : mg "is_name" = some (.ref fa)) (d_is_text_of : DOk P w K mg base C "is_text_of" ["value", "signs"] 1 f_is_text_of) : DOk P w K mg base C "is_name" ["value"] 2 f_is_name :=
  mk_D (N := N_is_name) Fn sc_is_name hm (fun _ _ _ _ _ _ us hl => match us, hl with | [_], _ => rfl) (fun kn e _ _ _ _ _ _ _ => by cases e; rfl)
      (fun cdv0 A0 outer0 s0 H0 E0 hr => (dss_one (ds_ret (de_and (de_callD d_is_text_of hr (by decide) (by rfl) takesE (da_cons (de_var (pv 0)) (da_cons (de_gl T.c_LETTERS (by rfl)) da_nil))) (de_and (de_chain (op_leD) (op_leD) o2_cmp o2_cmp de_int (de_callB call_len on_len (by rfl) (T.fr "len" (by decide)) boot_len (da_cons (de_var (pv 0)) da_nil)) (de_gl T.c_LONGEST (by rfl))) (de_one (de_cmp (op_ninX (hu1 hr)) o2_nin (de_var (pv 0)) (de_gl T.c_KEY_WORDS (by rfl)) rfl)))))))
abbrev N_is_variable : List Str := ["value"]
theorem sc_is_variable : FnScope N_is_variable ["value"] (defScope st_is_variable) := ⟨rfl, rfl, rfl, by decide +kernel, rfl, by decide +kernel, by decide +kernel⟩
def b_is_variable : Sm := (S.ret (E.and (E.call f_is_text_of (A.cons (E.var 0) (A.cons (E.k c_CAPITALS) A.nil))) (E.op eqD (E.fn lenD (A.cons (E.var 0) A.nil)) (E.k (.int 1)))))
def f_is_variable : List D → R D := runD 1 1 b_is_variable
theorem ok_is_variable (T : Tx P w K mg base C a_ANY a_OPTIONS i_BadWord fd_BadWord i_InvalidText fd_InvalidText i_InvalidTree fd_InvalidTree i_InvalidValue fd_InvalidValue a_BookError) (Fn : Fun K "is_variable" "is_variable" st_is_variable fa fd) (hm : mg "is_variable" = some (.ref fa)) (d_is_text_of : DOk P w K mg base C "is_text_of" ["value", "signs"] 1 f_is_text_of) : DOk P w K mg base C "is_variable" ["value"] 2 f_is_variable :=
  mk_D (N := N_is_variable) Fn sc_is_variable hm (fun _ _ _ _ _ _ us hl => match us, hl with | [_], _ => rfl) (fun kn e _ _ _ _ _ _ _ => by cases e; rfl)
      (fun cdv0 A0 outer0 s0 H0 E0 hr => (dss_one (ds_ret (de_and (de_callD d_is_text_of hr (by decide) (by rfl) takesE (da_cons (de_var (pv 0)) (da_cons (de_gl T.c_CAPITALS (by rfl)) da_nil))) (de_one (de_cmp (op_eqX hr.units) o2_eq (de_callB call_len on_len (by rfl) (T.fr "len" (by decide)) boot_len (da_cons (de_var (pv 0)) da_nil)) de_int (nomark _)))))))
abbrev N_is_number_word : List Str := ["word", "digits"]
theorem sc_is_number_word : FnScope N_is_number_word ["word"] (defScope st_is_number_word) := ⟨rfl, rfl, rfl, by decide +kernel, rfl, by decide +kernel, by decide +kernel⟩
def b_is_number_word : Sm := (S.seq (S.set 1 (E.ite (T.val (E.op eqD (E.slice (E.var 0) O.no (O.some (E.k (.int 1)))) (E.k (.str "-")))) (E.slice (E.var 0) (O.some (E.k (.int 1))) O.no) (E.var 0))) (S.seq (S.ite (T.or (T.not (T.val (E.call f_is_text_of (A.cons (E.var 1) (A.cons (E.k c_DIGITS) A.nil))))) (T.not (T.val (E.chain leD leD (E.k (.int 1)) (E.fn lenD (A.cons (E.var 1) A.nil)) (E.k c_LONGEST))))) (S.ret (E.k (.bl false))) S.pass) (S.ret (E.or (E.op neD (E.op ixD (E.var 1) (E.k (.int 0))) (E.k (.str "0"))) (E.op eqD (E.var 0) (E.k (.str "0")))))))
def f_is_number_word : List D → R D := runD 1 2 b_is_number_word
theorem ok_is_number_word (T : Tx P w K mg base C a_ANY a_OPTIONS i_BadWord fd_BadWord i_InvalidText fd_InvalidText i_InvalidTree fd_InvalidTree i_InvalidValue fd_InvalidValue a_BookError) (Fn : Fun K "is_number_word" "is_number_word" st_is_number_word fa fd) (hm : mg "is_number_word" = some (.ref fa)) (d_is_text_of : DOk P w K mg base C "is_text_of" ["value", "signs"] 1 f_is_text_of) : DOk P w K mg base C "is_number_word" ["word"] 2 f_is_number_word :=
  mk_D (N := N_is_number_word) Fn sc_is_number_word hm (fun _ _ _ _ _ _ us hl => match us, hl with | [_], _ => rfl) (fun kn e _ _ _ _ _ _ _ => by cases e; rfl)
      (fun cdv0 A0 outer0 s0 H0 E0 hr => (dss_cons (ds_set (i := 1) (de_if (dt_cmp (op_eqX hr.units) o2_eq (de_slice (de_var (pv 0)) do_none (do_some de_int)) de_str (nomark _)) (de_slice (de_var (pv 0)) (do_some de_int) do_none) (de_var (pv 0))) sc_is_number_word.nd rfl (Or.inl rfl)) (dss_cons (ds_if (PW.pt (dw_or (dt_not (dt_val (de_callD d_is_text_of hr (by decide) (by rfl) takesE (da_cons (de_var (pv 1)) (da_cons (de_gl T.c_DIGITS (by rfl)) da_nil))))) (dw_or1 (dt_not (dt_chain (op_leD) (op_leD) o2_cmp o2_cmp de_int (de_callB call_len on_len (by rfl) (T.fr "len" (by decide)) boot_len (da_cons (de_var (pv 1)) da_nil)) (de_gl T.c_LONGEST (by rfl))))))) (dss_one (ds_ret de_bl)) dss_nil) (dss_one (ds_ret (de_or (de_cmp (op_neX hr.units) o2_ne (de_ix (de_var (pv 1)) de_int) de_str (nomark _)) (de_one (de_cmp (op_eqX hr.units) o2_eq (de_var (pv 0)) de_str (nomark _)))))))))
abbrev N_is_word_text : List Str := ["value"]
theorem sc_is_word_text : FnScope N_is_word_text ["value"] (defScope st_is_word_text) := ⟨rfl, rfl, rfl, by decide +kernel, rfl, by decide +kernel, by decide +kernel⟩
def b_is_word_text : Sm := (S.ret (E.and (E.call f_is_text_of (A.cons (E.var 0) (A.cons (E.k c_LETTERS) A.nil))) (E.op leD (E.fn lenD (A.cons (E.var 0) A.nil)) (E.k c_LONGEST))))
def f_is_word_text : List D → R D := runD 1 1 b_is_word_text
theorem ok_is_word_text (T : Tx P w K mg base C a_ANY a_OPTIONS i_BadWord fd_BadWord i_InvalidText fd_InvalidText i_InvalidTree fd_InvalidTree i_InvalidValue fd_InvalidValue a_BookError) (Fn : Fun K "is_word_text" "is_word_text" st_is_word_text fa fd) (hm : mg "is_word_text" = some (.ref fa)) (d_is_text_of : DOk P w K mg base C "is_text_of" ["value", "signs"] 1 f_is_text_of) : DOk P w K mg base C "is_word_text" ["value"] 2 f_is_word_text :=
  mk_D (N := N_is_word_text) Fn sc_is_word_text hm (fun _ _ _ _ _ _ us hl => match us, hl with | [_], _ => rfl) (fun kn e _ _ _ _ _ _ _ => by cases e; rfl)
      (fun cdv0 A0 outer0 s0 H0 E0 hr => (dss_one (ds_ret (de_and (de_callD d_is_text_of hr (by decide) (by rfl) takesE (da_cons (de_var (pv 0)) (da_cons (de_gl T.c_LETTERS (by rfl)) da_nil))) (de_one (de_cmp (op_leD) o2_cmp (de_callB call_len on_len (by rfl) (T.fr "len" (by decide)) boot_len (da_cons (de_var (pv 0)) da_nil)) (de_gl T.c_LONGEST (by rfl)) (nomark _)))))))
abbrev N_is_value_word : List Str := ["word"]
theorem sc_is_value_word : FnScope N_is_value_word ["word"] (defScope st_is_value_word) := ⟨rfl, rfl, rfl, by decide +kernel, rfl, by decide +kernel, by decide +kernel⟩
def b_is_value_word : Sm := (S.ret (E.and (E.op eqD (E.slice (E.var 0) O.no (O.some (E.k (.int 1)))) (E.k (.str "."))) (E.call f_is_word_text (A.cons (E.slice (E.var 0) (O.some (E.k (.int 1))) O.no) A.nil))))
def f_is_value_word : List D → R D := runD 1 1 b_is_value_word
theorem ok_is_value_word (T : Tx P w K mg base C a_ANY a_OPTIONS i_BadWord fd_BadWord i_InvalidText fd_InvalidText i_InvalidTree fd_InvalidTree i_InvalidValue fd_InvalidValue a_BookError) (Fn : Fun K "is_value_word" "is_value_word" st_is_value_word fa fd) (hm : mg "is_value_word" = some (.ref fa)) (d_is_word_text : DOk P w K mg base C "is_word_text" ["value"] 2 f_is_word_text) : DOk P w K mg base C "is_value_word" ["word"] 3 f_is_value_word :=
  mk_D (N := N_is_value_word) Fn sc_is_value_word hm (fun _ _ _ _ _ _ us hl => match us, hl with | [_], _ => rfl) (fun kn e _ _ _ _ _ _ _ => by cases e; rfl)
      (fun cdv0 A0 outer0 s0 H0 E0 hr => (dss_one (ds_ret (de_and (de_cmp (op_eqX hr.units) o2_eq (de_slice (de_var (pv 0)) do_none (do_some de_int)) de_str (nomark _)) (de_one (de_callD d_is_word_text hr (by decide) (by rfl) takesE (da_cons (de_slice (de_var (pv 0)) (do_some de_int) do_none) da_nil)))))))
abbrev N_word_kind_by : List Str := ["word"]
theorem sc_word_kind_by : FnScope N_word_kind_by ["word"] (defScope st_word_kind_by) := ⟨rfl, rfl, rfl, by decide +kernel, rfl, by decide +kernel, by decide +kernel⟩
def b_word_kind_by : Sm := (S.seq (S.ite (T.val (E.op inD (E.var 0) (E.k c_KEY_WORDS))) (S.ret (E.k c_KEY)) S.pass) (S.seq (S.ite (T.val (E.op inD (E.var 0) (E.k c_SIGN_WORDS))) (S.ret (E.k c_SIGN)) S.pass) (S.seq (S.ite (T.val (E.call f_is_name (A.cons (E.var 0) A.nil))) (S.ret (E.k c_NAME)) S.pass) (S.seq (S.ite (T.val (E.call f_is_variable (A.cons (E.var 0) A.nil))) (S.ret (E.k c_VARIABLE)) S.pass) (S.seq (S.ite (T.val (E.call f_is_number_word (A.cons (E.var 0) A.nil))) (S.ret (E.k c_NUMBER)) S.pass) (S.ret (E.ite (T.val (E.call f_is_value_word (A.cons (E.var 0) A.nil))) (E.k c_WORD) (E.k c_NONE))))))))
def f_word_kind_by : List D → R D := runD 1 1 b_word_kind_by
theorem ok_word_kind_by (T : Tx P w K mg base C a_ANY a_OPTIONS i_BadWord fd_BadWord i_InvalidText fd_InvalidText i_InvalidTree fd_InvalidTree i_InvalidValue fd_InvalidValue a_BookError) (Fn : Fun K "word_kind_by" "word_kind_by" st_word_kind_by fa fd) (hm : mg "word_kind_by" = some (.ref fa)) (d_is_name : DOk P w K mg base C "is_name" ["value"] 2 f_is_name) (d_is_variable : DOk P w K mg base C "is_variable" ["value"] 2 f_is_variable) (d_is_number_word : DOk P w K mg base C "is_number_word" ["word"] 2 f_is_number_word) (d_is_value_word : DOk P w K mg base C "is_value_word" ["word"] 3 f_is_value_word) : DOk P w K mg base C "word_kind_by" ["word"] 4 f_word_kind_by :=
  mk_D (N := N_word_kind_by) Fn sc_word_kind_by hm (fun _ _ _ _ _ _ us hl => match us, hl with | [_], _ => rfl) (fun kn e _ _ _ _ _ _ _ => by cases e; rfl)
      (fun cdv0 A0 outer0 s0 H0 E0 hr => (dss_cons (ds_if (dt_cmp (op_inX (hu1 hr)) o2_in (de_var (pv 0)) (de_gl T.c_KEY_WORDS (by rfl)) rfl) (dss_one (ds_ret (de_gl T.c_KEY (by rfl)))) dss_nil) (dss_cons (ds_if (dt_cmp (op_inX (hu1 hr)) o2_in (de_var (pv 0)) (de_gl T.c_SIGN_WORDS (by rfl)) rfl) (dss_one (ds_ret (de_gl T.c_SIGN (by rfl)))) dss_nil) (dss_cons (ds_if (dt_val (de_callD d_is_name hr (by decide) (by rfl) takesE (da_cons (de_var (pv 0)) da_nil))) (dss_one (ds_ret (de_gl T.c_NAME (by rfl)))) dss_nil) (dss_cons (ds_if (dt_val (de_callD d_is_variable hr (by decide) (by rfl) takesE (da_cons (de_var (pv 0)) da_nil))) (dss_one (ds_ret (de_gl T.c_VARIABLE (by rfl)))) dss_nil) (dss_cons (ds_if (dt_val (de_callD d_is_number_word hr (by decide) (by rfl) takesE (da_cons (de_var (pv 0)) da_nil))) (dss_one (ds_ret (de_gl T.c_NUMBER (by rfl)))) dss_nil) (dss_one (ds_ret (de_if (dt_val (de_callD d_is_value_word hr (by decide) (by rfl) takesE (da_cons (de_var (pv 0)) da_nil))) (de_gl T.c_WORD (by rfl)) (de_gl T.c_NONE (by rfl)))))))))))
abbrev N_word_kind : List Str := ["word"]
theorem sc_word_kind : FnScope N_word_kind ["word"] (defScope st_word_kind) := ⟨rfl, rfl, rfl, by decide +kernel, rfl, by decide +kernel, by decide +kernel⟩
def b_word_kind : Sm := (S.seq (S.expr (E.call f_check_text (A.cons (E.var 0) A.nil))) (S.ret (E.call f_word_kind_by (A.cons (E.var 0) A.nil))))
def f_word_kind : List D → R D := runD 1 1 b_word_kind
theorem ok_word_kind (T : Tx P w K mg base C a_ANY a_OPTIONS i_BadWord fd_BadWord i_InvalidText fd_InvalidText i_InvalidTree fd_InvalidTree i_InvalidValue fd_InvalidValue a_BookError) (Fn : Fun K "word_kind" "word_kind" st_word_kind fa fd) (hm : mg "word_kind" = some (.ref fa)) (d_check_text : DOk P w K mg base C "check_text" ["text"] 3 f_check_text) (d_word_kind_by : DOk P w K mg base C "word_kind_by" ["word"] 4 f_word_kind_by) : DOk P w K mg base C "word_kind" ["word"] 5 f_word_kind :=
  mk_D (N := N_word_kind) Fn sc_word_kind hm (fun _ _ _ _ _ _ us hl => match us, hl with | [_], _ => rfl) (fun kn e _ _ _ _ _ _ _ => by cases e; rfl)
      (fun cdv0 A0 outer0 s0 H0 E0 hr => (dss_cons (ds_expr (de_callD d_check_text hr (by decide) (by rfl) takesE (da_cons (de_var (pv 0)) da_nil))) (dss_one (ds_ret (de_callD d_word_kind_by hr (by decide) (by rfl) takesE (da_cons (de_var (pv 0)) da_nil))))))
abbrev N_value_by : List Str := ["word"]
theorem sc_value_by : FnScope N_value_by ["word"] (defScope st_value_by) := ⟨rfl, rfl, rfl, by decide +kernel, rfl, by decide +kernel, by decide +kernel⟩
def b_value_by : Sm := (S.ret (E.ite (T.val (E.op eqD (E.slice (E.var 0) O.no (O.some (E.k (.int 1)))) (E.k (.str ".")))) (E.slice (E.var 0) (O.some (E.k (.int 1))) O.no) (E.fn intD (A.cons (E.var 0) A.nil))))
def f_value_by : List D → R D := runD 1 1 b_value_by
theorem ok_value_by (T : Tx P w K mg base C a_ANY a_OPTIONS i_BadWord fd_BadWord i_InvalidText fd_InvalidText i_InvalidTree fd_InvalidTree i_InvalidValue fd_InvalidValue a_BookError) (Fn : Fun K "value_by" "value_by" st_value_by fa fd) (hm : mg "value_by" = some (.ref fa))  : DOk P w K mg base C "value_by" ["word"] 1 f_value_by :=
  mk_D (N := N_value_by) Fn sc_value_by hm (fun _ _ _ _ _ _ us hl => match us, hl with | [_], _ => rfl) (fun kn e _ _ _ _ _ _ _ => by cases e; rfl)
      (fun cdv0 A0 outer0 s0 H0 E0 hr => (dss_one (ds_ret (de_if (dt_cmp (op_eqX hr.units) o2_eq (de_slice (de_var (pv 0)) do_none (do_some de_int)) de_str (nomark _)) (de_slice (de_var (pv 0)) (do_some de_int) do_none) (de_callT call_int_str on_int (by rfl) (T.fr "int" (by decide)) (by decide +kernel) (da_cons (de_var (pv 0)) da_nil))))))
abbrev N_value_of : List Str := ["word"]
theorem sc_value_of : FnScope N_value_of ["word"] (defScope st_value_of) := ⟨rfl, rfl, rfl, by decide +kernel, rfl, by decide +kernel, by decide +kernel⟩
def b_value_of : Sm := (S.seq (S.ite (T.or (T.not (T.val (E.isi .str (E.var 0)))) (T.val (E.op ninD (E.call f_word_kind_by (A.cons (E.var 0) A.nil)) (E.tup (A.cons (E.k c_NUMBER) (A.cons (E.k c_WORD) A.nil)))))) (S.raise 3 (E.var 0)) S.pass) (S.ret (E.call f_value_by (A.cons (E.var 0) A.nil))))
def f_value_of : List D → R D := runD 1 1 b_value_of
theorem ok_value_of (T : Tx P w K mg base C a_ANY a_OPTIONS i_BadWord fd_BadWord i_InvalidText fd_InvalidText i_InvalidTree fd_InvalidTree i_InvalidValue fd_InvalidValue a_BookError) (Fn : Fun K "value_of" "value_of" st_value_of fa fd) (hm : mg "value_of" = some (.ref fa)) (d_word_kind_by : DOk P w K mg base C "word_kind_by" ["word"] 4 f_word_kind_by) (d_value_by : DOk P w K mg base C "value_by" ["word"] 1 f_value_by) : DOk P w K mg base C "value_of" ["word"] 5 f_value_of :=
  mk_D (N := N_value_of) Fn sc_value_of hm (fun _ _ _ _ _ _ us hl => match us, hl with | [_], _ => rfl) (fun kn e _ _ _ _ _ _ _ => by cases e; rfl)
      (fun cdv0 A0 outer0 s0 H0 E0 hr => (dss_cons (ds_if (PW.pt (dw_or (dt_not (dt_val (de_isi (T := .str) (T.fr "isinstance" (by decide)) (T.fr "str" (by decide)) (by rfl) (by rfl) (by decide +kernel) (de_var (pv 0))))) (dw_or1 (dt_cmp (op_ninX (hu1 hr)) o2_nin (de_callD d_word_kind_by hr (by decide) (by rfl) takesE (da_cons (de_var (pv 0)) da_nil)) (de_tup (da_cons (de_gl T.c_NUMBER (by rfl)) (da_cons (de_gl T.c_WORD (by rfl)) da_nil))) rfl)))) (dss_one (ds_raise (i := 3) T.e_InvalidValue T.i_InvalidValue (hr.mono (by decide)) T.b_InvalidValue (by rfl) rfl takesE (de_var (pv 0)))) dss_nil) (dss_one (ds_ret (de_callD d_value_by hr (by decide) (by rfl) takesE (da_cons (de_var (pv 0)) da_nil))))))
abbrev N_is_whole : List Str := ["value"]
theorem sc_is_whole : FnScope N_is_whole ["value"] (defScope st_is_whole) := ⟨rfl, rfl, rfl, by decide +kernel, rfl, by decide +kernel, by decide +kernel⟩
def b_is_whole : Sm := (S.ret (E.and (E.isi .int (E.var 0)) (E.not (E.isi .bool (E.var 0)))))
def f_is_whole : List D → R D := runD 1 1 b_is_whole
theorem ok_is_whole (T : Tx P w K mg base C a_ANY a_OPTIONS i_BadWord fd_BadWord i_InvalidText fd_InvalidText i_InvalidTree fd_InvalidTree i_InvalidValue fd_InvalidValue a_BookError) (Fn : Fun K "is_whole" "is_whole" st_is_whole fa fd) (hm : mg "is_whole" = some (.ref fa))  : DOk P w K mg base C "is_whole" ["value"] 1 f_is_whole :=
  mk_D (N := N_is_whole) Fn sc_is_whole hm (fun _ _ _ _ _ _ us hl => match us, hl with | [_], _ => rfl) (fun kn e _ _ _ _ _ _ _ => by cases e; rfl)
      (fun cdv0 A0 outer0 s0 H0 E0 hr => (dss_one (ds_ret (de_and (de_isi (T := .int) (T.fr "isinstance" (by decide)) (T.fr "int" (by decide)) (by rfl) (by rfl) (by decide +kernel) (de_var (pv 0))) (de_one (de_not (de_isi (T := .bool) (T.fr "isinstance" (by decide)) (T.fr "bool" (by decide)) (by rfl) (by rfl) (by decide +kernel) (de_var (pv 0)))))))))
abbrev N_is_number : List Str := ["value"]
theorem sc_is_number : FnScope N_is_number ["value"] (defScope st_is_number) := ⟨rfl, rfl, rfl, by decide +kernel, rfl, by decide +kernel, by decide +kernel⟩
def b_is_number : Sm := (S.ret (E.and (E.call f_is_whole (A.cons (E.var 0) A.nil)) (E.chain leD leD (E.op subD (E.k (.int 0)) (E.k c_GREATEST)) (E.var 0) (E.k c_GREATEST))))
def f_is_number : List D → R D := runD 1 1 b_is_number
theorem ok_is_number (T : Tx P w K mg base C a_ANY a_OPTIONS i_BadWord fd_BadWord i_InvalidText fd_InvalidText i_InvalidTree fd_InvalidTree i_InvalidValue fd_InvalidValue a_BookError) (Fn : Fun K "is_number" "is_number" st_is_number fa fd) (hm : mg "is_number" = some (.ref fa)) (d_is_whole : DOk P w K mg base C "is_whole" ["value"] 1 f_is_whole) : DOk P w K mg base C "is_number" ["value"] 2 f_is_number :=
  mk_D (N := N_is_number) Fn sc_is_number hm (fun _ _ _ _ _ _ us hl => match us, hl with | [_], _ => rfl) (fun kn e _ _ _ _ _ _ _ => by cases e; rfl)
      (fun cdv0 A0 outer0 s0 H0 E0 hr => (dss_one (ds_ret (de_and (de_callD d_is_whole hr (by decide) (by rfl) takesE (da_cons (de_var (pv 0)) da_nil)) (de_one (de_chain (op_leD) (op_leD) o2_cmp o2_cmp (de_op op_sub o2_sub de_int (de_gl T.c_GREATEST (by rfl))) (de_var (pv 0)) (de_gl T.c_GREATEST (by rfl))))))))
abbrev N_is_value : List Str := ["value"]
theorem sc_is_value : FnScope N_is_value ["value"] (defScope st_is_value) := ⟨rfl, rfl, rfl, by decide +kernel, rfl, by decide +kernel, by decide +kernel⟩
def b_is_value : Sm := (S.ret (E.or (E.call f_is_number (A.cons (E.var 0) A.nil)) (E.call f_is_word_text (A.cons (E.var 0) A.nil))))
def f_is_value : List D → R D := runD 1 1 b_is_value
theorem ok_is_value (T : Tx P w K mg base C a_ANY a_OPTIONS i_BadWord fd_BadWord i_InvalidText fd_InvalidText i_InvalidTree fd_InvalidTree i_InvalidValue fd_InvalidValue a_BookError) (Fn : Fun K "is_value" "is_value" st_is_value fa fd) (hm : mg "is_value" = some (.ref fa)) (d_is_number : DOk P w K mg base C "is_number" ["value"] 2 f_is_number) (d_is_word_text : DOk P w K mg base C "is_word_text" ["value"] 2 f_is_word_text) : DOk P w K mg base C "is_value" ["value"] 3 f_is_value :=
  mk_D (N := N_is_value) Fn sc_is_value hm (fun _ _ _ _ _ _ us hl => match us, hl with | [_], _ => rfl) (fun kn e _ _ _ _ _ _ _ => by cases e; rfl)
      (fun cdv0 A0 outer0 s0 H0 E0 hr => (dss_one (ds_ret (de_or (de_callD d_is_number hr (by decide) (by rfl) takesE (da_cons (de_var (pv 0)) da_nil)) (de_one (de_callD d_is_word_text hr (by decide) (by rfl) takesE (da_cons (de_var (pv 0)) da_nil)))))))
abbrev N_word_by : List Str := ["value"]
theorem sc_word_by : FnScope N_word_by ["value"] (defScope st_word_by) := ⟨rfl, rfl, rfl, by decide +kernel, rfl, by decide +kernel, by decide +kernel⟩
def b_word_by : Sm := (S.ret (E.ite (T.val (E.isi .str (E.var 0))) (E.op addD (E.k (.str ".")) (E.var 0)) (E.fn strD (A.cons (E.var 0) A.nil))))
def f_word_by : List D → R D := runD 1 1 b_word_by
theorem ok_word_by (T : Tx P w K mg base C a_ANY a_OPTIONS i_BadWord fd_BadWord i_InvalidText fd_InvalidText i_InvalidTree fd_InvalidTree i_InvalidValue fd_InvalidValue a_BookError) (Fn : Fun K "word_by" "word_by" st_word_by fa fd) (hm : mg "word_by" = some (.ref fa))  : DOk P w K mg base C "word_by" ["value"] 1 f_word_by :=
  mk_D (N := N_word_by) Fn sc_word_by hm (fun _ _ _ _ _ _ us hl => match us, hl with | [_], _ => rfl) (fun kn e _ _ _ _ _ _ _ => by cases e; rfl)
      (fun cdv0 A0 outer0 s0 H0 E0 hr => (dss_one (ds_ret (de_if (dt_val (de_isi (T := .str) (T.fr "isinstance" (by decide)) (T.fr "str" (by decide)) (by rfl) (by rfl) (by decide +kernel) (de_var (pv 0)))) (de_op op_addD o2_add de_str (de_var (pv 0))) (de_callT call_str_int on_str (by rfl) (T.fr "str" (by decide)) (by decide +kernel) (da_cons (de_var (pv 0)) da_nil))))))
abbrev N_word_of : List Str := ["value"]
theorem sc_word_of : FnScope N_word_of ["value"] (defScope st_word_of) := ⟨rfl, rfl, rfl, by decide +kernel, rfl, by decide +kernel, by decide +kernel⟩
def b_word_of : Sm := (S.seq (S.ite (T.not (T.val (E.call f_is_value (A.cons (E.var 0) A.nil)))) (S.raise 3 (E.var 0)) S.pass) (S.ret (E.call f_word_by (A.cons (E.var 0) A.nil))))
def f_word_of : List D → R D := runD 1 1 b_word_of
theorem ok_word_of (T : Tx P w K mg base C a_ANY a_OPTIONS i_BadWord fd_BadWord i_InvalidText fd_InvalidText i_InvalidTree fd_InvalidTree i_InvalidValue fd_InvalidValue a_BookError) (Fn : Fun K "word_of" "word_of" st_word_of fa fd) (hm : mg "word_of" = some (.ref fa)) (d_is_value : DOk P w K mg base C "is_value" ["value"] 3 f_is_value) (d_word_by : DOk P w K mg base C "word_by" ["value"] 1 f_word_by) : DOk P w K mg base C "word_of" ["value"] 4 f_word_of :=
  mk_D (N := N_word_of) Fn sc_word_of hm (fun _ _ _ _ _ _ us hl => match us, hl with | [_], _ => rfl) (fun kn e _ _ _ _ _ _ _ => by cases e; rfl)
      (fun cdv0 A0 outer0 s0 H0 E0 hr => (dss_cons (ds_if (dt_not (dt_val (de_callD d_is_value hr (by decide) (by rfl) takesE (da_cons (de_var (pv 0)) da_nil)))) (dss_one (ds_raise (i := 3) T.e_InvalidValue T.i_InvalidValue (hr.mono (by decide)) T.b_InvalidValue (by rfl) rfl takesE (de_var (pv 0)))) dss_nil) (dss_one (ds_ret (de_callD d_word_by hr (by decide) (by rfl) takesE (da_cons (de_var (pv 0)) da_nil))))))
abbrev N_term_text : List Str := ["term"]
theorem sc_term_text : FnScope N_term_text ["term"] (defScope st_term_text) := ⟨rfl, rfl, rfl, by decide +kernel, rfl, by decide +kernel, by decide +kernel⟩
def b_term_text : Sm := (S.ret (E.ite (T.val (E.op eqD (E.op ixD (E.var 0) (E.k (.int 0))) (E.k c_VAR))) (E.op ixD (E.var 0) (E.k (.int 1))) (E.call f_word_by (A.cons (E.op ixD (E.var 0) (E.k (.int 1))) A.nil))))
def f_term_text : List D → R D := runD 1 1 b_term_text
theorem ok_term_text (T : Tx P w K mg base C a_ANY a_OPTIONS i_BadWord fd_BadWord i_InvalidText fd_InvalidText i_InvalidTree fd_InvalidTree i_InvalidValue fd_InvalidValue a_BookError) (Fn : Fun K "term_text" "term_text" st_term_text fa fd) (hm : mg "term_text" = some (.ref fa)) (d_word_by : DOk P w K mg base C "word_by" ["value"] 1 f_word_by) : DOk P w K mg base C "term_text" ["term"] 2 f_term_text :=
  mk_D (N := N_term_text) Fn sc_term_text hm (fun _ _ _ _ _ _ us hl => match us, hl with | [_], _ => rfl) (fun kn e _ _ _ _ _ _ _ => by cases e; rfl)
      (fun cdv0 A0 outer0 s0 H0 E0 hr => (dss_one (ds_ret (de_if (dt_cmp (op_eqX hr.units) o2_eq (de_ix (de_var (pv 0)) de_int) (de_gl T.c_VAR (by rfl)) (nomark _)) (de_ix (de_var (pv 0)) de_int) (de_callD d_word_by hr (by decide) (by rfl) takesE (da_cons (de_ix (de_var (pv 0)) de_int) da_nil))))))
abbrev N_listed : List Str := ["name", "words"]
theorem sc_listed : FnScope N_listed ["name", "words"] (defScope st_listed) := ⟨rfl, rfl, rfl, by decide +kernel, rfl, by decide +kernel, by decide +kernel⟩
def b_listed : Sm := (S.ret (E.joined [(E.un fmtD (E.var 0)), (E.k (.str " ( ")), (E.un fmtD (E.meth isS joinD (E.k (.str " , ")) (A.cons (E.var 1) A.nil))), (E.k (.str " )"))]))
def f_listed : List D → R D := runD 2 2 b_listed
theorem ok_listed (T : Tx P w K mg base C a_ANY a_OPTIONS i_BadWord fd_BadWord i_InvalidText fd_InvalidText i_InvalidTree fd_InvalidTree i_InvalidValue fd_InvalidValue a_BookError) (Fn : Fun K "listed" "listed" st_listed fa fd) (hm : mg "listed" = some (.ref fa))  : DOk P w K mg base C "listed" ["name", "words"] 1 f_listed :=
  mk_D (N := N_listed) Fn sc_listed hm (fun _ _ _ _ _ _ us hl => match us, hl with | [_, _], _ => rfl) (fun kn e => nomatch e)
      (fun cdv0 A0 outer0 s0 H0 E0 hr => (dss_one (ds_ret (de_joined (DJ.cons (de_fmt (de_var (pv 0))) (DJ.cons de_str (DJ.cons (de_fmt (de_join de_str (de_var (pv 1)))) (DJ.cons de_str DJ.nil))))))))
abbrev N_text_of_fact : List Str := ["fact", "value"]
theorem sc_text_of_fact : FnScope N_text_of_fact ["fact"] (defScope st_text_of_fact) := ⟨rfl, rfl, rfl, by decide +kernel, rfl, by decide +kernel, by decide +kernel⟩
def b_text_of_fact : Sm := (S.ret (E.call f_listed (A.cons (E.op ixD (E.var 0) (E.k (.int 0))) (A.cons (E.lc [1] (B.name 1) (I.seq (E.op ixD (E.var 0) (E.k (.int 1)))) T.yes (E.call f_word_by (A.cons (E.var 1) A.nil))) A.nil))))
def f_text_of_fact : List D → R D := runD 1 2 b_text_of_fact
theorem ok_text_of_fact (T : Tx P w K mg base C a_ANY a_OPTIONS i_BadWord fd_BadWord i_InvalidText fd_InvalidText i_InvalidTree fd_InvalidTree i_InvalidValue fd_InvalidValue a_BookError) (Fn : Fun K "text_of_fact" "text_of_fact" st_text_of_fact fa fd) (hm : mg "text_of_fact" = some (.ref fa)) (d_word_by : DOk P w K mg base C "word_by" ["value"] 1 f_word_by) (d_listed : DOk P w K mg base C "listed" ["name", "words"] 1 f_listed) : DOk P w K mg base C "text_of_fact" ["fact"] 2 f_text_of_fact :=
  mk_D (N := N_text_of_fact) Fn sc_text_of_fact hm (fun _ _ _ _ _ _ us hl => match us, hl with | [_], _ => rfl) (fun kn e _ _ _ _ _ _ _ => by cases e; rfl)
      (fun cdv0 A0 outer0 s0 H0 E0 hr => (dss_one (ds_ret (de_callD d_listed hr (by decide) (by rfl) takesE (da_cons (de_ix (de_var (pv 0)) de_int) (da_cons (de_lc (own := [("value", 1)]) (g := gName 1) rfl sc_text_of_fact.nd (di_seq (de_ix (de_var (pv 0)) de_int)) (blkOk_by (N := N_text_of_fact) (sc := defScope st_text_of_fact) (own := [("value", 1)]) (by decide +kernel)) (tg_name (by decide)) (fun _ _ _ _ _ => pg_name (i := 1) sc_text_of_fact.nd rfl (Or.inl rfl)) (fun _ _ _ _ _ => dts_nil) (fun _ _ _ _ _ => (de_callD d_word_by hr (by decide) (by rfl) takes0 (da_cons (de_var (pv 1)) da_nil)))) da_nil))))))
abbrev N_text_of_atom : List Str := ["atom", "term"]
theorem sc_text_of_atom : FnScope N_text_of_atom ["atom"] (defScope st_text_of_atom) := ⟨rfl, rfl, rfl, by decide +kernel, rfl, by decide +kernel, by decide +kernel⟩
def b_text_of_atom : Sm := (S.ret (E.call f_listed (A.cons (E.op ixD (E.var 0) (E.k (.int 0))) (A.cons (E.lc [1] (B.name 1) (I.seq (E.op ixD (E.var 0) (E.k (.int 1)))) T.yes (E.call f_term_text (A.cons (E.var 1) A.nil))) A.nil))))
def f_text_of_atom : List D → R D := runD 1 2 b_text_of_atom
theorem ok_text_of_atom (T : Tx P w K mg base C a_ANY a_OPTIONS i_BadWord fd_BadWord i_InvalidText fd_InvalidText i_InvalidTree fd_InvalidTree i_InvalidValue fd_InvalidValue a_BookError) (Fn : Fun K "text_of_atom" "text_of_atom" st_text_of_atom fa fd) (hm : mg "text_of_atom" = some (.ref fa)) (d_term_text : DOk P w K mg base C "term_text" ["term"] 2 f_term_text) (d_listed : DOk P w K mg base C "listed" ["name", "words"] 1 f_listed) : DOk P w K mg base C "text_of_atom" ["atom"] 3 f_text_of_atom :=
  mk_D (N := N_text_of_atom) Fn sc_text_of_atom hm (fun _ _ _ _ _ _ us hl => match us, hl with | [_], _ => rfl) (fun kn e _ _ _ _ _ _ _ => by cases e; rfl)
      (fun cdv0 A0 outer0 s0 H0 E0 hr => (dss_one (ds_ret (de_callD d_listed hr (by decide) (by rfl) takesE (da_cons (de_ix (de_var (pv 0)) de_int) (da_cons (de_lc (own := [("term", 1)]) (g := gName 1) rfl sc_text_of_atom.nd (di_seq (de_ix (de_var (pv 0)) de_int)) (blkOk_by (N := N_text_of_atom) (sc := defScope st_text_of_atom) (own := [("term", 1)]) (by decide +kernel)) (tg_name (by decide)) (fun _ _ _ _ _ => pg_name (i := 1) sc_text_of_atom.nd rfl (Or.inl rfl)) (fun _ _ _ _ _ => dts_nil) (fun _ _ _ _ _ => (de_callD d_term_text hr (by decide) (by rfl) takes0 (da_cons (de_var (pv 1)) da_nil)))) da_nil))))))
abbrev N_text_of_literal : List Str := ["literal"]
theorem sc_text_of_literal : FnScope N_text_of_literal ["literal"] (defScope st_text_of_literal) := ⟨rfl, rfl, rfl, by decide +kernel, rfl, by decide +kernel, by decide +kernel⟩
def b_text_of_literal : Sm := (S.seq (S.ite (T.val (E.op inD (E.op ixD (E.var 0) (E.k (.int 0))) (E.k c_COMPARING))) (S.ret (E.joined [(E.un fmtD (E.call f_term_text (A.cons (E.op ixD (E.var 0) (E.k (.int 1))) A.nil))), (E.k (.str " ")), (E.un fmtD (E.op ixD (E.var 0) (E.k (.int 0)))), (E.k (.str " ")), (E.un fmtD (E.call f_term_text (A.cons (E.op ixD (E.var 0) (E.k (.int 2))) A.nil)))])) S.pass) (S.ret (E.ite (T.val (E.op eqD (E.op ixD (E.var 0) (E.k (.int 0))) (E.k c_YES))) (E.call f_text_of_atom (A.cons (E.op ixD (E.var 0) (E.k (.int 1))) A.nil)) (E.joined [(E.un fmtD (E.k c_NOT)), (E.k (.str " ")), (E.un fmtD (E.call f_text_of_atom (A.cons (E.op ixD (E.var 0) (E.k (.int 1))) A.nil)))]))))
def f_text_of_literal : List D → R D := runD 1 1 b_text_of_literal
theorem ok_text_of_literal (T : Tx P w K mg base C a_ANY a_OPTIONS i_BadWord fd_BadWord i_InvalidText fd_InvalidText i_InvalidTree fd_InvalidTree i_InvalidValue fd_InvalidValue a_BookError) (Fn : Fun K "text_of_literal" "text_of_literal" st_text_of_literal fa fd) (hm : mg "text_of_literal" = some (.ref fa)) (d_term_text : DOk P w K mg base C "term_text" ["term"] 2 f_term_text) (d_text_of_atom : DOk P w K mg base C "text_of_atom" ["atom"] 3 f_text_of_atom) : DOk P w K mg base C "text_of_literal" ["literal"] 4 f_text_of_literal :=
  mk_D (N := N_text_of_literal) Fn sc_text_of_literal hm (fun _ _ _ _ _ _ us hl => match us, hl with | [_], _ => rfl) (fun kn e _ _ _ _ _ _ _ => by cases e; rfl)
      (fun cdv0 A0 outer0 s0 H0 E0 hr => (dss_cons (ds_if (dt_cmp (op_inX (hu1 hr)) o2_in (de_ix (de_var (pv 0)) de_int) (de_gl T.c_COMPARING (by rfl)) rfl) (dss_one (ds_ret (de_joined (DJ.cons (de_fmt (de_callD d_term_text hr (by decide) (by rfl) takesE (da_cons (de_ix (de_var (pv 0)) de_int) da_nil))) (DJ.cons de_str (DJ.cons (de_fmt (de_ix (de_var (pv 0)) de_int)) (DJ.cons de_str (DJ.cons (de_fmt (de_callD d_term_text hr (by decide) (by rfl) takesE (da_cons (de_ix (de_var (pv 0)) de_int) da_nil))) DJ.nil)))))))) dss_nil) (dss_one (ds_ret (de_if (dt_cmp (op_eqX hr.units) o2_eq (de_ix (de_var (pv 0)) de_int) (de_gl T.c_YES (by rfl)) (nomark _)) (de_callD d_text_of_atom hr (by decide) (by rfl) takesE (da_cons (de_ix (de_var (pv 0)) de_int) da_nil)) (de_joined (DJ.cons (de_fmt (de_gl T.c_NOT (by rfl))) (DJ.cons de_str (DJ.cons (de_fmt (de_callD d_text_of_atom hr (by decide) (by rfl) takesE (da_cons (de_ix (de_var (pv 0)) de_int) da_nil))) DJ.nil)))))))))
abbrev N_text_of_body : List Str := ["body", "literal"]
theorem sc_text_of_body : FnScope N_text_of_body ["body"] (defScope st_text_of_body) := ⟨rfl, rfl, rfl, by decide +kernel, rfl, by decide +kernel, by decide +kernel⟩
def b_text_of_body : Sm := (S.ret (E.meth isS joinD (E.k (.str " & ")) (A.cons (E.lc [1] (B.name 1) (I.seq (E.var 0)) T.yes (E.call f_text_of_literal (A.cons (E.var 1) A.nil))) A.nil)))
def f_text_of_body : List D → R D := runD 1 2 b_text_of_body
theorem ok_text_of_body (T : Tx P w K mg base C a_ANY a_OPTIONS i_BadWord fd_BadWord i_InvalidText fd_InvalidText i_InvalidTree fd_InvalidTree i_InvalidValue fd_InvalidValue a_BookError) (Fn : Fun K "text_of_body" "text_of_body" st_text_of_body fa fd) (hm : mg "text_of_body" = some (.ref fa)) (d_text_of_literal : DOk P w K mg base C "text_of_literal" ["literal"] 4 f_text_of_literal) : DOk P w K mg base C "text_of_body" ["body"] 5 f_text_of_body :=
  mk_D (N := N_text_of_body) Fn sc_text_of_body hm (fun _ _ _ _ _ _ us hl => match us, hl with | [_], _ => rfl) (fun kn e _ _ _ _ _ _ _ => by cases e; rfl)
      (fun cdv0 A0 outer0 s0 H0 E0 hr => (dss_one (ds_ret (de_join de_str (de_lc (own := [("literal", 1)]) (g := gName 1) rfl sc_text_of_body.nd (di_seq (de_var (pv 0))) (blkOk_by (N := N_text_of_body) (sc := defScope st_text_of_body) (own := [("literal", 1)]) (by decide +kernel)) (tg_name (by decide)) (fun _ _ _ _ _ => pg_name (i := 1) sc_text_of_body.nd rfl (Or.inl rfl)) (fun _ _ _ _ _ => dts_nil) (fun _ _ _ _ _ => (de_callD d_text_of_literal hr (by decide) (by rfl) takes0 (da_cons (de_var (pv 1)) da_nil))))))))
abbrev N_text_of_rule : List Str := ["atom", "body"]
theorem sc_text_of_rule : FnScope N_text_of_rule ["atom", "body"] (defScope st_text_of_rule) := ⟨rfl, rfl, rfl, by decide +kernel, rfl, by decide +kernel, by decide +kernel⟩
def b_text_of_rule : Sm := (S.ret (E.joined [(E.un fmtD (E.call f_text_of_atom (A.cons (E.var 0) A.nil))), (E.k (.str " if ")), (E.un fmtD (E.call f_text_of_body (A.cons (E.var 1) A.nil)))]))
def f_text_of_rule : List D → R D := runD 2 2 b_text_of_rule
theorem ok_text_of_rule (T : Tx P w K mg base C a_ANY a_OPTIONS i_BadWord fd_BadWord i_InvalidText fd_InvalidText i_InvalidTree fd_InvalidTree i_InvalidValue fd_InvalidValue a_BookError) (Fn : Fun K "text_of_rule" "text_of_rule" st_text_of_rule fa fd) (hm : mg "text_of_rule" = some (.ref fa)) (d_text_of_atom : DOk P w K mg base C "text_of_atom" ["atom"] 3 f_text_of_atom) (d_text_of_body : DOk P w K mg base C "text_of_body" ["body"] 5 f_text_of_body) : DOk P w K mg base C "text_of_rule" ["atom", "body"] 6 f_text_of_rule :=
  mk_D (N := N_text_of_rule) Fn sc_text_of_rule hm (fun _ _ _ _ _ _ us hl => match us, hl with | [_, _], _ => rfl) (fun kn e => nomatch e)
      (fun cdv0 A0 outer0 s0 H0 E0 hr => (dss_one (ds_ret (de_joined (DJ.cons (de_fmt (de_callD d_text_of_atom hr (by decide) (by rfl) takesE (da_cons (de_var (pv 0)) da_nil))) (DJ.cons de_str (DJ.cons (de_fmt (de_callD d_text_of_body hr (by decide) (by rfl) takesE (da_cons (de_var (pv 1)) da_nil))) DJ.nil)))))))
abbrev N_text_of_entry : List Str := ["entry"]
theorem sc_text_of_entry : FnScope N_text_of_entry ["entry"] (defScope st_text_of_entry) := ⟨rfl, rfl, rfl, by decide +kernel, rfl, by decide +kernel, by decide +kernel⟩
def b_text_of_entry : Sm := (S.seq (S.ite (T.val (E.op inD (E.op ixD (E.var 0) (E.k (.int 0))) (E.k c_OF_FACTS))) (S.ret (E.joined [(E.un fmtD (E.op ixD (E.var 0) (E.k (.int 0)))), (E.k (.str " ")), (E.un fmtD (E.call f_text_of_fact (A.cons (E.op ixD (E.var 0) (E.k (.int 1))) A.nil)))])) S.pass) (S.ret (E.ite (T.val (E.op eqD (E.op ixD (E.var 0) (E.k (.int 0))) (E.k c_RULE))) (E.joined [(E.un fmtD (E.k c_RULE)), (E.k (.str " ")), (E.un fmtD (E.call f_text_of_rule (A.cons (E.op ixD (E.var 0) (E.k (.int 1))) (A.cons (E.op ixD (E.var 0) (E.k (.int 2))) A.nil))))]) (E.joined [(E.un fmtD (E.k c_DROP)), (E.k (.str " ")), (E.un fmtD (E.op ixD (E.var 0) (E.k (.int 1))))]))))
def f_text_of_entry : List D → R D := runD 1 1 b_text_of_entry
theorem ok_text_of_entry (T : Tx P w K mg base C a_ANY a_OPTIONS i_BadWord fd_BadWord i_InvalidText fd_InvalidText i_InvalidTree fd_InvalidTree i_InvalidValue fd_InvalidValue a_BookError) (Fn : Fun K "text_of_entry" "text_of_entry" st_text_of_entry fa fd) (hm : mg "text_of_entry" = some (.ref fa)) (d_text_of_fact : DOk P w K mg base C "text_of_fact" ["fact"] 2 f_text_of_fact) (d_text_of_rule : DOk P w K mg base C "text_of_rule" ["atom", "body"] 6 f_text_of_rule) : DOk P w K mg base C "text_of_entry" ["entry"] 7 f_text_of_entry :=
  mk_D (N := N_text_of_entry) Fn sc_text_of_entry hm (fun _ _ _ _ _ _ us hl => match us, hl with | [_], _ => rfl) (fun kn e _ _ _ _ _ _ _ => by cases e; rfl)
      (fun cdv0 A0 outer0 s0 H0 E0 hr => (dss_cons (ds_if (dt_cmp (op_inX (hu1 hr)) o2_in (de_ix (de_var (pv 0)) de_int) (de_gl T.c_OF_FACTS (by rfl)) rfl) (dss_one (ds_ret (de_joined (DJ.cons (de_fmt (de_ix (de_var (pv 0)) de_int)) (DJ.cons de_str (DJ.cons (de_fmt (de_callD d_text_of_fact hr (by decide) (by rfl) takesE (da_cons (de_ix (de_var (pv 0)) de_int) da_nil))) DJ.nil)))))) dss_nil) (dss_one (ds_ret (de_if (dt_cmp (op_eqX hr.units) o2_eq (de_ix (de_var (pv 0)) de_int) (de_gl T.c_RULE (by rfl)) (nomark _)) (de_joined (DJ.cons (de_fmt (de_gl T.c_RULE (by rfl))) (DJ.cons de_str (DJ.cons (de_fmt (de_callD d_text_of_rule hr (by decide) (by rfl) takesE (da_cons (de_ix (de_var (pv 0)) de_int) (da_cons (de_ix (de_var (pv 0)) de_int) da_nil)))) DJ.nil)))) (de_joined (DJ.cons (de_fmt (de_gl T.c_DROP (by rfl))) (DJ.cons de_str (DJ.cons (de_fmt (de_ix (de_var (pv 0)) de_int)) DJ.nil)))))))))
abbrev N_is_tuple_of : List Str := ["value", "many"]
theorem sc_is_tuple_of : FnScope N_is_tuple_of ["value", "many"] (defScope st_is_tuple_of) := ⟨rfl, rfl, rfl, by decide +kernel, rfl, by decide +kernel, by decide +kernel⟩
def b_is_tuple_of : Sm := (S.ret (E.and (E.isi .tuple (E.var 0)) (E.op eqD (E.fn lenD (A.cons (E.var 0) A.nil)) (E.var 1))))
def f_is_tuple_of : List D → R D := runD 2 2 b_is_tuple_of
theorem ok_is_tuple_of (T : Tx P w K mg base C a_ANY a_OPTIONS i_BadWord fd_BadWord i_InvalidText fd_InvalidText i_InvalidTree fd_InvalidTree i_InvalidValue fd_InvalidValue a_BookError) (Fn : Fun K "is_tuple_of" "is_tuple_of" st_is_tuple_of fa fd) (hm : mg "is_tuple_of" = some (.ref fa))  : DOk P w K mg base C "is_tuple_of" ["value", "many"] 1 f_is_tuple_of :=
  mk_D (N := N_is_tuple_of) Fn sc_is_tuple_of hm (fun _ _ _ _ _ _ us hl => match us, hl with | [_, _], _ => rfl) (fun kn e => nomatch e)
      (fun cdv0 A0 outer0 s0 H0 E0 hr => (dss_one (ds_ret (de_and (de_isi (T := .tuple) (T.fr "isinstance" (by decide)) (T.fr "tuple" (by decide)) (by rfl) (by rfl) (by decide +kernel) (de_var (pv 0))) (de_one (de_cmp (op_eqX hr.units) o2_eq (de_callB call_len on_len (by rfl) (T.fr "len" (by decide)) boot_len (da_cons (de_var (pv 0)) da_nil)) (de_var (pv 1)) (nomark _)))))))
abbrev N_is_term : List Str := ["value"]
theorem sc_is_term : FnScope N_is_term ["value"] (defScope st_is_term) := ⟨rfl, rfl, rfl, by decide +kernel, rfl, by decide +kernel, by decide +kernel⟩
def b_is_term : Sm := (S.seq (S.ite (T.or (T.not (T.val (E.call f_is_tuple_of (A.cons (E.var 0) (A.cons (E.k (.int 2)) A.nil))))) (T.not (T.val (E.isi .str (E.op ixD (E.var 0) (E.k (.int 0))))))) (S.ret (E.k (.bl false))) S.pass) (S.ret (E.or (E.and (E.op eqD (E.op ixD (E.var 0) (E.k (.int 0))) (E.k c_VAR)) (E.call f_is_variable (A.cons (E.op ixD (E.var 0) (E.k (.int 1))) A.nil))) (E.and (E.op eqD (E.op ixD (E.var 0) (E.k (.int 0))) (E.k c_VAL)) (E.call f_is_value (A.cons (E.op ixD (E.var 0) (E.k (.int 1))) A.nil))))))
def f_is_term : List D → R D := runD 1 1 b_is_term
theorem ok_is_term (T : Tx P w K mg base C a_ANY a_OPTIONS i_BadWord fd_BadWord i_InvalidText fd_InvalidText i_InvalidTree fd_InvalidTree i_InvalidValue fd_InvalidValue a_BookError) (Fn : Fun K "is_term" "is_term" st_is_term fa fd) (hm : mg "is_term" = some (.ref fa)) (d_is_tuple_of : DOk P w K mg base C "is_tuple_of" ["value", "many"] 1 f_is_tuple_of) (d_is_variable : DOk P w K mg base C "is_variable" ["value"] 2 f_is_variable) (d_is_value : DOk P w K mg base C "is_value" ["value"] 3 f_is_value) : DOk P w K mg base C "is_term" ["value"] 4 f_is_term :=
  mk_D (N := N_is_term) Fn sc_is_term hm (fun _ _ _ _ _ _ us hl => match us, hl with | [_], _ => rfl) (fun kn e _ _ _ _ _ _ _ => by cases e; rfl)
      (fun cdv0 A0 outer0 s0 H0 E0 hr => (dss_cons (ds_if (PW.pt (dw_or (dt_not (dt_val (de_callD d_is_tuple_of hr (by decide) (by rfl) takesE (da_cons (de_var (pv 0)) (da_cons de_int da_nil))))) (dw_or1 (dt_not (dt_val (de_isi (T := .str) (T.fr "isinstance" (by decide)) (T.fr "str" (by decide)) (by rfl) (by rfl) (by decide +kernel) (de_ix (de_var (pv 0)) de_int))))))) (dss_one (ds_ret de_bl)) dss_nil) (dss_one (ds_ret (de_or (de_and (de_cmp (op_eqX hr.units) o2_eq (de_ix (de_var (pv 0)) de_int) (de_gl T.c_VAR (by rfl)) (nomark _)) (de_one (de_callD d_is_variable hr (by decide) (by rfl) takesE (da_cons (de_ix (de_var (pv 0)) de_int) da_nil)))) (de_one (de_and (de_cmp (op_eqX hr.units) o2_eq (de_ix (de_var (pv 0)) de_int) (de_gl T.c_VAL (by rfl)) (nomark _)) (de_one (de_callD d_is_value hr (by decide) (by rfl) takesE (da_cons (de_ix (de_var (pv 0)) de_int) da_nil))))))))))
abbrev N_is_atom_tree : List Str := ["value", "term"]
theorem sc_is_atom_tree : FnScope N_is_atom_tree ["value"] (defScope st_is_atom_tree) := ⟨rfl, rfl, rfl, by decide +kernel, rfl, by decide +kernel, by decide +kernel⟩
def b_is_atom_tree : Sm := (S.seq (S.ite (T.or (T.not (T.val (E.call f_is_tuple_of (A.cons (E.var 0) (A.cons (E.k (.int 2)) A.nil))))) (T.or (T.not (T.val (E.call f_is_name (A.cons (E.op ixD (E.var 0) (E.k (.int 0))) A.nil)))) (T.not (T.val (E.isi .tuple (E.op ixD (E.var 0) (E.k (.int 1)))))))) (S.ret (E.k (.bl false))) S.pass) (S.ret (E.and (E.chain leD leD (E.k (.int 1)) (E.fn lenD (A.cons (E.op ixD (E.var 0) (E.k (.int 1))) A.nil)) (E.k c_MOST_TERMS)) (E.fn allD (A.cons (E.lc [1] (B.name 1) (I.seq (E.op ixD (E.var 0) (E.k (.int 1)))) T.yes (E.call f_is_term (A.cons (E.var 1) A.nil))) A.nil)))))
def f_is_atom_tree : List D → R D := runD 1 2 b_is_atom_tree
theorem ok_is_atom_tree (T : Tx P w K mg base C a_ANY a_OPTIONS i_BadWord fd_BadWord i_InvalidText fd_InvalidText i_InvalidTree fd_InvalidTree i_InvalidValue fd_InvalidValue a_BookError) (Fn : Fun K "is_atom_tree" "is_atom_tree" st_is_atom_tree fa fd) (hm : mg "is_atom_tree" = some (.ref fa)) (d_is_tuple_of : DOk P w K mg base C "is_tuple_of" ["value", "many"] 1 f_is_tuple_of) (d_is_name : DOk P w K mg base C "is_name" ["value"] 2 f_is_name) (d_is_term : DOk P w K mg base C "is_term" ["value"] 4 f_is_term) : DOk P w K mg base C "is_atom_tree" ["value"] 5 f_is_atom_tree :=
  mk_D (N := N_is_atom_tree) Fn sc_is_atom_tree hm (fun _ _ _ _ _ _ us hl => match us, hl with | [_], _ => rfl) (fun kn e _ _ _ _ _ _ _ => by cases e; rfl)
      (fun cdv0 A0 outer0 s0 H0 E0 hr => (dss_cons (ds_if (PW.pt (dw_or (dt_not (dt_val (de_callD d_is_tuple_of hr (by decide) (by rfl) takesE (da_cons (de_var (pv 0)) (da_cons de_int da_nil))))) (dw_or (dt_not (dt_val (de_callD d_is_name hr (by decide) (by rfl) takesE (da_cons (de_ix (de_var (pv 0)) de_int) da_nil)))) (dw_or1 (dt_not (dt_val (de_isi (T := .tuple) (T.fr "isinstance" (by decide)) (T.fr "tuple" (by decide)) (by rfl) (by rfl) (by decide +kernel) (de_ix (de_var (pv 0)) de_int)))))))) (dss_one (ds_ret de_bl)) dss_nil) (dss_one (ds_ret (de_and (de_chain (op_leD) (op_leD) o2_cmp o2_cmp de_int (de_callB call_len on_len (by rfl) (T.fr "len" (by decide)) boot_len (da_cons (de_ix (de_var (pv 0)) de_int) da_nil)) (de_gl T.c_MOST_TERMS (by rfl))) (de_one (de_callB (cr_all rfl) on_all (by rfl) (T.fr "all" (by decide)) (by decide +kernel) (da_cons (de_lc (own := [("term", 1)]) (g := gName 1) rfl sc_is_atom_tree.nd (di_seq (de_ix (de_var (pv 0)) de_int)) (blkOk_by (N := N_is_atom_tree) (sc := defScope st_is_atom_tree) (own := [("term", 1)]) (by decide +kernel)) (tg_name (by decide)) (fun _ _ _ _ _ => pg_name (i := 1) sc_is_atom_tree.nd rfl (Or.inl rfl)) (fun _ _ _ _ _ => dts_nil) (fun _ _ _ _ _ => (de_callD d_is_term hr (by decide) (by rfl) takes0 (da_cons (de_var (pv 1)) da_nil)))) da_nil))))))))
abbrev N_is_literal : List Str := ["value"]
theorem sc_is_literal : FnScope N_is_literal ["value"] (defScope st_is_literal) := ⟨rfl, rfl, rfl, by decide +kernel, rfl, by decide +kernel, by decide +kernel⟩
def b_is_literal : Sm := (S.seq (S.ite (T.or (T.not (T.val (E.isi .tuple (E.var 0)))) (T.or (T.val (E.op eqD (E.var 0) (E.tup A.nil))) (T.not (T.val (E.isi .str (E.op ixD (E.var 0) (E.k (.int 0)))))))) (S.ret (E.k (.bl false))) S.pass) (S.seq (S.ite (T.val (E.op inD (E.op ixD (E.var 0) (E.k (.int 0))) (E.tup (A.cons (E.k c_YES) (A.cons (E.k c_NOT) A.nil))))) (S.ret (E.and (E.op eqD (E.fn lenD (A.cons (E.var 0) A.nil)) (E.k (.int 2))) (E.call f_is_atom_tree (A.cons (E.op ixD (E.var 0) (E.k (.int 1))) A.nil)))) S.pass) (S.ret (E.and (E.op inD (E.op ixD (E.var 0) (E.k (.int 0))) (E.k c_COMPARING)) (E.and (E.op eqD (E.fn lenD (A.cons (E.var 0) A.nil)) (E.k (.int 3))) (E.and (E.call f_is_term (A.cons (E.op ixD (E.var 0) (E.k (.int 1))) A.nil)) (E.call f_is_term (A.cons (E.op ixD (E.var 0) (E.k (.int 2))) A.nil))))))))
def f_is_literal : List D → R D := runD 1 1 b_is_literal
theorem ok_is_literal (T : Tx P w K mg base C a_ANY a_OPTIONS i_BadWord fd_BadWord i_InvalidText fd_InvalidText i_InvalidTree fd_InvalidTree i_InvalidValue fd_InvalidValue a_BookError) (Fn : Fun K "is_literal" "is_literal" st_is_literal fa fd) (hm : mg "is_literal" = some (.ref fa)) (d_is_atom_tree : DOk P w K mg base C "is_atom_tree" ["value"] 5 f_is_atom_tree) (d_is_term : DOk P w K mg base C "is_term" ["value"] 4 f_is_term) : DOk P w K mg base C "is_literal" ["value"] 6 f_is_literal :=
  mk_D (N := N_is_literal) Fn sc_is_literal hm (fun _ _ _ _ _ _ us hl => match us, hl with | [_], _ => rfl) (fun kn e _ _ _ _ _ _ _ => by cases e; rfl)
      (fun cdv0 A0 outer0 s0 H0 E0 hr => (dss_cons (ds_if (PW.pt (dw_or (dt_not (dt_val (de_isi (T := .tuple) (T.fr "isinstance" (by decide)) (T.fr "tuple" (by decide)) (by rfl) (by rfl) (by decide +kernel) (de_var (pv 0))))) (dw_or (dt_cmp (op_eqX hr.units) o2_eq (de_var (pv 0)) (de_tup da_nil) (nomark _)) (dw_or1 (dt_not (dt_val (de_isi (T := .str) (T.fr "isinstance" (by decide)) (T.fr "str" (by decide)) (by rfl) (by rfl) (by decide +kernel) (de_ix (de_var (pv 0)) de_int)))))))) (dss_one (ds_ret de_bl)) dss_nil) (dss_cons (ds_if (dt_cmp (op_inX (hu1 hr)) o2_in (de_ix (de_var (pv 0)) de_int) (de_tup (da_cons (de_gl T.c_YES (by rfl)) (da_cons (de_gl T.c_NOT (by rfl)) da_nil))) rfl) (dss_one (ds_ret (de_and (de_cmp (op_eqX hr.units) o2_eq (de_callB call_len on_len (by rfl) (T.fr "len" (by decide)) boot_len (da_cons (de_var (pv 0)) da_nil)) de_int (nomark _)) (de_one (de_callD d_is_atom_tree hr (by decide) (by rfl) takesE (da_cons (de_ix (de_var (pv 0)) de_int) da_nil)))))) dss_nil) (dss_one (ds_ret (de_and (de_cmp (op_inX (hu1 hr)) o2_in (de_ix (de_var (pv 0)) de_int) (de_gl T.c_COMPARING (by rfl)) rfl) (de_and (de_cmp (op_eqX hr.units) o2_eq (de_callB call_len on_len (by rfl) (T.fr "len" (by decide)) boot_len (da_cons (de_var (pv 0)) da_nil)) de_int (nomark _)) (de_and (de_callD d_is_term hr (by decide) (by rfl) takesE (da_cons (de_ix (de_var (pv 0)) de_int) da_nil)) (de_one (de_callD d_is_term hr (by decide) (by rfl) takesE (da_cons (de_ix (de_var (pv 0)) de_int) da_nil)))))))))))
abbrev N_is_body_tree : List Str := ["value", "literal"]
theorem sc_is_body_tree : FnScope N_is_body_tree ["value"] (defScope st_is_body_tree) := ⟨rfl, rfl, rfl, by decide +kernel, rfl, by decide +kernel, by decide +kernel⟩
def b_is_body_tree : Sm := (S.seq (S.ite (T.or (T.not (T.val (E.isi .tuple (E.var 0)))) (T.not (T.val (E.chain leD leD (E.k (.int 1)) (E.fn lenD (A.cons (E.var 0) A.nil)) (E.k c_MOST_LITERALS))))) (S.ret (E.k (.bl false))) S.pass) (S.ret (E.fn allD (A.cons (E.lc [1] (B.name 1) (I.seq (E.var 0)) T.yes (E.call f_is_literal (A.cons (E.var 1) A.nil))) A.nil))))
def f_is_body_tree : List D → R D := runD 1 2 b_is_body_tree
theorem ok_is_body_tree (T : Tx P w K mg base C a_ANY a_OPTIONS i_BadWord fd_BadWord i_InvalidText fd_InvalidText i_InvalidTree fd_InvalidTree i_InvalidValue fd_InvalidValue a_BookError) (Fn : Fun K "is_body_tree" "is_body_tree" st_is_body_tree fa fd) (hm : mg "is_body_tree" = some (.ref fa)) (d_is_literal : DOk P w K mg base C "is_literal" ["value"] 6 f_is_literal) : DOk P w K mg base C "is_body_tree" ["value"] 7 f_is_body_tree :=
  mk_D (N := N_is_body_tree) Fn sc_is_body_tree hm (fun _ _ _ _ _ _ us hl => match us, hl with | [_], _ => rfl) (fun kn e _ _ _ _ _ _ _ => by cases e; rfl)
      (fun cdv0 A0 outer0 s0 H0 E0 hr => (dss_cons (ds_if (PW.pt (dw_or (dt_not (dt_val (de_isi (T := .tuple) (T.fr "isinstance" (by decide)) (T.fr "tuple" (by decide)) (by rfl) (by rfl) (by decide +kernel) (de_var (pv 0))))) (dw_or1 (dt_not (dt_chain (op_leD) (op_leD) o2_cmp o2_cmp de_int (de_callB call_len on_len (by rfl) (T.fr "len" (by decide)) boot_len (da_cons (de_var (pv 0)) da_nil)) (de_gl T.c_MOST_LITERALS (by rfl))))))) (dss_one (ds_ret de_bl)) dss_nil) (dss_one (ds_ret (de_callB (cr_all rfl) on_all (by rfl) (T.fr "all" (by decide)) (by decide +kernel) (da_cons (de_lc (own := [("literal", 1)]) (g := gName 1) rfl sc_is_body_tree.nd (di_seq (de_var (pv 0))) (blkOk_by (N := N_is_body_tree) (sc := defScope st_is_body_tree) (own := [("literal", 1)]) (by decide +kernel)) (tg_name (by decide)) (fun _ _ _ _ _ => pg_name (i := 1) sc_is_body_tree.nd rfl (Or.inl rfl)) (fun _ _ _ _ _ => dts_nil) (fun _ _ _ _ _ => (de_callD d_is_literal hr (by decide) (by rfl) takes0 (da_cons (de_var (pv 1)) da_nil)))) da_nil))))))
abbrev N_is_some_row : List Str := ["value", "each"]
theorem sc_is_some_row : FnScope N_is_some_row ["value"] (defScope st_is_some_row) := ⟨rfl, rfl, rfl, by decide +kernel, rfl, by decide +kernel, by decide +kernel⟩
def b_is_some_row : Sm := (S.ret (E.and (E.isi .tuple (E.var 0)) (E.and (E.chain leD leD (E.k (.int 1)) (E.fn lenD (A.cons (E.var 0) A.nil)) (E.k c_MOST_TERMS)) (E.fn allD (A.cons (E.lc [1] (B.name 1) (I.seq (E.var 0)) T.yes (E.call f_is_value (A.cons (E.var 1) A.nil))) A.nil)))))
def f_is_some_row : List D → R D := runD 1 2 b_is_some_row
theorem ok_is_some_row (T : Tx P w K mg base C a_ANY a_OPTIONS i_BadWord fd_BadWord i_InvalidText fd_InvalidText i_InvalidTree fd_InvalidTree i_InvalidValue fd_InvalidValue a_BookError) (Fn : Fun K "is_some_row" "is_some_row" st_is_some_row fa fd) (hm : mg "is_some_row" = some (.ref fa)) (d_is_value : DOk P w K mg base C "is_value" ["value"] 3 f_is_value) : DOk P w K mg base C "is_some_row" ["value"] 4 f_is_some_row :=
  mk_D (N := N_is_some_row) Fn sc_is_some_row hm (fun _ _ _ _ _ _ us hl => match us, hl with | [_], _ => rfl) (fun kn e _ _ _ _ _ _ _ => by cases e; rfl)
      (fun cdv0 A0 outer0 s0 H0 E0 hr => (dss_one (ds_ret (de_and (de_isi (T := .tuple) (T.fr "isinstance" (by decide)) (T.fr "tuple" (by decide)) (by rfl) (by rfl) (by decide +kernel) (de_var (pv 0))) (de_and (de_chain (op_leD) (op_leD) o2_cmp o2_cmp de_int (de_callB call_len on_len (by rfl) (T.fr "len" (by decide)) boot_len (da_cons (de_var (pv 0)) da_nil)) (de_gl T.c_MOST_TERMS (by rfl))) (de_one (de_callB (cr_all rfl) on_all (by rfl) (T.fr "all" (by decide)) (by decide +kernel) (da_cons (de_lc (own := [("each", 1)]) (g := gName 1) rfl sc_is_some_row.nd (di_seq (de_var (pv 0))) (blkOk_by (N := N_is_some_row) (sc := defScope st_is_some_row) (own := [("each", 1)]) (by decide +kernel)) (tg_name (by decide)) (fun _ _ _ _ _ => pg_name (i := 1) sc_is_some_row.nd rfl (Or.inl rfl)) (fun _ _ _ _ _ => dts_nil) (fun _ _ _ _ _ => (de_callD d_is_value hr (by decide) (by rfl) takes0 (da_cons (de_var (pv 1)) da_nil)))) da_nil))))))))
abbrev N_is_fact_tree : List Str := ["value"]
theorem sc_is_fact_tree : FnScope N_is_fact_tree ["value"] (defScope st_is_fact_tree) := ⟨rfl, rfl, rfl, by decide +kernel, rfl, by decide +kernel, by decide +kernel⟩
def b_is_fact_tree : Sm := (S.ret (E.and (E.call f_is_tuple_of (A.cons (E.var 0) (A.cons (E.k (.int 2)) A.nil))) (E.and (E.call f_is_name (A.cons (E.op ixD (E.var 0) (E.k (.int 0))) A.nil)) (E.call f_is_some_row (A.cons (E.op ixD (E.var 0) (E.k (.int 1))) A.nil)))))
def f_is_fact_tree : List D → R D := runD 1 1 b_is_fact_tree
theorem ok_is_fact_tree (T : Tx P w K mg base C a_ANY a_OPTIONS i_BadWord fd_BadWord i_InvalidText fd_InvalidText i_InvalidTree fd_InvalidTree i_InvalidValue fd_InvalidValue a_BookError) (Fn : Fun K "is_fact_tree" "is_fact_tree" st_is_fact_tree fa fd) (hm : mg "is_fact_tree" = some (.ref fa)) (d_is_tuple_of : DOk P w K mg base C "is_tuple_of" ["value", "many"] 1 f_is_tuple_of) (d_is_name : DOk P w K mg base C "is_name" ["value"] 2 f_is_name) (d_is_some_row : DOk P w K mg base C "is_some_row" ["value"] 4 f_is_some_row) : DOk P w K mg base C "is_fact_tree" ["value"] 5 f_is_fact_tree :=
  mk_D (N := N_is_fact_tree) Fn sc_is_fact_tree hm (fun _ _ _ _ _ _ us hl => match us, hl with | [_], _ => rfl) (fun kn e _ _ _ _ _ _ _ => by cases e; rfl)
      (fun cdv0 A0 outer0 s0 H0 E0 hr => (dss_one (ds_ret (de_and (de_callD d_is_tuple_of hr (by decide) (by rfl) takesE (da_cons (de_var (pv 0)) (da_cons de_int da_nil))) (de_and (de_callD d_is_name hr (by decide) (by rfl) takesE (da_cons (de_ix (de_var (pv 0)) de_int) da_nil)) (de_one (de_callD d_is_some_row hr (by decide) (by rfl) takesE (da_cons (de_ix (de_var (pv 0)) de_int) da_nil))))))))
abbrev N_is_count : List Str := ["value"]
theorem sc_is_count : FnScope N_is_count ["value"] (defScope st_is_count) := ⟨rfl, rfl, rfl, by decide +kernel, rfl, by decide +kernel, by decide +kernel⟩
def b_is_count : Sm := (S.ret (E.and (E.call f_is_number (A.cons (E.var 0) A.nil)) (E.op geD (E.var 0) (E.k (.int 0)))))
def f_is_count : List D → R D := runD 1 1 b_is_count
theorem ok_is_count (T : Tx P w K mg base C a_ANY a_OPTIONS i_BadWord fd_BadWord i_InvalidText fd_InvalidText i_InvalidTree fd_InvalidTree i_InvalidValue fd_InvalidValue a_BookError) (Fn : Fun K "is_count" "is_count" st_is_count fa fd) (hm : mg "is_count" = some (.ref fa)) (d_is_number : DOk P w K mg base C "is_number" ["value"] 2 f_is_number) : DOk P w K mg base C "is_count" ["value"] 3 f_is_count :=
  mk_D (N := N_is_count) Fn sc_is_count hm (fun _ _ _ _ _ _ us hl => match us, hl with | [_], _ => rfl) (fun kn e _ _ _ _ _ _ _ => by cases e; rfl)
      (fun cdv0 A0 outer0 s0 H0 E0 hr => (dss_one (ds_ret (de_and (de_callD d_is_number hr (by decide) (by rfl) takesE (da_cons (de_var (pv 0)) da_nil)) (de_one (de_cmp (op_geD) o2_cmp (de_var (pv 0)) de_int (nomark _)))))))
abbrev N_is_entry_tree : List Str := ["value"]
theorem sc_is_entry_tree : FnScope N_is_entry_tree ["value"] (defScope st_is_entry_tree) := ⟨rfl, rfl, rfl, by decide +kernel, rfl, by decide +kernel, by decide +kernel⟩
def b_is_entry_tree : Sm := (S.seq (S.ite (T.or (T.not (T.val (E.isi .tuple (E.var 0)))) (T.or (T.val (E.op eqD (E.var 0) (E.tup A.nil))) (T.not (T.val (E.isi .str (E.op ixD (E.var 0) (E.k (.int 0)))))))) (S.ret (E.k (.bl false))) S.pass) (S.seq (S.ite (T.val (E.op eqD (E.op ixD (E.var 0) (E.k (.int 0))) (E.k c_RULE))) (S.ret (E.and (E.op eqD (E.fn lenD (A.cons (E.var 0) A.nil)) (E.k (.int 3))) (E.and (E.call f_is_atom_tree (A.cons (E.op ixD (E.var 0) (E.k (.int 1))) A.nil)) (E.call f_is_body_tree (A.cons (E.op ixD (E.var 0) (E.k (.int 2))) A.nil))))) S.pass) (S.seq (S.ite (T.val (E.op neD (E.fn lenD (A.cons (E.var 0) A.nil)) (E.k (.int 2)))) (S.ret (E.k (.bl false))) S.pass) (S.ret (E.or (E.and (E.op inD (E.op ixD (E.var 0) (E.k (.int 0))) (E.k c_OF_FACTS)) (E.call f_is_fact_tree (A.cons (E.op ixD (E.var 0) (E.k (.int 1))) A.nil))) (E.and (E.op eqD (E.op ixD (E.var 0) (E.k (.int 0))) (E.k c_DROP)) (E.call f_is_count (A.cons (E.op ixD (E.var 0) (E.k (.int 1))) A.nil))))))))
def f_is_entry_tree : List D → R D := runD 1 1 b_is_entry_tree
theorem ok_is_entry_tree (T : Tx P w K mg base C a_ANY a_OPTIONS i_BadWord fd_BadWord i_InvalidText fd_InvalidText i_InvalidTree fd_InvalidTree i_InvalidValue fd_InvalidValue a_BookError) (Fn : Fun K "is_entry_tree" "is_entry_tree" st_is_entry_tree fa fd) (hm : mg "is_entry_tree" = some (.ref fa)) (d_is_atom_tree : DOk P w K mg base C "is_atom_tree" ["value"] 5 f_is_atom_tree) (d_is_body_tree : DOk P w K mg base C "is_body_tree" ["value"] 7 f_is_body_tree) (d_is_fact_tree : DOk P w K mg base C "is_fact_tree" ["value"] 5 f_is_fact_tree) (d_is_count : DOk P w K mg base C "is_count" ["value"] 3 f_is_count) : DOk P w K mg base C "is_entry_tree" ["value"] 8 f_is_entry_tree :=
  mk_D (N := N_is_entry_tree) Fn sc_is_entry_tree hm (fun _ _ _ _ _ _ us hl => match us, hl with | [_], _ => rfl) (fun kn e _ _ _ _ _ _ _ => by cases e; rfl)
      (fun cdv0 A0 outer0 s0 H0 E0 hr => (dss_cons (ds_if (PW.pt (dw_or (dt_not (dt_val (de_isi (T := .tuple) (T.fr "isinstance" (by decide)) (T.fr "tuple" (by decide)) (by rfl) (by rfl) (by decide +kernel) (de_var (pv 0))))) (dw_or (dt_cmp (op_eqX hr.units) o2_eq (de_var (pv 0)) (de_tup da_nil) (nomark _)) (dw_or1 (dt_not (dt_val (de_isi (T := .str) (T.fr "isinstance" (by decide)) (T.fr "str" (by decide)) (by rfl) (by rfl) (by decide +kernel) (de_ix (de_var (pv 0)) de_int)))))))) (dss_one (ds_ret de_bl)) dss_nil) (dss_cons (ds_if (dt_cmp (op_eqX hr.units) o2_eq (de_ix (de_var (pv 0)) de_int) (de_gl T.c_RULE (by rfl)) (nomark _)) (dss_one (ds_ret (de_and (de_cmp (op_eqX hr.units) o2_eq (de_callB call_len on_len (by rfl) (T.fr "len" (by decide)) boot_len (da_cons (de_var (pv 0)) da_nil)) de_int (nomark _)) (de_and (de_callD d_is_atom_tree hr (by decide) (by rfl) takesE (da_cons (de_ix (de_var (pv 0)) de_int) da_nil)) (de_one (de_callD d_is_body_tree hr (by decide) (by rfl) takesE (da_cons (de_ix (de_var (pv 0)) de_int) da_nil))))))) dss_nil) (dss_cons (ds_if (dt_cmp (op_neX hr.units) o2_ne (de_callB call_len on_len (by rfl) (T.fr "len" (by decide)) boot_len (da_cons (de_var (pv 0)) da_nil)) de_int (nomark _)) (dss_one (ds_ret de_bl)) dss_nil) (dss_one (ds_ret (de_or (de_and (de_cmp (op_inX (hu1 hr)) o2_in (de_ix (de_var (pv 0)) de_int) (de_gl T.c_OF_FACTS (by rfl)) rfl) (de_one (de_callD d_is_fact_tree hr (by decide) (by rfl) takesE (da_cons (de_ix (de_var (pv 0)) de_int) da_nil)))) (de_one (de_and (de_cmp (op_eqX hr.units) o2_eq (de_ix (de_var (pv 0)) de_int) (de_gl T.c_DROP (by rfl)) (nomark _)) (de_one (de_callD d_is_count hr (by decide) (by rfl) takesE (da_cons (de_ix (de_var (pv 0)) de_int) da_nil))))))))))))
abbrev N_check_entry : List Str := ["entry"]
theorem sc_check_entry : FnScope N_check_entry ["entry"] (defScope st_check_entry) := ⟨rfl, rfl, rfl, by decide +kernel, rfl, by decide +kernel, by decide +kernel⟩
def b_check_entry : Sm := (S.ite (T.not (T.val (E.call f_is_entry_tree (A.cons (E.var 0) A.nil)))) (S.raise 2 (E.var 0)) S.pass)
def f_check_entry : List D → R D := runD 1 1 b_check_entry
theorem ok_check_entry (T : Tx P w K mg base C a_ANY a_OPTIONS i_BadWord fd_BadWord i_InvalidText fd_InvalidText i_InvalidTree fd_InvalidTree i_InvalidValue fd_InvalidValue a_BookError) (Fn : Fun K "check_entry" "check_entry" st_check_entry fa fd) (hm : mg "check_entry" = some (.ref fa)) (d_is_entry_tree : DOk P w K mg base C "is_entry_tree" ["value"] 8 f_is_entry_tree) : DOk P w K mg base C "check_entry" ["entry"] 9 f_check_entry :=
  mk_D (N := N_check_entry) Fn sc_check_entry hm (fun _ _ _ _ _ _ us hl => match us, hl with | [_], _ => rfl) (fun kn e _ _ _ _ _ _ _ => by cases e; rfl)
      (fun cdv0 A0 outer0 s0 H0 E0 hr => (dss_one (ds_if (dt_not (dt_val (de_callD d_is_entry_tree hr (by decide) (by rfl) takesE (da_cons (de_var (pv 0)) da_nil)))) (dss_one (ds_raise (i := 2) T.e_InvalidTree T.i_InvalidTree (hr.mono (by decide)) T.b_InvalidTree (by rfl) rfl takesE (de_var (pv 0)))) dss_nil)))
abbrev N_check_body : List Str := ["body"]
theorem sc_check_body : FnScope N_check_body ["body"] (defScope st_check_body) := ⟨rfl, rfl, rfl, by decide +kernel, rfl, by decide +kernel, by decide +kernel⟩
def b_check_body : Sm := (S.ite (T.not (T.val (E.call f_is_body_tree (A.cons (E.var 0) A.nil)))) (S.raise 2 (E.var 0)) S.pass)
def f_check_body : List D → R D := runD 1 1 b_check_body
theorem ok_check_body (T : Tx P w K mg base C a_ANY a_OPTIONS i_BadWord fd_BadWord i_InvalidText fd_InvalidText i_InvalidTree fd_InvalidTree i_InvalidValue fd_InvalidValue a_BookError) (Fn : Fun K "check_body" "check_body" st_check_body fa fd) (hm : mg "check_body" = some (.ref fa)) (d_is_body_tree : DOk P w K mg base C "is_body_tree" ["value"] 7 f_is_body_tree) : DOk P w K mg base C "check_body" ["body"] 8 f_check_body :=
  mk_D (N := N_check_body) Fn sc_check_body hm (fun _ _ _ _ _ _ us hl => match us, hl with | [_], _ => rfl) (fun kn e _ _ _ _ _ _ _ => by cases e; rfl)
      (fun cdv0 A0 outer0 s0 H0 E0 hr => (dss_one (ds_if (dt_not (dt_val (de_callD d_is_body_tree hr (by decide) (by rfl) takesE (da_cons (de_var (pv 0)) da_nil)))) (dss_one (ds_raise (i := 2) T.e_InvalidTree T.i_InvalidTree (hr.mono (by decide)) T.b_InvalidTree (by rfl) rfl takesE (de_var (pv 0)))) dss_nil)))
abbrev N_options_behind : List Str := ["sort", "left"]
theorem sc_options_behind : FnScope N_options_behind ["sort", "left"] (defScope st_options_behind) := ⟨rfl, rfl, rfl, by decide +kernel, rfl, by decide +kernel, by decide +kernel⟩
def b_options_behind : Sm := (S.seq (S.ite (T.val (E.op eqD (E.var 0) (E.k c_LITERAL))) (S.ret (E.ite (T.val (E.op gtD (E.var 1) (E.k (.int 0)))) (E.disp [((E.k (.str "&")), (E.tup (A.cons (E.k c_LITERAL) (A.cons (E.tup (A.cons (E.k c_LITERAL) (A.cons (E.op subD (E.var 1) (E.k (.int 1))) A.nil))) A.nil))))]) E.dnew)) S.pass) (S.ret (E.ite (T.val (E.op gtD (E.var 1) (E.k (.int 0)))) (E.disp [((E.k (.str ")")), (E.tup A.nil)), ((E.k (.str ",")), (E.tup (A.cons (E.var 0) (A.cons (E.tup (A.cons (E.var 0) (A.cons (E.op subD (E.var 1) (E.k (.int 1))) A.nil))) A.nil))))]) (E.disp [((E.k (.str ")")), (E.tup A.nil))]))))
def f_options_behind : List D → R D := runD 2 2 b_options_behind
theorem ok_options_behind (T : Tx P w K mg base C a_ANY a_OPTIONS i_BadWord fd_BadWord i_InvalidText fd_InvalidText i_InvalidTree fd_InvalidTree i_InvalidValue fd_InvalidValue a_BookError) (Fn : Fun K "options_behind" "options_behind" st_options_behind fa fd) (hm : mg "options_behind" = some (.ref fa))  : DOk P w K mg base C "options_behind" ["sort", "left"] 1 f_options_behind :=
  mk_D (N := N_options_behind) Fn sc_options_behind hm (fun _ _ _ _ _ _ us hl => match us, hl with | [_, _], _ => rfl) (fun kn e => nomatch e)
      (fun cdv0 A0 outer0 s0 H0 E0 hr => (dss_cons (ds_if (dt_cmp (op_eqX hr.units) o2_eq (de_var (pv 0)) (de_gl T.c_LITERAL (by rfl)) (nomark _)) (dss_one (ds_ret (de_if (dt_cmp (op_gtD) o2_cmp (de_var (pv 1)) de_int (nomark _)) (de_disp [((E.k (.str "&")), (E.tup (A.cons (E.k c_LITERAL) (A.cons (E.tup (A.cons (E.k c_LITERAL) (A.cons (E.op subD (E.var 1) (E.k (.int 1))) A.nil))) A.nil))))] (pps_cons de_str (de_tup (da_cons (de_gl T.c_LITERAL (by rfl)) (da_cons (de_tup (da_cons (de_gl T.c_LITERAL (by rfl)) (da_cons (de_op op_sub o2_sub (de_var (pv 1)) de_int) da_nil))) da_nil))) pps_nil)) de_dnew))) dss_nil) (dss_one (ds_ret (de_if (dt_cmp (op_gtD) o2_cmp (de_var (pv 1)) de_int (nomark _)) (de_disp [((E.k (.str ")")), (E.tup A.nil)), ((E.k (.str ",")), (E.tup (A.cons (E.var 0) (A.cons (E.tup (A.cons (E.var 0) (A.cons (E.op subD (E.var 1) (E.k (.int 1))) A.nil))) A.nil))))] (pps_cons de_str (de_tup da_nil) (pps_cons de_str (de_tup (da_cons (de_var (pv 0)) (da_cons (de_tup (da_cons (de_var (pv 0)) (da_cons (de_op op_sub o2_sub (de_var (pv 1)) de_int) da_nil))) da_nil))) pps_nil))) (de_disp [((E.k (.str ")")), (E.tup A.nil))] (pps_cons de_str (de_tup da_nil) pps_nil)))))))
abbrev N_options_of : List Str := ["sort", "word", "parts"]
theorem sc_options_of : FnScope N_options_of ["sort"] (defScope st_options_of) := ⟨rfl, rfl, rfl, by decide +kernel, rfl, by decide +kernel, by decide +kernel⟩
def b_options_of : Sm := (S.seq (S.ite (T.val (E.isi .tuple (E.var 0))) (S.ret (E.call f_options_behind (A.cons (E.op ixD (E.var 0) (E.k (.int 0))) (A.cons (E.op ixD (E.var 0) (E.k (.int 1))) A.nil)))) S.pass) (S.seq (S.ite (T.val (E.op eqD (E.var 0) (E.k c_BODY))) (S.ret (E.dc [1, 2] (B.two 1 2) (I.seq (E.un (kixD t_OPTIONS) (E.k c_LITERAL))) (E.var 1) (E.tup (A.star (E.var 2) (A.cons (E.tup (A.cons (E.k c_LITERAL) (A.cons (E.k (.int 3)) A.nil))) A.nil))))) S.pass) (S.seq (S.ite (T.val (E.op eqD (E.var 0) (E.k c_ENTRY_OR_ASKED))) (S.ret E.bad) S.pass) (S.ret (E.un dictD (E.un (kixD t_OPTIONS) (E.var 0)))))))
def f_options_of : List D → R D := runD 1 3 b_options_of
theorem ok_options_of (T : Tx P w K mg base C a_ANY a_OPTIONS i_BadWord fd_BadWord i_InvalidText fd_InvalidText i_InvalidTree fd_InvalidTree i_InvalidValue fd_InvalidValue a_BookError) (Fn : Fun K "options_of" "options_of" st_options_of fa fd) (hm : mg "options_of" = some (.ref fa)) (d_options_behind : DOk P w K mg base C "options_behind" ["sort", "left"] 1 f_options_behind) : DOk P w K mg base C "options_of" ["sort"] 2 f_options_of :=
  mk_D (N := N_options_of) Fn sc_options_of hm (fun _ _ _ _ _ _ us hl => match us, hl with | [_], _ => rfl) (fun kn e _ _ _ _ _ _ _ => by cases e; rfl)
      (fun cdv0 A0 outer0 s0 H0 E0 hr => (dss_cons (ds_if (dt_val (de_isi (T := .tuple) (T.fr "isinstance" (by decide)) (T.fr "tuple" (by decide)) (by rfl) (by rfl) (by decide +kernel) (de_var (pv 0)))) (dss_one (ds_ret (de_callD d_options_behind hr (by decide) (by rfl) takesE (da_cons (de_ix (de_var (pv 0)) de_int) (da_cons (de_ix (de_var (pv 0)) de_int) da_nil))))) dss_nil) (dss_cons (ds_if (dt_cmp (op_eqX hr.units) o2_eq (de_var (pv 0)) (de_gl T.c_BODY (by rfl)) (nomark _)) (dss_one (ds_ret (de_dc (own := [("word", 1), ("parts", 2)]) (g := gTup K 2 (gCons (gName 1) (gCons (gName 2) gNil))) rfl sc_options_of.nd (di_seq (de_kix T.t_OPTIONS.tab (by rfl) T.m_OPTIONS (de_gl T.c_LITERAL (by rfl)))) (blkOk_by (N := N_options_of) (sc := defScope st_options_of) (own := [("word", 1), ("parts", 2)]) (by decide +kernel)) (tg_two (by decide) (by decide)) (fun _ _ _ _ _ => pg_tup rfl (pgs_cons (pg_name (i := 1) sc_options_of.nd rfl (Or.inl rfl)) (pgs_cons (pg_name (i := 2) sc_options_of.nd rfl (Or.inl rfl)) pgs_nil))) (fun _ _ _ _ _ => (de_var (pv 1))) (fun _ _ _ _ _ => (de_tup (da_star (de_var (pv 2)) (da_cons (de_tup (da_cons (de_gl T.c_LITERAL (by rfl)) (da_cons de_int da_nil))) da_nil))))))) dss_nil) (dss_cons (ds_if (dt_cmp (op_eqX hr.units) o2_eq (de_var (pv 0)) (de_gl T.c_ENTRY_OR_ASKED (by rfl)) (nomark _)) (dss_one (ds_ret de_bad)) dss_nil) (dss_one (ds_ret (de_dictK T.t_OPTIONS rfl (by rfl) (T.fr "dict" (by decide)) (by rfl) T.m_OPTIONS (de_var (pv 0)))))))))
abbrev N_told_as : List Str := ["word", "kind"]
theorem sc_told_as : FnScope N_told_as ["word"] (defScope st_told_as) := ⟨rfl, rfl, rfl, by decide +kernel, rfl, by decide +kernel, by decide +kernel⟩
def b_told_as : Sm := (S.seq (S.set 1 (E.call f_word_kind_by (A.cons (E.var 0) A.nil))) (S.seq (S.ite (T.and (T.val (E.op eqD (E.var 1) (E.k c_NUMBER))) (T.val (E.op eqD (E.op ixD (E.var 0) (E.k (.int 0))) (E.k (.str "-"))))) (S.ret (E.k c_BELOW)) S.pass) (S.ret (E.ite (T.val (E.op inD (E.var 1) (E.tup (A.cons (E.k c_KEY) (A.cons (E.k c_SIGN) A.nil))))) (E.var 0) (E.op (kgetD t_ANY m_ANY) (E.var 1) (E.k (.str "")))))))
def f_told_as : List D → R D := runD 1 2 b_told_as
theorem ok_told_as (T : Tx P w K mg base C a_ANY a_OPTIONS i_BadWord fd_BadWord i_InvalidText fd_InvalidText i_InvalidTree fd_InvalidTree i_InvalidValue fd_InvalidValue a_BookError) (Fn : Fun K "told_as" "told_as" st_told_as fa fd) (hm : mg "told_as" = some (.ref fa)) (d_word_kind_by : DOk P w K mg base C "word_kind_by" ["word"] 4 f_word_kind_by) : DOk P w K mg base C "told_as" ["word"] 5 f_told_as :=
  mk_D (N := N_told_as) Fn sc_told_as hm (fun _ _ _ _ _ _ us hl => match us, hl with | [_], _ => rfl) (fun kn e _ _ _ _ _ _ _ => by cases e; rfl)
      (fun cdv0 A0 outer0 s0 H0 E0 hr => (dss_cons (ds_set (i := 1) (de_callD d_word_kind_by hr (by decide) (by rfl) takesE (da_cons (de_var (pv 0)) da_nil)) sc_told_as.nd rfl (Or.inl rfl)) (dss_cons (ds_if (PW.pt (dw_and (dt_cmp (op_eqX hr.units) o2_eq (de_var (pv 1)) (de_gl T.c_NUMBER (by rfl)) (nomark _)) (dw_and1 (dt_cmp (op_eqX hr.units) o2_eq (de_ix (de_var (pv 0)) de_int) de_str (nomark _))))) (dss_one (ds_ret (de_gl T.c_BELOW (by rfl)))) dss_nil) (dss_one (ds_ret (de_if (dt_cmp (op_inX (hu1 hr)) o2_in (de_var (pv 1)) (de_tup (da_cons (de_gl T.c_KEY (by rfl)) (da_cons (de_gl T.c_SIGN (by rfl)) da_nil))) rfl) (de_var (pv 0)) (de_kget T.t_ANY.tab (by rfl) T.m_ANY (de_var (pv 1)) de_str)))))))
abbrev N_walked : List Str := ["sort", "words", "waiting", "place", "word", "options"]
theorem sc_walked : FnScope N_walked ["sort", "words"] (defScope st_walked) := ⟨rfl, rfl, rfl, by decide +kernel, rfl, by decide +kernel, by decide +kernel⟩
def b_walked : Sm := (S.seq (S.set 2 (E.lst (A.cons (E.var 0) A.nil))) (S.seq (S.for (B.two 3 4) (I.enum (E.var 1)) (S.seq (S.set 5 (E.ite (T.val (E.op neD (E.var 2) (E.lst A.nil))) (E.call f_options_of (A.cons (E.op ixD (E.var 2) (E.un negD (E.k (.int 1)))) A.nil)) E.dnew)) (S.seq (S.ite (T.val (E.op ninD (E.call f_told_as (A.cons (E.var 4) A.nil)) (E.var 5))) (S.ret (E.tup (A.cons (E.var 2) (A.cons (E.var 3) A.nil)))) S.pass) (S.set 2 (E.op addD (E.slice (E.var 2) O.no (O.some (E.un negD (E.k (.int 1))))) (E.un revD (E.fn listD (A.cons (E.op dixD (E.var 5) (E.call f_told_as (A.cons (E.var 4) A.nil))) A.nil)))))))) (S.ret (E.tup (A.cons (E.var 2) (A.cons (E.k .non) A.nil))))))
def f_walked : List D → R D := runD 2 6 b_walked
theorem ok_walked (T : Tx P w K mg base C a_ANY a_OPTIONS i_BadWord fd_BadWord i_InvalidText fd_InvalidText i_InvalidTree fd_InvalidTree i_InvalidValue fd_InvalidValue a_BookError) (Fn : Fun K "walked" "walked" st_walked fa fd) (hm : mg "walked" = some (.ref fa)) (d_options_of : DOk P w K mg base C "options_of" ["sort"] 2 f_options_of) (d_told_as : DOk P w K mg base C "told_as" ["word"] 5 f_told_as) : DOk P w K mg base C "walked" ["sort", "words"] 6 f_walked :=
  mk_D (N := N_walked) Fn sc_walked hm (fun _ _ _ _ _ _ us hl => match us, hl with | [_, _], _ => rfl) (fun kn e => nomatch e)
      (fun cdv0 A0 outer0 s0 H0 E0 hr => (dss_cons (ds_set (i := 2) (de_lst (da_cons (de_var (pv 0)) da_nil)) sc_walked.nd rfl (Or.inl rfl)) (dss_cons (ds_for (vs := [3, 4]) (tg_two (by decide) (by decide)) (passes_of rfl) rfl (di_enum (by rfl) (T.fr "enumerate" (by decide)) (de_var (pv 1))) (pg_tup rfl (pgs_cons (pg_name (i := 3) sc_walked.nd rfl (Or.inl rfl)) (pgs_cons (pg_name (i := 4) sc_walked.nd rfl (Or.inl rfl)) pgs_nil))) (dss_cons (ds_set (i := 5) (de_if (dt_cmp (op_neX hr.units) o2_ne (de_var (pv 2)) (de_lst da_nil) (nomark _)) (de_callD d_options_of hr (by decide) (by rfl) takesE (da_cons (de_ix (de_var (pv 2)) (de_un un_neg o1_neg de_int)) da_nil)) de_dnew) sc_walked.nd rfl (Or.inl rfl)) (dss_cons (ds_if (dt_cmp (op_ninX (hu1 hr)) o2_nin (de_callD d_told_as hr (by decide) (by rfl) takesE (da_cons (de_var (pv 4)) da_nil)) (de_var (pv 5)) rfl) (dss_one (ds_ret (de_tup (da_cons (de_var (pv 2)) (da_cons (de_var (pv 3)) da_nil))))) dss_nil) (dss_one (ds_set (i := 2) (de_op op_addD o2_add (de_slice (de_var (pv 2)) do_none (do_some (de_un un_neg o1_neg de_int))) (de_rev (de_callT call_list_of on_list (by rfl) (T.fr "list" (by decide)) (by decide +kernel) (da_cons (de_dix (hu1 hr) (de_var (pv 5)) (de_callD d_told_as hr (by decide) (by rfl) takesE (da_cons (de_var (pv 4)) da_nil))) da_nil)))) sc_walked.nd rfl (Or.inl rfl)))))) (dss_one (ds_ret (de_tup (da_cons (de_var (pv 2)) (da_cons de_non da_nil))))))))
abbrev N_can_end : List Str := ["waiting"]
theorem sc_can_end : FnScope N_can_end ["waiting"] (defScope st_can_end) := ⟨rfl, rfl, rfl, by decide +kernel, rfl, by decide +kernel, by decide +kernel⟩
def b_can_end : Sm := (S.ret (E.or (E.op eqD (E.var 0) (E.lst A.nil)) (E.and (E.op eqD (E.fn lenD (A.cons (E.var 0) A.nil)) (E.k (.int 1))) (E.and (E.isi .tuple (E.op ixD (E.var 0) (E.k (.int 0)))) (E.op eqD (E.op ixD (E.op ixD (E.var 0) (E.k (.int 0))) (E.k (.int 0))) (E.k c_LITERAL))))))
def f_can_end : List D → R D := runD 1 1 b_can_end
theorem ok_can_end (T : Tx P w K mg base C a_ANY a_OPTIONS i_BadWord fd_BadWord i_InvalidText fd_InvalidText i_InvalidTree fd_InvalidTree i_InvalidValue fd_InvalidValue a_BookError) (Fn : Fun K "can_end" "can_end" st_can_end fa fd) (hm : mg "can_end" = some (.ref fa))  : DOk P w K mg base C "can_end" ["waiting"] 1 f_can_end :=
  mk_D (N := N_can_end) Fn sc_can_end hm (fun _ _ _ _ _ _ us hl => match us, hl with | [_], _ => rfl) (fun kn e _ _ _ _ _ _ _ => by cases e; rfl)
      (fun cdv0 A0 outer0 s0 H0 E0 hr => (dss_one (ds_ret (de_or (de_cmp (op_eqX hr.units) o2_eq (de_var (pv 0)) (de_lst da_nil) (nomark _)) (de_one (de_and (de_cmp (op_eqX hr.units) o2_eq (de_callB call_len on_len (by rfl) (T.fr "len" (by decide)) boot_len (da_cons (de_var (pv 0)) da_nil)) de_int (nomark _)) (de_and (de_isi (T := .tuple) (T.fr "isinstance" (by decide)) (T.fr "tuple" (by decide)) (by rfl) (by rfl) (by decide +kernel) (de_ix (de_var (pv 0)) de_int)) (de_one (de_cmp (op_eqX hr.units) o2_eq (de_ix (de_ix (de_var (pv 0)) de_int) de_int) (de_gl T.c_LITERAL (by rfl)) (nomark _))))))))))
abbrev N_first_bad_by : List Str := ["sort", "words", "waiting", "bad"]
theorem sc_first_bad_by : FnScope N_first_bad_by ["sort", "words"] (defScope st_first_bad_by) := ⟨rfl, rfl, rfl, by decide +kernel, rfl, by decide +kernel, by decide +kernel⟩
def b_first_bad_by : Sm := (S.seq (S.set2 2 3 (E.call f_walked (A.cons (E.var 0) (A.cons (E.var 1) A.nil)))) (S.seq (S.ite (T.val (E.op notND (E.var 3) (E.k .non))) (S.ret (E.var 3)) S.pass) (S.ret (E.ite (T.val (E.call f_can_end (A.cons (E.var 2) A.nil))) (E.k .non) (E.fn lenD (A.cons (E.var 1) A.nil))))))
def f_first_bad_by : List D → R D := runD 2 4 b_first_bad_by
theorem ok_first_bad_by (T : Tx P w K mg base C a_ANY a_OPTIONS i_BadWord fd_BadWord i_InvalidText fd_InvalidText i_InvalidTree fd_InvalidTree i_InvalidValue fd_InvalidValue a_BookError) (Fn : Fun K "first_bad_by" "first_bad_by" st_first_bad_by fa fd) (hm : mg "first_bad_by" = some (.ref fa)) (d_walked : DOk P w K mg base C "walked" ["sort", "words"] 6 f_walked) (d_can_end : DOk P w K mg base C "can_end" ["waiting"] 1 f_can_end) : DOk P w K mg base C "first_bad_by" ["sort", "words"] 7 f_first_bad_by :=
  mk_D (N := N_first_bad_by) Fn sc_first_bad_by hm (fun _ _ _ _ _ _ us hl => match us, hl with | [_, _], _ => rfl) (fun kn e => nomatch e)
      (fun cdv0 A0 outer0 s0 H0 E0 hr => (dss_cons (ds_set2 (i := 2) (j := 3) (de_callD d_walked hr (by decide) (by rfl) takesE (da_cons (de_var (pv 0)) (da_cons (de_var (pv 1)) da_nil))) (pg_tup rfl (pgs_cons (pg_name (i := 2) sc_first_bad_by.nd rfl (Or.inl rfl)) (pgs_cons (pg_name (i := 3) sc_first_bad_by.nd rfl (Or.inl rfl)) pgs_nil)))) (dss_cons (ds_if (dt_cmp (op_notN) o2_notN (de_var (pv 3)) de_non (nomark _)) (dss_one (ds_ret (de_var (pv 3)))) dss_nil) (dss_one (ds_ret (de_if (dt_val (de_callD d_can_end hr (by decide) (by rfl) takesE (da_cons (de_var (pv 2)) da_nil))) de_non (de_callB call_len on_len (by rfl) (T.fr "len" (by decide)) boot_len (da_cons (de_var (pv 1)) da_nil))))))))
abbrev N_term_read : List Str := ["word"]
theorem sc_term_read : FnScope N_term_read ["word"] (defScope st_term_read) := ⟨rfl, rfl, rfl, by decide +kernel, rfl, by decide +kernel, by decide +kernel⟩
def b_term_read : Sm := (S.ret (E.ite (T.val (E.call f_is_variable (A.cons (E.var 0) A.nil))) (E.tup (A.cons (E.k c_VAR) (A.cons (E.var 0) A.nil))) (E.tup (A.cons (E.k c_VAL) (A.cons (E.call f_value_by (A.cons (E.var 0) A.nil)) A.nil)))))
def f_term_read : List D → R D := runD 1 1 b_term_read
theorem ok_term_read (T : Tx P w K mg base C a_ANY a_OPTIONS i_BadWord fd_BadWord i_InvalidText fd_InvalidText i_InvalidTree fd_InvalidTree i_InvalidValue fd_InvalidValue a_BookError) (Fn : Fun K "term_read" "term_read" st_term_read fa fd) (hm : mg "term_read" = some (.ref fa)) (d_is_variable : DOk P w K mg base C "is_variable" ["value"] 2 f_is_variable) (d_value_by : DOk P w K mg base C "value_by" ["word"] 1 f_value_by) : DOk P w K mg base C "term_read" ["word"] 3 f_term_read :=
  mk_D (N := N_term_read) Fn sc_term_read hm (fun _ _ _ _ _ _ us hl => match us, hl with | [_], _ => rfl) (fun kn e _ _ _ _ _ _ _ => by cases e; rfl)
      (fun cdv0 A0 outer0 s0 H0 E0 hr => (dss_one (ds_ret (de_if (dt_val (de_callD d_is_variable hr (by decide) (by rfl) takesE (da_cons (de_var (pv 0)) da_nil))) (de_tup (da_cons (de_gl T.c_VAR (by rfl)) (da_cons (de_var (pv 0)) da_nil))) (de_tup (da_cons (de_gl T.c_VAL (by rfl)) (da_cons (de_callD d_value_by hr (by decide) (by rfl) takesE (da_cons (de_var (pv 0)) da_nil)) da_nil)))))))
abbrev N_words_in_brackets : List Str := ["words", "place", "end", "word"]
theorem sc_words_in_brackets : FnScope N_words_in_brackets ["words", "place"] (defScope st_words_in_brackets) := ⟨rfl, rfl, rfl, by decide +kernel, rfl, by decide +kernel, by decide +kernel⟩
def b_words_in_brackets : Sm := (S.seq (S.set 2 (E.meth isL indexD (E.var 0) (A.cons (E.k (.str ")")) (A.cons (E.var 1) A.nil)))) (S.ret (E.tup (A.cons (E.lc [3] (B.name 3) (I.seq (E.slice (E.var 0) (O.some (E.op addD (E.var 1) (E.k (.int 1)))) (O.some (E.var 2)))) (T.val (E.op neD (E.var 3) (E.k (.str ",")))) (E.var 3)) (A.cons (E.op addD (E.var 2) (E.k (.int 1))) A.nil)))))
def f_words_in_brackets : List D → R D := runD 2 4 b_words_in_brackets
theorem ok_words_in_brackets (T : Tx P w K mg base C a_ANY a_OPTIONS i_BadWord fd_BadWord i_InvalidText fd_InvalidText i_InvalidTree fd_InvalidTree i_InvalidValue fd_InvalidValue a_BookError) (Fn : Fun K "words_in_brackets" "words_in_brackets" st_words_in_brackets fa fd) (hm : mg "words_in_brackets" = some (.ref fa))  : DOk P w K mg base C "words_in_brackets" ["words", "place"] 1 f_words_in_brackets :=
  mk_D (N := N_words_in_brackets) Fn sc_words_in_brackets hm (fun _ _ _ _ _ _ us hl => match us, hl with | [_, _], _ => rfl) (fun kn e => nomatch e)
      (fun cdv0 A0 outer0 s0 H0 E0 hr => (dss_cons (ds_set (i := 2) (de_index (de_var (pv 0)) de_str (de_var (pv 1))) sc_words_in_brackets.nd rfl (Or.inl rfl)) (dss_one (ds_ret (de_tup (da_cons (de_lc (own := [("word", 3)]) (g := gName 3) rfl sc_words_in_brackets.nd (di_seq (de_slice (de_var (pv 0)) (do_some (de_op op_addD o2_add (de_var (pv 1)) de_int)) (do_some (de_var (pv 2))))) (blkOk_by (N := N_words_in_brackets) (sc := defScope st_words_in_brackets) (own := [("word", 3)]) (by decide +kernel)) (tg_name (by decide)) (fun _ _ _ _ _ => pg_name (i := 3) sc_words_in_brackets.nd rfl (Or.inl rfl)) (fun _ _ _ _ _ => (dts_one (dt_cmp (op_neX hr.units) o2_ne (de_var (pv 3)) de_str (nomark _)))) (fun _ _ _ _ _ => (de_var (pv 3)))) (da_cons (de_op op_addD o2_add (de_var (pv 2)) de_int) da_nil)))))))
abbrev N_atom_read : List Str := ["words", "place", "terms", "end", "word"]
theorem sc_atom_read : FnScope N_atom_read ["words", "place"] (defScope st_atom_read) := ⟨rfl, rfl, rfl, by decide +kernel, rfl, by decide +kernel, by decide +kernel⟩
def b_atom_read : Sm := (S.seq (S.set2 2 3 (E.call f_words_in_brackets (A.cons (E.var 0) (A.cons (E.op addD (E.var 1) (E.k (.int 1))) A.nil)))) (S.ret (E.tup (A.cons (E.tup (A.cons (E.op ixD (E.var 0) (E.var 1)) (A.cons (E.fn tupleD (A.cons (E.lc [4] (B.name 4) (I.seq (E.var 2)) T.yes (E.call f_term_read (A.cons (E.var 4) A.nil))) A.nil)) A.nil))) (A.cons (E.var 3) A.nil)))))
def f_atom_read : List D → R D := runD 2 5 b_atom_read
theorem ok_atom_read (T : Tx P w K mg base C a_ANY a_OPTIONS i_BadWord fd_BadWord i_InvalidText fd_InvalidText i_InvalidTree fd_InvalidTree i_InvalidValue fd_InvalidValue a_BookError) (Fn : Fun K "atom_read" "atom_read" st_atom_read fa fd) (hm : mg "atom_read" = some (.ref fa)) (d_words_in_brackets : DOk P w K mg base C "words_in_brackets" ["words", "place"] 1 f_words_in_brackets) (d_term_read : DOk P w K mg base C "term_read" ["word"] 3 f_term_read) : DOk P w K mg base C "atom_read" ["words", "place"] 4 f_atom_read :=
  mk_D (N := N_atom_read) Fn sc_atom_read hm (fun _ _ _ _ _ _ us hl => match us, hl with | [_, _], _ => rfl) (fun kn e => nomatch e)
      (fun cdv0 A0 outer0 s0 H0 E0 hr => (dss_cons (ds_set2 (i := 2) (j := 3) (de_callD d_words_in_brackets hr (by decide) (by rfl) takesE (da_cons (de_var (pv 0)) (da_cons (de_op op_addD o2_add (de_var (pv 1)) de_int) da_nil))) (pg_tup rfl (pgs_cons (pg_name (i := 2) sc_atom_read.nd rfl (Or.inl rfl)) (pgs_cons (pg_name (i := 3) sc_atom_read.nd rfl (Or.inl rfl)) pgs_nil)))) (dss_one (ds_ret (de_tup (da_cons (de_tup (da_cons (de_ix (de_var (pv 0)) (de_var (pv 1))) (da_cons (de_callT call_tuple_of on_tuple (by rfl) (T.fr "tuple" (by decide)) (by decide +kernel) (da_cons (de_lc (own := [("word", 4)]) (g := gName 4) rfl sc_atom_read.nd (di_seq (de_var (pv 2))) (blkOk_by (N := N_atom_read) (sc := defScope st_atom_read) (own := [("word", 4)]) (by decide +kernel)) (tg_name (by decide)) (fun _ _ _ _ _ => pg_name (i := 4) sc_atom_read.nd rfl (Or.inl rfl)) (fun _ _ _ _ _ => dts_nil) (fun _ _ _ _ _ => (de_callD d_term_read hr (by decide) (by rfl) takes0 (da_cons (de_var (pv 4)) da_nil)))) da_nil)) da_nil))) (da_cons (de_var (pv 3)) da_nil)))))))
abbrev N_fact_read : List Str := ["words", "place", "values", "end", "word"]
theorem sc_fact_read : FnScope N_fact_read ["words", "place"] (defScope st_fact_read) := ⟨rfl, rfl, rfl, by decide +kernel, rfl, by decide +kernel, by decide +kernel⟩
def b_fact_read : Sm := (S.seq (S.set2 2 3 (E.call f_words_in_brackets (A.cons (E.var 0) (A.cons (E.op addD (E.var 1) (E.k (.int 1))) A.nil)))) (S.ret (E.tup (A.cons (E.op ixD (E.var 0) (E.var 1)) (A.cons (E.fn tupleD (A.cons (E.lc [4] (B.name 4) (I.seq (E.var 2)) T.yes (E.call f_value_by (A.cons (E.var 4) A.nil))) A.nil)) A.nil)))))
def f_fact_read : List D → R D := runD 2 5 b_fact_read
theorem ok_fact_read (T : Tx P w K mg base C a_ANY a_OPTIONS i_BadWord fd_BadWord i_InvalidText fd_InvalidText i_InvalidTree fd_InvalidTree i_InvalidValue fd_InvalidValue a_BookError) (Fn : Fun K "fact_read" "fact_read" st_fact_read fa fd) (hm : mg "fact_read" = some (.ref fa)) (d_words_in_brackets : DOk P w K mg base C "words_in_brackets" ["words", "place"] 1 f_words_in_brackets) (d_value_by : DOk P w K mg base C "value_by" ["word"] 1 f_value_by) : DOk P w K mg base C "fact_read" ["words", "place"] 2 f_fact_read :=
  mk_D (N := N_fact_read) Fn sc_fact_read hm (fun _ _ _ _ _ _ us hl => match us, hl with | [_, _], _ => rfl) (fun kn e => nomatch e)
      (fun cdv0 A0 outer0 s0 H0 E0 hr => (dss_cons (ds_set2 (i := 2) (j := 3) (de_callD d_words_in_brackets hr (by decide) (by rfl) takesE (da_cons (de_var (pv 0)) (da_cons (de_op op_addD o2_add (de_var (pv 1)) de_int) da_nil))) (pg_tup rfl (pgs_cons (pg_name (i := 2) sc_fact_read.nd rfl (Or.inl rfl)) (pgs_cons (pg_name (i := 3) sc_fact_read.nd rfl (Or.inl rfl)) pgs_nil)))) (dss_one (ds_ret (de_tup (da_cons (de_ix (de_var (pv 0)) (de_var (pv 1))) (da_cons (de_callT call_tuple_of on_tuple (by rfl) (T.fr "tuple" (by decide)) (by decide +kernel) (da_cons (de_lc (own := [("word", 4)]) (g := gName 4) rfl sc_fact_read.nd (di_seq (de_var (pv 2))) (blkOk_by (N := N_fact_read) (sc := defScope st_fact_read) (own := [("word", 4)]) (by decide +kernel)) (tg_name (by decide)) (fun _ _ _ _ _ => pg_name (i := 4) sc_fact_read.nd rfl (Or.inl rfl)) (fun _ _ _ _ _ => dts_nil) (fun _ _ _ _ _ => (de_callD d_value_by hr (by decide) (by rfl) takes0 (da_cons (de_var (pv 4)) da_nil)))) da_nil)) da_nil)))))))
abbrev N_literal_read : List Str := ["words", "place", "atom", "end"]
theorem sc_literal_read : FnScope N_literal_read ["words", "place"] (defScope st_literal_read) := ⟨rfl, rfl, rfl, by decide +kernel, rfl, by decide +kernel, by decide +kernel⟩
def b_literal_read : Sm := (S.seq (S.ite (T.val (E.op eqD (E.op ixD (E.var 0) (E.var 1)) (E.k c_NOT))) (S.seq (S.set2 2 3 (E.call f_atom_read (A.cons (E.var 0) (A.cons (E.op addD (E.var 1) (E.k (.int 1))) A.nil)))) (S.ret (E.tup (A.cons (E.tup (A.cons (E.k c_NOT) (A.cons (E.var 2) A.nil))) (A.cons (E.var 3) A.nil))))) S.pass) (S.seq (S.ite (T.val (E.call f_is_name (A.cons (E.op ixD (E.var 0) (E.var 1)) A.nil))) (S.seq (S.set2 2 3 (E.call f_atom_read (A.cons (E.var 0) (A.cons (E.var 1) A.nil)))) (S.ret (E.tup (A.cons (E.tup (A.cons (E.k c_YES) (A.cons (E.var 2) A.nil))) (A.cons (E.var 3) A.nil))))) S.pass) (S.ret (E.tup (A.cons (E.tup (A.cons (E.op ixD (E.var 0) (E.op addD (E.var 1) (E.k (.int 1)))) (A.cons (E.call f_term_read (A.cons (E.op ixD (E.var 0) (E.var 1)) A.nil)) (A.cons (E.call f_term_read (A.cons (E.op ixD (E.var 0) (E.op addD (E.var 1) (E.k (.int 2)))) A.nil)) A.nil)))) (A.cons (E.op addD (E.var 1) (E.k (.int 3))) A.nil))))))
def f_literal_read : List D → R D := runD 2 4 b_literal_read
theorem ok_literal_read (T : Tx P w K mg base C a_ANY a_OPTIONS i_BadWord fd_BadWord i_InvalidText fd_InvalidText i_InvalidTree fd_InvalidTree i_InvalidValue fd_InvalidValue a_BookError) (Fn : Fun K "literal_read" "literal_read" st_literal_read fa fd) (hm : mg "literal_read" = some (.ref fa)) (d_atom_read : DOk P w K mg base C "atom_read" ["words", "place"] 4 f_atom_read) (d_is_name : DOk P w K mg base C "is_name" ["value"] 2 f_is_name) (d_term_read : DOk P w K mg base C "term_read" ["word"] 3 f_term_read) : DOk P w K mg base C "literal_read" ["words", "place"] 5 f_literal_read :=
  mk_D (N := N_literal_read) Fn sc_literal_read hm (fun _ _ _ _ _ _ us hl => match us, hl with | [_, _], _ => rfl) (fun kn e => nomatch e)
      (fun cdv0 A0 outer0 s0 H0 E0 hr => (dss_cons (ds_if (dt_cmp (op_eqX hr.units) o2_eq (de_ix (de_var (pv 0)) (de_var (pv 1))) (de_gl T.c_NOT (by rfl)) (nomark _)) (dss_cons (ds_set2 (i := 2) (j := 3) (de_callD d_atom_read hr (by decide) (by rfl) takesE (da_cons (de_var (pv 0)) (da_cons (de_op op_addD o2_add (de_var (pv 1)) de_int) da_nil))) (pg_tup rfl (pgs_cons (pg_name (i := 2) sc_literal_read.nd rfl (Or.inl rfl)) (pgs_cons (pg_name (i := 3) sc_literal_read.nd rfl (Or.inl rfl)) pgs_nil)))) (dss_one (ds_ret (de_tup (da_cons (de_tup (da_cons (de_gl T.c_NOT (by rfl)) (da_cons (de_var (pv 2)) da_nil))) (da_cons (de_var (pv 3)) da_nil)))))) dss_nil) (dss_cons (ds_if (dt_val (de_callD d_is_name hr (by decide) (by rfl) takesE (da_cons (de_ix (de_var (pv 0)) (de_var (pv 1))) da_nil))) (dss_cons (ds_set2 (i := 2) (j := 3) (de_callD d_atom_read hr (by decide) (by rfl) takesE (da_cons (de_var (pv 0)) (da_cons (de_var (pv 1)) da_nil))) (pg_tup rfl (pgs_cons (pg_name (i := 2) sc_literal_read.nd rfl (Or.inl rfl)) (pgs_cons (pg_name (i := 3) sc_literal_read.nd rfl (Or.inl rfl)) pgs_nil)))) (dss_one (ds_ret (de_tup (da_cons (de_tup (da_cons (de_gl T.c_YES (by rfl)) (da_cons (de_var (pv 2)) da_nil))) (da_cons (de_var (pv 3)) da_nil)))))) dss_nil) (dss_one (ds_ret (de_tup (da_cons (de_tup (da_cons (de_ix (de_var (pv 0)) (de_op op_addD o2_add (de_var (pv 1)) de_int)) (da_cons (de_callD d_term_read hr (by decide) (by rfl) takesE (da_cons (de_ix (de_var (pv 0)) (de_var (pv 1))) da_nil)) (da_cons (de_callD d_term_read hr (by decide) (by rfl) takesE (da_cons (de_ix (de_var (pv 0)) (de_op op_addD o2_add (de_var (pv 1)) de_int)) da_nil)) da_nil)))) (da_cons (de_op op_addD o2_add (de_var (pv 1)) de_int) da_nil))))))))
abbrev N_first_bad : List Str := ["text"]
theorem sc_first_bad : FnScope N_first_bad ["text"] (defScope st_first_bad) := ⟨rfl, rfl, rfl, by decide +kernel, rfl, by decide +kernel, by decide +kernel⟩
def b_first_bad : Sm := (S.seq (S.expr (E.call f_check_line (A.cons (E.var 0) A.nil))) (S.ret (E.call f_first_bad_by (A.cons (E.k c_ENTRY) (A.cons (E.call f_words_by (A.cons (E.var 0) A.nil)) A.nil)))))
def f_first_bad : List D → R D := runD 1 1 b_first_bad
theorem ok_first_bad (T : Tx P w K mg base C a_ANY a_OPTIONS i_BadWord fd_BadWord i_InvalidText fd_InvalidText i_InvalidTree fd_InvalidTree i_InvalidValue fd_InvalidValue a_BookError) (Fn : Fun K "first_bad" "first_bad" st_first_bad fa fd) (hm : mg "first_bad" = some (.ref fa)) (d_check_line : DOk P w K mg base C "check_line" ["text"] 3 f_check_line) (d_words_by : DOk P w K mg base C "words_by" ["line"] 1 f_words_by) (d_first_bad_by : DOk P w K mg base C "first_bad_by" ["sort", "words"] 7 f_first_bad_by) : DOk P w K mg base C "first_bad" ["text"] 8 f_first_bad :=
  mk_D (N := N_first_bad) Fn sc_first_bad hm (fun _ _ _ _ _ _ us hl => match us, hl with | [_], _ => rfl) (fun kn e _ _ _ _ _ _ _ => by cases e; rfl)
      (fun cdv0 A0 outer0 s0 H0 E0 hr => (dss_cons (ds_expr (de_callD d_check_line hr (by decide) (by rfl) takesE (da_cons (de_var (pv 0)) da_nil))) (dss_one (ds_ret (de_callD d_first_bad_by hr (by decide) (by rfl) takesE (da_cons (de_gl T.c_ENTRY (by rfl)) (da_cons (de_callD d_words_by hr (by decide) (by rfl) takesE (da_cons (de_var (pv 0)) da_nil)) da_nil)))))))
-- by hand: body_read
abbrev N_body_read : List Str := ["words", "place", "found", "here", "literal"]
theorem sc_body_read : FnScope N_body_read ["words", "place"] (defScope st_body_read) := ⟨rfl, rfl, rfl, by decide +kernel, rfl, by decide +kernel, by decide +kernel⟩
def pairI : D → Option (D × Int)
  | .tup [lit, .int h2] => some (lit, h2)
  | _ => none
theorem pairI_some {x : D} {y : D × Int} (h : pairI x = some y) : x = .tup [y.1, .int y.2] := by
  unfold pairI at h
  split at h
  · cases h; rfl
  · cases h
def bodyL (ws : List D) : Nat → Int → List D → R (List D)
  | 0, _, _ => .bad
  | k + 1, here, acc => if decide (here < (ws.length : Int)) then (f_literal_read [.lst ws, .int here]).nx.bind fun x => (R.of (pairI x)).bind fun y => if small (acc.length + 1) then bodyL ws k (y.2 + 1) (acc ++ [y.1]) else .bad
    else .ok acc
def f_body_read : List D → R D
  | [.lst ws, .int p] => (bodyL ws (ws.length + 5) p []).bind fun l => .ok (.tup l)
  | _ => .bad
theorem envr_nil {F : Hp} : EnvR K F [] [] := ⟨rfl, fun i d h => by simp at h⟩
theorem envr_some {F : Hp} {σ : L2.St} {ρ : DEnv} {v : V} {d : D} (h : Dv K F v d) (r : EnvR K F σ ρ) : EnvR K F (some v :: σ) (some d :: ρ) := ⟨by simp [r.len], fun i e hi => by
  cases i with
  | zero =>
    simp at hi
    subst hi
    exact ⟨v, rfl, h⟩
  | succ i => exact r.get i e (by simpa using hi)⟩
theorem envr_none {F : Hp} {σ : L2.St} {ρ : DEnv} {v : Option V} (r : EnvR K F σ ρ) : EnvR K F (v :: σ) (none :: ρ) := ⟨by simp [r.len], fun i e hi => by
  cases i with
  | zero => simp at hi
  | succ i => exact r.get i e (by simpa using hi)⟩
theorem nx_some {α β : Type} {r : R α} {k : α → R β} {b : β} (h : r.nx.bind k = .ok b) : ∃ a, r = .ok a ∧ k a = .ok b := by
  obtain ⟨a, h1, h2⟩ := R.bind_okE h
  exact ⟨a, R.nx_ok h1, h2⟩
theorem bodyL_noexc {ws : List D} {c : Nat} {g : D} : ∀ (k : Nat) (here : Int) (acc : List D), bodyL ws k here acc ≠ .exc c g
  | 0, _, _ => fun h => by cases h
  | k + 1, here, acc => fun h => by
    unfold bodyL at h
    split at h
    · cases hr : f_literal_read [.lst ws, .int here] with
      | bad => rw [hr] at h; cases h
      | exc _ _ => rw [hr] at h; cases h
      | ok x =>
        rw [hr] at h
        replace h : ((R.of (pairI x)).bind fun y => if small (acc.length + 1) then bodyL ws k (y.2 + 1) (acc ++ [y.1]) else .bad) = R.exc c g := h
        cases hp : pairI x with
        | none => rw [hp] at h; cases h
        | some y =>
          rw [hp, R.of_some, R.bind_ok] at h
          split at h
          · exact bodyL_noexc k _ _ h
          · cases h
    · cases h
theorem ok_body_read (T : Tx P w K mg base C a_ANY a_OPTIONS i_BadWord fd_BadWord i_InvalidText fd_InvalidText i_InvalidTree fd_InvalidTree i_InvalidValue fd_InvalidValue a_BookError) (Fn : Fun K "body_read" "body_read" st_body_read fa fd) (hm : mg "body_read" = some (.ref fa)) (d_literal_read : DOk P w K mg base C "literal_read" ["words", "place"] 5 f_literal_read) : DOk P w K mg base C "body_read" ["words", "place"] 6 f_body_read := by
  refine ⟨⟨fa, fd, Fun.okX Fn sc_body_read (fun vs H Q E h => h.1) (fun cdv0 A0 outer0 s0 H0 vs Q E0 hr h => ⟨_,
    pss_cons (ps_par (i := 2) (j := 3) rfl sc_body_read.nd rfl rfl (by decide) rfl rfl (pa_cons (pe_lst pa_nil) (pa_cons (pv 1) pa_nil)) (by rfl))
      (pss_cons (ps_while (passes_of rfl) (dt_cmp (C := C) (W := fun cls d _ H' => E0 cls d H') op_ltD o2_cmp (de_var (pv 3)) (de_callB call_len on_len (by rfl) (T.fr "len" (by decide)) boot_len (da_cons (de_var (pv 0)) da_nil)) (nomark _))
        (pss_cons (ps_asg (de_callD (C := C) d_literal_read hr (by decide) (by rfl) takesE (da_cons (de_var (pv 0)) (da_cons (de_var (pv 3)) da_nil))) (pg_tup rfl (pgs_cons (pg_name (i := 4) sc_body_read.nd rfl (Or.inl rfl)) (pgs_cons (pg_name (i := 3) sc_body_read.nd rfl (Or.inl rfl)) pgs_nil))))
          (pss_cons (ps_expr (pe_bm PySem.F.plainAttrs_list PySem.F.slot_list_append PySem.F.type_list_append mt_append (pv 2) (pa_cons (pv 4) pa_nil)))
            (pss_one (ps_set (i := 3) sc_body_read.nd rfl (Or.inl rfl) (pe_op op_add (pv 3) pe_int))))))
      (pss_one (ps_ret (pe_callTy call_tuple_of (by rfl) (T.fr "tuple" (by decide)) (by decide +kernel) (pa_cons (pv 2) pa_nil))))), ?_⟩), hm, Fn.kp,
    Fn.binds (fun _ _ _ _ _ _ us hl => match us, hl with | [_, _], _ => rfl), fun kn e => nomatch e⟩, fun ds hd => ?_⟩
  · obtain ⟨hl, F0, ds, le0, hds, o⟩ := h
    cases hds with
    | nil => cases hl
    | @cons v0 vs1 d0 ds1 h0 t1 =>
      cases t1 with
      | nil => cases hl
      | @cons v1 vs2 d1 ds2 h1 t2 =>
        cases t2 with
        | cons _ _ => cases hl
        | nil =>
          cases h0 with
          | @lst a xs ws ha hw =>
            cases h1 with
            | int p0 =>
              have o1 : Out C K (fun cls d _ H' => E0 cls d H') [] F0 H0 ((bodyL ws (ws.length + 5) p0 []).bind fun l => .ok (.tup l)) (Pd K Q) := o
              have e0 : ∃ lz, bodyL ws (ws.length + 5) p0 [] = .ok lz := by
                cases hb : bodyL ws (ws.length + 5) p0 [] with
                | ok lz => exact ⟨lz, rfl⟩
                | bad => rw [hb] at o1; exact o1.elim
                | exc c g => exact absurd hb (bodyL_noexc _ _ _)
              obtain ⟨lz, e0⟩ := e0
              rw [e0] at o1
              replace o1 : ∀ F' H', Stp F0 H0 F' H' → Pd K Q (.tup lz) F' H' := o1
              refine ⟨Nat.zero_le _, fun l hl => ⟨_, rfl, _, _, rfl, ?_⟩⟩
              refine ⟨fun m σ H => ∃ here s4 F acc xs', σ = [some (.ref a), some (.int p0), some (.ref l), some (.int here), s4] ∧ Stp F0 H0 F H ∧ H l = some (.lst xs') ∧ F l = none ∧ DvA K F xs' acc ∧ bodyL ws m here acc = .ok lz,
                ⟨_, p0, none, F0, [], [], rfl, ⟨Ex.new hl, Ex.refl _, le0.trans (Ex.new hl), fun _ h _ => h⟩, upd_same, Evl.fresh_back le0 hl, .nil, e0⟩, ?_⟩
              rintro m σ H ⟨here, s4, F, acc, xs', rfl, st, hH, hF, hacc, eb⟩
              have hav : Dv K F (.ref a) (.lst ws) := (Dv.lst ha hw).mono st.f
              have env : EnvR K F [some (.ref a), some (.int p0), some (.ref l), some (.int here), s4] [some (.lst ws), none, none, some (.int here), none] := envr_some hav (envr_none (envr_none (envr_some (.int here) (envr_none envr_nil))))
              refine ⟨F, _, st.le, env, ?_⟩
              show ∀ F1 H1, Stp F H F1 H1 → Pt _ (decide (here < (ws.length : Int))) F1 H1
              intro F1 H1 st1
              cases m with
              | zero => cases eb
              | succ m =>
              unfold bodyL at eb
              by_cases hlt : here < (ws.length : Int)
              · rw [if_pos (decide_eq_true hlt)] at eb
                obtain ⟨x, ex1, ex2⟩ := nx_some eb
                cases hp : pairI x with
                | none => rw [hp] at ex2; cases ex2
                | some y =>
                  obtain ⟨lit, h2⟩ := y
                  have ex3 := pairI_some hp
                  subst ex3
                  rw [hp, R.of_some, R.bind_ok] at ex2
                  split at ex2
                  · rename_i hsm
                    show (if (decide (here < (ws.length : Int))) = true then _ else _)
                    rw [if_pos (decide_eq_true hlt)]
                    refine ⟨fun σ' H' => _, fun σ' H' z => ⟨m, Nat.lt_succ_self m, z⟩, F1, _, st1.le, env.mono st1.f, ?_⟩
                    show Out C K _ _ F1 H1 (f_literal_read [.lst ws, .int here]) _
                    rw [ex1]
                    intro F2 H2 st2 v hv
                    have st02 := (st.trans st1).trans st2
                    have hH2 : H2 l = some (.lst xs') := st2.h _ _ (st1.h _ _ hH)
                    have hF2 : F2 l = none := (st1.trans st2).new l hF (by rw [hH]; simp)
                    cases hv with
                    | @tup b ys es hb hes =>
                    cases hes with
                    | @cons y1 ys1 _ _ hy1 t1 =>
                    cases t1 with
                    | @cons y2 ys2 _ _ hy2 t2 =>
                    cases t2
                    cases hy2
                    refine ⟨_, _, rfl, Evl.ex_t st2.le hb, rfl, _, _, rfl, _, _, rfl, rfl, ?_⟩
                    refine ⟨_, rfl, ?_, _, rfl, l, xs', y1, rfl, rfl, hH2, ?_, ?_⟩
                    · exact .inl ⟨rfl, _, Evl.sq_of hH2⟩
                    · have h1 := small_le hsm
                      have h2 := (hacc.len : xs'.length = acc.length)
                      omega
                    · refine ⟨_, rfl, _, _, rfl, rfl, ?_⟩
                      have hne : ∀ (G : Hp) (x : Addr) (u : HO), G l = none → G x = some u → x ≠ l := fun G x u h1 h2 e => by
                        rw [e, h1] at h2
                        cases h2
                      refine ⟨h2 + 1, some y1, F2, acc ++ [lit], xs' ++ [y1], rfl, ⟨fun x u e => ?_, st02.f, fun x u e => ?_, st02.new⟩, upd_same, hF2, ?_, ex2⟩
                      · rw [upd_ne (hne H0 x u hl e)]
                        exact st02.h x u e
                      · rw [upd_ne (hne F2 x u hF2 e)]
                        exact st2.le x u e
                      · exact ((hacc.mono st1.f).mono st2.f).append (.cons hy1 .nil)
                  · cases ex2
              · rw [if_neg (by simpa using hlt)] at eb
                cases eb
                show (if (decide (here < (ws.length : Int))) = true then _ else _)
                rw [if_neg (by simpa using hlt)]
                have st01 := st.trans st1
                refine ⟨_, rfl, _, _, rfl, .inl ⟨Evl.sq_of (st1.h _ _ hH), fun q hq => ?_⟩⟩
                exact o1 _ _ (st01.trans (Stp.add st1.le hq)) _ (put_tup st1.le hq (hacc.mono st1.f))
            | _ => exact o.elim
          | _ => exact o.elim
  · match ds, hd with
    | [], _ => rfl
    | [x], _ => cases x <;> rfl
    | [_, _], h => exact absurd rfl h
    | x :: y :: _ :: _, _ => cases x <;> cases y <;> rfl

abbrev N_entry_read : List Str := ["words", "word", "atom", "end"]
theorem sc_entry_read : FnScope N_entry_read ["words"] (defScope st_entry_read) := ⟨rfl, rfl, rfl, by decide +kernel, rfl, by decide +kernel, by decide +kernel⟩
def b_entry_read : Sm := (S.seq (S.set 1 (E.op ixD (E.var 0) (E.k (.int 0)))) (S.seq (S.ite (T.val (E.op eqD (E.var 1) (E.k c_RULE))) (S.seq (S.set2 2 3 (E.call f_atom_read (A.cons (E.var 0) (A.cons (E.k (.int 1)) A.nil)))) (S.ret (E.tup (A.cons (E.k c_RULE) (A.cons (E.var 2) (A.cons (E.call f_body_read (A.cons (E.var 0) (A.cons (E.op addD (E.var 3) (E.k (.int 1))) A.nil))) A.nil)))))) S.pass) (S.seq (S.ite (T.val (E.op eqD (E.var 1) (E.k c_ASK))) (S.ret (E.tup (A.cons (E.k c_ASK) (A.cons (E.call f_body_read (A.cons (E.var 0) (A.cons (E.k (.int 1)) A.nil))) A.nil)))) S.pass) (S.seq (S.ite (T.val (E.op eqD (E.var 1) (E.k c_BACK))) (S.ret (E.tup (A.cons (E.k c_BACK) A.nil))) S.pass) (S.ret (E.tup (A.cons (E.var 1) (A.cons (E.ite (T.val (E.op inD (E.var 1) (E.tup (A.cons (E.k c_DROP) (A.cons (E.k c_SINCE) A.nil))))) (E.call f_value_by (A.cons (E.op ixD (E.var 0) (E.k (.int 1))) A.nil)) (E.call f_fact_read (A.cons (E.var 0) (A.cons (E.k (.int 1)) A.nil)))) A.nil))))))))
def f_entry_read : List D → R D := runD 1 4 b_entry_read
theorem ok_entry_read (T : Tx P w K mg base C a_ANY a_OPTIONS i_BadWord fd_BadWord i_InvalidText fd_InvalidText i_InvalidTree fd_InvalidTree i_InvalidValue fd_InvalidValue a_BookError) (Fn : Fun K "entry_read" "entry_read" st_entry_read fa fd) (hm : mg "entry_read" = some (.ref fa)) (d_atom_read : DOk P w K mg base C "atom_read" ["words", "place"] 4 f_atom_read) (d_body_read : DOk P w K mg base C "body_read" ["words", "place"] 6 f_body_read) (d_value_by : DOk P w K mg base C "value_by" ["word"] 1 f_value_by) (d_fact_read : DOk P w K mg base C "fact_read" ["words", "place"] 2 f_fact_read) : DOk P w K mg base C "entry_read" ["words"] 7 f_entry_read :=
  mk_D (N := N_entry_read) Fn sc_entry_read hm (fun _ _ _ _ _ _ us hl => match us, hl with | [_], _ => rfl) (fun kn e _ _ _ _ _ _ _ => by cases e; rfl)
      (fun cdv0 A0 outer0 s0 H0 E0 hr => (dss_cons (ds_set (i := 1) (de_ix (de_var (pv 0)) de_int) sc_entry_read.nd rfl (Or.inl rfl)) (dss_cons (ds_if (dt_cmp (op_eqX hr.units) o2_eq (de_var (pv 1)) (de_gl T.c_RULE (by rfl)) (nomark _)) (dss_cons (ds_set2 (i := 2) (j := 3) (de_callD d_atom_read hr (by decide) (by rfl) takesE (da_cons (de_var (pv 0)) (da_cons de_int da_nil))) (pg_tup rfl (pgs_cons (pg_name (i := 2) sc_entry_read.nd rfl (Or.inl rfl)) (pgs_cons (pg_name (i := 3) sc_entry_read.nd rfl (Or.inl rfl)) pgs_nil)))) (dss_one (ds_ret (de_tup (da_cons (de_gl T.c_RULE (by rfl)) (da_cons (de_var (pv 2)) (da_cons (de_callD d_body_read hr (by decide) (by rfl) takesE (da_cons (de_var (pv 0)) (da_cons (de_op op_addD o2_add (de_var (pv 3)) de_int) da_nil))) da_nil))))))) dss_nil) (dss_cons (ds_if (dt_cmp (op_eqX hr.units) o2_eq (de_var (pv 1)) (de_gl T.c_ASK (by rfl)) (nomark _)) (dss_one (ds_ret (de_tup (da_cons (de_gl T.c_ASK (by rfl)) (da_cons (de_callD d_body_read hr (by decide) (by rfl) takesE (da_cons (de_var (pv 0)) (da_cons de_int da_nil))) da_nil))))) dss_nil) (dss_cons (ds_if (dt_cmp (op_eqX hr.units) o2_eq (de_var (pv 1)) (de_gl T.c_BACK (by rfl)) (nomark _)) (dss_one (ds_ret (de_tup (da_cons (de_gl T.c_BACK (by rfl)) da_nil)))) dss_nil) (dss_one (ds_ret (de_tup (da_cons (de_var (pv 1)) (da_cons (de_if (dt_cmp (op_inX (hu1 hr)) o2_in (de_var (pv 1)) (de_tup (da_cons (de_gl T.c_DROP (by rfl)) (da_cons (de_gl T.c_SINCE (by rfl)) da_nil))) rfl) (de_callD d_value_by hr (by decide) (by rfl) takesE (da_cons (de_ix (de_var (pv 0)) de_int) da_nil)) (de_callD d_fact_read hr (by decide) (by rfl) takesE (da_cons (de_var (pv 0)) (da_cons de_int da_nil)))) da_nil))))))))))
abbrev N_tree_by : List Str := ["sort", "words"]
theorem sc_tree_by : FnScope N_tree_by ["sort", "words"] (defScope st_tree_by) := ⟨rfl, rfl, rfl, by decide +kernel, rfl, by decide +kernel, by decide +kernel⟩
def b_tree_by : Sm := (S.seq (S.ite (T.val (E.op eqD (E.var 0) (E.k c_ATOM))) (S.ret (E.op ixD (E.call f_atom_read (A.cons (E.var 1) (A.cons (E.k (.int 0)) A.nil))) (E.k (.int 0)))) S.pass) (S.ret (E.ite (T.val (E.op eqD (E.var 0) (E.k c_BODY))) (E.call f_body_read (A.cons (E.var 1) (A.cons (E.k (.int 0)) A.nil))) (E.call f_entry_read (A.cons (E.var 1) A.nil)))))
def f_tree_by : List D → R D := runD 2 2 b_tree_by
theorem ok_tree_by (T : Tx P w K mg base C a_ANY a_OPTIONS i_BadWord fd_BadWord i_InvalidText fd_InvalidText i_InvalidTree fd_InvalidTree i_InvalidValue fd_InvalidValue a_BookError) (Fn : Fun K "tree_by" "tree_by" st_tree_by fa fd) (hm : mg "tree_by" = some (.ref fa)) (d_atom_read : DOk P w K mg base C "atom_read" ["words", "place"] 4 f_atom_read) (d_body_read : DOk P w K mg base C "body_read" ["words", "place"] 6 f_body_read) (d_entry_read : DOk P w K mg base C "entry_read" ["words"] 7 f_entry_read) : DOk P w K mg base C "tree_by" ["sort", "words"] 8 f_tree_by :=
  mk_D (N := N_tree_by) Fn sc_tree_by hm (fun _ _ _ _ _ _ us hl => match us, hl with | [_, _], _ => rfl) (fun kn e => nomatch e)
      (fun cdv0 A0 outer0 s0 H0 E0 hr => (dss_cons (ds_if (dt_cmp (op_eqX hr.units) o2_eq (de_var (pv 0)) (de_gl T.c_ATOM (by rfl)) (nomark _)) (dss_one (ds_ret (de_ix (de_callD d_atom_read hr (by decide) (by rfl) takesE (da_cons (de_var (pv 1)) (da_cons de_int da_nil))) de_int))) dss_nil) (dss_one (ds_ret (de_if (dt_cmp (op_eqX hr.units) o2_eq (de_var (pv 0)) (de_gl T.c_BODY (by rfl)) (nomark _)) (de_callD d_body_read hr (by decide) (by rfl) takesE (da_cons (de_var (pv 1)) (da_cons de_int da_nil))) (de_callD d_entry_read hr (by decide) (by rfl) takesE (da_cons (de_var (pv 1)) da_nil)))))))
abbrev N_read_as : List Str := ["sort", "text", "words", "bad"]
theorem sc_read_as : FnScope N_read_as ["sort", "text"] (defScope st_read_as) := ⟨rfl, rfl, rfl, by decide +kernel, rfl, by decide +kernel, by decide +kernel⟩
def b_read_as : Sm := (S.seq (S.expr (E.call f_check_line (A.cons (E.var 1) A.nil))) (S.seq (S.set 2 (E.call f_words_by (A.cons (E.var 1) A.nil))) (S.seq (S.set 3 (E.call f_first_bad_by (A.cons (E.var 0) (A.cons (E.var 2) A.nil)))) (S.seq (S.ite (T.val (E.op notND (E.var 3) (E.k .non))) (S.raise 1 (E.var 3)) S.pass) (S.ret (E.call f_tree_by (A.cons (E.var 0) (A.cons (E.var 2) A.nil))))))))
def f_read_as : List D → R D := runD 2 4 b_read_as
theorem ok_read_as (T : Tx P w K mg base C a_ANY a_OPTIONS i_BadWord fd_BadWord i_InvalidText fd_InvalidText i_InvalidTree fd_InvalidTree i_InvalidValue fd_InvalidValue a_BookError) (Fn : Fun K "read_as" "read_as" st_read_as fa fd) (hm : mg "read_as" = some (.ref fa)) (d_check_line : DOk P w K mg base C "check_line" ["text"] 3 f_check_line) (d_words_by : DOk P w K mg base C "words_by" ["line"] 1 f_words_by) (d_first_bad_by : DOk P w K mg base C "first_bad_by" ["sort", "words"] 7 f_first_bad_by) (d_tree_by : DOk P w K mg base C "tree_by" ["sort", "words"] 8 f_tree_by) : DOk P w K mg base C "read_as" ["sort", "text"] 9 f_read_as :=
  mk_D (N := N_read_as) Fn sc_read_as hm (fun _ _ _ _ _ _ us hl => match us, hl with | [_, _], _ => rfl) (fun kn e => nomatch e)
      (fun cdv0 A0 outer0 s0 H0 E0 hr => (dss_cons (ds_expr (de_callD d_check_line hr (by decide) (by rfl) takesE (da_cons (de_var (pv 1)) da_nil))) (dss_cons (ds_set (i := 2) (de_callD d_words_by hr (by decide) (by rfl) takesE (da_cons (de_var (pv 1)) da_nil)) sc_read_as.nd rfl (Or.inl rfl)) (dss_cons (ds_set (i := 3) (de_callD d_first_bad_by hr (by decide) (by rfl) takesE (da_cons (de_var (pv 0)) (da_cons (de_var (pv 2)) da_nil))) sc_read_as.nd rfl (Or.inl rfl)) (dss_cons (ds_if (dt_cmp (op_notN) o2_notN (de_var (pv 3)) de_non (nomark _)) (dss_one (ds_raise (i := 1) T.e_BadWord T.i_BadWord (hr.mono (by decide)) T.b_BadWord (by rfl) rfl takesE (de_var (pv 3)))) dss_nil) (dss_one (ds_ret (de_callD d_tree_by hr (by decide) (by rfl) takesE (da_cons (de_var (pv 0)) (da_cons (de_var (pv 2)) da_nil))))))))))
abbrev N_read_entry : List Str := ["text"]
theorem sc_read_entry : FnScope N_read_entry ["text"] (defScope st_read_entry) := ⟨rfl, rfl, rfl, by decide +kernel, rfl, by decide +kernel, by decide +kernel⟩
def b_read_entry : Sm := (S.ret (E.call f_read_as (A.cons (E.k c_ENTRY) (A.cons (E.var 0) A.nil))))
def f_read_entry : List D → R D := runD 1 1 b_read_entry
theorem ok_read_entry (T : Tx P w K mg base C a_ANY a_OPTIONS i_BadWord fd_BadWord i_InvalidText fd_InvalidText i_InvalidTree fd_InvalidTree i_InvalidValue fd_InvalidValue a_BookError) (Fn : Fun K "read_entry" "read_entry" st_read_entry fa fd) (hm : mg "read_entry" = some (.ref fa)) (d_read_as : DOk P w K mg base C "read_as" ["sort", "text"] 9 f_read_as) : DOk P w K mg base C "read_entry" ["text"] 10 f_read_entry :=
  mk_D (N := N_read_entry) Fn sc_read_entry hm (fun _ _ _ _ _ _ us hl => match us, hl with | [_], _ => rfl) (fun kn e _ _ _ _ _ _ _ => by cases e; rfl)
      (fun cdv0 A0 outer0 s0 H0 E0 hr => (dss_one (ds_ret (de_callD d_read_as hr (by decide) (by rfl) takesE (da_cons (de_gl T.c_ENTRY (by rfl)) (da_cons (de_var (pv 0)) da_nil))))))
abbrev N_read_body : List Str := ["text"]
theorem sc_read_body : FnScope N_read_body ["text"] (defScope st_read_body) := ⟨rfl, rfl, rfl, by decide +kernel, rfl, by decide +kernel, by decide +kernel⟩
def b_read_body : Sm := (S.ret (E.call f_read_as (A.cons (E.k c_BODY) (A.cons (E.var 0) A.nil))))
def f_read_body : List D → R D := runD 1 1 b_read_body
theorem ok_read_body (T : Tx P w K mg base C a_ANY a_OPTIONS i_BadWord fd_BadWord i_InvalidText fd_InvalidText i_InvalidTree fd_InvalidTree i_InvalidValue fd_InvalidValue a_BookError) (Fn : Fun K "read_body" "read_body" st_read_body fa fd) (hm : mg "read_body" = some (.ref fa)) (d_read_as : DOk P w K mg base C "read_as" ["sort", "text"] 9 f_read_as) : DOk P w K mg base C "read_body" ["text"] 10 f_read_body :=
  mk_D (N := N_read_body) Fn sc_read_body hm (fun _ _ _ _ _ _ us hl => match us, hl with | [_], _ => rfl) (fun kn e _ _ _ _ _ _ _ => by cases e; rfl)
      (fun cdv0 A0 outer0 s0 H0 E0 hr => (dss_one (ds_ret (de_callD d_read_as hr (by decide) (by rfl) takesE (da_cons (de_gl T.c_BODY (by rfl)) (da_cons (de_var (pv 0)) da_nil))))))
abbrev N_entry_text : List Str := ["entry"]
theorem sc_entry_text : FnScope N_entry_text ["entry"] (defScope st_entry_text) := ⟨rfl, rfl, rfl, by decide +kernel, rfl, by decide +kernel, by decide +kernel⟩
def b_entry_text : Sm := (S.seq (S.expr (E.call f_check_entry (A.cons (E.var 0) A.nil))) (S.ret (E.call f_text_of_entry (A.cons (E.var 0) A.nil))))
def f_entry_text : List D → R D := runD 1 1 b_entry_text
theorem ok_entry_text (T : Tx P w K mg base C a_ANY a_OPTIONS i_BadWord fd_BadWord i_InvalidText fd_InvalidText i_InvalidTree fd_InvalidTree i_InvalidValue fd_InvalidValue a_BookError) (Fn : Fun K "entry_text" "entry_text" st_entry_text fa fd) (hm : mg "entry_text" = some (.ref fa)) (d_check_entry : DOk P w K mg base C "check_entry" ["entry"] 9 f_check_entry) (d_text_of_entry : DOk P w K mg base C "text_of_entry" ["entry"] 7 f_text_of_entry) : DOk P w K mg base C "entry_text" ["entry"] 10 f_entry_text :=
  mk_D (N := N_entry_text) Fn sc_entry_text hm (fun _ _ _ _ _ _ us hl => match us, hl with | [_], _ => rfl) (fun kn e _ _ _ _ _ _ _ => by cases e; rfl)
      (fun cdv0 A0 outer0 s0 H0 E0 hr => (dss_cons (ds_expr (de_callD d_check_entry hr (by decide) (by rfl) takesE (da_cons (de_var (pv 0)) da_nil))) (dss_one (ds_ret (de_callD d_text_of_entry hr (by decide) (by rfl) takesE (da_cons (de_var (pv 0)) da_nil))))))
abbrev N_body_text : List Str := ["body"]
theorem sc_body_text : FnScope N_body_text ["body"] (defScope st_body_text) := ⟨rfl, rfl, rfl, by decide +kernel, rfl, by decide +kernel, by decide +kernel⟩
def b_body_text : Sm := (S.seq (S.expr (E.call f_check_body (A.cons (E.var 0) A.nil))) (S.ret (E.call f_text_of_body (A.cons (E.var 0) A.nil))))
def f_body_text : List D → R D := runD 1 1 b_body_text
theorem ok_body_text (T : Tx P w K mg base C a_ANY a_OPTIONS i_BadWord fd_BadWord i_InvalidText fd_InvalidText i_InvalidTree fd_InvalidTree i_InvalidValue fd_InvalidValue a_BookError) (Fn : Fun K "body_text" "body_text" st_body_text fa fd) (hm : mg "body_text" = some (.ref fa)) (d_check_body : DOk P w K mg base C "check_body" ["body"] 8 f_check_body) (d_text_of_body : DOk P w K mg base C "text_of_body" ["body"] 5 f_text_of_body) : DOk P w K mg base C "body_text" ["body"] 9 f_body_text :=
  mk_D (N := N_body_text) Fn sc_body_text hm (fun _ _ _ _ _ _ us hl => match us, hl with | [_], _ => rfl) (fun kn e _ _ _ _ _ _ _ => by cases e; rfl)
      (fun cdv0 A0 outer0 s0 H0 E0 hr => (dss_cons (ds_expr (de_callD d_check_body hr (by decide) (by rfl) takesE (da_cons (de_var (pv 0)) da_nil))) (dss_one (ds_ret (de_callD d_text_of_body hr (by decide) (by rfl) takesE (da_cons (de_var (pv 0)) da_nil))))))
abbrev N__law_is : List Str := ["one", "due", "at", "each"]
theorem sc__law_is : FnScope N__law_is ["one", "due"] (defScope st__law_is) := ⟨rfl, rfl, rfl, by decide +kernel, rfl, by decide +kernel, by decide +kernel⟩
def b__law_is (f__law_is : List D → R D) : Sm := (S.seq (S.ite (T.val (E.isi .tuple (E.var 1))) (S.seq (S.ite (T.or (T.not (T.val (E.isi .tuple (E.var 0)))) (T.val (E.op neD (E.fn lenD (A.cons (E.var 0) A.nil)) (E.fn lenD (A.cons (E.var 1) A.nil))))) (S.ret (E.k (.bl false))) S.pass) (S.ret (E.fn allD (A.cons (E.lc [2, 3] (B.two 2 3) (I.enum (E.var 1)) T.yes (E.call f__law_is (A.cons (E.op ixD (E.var 0) (E.var 2)) (A.cons (E.var 3) A.nil)))) A.nil)))) S.pass) (S.seq (S.ite (T.val (E.isi .list (E.var 1))) (S.ret (E.and (E.isi .list (E.var 0)) (E.call f__law_is (A.cons (E.fn tupleD (A.cons (E.var 0) A.nil)) (A.cons (E.fn tupleD (A.cons (E.var 1) A.nil)) A.nil))))) S.pass) (S.seq (S.ite (T.val (E.isi .dict (E.var 1))) (S.ret (E.and (E.isi .dict (E.var 0)) (E.op eqD (E.var 0) (E.var 1)))) S.pass) (S.seq (S.ite (T.or (T.val (E.op isND (E.var 1) (E.k .non))) (T.or (T.val (E.op isBD (E.var 1) (E.k (.bl true)))) (T.val (E.op isBD (E.var 1) (E.k (.bl false)))))) (S.ret (E.ite (T.val (E.op isND (E.var 1) (E.k .non))) (E.op isND (E.var 0) (E.k .non)) (E.ite (T.val (E.op isBD (E.var 1) (E.k (.bl true)))) (E.op isBD (E.var 0) (E.k (.bl true))) (E.op isBD (E.var 0) (E.k (.bl false)))))) S.pass) (S.seq (S.ite (T.val (E.isi .int (E.var 1))) (S.ret (E.and (E.isi .int (E.var 0)) (E.and (E.not (E.isi .bool (E.var 0))) (E.op eqD (E.var 0) (E.var 1))))) S.pass) (S.ret (E.and (E.isi .str (E.var 0)) (E.op eqD (E.var 0) (E.var 1)))))))))
def f__law_is : Nat → List D → R D
  | 0 => runD 2 4 S.never
  | k + 1 => runD 2 4 (b__law_is (f__law_is k))
theorem ok__law_is (T : Tx P w K mg base C a_ANY a_OPTIONS i_BadWord fd_BadWord i_InvalidText fd_InvalidText i_InvalidTree fd_InvalidTree i_InvalidValue fd_InvalidValue a_BookError) (Fn : Fun K "_law_is" "_law_is" st__law_is fa fd) (hm : mg "_law_is" = some (.ref fa))  : ∀ n : Nat, DOk P w K mg base C "_law_is" ["one", "due"] (1 + n) (f__law_is n)
  | 0 => mk_D (N := N__law_is) Fn sc__law_is hm (fun _ _ _ _ _ _ us hl => match us, hl with | [_, _], _ => rfl) (fun kn e => nomatch e)
      (fun cdv0 A0 outer0 s0 H0 E0 hr => dss_never)
  | n + 1 => by
    have d__law_is := ok__law_is T Fn hm  n
    exact mk_D (N := N__law_is) Fn sc__law_is hm (fun _ _ _ _ _ _ us hl => match us, hl with | [_, _], _ => rfl) (fun kn e => nomatch e)
      (fun cdv0 A0 outer0 s0 H0 E0 hr => (dss_cons (ds_if (dt_val (de_isi (T := .tuple) (T.fr "isinstance" (by decide)) (T.fr "tuple" (by decide)) (by rfl) (by rfl) (by decide +kernel) (de_var (pv 1)))) (dss_cons (ds_if (PW.pt (dw_or (dt_not (dt_val (de_isi (T := .tuple) (T.fr "isinstance" (by decide)) (T.fr "tuple" (by decide)) (by rfl) (by rfl) (by decide +kernel) (de_var (pv 0))))) (dw_or1 (dt_cmp (op_neX hr.units) o2_ne (de_callB call_len on_len (by rfl) (T.fr "len" (by decide)) boot_len (da_cons (de_var (pv 0)) da_nil)) (de_callB call_len on_len (by rfl) (T.fr "len" (by decide)) boot_len (da_cons (de_var (pv 1)) da_nil)) (nomark _))))) (dss_one (ds_ret de_bl)) dss_nil) (dss_one (ds_ret (de_callB (cr_all rfl) on_all (by rfl) (T.fr "all" (by decide)) (by decide +kernel) (da_cons (de_lc (own := [("at", 2), ("each", 3)]) (g := gTup K 2 (gCons (gName 2) (gCons (gName 3) gNil))) rfl sc__law_is.nd (di_enum (by rfl) (T.fr "enumerate" (by decide)) (de_var (pv 1))) (blkOk_by (N := N__law_is) (sc := defScope st__law_is) (own := [("at", 2), ("each", 3)]) (by decide +kernel)) (tg_two (by decide) (by decide)) (fun _ _ _ _ _ => pg_tup rfl (pgs_cons (pg_name (i := 2) sc__law_is.nd rfl (Or.inl rfl)) (pgs_cons (pg_name (i := 3) sc__law_is.nd rfl (Or.inl rfl)) pgs_nil))) (fun _ _ _ _ _ => dts_nil) (fun _ _ _ _ _ => (de_callD d__law_is hr (Nat.le_refl _) (by rfl) takes0 (da_cons (de_ix (de_var (pv 0)) (de_var (pv 2))) (da_cons (de_var (pv 3)) da_nil))))) da_nil))))) dss_nil) (dss_cons (ds_if (dt_val (de_isi (T := .list) (T.fr "isinstance" (by decide)) (T.fr "list" (by decide)) (by rfl) (by rfl) (by decide +kernel) (de_var (pv 1)))) (dss_one (ds_ret (de_and (de_isi (T := .list) (T.fr "isinstance" (by decide)) (T.fr "list" (by decide)) (by rfl) (by rfl) (by decide +kernel) (de_var (pv 0))) (de_one (de_callD d__law_is hr (Nat.le_refl _) (by rfl) takesE (da_cons (de_callT call_tuple_of on_tuple (by rfl) (T.fr "tuple" (by decide)) (by decide +kernel) (da_cons (de_var (pv 0)) da_nil)) (da_cons (de_callT call_tuple_of on_tuple (by rfl) (T.fr "tuple" (by decide)) (by decide +kernel) (da_cons (de_var (pv 1)) da_nil)) da_nil))))))) dss_nil) (dss_cons (ds_if (dt_val (de_isi (T := .dict) (T.fr "isinstance" (by decide)) (T.fr "dict" (by decide)) (by rfl) (by rfl) (by decide +kernel) (de_var (pv 1)))) (dss_one (ds_ret (de_and (de_isi (T := .dict) (T.fr "isinstance" (by decide)) (T.fr "dict" (by decide)) (by rfl) (by rfl) (by decide +kernel) (de_var (pv 0))) (de_one (de_cmp (op_eqX hr.units) o2_eq (de_var (pv 0)) (de_var (pv 1)) (nomark _)))))) dss_nil) (dss_cons (ds_if (PW.pt (dw_or (dt_cmp (op_isN) o2_isN (de_var (pv 1)) de_non (nomark _)) (dw_or (dt_cmp (op_isBlD) o2_isB (de_var (pv 1)) de_bl (nomark _)) (dw_or1 (dt_cmp (op_isBlD) o2_isB (de_var (pv 1)) de_bl (nomark _)))))) (dss_one (ds_ret (de_if (dt_cmp (op_isN) o2_isN (de_var (pv 1)) de_non (nomark _)) (de_cmp (op_isN) o2_isN (de_var (pv 0)) de_non (nomark _)) (de_if (dt_cmp (op_isBlD) o2_isB (de_var (pv 1)) de_bl (nomark _)) (de_cmp (op_isBlD) o2_isB (de_var (pv 0)) de_bl (nomark _)) (de_cmp (op_isBlD) o2_isB (de_var (pv 0)) de_bl (nomark _)))))) dss_nil) (dss_cons (ds_if (dt_val (de_isi (T := .int) (T.fr "isinstance" (by decide)) (T.fr "int" (by decide)) (by rfl) (by rfl) (by decide +kernel) (de_var (pv 1)))) (dss_one (ds_ret (de_and (de_isi (T := .int) (T.fr "isinstance" (by decide)) (T.fr "int" (by decide)) (by rfl) (by rfl) (by decide +kernel) (de_var (pv 0))) (de_and (de_not (de_isi (T := .bool) (T.fr "isinstance" (by decide)) (T.fr "bool" (by decide)) (by rfl) (by rfl) (by decide +kernel) (de_var (pv 0)))) (de_one (de_cmp (op_eqX hr.units) o2_eq (de_var (pv 0)) (de_var (pv 1)) (nomark _))))))) dss_nil) (dss_one (ds_ret (de_and (de_isi (T := .str) (T.fr "isinstance" (by decide)) (T.fr "str" (by decide)) (by rfl) (by rfl) (by decide +kernel) (de_var (pv 0))) (de_one (de_cmp (op_eqX hr.units) o2_eq (de_var (pv 0)) (de_var (pv 1)) (nomark _))))))))))))
abbrev N__law_whole : List Str := ["value", "least", "most"]
theorem sc__law_whole : FnScope N__law_whole ["value", "least", "most"] (defScope st__law_whole) := ⟨rfl, rfl, rfl, by decide +kernel, rfl, by decide +kernel, by decide +kernel⟩
def b__law_whole : Sm := (S.ret (E.and (E.isi .int (E.var 0)) (E.and (E.not (E.isi .bool (E.var 0))) (E.and (E.op leD (E.var 1) (E.var 0)) (E.op leD (E.var 0) (E.var 2))))))
def f__law_whole : List D → R D := runD 3 3 b__law_whole
theorem ok__law_whole (T : Tx P w K mg base C a_ANY a_OPTIONS i_BadWord fd_BadWord i_InvalidText fd_InvalidText i_InvalidTree fd_InvalidTree i_InvalidValue fd_InvalidValue a_BookError) (Fn : Fun K "_law_whole" "_law_whole" st__law_whole fa fd) (hm : mg "_law_whole" = some (.ref fa))  : DOk P w K mg base C "_law_whole" ["value", "least", "most"] 1 f__law_whole :=
  mk_D (N := N__law_whole) Fn sc__law_whole hm (fun _ _ _ _ _ _ us hl => match us, hl with | [_, _, _], _ => rfl) (fun kn e => nomatch e)
      (fun cdv0 A0 outer0 s0 H0 E0 hr => (dss_one (ds_ret (de_and (de_isi (T := .int) (T.fr "isinstance" (by decide)) (T.fr "int" (by decide)) (by rfl) (by rfl) (by decide +kernel) (de_var (pv 0))) (de_and (de_not (de_isi (T := .bool) (T.fr "isinstance" (by decide)) (T.fr "bool" (by decide)) (by rfl) (by rfl) (by decide +kernel) (de_var (pv 0)))) (de_and (de_cmp (op_leD) o2_cmp (de_var (pv 1)) (de_var (pv 0)) (nomark _)) (de_one (de_cmp (op_leD) o2_cmp (de_var (pv 0)) (de_var (pv 2)) (nomark _)))))))))
abbrev N__law_keys : List Str := []
theorem sc__law_keys : FnScope N__law_keys [] (defScope st__law_keys) := ⟨rfl, rfl, rfl, by decide +kernel, rfl, by decide +kernel, by decide +kernel⟩
def b__law_keys : Sm := (S.ret (E.meth isS splitD (E.k (.str "fact take rule drop if not ask why ways back since")) (A.cons (E.k (.str " ")) A.nil)))
def f__law_keys : List D → R D := runD 0 0 b__law_keys
theorem ok__law_keys (T : Tx P w K mg base C a_ANY a_OPTIONS i_BadWord fd_BadWord i_InvalidText fd_InvalidText i_InvalidTree fd_InvalidTree i_InvalidValue fd_InvalidValue a_BookError) (Fn : Fun K "_law_keys" "_law_keys" st__law_keys fa fd) (hm : mg "_law_keys" = some (.ref fa))  : DOk P w K mg base C "_law_keys" [] 1 f__law_keys :=
  mk_D (N := N__law_keys) Fn sc__law_keys hm (fun _ _ _ _ _ _ us hl => match us, hl with | [], _ => rfl) (fun kn e => nomatch e)
      (fun cdv0 A0 outer0 s0 H0 E0 hr => (dss_one (ds_ret (de_split de_str de_str))))
abbrev N__law_small : List Str := ["value", "sign"]
theorem sc__law_small : FnScope N__law_small ["value"] (defScope st__law_small) := ⟨rfl, rfl, rfl, by decide +kernel, rfl, by decide +kernel, by decide +kernel⟩
def b__law_small : Sm := (S.ret (E.and (E.isi .str (E.var 0)) (E.op eqD (E.lc [1] (B.name 1) (I.seq (E.var 0)) (T.not (T.val (E.chain leD leD (E.k (.str "a")) (E.var 1) (E.k (.str "z"))))) (E.var 1)) (E.lst A.nil))))
def f__law_small : List D → R D := runD 1 2 b__law_small
theorem ok__law_small (T : Tx P w K mg base C a_ANY a_OPTIONS i_BadWord fd_BadWord i_InvalidText fd_InvalidText i_InvalidTree fd_InvalidTree i_InvalidValue fd_InvalidValue a_BookError) (Fn : Fun K "_law_small" "_law_small" st__law_small fa fd) (hm : mg "_law_small" = some (.ref fa))  : DOk P w K mg base C "_law_small" ["value"] 1 f__law_small :=
  mk_D (N := N__law_small) Fn sc__law_small hm (fun _ _ _ _ _ _ us hl => match us, hl with | [_], _ => rfl) (fun kn e _ _ _ _ _ _ _ => by cases e; rfl)
      (fun cdv0 A0 outer0 s0 H0 E0 hr => (dss_one (ds_ret (de_and (de_isi (T := .str) (T.fr "isinstance" (by decide)) (T.fr "str" (by decide)) (by rfl) (by rfl) (by decide +kernel) (de_var (pv 0))) (de_one (de_cmp (op_eqX hr.units) o2_eq (de_lc (own := [("sign", 1)]) (g := gName 1) rfl sc__law_small.nd (di_seq (de_var (pv 0))) (blkOk_by (N := N__law_small) (sc := defScope st__law_small) (own := [("sign", 1)]) (by decide +kernel)) (tg_name (by decide)) (fun _ _ _ _ _ => pg_name (i := 1) sc__law_small.nd rfl (Or.inl rfl)) (fun _ _ _ _ _ => (dts_one (dt_not (dt_chain (op_leD) (op_leD) o2_cmp o2_cmp de_str (de_var (pv 1)) de_str)))) (fun _ _ _ _ _ => (de_var (pv 1)))) (de_lst da_nil) (nomark _)))))))
abbrev N__law_is_name : List Str := ["value"]
theorem sc__law_is_name : FnScope N__law_is_name ["value"] (defScope st__law_is_name) := ⟨rfl, rfl, rfl, by decide +kernel, rfl, by decide +kernel, by decide +kernel⟩
def b__law_is_name : Sm := (S.ret (E.and (E.call f__law_small (A.cons (E.var 0) A.nil)) (E.and (E.chain ltD ltD (E.k (.int 0)) (E.fn lenD (A.cons (E.var 0) A.nil)) (E.k (.int 7))) (E.op ninD (E.var 0) (E.call f__law_keys A.nil)))))
def f__law_is_name : List D → R D := runD 1 1 b__law_is_name
theorem ok__law_is_name (T : Tx P w K mg base C a_ANY a_OPTIONS i_BadWord fd_BadWord i_InvalidText fd_InvalidText i_InvalidTree fd_InvalidTree i_InvalidValue fd_InvalidValue a_BookError) (Fn : Fun K "_law_is_name" "_law_is_name" st__law_is_name fa fd) (hm : mg "_law_is_name" = some (.ref fa)) (d__law_small : DOk P w K mg base C "_law_small" ["value"] 1 f__law_small) (d__law_keys : DOk P w K mg base C "_law_keys" [] 1 f__law_keys) : DOk P w K mg base C "_law_is_name" ["value"] 2 f__law_is_name :=
  mk_D (N := N__law_is_name) Fn sc__law_is_name hm (fun _ _ _ _ _ _ us hl => match us, hl with | [_], _ => rfl) (fun kn e _ _ _ _ _ _ _ => by cases e; rfl)
      (fun cdv0 A0 outer0 s0 H0 E0 hr => (dss_one (ds_ret (de_and (de_callD d__law_small hr (by decide) (by rfl) takesE (da_cons (de_var (pv 0)) da_nil)) (de_and (de_chain (op_ltD) (op_ltD) o2_cmp o2_cmp de_int (de_callB call_len on_len (by rfl) (T.fr "len" (by decide)) boot_len (da_cons (de_var (pv 0)) da_nil)) de_int) (de_one (de_cmp (op_ninX (hu1 hr)) o2_nin (de_var (pv 0)) (de_call0 d__law_keys hr (by decide) (by rfl) takesE) rfl)))))))
abbrev N__law_is_variable : List Str := ["value"]
theorem sc__law_is_variable : FnScope N__law_is_variable ["value"] (defScope st__law_is_variable) := ⟨rfl, rfl, rfl, by decide +kernel, rfl, by decide +kernel, by decide +kernel⟩
def b__law_is_variable : Sm := (S.ret (E.and (E.isi .str (E.var 0)) (E.and (E.op eqD (E.fn lenD (A.cons (E.var 0) A.nil)) (E.k (.int 1))) (E.chain leD leD (E.k (.str "A")) (E.var 0) (E.k (.str "Z"))))))
def f__law_is_variable : List D → R D := runD 1 1 b__law_is_variable
theorem ok__law_is_variable (T : Tx P w K mg base C a_ANY a_OPTIONS i_BadWord fd_BadWord i_InvalidText fd_InvalidText i_InvalidTree fd_InvalidTree i_InvalidValue fd_InvalidValue a_BookError) (Fn : Fun K "_law_is_variable" "_law_is_variable" st__law_is_variable fa fd) (hm : mg "_law_is_variable" = some (.ref fa))  : DOk P w K mg base C "_law_is_variable" ["value"] 1 f__law_is_variable :=
  mk_D (N := N__law_is_variable) Fn sc__law_is_variable hm (fun _ _ _ _ _ _ us hl => match us, hl with | [_], _ => rfl) (fun kn e _ _ _ _ _ _ _ => by cases e; rfl)
      (fun cdv0 A0 outer0 s0 H0 E0 hr => (dss_one (ds_ret (de_and (de_isi (T := .str) (T.fr "isinstance" (by decide)) (T.fr "str" (by decide)) (by rfl) (by rfl) (by decide +kernel) (de_var (pv 0))) (de_and (de_cmp (op_eqX hr.units) o2_eq (de_callB call_len on_len (by rfl) (T.fr "len" (by decide)) boot_len (da_cons (de_var (pv 0)) da_nil)) de_int (nomark _)) (de_one (de_chain (op_leD) (op_leD) o2_cmp o2_cmp de_str (de_var (pv 0)) de_str)))))))
abbrev N__law_is_value : List Str := ["value"]
theorem sc__law_is_value : FnScope N__law_is_value ["value"] (defScope st__law_is_value) := ⟨rfl, rfl, rfl, by decide +kernel, rfl, by decide +kernel, by decide +kernel⟩
def b__law_is_value : Sm := (S.ret (E.ite (T.val (E.isi .str (E.var 0))) (E.and (E.call f__law_small (A.cons (E.var 0) A.nil)) (E.op ltD (E.fn lenD (A.cons (E.var 0) A.nil)) (E.k (.int 7)))) (E.call f__law_whole (A.cons (E.var 0) (A.cons (E.un negD (E.k (.int 999999))) (A.cons (E.k (.int 999999)) A.nil))))))
def f__law_is_value : List D → R D := runD 1 1 b__law_is_value
theorem ok__law_is_value (T : Tx P w K mg base C a_ANY a_OPTIONS i_BadWord fd_BadWord i_InvalidText fd_InvalidText i_InvalidTree fd_InvalidTree i_InvalidValue fd_InvalidValue a_BookError) (Fn : Fun K "_law_is_value" "_law_is_value" st__law_is_value fa fd) (hm : mg "_law_is_value" = some (.ref fa)) (d__law_small : DOk P w K mg base C "_law_small" ["value"] 1 f__law_small) (d__law_whole : DOk P w K mg base C "_law_whole" ["value", "least", "most"] 1 f__law_whole) : DOk P w K mg base C "_law_is_value" ["value"] 2 f__law_is_value :=
  mk_D (N := N__law_is_value) Fn sc__law_is_value hm (fun _ _ _ _ _ _ us hl => match us, hl with | [_], _ => rfl) (fun kn e _ _ _ _ _ _ _ => by cases e; rfl)
      (fun cdv0 A0 outer0 s0 H0 E0 hr => (dss_one (ds_ret (de_if (dt_val (de_isi (T := .str) (T.fr "isinstance" (by decide)) (T.fr "str" (by decide)) (by rfl) (by rfl) (by decide +kernel) (de_var (pv 0)))) (de_and (de_callD d__law_small hr (by decide) (by rfl) takesE (da_cons (de_var (pv 0)) da_nil)) (de_one (de_cmp (op_ltD) o2_cmp (de_callB call_len on_len (by rfl) (T.fr "len" (by decide)) boot_len (da_cons (de_var (pv 0)) da_nil)) de_int (nomark _)))) (de_callD d__law_whole hr (by decide) (by rfl) takesE (da_cons (de_var (pv 0)) (da_cons (de_un un_neg o1_neg de_int) (da_cons de_int da_nil))))))))
abbrev N__law_signs : List Str := []
theorem sc__law_signs : FnScope N__law_signs [] (defScope st__law_signs) := ⟨rfl, rfl, rfl, by decide +kernel, rfl, by decide +kernel, by decide +kernel⟩
def b__law_signs : Sm := (S.ret (E.k (.str " (),.+-&0123456789<=>abcdefghijklmnopqrstuvwxyzABCDEFGHIJKLMNOPQRSTUVWXYZ")))
def f__law_signs : List D → R D := runD 0 0 b__law_signs
theorem ok__law_signs (T : Tx P w K mg base C a_ANY a_OPTIONS i_BadWord fd_BadWord i_InvalidText fd_InvalidText i_InvalidTree fd_InvalidTree i_InvalidValue fd_InvalidValue a_BookError) (Fn : Fun K "_law_signs" "_law_signs" st__law_signs fa fd) (hm : mg "_law_signs" = some (.ref fa))  : DOk P w K mg base C "_law_signs" [] 1 f__law_signs :=
  mk_D (N := N__law_signs) Fn sc__law_signs hm (fun _ _ _ _ _ _ us hl => match us, hl with | [], _ => rfl) (fun kn e => nomatch e)
      (fun cdv0 A0 outer0 s0 H0 E0 hr => (dss_one (ds_ret de_str)))
abbrev N__law_of_number : List Str := ["word", "left", "sign"]
theorem sc__law_of_number : FnScope N__law_of_number ["word"] (defScope st__law_of_number) := ⟨rfl, rfl, rfl, by decide +kernel, rfl, by decide +kernel, by decide +kernel⟩
def b__law_of_number : Sm := (S.seq (S.set 1 (E.ite (T.val (E.op eqD (E.slice (E.var 0) O.no (O.some (E.k (.int 1)))) (E.k (.str "-")))) (E.slice (E.var 0) (O.some (E.k (.int 1))) O.no) (E.var 0))) (S.seq (S.ite (T.or (T.val (E.op eqD (E.var 1) (E.k (.str "")))) (T.or (T.val (E.op gtD (E.fn lenD (A.cons (E.var 1) A.nil)) (E.k (.int 6)))) (T.or (T.val (E.op neD (E.lc [2] (B.name 2) (I.seq (E.var 1)) (T.val (E.op ninD (E.var 2) (E.k (.str "0123456789")))) (E.var 2)) (E.lst A.nil))) (T.and (T.val (E.op eqD (E.op ixD (E.var 1) (E.k (.int 0))) (E.k (.str "0")))) (T.val (E.op neD (E.var 0) (E.k (.str "0")))))))) (S.ret (E.lst A.nil)) S.pass) (S.ret (E.lst (A.cons (E.fn intD (A.cons (E.var 0) A.nil)) A.nil)))))
def f__law_of_number : List D → R D := runD 1 3 b__law_of_number
theorem ok__law_of_number (T : Tx P w K mg base C a_ANY a_OPTIONS i_BadWord fd_BadWord i_InvalidText fd_InvalidText i_InvalidTree fd_InvalidTree i_InvalidValue fd_InvalidValue a_BookError) (Fn : Fun K "_law_of_number" "_law_of_number" st__law_of_number fa fd) (hm : mg "_law_of_number" = some (.ref fa))  : DOk P w K mg base C "_law_of_number" ["word"] 1 f__law_of_number :=
  mk_D (N := N__law_of_number) Fn sc__law_of_number hm (fun _ _ _ _ _ _ us hl => match us, hl with | [_], _ => rfl) (fun kn e _ _ _ _ _ _ _ => by cases e; rfl)
      (fun cdv0 A0 outer0 s0 H0 E0 hr => (dss_cons (ds_set (i := 1) (de_if (dt_cmp (op_eqX hr.units) o2_eq (de_slice (de_var (pv 0)) do_none (do_some de_int)) de_str (nomark _)) (de_slice (de_var (pv 0)) (do_some de_int) do_none) (de_var (pv 0))) sc__law_of_number.nd rfl (Or.inl rfl)) (dss_cons (ds_if (PW.pt (dw_or (dt_cmp (op_eqX hr.units) o2_eq (de_var (pv 1)) de_str (nomark _)) (dw_or (dt_cmp (op_gtD) o2_cmp (de_callB call_len on_len (by rfl) (T.fr "len" (by decide)) boot_len (da_cons (de_var (pv 1)) da_nil)) de_int (nomark _)) (dw_or (dt_cmp (op_neX hr.units) o2_ne (de_lc (own := [("sign", 2)]) (g := gName 2) rfl sc__law_of_number.nd (di_seq (de_var (pv 1))) (blkOk_by (N := N__law_of_number) (sc := defScope st__law_of_number) (own := [("sign", 2)]) (by decide +kernel)) (tg_name (by decide)) (fun _ _ _ _ _ => pg_name (i := 2) sc__law_of_number.nd rfl (Or.inl rfl)) (fun _ _ _ _ _ => (dts_one (dt_cmp (op_ninX (hu1 hr)) o2_nin (de_var (pv 2)) de_str rfl))) (fun _ _ _ _ _ => (de_var (pv 2)))) (de_lst da_nil) (nomark _)) (dw_or1 (PW.pt (dw_and (dt_cmp (op_eqX hr.units) o2_eq (de_ix (de_var (pv 1)) de_int) de_str (nomark _)) (dw_and1 (dt_cmp (op_neX hr.units) o2_ne (de_var (pv 0)) de_str (nomark _)))))))))) (dss_one (ds_ret (de_lst da_nil))) dss_nil) (dss_one (ds_ret (de_lst (da_cons (de_callT call_int_str on_int (by rfl) (T.fr "int" (by decide)) (by decide +kernel) (da_cons (de_var (pv 0)) da_nil)) da_nil)))))))
abbrev N__law_value : List Str := ["word"]
theorem sc__law_value : FnScope N__law_value ["word"] (defScope st__law_value) := ⟨rfl, rfl, rfl, by decide +kernel, rfl, by decide +kernel, by decide +kernel⟩
def b__law_value : Sm := (S.seq (S.ite (T.val (E.op eqD (E.slice (E.var 0) O.no (O.some (E.k (.int 1)))) (E.k (.str ".")))) (S.ret (E.ite (T.val (E.call f__law_is_value (A.cons (E.slice (E.var 0) (O.some (E.k (.int 1))) O.no) A.nil))) (E.lst (A.cons (E.slice (E.var 0) (O.some (E.k (.int 1))) O.no) A.nil)) (E.lst A.nil))) S.pass) (S.ret (E.call f__law_of_number (A.cons (E.var 0) A.nil))))
def f__law_value : List D → R D := runD 1 1 b__law_value
theorem ok__law_value (T : Tx P w K mg base C a_ANY a_OPTIONS i_BadWord fd_BadWord i_InvalidText fd_InvalidText i_InvalidTree fd_InvalidTree i_InvalidValue fd_InvalidValue a_BookError) (Fn : Fun K "_law_value" "_law_value" st__law_value fa fd) (hm : mg "_law_value" = some (.ref fa)) (d__law_is_value : DOk P w K mg base C "_law_is_value" ["value"] 2 f__law_is_value) (d__law_of_number : DOk P w K mg base C "_law_of_number" ["word"] 1 f__law_of_number) : DOk P w K mg base C "_law_value" ["word"] 3 f__law_value :=
  mk_D (N := N__law_value) Fn sc__law_value hm (fun _ _ _ _ _ _ us hl => match us, hl with | [_], _ => rfl) (fun kn e _ _ _ _ _ _ _ => by cases e; rfl)
      (fun cdv0 A0 outer0 s0 H0 E0 hr => (dss_cons (ds_if (dt_cmp (op_eqX hr.units) o2_eq (de_slice (de_var (pv 0)) do_none (do_some de_int)) de_str (nomark _)) (dss_one (ds_ret (de_if (dt_val (de_callD d__law_is_value hr (by decide) (by rfl) takesE (da_cons (de_slice (de_var (pv 0)) (do_some de_int) do_none) da_nil))) (de_lst (da_cons (de_slice (de_var (pv 0)) (do_some de_int) do_none) da_nil)) (de_lst da_nil)))) dss_nil) (dss_one (ds_ret (de_callD d__law_of_number hr (by decide) (by rfl) takesE (da_cons (de_var (pv 0)) da_nil))))))
abbrev N__law_told_kind : List Str := ["word", "value"]
theorem sc__law_told_kind : FnScope N__law_told_kind ["word"] (defScope st__law_told_kind) := ⟨rfl, rfl, rfl, by decide +kernel, rfl, by decide +kernel, by decide +kernel⟩
def b__law_told_kind : Sm := (S.seq (S.ite (T.or (T.val (E.op inD (E.var 0) (E.call f__law_keys A.nil))) (T.val (E.call f__law_is_name (A.cons (E.var 0) A.nil)))) (S.ret (E.ite (T.val (E.op inD (E.var 0) (E.call f__law_keys A.nil))) (E.k (.str "key")) (E.k (.str "name")))) S.pass) (S.seq (S.ite (T.val (E.call f__law_is_variable (A.cons (E.var 0) A.nil))) (S.ret (E.k (.str "variable"))) S.pass) (S.seq (S.set 1 (E.call f__law_value (A.cons (E.var 0) A.nil))) (S.ret (E.ite (T.val (E.op inD (E.var 0) (E.lst (A.cons (E.k (.str "(")) (A.cons (E.k (.str ")")) (A.cons (E.k (.str ",")) (A.cons (E.k (.str "&")) (A.cons (E.k (.str "<")) (A.cons (E.k (.str "=")) (A.cons (E.k (.str ">")) A.nil)))))))))) (E.k (.str "sign")) (E.ite (T.val (E.op eqD (E.var 1) (E.lst A.nil))) (E.k (.str "none")) (E.ite (T.val (E.op eqD (E.op ixD (E.var 0) (E.k (.int 0))) (E.k (.str ".")))) (E.k (.str "word")) (E.k (.str "number")))))))))
def f__law_told_kind : List D → R D := runD 1 2 b__law_told_kind
theorem ok__law_told_kind (T : Tx P w K mg base C a_ANY a_OPTIONS i_BadWord fd_BadWord i_InvalidText fd_InvalidText i_InvalidTree fd_InvalidTree i_InvalidValue fd_InvalidValue a_BookError) (Fn : Fun K "_law_told_kind" "_law_told_kind" st__law_told_kind fa fd) (hm : mg "_law_told_kind" = some (.ref fa)) (d__law_keys : DOk P w K mg base C "_law_keys" [] 1 f__law_keys) (d__law_is_name : DOk P w K mg base C "_law_is_name" ["value"] 2 f__law_is_name) (d__law_is_variable : DOk P w K mg base C "_law_is_variable" ["value"] 1 f__law_is_variable) (d__law_value : DOk P w K mg base C "_law_value" ["word"] 3 f__law_value) : DOk P w K mg base C "_law_told_kind" ["word"] 4 f__law_told_kind :=
  mk_D (N := N__law_told_kind) Fn sc__law_told_kind hm (fun _ _ _ _ _ _ us hl => match us, hl with | [_], _ => rfl) (fun kn e _ _ _ _ _ _ _ => by cases e; rfl)
      (fun cdv0 A0 outer0 s0 H0 E0 hr => (dss_cons (ds_if (PW.pt (dw_or (dt_cmp (op_inX (hu1 hr)) o2_in (de_var (pv 0)) (de_call0 d__law_keys hr (by decide) (by rfl) takesE) rfl) (dw_or1 (dt_val (de_callD d__law_is_name hr (by decide) (by rfl) takesE (da_cons (de_var (pv 0)) da_nil)))))) (dss_one (ds_ret (de_if (dt_cmp (op_inX (hu1 hr)) o2_in (de_var (pv 0)) (de_call0 d__law_keys hr (by decide) (by rfl) takesE) rfl) de_str de_str))) dss_nil) (dss_cons (ds_if (dt_val (de_callD d__law_is_variable hr (by decide) (by rfl) takesE (da_cons (de_var (pv 0)) da_nil))) (dss_one (ds_ret de_str)) dss_nil) (dss_cons (ds_set (i := 1) (de_callD d__law_value hr (by decide) (by rfl) takesE (da_cons (de_var (pv 0)) da_nil)) sc__law_told_kind.nd rfl (Or.inl rfl)) (dss_one (ds_ret (de_if (dt_cmp (op_inX (hu1 hr)) o2_in (de_var (pv 0)) (de_lst (da_cons de_str (da_cons de_str (da_cons de_str (da_cons de_str (da_cons de_str (da_cons de_str (da_cons de_str da_nil)))))))) rfl) de_str (de_if (dt_cmp (op_eqX hr.units) o2_eq (de_var (pv 1)) (de_lst da_nil) (nomark _)) de_str (de_if (dt_cmp (op_eqX hr.units) o2_eq (de_ix (de_var (pv 0)) de_int) de_str (nomark _)) de_str de_str)))))))))
abbrev N__law_tried : List Str := ["which", "text", "e"]
theorem sc__law_tried : FnScope N__law_tried ["which", "text"] (defScope st__law_tried) := ⟨rfl, rfl, rfl, by decide +kernel, rfl, by decide +kernel, by decide +kernel⟩
def b__law_tried : Sm := (S.try (S.ret (E.ite (T.val (E.op eqD (E.var 0) (E.k (.int 0)))) (E.lst (A.cons (E.k (.str "told")) (A.cons (E.call f_read_entry (A.cons (E.var 1) A.nil)) (A.cons (E.call f_entry_text (A.cons (E.call f_read_entry (A.cons (E.var 1) A.nil)) A.nil)) A.nil)))) (E.lst (A.cons (E.k (.str "told")) (A.cons (E.call f_read_body (A.cons (E.var 1) A.nil)) (A.cons (E.call f_body_text (A.cons (E.call f_read_body (A.cons (E.var 1) A.nil)) A.nil)) A.nil)))))) 2 okE (hRet "bad" "odd" cw_BadWord))
def f__law_tried : List D → R D := runD 2 3 b__law_tried
theorem ok__law_tried (T : Tx P w K mg base C a_ANY a_OPTIONS i_BadWord fd_BadWord i_InvalidText fd_InvalidText i_InvalidTree fd_InvalidTree i_InvalidValue fd_InvalidValue a_BookError) (Fn : Fun K "_law_tried" "_law_tried" st__law_tried fa fd) (hm : mg "_law_tried" = some (.ref fa)) (d_read_entry : DOk P w K mg base C "read_entry" ["text"] 10 f_read_entry) (d_entry_text : DOk P w K mg base C "entry_text" ["entry"] 10 f_entry_text) (d_read_body : DOk P w K mg base C "read_body" ["text"] 10 f_read_body) (d_body_text : DOk P w K mg base C "body_text" ["body"] 9 f_body_text) : DOk P w K mg base C "_law_tried" ["which", "text"] 11 f__law_tried :=
  mk_D (N := N__law_tried) Fn sc__law_tried hm (fun _ _ _ _ _ _ us hl => match us, hl with | [_, _], _ => rfl) (fun kn e => nomatch e)
      (fun cdv0 A0 outer0 s0 H0 E0 hr => (dss_one (ds_tryRet (i := 2) T.x_BadWord rfl rfl sc__law_tried.nd rfl rfl ⟨by rfl, by decide, .inl T.g_BookError⟩ takesE (fun _ _ _ tk ow => (dss_one (ds_ret (de_if (dt_cmp (op_eqX hr.units) o2_eq (de_var (pv 0)) de_int (nomark _)) (de_lst (da_cons de_str (da_cons (de_callD d_read_entry hr (by decide) (by rfl) tk (da_cons (de_var (pv 1)) da_nil)) (da_cons (de_callD d_entry_text hr (by decide) (by rfl) tk (da_cons (de_callD d_read_entry hr (by decide) (by rfl) tk (da_cons (de_var (pv 1)) da_nil)) da_nil)) da_nil)))) (de_lst (da_cons de_str (da_cons (de_callD d_read_body hr (by decide) (by rfl) tk (da_cons (de_var (pv 1)) da_nil)) (da_cons (de_callD d_body_text hr (by decide) (by rfl) tk (da_cons (de_callD d_read_body hr (by decide) (by rfl) tk (da_cons (de_var (pv 1)) da_nil)) da_nil)) da_nil)))))))) (by rfl) (T.fr "isinstance" (by decide)) (by rfl) T.g_BadWord)))
abbrev N__law_word_right : List Str := ["word", "value", "kind", "told", "e", "text", "side", "due", "term", "fits", "body"]
theorem sc__law_word_right : FnScope N__law_word_right ["word"] (defScope st__law_word_right) := ⟨rfl, rfl, rfl, by decide +kernel, rfl, by decide +kernel, by decide +kernel⟩
def b__law_word_right : Sm := (S.seq (S.par 1 2 (E.call f__law_value (A.cons (E.var 0) A.nil)) (E.call f__law_told_kind (A.cons (E.var 0) A.nil))) (S.seq (S.ite (T.not (T.val (E.call (f__law_is 12) (A.cons (E.lst (A.cons (E.call f_word_kind (A.cons (E.var 0) A.nil)) (A.cons (E.call1 f_word_kind (E.var 0)) A.nil))) (A.cons (E.lst (A.cons (E.var 2) (A.cons (E.var 2) A.nil))) A.nil))))) (S.ret (E.k (.bl false))) S.pass) (S.seq (S.try (S.set 3 (E.lst (A.cons (E.k (.str "told")) (A.cons (E.call f_value_of (A.cons (E.var 0) A.nil)) A.nil)))) 4 okE (hSet "value" "odd" cw_InvalidValue 3)) (S.seq (S.ite (T.not (T.val (E.call (f__law_is 12) (A.cons (E.var 3) (A.cons (E.ite (T.val (E.op neD (E.var 1) (E.lst A.nil))) (E.lst (A.cons (E.k (.str "told")) (A.cons (E.op ixD (E.var 1) (E.k (.int 0))) A.nil))) (E.lst (A.cons (E.k (.str "value")) (A.cons (E.var 0) A.nil)))) A.nil))))) (S.ret (E.k (.bl false))) S.pass) (S.seq (S.ite (T.and (T.val (E.op neD (E.var 1) (E.lst A.nil))) (T.not (T.val (E.call (f__law_is 12) (A.cons (E.lst (A.cons (E.call f_word_of (A.cons (E.op ixD (E.var 1) (E.k (.int 0))) A.nil)) (A.cons (E.call1 f_word_of (E.op ixD (E.var 1) (E.k (.int 0)))) (A.cons (E.call1 f_value_of (E.var 0)) A.nil)))) (A.cons (E.lst (A.cons (E.var 0) (A.cons (E.var 0) (A.cons (E.op ixD (E.var 1) (E.k (.int 0))) A.nil)))) A.nil)))))) (S.ret (E.k (.bl false))) S.pass) (S.seq (S.ite (T.or (T.val (E.op eqD (E.var 0) (E.k (.str "")))) (T.not (T.val (E.call f_is_line (A.cons (E.var 0) A.nil))))) (S.ret (E.k (.bl true))) S.pass) (S.seq (S.par 5 6 (E.op addD (E.op addD (E.k (.str "fact t ( 1 , ")) (E.var 0)) (E.k (.str " )"))) (E.op addD (E.op addD (E.op addD (E.k (.str "t ( 1 , ")) (E.var 0)) (E.k (.str " ) & X < "))) (E.var 0))) (S.seq (S.set 7 (E.ite (T.val (E.op neD (E.var 1) (E.lst A.nil))) (E.lst (A.cons (E.k (.str "told")) (A.cons (E.tup (A.cons (E.k (.str "fact")) (A.cons (E.tup (A.cons (E.k (.str "t")) (A.cons (E.tup (A.cons (E.k (.int 1)) (A.cons (E.op ixD (E.var 1) (E.k (.int 0))) A.nil))) A.nil))) A.nil))) (A.cons (E.var 5) A.nil)))) (E.lst (A.cons (E.k (.str "bad")) (A.cons (E.k (.int 5)) A.nil))))) (S.seq (S.set 8 (E.ite (T.val (E.op neD (E.var 1) (E.lst A.nil))) (E.tup (A.cons (E.k (.str "val")) (A.cons (E.op ixD (E.var 1) (E.k (.int 0))) A.nil))) (E.tup (A.cons (E.k (.str "var")) (A.cons (E.var 0) A.nil))))) (S.seq (S.set 9 (E.or (E.op neD (E.var 1) (E.lst A.nil)) (E.op eqD (E.var 2) (E.k (.str "variable"))))) (S.seq (S.set 10 (E.ite (T.val (E.var 9)) (E.lst (A.cons (E.k (.str "told")) (A.cons (E.tup (A.cons (E.tup (A.cons (E.k (.str "yes")) (A.cons (E.tup (A.cons (E.k (.str "t")) (A.cons (E.tup (A.cons (E.tup (A.cons (E.k (.str "val")) (A.cons (E.k (.int 1)) A.nil))) (A.cons (E.var 8) A.nil))) A.nil))) A.nil))) (A.cons (E.tup (A.cons (E.k (.str "<")) (A.cons (E.tup (A.cons (E.k (.str "var")) (A.cons (E.k (.str "X")) A.nil))) (A.cons (E.var 8) A.nil)))) A.nil))) (A.cons (E.var 6) A.nil)))) (E.lst (A.cons (E.k (.str "bad")) (A.cons (E.k (.int 4)) A.nil))))) (S.ret (E.call (f__law_is 12) (A.cons (E.lst (A.cons (E.call f__law_tried (A.cons (E.k (.int 0)) (A.cons (E.var 5) A.nil))) (A.cons (E.call f__law_tried (A.cons (E.k (.int 1)) (A.cons (E.var 6) A.nil))) (A.cons (E.call f_first_bad (A.cons (E.var 5) A.nil)) (A.cons (E.call f_first_bad (A.cons (E.op addD (E.op addD (E.k (.str "take ")) (E.var 0)) (E.k (.str " ( 1 )"))) A.nil)) A.nil))))) (A.cons (E.lst (A.cons (E.var 7) (A.cons (E.var 10) (A.cons (E.ite (T.val (E.op neD (E.var 1) (E.lst A.nil))) (E.k .non) (E.k (.int 5))) (A.cons (E.ite (T.val (E.op eqD (E.var 2) (E.k (.str "name")))) (E.k .non) (E.k (.int 1))) A.nil))))) A.nil)))))))))))))))
def f__law_word_right : List D → R D := runD 1 11 b__law_word_right
theorem ok__law_word_right (T : Tx P w K mg base C a_ANY a_OPTIONS i_BadWord fd_BadWord i_InvalidText fd_InvalidText i_InvalidTree fd_InvalidTree i_InvalidValue fd_InvalidValue a_BookError) (Fn : Fun K "_law_word_right" "_law_word_right" st__law_word_right fa fd) (hm : mg "_law_word_right" = some (.ref fa)) (d__law_value : DOk P w K mg base C "_law_value" ["word"] 3 f__law_value) (d__law_told_kind : DOk P w K mg base C "_law_told_kind" ["word"] 4 f__law_told_kind) (d_word_kind : DOk P w K mg base C "word_kind" ["word"] 5 f_word_kind) (d__law_is : DOk P w K mg base C "_law_is" ["one", "due"] 13 (f__law_is 12)) (d_value_of : DOk P w K mg base C "value_of" ["word"] 5 f_value_of) (d_word_of : DOk P w K mg base C "word_of" ["value"] 4 f_word_of) (d_is_line : DOk P w K mg base C "is_line" ["value"] 3 f_is_line) (d_first_bad : DOk P w K mg base C "first_bad" ["text"] 8 f_first_bad) (d__law_tried : DOk P w K mg base C "_law_tried" ["which", "text"] 11 f__law_tried) : DOk P w K mg base C "_law_word_right" ["word"] 14 f__law_word_right :=
  mk_D (N := N__law_word_right) Fn sc__law_word_right hm (fun _ _ _ _ _ _ us hl => match us, hl with | [_], _ => rfl) (fun kn e _ _ _ _ _ _ _ => by cases e; rfl)
      (fun cdv0 A0 outer0 s0 H0 E0 hr => (dss_cons (ds_par (i := 1) (j := 2) rfl sc__law_word_right.nd rfl rfl (by decide) rfl rfl (de_callD d__law_value hr (by decide) (by rfl) takesE (da_cons (de_var (pv 0)) da_nil)) (de_callD d__law_told_kind hr (by decide) (by rfl) takesE (da_cons (de_var (pv 0)) da_nil))) (dss_cons (ds_if (dt_not (dt_val (de_callD d__law_is hr (by decide) (by rfl) takesE (da_cons (de_lst (da_cons (de_callD d_word_kind hr (by decide) (by rfl) takesE (da_cons (de_var (pv 0)) da_nil)) (da_cons (de_callN d_word_kind hr (by decide) (by rfl) takesE (de_var (pv 0))) da_nil))) (da_cons (de_lst (da_cons (de_var (pv 2)) (da_cons (de_var (pv 2)) da_nil))) da_nil))))) (dss_one (ds_ret de_bl)) dss_nil) (dss_cons (ds_trySet (i := 4) (j := 3) T.x_InvalidValue rfl rfl sc__law_word_right.nd rfl rfl ⟨by rfl, by decide, .inl T.g_BookError⟩ takesE (fun _ _ _ tk ow => (dss_one (ds_set (i := 3) (de_lst (da_cons de_str (da_cons (de_callD d_value_of hr (by decide) (by rfl) tk (da_cons (de_var (pv 0)) da_nil)) da_nil))) sc__law_word_right.nd rfl (Or.inl rfl)))) (by rfl) (T.fr "isinstance" (by decide)) (by rfl) T.g_InvalidValue rfl rfl (by decide)) (dss_cons (ds_if (dt_not (dt_val (de_callD d__law_is hr (by decide) (by rfl) takesE (da_cons (de_var (pv 3)) (da_cons (de_if (dt_cmp (op_neX hr.units) o2_ne (de_var (pv 1)) (de_lst da_nil) (nomark _)) (de_lst (da_cons de_str (da_cons (de_ix (de_var (pv 1)) de_int) da_nil))) (de_lst (da_cons de_str (da_cons (de_var (pv 0)) da_nil)))) da_nil))))) (dss_one (ds_ret de_bl)) dss_nil) (dss_cons (ds_if (PW.pt (dw_and (dt_cmp (op_neX hr.units) o2_ne (de_var (pv 1)) (de_lst da_nil) (nomark _)) (dw_and1 (dt_not (dt_val (de_callD d__law_is hr (by decide) (by rfl) takesE (da_cons (de_lst (da_cons (de_callD d_word_of hr (by decide) (by rfl) takesE (da_cons (de_ix (de_var (pv 1)) de_int) da_nil)) (da_cons (de_callN d_word_of hr (by decide) (by rfl) takesE (de_ix (de_var (pv 1)) de_int)) (da_cons (de_callN d_value_of hr (by decide) (by rfl) takesE (de_var (pv 0))) da_nil)))) (da_cons (de_lst (da_cons (de_var (pv 0)) (da_cons (de_var (pv 0)) (da_cons (de_ix (de_var (pv 1)) de_int) da_nil)))) da_nil)))))))) (dss_one (ds_ret de_bl)) dss_nil) (dss_cons (ds_if (PW.pt (dw_or (dt_cmp (op_eqX hr.units) o2_eq (de_var (pv 0)) de_str (nomark _)) (dw_or1 (dt_not (dt_val (de_callD d_is_line hr (by decide) (by rfl) takesE (da_cons (de_var (pv 0)) da_nil))))))) (dss_one (ds_ret de_bl)) dss_nil) (dss_cons (ds_par (i := 5) (j := 6) rfl sc__law_word_right.nd rfl rfl (by decide) rfl rfl (de_op op_addD o2_add (de_op op_addD o2_add de_str (de_var (pv 0))) de_str) (de_op op_addD o2_add (de_op op_addD o2_add (de_op op_addD o2_add de_str (de_var (pv 0))) de_str) (de_var (pv 0)))) (dss_cons (ds_set (i := 7) (de_if (dt_cmp (op_neX hr.units) o2_ne (de_var (pv 1)) (de_lst da_nil) (nomark _)) (de_lst (da_cons de_str (da_cons (de_tup (da_cons de_str (da_cons (de_tup (da_cons de_str (da_cons (de_tup (da_cons de_int (da_cons (de_ix (de_var (pv 1)) de_int) da_nil))) da_nil))) da_nil))) (da_cons (de_var (pv 5)) da_nil)))) (de_lst (da_cons de_str (da_cons de_int da_nil)))) sc__law_word_right.nd rfl (Or.inl rfl)) (dss_cons (ds_set (i := 8) (de_if (dt_cmp (op_neX hr.units) o2_ne (de_var (pv 1)) (de_lst da_nil) (nomark _)) (de_tup (da_cons de_str (da_cons (de_ix (de_var (pv 1)) de_int) da_nil))) (de_tup (da_cons de_str (da_cons (de_var (pv 0)) da_nil)))) sc__law_word_right.nd rfl (Or.inl rfl)) (dss_cons (ds_set (i := 9) (de_or (de_cmp (op_neX hr.units) o2_ne (de_var (pv 1)) (de_lst da_nil) (nomark _)) (de_one (de_cmp (op_eqX hr.units) o2_eq (de_var (pv 2)) de_str (nomark _)))) sc__law_word_right.nd rfl (Or.inl rfl)) (dss_cons (ds_set (i := 10) (de_if (dt_val (de_var (pv 9))) (de_lst (da_cons de_str (da_cons (de_tup (da_cons (de_tup (da_cons de_str (da_cons (de_tup (da_cons de_str (da_cons (de_tup (da_cons (de_tup (da_cons de_str (da_cons de_int da_nil))) (da_cons (de_var (pv 8)) da_nil))) da_nil))) da_nil))) (da_cons (de_tup (da_cons de_str (da_cons (de_tup (da_cons de_str (da_cons de_str da_nil))) (da_cons (de_var (pv 8)) da_nil)))) da_nil))) (da_cons (de_var (pv 6)) da_nil)))) (de_lst (da_cons de_str (da_cons de_int da_nil)))) sc__law_word_right.nd rfl (Or.inl rfl)) (dss_one (ds_ret (de_callD d__law_is hr (by decide) (by rfl) takesE (da_cons (de_lst (da_cons (de_callD d__law_tried hr (by decide) (by rfl) takesE (da_cons de_int (da_cons (de_var (pv 5)) da_nil))) (da_cons (de_callD d__law_tried hr (by decide) (by rfl) takesE (da_cons de_int (da_cons (de_var (pv 6)) da_nil))) (da_cons (de_callD d_first_bad hr (by decide) (by rfl) takesE (da_cons (de_var (pv 5)) da_nil)) (da_cons (de_callD d_first_bad hr (by decide) (by rfl) takesE (da_cons (de_op op_addD o2_add (de_op op_addD o2_add de_str (de_var (pv 0))) de_str) da_nil)) da_nil))))) (da_cons (de_lst (da_cons (de_var (pv 7)) (da_cons (de_var (pv 10)) (da_cons (de_if (dt_cmp (op_neX hr.units) o2_ne (de_var (pv 1)) (de_lst da_nil) (nomark _)) de_non de_int) (da_cons (de_if (dt_cmp (op_eqX hr.units) o2_eq (de_var (pv 2)) de_str (nomark _)) de_non de_int) da_nil))))) da_nil)))))))))))))))))
abbrev N__law_line_right : List Str := ["value", "due", "which", "told", "e", "wanted", "sign"]
theorem sc__law_line_right : FnScope N__law_line_right ["value"] (defScope st__law_line_right) := ⟨rfl, rfl, rfl, by decide +kernel, rfl, by decide +kernel, by decide +kernel⟩
def b__law_line_right : Sm := (S.seq (S.set 1 (E.and (E.isi .str (E.var 0)) (E.and (E.op ltD (E.fn lenD (A.cons (E.var 0) A.nil)) (E.k (.int 201))) (E.op eqD (E.lc [6] (B.name 6) (I.seq (E.var 0)) (T.val (E.op ninD (E.var 6) (E.call f__law_signs A.nil))) (E.var 6)) (E.lst A.nil))))) (S.seq (S.ite (T.not (T.val (E.call (f__law_is 12) (A.cons (E.lst (A.cons (E.call f_is_line (A.cons (E.var 0) A.nil)) (A.cons (E.call1 f_is_line (E.var 0)) A.nil))) (A.cons (E.lst (A.cons (E.var 1) (A.cons (E.var 1) A.nil))) A.nil))))) (S.ret (E.k (.bl false))) S.pass) (S.seq (S.for (B.name 2) (I.rng1 (E.k (.int 3))) (S.seq (S.try (S.seq (S.set 3 (E.lst (A.cons (E.k (.str "told")) (A.cons (E.ite (T.val (E.op eqD (E.var 2) (E.k (.int 0)))) (E.call f_words_of (A.cons (E.var 0) A.nil)) (E.ite (T.val (E.op eqD (E.var 2) (E.k (.int 1)))) (E.call1 f_words_of (E.var 0)) (E.k .non))) A.nil)))) (S.set 3 (E.ite (T.and (T.val (E.op eqD (E.var 2) (E.k (.int 2)))) (T.val (E.op neD (E.lst (A.cons (E.call f_first_bad (A.cons (E.var 0) A.nil)) A.nil)) (E.lst A.nil)))) (E.lst (A.cons (E.k (.str "let")) A.nil)) (E.var 3)))) 4 okE (hSet "text" "odd" cw_InvalidText 3)) (S.seq (S.set 5 (E.ite (T.val (E.op eqD (E.var 2) (E.k (.int 2)))) (E.lst (A.cons (E.k (.str "let")) A.nil)) (E.ite (T.val (E.var 1)) (E.lst (A.cons (E.k (.str "told")) (A.cons (E.ite (T.val (E.op neD (E.var 0) (E.k (.str "")))) (E.fn tupleD (A.cons (E.meth isS splitD (E.var 0) (A.cons (E.k (.str " ")) A.nil)) A.nil)) (E.tup A.nil)) A.nil))) (E.lst A.nil)))) (S.ite (T.not (T.val (E.call (f__law_is 12) (A.cons (E.var 3) (A.cons (E.ite (T.val (E.var 1)) (E.var 5) (E.lst (A.cons (E.k (.str "text")) (A.cons (E.var 0) A.nil)))) A.nil))))) (S.ret (E.k (.bl false))) S.pass)))) (S.ret (E.k (.bl true))))))
def f__law_line_right : List D → R D := runD 1 7 b__law_line_right
theorem ok__law_line_right (T : Tx P w K mg base C a_ANY a_OPTIONS i_BadWord fd_BadWord i_InvalidText fd_InvalidText i_InvalidTree fd_InvalidTree i_InvalidValue fd_InvalidValue a_BookError) (Fn : Fun K "_law_line_right" "_law_line_right" st__law_line_right fa fd) (hm : mg "_law_line_right" = some (.ref fa)) (d__law_signs : DOk P w K mg base C "_law_signs" [] 1 f__law_signs) (d_is_line : DOk P w K mg base C "is_line" ["value"] 3 f_is_line) (d__law_is : DOk P w K mg base C "_law_is" ["one", "due"] 13 (f__law_is 12)) (d_words_of : DOk P w K mg base C "words_of" ["text"] 4 f_words_of) (d_first_bad : DOk P w K mg base C "first_bad" ["text"] 8 f_first_bad) : DOk P w K mg base C "_law_line_right" ["value"] 14 f__law_line_right :=
  mk_D (N := N__law_line_right) Fn sc__law_line_right hm (fun _ _ _ _ _ _ us hl => match us, hl with | [_], _ => rfl) (fun kn e _ _ _ _ _ _ _ => by cases e; rfl)
      (fun cdv0 A0 outer0 s0 H0 E0 hr => (dss_cons (ds_set (i := 1) (de_and (de_isi (T := .str) (T.fr "isinstance" (by decide)) (T.fr "str" (by decide)) (by rfl) (by rfl) (by decide +kernel) (de_var (pv 0))) (de_and (de_cmp (op_ltD) o2_cmp (de_callB call_len on_len (by rfl) (T.fr "len" (by decide)) boot_len (da_cons (de_var (pv 0)) da_nil)) de_int (nomark _)) (de_one (de_cmp (op_eqX hr.units) o2_eq (de_lc (own := [("sign", 6)]) (g := gName 6) rfl sc__law_line_right.nd (di_seq (de_var (pv 0))) (blkOk_by (N := N__law_line_right) (sc := defScope st__law_line_right) (own := [("sign", 6)]) (by decide +kernel)) (tg_name (by decide)) (fun _ _ _ _ _ => pg_name (i := 6) sc__law_line_right.nd rfl (Or.inl rfl)) (fun _ _ _ _ _ => (dts_one (dt_cmp (op_ninX (hu1 hr)) o2_nin (de_var (pv 6)) (de_call0 d__law_signs hr (by decide) (by rfl) takes0) rfl))) (fun _ _ _ _ _ => (de_var (pv 6)))) (de_lst da_nil) (nomark _))))) sc__law_line_right.nd rfl (Or.inl rfl)) (dss_cons (ds_if (dt_not (dt_val (de_callD d__law_is hr (by decide) (by rfl) takesE (da_cons (de_lst (da_cons (de_callD d_is_line hr (by decide) (by rfl) takesE (da_cons (de_var (pv 0)) da_nil)) (da_cons (de_callN d_is_line hr (by decide) (by rfl) takesE (de_var (pv 0))) da_nil))) (da_cons (de_lst (da_cons (de_var (pv 1)) (da_cons (de_var (pv 1)) da_nil))) da_nil))))) (dss_one (ds_ret de_bl)) dss_nil) (dss_cons (ds_for (vs := [2]) (tg_name (by decide)) (passes_of rfl) rfl (di_rng1 (by rfl) (T.fr "range" (by decide)) de_int) (pg_name (i := 2) sc__law_line_right.nd rfl (Or.inl rfl)) (dss_cons (ds_trySet (i := 4) (j := 3) T.x_InvalidText rfl rfl sc__law_line_right.nd rfl rfl ⟨by rfl, by decide, .inl T.g_BookError⟩ takesE (fun _ _ _ tk ow => (dss_cons (ds_set (i := 3) (de_lst (da_cons de_str (da_cons (de_if (dt_cmp (op_eqX hr.units) o2_eq (de_var (pv 2)) de_int (nomark _)) (de_callD d_words_of hr (by decide) (by rfl) tk (da_cons (de_var (pv 0)) da_nil)) (de_if (dt_cmp (op_eqX hr.units) o2_eq (de_var (pv 2)) de_int (nomark _)) (de_callN d_words_of hr (by decide) (by rfl) tk (de_var (pv 0))) de_non)) da_nil))) sc__law_line_right.nd rfl (Or.inl rfl)) (dss_one (ds_set (i := 3) (de_if (PW.pt (dw_and (dt_cmp (op_eqX hr.units) o2_eq (de_var (pv 2)) de_int (nomark _)) (dw_and1 (dt_cmp (op_neX hr.units) o2_ne (de_lst (da_cons (de_callD d_first_bad hr (by decide) (by rfl) tk (da_cons (de_var (pv 0)) da_nil)) da_nil)) (de_lst da_nil) (nomark _))))) (de_lst (da_cons de_str da_nil)) (de_var (pv 3))) sc__law_line_right.nd rfl (Or.inl rfl))))) (by rfl) (T.fr "isinstance" (by decide)) (by rfl) T.g_InvalidText rfl rfl (by decide)) (dss_cons (ds_set (i := 5) (de_if (dt_cmp (op_eqX hr.units) o2_eq (de_var (pv 2)) de_int (nomark _)) (de_lst (da_cons de_str da_nil)) (de_if (dt_val (de_var (pv 1))) (de_lst (da_cons de_str (da_cons (de_if (dt_cmp (op_neX hr.units) o2_ne (de_var (pv 0)) de_str (nomark _)) (de_callT call_tuple_of on_tuple (by rfl) (T.fr "tuple" (by decide)) (by decide +kernel) (da_cons (de_split (de_var (pv 0)) de_str) da_nil)) (de_tup da_nil)) da_nil))) (de_lst da_nil))) sc__law_line_right.nd rfl (Or.inl rfl)) (dss_one (ds_if (dt_not (dt_val (de_callD d__law_is hr (by decide) (by rfl) takesE (da_cons (de_var (pv 3)) (da_cons (de_if (dt_val (de_var (pv 1))) (de_var (pv 5)) (de_lst (da_cons de_str (da_cons (de_var (pv 0)) da_nil)))) da_nil))))) (dss_one (ds_ret de_bl)) dss_nil))))) (dss_one (ds_ret de_bl))))))
abbrev N__law_take : List Str := ["well", "many", "figure", "by"]
theorem sc__law_take : FnScope N__law_take ["well", "many"] (defScope st__law_take) := ⟨rfl, rfl, rfl, by decide +kernel, rfl, by decide +kernel, by decide +kernel⟩
def b__law_take : SN := (MS.seq (MS.ite (M.val (M.op gtD M.well (M.pure (E.k (.int 0))))) (MS.seq (MS.putTwo 2 (M.fn divmodD (MA.cons M.well (MA.cons (M.pure (E.var 1)) MA.nil)))) (MS.last (S.ret (E.var 2)))) MS.pass) (MS.seq (MS.put (M.op addD M.well (M.pure (E.k (.int 1))))) (MS.seq (MS.set 3 (M.op addD (M.op modD (M.fn intID (MA.cons M.well MA.nil)) (M.pure (E.k (.int 28657)))) (M.pure (E.k (.int 40009))))) (MS.seq (MS.put (M.op modD (M.fn intID (MA.cons (M.op addD (M.op addD (M.op mulD M.well (M.pure (E.var 3))) (M.op mulD (M.pure (E.k (.int 50023))) M.well)) (M.pure (E.k (.int 17)))) MA.nil)) (M.pure (E.k (.int 2147483563))))) (MS.ret (M.op modD (M.fn intID (MA.cons (M.op fdivD M.well (M.pure (E.k (.int 83)))) MA.nil)) (M.pure (E.var 1))))))))
def f__law_take : List D → N D := runN 1 3 b__law_take
theorem ok__law_take (T : Tx P w K mg base C a_ANY a_OPTIONS i_BadWord fd_BadWord i_InvalidText fd_InvalidText i_InvalidTree fd_InvalidTree i_InvalidValue fd_InvalidValue a_BookError) (Fn : Fun K "_law_take" "_law_take" st__law_take fa fd) (hm : mg "_law_take" = some (.ref fa))  : NOk P w K mg base "_law_take" 1 1 f__law_take :=
  mk_N (n0 := "well") (N := N__law_take.tail) (p0 := "well") (ps := ["many"]) Fn sc__law_take hm (fun _ _ _ _ _ _ us hl => match us, hl with | [_, _], _ => rfl)
      (fun cdv0 A0 outer0 s0 H0 E0 hr => (nss_cons (ns_if (nt_cmp (op_gtD) o2_cmp (ne_well (by decide) (pv 0)) (ne_pure (C := C) de_int) (nomark _)) (nss_cons (ns_putTwo (i := 2) rfl (by decide) (pv 0) (by decide) (pg_name (i := 2) sc__law_take.nd rfl (Or.inl rfl)) (ne_callB call_divmod on_divmod (by rfl) (T.fr "divmod" (by decide)) (by decide +kernel) (na_cons (ne_well (by decide) (pv 0)) (na_cons (ne_pure (C := C) (de_var (pv 1))) na_nil))) (hpg := fun t h => pg_tup rfl h) (hps := pgs_cons (pg_sub (pv 0) pe_int set_list) (pgs_cons (pg_name (i := 2) sc__law_take.nd rfl (Or.inl rfl)) pgs_nil))) (nss_last (C := C) (dss_one (ds_ret (de_var (pv 2)))))) nss_nil) (nss_cons (ns_put (by decide) (pv 0) (ne_op op_addD o2_add (ne_well (by decide) (pv 0)) (ne_pure (C := C) de_int))) (nss_cons (ns_set (i := 3) (ne_op op_addD o2_add (ne_op op_mod o2_mod (ne_callT call_int1 on_intI (by rfl) (T.fr "int" (by decide)) (by decide +kernel) (na_cons (ne_well (by decide) (pv 0)) na_nil)) (ne_pure (C := C) de_int)) (ne_pure (C := C) de_int)) (by decide) sc__law_take.nd rfl (Or.inl rfl)) (nss_cons (ns_put (by decide) (pv 0) (ne_op op_mod o2_mod (ne_callT call_int1 on_intI (by rfl) (T.fr "int" (by decide)) (by decide +kernel) (na_cons (ne_op op_addD o2_add (ne_op op_addD o2_add (ne_op op_mulD o2_mul (ne_well (by decide) (pv 0)) (ne_pure (C := C) (de_var (pv 3)))) (ne_op op_mulD o2_mul (ne_pure (C := C) de_int) (ne_well (by decide) (pv 0)))) (ne_pure (C := C) de_int)) na_nil)) (ne_pure (C := C) de_int))) (nss_one (ns_ret (ne_op op_mod o2_mod (ne_callT call_int1 on_intI (by rfl) (T.fr "int" (by decide)) (by decide +kernel) (na_cons (ne_op op_fdiv o2_fdiv (ne_well (by decide) (pv 0)) (ne_pure (C := C) de_int)) na_nil)) (ne_pure (C := C) (de_var (pv 1)))))))))))
abbrev N__law_pick : List Str := ["well", "some"]
theorem sc__law_pick : FnScope N__law_pick ["well", "some"] (defScope st__law_pick) := ⟨rfl, rfl, rfl, by decide +kernel, rfl, by decide +kernel, by decide +kernel⟩
def b__law_pick : SN := (MS.ret (M.op ixD (M.pure (E.var 1)) (M.call f__law_take (A.cons (E.fn lenD (A.cons (E.var 1) A.nil)) A.nil))))
def f__law_pick : List D → N D := runN 1 1 b__law_pick
theorem ok__law_pick (T : Tx P w K mg base C a_ANY a_OPTIONS i_BadWord fd_BadWord i_InvalidText fd_InvalidText i_InvalidTree fd_InvalidTree i_InvalidValue fd_InvalidValue a_BookError) (Fn : Fun K "_law_pick" "_law_pick" st__law_pick fa fd) (hm : mg "_law_pick" = some (.ref fa)) (d__law_take : NOk P w K mg base "_law_take" 1 1 f__law_take) : NOk P w K mg base "_law_pick" 1 2 f__law_pick :=
  mk_N (n0 := "well") (N := N__law_pick.tail) (p0 := "well") (ps := ["some"]) Fn sc__law_pick hm (fun _ _ _ _ _ _ us hl => match us, hl with | [_, _], _ => rfl)
      (fun cdv0 A0 outer0 s0 H0 E0 hr => (nss_one (ns_ret (ne_ix (ne_pure (C := C) (de_var (pv 1))) (ne_call (C := C) d__law_take hr (by decide) (by rfl) takes0 (pv 0) (da_cons (de_callB call_len on_len (by rfl) (T.fr "len" (by decide)) boot_len (da_cons (de_var (pv 1)) da_nil)) da_nil))))))
abbrev N__law_odd : List Str := ["well", "whole", "some"]
theorem sc__law_odd : FnScope N__law_odd ["well"] (defScope st__law_odd) := ⟨rfl, rfl, rfl, by decide +kernel, rfl, by decide +kernel, by decide +kernel⟩
def b__law_odd : SN := (MS.seq (MS.set 1 (M.op subD (M.call f__law_take (A.cons (E.op powD (E.k (.int 10)) (E.k (.int 9))) A.nil)) (M.pure (E.op mulD (E.k (.int 5)) (E.op powD (E.k (.int 10)) (E.k (.int 8))))))) (MS.seq (MS.set 2 (M.pure (E.lst (A.cons (E.k .non) (A.cons (E.k (.bl true)) (A.cons (E.k (.bl false)) (A.cons (E.k (.str "")) (A.cons (E.k (.str "fact p")) (A.cons (E.tup A.nil) (A.cons (E.tup (A.cons (E.k (.int 1)) (A.cons (E.k .non) A.nil))) (A.cons (E.lst A.nil) (A.cons (E.lst (A.cons (E.var 1) A.nil)) (A.cons E.dnew (A.cons (E.disp [((E.k (.str "a")), (E.var 1))]) (A.cons (E.var 1) (A.cons (E.k (.int 0)) (A.cons (E.k (.int 1)) (A.cons (E.un negD (E.k (.int 1))) (A.cons (E.tup (A.cons (E.tup A.nil) (A.cons (E.lst (A.cons (E.var 1) A.nil)) A.nil))) A.nil))))))))))))))))))) (MS.ret (M.call f__law_pick (A.cons (E.var 2) A.nil)))))
def f__law_odd : List D → N D := runN 0 2 b__law_odd
theorem ok__law_odd (T : Tx P w K mg base C a_ANY a_OPTIONS i_BadWord fd_BadWord i_InvalidText fd_InvalidText i_InvalidTree fd_InvalidTree i_InvalidValue fd_InvalidValue a_BookError) (Fn : Fun K "_law_odd" "_law_odd" st__law_odd fa fd) (hm : mg "_law_odd" = some (.ref fa)) (d__law_take : NOk P w K mg base "_law_take" 1 1 f__law_take) (d__law_pick : NOk P w K mg base "_law_pick" 1 2 f__law_pick) : NOk P w K mg base "_law_odd" 0 3 f__law_odd :=
  mk_N (n0 := "well") (N := N__law_odd.tail) (p0 := "well") (ps := []) Fn sc__law_odd hm (fun _ _ _ _ _ _ us hl => match us, hl with | [_], _ => rfl)
      (fun cdv0 A0 outer0 s0 H0 E0 hr => (nss_cons (ns_set (i := 1) (ne_op op_sub o2_sub (ne_call (C := C) d__law_take hr (by decide) (by rfl) takes0 (pv 0) (da_cons (de_op op_pow o2_pow de_int de_int) da_nil)) (ne_pure (C := C) (de_op op_mulD o2_mul de_int (de_op op_pow o2_pow de_int de_int)))) (by decide) sc__law_odd.nd rfl (Or.inl rfl)) (nss_cons (ns_set (i := 2) (ne_pure (C := C) (de_lst (da_cons de_non (da_cons de_bl (da_cons de_bl (da_cons de_str (da_cons de_str (da_cons (de_tup da_nil) (da_cons (de_tup (da_cons de_int (da_cons de_non da_nil))) (da_cons (de_lst da_nil) (da_cons (de_lst (da_cons (de_var (pv 1)) da_nil)) (da_cons de_dnew (da_cons (de_disp [((E.k (.str "a")), (E.var 1))] (pps_cons de_str (de_var (pv 1)) pps_nil)) (da_cons (de_var (pv 1)) (da_cons de_int (da_cons de_int (da_cons (de_un un_neg o1_neg de_int) (da_cons (de_tup (da_cons (de_tup da_nil) (da_cons (de_lst (da_cons (de_var (pv 1)) da_nil)) da_nil))) da_nil)))))))))))))))))) (by decide) sc__law_odd.nd rfl (Or.inl rfl)) (nss_one (ns_ret (ne_call (C := C) d__law_pick hr (by decide) (by rfl) takes0 (pv 0) (da_cons (de_var (pv 2)) da_nil)))))))
abbrev N__law_drawn_word : List Str := ["well", "some", "at"]
theorem sc__law_drawn_word : FnScope N__law_drawn_word ["well"] (defScope st__law_drawn_word) := ⟨rfl, rfl, rfl, by decide +kernel, rfl, by decide +kernel, by decide +kernel⟩
def b__law_drawn_word : SN := (MS.seq (MS.set 1 (M.pure (E.lst (A.cons (E.k (.str "0")) (A.cons (E.k (.str "-0")) (A.cons (E.k (.str "00")) (A.cons (E.k (.str "012")) (A.cons (E.k (.str "-1")) (A.cons (E.k (.str "-")) (A.cons (E.k (.str "1234567")) (A.cons (E.k (.str "123456")) (A.cons (E.k (.str "-123456")) (A.cons (E.k (.str "--1")) (A.cons (E.k (.str "1-")) (A.cons (E.k (.str ".")) (A.cons (E.k (.str ".a")) (A.cons (E.k (.str ".abcdef")) (A.cons (E.k (.str ".abcdefg")) (A.cons (E.k (.str ".A")) (A.cons (E.k (.str ".1")) (A.cons (E.k (.str "..")) (A.cons (E.k (.str "a")) (A.cons (E.k (.str "abcdef")) (A.cons (E.k (.str "abcdefg")) (A.cons (E.k (.str "A")) (A.cons (E.k (.str "Z")) (A.cons (E.k (.str "AB")) (A.cons (E.k (.str "aB")) A.nil)))))))))))))))))))))))))))) (MS.seq (MS.set 1 (M.pure (E.op addD (E.var 1) (E.lst (A.cons (E.k (.str "facts")) (A.cons (E.k (.str "rules")) (A.cons (E.k (.str "iff")) (A.cons (E.k (.str "nota")) (A.cons (E.k (.str "asks")) (A.cons (E.k (.str "(")) (A.cons (E.k (.str ")")) (A.cons (E.k (.str ",")) (A.cons (E.k (.str "=")) (A.cons (E.k (.str "<")) (A.cons (E.k (.str ">")) (A.cons (E.k (.str "&")) (A.cons (E.k (.str "+")) (A.cons (E.k (.str "((")) (A.cons (E.k (.str "")) (A.cons (E.k (.str "1a")) (A.cons (E.k (.str "a1")) (A.cons (E.k (.str "red")) (A.cons (E.k (.str "\n")) (A.cons (E.k (.str "~")) (A.cons (E.k (.str "&&")) (A.cons (E.k (.str "+1")) A.nil)))))))))))))))))))))))))) (MS.seq (MS.ite (M.val (M.op eqD (M.call f__law_take (A.cons (E.k (.int 3)) A.nil)) (M.pure (E.k (.int 0))))) (MS.ret (M.join "" (M.lc [2] (B.name 2) (M.rng (M.op addD (M.pure (E.k (.int 1))) (M.call f__law_take (A.cons (E.k (.int 7)) A.nil)))) (M.call f__law_pick (A.cons (E.lst (A.cons (E.k (.str "0")) (A.cons (E.k (.str "1")) (A.cons (E.k (.str "9")) (A.cons (E.k (.str "-")) (A.cons (E.k (.str ".")) (A.cons (E.k (.str "a")) (A.cons (E.k (.str "z")) (A.cons (E.k (.str "K")) A.nil))))))))) A.nil))))) MS.pass) (MS.ret (M.call f__law_pick (A.cons (E.op addD (E.var 1) (E.call f__law_keys A.nil)) A.nil))))))
def f__law_drawn_word : List D → N D := runN 0 2 b__law_drawn_word
theorem ok__law_drawn_word (T : Tx P w K mg base C a_ANY a_OPTIONS i_BadWord fd_BadWord i_InvalidText fd_InvalidText i_InvalidTree fd_InvalidTree i_InvalidValue fd_InvalidValue a_BookError) (Fn : Fun K "_law_drawn_word" "_law_drawn_word" st__law_drawn_word fa fd) (hm : mg "_law_drawn_word" = some (.ref fa)) (d__law_take : NOk P w K mg base "_law_take" 1 1 f__law_take) (d__law_pick : NOk P w K mg base "_law_pick" 1 2 f__law_pick) (d__law_keys : DOk P w K mg base C "_law_keys" [] 1 f__law_keys) : NOk P w K mg base "_law_drawn_word" 0 3 f__law_drawn_word :=
  mk_N (n0 := "well") (N := N__law_drawn_word.tail) (p0 := "well") (ps := []) Fn sc__law_drawn_word hm (fun _ _ _ _ _ _ us hl => match us, hl with | [_], _ => rfl)
      (fun cdv0 A0 outer0 s0 H0 E0 hr => (nss_cons (ns_set (i := 1) (ne_pure (C := C) (de_lst (da_cons de_str (da_cons de_str (da_cons de_str (da_cons de_str (da_cons de_str (da_cons de_str (da_cons de_str (da_cons de_str (da_cons de_str (da_cons de_str (da_cons de_str (da_cons de_str (da_cons de_str (da_cons de_str (da_cons de_str (da_cons de_str (da_cons de_str (da_cons de_str (da_cons de_str (da_cons de_str (da_cons de_str (da_cons de_str (da_cons de_str (da_cons de_str (da_cons de_str da_nil))))))))))))))))))))))))))) (by decide) sc__law_drawn_word.nd rfl (Or.inl rfl)) (nss_cons (ns_set (i := 1) (ne_pure (C := C) (de_op op_addD o2_add (de_var (pv 1)) (de_lst (da_cons de_str (da_cons de_str (da_cons de_str (da_cons de_str (da_cons de_str (da_cons de_str (da_cons de_str (da_cons de_str (da_cons de_str (da_cons de_str (da_cons de_str (da_cons de_str (da_cons de_str (da_cons de_str (da_cons de_str (da_cons de_str (da_cons de_str (da_cons de_str (da_cons de_str (da_cons de_str (da_cons de_str (da_cons de_str da_nil))))))))))))))))))))))))) (by decide) sc__law_drawn_word.nd rfl (Or.inl rfl)) (nss_cons (ns_if (nt_cmp (op_eqX hr.units) o2_eq (ne_call (C := C) d__law_take hr (by decide) (by rfl) takes0 (pv 0) (da_cons de_int da_nil)) (ne_pure (C := C) de_int) (nomark _)) (nss_one (ns_ret (ne_join (ne_lc (own := [("at", 2)]) (g := gName 2) rfl sc__law_drawn_word.nd (ni_rng1 (by rfl) (T.fr "range" (by decide)) (ne_op op_addD o2_add (ne_pure (C := C) de_int) (ne_call (C := C) d__law_take hr (by decide) (by rfl) takes0 (pv 0) (da_cons de_int da_nil)))) (blkOk_by (N := N__law_drawn_word) (sc := defScope st__law_drawn_word) (own := [("at", 2)]) (by decide +kernel)) (tg_name (by decide)) (by decide) (fun _ _ _ _ _ => pg_name (i := 2) sc__law_drawn_word.nd rfl (Or.inl rfl)) (fun _ _ _ _ _ => (ne_call (C := C) d__law_pick hr (by decide) (by rfl) takes0 (pv 0) (da_cons (de_lst (da_cons de_str (da_cons de_str (da_cons de_str (da_cons de_str (da_cons de_str (da_cons de_str (da_cons de_str (da_cons de_str da_nil))))))))) da_nil))))))) nss_nil) (nss_one (ns_ret (ne_call (C := C) d__law_pick hr (by decide) (by rfl) takes0 (pv 0) (da_cons (de_op op_addD o2_add (de_var (pv 1)) (de_call0 d__law_keys hr (by decide) (by rfl) takes0)) da_nil))))))))
abbrev N__law_values_right : List Str := ["well", "value", "told", "e"]
theorem sc__law_values_right : FnScope N__law_values_right ["well"] (defScope st__law_values_right) := ⟨rfl, rfl, rfl, by decide +kernel, rfl, by decide +kernel, by decide +kernel⟩
def b__law_values_right : SN := (MS.forLast (B.name 1) (M.seq (M.lst (MA.cons (M.pure (E.k (.int 1000000))) (MA.cons (M.pure (E.un negD (E.k (.int 1000000)))) (MA.cons (M.pure (E.op powD (E.k (.int 10)) (E.k (.int 20)))) (MA.cons (M.pure (E.k (.bl true))) (MA.cons (M.pure (E.k .non)) (MA.cons (M.pure (E.k (.str "A"))) (MA.cons (M.pure (E.k (.str "abcdefg"))) (MA.cons (M.pure (E.k (.str "a b"))) (MA.cons (M.pure (E.tup (A.cons (E.k (.int 1)) A.nil))) (MA.cons (M.pure (E.lst (A.cons (E.k (.int 1)) A.nil))) (MA.cons (M.pure E.dnew) (MA.cons (M.call f__law_pick (A.cons (E.lst (A.cons (E.k (.str "1")) (A.cons (E.k (.str ".")) (A.cons (E.k (.str "a1")) A.nil)))) A.nil)) MA.nil)))))))))))))) (S.seq (S.try (S.set 2 (E.lst (A.cons (E.k (.str "told")) (A.cons (E.call f_word_of (A.cons (E.var 1) A.nil)) A.nil)))) 3 okE (hSet "value" "odd" cw_InvalidValue 2)) (S.ite (T.not (T.val (E.call (f__law_is 12) (A.cons (E.var 2) (A.cons (E.lst (A.cons (E.k (.str "value")) (A.cons (E.var 1) A.nil))) A.nil))))) (S.ret (E.k (.bl false))) S.pass)) (S.seq (S.for (B.name 1) (I.seq (E.lst (A.cons (E.k .non) (A.cons (E.k (.int 5)) (A.cons (E.k (.bl true)) (A.cons (E.tup (A.cons (E.k (.str "a")) A.nil)) (A.cons (E.lst (A.cons (E.k (.str "a")) A.nil)) (A.cons E.dnew A.nil)))))))) (S.seq (S.try (S.set 2 (E.lst (A.cons (E.k (.str "told")) (A.cons (E.call f_word_kind (A.cons (E.var 1) A.nil)) A.nil)))) 3 okE (hSet "text" "odd" cw_InvalidText 2)) (S.ite (T.not (T.val (E.call (f__law_is 12) (A.cons (E.var 2) (A.cons (E.lst (A.cons (E.k (.str "text")) (A.cons (E.var 1) A.nil))) A.nil))))) (S.ret (E.k (.bl false))) S.pass))) (S.ret (E.call (f__law_is 12) (A.cons (E.lst (A.cons (E.call f_word_of (A.cons (E.k (.str "")) A.nil)) (A.cons (E.call f_word_of (A.cons (E.k (.int 0)) A.nil)) (A.cons (E.call f_word_of (A.cons (E.un negD (E.k (.int 999999))) A.nil)) (A.cons (E.call f_word_of (A.cons (E.k (.str "zzzzzz")) A.nil)) (A.cons (E.call f_value_of (A.cons (E.k (.str ".")) A.nil)) A.nil)))))) (A.cons (E.lst (A.cons (E.k (.str ".")) (A.cons (E.k (.str "0")) (A.cons (E.k (.str "-999999")) (A.cons (E.k (.str ".zzzzzz")) (A.cons (E.k (.str "")) A.nil)))))) A.nil))))))
def f__law_values_right : List D → N D := runN 0 3 b__law_values_right
theorem ok__law_values_right (T : Tx P w K mg base C a_ANY a_OPTIONS i_BadWord fd_BadWord i_InvalidText fd_InvalidText i_InvalidTree fd_InvalidTree i_InvalidValue fd_InvalidValue a_BookError) (Fn : Fun K "_law_values_right" "_law_values_right" st__law_values_right fa fd) (hm : mg "_law_values_right" = some (.ref fa)) (d__law_pick : NOk P w K mg base "_law_pick" 1 2 f__law_pick) (d_word_of : DOk P w K mg base C "word_of" ["value"] 4 f_word_of) (d__law_is : DOk P w K mg base C "_law_is" ["one", "due"] 13 (f__law_is 12)) (d_word_kind : DOk P w K mg base C "word_kind" ["word"] 5 f_word_kind) (d_value_of : DOk P w K mg base C "value_of" ["word"] 5 f_value_of) : NOk P w K mg base "_law_values_right" 0 14 f__law_values_right :=
  mk_N (n0 := "well") (N := N__law_values_right.tail) (p0 := "well") (ps := []) Fn sc__law_values_right hm (fun _ _ _ _ _ _ us hl => match us, hl with | [_], _ => rfl)
      (fun cdv0 A0 outer0 s0 H0 E0 hr => (nss_for (C := C) (vs := [1]) (tg_name (by decide)) (passes_of rfl) rfl (ni_seq (ne_lst (na_cons (ne_pure (C := C) de_int) (na_cons (ne_pure (C := C) (de_un un_neg o1_neg de_int)) (na_cons (ne_pure (C := C) (de_op op_pow o2_pow de_int de_int)) (na_cons (ne_pure (C := C) de_bl) (na_cons (ne_pure (C := C) de_non) (na_cons (ne_pure (C := C) de_str) (na_cons (ne_pure (C := C) de_str) (na_cons (ne_pure (C := C) de_str) (na_cons (ne_pure (C := C) (de_tup (da_cons de_int da_nil))) (na_cons (ne_pure (C := C) (de_lst (da_cons de_int da_nil))) (na_cons (ne_pure (C := C) de_dnew) (na_cons (ne_call (C := C) d__law_pick hr (by decide) (by rfl) takes0 (pv 0) (da_cons (de_lst (da_cons de_str (da_cons de_str (da_cons de_str da_nil)))) da_nil)) na_nil)))))))))))))) (pg_name (i := 1) sc__law_values_right.nd rfl (Or.inl rfl)) (dss_cons (ds_trySet (i := 3) (j := 2) T.x_InvalidValue rfl rfl sc__law_values_right.nd rfl rfl ⟨by rfl, by decide, .inl T.g_BookError⟩ takes0 (fun _ _ _ tk ow => (dss_one (ds_set (i := 2) (de_lst (da_cons de_str (da_cons (de_callD d_word_of hr (by decide) (by rfl) tk (da_cons (de_var (pv 1)) da_nil)) da_nil))) sc__law_values_right.nd rfl (Or.inl rfl)))) (by rfl) (T.fr "isinstance" (by decide)) (by rfl) T.g_InvalidValue rfl rfl (by decide)) (dss_one (ds_if (dt_not (dt_val (de_callD d__law_is hr (by decide) (by rfl) takes0 (da_cons (de_var (pv 2)) (da_cons (de_lst (da_cons de_str (da_cons (de_var (pv 1)) da_nil))) da_nil))))) (dss_one (ds_ret de_bl)) dss_nil))) (dss_cons (ds_for (vs := [1]) (tg_name (by decide)) (passes_of rfl) rfl (di_seq (de_lst (da_cons de_non (da_cons de_int (da_cons de_bl (da_cons (de_tup (da_cons de_str da_nil)) (da_cons (de_lst (da_cons de_str da_nil)) (da_cons de_dnew da_nil)))))))) (pg_name (i := 1) sc__law_values_right.nd rfl (Or.inl rfl)) (dss_cons (ds_trySet (i := 3) (j := 2) T.x_InvalidText rfl rfl sc__law_values_right.nd rfl rfl ⟨by rfl, by decide, .inl T.g_BookError⟩ takes0 (fun _ _ _ tk ow => (dss_one (ds_set (i := 2) (de_lst (da_cons de_str (da_cons (de_callD d_word_kind hr (by decide) (by rfl) tk (da_cons (de_var (pv 1)) da_nil)) da_nil))) sc__law_values_right.nd rfl (Or.inl rfl)))) (by rfl) (T.fr "isinstance" (by decide)) (by rfl) T.g_InvalidText rfl rfl (by decide)) (dss_one (ds_if (dt_not (dt_val (de_callD d__law_is hr (by decide) (by rfl) takes0 (da_cons (de_var (pv 2)) (da_cons (de_lst (da_cons de_str (da_cons (de_var (pv 1)) da_nil))) da_nil))))) (dss_one (ds_ret de_bl)) dss_nil)))) (dss_one (ds_ret (de_callD d__law_is hr (by decide) (by rfl) takes0 (da_cons (de_lst (da_cons (de_callD d_word_of hr (by decide) (by rfl) takes0 (da_cons de_str da_nil)) (da_cons (de_callD d_word_of hr (by decide) (by rfl) takes0 (da_cons de_int da_nil)) (da_cons (de_callD d_word_of hr (by decide) (by rfl) takes0 (da_cons (de_un un_neg o1_neg de_int) da_nil)) (da_cons (de_callD d_word_of hr (by decide) (by rfl) takes0 (da_cons de_str da_nil)) (da_cons (de_callD d_value_of hr (by decide) (by rfl) takes0 (da_cons de_str da_nil)) da_nil)))))) (da_cons (de_lst (da_cons de_str (da_cons de_str (da_cons de_str (da_cons de_str (da_cons de_str da_nil)))))) da_nil))))))))
abbrev N__law_right : List Str := ["well", "words", "text", "some", "lap", "word", "value"]
theorem sc__law_right : FnScope N__law_right ["well"] (defScope st__law_right) := ⟨rfl, rfl, rfl, by decide +kernel, rfl, by decide +kernel, by decide +kernel⟩
def b__law_right : SN := (MS.seq (MS.set 1 (M.lc [4] (B.name 4) (M.rng (M.pure (E.k (.int 40)))) (M.call f__law_drawn_word A.nil))) (MS.seq (MS.ite (M.pure (T.val (E.op neD (E.lc [5] (B.name 5) (I.seq (E.var 1)) (T.not (T.val (E.call f__law_word_right (A.cons (E.var 5) A.nil)))) (E.var 5)) (E.lst A.nil)))) (MS.last (S.ret (E.k (.bl false)))) MS.pass) (MS.seq (MS.set 2 (M.pure (E.meth isS joinD (E.k (.str " ")) (A.cons (E.slice (E.var 1) O.no (O.some (E.k (.int 8)))) A.nil)))) (MS.seq (MS.set 3 (M.lst (MA.cons (M.pure (E.var 2)) (MA.cons (M.pure (E.slice (E.var 2) O.no (O.some (E.un negD (E.k (.int 1)))))) (MA.cons (M.pure (E.op addD (E.k (.str " ")) (E.var 2))) (MA.cons (M.pure (E.op addD (E.var 2) (E.k (.str " ")))) (MA.cons (M.pure (E.op addD (E.var 2) (E.k (.str ";")))) (MA.cons (M.pure (E.k (.str ""))) (MA.cons (M.pure (E.k (.str " "))) (MA.cons (M.pure (E.op mulD (E.k (.str "a")) (E.k (.int 200)))) (MA.cons (M.pure (E.op mulD (E.k (.str "a")) (E.k (.int 201)))) (MA.cons (M.pure (E.k (.str "  "))) (MA.cons (M.pure (E.fn tupleD (A.cons (E.var 1) A.nil))) (MA.cons (M.pure (E.k .non)) (MA.cons (M.pure (E.k (.int 5))) (MA.cons (M.pure (E.lst (A.cons (E.k (.str "a")) A.nil))) (MA.cons (M.pure (E.k (.str "a\n"))) (MA.cons (M.call f__law_odd A.nil) MA.nil)))))))))))))))))) (MS.ret (M.and (E.op eqD (E.lc [6] (B.name 6) (I.seq (E.var 3)) (T.not (T.val (E.call f__law_line_right (A.cons (E.var 6) A.nil)))) (E.var 6)) (E.lst A.nil)) (M.call f__law_values_right A.nil)))))))
def f__law_right : List D → N D := runN 0 6 b__law_right
theorem ok__law_right (T : Tx P w K mg base C a_ANY a_OPTIONS i_BadWord fd_BadWord i_InvalidText fd_InvalidText i_InvalidTree fd_InvalidTree i_InvalidValue fd_InvalidValue a_BookError) (Fn : Fun K "_law_right" "_law_right" st__law_right fa fd) (hm : mg "_law_right" = some (.ref fa)) (d__law_drawn_word : NOk P w K mg base "_law_drawn_word" 0 3 f__law_drawn_word) (d__law_word_right : DOk P w K mg base C "_law_word_right" ["word"] 14 f__law_word_right) (d__law_odd : NOk P w K mg base "_law_odd" 0 3 f__law_odd) (d__law_values_right : NOk P w K mg base "_law_values_right" 0 14 f__law_values_right) (d__law_line_right : DOk P w K mg base C "_law_line_right" ["value"] 14 f__law_line_right) : NOk P w K mg base "_law_right" 0 15 f__law_right :=
  mk_N (n0 := "well") (N := N__law_right.tail) (p0 := "well") (ps := []) Fn sc__law_right hm (fun _ _ _ _ _ _ us hl => match us, hl with | [_], _ => rfl)
      (fun cdv0 A0 outer0 s0 H0 E0 hr => (nss_cons (ns_setLc (i := 1) (own := [("lap", 4)]) (g := gName 4) rfl (by decide) sc__law_right.nd rfl rfl (sw_true rfl rfl rfl (by decide +kernel)) (ni_rng1 (by rfl) (T.fr "range" (by decide)) (ne_pure (C := C) de_int)) (blkOk_by (N := N__law_right) (sc := defScope st__law_right) (own := [("lap", 4)]) (by decide +kernel)) (tg_name (by decide)) (by decide) (fun _ _ _ _ _ => pg_name (i := 4) sc__law_right.nd rfl (Or.inl rfl)) (fun _ _ _ _ _ => (ne_call (C := C) d__law_drawn_word hr (by decide) (by rfl) takes0 (pv 0) da_nil))) (nss_cons (ns_if (nt_pure (C := C) (dt_cmp (op_neX hr.units) o2_ne (de_lc (own := [("word", 5)]) (g := gName 5) rfl sc__law_right.nd (di_seq (de_var (pv 1))) (blkOk_by (N := N__law_right) (sc := defScope st__law_right) (own := [("word", 5)]) (by decide +kernel)) (tg_name (by decide)) (fun _ _ _ _ _ => pg_name (i := 5) sc__law_right.nd rfl (Or.inl rfl)) (fun _ _ _ _ _ => (dts_one (dt_not (dt_val (de_callD d__law_word_right hr (by decide) (by rfl) takes0 (da_cons (de_var (pv 5)) da_nil)))))) (fun _ _ _ _ _ => (de_var (pv 5)))) (de_lst da_nil) (nomark _))) (nss_last (C := C) (dss_one (ds_ret de_bl))) nss_nil) (nss_cons (ns_set (i := 2) (ne_pure (C := C) (de_join de_str (de_slice (de_var (pv 1)) do_none (do_some de_int)))) (by decide) sc__law_right.nd rfl (Or.inl rfl)) (nss_cons (ns_set (i := 3) (ne_lst (na_cons (ne_pure (C := C) (de_var (pv 2))) (na_cons (ne_pure (C := C) (de_slice (de_var (pv 2)) do_none (do_some (de_un un_neg o1_neg de_int)))) (na_cons (ne_pure (C := C) (de_op op_addD o2_add de_str (de_var (pv 2)))) (na_cons (ne_pure (C := C) (de_op op_addD o2_add (de_var (pv 2)) de_str)) (na_cons (ne_pure (C := C) (de_op op_addD o2_add (de_var (pv 2)) de_str)) (na_cons (ne_pure (C := C) de_str) (na_cons (ne_pure (C := C) de_str) (na_cons (ne_pure (C := C) (de_op op_mulD o2_mul de_str de_int)) (na_cons (ne_pure (C := C) (de_op op_mulD o2_mul de_str de_int)) (na_cons (ne_pure (C := C) de_str) (na_cons (ne_pure (C := C) (de_callT call_tuple_of on_tuple (by rfl) (T.fr "tuple" (by decide)) (by decide +kernel) (da_cons (de_var (pv 1)) da_nil))) (na_cons (ne_pure (C := C) de_non) (na_cons (ne_pure (C := C) de_int) (na_cons (ne_pure (C := C) (de_lst (da_cons de_str da_nil))) (na_cons (ne_pure (C := C) de_str) (na_cons (ne_call (C := C) d__law_odd hr (by decide) (by rfl) takes0 (pv 0) da_nil) na_nil))))))))))))))))) (by decide) sc__law_right.nd rfl (Or.inl rfl)) (nss_one (ns_ret (ne_and (C := C) (de_cmp (op_eqX hr.units) o2_eq (de_lc (own := [("value", 6)]) (g := gName 6) rfl sc__law_right.nd (di_seq (de_var (pv 3))) (blkOk_by (N := N__law_right) (sc := defScope st__law_right) (own := [("value", 6)]) (by decide +kernel)) (tg_name (by decide)) (fun _ _ _ _ _ => pg_name (i := 6) sc__law_right.nd rfl (Or.inl rfl)) (fun _ _ _ _ _ => (dts_one (dt_not (dt_val (de_callD d__law_line_right hr (by decide) (by rfl) takes0 (da_cons (de_var (pv 6)) da_nil)))))) (fun _ _ _ _ _ => (de_var (pv 6)))) (de_lst da_nil) (nomark _)) (ne_one (ne_call (C := C) d__law_values_right hr (by decide) (by rfl) takes0 (pv 0) da_nil))))))))))
abbrev N__law_well : List Str := ["script", "turn", "own", "stir", "cell"]
theorem sc__law_well : FnScope N__law_well ["script", "turn"] (defScope st__law_well) := ⟨rfl, rfl, rfl, by decide +kernel, rfl, by decide +kernel, by decide +kernel⟩
def b0__law_well : Sm := (S.set 2 (E.ite (T.val (E.op ltD (E.var 1) (E.fn lenD (A.cons (E.var 0) A.nil)))) (E.fn intID (A.cons (E.op ixD (E.var 0) (E.var 1)) A.nil)) (E.op addD (E.op addD (E.op mulD (E.k (.int 9311)) (E.var 1)) (E.op modD (E.fn intID (A.cons (E.fn sumD (A.cons (E.slice (E.var 0) O.no (O.some (E.k (.int 2)))) A.nil)) A.nil)) (E.k (.int 1000003)))) (E.k (.int 71)))))
def b1__law_well : Sm := (S.set 3 (E.op addD (E.k (.int 50021)) (E.op mulD (E.k (.int 1013)) (E.var 1))))
def b2__law_well : Sm := (S.for (B.name 4) (I.seq (E.op addD (E.slice (E.var 0) O.no (O.some (E.k (.int 5)))) (E.lst (A.cons (E.var 2) A.nil)))) (S.set 3 (E.op modD (E.fn intID (A.cons (E.op addD (E.op addD (E.op mulD (E.var 3) (E.k (.int 45013))) (E.op modD (E.fn intID (A.cons (E.var 4) A.nil)) (E.k (.int 2147483399)))) (E.k (.int 37))) A.nil)) (E.k (.int 2147483563)))))
def g__law_well : DEnv → R (List D) := (A.cons (E.ite (T.or (T.val (E.op ltD (E.var 2) (E.k (.int 0)))) (T.val (E.op geD (E.var 2) (E.op powD (E.k (.int 10)) (E.k (.int 17)))))) (E.op modD (E.fn intID (A.cons (E.fn absD (A.cons (E.var 2) A.nil)) A.nil)) (E.op powD (E.k (.int 10)) (E.k (.int 60)))) (E.k (.int 0))) (A.cons (E.var 3) (A.cons (E.k (.int 0)) A.nil)))
def f__law_well : List D → R (List D) := f_well 2 5 b0__law_well b1__law_well b2__law_well g__law_well
theorem ok__law_well (T : Tx P w K mg base C a_ANY a_OPTIONS i_BadWord fd_BadWord i_InvalidText fd_InvalidText i_InvalidTree fd_InvalidTree i_InvalidValue fd_InvalidValue a_BookError) (Fn : Fun K "_law_well" "_law_well" st__law_well fa fd) (hm : mg "_law_well" = some (.ref fa))  : WOk P w K mg base "_law_well" 2 1 f__law_well :=
  mk_W (C := C) (N := N__law_well) Fn sc__law_well hm (fun _ _ _ _ _ _ us hl => match us, hl with | [_, _], _ => rfl) rfl
      (fun cdv0 A0 outer0 s0 H0 E0 hr => (ds_set (i := 2) (de_if (dt_cmp (op_ltD) o2_cmp (de_var (pv 1)) (de_callB call_len on_len (by rfl) (T.fr "len" (by decide)) boot_len (da_cons (de_var (pv 0)) da_nil)) (nomark _)) (de_callT call_int1 on_intI (by rfl) (T.fr "int" (by decide)) (by decide +kernel) (da_cons (de_ix (de_var (pv 0)) (de_var (pv 1))) da_nil)) (de_op op_addD o2_add (de_op op_addD o2_add (de_op op_mulD o2_mul de_int (de_var (pv 1))) (de_op op_mod o2_mod (de_callT call_int1 on_intI (by rfl) (T.fr "int" (by decide)) (by decide +kernel) (da_cons (de_callB (cr_sum rfl) on_sum (by rfl) (T.fr "sum" (by decide)) (by decide +kernel) (da_cons (de_slice (de_var (pv 0)) do_none (do_some de_int)) da_nil)) da_nil)) de_int)) de_int)) sc__law_well.nd rfl (Or.inl rfl)))
      (fun cdv0 A0 outer0 s0 H0 E0 hr => (ds_set (i := 3) (de_op op_addD o2_add de_int (de_op op_mulD o2_mul de_int (de_var (pv 1)))) sc__law_well.nd rfl (Or.inl rfl)))
      (fun cdv0 A0 outer0 s0 H0 E0 hr => (ds_for (vs := [4]) (tg_name (by decide)) (passes_of rfl) rfl (di_seq (de_op op_addD o2_add (de_slice (de_var (pv 0)) do_none (do_some de_int)) (de_lst (da_cons (de_var (pv 2)) da_nil)))) (pg_name (i := 4) sc__law_well.nd rfl (Or.inl rfl)) (dss_one (ds_set (i := 3) (de_op op_mod o2_mod (de_callT call_int1 on_intI (by rfl) (T.fr "int" (by decide)) (by decide +kernel) (da_cons (de_op op_addD o2_add (de_op op_addD o2_add (de_op op_mulD o2_mul (de_var (pv 3)) de_int) (de_op op_mod o2_mod (de_callT call_int1 on_intI (by rfl) (T.fr "int" (by decide)) (by decide +kernel) (da_cons (de_var (pv 4)) da_nil)) de_int)) de_int) da_nil)) de_int) sc__law_well.nd rfl (Or.inl rfl)))))
      (fun cdv0 A0 outer0 s0 H0 E0 hr => (da_cons (de_if (PW.pt (dw_or (dt_cmp (op_ltD) o2_cmp (de_var (pv 2)) de_int (nomark _)) (dw_or1 (dt_cmp (op_geD) o2_cmp (de_var (pv 2)) (de_op op_pow o2_pow de_int de_int) (nomark _))))) (de_op op_mod o2_mod (de_callT call_int1 on_intI (by rfl) (T.fr "int" (by decide)) (by decide +kernel) (da_cons (de_callB call_abs on_abs (by rfl) (T.fr "abs" (by decide)) (by decide +kernel) (da_cons (de_var (pv 2)) da_nil)) da_nil)) (de_op op_pow o2_pow de_int de_int)) de_int) (da_cons (de_var (pv 3)) (da_cons de_int da_nil))))
abbrev N_law : List Str := ["script", "word", "turn"]
theorem sc_law : FnScope N_law ["script"] (defScope st_law) := ⟨rfl, rfl, rfl, by decide +kernel, rfl, by decide +kernel, by decide +kernel⟩
def b_law : Sm := (S.seq (S.ite (T.val (E.op neD (E.lc [1] (B.name 1) (I.seq (E.op addD (E.call f__law_keys A.nil) (E.lst (A.cons (E.k (.str "0")) (A.cons (E.k (.str "-0")) (A.cons (E.k (.str ".")) (A.cons (E.k (.str "-")) (A.cons (E.k (.str "(")) (A.cons (E.k (.str "=")) (A.cons (E.k (.str "abcdef")) (A.cons (E.k (.str "abcdefg")) (A.cons (E.k (.str "999999")) (A.cons (E.k (.str "1000000")) (A.cons (E.k (.str "A")) (A.cons (E.k (.str "AB")) (A.cons (E.k (.str "&")) (A.cons (E.k (.str "+")) A.nil))))))))))))))))) (T.not (T.val (E.call f__law_word_right (A.cons (E.var 1) A.nil)))) (E.var 1)) (E.lst A.nil))) (S.ret (E.k (.bl false))) S.pass) (S.ret (E.fn allD (A.cons (E.lc [2] (B.name 2) (I.rng1 (E.fn maxD (A.cons (E.k (.int 2)) (A.cons (E.fn minD (A.cons (E.fn lenD (A.cons (E.var 0) A.nil)) (A.cons (E.k (.int 3)) A.nil))) A.nil)))) T.yes (E.call (f_wr f__law_well 2) (A.cons (E.var 0) (A.cons (E.var 2) A.nil)))) A.nil))))
def f_law : List D → R D := runD 1 3 b_law
theorem ok_law (T : Tx P w K mg base C a_ANY a_OPTIONS i_BadWord fd_BadWord i_InvalidText fd_InvalidText i_InvalidTree fd_InvalidTree i_InvalidValue fd_InvalidValue a_BookError) (Fn : Fun K "law" "law" st_law fa fd) (hm : mg "law" = some (.ref fa)) (d__law_keys : DOk P w K mg base C "_law_keys" [] 1 f__law_keys) (d__law_word_right : DOk P w K mg base C "_law_word_right" ["word"] 14 f__law_word_right) (d__law_right : NOk P w K mg base "_law_right" 0 15 f__law_right) (d__law_well : WOk P w K mg base "_law_well" 2 1 f__law_well) (hR : (f__law_right []).ok ∧ ∀ d, (f__law_right []).out d → d = .bl true) : FnOk P w K mg base (L2.CX P w) 16 fa fd ["script"] (spD C K 1 f_law) :=
  fn_d (N := N_law) Fn sc_law (fun cdv0 A0 outer0 s0 H0 E0 hr => (dss_cons (ds_if (dt_cmp (op_neX hr.units) o2_ne (de_lc (own := [("word", 1)]) (g := gName 1) rfl sc_law.nd (di_seq (de_op op_addD o2_add (de_call0 d__law_keys hr (by decide) (by rfl) takesE) (de_lst (da_cons de_str (da_cons de_str (da_cons de_str (da_cons de_str (da_cons de_str (da_cons de_str (da_cons de_str (da_cons de_str (da_cons de_str (da_cons de_str (da_cons de_str (da_cons de_str (da_cons de_str (da_cons de_str da_nil))))))))))))))))) (blkOk_by (N := N_law) (sc := defScope st_law) (own := [("word", 1)]) (by decide +kernel)) (tg_name (by decide)) (fun _ _ _ _ _ => pg_name (i := 1) sc_law.nd rfl (Or.inl rfl)) (fun _ _ _ _ _ => (dts_one (dt_not (dt_val (de_callD d__law_word_right hr (by decide) (by rfl) takes0 (da_cons (de_var (pv 1)) da_nil)))))) (fun _ _ _ _ _ => (de_var (pv 1)))) (de_lst da_nil) (nomark _)) (dss_one (ds_ret de_bl)) dss_nil) (dss_one (ds_ret (de_callB (cr_all rfl) on_all (by rfl) (T.fr "all" (by decide)) (by decide +kernel) (da_cons (de_lc (own := [("turn", 2)]) (g := gName 2) rfl sc_law.nd (di_rng1 (by rfl) (T.fr "range" (by decide)) (de_callB (call_max2 rfl) on_max (by rfl) (T.fr "max" (by decide)) (by decide +kernel) (da_cons de_int (da_cons (de_callB (call_min2 rfl) on_min (by rfl) (T.fr "min" (by decide)) (by decide +kernel) (da_cons (de_callB call_len on_len (by rfl) (T.fr "len" (by decide)) boot_len (da_cons (de_var (pv 0)) da_nil)) (da_cons de_int da_nil))) da_nil)))) (blkOk_by (N := N_law) (sc := defScope st_law) (own := [("turn", 2)]) (by decide +kernel)) (tg_name (by decide)) (fun _ _ _ _ _ => pg_name (i := 2) sc_law.nd rfl (Or.inl rfl)) (fun _ _ _ _ _ => dts_nil) (fun _ _ _ _ _ => (de_right d__law_well d__law_right hR hr (by decide) (by decide) (by rfl) (by rfl) takes0 (da_cons (de_var (pv 0)) (da_cons (de_var (pv 2)) da_nil))))) da_nil))))))
end
end K2

set_option linter.all false
set_option Elab.async false
set_option maxRecDepth 100000
set_option maxHeartbeats 1000000
namespace K2
open PySem PySem.Spec PyProof.Rows L2 DL
theorem lc_signs (z : Str) (ρ : DEnv) (i : Nat) (g : E) (p : Nat → D) (l : List Nat) (h : ∀ c, g (ρ.set i (some (.str ⟨#[c]⟩))) = .ok (p c)) :
    lcL (B.name i) T.yes g ρ (l.map fun c => .str ⟨#[c]⟩) = .ok (l.map p) := by
  induction l with
  | nil => rfl
  | cons c l ih =>
    rw [List.map_cons, List.map_cons]
    unfold lcL
    show ((R.ok true).bind fun b => if b then (g (ρ.set i (some (.str ⟨#[c]⟩)))).bind fun y => (lcL (B.name i) T.yes g ρ (l.map fun c => .str ⟨#[c]⟩)).bind fun ys => R.ok (y :: ys) else lcL (B.name i) T.yes g ρ (l.map fun c => .str ⟨#[c]⟩)) = _
    rw [R.bind_ok, if_pos rfl, h c, R.bind_ok, ih, R.bind_ok]
theorem toBs_bl (l : List Bool) : toBs (l.map .bl) = some l := by
  induction l with
  | nil => rfl
  | cons b l ih =>
    rw [List.map_cons]
    unfold toBs
    simp [ih, toB]
theorem all_bl {α : Type} (l : List α) (p : α → Bool) : allD [.lst (l.map fun c => .bl (p c))] = some (.bl (l.all p)) := by
  have e : (l.map fun c => D.bl (p c)) = (l.map p).map .bl := by simp
  show (toBs (l.map fun c => D.bl (p c))).map _ = _
  rw [e, toBs_bl]
  simp
/-- a text whose signs are all among those of z -/
def among (z w : Str) : Bool := w.cps.toList.all fun c => decide (c ∈ z.cps.toList)
theorem is_text (w z : Str) (h : w.cps.size ≤ 100000) : f_is_text_of [.str w, .str z] = .ok (.bl (among z w)) := by
  have e := lc_signs z [some (.str w), some (.str z), none] 2 (E.op inD (E.var 2) (E.var 1)) (fun c => .bl (decide (c ∈ z.cps.toList))) w.cps.toList (fun c => rfl)
  have e2 := all_bl w.cps.toList (fun c => decide (c ∈ z.cps.toList))
  simp only [f_is_text_of, b_is_text_of, runD, begin, S.ret, E.and, E.isi, E.var, E.fn, A.cons, A.nil, E.lc, I.seq, seqD, DL.signs, R.toS, isiT, toB, wipeD, List.map, List.length, List.set, List.replicate, List.getElem?_cons_zero, R.bind_ok, R.of_some, if_true, List.cons_append, List.nil_append] at *
  unfold among
  rw [e]
  simp only [R.nx, R.bind_ok, small, List.length_map, Array.length_toList, h, decide_true, if_true, R.of_some, e2, RS.fin]
end K2

set_option linter.all false
set_option Elab.async false
set_option maxRecDepth 100000
set_option maxHeartbeats 1000000
namespace K2
open PySem PySem.Spec PyProof.Rows L2 DL
theorem eq_str (a b : Str) (ha : PyData.strOk a = true) (hb : PyData.strOk b = true) : eqD (.str a) (.str b) = some (.bl (a == b)) := by
  unfold eqD eqP
  simp only [toP, Option.bind_some]
  have h : (SeqAt.shaped (.str a) && SeqAt.shaped (.str b)) = true := by simp [SeqAt.shaped, PyData.canLay0, PyData.depth, ha, hb]
  rw [if_pos h]
  simp [PyData.eqv]
theorem ne_str (a b : Str) (ha : PyData.strOk a = true) (hb : PyData.strOk b = true) : neD (.str a) (.str b) = some (.bl (!(a == b))) := by
  unfold neD eqP
  simp only [toP, Option.bind_some]
  have h : (SeqAt.shaped (.str a) && SeqAt.shaped (.str b)) = true := by simp [SeqAt.shaped, PyData.canLay0, PyData.depth, ha, hb]
  rw [if_pos h]
  simp [PyData.eqv]
theorem in_strs (w : Str) (ks : List Str) : inX (.str w) (.tup (ks.map .str)) = some (ks.any fun k => decide (k = w)) := by
  show inB (.str w) (ks.map .str) = _
  unfold inB
  have h1 : (flatD (.str w) && (ks.map D.str).all flatD) = true := by
    rw [Bool.and_eq_true]
    refine ⟨rfl, ?_⟩
    rw [List.all_map]
    exact List.all_eq_true.mpr fun _ _ => rfl
  rw [if_pos h1]
  unfold inV
  rw [List.map_map, List.any_map]
  rfl
end K2

set_option linter.all false
set_option Elab.async false
set_option maxRecDepth 100000
set_option maxHeartbeats 1000000
namespace K2
open PySem PySem.Spec PyProof.Rows L2 DL
/-- a text of signs, short -/
structure Tw (w : Str) : Prop where
  sz : w.cps.size ≤ 300
  ok : PyData.strOk w = true
theorem Tw.szl {w : Str} (h : Tw w) : w.cps.size ≤ 100000 := Nat.le_trans h.sz (by decide)
theorem Tw.len {w : Str} (h : Tw w) : small w.length = true := decide_eq_true (Nat.le_trans h.sz (by decide))
def keysL : List Str := ["fact", "take", "rule", "drop", "if", "not", "ask", "why", "ways", "back", "since"]
def lettersS : Str := "abcdefghijklmnopqrstuvwxyz"
def isNameB (w : Str) : Bool := among lettersS w && (decide (1 ≤ w.length) && decide (w.length ≤ 6) && !keysL.any fun k => decide (k = w))
theorem len_w {w : Str} (h : Tw w) : lenD [.str w] = some (.int w.length) := by
  show (if small w.length then some (D.int w.length) else none) = _
  rw [if_pos h.len]
theorem le_1 (n : Nat) : leD (.int 1) (.int n) = some (.bl (decide (1 ≤ n))) := by
  show some (D.bl (decide ((1 : Int) ≤ n))) = _
  congr 2
  exact decide_eq_decide.mpr (by omega)
theorem le_6 (n : Nat) : leD (.int n) (.int 6) = some (.bl (decide (n ≤ 6))) := by
  show some (D.bl (decide ((n : Int) ≤ 6))) = _
  congr 2
  exact decide_eq_decide.mpr (by omega)
theorem nin_keys (w : Str) : ninD (.str w) c_KEY_WORDS = some (.bl (!keysL.any fun k => decide (k = w))) := by
  show (inX (.str w) (.tup (keysL.map .str))).map (fun b => D.bl (!b)) = _
  rw [in_strs]
  rfl
theorem in_keys (w : Str) : inD (.str w) c_KEY_WORDS = some (.bl (keysL.any fun k => decide (k = w))) := by
  show (inX (.str w) (.tup (keysL.map .str))).map D.bl = _
  rw [in_strs]
  rfl
theorem is_name {w : Str} (h : Tw w) : f_is_name [.str w] = .ok (.bl (isNameB w)) := by
  simp only [f_is_name, b_is_name, runD, begin, S.ret, E.and, E.call, E.chain, E.op, E.k, E.var, E.fn, A.cons, A.nil, R.toS, toB, List.map, List.length, List.replicate, List.getElem?_cons_zero, R.bind_ok, R.of_some, if_true, List.cons_append, List.nil_append, c_LETTERS, c_LONGEST, is_text _ _ h.szl, len_w h, le_1, le_6, nin_keys]
  unfold isNameB lettersS
  cases among _ w <;> cases decide (1 ≤ w.length) <;> cases decide (w.length ≤ 6) <;> simp [RS.fin, toB]
end K2

set_option linter.all false
set_option Elab.async false
set_option maxRecDepth 100000
set_option maxHeartbeats 1000000
namespace K2
open PySem PySem.Spec PyProof.Rows L2 DL
theorem cut_tw {w : Str} (h : Tw w) (lo hi : Option Int) : Tw (cutS w lo hi) := by
  refine ⟨?_, ?_⟩
  · unfold cutS
    simp only [List.size_toArray, List.length_take, List.length_drop, Array.length_toList]
    have := h.sz
    omega
  · have h2 : w.cps.all (· < 0x110000) = true := h.ok
    show (cutS w lo hi).cps.all (· < 0x110000) = true
    unfold cutS
    rw [List.all_toArray, List.all_eq_true]
    intro c hc
    rw [← Array.all_toList, List.all_eq_true] at h2
    exact h2 c (List.mem_of_mem_drop (List.mem_of_mem_take hc))
abbrev hd1 (w : Str) : Str := cutS w none (some 1)
abbrev tl1 (w : Str) : Str := cutS w (some 1) none
def capsS : Str := "ABCDEFGHIJKLMNOPQRSTUVWXYZ"
def digitsS : Str := "0123456789"
def signsL : List Str := ["(", ")", ",", "&", "<", "=", ">"]
theorem eq_1 (n : Nat) : eqD (.int n) (.int 1) = some (.bl (decide (n = 1))) := by
  unfold eqD eqP
  simp only [toP, Option.bind_some]
  have h : (SeqAt.shaped (.int n) && SeqAt.shaped (.int 1)) = true := by simp [SeqAt.shaped, PyData.canLay0, PyData.depth]
  rw [if_pos h]
  by_cases hn : n = 1
  · subst hn
    simp [PyData.eqv]
  · have : ¬ ((n : Int) = 1) := by omega
    simp [PyData.eqv, hn, this]
theorem sl_w {w : Str} (h : Tw w) (lo hi : Option Int) : slD (.str w) lo hi = some (.str (cutS w lo hi)) := by
  show (if small w.length then some (D.str (cutS w lo hi)) else none) = _
  rw [if_pos h.len]
theorem is_variable {w : Str} (h : Tw w) : f_is_variable [.str w] = .ok (.bl (among capsS w && decide (w.length = 1))) := by
  simp only [f_is_variable, b_is_variable, runD, begin, S.ret, E.and, E.call, E.chain, E.op, E.k, E.var, E.fn, A.cons, A.nil, R.toS, toB, List.map, List.length, List.replicate, List.getElem?_cons_zero, R.bind_ok, R.of_some, if_true, List.cons_append, List.nil_append, c_CAPITALS, is_text _ _ h.szl, len_w h, eq_1]
  unfold capsS
  cases among _ w <;> simp [RS.fin, toB]
theorem is_word_text {w : Str} (h : Tw w) : f_is_word_text [.str w] = .ok (.bl (among lettersS w && decide (w.length ≤ 6))) := by
  simp only [f_is_word_text, b_is_word_text, runD, begin, S.ret, E.and, E.call, E.chain, E.op, E.k, E.var, E.fn, A.cons, A.nil, R.toS, toB, List.map, List.length, List.replicate, List.getElem?_cons_zero, R.bind_ok, R.of_some, if_true, List.cons_append, List.nil_append, c_LETTERS, c_LONGEST, is_text _ _ h.szl, len_w h, le_6]
  unfold lettersS
  cases among _ w <;> simp [RS.fin, toB]
theorem dot_ok : PyData.strOk "." = true := by decide +kernel
theorem minus_ok : PyData.strOk "-" = true := by decide +kernel
theorem zero_ok : PyData.strOk "0" = true := by decide +kernel
theorem is_value_word {w : Str} (h : Tw w) : f_is_value_word [.str w] = .ok (.bl ((hd1 w == ".") && (among lettersS (tl1 w) && decide ((tl1 w).length ≤ 6)))) := by
  simp only [f_is_value_word, b_is_value_word, runD, begin, S.ret, E.and, E.call, E.chain, E.op, E.k, E.var, E.fn, E.slice, O.no, O.some, toI, A.cons, A.nil, R.toS, toB, List.map, List.length, List.replicate, List.getElem?_cons_zero, R.bind_ok, R.of_some, if_true, List.cons_append, List.nil_append, sl_w h, eq_str _ _ (cut_tw h none (some 1)).ok dot_ok, is_word_text (cut_tw h (some 1) none)]
  cases (hd1 w == ".") <;> simp [RS.fin, toB]
def isNumB (w : Str) : Bool :=
  let dg := if hd1 w == "-" then tl1 w else w
  if !among digitsS dg || !(decide (1 ≤ dg.length) && decide (dg.length ≤ 6)) then false else !(hd1 dg == "0") || (w == "0")
theorem ix_0 {w : Str} (h : Tw w) (h1 : 1 ≤ w.length) : ixD (.str w) (.int 0) = some (.str (hd1 w)) := by
  have e : ixD (.str w) (.int 0) = (atI w.cps.toList 0).map fun c => D.str ⟨#[c]⟩ := by
    show (if small w.length then _ else none) = _
    rw [if_pos h.len]
  rw [e]
  obtain ⟨⟨l⟩⟩ := w
  cases l with
  | nil => exact absurd h1 (by decide)
  | cons c r =>
    unfold hd1 cutS
    simp [atI, HT.sIx, Str.length, ixN]
theorem is_number_word {w : Str} (h : Tw w) : f_is_number_word [.str w] = .ok (.bl (isNumB w)) := by
  have hdg : Tw (if hd1 w == "-" then tl1 w else w) := by
    split
    · exact cut_tw h _ _
    · exact h
  unfold isNumB
  generalize he : (if hd1 w == "-" then tl1 w else w) = dg at *
  have e1 : (E.ite (T.val (E.op eqD (E.slice (E.var 0) O.no (O.some (E.k (.int 1)))) (E.k (.str "-")))) (E.slice (E.var 0) (O.some (E.k (.int 1))) O.no) (E.var 0)) [some (.str w), none] = .ok (.str dg) := by
    simp only [E.ite, T.val, E.op, E.k, E.var, E.slice, O.no, O.some, toI, toB, List.getElem?_cons_zero, R.bind_ok, R.of_some, sl_w h, eq_str _ _ (cut_tw h none (some 1)).ok minus_ok]
    rw [← he]
    cases (hd1 w == "-") <;> rfl
  simp only [f_is_number_word, b_is_number_word, runD, begin, List.map, List.length, List.replicate, List.cons_append, List.nil_append, if_true]
  unfold S.seq S.set
  simp only [e1, R.toS, List.set]
  simp only [S.ret, S.ite, S.pass, E.or, T.or, T.not, T.val, E.and, E.call, E.chain, E.op, E.k, E.var, E.fn, A.cons, A.nil, R.toS, toB, List.getElem?_cons_zero, List.getElem?_cons_succ, R.bind_ok, R.of_some, if_true, c_DIGITS, c_LONGEST, is_text _ _ hdg.szl, len_w hdg, le_1, le_6]
  unfold digitsS
  cases h1 : among "0123456789" dg
  · simp [RS.fin, toB]
  · cases h2 : decide (1 ≤ dg.length)
    · simp [RS.fin, toB]
    · cases h3 : decide (dg.length ≤ 6)
      · simp [RS.fin, toB]
      · have h4 := ix_0 hdg (of_decide_eq_true h2)
        have n1 := ne_str (hd1 dg) "0" (cut_tw hdg none (some 1)).ok zero_ok
        have q1 := eq_str w "0" h.ok zero_ok
        cases h5 : (hd1 dg == "0") <;> cases h6 : (w == "0") <;> rw [h5] at n1 <;> rw [h6] at q1 <;> simp [RS.fin, toB, h4, n1, q1]
end K2

set_option linter.all false
set_option Elab.async false
set_option maxRecDepth 100000
set_option maxHeartbeats 1000000
namespace K2
open PySem PySem.Spec PyProof.Rows L2 DL
def s1 (c : Nat) : D := .str ⟨#[c]⟩
theorem lc_filter (ρ : DEnv) (i : Nat) (t : DEnv → R Bool) (g : E) (p : Nat → Bool) (l : List Nat) (h : ∀ c, t (ρ.set i (some (s1 c))) = .ok (p c)) (hg : ∀ c, g (ρ.set i (some (s1 c))) = .ok (s1 c)) :
    lcL (B.name i) t g ρ (l.map s1) = .ok ((l.filter p).map s1) := by
  induction l with
  | nil => rfl
  | cons c l ih =>
    rw [List.map_cons]
    unfold lcL
    show ((t (ρ.set i (some (s1 c)))).bind fun b => if b then (g (ρ.set i (some (s1 c)))).bind fun y => (lcL (B.name i) t g ρ (l.map s1)).bind fun ys => R.ok (y :: ys) else lcL (B.name i) t g ρ (l.map s1)) = _
    rw [h c, R.bind_ok, ih, hg c]
    cases hp : p c <;> simp [List.filter_cons, hp]
theorem toPs_s1 (l : List Nat) : toPs (l.map s1) = some (l.map fun c => .str ⟨#[c]⟩) := by
  induction l with
  | nil => rfl
  | cons c l ih =>
    rw [List.map_cons, toPs, ih]
    rfl
theorem eq_nil (l : List Nat) (hl : ∀ c ∈ l, c < 0x110000) : eqP (.lst (l.map s1)) (.lst []) = some l.isEmpty := by
  unfold eqP
  rw [toP, toP, toPs_s1, toPs]
  simp only [Option.map_some, Option.bind_some]
  have h : (SeqAt.shaped (.list (l.map fun c => PyData.str ⟨#[c]⟩)) && SeqAt.shaped (.list [])) = true := by
    have a1 : PyData.canLayAll0 (l.map fun c => PyData.str ⟨#[c]⟩) = true := by
      induction l with
      | nil => simp [PyData.canLayAll0]
      | cons c l ih =>
        have hc := hl c (List.mem_cons_self ..)
        simp [PyData.canLayAll0, PyData.canLay0, PyData.strOk, hc]
        exact ih fun x hx => hl x (List.mem_cons_of_mem _ hx)
    have a2 : PyData.depthAll (l.map fun c => PyData.str ⟨#[c]⟩) ≤ 63 := by
      have a3 : ∀ l : List Nat, PyData.depthAll (l.map fun c => PyData.str ⟨#[c]⟩) ≤ 1 := fun l => by
        induction l with
        | nil => simp [PyData.depthAll]
        | cons c l ih =>
          simp [PyData.depthAll, PyData.depth]
          exact ih
      exact Nat.le_trans (a3 l) (by decide)
    simp [SeqAt.shaped, PyData.canLay0, PyData.depth, a1, a2, PyData.canLayAll0, PyData.depthAll]
  rw [if_pos h]
  cases l with
  | nil => simp [PyData.eqv, PyData.eqvAll]
  | cons c l => simp [PyData.eqv, PyData.eqvAll]
theorem kind_by_test : True := trivial
def kindS (w : Str) : Str := if keysL.any fun k => decide (k = w) then "key" else if signsL.any fun k => decide (k = w) then "sign" else if isNameB w then "name" else if among capsS w && decide (w.length = 1) then "variable" else if isNumB w then "number" else
  if (hd1 w == ".") && (among lettersS (tl1 w) && decide ((tl1 w).length ≤ 6)) then "word" else "none"
theorem in_signs (w : Str) : inD (.str w) c_SIGN_WORDS = some (.bl (signsL.any fun k => decide (k = w))) := by
  show (inX (.str w) (.tup (signsL.map .str))).map D.bl = _
  rw [in_strs]
  rfl
theorem word_kind_by {w : Str} (h : Tw w) : f_word_kind_by [.str w] = .ok (.str (kindS w)) := by
  simp only [f_word_kind_by, b_word_kind_by, runD, begin, List.map, List.length, List.replicate, List.cons_append, List.nil_append, if_true]
  unfold kindS
  unfold S.seq S.ite S.ret S.pass E.ite
  simp only [T.val, E.call, E.op, E.k, E.var, A.cons, A.nil, R.toS, toB, List.getElem?_cons_zero, R.bind_ok, R.of_some, in_keys, in_signs, is_name h, is_variable h, is_number_word h, is_value_word h]
  cases keysL.any fun k => decide (k = w)
  · cases h1 : signsL.any fun k => decide (k = w)
    · cases h2 : isNameB w
      · cases h3 : among capsS w && decide (w.length = 1)
        · cases h4 : isNumB w
          · cases h5 : (hd1 w == ".") && (among lettersS (tl1 w) && decide ((tl1 w).length ≤ 6)) <;> simp [in_signs, is_name h, is_variable h, is_number_word h, is_value_word h, h1, h2, h3, h4, h5, RS.fin, c_WORD, c_NONE]
          · simp [in_signs, is_name h, is_variable h, is_number_word h, h1, h2, h3, h4, RS.fin, c_NUMBER]
        · simp [in_signs, is_name h, is_variable h, h1, h2, h3, RS.fin, c_VARIABLE]
      · simp [in_signs, is_name h, h1, h2, RS.fin, c_NAME]
    · simp [in_signs, h1, RS.fin, c_SIGN]
  · simp [RS.fin, c_KEY]
end K2

set_option linter.all false
set_option Elab.async false
set_option maxRecDepth 100000
set_option maxHeartbeats 1000000
namespace K2
open PySem PySem.Spec PyProof.Rows L2 DL
theorem law_keys : f__law_keys [] = .ok (.lst (keysL.map .str)) := by kernel_rfl
theorem in_lst (w : Str) (ks : List Str) : inX (.str w) (.lst (ks.map .str)) = some (ks.any fun k => decide (k = w)) := in_strs w ks
def lowB (c : Nat) : Bool := decide (97 ≤ c) && decide (c ≤ 122)
theorem letters_l : lettersS.cps.toList = (List.range 26).map (· + 97) := by decide +kernel
theorem among_low (w : Str) : among lettersS w = w.cps.toList.all lowB := by
  unfold among
  rw [letters_l]
  congr 1
  funext c
  unfold lowB
  rw [← Bool.decide_and]
  refine decide_eq_decide.mpr ⟨fun h => ?_, fun h => ?_⟩
  · obtain ⟨n, h1, h2⟩ := List.mem_map.mp h
    have := List.mem_range.mp h1
    omega
  · exact List.mem_map.mpr ⟨c - 97, List.mem_range.mpr (by omega), by omega⟩
theorem chain_low (c : Nat) : E.chain leD leD (E.k (.str "a")) (E.var 1) (E.k (.str "z")) [some (.str w), some (s1 c)] = .ok (.bl (lowB c)) := by
  have e1 : leD (.str "a") (s1 c) = some (.bl (decide (97 ≤ c))) := by
    show some (D.bl (!decide ([c] < [97]))) = _
    congr 2
    by_cases h : 97 ≤ c
    · have : ¬ ([c] < [97]) := by
        intro h2
        rw [List.cons_lt_cons_iff] at h2
        rcases h2 with h2 | ⟨_, h2⟩
        · omega
        · exact absurd h2 (by decide)
      simp [h, this]
    · have : [c] < [97] := List.cons_lt_cons_iff.mpr (.inl (by omega))
      simp [h, this]
  have e2 : leD (s1 c) (.str "z") = some (.bl (decide (c ≤ 122))) := by
    show some (D.bl (!decide ([122] < [c]))) = _
    congr 2
    by_cases h : c ≤ 122
    · have : ¬ ([122] < [c]) := by
        intro h2
        rw [List.cons_lt_cons_iff] at h2
        rcases h2 with h2 | ⟨_, h2⟩
        · omega
        · exact absurd h2 (by decide)
      simp [h, this]
    · have : [122] < [c] := List.cons_lt_cons_iff.mpr (.inl (by omega))
      simp [h, this]
  simp only [E.chain, E.k, E.var, List.getElem?_cons_succ, List.getElem?_cons_zero, R.bind_ok, e1, e2, R.of_some, toB]
  unfold lowB
  cases decide (97 ≤ c) <;> rfl
theorem law_small {w : Str} (h : Tw w) : f__law_small [.str w] = .ok (.bl (among lettersS w)) := by
  have e := lc_filter [some (.str w), none] 1 (T.not (T.val (E.chain leD leD (E.k (.str "a")) (E.var 1) (E.k (.str "z"))))) (E.var 1) (fun c => !lowB c) w.cps.toList
    (fun c => by
      show T.not (T.val _) [some (.str w), some (s1 c)] = _
      simp only [T.not, T.val, chain_low, R.bind_ok, R.of_some, toB]) (fun c => rfl)
  have hok : ∀ c ∈ w.cps.toList.filter (fun c => !lowB c), c < 0x110000 := fun c hc => by
    have h2 : w.cps.all (· < 0x110000) = true := h.ok
    rw [← Array.all_toList, List.all_eq_true] at h2
    exact of_decide_eq_true (h2 c (List.mem_filter.mp hc).1)
  have e2 := eq_nil _ hok
  have hsz : (w.cps.toList.filter (fun c => !lowB c)).length ≤ 100000 := Nat.le_trans (List.length_filter_le _ _) (by rw [Array.length_toList]; exact h.szl)
  have e3 : eqD (.lst ((w.cps.toList.filter (fun c => !lowB c)).map s1)) (.lst []) = some (.bl (w.cps.toList.filter (fun c => !lowB c)).isEmpty) := by
    unfold eqD
    rw [e2]
    rfl
  rw [among_low]
  have e4 : (w.cps.toList.filter (fun c => !lowB c)).isEmpty = w.cps.toList.all lowB := by
    rw [Bool.eq_iff_iff, List.isEmpty_iff, List.filter_eq_nil_iff, List.all_eq_true]
    simp
  have e5 : E.lc [1] (B.name 1) (I.seq (E.var 0)) (T.not (T.val (E.chain leD leD (E.k (.str "a")) (E.var 1) (E.k (.str "z"))))) (E.var 1) [some (.str w), none] = .ok (.lst ((w.cps.toList.filter (fun c => !lowB c)).map s1)) := by
    show ((lcL (B.name 1) (T.not (T.val (E.chain leD leD (E.k (.str "a")) (E.var 1) (E.k (.str "z"))))) (E.var 1) [some (.str w), none] (w.cps.toList.map s1)).nx.bind fun ys => R.of (if small ys.length then some (D.lst ys) else none)) = _
    rw [e]
    simp only [R.nx, R.bind_ok, small, List.length_map, hsz, decide_true, if_true, R.of_some]
  have e6 : E.op eqD (E.lc [1] (B.name 1) (I.seq (E.var 0)) (T.not (T.val (E.chain leD leD (E.k (.str "a")) (E.var 1) (E.k (.str "z"))))) (E.var 1)) (E.lst A.nil) [some (.str w), none] = .ok (.bl (w.cps.toList.all lowB)) := by
    unfold E.op
    rw [e5, R.bind_ok]
    show (R.of (eqD _ (.lst []))) = _
    rw [e3, e4]
    rfl
  show (S.ret (E.and (E.isi .str (E.var 0)) _) [some (.str w), none]).fin = _
  unfold S.ret E.and
  rw [e6]
  rfl
end K2

set_option linter.all false
set_option Elab.async false
set_option maxRecDepth 100000
set_option maxHeartbeats 1000000
namespace K2
open PySem PySem.Spec PyProof.Rows L2 DL
theorem lt_0 (n : Nat) : ltD (.int 0) (.int n) = some (.bl (decide (1 ≤ n))) := by
  show some (D.bl (decide ((0 : Int) < n))) = _
  congr 2
  exact decide_eq_decide.mpr (by omega)
theorem lt_7 (n : Nat) : ltD (.int n) (.int 7) = some (.bl (decide (n ≤ 6))) := by
  show some (D.bl (decide ((n : Int) < 7))) = _
  congr 2
  exact decide_eq_decide.mpr (by omega)
theorem nin_lkeys (w : Str) : ninD (.str w) (.lst (keysL.map .str)) = some (.bl (!keysL.any fun k => decide (k = w))) := by
  show (inX (.str w) (.lst (keysL.map .str))).map (fun b => D.bl (!b)) = _
  rw [in_lst]
  rfl
theorem in_lkeys (w : Str) : inD (.str w) (.lst (keysL.map .str)) = some (.bl (keysL.any fun k => decide (k = w))) := by
  show (inX (.str w) (.lst (keysL.map .str))).map D.bl = _
  rw [in_lst]
  rfl
theorem law_is_name {w : Str} (h : Tw w) : f__law_is_name [.str w] = .ok (.bl (isNameB w)) := by
  simp only [f__law_is_name, b__law_is_name, runD, begin, S.ret, E.and, E.call, E.chain, E.op, E.k, E.var, E.fn, A.cons, A.nil, R.toS, toB, List.map, List.length, List.replicate, List.getElem?_cons_zero, R.bind_ok, R.of_some, if_true, List.cons_append, List.nil_append, law_small h, len_w h, lt_0, lt_7, law_keys, nin_lkeys]
  unfold isNameB
  cases among _ w <;> cases decide (1 ≤ w.length) <;> cases decide (w.length ≤ 6) <;> simp [RS.fin, toB]
theorem capitals_l : capsS.cps.toList = (List.range 26).map (· + 65) := by decide +kernel
theorem law_is_variable {w : Str} (h : Tw w) : f__law_is_variable [.str w] = .ok (.bl (among capsS w && decide (w.length = 1))) := by
  simp only [f__law_is_variable, b__law_is_variable, runD, begin, S.ret, E.and, E.isi, isiT, E.call, E.chain, E.op, E.k, E.var, E.fn, A.cons, A.nil, R.toS, toB, List.map, List.length, List.replicate, List.getElem?_cons_zero, R.bind_ok, R.of_some, if_true, List.cons_append, List.nil_append, len_w h, eq_1]
  cases h1 : decide (w.length = 1)
  · simp [RS.fin, toB]
  · obtain ⟨⟨l⟩⟩ := w
    have h2 : l.length = 1 := of_decide_eq_true h1
    match l, h2 with
    | [c], _ =>
      have e1 : leD (.str "A") (.str ⟨#[c]⟩) = some (.bl (decide (65 ≤ c))) := by
        show some (D.bl (!decide ([c] < [65]))) = _
        congr 2
        by_cases h : 65 ≤ c
        · have : ¬ ([c] < [65]) := by
            intro h2
            rw [List.cons_lt_cons_iff] at h2
            rcases h2 with h2 | ⟨_, h2⟩
            · omega
            · exact absurd h2 (by decide)
          simp [h, this]
        · have : [c] < [65] := List.cons_lt_cons_iff.mpr (.inl (by omega))
          simp [h, this]
      have e2 : leD (.str ⟨#[c]⟩) (.str "Z") = some (.bl (decide (c ≤ 90))) := by
        show some (D.bl (!decide ([90] < [c]))) = _
        congr 2
        by_cases h : c ≤ 90
        · have : ¬ ([90] < [c]) := by
            intro h2
            rw [List.cons_lt_cons_iff] at h2
            rcases h2 with h2 | ⟨_, h2⟩
            · omega
            · exact absurd h2 (by decide)
          simp [h, this]
        · have : [90] < [c] := List.cons_lt_cons_iff.mpr (.inl (by omega))
          simp [h, this]
      have e3 : among capsS ⟨⟨[c]⟩⟩ = (decide (65 ≤ c) && decide (c ≤ 90)) := by
        unfold among
        rw [capitals_l, ← Bool.decide_and]
        show (decide _ && true) = _
        rw [Bool.and_true]
        refine decide_eq_decide.mpr ⟨fun h => ?_, fun h => ?_⟩
        · obtain ⟨n, h1, h2⟩ := List.mem_map.mp h
          have := List.mem_range.mp h1
          omega
        · exact List.mem_map.mpr ⟨c - 65, List.mem_range.mpr (by omega), by omega⟩
      rw [e3]
      simp only [e1, e2, R.of_some, R.bind_ok, toB, if_true, Bool.and_true]
      cases decide (65 ≤ c) <;> simp [e2, RS.fin, toB]
theorem law_is_value {w : Str} (h : Tw w) : f__law_is_value [.str w] = .ok (.bl (among lettersS w && decide (w.length ≤ 6))) := by
  simp only [f__law_is_value, b__law_is_value, runD, begin, S.ret, E.ite, T.val, E.and, E.isi, isiT, E.call, E.chain, E.op, E.k, E.var, E.fn, A.cons, A.nil, R.toS, toB, List.map, List.length, List.replicate, List.getElem?_cons_zero, R.bind_ok, R.of_some, if_true, List.cons_append, List.nil_append, law_small h, len_w h, lt_7]
  cases among _ w <;> simp [RS.fin, toB]
end K2

set_option linter.all false
set_option Elab.async false
set_option maxRecDepth 100000
set_option maxHeartbeats 1000000
namespace K2
open PySem PySem.Spec PyProof.Rows L2 DL
def wordB (w : Str) : Bool := (hd1 w == ".") && (among lettersS (tl1 w) && decide ((tl1 w).length ≤ 6))
theorem sign_not {w : Str} (h : (signsL.any fun k => decide (k = w)) = true) : isNameB w = false ∧ (among capsS w && decide (w.length = 1)) = false ∧ isNumB w = false ∧ wordB w = false ∧ (keysL.any fun k => decide (k = w)) = false := by
  obtain ⟨k, h1, h2⟩ := List.any_eq_true.mp h
  have h2 := of_decide_eq_true h2
  subst h2
  have all : (signsL.all fun k => !isNameB k && (!(among capsS k && decide (k.length = 1)) && (!isNumB k && (!wordB k && !(keysL.any fun j => decide (j = k)))))) = true := by decide +kernel
  have a := List.all_eq_true.mp all k h1
  simp only [Bool.and_eq_true, Bool.not_eq_true'] at a
  exact ⟨a.1, by simpa using a.2.1, a.2.2.1, a.2.2.2.1, a.2.2.2.2⟩
theorem hd_cons (c : Nat) (r : List Nat) : hd1 ⟨⟨c :: r⟩⟩ = ⟨#[c]⟩ := by
  unfold hd1 cutS
  simp [HT.sIx, Str.length]
theorem dot_not {w : Str} (h : (hd1 w == ".") = true) : isNumB w = false ∧ 1 ≤ w.length := by
  obtain ⟨⟨l⟩⟩ := w
  cases l with
  | nil => exact absurd h (by decide +kernel)
  | cons c r =>
    rw [hd_cons] at h
    have e : (⟨#[c]⟩ : Str) = "." := eq_of_beq h
    have ec : c = 46 := by
      have := congrArg (fun z : Str => z.cps.toList) e
      have h2 : [c] = [46] := this
      injection h2
    subst ec
    refine ⟨?_, by simp [Str.length]⟩
    unfold isNumB
    rw [hd_cons]
    have h1 : ((⟨#[46]⟩ : Str) == "-") = false := by decide +kernel
    simp only [h1, Bool.false_eq_true, if_false]
    have h2 : among digitsS ⟨⟨46 :: r⟩⟩ = false := by
      unfold among
      have h3 : decide (46 ∈ digitsS.cps.toList) = false := by decide +kernel
      show (decide (46 ∈ digitsS.cps.toList) && _) = false
      rw [h3]
      rfl
    simp [h2]
theorem num_len {w : Str} (h : isNumB w = true) : 1 ≤ w.length := by
  cases hw : w with
  | mk a =>
    obtain ⟨l⟩ := a
    cases l with
    | nil =>
      subst hw
      exact absurd h (by decide +kernel)
    | cons c r => simp [Str.length]
theorem digits_l : digitsS.cps.toList = (List.range 10).map (· + 48) := by decide +kernel
/-- the first sign of a number word is no letter, no capital -/
theorem num_first {w : Str} (h : isNumB w = true) : ∃ c r, w = ⟨⟨c :: r⟩⟩ ∧ (c = 45 ∨ (48 ≤ c ∧ c ≤ 57)) := by
  have hl := num_len h
  obtain ⟨⟨l⟩⟩ := w
  cases l with
  | nil => exact absurd hl (by decide)
  | cons c r =>
    refine ⟨c, r, rfl, ?_⟩
    by_cases hc : c = 45
    · exact .inl hc
    · right
      unfold isNumB at h
      rw [hd_cons] at h
      have h1 : ((⟨#[c]⟩ : Str) == "-") = false := by
        apply beq_eq_false_iff_ne.mpr
        intro e
        have h2 : [c] = [45] := congrArg (fun z : Str => z.cps.toList) e
        injection h2 with h3
        exact hc h3
      simp only [h1, Bool.false_eq_true, if_false] at h
      cases ha : among digitsS ⟨⟨c :: r⟩⟩ with
      | false => rw [ha] at h; simp at h
      | true =>
        have h4 := (List.all_eq_true.mp ha) c (List.mem_cons_self ..)
        have h5 := of_decide_eq_true h4
        rw [digits_l] at h5
        obtain ⟨n, g1, g2⟩ := List.mem_map.mp h5
        have := List.mem_range.mp g1
        omega
theorem num_not {w : Str} (h : isNumB w = true) : (keysL.any fun k => decide (k = w)) = false ∧ (signsL.any fun k => decide (k = w)) = false ∧ isNameB w = false ∧ (among capsS w && decide (w.length = 1)) = false ∧ (hd1 w == ".") = false := by
  have hs : (signsL.any fun k => decide (k = w)) = false := by
    cases hs : signsL.any fun k => decide (k = w)
    · rfl
    · rw [(sign_not hs).2.2.1] at h
      cases h
  have hk : (keysL.any fun k => decide (k = w)) = false := by
    cases hk : keysL.any fun k => decide (k = w)
    · rfl
    · obtain ⟨k, h1, h2⟩ := List.any_eq_true.mp hk
      have h2 := of_decide_eq_true h2
      subst h2
      have all : (keysL.all fun k => !isNumB k) = true := by decide +kernel
      have a := List.all_eq_true.mp all k h1
      rw [h] at a
      cases a
  have hd : (hd1 w == ".") = false := by
    cases hd : (hd1 w == ".")
    · rfl
    · rw [(dot_not hd).1] at h
      cases h
  obtain ⟨c, r, e, hc⟩ := num_first h
  have ha : among lettersS w = false := by
    rw [among_low, e]
    have : lowB c = false := by unfold lowB; simp; omega
    show (lowB c && _) = false
    rw [this]
    rfl
  have hb : among capsS w = false := by
    rw [e]
    have : decide (c ∈ capsS.cps.toList) = false := by
      rw [capitals_l]
      refine decide_eq_false fun h5 => ?_
      obtain ⟨n, g1, g2⟩ := List.mem_map.mp h5
      have := List.mem_range.mp g1
      omega
    show (decide (c ∈ capsS.cps.toList) && _) = false
    rw [this]
    rfl
  refine ⟨hk, hs, ?_, ?_, hd⟩
  · unfold isNameB
    rw [ha]
    rfl
  · rw [hb]
    rfl
theorem kind_num {w : Str} (h : isNumB w = true) : kindS w = "number" := by
  obtain ⟨h1, h2, h3, h4, h5⟩ := num_not h
  unfold kindS
  rw [h1, h2, h3, h4, h]
  rfl
end K2

set_option linter.all false
set_option Elab.async false
set_option maxRecDepth 100000
set_option maxHeartbeats 1000000
namespace K2
open PySem PySem.Spec PyProof.Rows L2 DL
open NumText (AllDigits digitsVal)
theorem fold_lt : ∀ (cs : List Nat) (a : Nat), AllDigits cs → cs.foldl (fun acc c => acc * 10 + (c - 48)) a < (a + 1) * 10 ^ cs.length
  | [], a, _ => by simp
  | c :: cs, a, h => by
    have hc := h c (List.mem_cons_self ..)
    have ih := fold_lt cs (a * 10 + (c - 48)) h.tail
    rw [List.foldl_cons, List.length_cons, Nat.pow_succ]
    refine Nat.lt_of_lt_of_le ih ?_
    have : a * 10 + (c - 48) + 1 ≤ (a + 1) * 10 := by omega
    calc (a * 10 + (c - 48) + 1) * 10 ^ cs.length ≤ ((a + 1) * 10) * 10 ^ cs.length := Nat.mul_le_mul_right _ this
      _ = (a + 1) * (10 ^ cs.length * 10) := by rw [Nat.mul_assoc, Nat.mul_comm 10]
theorem dv_lt {cs : List Nat} (h : AllDigits cs) (hl : cs.length ≤ 6) : digitsVal cs ≤ 999999 := by
  have h1 := fold_lt cs 0 h
  have h2 : 10 ^ cs.length ≤ 10 ^ 6 := Nat.pow_le_pow_right (by decide) hl
  have h3 : digitsVal cs < (0 + 1) * 10 ^ cs.length := h1
  omega
theorem dig_all {cs : List Nat} (h : among digitsS ⟨⟨cs⟩⟩ = true) : AllDigits cs := fun c hc => by
  have h5 := of_decide_eq_true ((List.all_eq_true.mp h) c hc)
  rw [digits_l] at h5
  obtain ⟨n, g1, g2⟩ := List.mem_map.mp h5
  have := List.mem_range.mp g1
  omega
theorem back {cs : List Nat} (h : AllDigits cs) (h1 : cs ≠ []) (hc : cs = [48] ∨ ∃ c r, cs = c :: r ∧ 49 ≤ c) : (Nat.toDigits 10 (digitsVal cs)).map Char.toNat = cs := by
  have hn : (cs.length - 1 = 0 ∨ ∃ c r, cs = c :: r ∧ 49 ≤ c) := by
    rcases hc with e | e
    · left; rw [e]; rfl
    · right; exact e
  have hl : cs.length = cs.length - 1 + 1 := by
    cases cs with
    | nil => exact absurd rfl h1
    | cons c r => simp
  rw [NumText.toDigits_digitsVal _ cs hl h hn, List.map_map]
  have : ∀ cs : List Nat, AllDigits cs → cs.map (Char.toNat ∘ Char.ofNat) = cs := fun cs h => by
    induction cs with
    | nil => rfl
    | cons c r ih =>
      have hc := h c (List.mem_cons_self ..)
      rw [List.map_cons, ih h.tail]
      congr 1
      have : ∀ c : Nat, c < 58 → (Char.ofNat c).toNat = c := by decide
      exact this c (by omega)
  exact this cs h
end K2

set_option linter.all false
set_option Elab.async false
set_option maxRecDepth 100000
set_option maxHeartbeats 1000000
namespace K2
open PySem PySem.Spec PyProof.Rows L2 DL
open NumText (AllDigits digitsVal)
theorem str_pos {cs : List Nat} (h : AllDigits cs) (h1 : cs ≠ []) (hl : cs.length ≤ 6) (hc : cs = [48] ∨ ∃ c r, cs = c :: r ∧ 49 ≤ c) : strD [.int ((digitsVal cs : Nat) : Int)] = some (.str ⟨⟨cs⟩⟩) := by
  have hb := dv_lt h hl
  have hlog : ((digitsVal cs : Nat) : Int).natAbs.log2 < 1920 := by
    rw [Int.natAbs_natCast]
    by_cases h0 : digitsVal cs = 0
    · rw [h0]; decide
    · exact (Nat.log2_lt h0).mpr (Nat.lt_of_le_of_lt hb (by decide))
  show (if decide _ then some (D.str (toString ((digitsVal cs : Nat) : Int) : String)) else none) = _
  rw [if_pos (decide_eq_true hlog)]
  have e : (Str.ofString (toString ((digitsVal cs : Nat) : Int))).cps.toList = cs := by
    rw [PySem.W.KIN.signs_num, back h h1 hc]
  have e2 : Str.ofString (toString ((digitsVal cs : Nat) : Int)) = ⟨⟨cs⟩⟩ := by
    cases hx : Str.ofString (toString ((digitsVal cs : Nat) : Int)) with
    | mk a =>
      rw [hx] at e
      obtain ⟨l⟩ := a
      have e : l = cs := e
      rw [e]
  show some (D.str (Str.ofString (toString ((digitsVal cs : Nat) : Int)))) = _
  rw [e2]
end K2

set_option linter.all false
set_option Elab.async false
set_option maxRecDepth 100000
set_option maxHeartbeats 1000000
namespace K2
open PySem PySem.Spec PyProof.Rows L2 DL
open NumText (AllDigits digitsVal)
theorem str_neg {cs : List Nat} (h : AllDigits cs) (hl : cs.length ≤ 6) (hc : ∃ c r, cs = c :: r ∧ 49 ≤ c) : strD [.int (-((digitsVal cs : Nat) : Int))] = some (.str ⟨⟨45 :: cs⟩⟩) := by
  have hb := dv_lt h hl
  have hne : cs ≠ [] := by
    obtain ⟨c, r, e, _⟩ := hc
    rw [e]
    exact fun z => nomatch z
  have hp : 0 < digitsVal cs := by
    obtain ⟨c, r, e, g⟩ := hc
    rw [e]
    exact NumText.digitsVal_pos g
  have hlog : (-((digitsVal cs : Nat) : Int)).natAbs.log2 < 1920 := by
    rw [Int.natAbs_neg, Int.natAbs_natCast]
    exact (Nat.log2_lt (by omega)).mpr (Nat.lt_of_le_of_lt hb (by decide))
  obtain ⟨k, hk⟩ : ∃ k, digitsVal cs = k + 1 := ⟨digitsVal cs - 1, by omega⟩
  have e0 : (toString (-((digitsVal cs : Nat) : Int)) : String) = "-" ++ Nat.repr (digitsVal cs) := by
    rw [hk]
    rfl
  show (if decide _ then some (D.str (Str.ofString (toString (-((digitsVal cs : Nat) : Int))))) else none) = _
  rw [if_pos (decide_eq_true hlog), e0]
  have e : (Str.ofString ("-" ++ Nat.repr (digitsVal cs))).cps.toList = 45 :: cs := by
    rw [PyProof.Rows.signs_ofString, String.toList_append, List.map_append, Nat.toList_repr, back h hne (.inr hc)]
    rfl
  have e2 : Str.ofString ("-" ++ Nat.repr (digitsVal cs)) = ⟨⟨45 :: cs⟩⟩ := by
    cases hx : Str.ofString ("-" ++ Nat.repr (digitsVal cs)) with
    | mk a =>
      rw [hx] at e
      obtain ⟨l⟩ := a
      have e : l = 45 :: cs := e
      rw [e]
  rw [e2]
end K2

set_option linter.all false
set_option Elab.async false
set_option maxRecDepth 100000
set_option maxHeartbeats 1000000
namespace K2
open PySem PySem.Spec PyProof.Rows L2 DL
open NumText (AllDigits digitsVal)
theorem one_ne {c : Nat} {k : Nat} {z : Str} (hz : z.cps.toList = [k]) (h : ((⟨#[c]⟩ : Str) == z) = false) : c ≠ k := fun e => by
  subst e
  have : (⟨#[c]⟩ : Str) = z := by
    obtain ⟨⟨l⟩⟩ := z
    have hz : l = [c] := hz
    rw [hz]
  rw [this] at h
  simp at h
theorem num_okN {cs : List Nat} (h : among digitsS ⟨⟨cs⟩⟩ = true) (h1 : 1 ≤ cs.length) (h2 : cs.length ≤ 6) (hc : ∃ c r, cs = c :: r ∧ 49 ≤ c) : ∃ n : Int, intD [.str ⟨⟨45 :: cs⟩⟩] = some (.int n) ∧ -999999 ≤ n ∧ n ≤ 999999 ∧ strD [.int n] = some (.str ⟨⟨45 :: cs⟩⟩) := by
  have ha := dig_all h
  have hb := dv_lt ha h2
  have hne : cs ≠ [] := by
    obtain ⟨c, r, e, _⟩ := hc
    rw [e]
    exact fun z => nomatch z
  have hl : (⟨⟨45 :: cs⟩⟩ : Str).length ≤ 640 := by
    show (45 :: cs).length ≤ 640
    rw [List.length_cons]
    omega
  refine ⟨-((digitsVal cs : Nat) : Int), ?_, by omega, by omega, str_neg ha h2 hc⟩
  show (if decide _ then (PySem.intText? _).map D.int else none) = _
  rw [if_pos (decide_eq_true hl), PySem.intText_neg (cs := cs) rfl ha hne (Nat.le_trans hl (by decide))]
  rfl
theorem num_okP {cs : List Nat} (h : among digitsS ⟨⟨cs⟩⟩ = true) (h1 : 1 ≤ cs.length) (h2 : cs.length ≤ 6) (hc : cs = [48] ∨ ∃ c r, cs = c :: r ∧ 49 ≤ c) : ∃ n : Int, intD [.str ⟨⟨cs⟩⟩] = some (.int n) ∧ -999999 ≤ n ∧ n ≤ 999999 ∧ strD [.int n] = some (.str ⟨⟨cs⟩⟩) := by
  have ha := dig_all h
  have hb := dv_lt ha h2
  have hne : cs ≠ [] := fun z => by rw [z] at h1; exact absurd h1 (by decide)
  have hl : (⟨⟨cs⟩⟩ : Str).length ≤ 640 := by
    show cs.length ≤ 640
    omega
  refine ⟨((digitsVal cs : Nat) : Int), ?_, by omega, by omega, str_pos ha hne h2 hc⟩
  show (if decide _ then (PySem.intText? _).map D.int else none) = _
  rw [if_pos (decide_eq_true hl), PySem.intText_digits (x := ⟨⟨cs⟩⟩) ha hne (Nat.le_trans hl (by decide))]
  rfl
end K2

set_option linter.all false
set_option Elab.async false
set_option maxRecDepth 100000
set_option maxHeartbeats 1000000
namespace K2
open PySem PySem.Spec PyProof.Rows L2 DL
theorem tl_cons (c : Nat) (r : List Nat) : tl1 ⟨⟨c :: r⟩⟩ = ⟨⟨r⟩⟩ := by
  unfold tl1 cutS
  simp [HT.sIx, Str.length]
theorem num_core {w dg : Str} (h : (if (!among digitsS dg || !(decide (1 ≤ dg.length) && decide (dg.length ≤ 6))) = true then false else !(hd1 dg == "0") || (w == "0")) = true) :
    among digitsS dg = true ∧ 1 ≤ dg.length ∧ dg.length ≤ 6 ∧ ((hd1 dg == "0") = false ∨ w = "0") := by
  cases h1 : among digitsS dg <;> cases h2 : decide (1 ≤ dg.length) <;> cases h3 : decide (dg.length ≤ 6) <;> rw [h1, h2, h3] at h <;> simp at h
  refine ⟨rfl, of_decide_eq_true h2, of_decide_eq_true h3, ?_⟩
  rcases h with h | h
  · left
    exact beq_eq_false_iff_ne.mpr h
  · exact .inr h
theorem first_49 {c : Nat} {r : List Nat} (h : among digitsS ⟨⟨c :: r⟩⟩ = true) (h2 : (hd1 ⟨⟨c :: r⟩⟩ == "0") = false) : 49 ≤ c := by
  rw [hd_cons] at h2
  have h3 := dig_all h c (List.mem_cons_self ..)
  have : c ≠ 48 := one_ne (z := "0") (by decide +kernel) h2
  omega
theorem num_ok2 {w : Str} (h : isNumB w = true) : ∃ n : Int, intD [.str w] = some (.int n) ∧ -999999 ≤ n ∧ n ≤ 999999 ∧ strD [.int n] = some (.str w) := by
  obtain ⟨c, r, e, hc⟩ := num_first h
  subst e
  unfold isNumB at h
  dsimp only at h
  rw [hd_cons] at h
  by_cases h45 : c = 45
  · subst h45
    have hm : ((⟨#[45]⟩ : Str) == "-") = true := by decide +kernel
    rw [hm, if_pos rfl, tl_cons] at h
    obtain ⟨h1, h2, h3, h4⟩ := num_core h
    have h5 : (hd1 ⟨⟨r⟩⟩ == "0") = false := by
      rcases h4 with h4 | h4
      · exact h4
      · have := congrArg (fun z : Str => z.cps.toList) h4
        have h6 : 45 :: r = [48] := this
        injection h6 with h7
        exact absurd h7 (by decide)
    cases r with
    | nil => exact absurd h2 (by decide)
    | cons d s => exact num_okN h1 h2 h3 ⟨d, s, rfl, first_49 h1 h5⟩
  · have hm : ((⟨#[c]⟩ : Str) == "-") = false := by
      apply beq_eq_false_iff_ne.mpr
      intro e
      have h2 : [c] = [45] := congrArg (fun z : Str => z.cps.toList) e
      injection h2 with h3
      exact h45 h3
    rw [hm] at h
    simp only [Bool.false_eq_true, if_false] at h
    have h := h
    obtain ⟨h1, h2, h3, h4⟩ := num_core (w := ⟨⟨c :: r⟩⟩) (dg := ⟨⟨c :: r⟩⟩) (by rw [hd_cons]; exact h)
    refine num_okP h1 h2 h3 ?_
    rcases h4 with h4 | h4
    · exact .inr ⟨c, r, rfl, first_49 h1 h4⟩
    · exact .inl (congrArg (fun z : Str => z.cps.toList) h4)
end K2

set_option linter.all false
set_option Elab.async false
set_option maxRecDepth 100000
set_option maxHeartbeats 1000000
namespace K2
open PySem PySem.Spec PyProof.Rows L2 DL
theorem empty_ok : PyData.strOk "" = true := by decide +kernel
theorem eq_empty {w : Str} (h : Tw w) : eqD (.str w) (.str "") = some (.bl (!decide (1 ≤ w.length))) := by
  rw [eq_str _ _ h.ok empty_ok]
  congr 2
  obtain ⟨⟨l⟩⟩ := w
  cases l with
  | nil => rfl
  | cons c r =>
    have : ¬ ((⟨⟨c :: r⟩⟩ : Str) = "") := fun e => by
      have := congrArg (fun z : Str => z.cps.toList) e
      cases this
    simp [this, Str.length]
theorem gt_6 (n : Nat) : gtD (.int n) (.int 6) = some (.bl (!decide (n ≤ 6))) := by
  show some (D.bl (decide ((6 : Int) < n))) = _
  congr 2
  rw [← decide_not]
  exact decide_eq_decide.mpr (by omega)
theorem lc_nondig {w dg : Str} (h : Tw dg) : E.op neD (E.lc [2] (B.name 2) (I.seq (E.var 1)) (T.val (E.op ninD (E.var 2) (E.k (.str "0123456789")))) (E.var 2)) (E.lst A.nil) [some (.str w), some (.str dg), none] = .ok (.bl (!among digitsS dg)) := by
  have e := lc_filter [some (.str w), some (.str dg), none] 2 (T.val (E.op ninD (E.var 2) (E.k (.str "0123456789")))) (E.var 2) (fun c => !decide (c ∈ digitsS.cps.toList)) dg.cps.toList (fun c => rfl) (fun c => rfl)
  have hok : ∀ c ∈ dg.cps.toList.filter (fun c => !decide (c ∈ digitsS.cps.toList)), c < 0x110000 := fun c hc => by
    have h2 : dg.cps.all (· < 0x110000) = true := h.ok
    rw [← Array.all_toList, List.all_eq_true] at h2
    exact of_decide_eq_true (h2 c (List.mem_filter.mp hc).1)
  have e2 := eq_nil _ hok
  have hsz : (dg.cps.toList.filter (fun c => !decide (c ∈ digitsS.cps.toList))).length ≤ 100000 := Nat.le_trans (List.length_filter_le _ _) (by rw [Array.length_toList]; exact h.szl)
  have e3 : neD (.lst ((dg.cps.toList.filter (fun c => !decide (c ∈ digitsS.cps.toList))).map s1)) (.lst []) = some (.bl (!(dg.cps.toList.filter (fun c => !decide (c ∈ digitsS.cps.toList))).isEmpty)) := by
    unfold neD
    rw [e2]
    rfl
  have e4 : (dg.cps.toList.filter (fun c => !decide (c ∈ digitsS.cps.toList))).isEmpty = among digitsS dg := by
    unfold among
    rw [Bool.eq_iff_iff, List.isEmpty_iff, List.filter_eq_nil_iff, List.all_eq_true]
    simp
  have e5 : E.lc [2] (B.name 2) (I.seq (E.var 1)) (T.val (E.op ninD (E.var 2) (E.k (.str "0123456789")))) (E.var 2) [some (.str w), some (.str dg), none] = .ok (.lst ((dg.cps.toList.filter (fun c => !decide (c ∈ digitsS.cps.toList))).map s1)) := by
    show ((lcL (B.name 2) (T.val (E.op ninD (E.var 2) (E.k (.str "0123456789")))) (E.var 2) [some (.str w), some (.str dg), none] (dg.cps.toList.map s1)).nx.bind fun ys => R.of (if small ys.length then some (D.lst ys) else none)) = _
    rw [e]
    simp only [R.nx, R.bind_ok, small, List.length_map, hsz, decide_true, if_true, R.of_some]
  show ((E.lc [2] (B.name 2) (I.seq (E.var 1)) (T.val (E.op ninD (E.var 2) (E.k (.str "0123456789")))) (E.var 2) [some (.str w), some (.str dg), none]).bind fun x => (R.ok (D.lst [])).bind fun y => R.of (neD x y)) = _
  rw [e5, R.bind_ok, R.bind_ok]
  rw [e3, e4]
  rfl
theorem law_of_number {w : Str} (h : Tw w) : ∃ n : Int, f__law_of_number [.str w] = .ok (.lst (if isNumB w then [.int n] else [])) ∧ (isNumB w = true → intD [.str w] = some (.int n) ∧ -999999 ≤ n ∧ n ≤ 999999 ∧ strD [.int n] = some (.str w)) := by
  have hn : ∃ n : Int, isNumB w = true → intD [.str w] = some (.int n) ∧ -999999 ≤ n ∧ n ≤ 999999 ∧ strD [.int n] = some (.str w) := by
    by_cases hb : isNumB w = true
    · obtain ⟨n, h1⟩ := num_ok2 hb
      exact ⟨n, fun _ => h1⟩
    · exact ⟨0, fun z => absurd z hb⟩
  obtain ⟨n, hn⟩ := hn
  refine ⟨n, ?_, hn⟩
  have hdg : Tw (if hd1 w == "-" then tl1 w else w) := by
    split
    · exact cut_tw h _ _
    · exact h
  have hb : isNumB w = isNumB w := rfl
  conv at hb => rhs; unfold isNumB
  dsimp only at hb
  generalize he : (if hd1 w == "-" then tl1 w else w) = dg at *
  have e1 : (E.ite (T.val (E.op eqD (E.slice (E.var 0) O.no (O.some (E.k (.int 1)))) (E.k (.str "-")))) (E.slice (E.var 0) (O.some (E.k (.int 1))) O.no) (E.var 0)) [some (.str w), none, none] = .ok (.str dg) := by
    simp only [E.ite, T.val, E.op, E.k, E.var, E.slice, O.no, O.some, toI, toB, List.getElem?_cons_zero, R.bind_ok, R.of_some, sl_w h, eq_str _ _ (cut_tw h none (some 1)).ok minus_ok]
    rw [← he]
    cases (hd1 w == "-") <;> rfl
  have nd := lc_nondig (w := w) hdg
  simp only [f__law_of_number, b__law_of_number, runD, begin, List.map, List.length, List.replicate, List.cons_append, List.nil_append, if_true]
  unfold S.seq S.set
  simp only [e1, R.toS, List.set]
  have t1 : T.val (E.op eqD (E.var 1) (E.k (.str ""))) [some (.str w), some (.str dg), none] = .ok (!decide (1 ≤ dg.length)) := by
    show ((R.of (eqD (.str dg) (.str ""))).bind fun x => R.of (toB x)) = _
    rw [eq_empty hdg]
    rfl
  have t2 : T.val (E.op gtD (E.fn lenD (A.cons (E.var 1) A.nil)) (E.k (.int 6))) [some (.str w), some (.str dg), none] = .ok (!decide (dg.length ≤ 6)) := by
    show (((R.of (lenD [.str dg])).bind fun x => R.of (gtD x (.int 6))).bind fun x => R.of (toB x)) = _
    rw [len_w hdg, R.of_some, R.bind_ok, gt_6]
    rfl
  have t3 : T.val (E.op neD (E.lc [2] (B.name 2) (I.seq (E.var 1)) (T.val (E.op ninD (E.var 2) (E.k (.str "0123456789")))) (E.var 2)) (E.lst A.nil)) [some (.str w), some (.str dg), none] = .ok (!among digitsS dg) := by
    show ((E.op neD (E.lc [2] (B.name 2) (I.seq (E.var 1)) (T.val (E.op ninD (E.var 2) (E.k (.str "0123456789")))) (E.var 2)) (E.lst A.nil) [some (.str w), some (.str dg), none]).bind fun x => R.of (toB x)) = _
    rw [nd]
    rfl
  have t4 : 1 ≤ dg.length → T.and (T.val (E.op eqD (E.op ixD (E.var 1) (E.k (.int 0))) (E.k (.str "0")))) (T.val (E.op neD (E.var 0) (E.k (.str "0")))) [some (.str w), some (.str dg), none] = .ok ((hd1 dg == "0") && !(w == "0")) := fun hl => by
    show (((R.of (ixD (.str dg) (.int 0))).bind fun x => R.of (eqD x (.str "0"))).bind fun x => R.of (toB x)).bind (fun b => if b then ((R.of (neD (.str w) (.str "0"))).bind fun x => R.of (toB x)) else .ok false) = _
    rw [ix_0 hdg hl, R.of_some, R.bind_ok, eq_str _ _ (cut_tw hdg none (some 1)).ok zero_ok, ne_str _ _ h.ok zero_ok]
    cases (hd1 dg == "0") <;> rfl
  have tt : T.or (T.val (E.op eqD (E.var 1) (E.k (.str "")))) (T.or (T.val (E.op gtD (E.fn lenD (A.cons (E.var 1) A.nil)) (E.k (.int 6)))) (T.or (T.val (E.op neD (E.lc [2] (B.name 2) (I.seq (E.var 1)) (T.val (E.op ninD (E.var 2) (E.k (.str "0123456789")))) (E.var 2)) (E.lst A.nil))) (T.and (T.val (E.op eqD (E.op ixD (E.var 1) (E.k (.int 0))) (E.k (.str "0")))) (T.val (E.op neD (E.var 0) (E.k (.str "0"))))))) [some (.str w), some (.str dg), none] = .ok (!isNumB w) := by
    unfold T.or
    rw [t1, t2, t3, hb]
    cases h1 : decide (1 ≤ dg.length)
    · cases among digitsS dg <;> simp
    · rw [t4 (of_decide_eq_true h1)]
      cases decide (dg.length ≤ 6) <;> cases among digitsS dg <;> cases (hd1 dg == "0") <;> cases (w == "0") <;> simp
  unfold S.ite
  rw [tt]
  cases hw : isNumB w
  · simp [R.toS, S.ret, E.lst, A.nil, small, RS.fin]
  · obtain ⟨i1, _⟩ := hn hw
    simp [R.toS, S.ret, S.pass, E.lst, E.fn, E.var, A.cons, A.nil, small, RS.fin, i1]
end K2

set_option linter.all false
set_option Elab.async false
set_option maxRecDepth 100000
set_option maxHeartbeats 1000000
namespace K2
open PySem PySem.Spec PyProof.Rows L2 DL
/-- what a value word stands for -/
def valL (w : Str) (n : Int) : List D := if hd1 w == "." then (if wordB w then [.str (tl1 w)] else []) else if isNumB w then [.int n] else []
theorem law_value {w : Str} (h : Tw w) : ∃ n : Int, f__law_value [.str w] = .ok (.lst (valL w n)) ∧ (isNumB w = true → intD [.str w] = some (.int n) ∧ -999999 ≤ n ∧ n ≤ 999999 ∧ strD [.int n] = some (.str w)) := by
  obtain ⟨n, h1, h2⟩ := law_of_number h
  refine ⟨n, ?_, h2⟩
  have t1 : T.val (E.op eqD (E.slice (E.var 0) O.no (O.some (E.k (.int 1)))) (E.k (.str "."))) [some (.str w)] = .ok (hd1 w == ".") := by
    simp only [T.val, E.op, E.k, E.var, E.slice, O.no, O.some, toI, toB, List.getElem?_cons_zero, R.bind_ok, R.of_some, sl_w h, eq_str _ _ (cut_tw h none (some 1)).ok dot_ok]
  have e1 : E.slice (E.var 0) (O.some (E.k (.int 1))) O.no [some (.str w)] = .ok (.str (tl1 w)) := by
    simp only [E.k, E.var, E.slice, O.no, O.some, toI, List.getElem?_cons_zero, R.bind_ok, R.of_some, sl_w h]
  simp only [f__law_value, b__law_value, runD, begin, List.map, List.length, List.replicate, List.cons_append, List.nil_append, if_true]
  unfold S.seq S.ite
  have t1' : T.val (E.op eqD (E.slice (E.var 0) O.no (O.some (E.k (.int 1)))) (E.k (.str "."))) (some (.str w) :: List.replicate (1 - 1) none) = .ok (hd1 w == ".") := t1
  rw [t1']
  unfold valL wordB
  cases hd : (hd1 w == ".")
  · simp [R.toS, S.ret, S.pass, E.call, E.var, A.cons, A.nil, h1, RS.fin]
  · have e2 : S.ret (E.ite (T.val (E.call f__law_is_value (A.cons (E.slice (E.var 0) (O.some (E.k (.int 1))) O.no) A.nil))) (E.lst (A.cons (E.slice (E.var 0) (O.some (E.k (.int 1))) O.no) A.nil)) (E.lst A.nil)) [some (.str w)] = .rt (.lst (if among lettersS (tl1 w) && decide ((tl1 w).length ≤ 6) then [.str (tl1 w)] else [])) := by
      simp only [S.ret, E.ite, T.val, E.call, E.lst, A.cons, A.nil, e1, R.bind_ok, law_is_value (cut_tw h (some 1) none), toB, R.of_some, R.toS]
      cases among lettersS (tl1 w) && decide ((tl1 w).length ≤ 6) <;> simp [small, e1, R.toS]
    have e3 := e2
    simp only [R.toS, if_true]
    show (match S.ret _ [some (.str w)] with | .nx ρ' => _ | r => r).fin = _
    rw [e2]
    simp [RS.fin]
end K2

set_option linter.all false
set_option Elab.async false
set_option maxRecDepth 100000
set_option maxHeartbeats 1000000
namespace K2
open PySem PySem.Spec PyProof.Rows L2 DL
theorem shaped_str {w : Str} (h : Tw w) : SeqAt.shaped (.list [.str w]) = true := by simp [SeqAt.shaped, PyData.canLay0, PyData.canLayAll0, PyData.depth, PyData.depthAll, h.ok]
theorem shaped_int (n : Int) : SeqAt.shaped (.list [.int n]) = true := by simp [SeqAt.shaped, PyData.canLay0, PyData.canLayAll0, PyData.depth, PyData.depthAll]
theorem shaped_nil : SeqAt.shaped (.list []) = true := by simp [SeqAt.shaped, PyData.canLay0, PyData.canLayAll0, PyData.depth, PyData.depthAll]
theorem eqP_val {w : Str} (h : Tw w) (n : Int) : eqP (.lst (valL w n)) (.lst []) = some (valL w n).isEmpty := by
  have k1 : eqP (.lst [.str (tl1 w)]) (.lst []) = some false := by
    simp [eqP, toP, toPs, shaped_str (cut_tw h (some 1) none), shaped_nil, PyData.eqv, PyData.eqvAll]
  have k2 : eqP (.lst [.int n]) (.lst []) = some false := by
    simp [eqP, toP, toPs, shaped_int, shaped_nil, PyData.eqv, PyData.eqvAll]
  have k3 : eqP (.lst []) (.lst []) = some true := by
    simp [eqP, toP, toPs, shaped_nil, PyData.eqv, PyData.eqvAll]
  unfold valL
  split
  · split
    · exact k1
    · exact k3
  · split
    · exact k2
    · exact k3
end K2

set_option linter.all false
set_option Elab.async false
set_option maxRecDepth 100000
set_option maxHeartbeats 1000000
namespace K2
open PySem PySem.Spec PyProof.Rows L2 DL
theorem in_signsL (w : Str) : inD (.str w) (.lst (signsL.map .str)) = some (.bl (signsL.any fun k => decide (k = w))) := by
  show (inX (.str w) (.lst (signsL.map .str))).map D.bl = _
  rw [in_lst]
  rfl
theorem law_told_kind {w : Str} (h : Tw w) : f__law_told_kind [.str w] = .ok (.str (kindS w)) := by
  obtain ⟨n, v1, _⟩ := law_value h
  have t1 : T.val (E.op inD (E.var 0) (E.call f__law_keys A.nil)) [some (.str w), none] = .ok (keysL.any fun k => decide (k = w)) := by
    show (((f__law_keys []).bind fun y => R.of (inD (.str w) y)).bind fun x => R.of (toB x)) = _
    rw [law_keys, R.bind_ok, in_lkeys]
    rfl
  have t2 : T.val (E.call f__law_is_name (A.cons (E.var 0) A.nil)) [some (.str w), none] = .ok (isNameB w) := by
    show ((f__law_is_name [.str w]).bind fun x => R.of (toB x)) = _
    rw [law_is_name h]
    rfl
  have t3 : T.val (E.call f__law_is_variable (A.cons (E.var 0) A.nil)) [some (.str w), none] = .ok (among capsS w && decide (w.length = 1)) := by
    show ((f__law_is_variable [.str w]).bind fun x => R.of (toB x)) = _
    rw [law_is_variable h]
    rfl
  have g1 : E.call f__law_value (A.cons (E.var 0) A.nil) [some (.str w), none] = .ok (.lst (valL w n)) := v1
  have t4 : T.val (E.op inD (E.var 0) (E.lst (A.cons (E.k (.str "(")) (A.cons (E.k (.str ")")) (A.cons (E.k (.str ",")) (A.cons (E.k (.str "&")) (A.cons (E.k (.str "<")) (A.cons (E.k (.str "=")) (A.cons (E.k (.str ">")) A.nil))))))))) [some (.str w), some (.lst (valL w n))] = .ok (signsL.any fun k => decide (k = w)) := by
    show ((R.of (inD (.str w) (.lst (signsL.map .str)))).bind fun x => R.of (toB x)) = _
    rw [in_signsL]
    rfl
  have t5 : T.val (E.op eqD (E.var 1) (E.lst A.nil)) [some (.str w), some (.lst (valL w n))] = .ok (valL w n).isEmpty := by
    show ((R.of ((eqP (.lst (valL w n)) (.lst [])).map D.bl)).bind fun x => R.of (toB x)) = _
    rw [eqP_val h]
    rfl
  have t6 : 1 ≤ w.length → T.val (E.op eqD (E.op ixD (E.var 0) (E.k (.int 0))) (E.k (.str "."))) [some (.str w), some (.lst (valL w n))] = .ok (hd1 w == ".") := fun hl => by
    show (((R.of (ixD (.str w) (.int 0))).bind fun x => R.of (eqD x (.str "."))).bind fun x => R.of (toB x)) = _
    rw [ix_0 h hl, R.of_some, R.bind_ok, eq_str _ _ (cut_tw h none (some 1)).ok dot_ok]
    rfl
  show (match (b__law_told_kind [some (.str w), none]).fin with | r => r) = _
  unfold b__law_told_kind S.seq S.ite T.or
  rw [t1, t2]
  cases hk : keysL.any fun k => decide (k = w)
  · cases hn : isNameB w
    · simp only [R.toS, R.bind_ok, if_false, S.pass, Bool.false_eq_true, t3]
      cases hv : among capsS w && decide (w.length = 1)
      · simp only [if_false, Bool.false_eq_true]
        unfold S.set
        rw [g1]
        simp only [R.toS, List.set]
        unfold S.ret E.ite
        rw [t4]
        cases hs : signsL.any fun k => decide (k = w)
        · simp only [R.bind_ok, if_false, Bool.false_eq_true, t5]
          cases hd : (hd1 w == ".")
          · cases hb : isNumB w
            · have e : valL w n = [] := by unfold valL; simp [hd, hb]
              rw [e]
              simp [E.k, R.toS, RS.fin, kindS, hk, hs, hn, hv, hb, hd]
            · have e : (valL w n).isEmpty = false := by unfold valL; simp [hd, hb]
              rw [e]
              simp only [if_false, Bool.false_eq_true, t6 (num_len hb), hd, R.bind_ok]
              simp [E.k, R.toS, RS.fin, kindS, hk, hs, hn, hv, hb, hd]
          · obtain ⟨hb, hl⟩ := dot_not hd
            cases hw : (among lettersS (tl1 w) && decide ((tl1 w).length ≤ 6))
            · have e : valL w n = [] := by unfold valL wordB; simp only [hd, hw]; rfl
              rw [e]
              simp only [List.isEmpty_nil, if_true]
              unfold kindS
              rw [hk, hs, hn, hv, hb, hd, hw]
              rfl
            · have e : (valL w n).isEmpty = false := by unfold valL wordB; simp only [hd, hw]; rfl
              rw [e]
              simp only [if_false, Bool.false_eq_true, t6 hl, hd, R.bind_ok, if_true]
              unfold kindS
              rw [hk, hs, hn, hv, hb, hd, hw]
              rfl
        · simp [E.k, R.toS, RS.fin, kindS, hk, hs]
      · have hs : (signsL.any fun k => decide (k = w)) = false := by
          cases hs : signsL.any fun k => decide (k = w)
          · rfl
          · rw [(sign_not hs).2.1] at hv
            cases hv
        simp [S.ret, E.k, R.toS, RS.fin, kindS, hk, hs, hn, hv]
    · have hs : (signsL.any fun k => decide (k = w)) = false := by
        cases hs : signsL.any fun k => decide (k = w)
        · rfl
        · rw [(sign_not hs).1] at hn
          cases hn
      simp [S.ret, E.ite, t1, hk, E.k, R.toS, RS.fin, kindS, hs, hn]
  · simp [S.ret, E.ite, t1, hk, E.k, R.toS, RS.fin, kindS]
end K2

set_option linter.all false
set_option Elab.async false
set_option maxRecDepth 100000
set_option maxHeartbeats 1000000
namespace K2
open PySem PySem.Spec PyProof.Rows L2 DL
theorem dot_first {w : Str} (h : (hd1 w == ".") = true) : ∃ r, w = ⟨⟨46 :: r⟩⟩ := by
  obtain ⟨⟨l⟩⟩ := w
  cases l with
  | nil => exact absurd h (by decide +kernel)
  | cons c r =>
    rw [hd_cons] at h
    have e : (⟨#[c]⟩ : Str) = "." := eq_of_beq h
    have h2 : [c] = [46] := congrArg (fun z : Str => z.cps.toList) e
    injection h2 with h3
    exact ⟨r, by rw [h3]⟩
theorem dot_not2 {w : Str} (h : (hd1 w == ".") = true) : (keysL.any fun k => decide (k = w)) = false ∧ (signsL.any fun k => decide (k = w)) = false ∧ isNameB w = false ∧ (among capsS w && decide (w.length = 1)) = false ∧ isNumB w = false := by
  have hs : (signsL.any fun k => decide (k = w)) = false := by
    cases hs : signsL.any fun k => decide (k = w)
    · rfl
    · obtain ⟨k, h1, h2⟩ := List.any_eq_true.mp hs
      have h2 := of_decide_eq_true h2
      subst h2
      have all : (signsL.all fun k => !(hd1 k == ".")) = true := by decide +kernel
      have a := List.all_eq_true.mp all k h1
      rw [h] at a
      cases a
  have hk : (keysL.any fun k => decide (k = w)) = false := by
    cases hk : keysL.any fun k => decide (k = w)
    · rfl
    · obtain ⟨k, h1, h2⟩ := List.any_eq_true.mp hk
      have h2 := of_decide_eq_true h2
      subst h2
      have all : (keysL.all fun k => !(hd1 k == ".")) = true := by decide +kernel
      have a := List.all_eq_true.mp all k h1
      rw [h] at a
      cases a
  obtain ⟨r, e⟩ := dot_first h
  have ha : among lettersS w = false := by
    rw [among_low, e]
    rfl
  have hb : among capsS w = false := by
    rw [e]
    have : decide (46 ∈ capsS.cps.toList) = false := by decide +kernel
    show (decide (46 ∈ capsS.cps.toList) && r.all fun c => decide (c ∈ capsS.cps.toList)) = false
    rw [this]
    rfl
  refine ⟨hk, hs, ?_, ?_, (dot_not h).1⟩
  · unfold isNameB
    rw [ha]
    rfl
  · rw [hb]
    rfl
theorem kind_dot {w : Str} (h : (hd1 w == ".") = true) : kindS w = if wordB w then ("word" : Str) else ("none" : Str) := by
  obtain ⟨h1, h2, h3, h4, h5⟩ := dot_not2 h
  unfold kindS wordB
  rw [h1, h2, h3, h4, h5]
  rfl
theorem word_kind {w : Str} (h : Tw w) : f_word_kind [.str w] = .ok (.str (kindS w)) := by
  show (b_word_kind [some (.str w)]).fin = _
  have e : E.call f_check_text (A.cons (E.var 0) A.nil) [some (.str w)] = .ok .non := rfl
  unfold b_word_kind S.seq S.expr
  rw [e]
  simp only [R.toS]
  unfold S.ret
  show (R.toS (f_word_kind_by [.str w]) _ _).fin = _
  rw [word_kind_by h]
  rfl
theorem value_by {w : Str} (h : Tw w) : f_value_by [.str w] = if hd1 w == "." then .ok (.str (tl1 w)) else R.of (intD [.str w]) := by
  show (b_value_by [some (.str w)]).fin = _
  have t1 : T.val (E.op eqD (E.slice (E.var 0) O.no (O.some (E.k (.int 1)))) (E.k (.str "."))) [some (.str w)] = .ok (hd1 w == ".") := by
    simp only [T.val, E.op, E.k, E.var, E.slice, O.no, O.some, toI, toB, List.getElem?_cons_zero, R.bind_ok, R.of_some, sl_w h, eq_str _ _ (cut_tw h none (some 1)).ok dot_ok]
  have e1 : E.slice (E.var 0) (O.some (E.k (.int 1))) O.no [some (.str w)] = .ok (.str (tl1 w)) := by
    simp only [E.k, E.var, E.slice, O.no, O.some, toI, List.getElem?_cons_zero, R.bind_ok, R.of_some, sl_w h]
  unfold b_value_by S.ret E.ite
  rw [t1, R.bind_ok, e1]
  cases hd1 w == "."
  · show (R.toS (R.of (intD [.str w])) _ _).fin = _
    cases intD [.str w] <;> rfl
  · rfl
end K2

set_option linter.all false
set_option Elab.async false
set_option maxRecDepth 100000
set_option maxHeartbeats 1000000
namespace K2
open PySem PySem.Spec PyProof.Rows L2 DL
theorem kind_else {w : Str} (hd : (hd1 w == ".") = false) (hn : isNumB w = false) : kindS w ∈ (["key", "sign", "name", "variable", "none"] : List Str) := by
  unfold kindS
  rw [hd, hn]
  split
  · decide +kernel
  · split
    · decide +kernel
    · split
      · decide +kernel
      · split
        · decide +kernel
        · simp only [Bool.false_eq_true, if_false, Bool.false_and]
          decide +kernel
theorem nin_two (k : Str) : ninD (.str k) (.tup [c_NUMBER, c_WORD]) = some (.bl (!([("number" : Str), "word"].any fun j => decide (j = k)))) := by
  show (inX (.str k) (.tup (([("number" : Str), "word"] : List Str).map .str))).map (fun b => D.bl (!b)) = _
  rw [in_strs]
  rfl
theorem value_of {w : Str} (h : Tw w) {n : Int} (hn : isNumB w = true → intD [.str w] = some (.int n)) : f_value_of [.str w] = match valL w n with
    | [v] => .ok v
    | _ => .exc 3 (.str w) := by
  show (b_value_of [some (.str w)]).fin = _
  have t1 : T.or (T.not (T.val (E.isi .str (E.var 0)))) (T.val (E.op ninD (E.call f_word_kind_by (A.cons (E.var 0) A.nil)) (E.tup (A.cons (E.k c_NUMBER) (A.cons (E.k c_WORD) A.nil))))) [some (.str w)] = .ok (!([("number" : Str), "word"].any fun j => decide (j = kindS w))) := by
    show (((f_word_kind_by [.str w]).bind fun x => R.of (ninD x (.tup [c_NUMBER, c_WORD]))).bind fun x => R.of (toB x)) = _
    rw [word_kind_by h, R.bind_ok, nin_two]
    rfl
  have e1 : S.ret (E.call f_value_by (A.cons (E.var 0) A.nil)) [some (.str w)] = R.toS (f_value_by [.str w]) [some (.str w)] fun d => .rt d := rfl
  unfold b_value_of S.seq S.ite
  rw [t1]
  cases hd : (hd1 w == ".")
  · cases hb : isNumB w
    · have hk := kind_else hd hb
      have : ([("number" : Str), "word"].any fun j => decide (j = kindS w)) = false := by
        have all : ((["key", "sign", "name", "variable", "none"] : List Str).all fun k => !([("number" : Str), "word"].any fun j => decide (j = k))) = true := by decide +kernel
        have := List.all_eq_true.mp all _ hk
        simpa using this
      rw [this]
      unfold valL
      rw [hd, hb]
      rfl
    · have : ([("number" : Str), "word"].any fun j => decide (j = kindS w)) = true := by
        rw [kind_num hb]
        decide +kernel
      rw [this]
      simp only [R.toS, Bool.not_true, Bool.false_eq_true, if_false, S.pass]
      rw [e1, value_by h, hd, hn hb]
      unfold valL
      rw [hd, hb]
      rfl
  · have hk := kind_dot hd
    cases hw : wordB w
    · have : ([("number" : Str), "word"].any fun j => decide (j = kindS w)) = false := by
        rw [hk, hw]
        decide +kernel
      rw [this]
      unfold valL
      rw [hd, hw]
      rfl
    · have : ([("number" : Str), "word"].any fun j => decide (j = kindS w)) = true := by
        rw [hk, hw]
        decide +kernel
      rw [this]
      simp only [R.toS, Bool.not_true, Bool.false_eq_true, if_false, S.pass]
      rw [e1, value_by h, hd]
      unfold valL
      rw [hd, hw]
      rfl
end K2

set_option linter.all false
set_option Elab.async false
set_option maxRecDepth 100000
set_option maxHeartbeats 1000000
namespace K2
open PySem PySem.Spec PyProof.Rows L2 DL
theorem word_of_str {w : Str} (h : Tw w) (hd : (hd1 w == ".") = true) (hw : wordB w = true) : f_word_of [.str (tl1 w)] = .ok (.str w) := by
  have ht := cut_tw h (some 1) none
  have hwt : (among lettersS (tl1 w) && decide ((tl1 w).length ≤ 6)) = true := by
    unfold wordB at hw
    rw [hd] at hw
    exact hw
  have t0 : f_is_value [.str (tl1 w)] = .ok (.bl true) := by
    have e0 : f_is_number [.str (tl1 w)] = .ok (.bl false) := rfl
    show (b_is_value [some (.str (tl1 w))]).fin = _
    unfold b_is_value S.ret E.or
    show (R.toS ((f_is_number [.str (tl1 w)]).bind fun x => (R.of (toB x)).bind fun b => if b then R.ok (.bl true) else f_is_word_text [.str (tl1 w)]) _ _).fin = _
    rw [e0, R.bind_ok, is_word_text ht, hwt]
    rfl
  have e2 : addD (.str ".") (.str (tl1 w)) = some (.str w) := by
    obtain ⟨r, e⟩ := dot_first hd
    have hs : small (("." : Str).length + (tl1 w).length) = true := by
      refine decide_eq_true ?_
      have h9 : (tl1 w).cps.size ≤ 300 := ht.sz
      have e1 : ("." : Str).length = 1 := by decide +kernel
      have e2 : (tl1 w).length = (tl1 w).cps.size := rfl
      omega
    show (if small (("." : Str).length + (tl1 w).length) then some (D.str (("." : Str) ++ tl1 w)) else none) = _
    rw [if_pos hs, e, tl_cons]
    have e9 : (("." : Str) ++ (⟨⟨r⟩⟩ : Str)) = ⟨⟨46 :: r⟩⟩ := by
      have e8 : ("." : Str) = ⟨⟨[46]⟩⟩ := by decide +kernel
      rw [e8]
      show (⟨(⟨[46]⟩ : Array Nat) ++ (⟨r⟩ : Array Nat)⟩ : Str) = _
      simp
    rw [e9]
  show (b_word_of [some (.str (tl1 w))]).fin = _
  have t1 : T.not (T.val (E.call f_is_value (A.cons (E.var 0) A.nil))) [some (.str (tl1 w))] = .ok false := by
    show (((f_is_value [.str (tl1 w)]).bind fun x => R.of (toB x)).bind fun b => R.ok (!b)) = _
    rw [t0]
    rfl
  have e3 : f_word_by [.str (tl1 w)] = .ok (.str w) := by
    show (R.toS (R.of (addD (.str ".") (.str (tl1 w)))) _ _).fin = _
    rw [e2]
    rfl
  unfold b_word_of S.seq S.ite
  rw [t1]
  show (R.toS (f_word_by [.str (tl1 w)]) _ _).fin = _
  rw [e3]
  rfl
theorem word_of_int {w : Str} {n : Int} (h1 : -999999 ≤ n) (h2 : n ≤ 999999) (hs : strD [.int n] = some (.str w)) : f_word_of [.int n] = .ok (.str w) := by
  have t0 : f_is_value [.int n] = .ok (.bl true) := by
    have e0 : f_is_number [.int n] = .ok (.bl true) := by
      have c1 : E.chain leD leD (E.op subD (E.k (.int 0)) (E.k c_GREATEST)) (E.var 0) (E.k c_GREATEST) [some (.int n)] = .ok (.bl true) := by
        have a1 : leD (.int (0 - 999999)) (.int n) = some (.bl true) := by
          show some (D.bl (decide ((0 - 999999 : Int) ≤ n))) = _
          rw [decide_eq_true (by omega)]
        have a2 : leD (.int n) (.int 999999) = some (.bl true) := by
          show some (D.bl (decide (n ≤ 999999))) = _
          rw [decide_eq_true h2]
        show ((R.of (leD (.int (0 - 999999)) (.int n))).bind fun z => (R.of (toB z)).bind fun k => if k then (R.ok (D.int 999999)).bind fun w => R.of (leD (.int n) w) else .ok (.bl false)) = _
        rw [a1]
        show R.of (leD (.int n) (.int 999999)) = _
        rw [a2]
        rfl
      show (R.toS (E.chain leD leD (E.op subD (E.k (.int 0)) (E.k c_GREATEST)) (E.var 0) (E.k c_GREATEST) [some (.int n)]) _ _).fin = _
      rw [c1]
      rfl
    show (R.toS ((f_is_number [.int n]).bind fun x => (R.of (toB x)).bind fun b => if b then R.ok (.bl true) else f_is_word_text [.int n]) _ _).fin = _
    rw [e0]
    rfl
  have e3 : f_word_by [.int n] = .ok (.str w) := by
    show (R.toS (R.of (strD [.int n])) _ _).fin = _
    rw [hs]
    rfl
  show (b_word_of [some (.int n)]).fin = _
  have t1 : T.not (T.val (E.call f_is_value (A.cons (E.var 0) A.nil))) [some (.int n)] = .ok false := by
    show (((f_is_value [.int n]).bind fun x => R.of (toB x)).bind fun b => R.ok (!b)) = _
    rw [t0]
    rfl
  unfold b_word_of S.seq S.ite
  rw [t1]
  show (R.toS (f_word_by [.int n]) _ _).fin = _
  rw [e3]
  rfl
end K2

set_option linter.all false
set_option Elab.async false
set_option maxRecDepth 100000
set_option maxHeartbeats 1000000
namespace K2
open PySem PySem.Spec PyProof.Rows L2 DL
/-- data that _law_is finds like themselves, in n calls -/
inductive Same : Nat → D → Prop
  | non {n : Nat} : Same (n + 1) .non
  | bl {n : Nat} (b : Bool) : Same (n + 1) (.bl b)
  | int {n : Nat} (i : Int) : Same (n + 1) (.int i)
  | str {n : Nat} (s : Str) : PyData.strOk s = true → Same (n + 1) (.str s)
  | tup {n : Nat} (xs : List D) : (∀ x ∈ xs, Same n x) → xs.length ≤ 1000 → Same (n + 1) (.tup xs)
  | lst {n : Nat} (xs : List D) : (∀ x ∈ xs, Same n x) → xs.length ≤ 1000 → Same (n + 2) (.lst xs)
  | dic {n : Nat} (ks : List (Key × D)) : eqD (.dic ks) (.dic ks) = some (.bl true) → Same (n + 1) (.dic ks)
theorem ix_tup (xs : List D) (k : Nat) (x : D) (h : xs[k]? = some x) : ixD (.tup xs) (.int k) = some x := by
  show atI xs k = _
  have hk := (List.getElem?_eq_some_iff.mp h).1
  unfold atI ixN
  rw [if_pos (by omega), if_pos (by omega)]
  simpa using h
theorem is_lc (f : List D → R D) (xs : List D) (h : ∀ x ∈ xs, f [x, x] = .ok (.bl true)) : ∀ (ys : List D) (k : Nat), ys = xs.drop k →
    lcL (B.two 2 3) T.yes (E.call f (A.cons (E.op ixD (E.var 0) (E.var 2)) (A.cons (E.var 3) A.nil))) [some (.tup xs), some (.tup xs), none, none] (enumL k ys) = .ok (ys.map fun _ => .bl true)
  | [], _, _ => rfl
  | y :: ys, k, e => by
    have hk : xs[k]? = some y := by
      rw [← List.head?_drop, ← e]
      rfl
    have hy : y ∈ xs := List.mem_of_getElem? hk
    have e2 : ys = xs.drop (k + 1) := by
      rw [← List.tail_drop, ← e]
      rfl
    have ih := is_lc f xs h ys (k + 1) e2
    unfold enumL lcL
    show ((R.ok true).bind fun b => if b then (E.call f (A.cons (E.op ixD (E.var 0) (E.var 2)) (A.cons (E.var 3) A.nil)) [some (.tup xs), some (.tup xs), some (.int (k : Nat)), some y]).bind fun y => (lcL (B.two 2 3) T.yes (E.call f (A.cons (E.op ixD (E.var 0) (E.var 2)) (A.cons (E.var 3) A.nil))) [some (.tup xs), some (.tup xs), none, none] (enumL (k + 1) ys)).bind fun ys => R.ok (y :: ys) else lcL (B.two 2 3) T.yes (E.call f (A.cons (E.op ixD (E.var 0) (E.var 2)) (A.cons (E.var 3) A.nil))) [some (.tup xs), some (.tup xs), none, none] (enumL (k + 1) ys)) = _
    rw [R.bind_ok, if_pos rfl]
    have e3 : E.call f (A.cons (E.op ixD (E.var 0) (E.var 2)) (A.cons (E.var 3) A.nil)) [some (.tup xs), some (.tup xs), some (.int (k : Nat)), some y] = .ok (.bl true) := by
      show ((R.of (ixD (.tup xs) (.int (k : Nat)))).bind fun x => R.ok [x, y]).bind f = _
      rw [ix_tup xs k y hk]
      exact h y hy
    rw [e3, R.bind_ok, ih]
    rfl
end K2

set_option linter.all false
set_option Elab.async false
set_option maxRecDepth 100000
set_option maxHeartbeats 1000000
namespace K2
open PySem PySem.Spec PyProof.Rows L2 DL
theorem eqP_int (i : Int) : eqP (.int i) (.int i) = some true := by
  unfold eqP
  simp [toP, SeqAt.shaped, PyData.canLay0, PyData.depth, PyData.eqv]
theorem eq_int (i : Int) : eqD (.int i) (.int i) = some (.bl true) := by
  show (eqP (.int i) (.int i)).map D.bl = _
  rw [eqP_int]
  rfl
theorem neq_int (i : Int) : neD (.int i) (.int i) = some (.bl false) := by
  show (eqP (.int i) (.int i)).map (fun b => D.bl (!b)) = _
  rw [eqP_int]
  rfl
theorem all_true (ys : List D) : allD [.lst (ys.map fun _ => .bl true)] = some (.bl true) := by
  rw [all_bl ys fun _ => true]
  simp
theorem is_tup (n : Nat) (xs : List D) (h : ∀ x ∈ xs, f__law_is n [x, x] = .ok (.bl true)) (hl : xs.length ≤ 1000) : f__law_is (n + 1) [.tup xs, .tup xs] = .ok (.bl true) := by
  have e1 : E.lc [2, 3] (B.two 2 3) (I.enum (E.var 1)) T.yes (E.call (f__law_is n) (A.cons (E.op ixD (E.var 0) (E.var 2)) (A.cons (E.var 3) A.nil))) [some (.tup xs), some (.tup xs), none, none] = .ok (.lst (xs.map fun _ => .bl true)) := by
    show ((lcL (B.two 2 3) T.yes (E.call (f__law_is n) (A.cons (E.op ixD (E.var 0) (E.var 2)) (A.cons (E.var 3) A.nil))) [some (.tup xs), some (.tup xs), none, none] (enumL 0 xs)).nx.bind fun ys => R.of (if small ys.length then some (D.lst ys) else none)) = _
    rw [is_lc (f__law_is n) xs h xs 0 rfl]
    have : small (xs.map fun _ => D.bl true).length = true := decide_eq_true (by rw [List.length_map]; omega)
    simp only [R.nx, R.bind_ok, this, if_true, R.of_some]
  have t2 : T.or (T.not (T.val (E.isi .tuple (E.var 0)))) (T.val (E.op neD (E.fn lenD (A.cons (E.var 0) A.nil)) (E.fn lenD (A.cons (E.var 1) A.nil)))) [some (.tup xs), some (.tup xs), none, none] = .ok false := by
    show ((R.of (neD (.int xs.length) (.int xs.length))).bind fun x => R.of (toB x)) = _
    rw [neq_int]
    rfl
  have t3 : S.ret (E.fn allD (A.cons (E.lc [2, 3] (B.two 2 3) (I.enum (E.var 1)) T.yes (E.call (f__law_is n) (A.cons (E.op ixD (E.var 0) (E.var 2)) (A.cons (E.var 3) A.nil)))) A.nil)) [some (.tup xs), some (.tup xs), none, none] = .rt (.bl true) := by
    show R.toS (((E.lc [2, 3] (B.two 2 3) (I.enum (E.var 1)) T.yes (E.call (f__law_is n) (A.cons (E.op ixD (E.var 0) (E.var 2)) (A.cons (E.var 3) A.nil))) [some (.tup xs), some (.tup xs), none, none]).bind fun x => R.ok [x]).bind fun xs => R.of (allD xs)) _ _ = _
    rw [e1, R.bind_ok, R.bind_ok, all_true]
    rfl
  have t1 : T.val (E.isi .tuple (E.var 1)) [some (.tup xs), some (.tup xs), none, none] = .ok true := rfl
  show (b__law_is (f__law_is n) [some (.tup xs), some (.tup xs), none, none]).fin = _
  unfold b__law_is S.seq S.ite
  rw [t1]
  simp only [R.toS, if_true]
  rw [t2]
  simp only [R.toS, if_true, Bool.false_eq_true, if_false, S.pass]
  rw [t3]
  rfl
theorem is_same {n : Nat} {d : D} (h : Same n d) : f__law_is n [d, d] = .ok (.bl true) := by
  induction h with
  | non => kernel_rfl
  | bl b => cases b <;> kernel_rfl
  | @int n i =>
    have e : f__law_is (n + 1) [.int i, .int i] = (R.toS (R.of (eqD (.int i) (.int i))) [some (.int i), some (.int i), none, none] fun d => .rt d).fin := by kernel_rfl
    rw [e, eq_int]
    rfl
  | @str n s hs =>
    have e : f__law_is (n + 1) [.str s, .str s] = (R.toS (R.of (eqD (.str s) (.str s))) [some (.str s), some (.str s), none, none] fun d => .rt d).fin := by kernel_rfl
    rw [e, eq_str s s hs hs, beq_self_eq_true]
    rfl
  | @dic n ks hs =>
    show (b__law_is (f__law_is n) [some (.dic ks), some (.dic ks), none, none]).fin = _
    have t0 : T.val (E.isi .tuple (E.var 1)) [some (.dic ks), some (.dic ks), none, none] = .ok false := rfl
    have t1 : T.val (E.isi .list (E.var 1)) [some (.dic ks), some (.dic ks), none, none] = .ok false := rfl
    have t2 : T.val (E.isi .dict (E.var 1)) [some (.dic ks), some (.dic ks), none, none] = .ok true := rfl
    have t3 : S.ret (E.and (E.isi .dict (E.var 0)) (E.op eqD (E.var 0) (E.var 1))) [some (.dic ks), some (.dic ks), none, none] = .rt (.bl true) := by
      show R.toS (R.of (eqD (.dic ks) (.dic ks))) _ _ = _
      rw [hs]
      rfl
    unfold b__law_is S.seq S.ite
    rw [t0]
    simp only [R.toS, Bool.false_eq_true, if_false, S.pass]
    rw [t1]
    simp only [R.toS, Bool.false_eq_true, if_false, S.pass]
    rw [t2]
    simp only [R.toS, if_true]
    rw [t3]
    rfl
  | @tup n xs h hl ih => exact is_tup n xs ih hl
  | @lst n xs h hl ih =>
    have hg := is_tup n xs ih hl
    show (b__law_is (f__law_is (n + 1)) [some (.lst xs), some (.lst xs), none, none]).fin = _
    generalize f__law_is (n + 1) = g at hg ⊢
    have t0 : T.val (E.isi .tuple (E.var 1)) [some (.lst xs), some (.lst xs), none, none] = .ok false := rfl
    have t1 : T.val (E.isi .list (E.var 1)) [some (.lst xs), some (.lst xs), none, none] = .ok true := rfl
    have t3 : S.ret (E.and (E.isi .list (E.var 0)) (E.call g (A.cons (E.fn tupleD (A.cons (E.var 0) A.nil)) (A.cons (E.fn tupleD (A.cons (E.var 1) A.nil)) A.nil)))) [some (.lst xs), some (.lst xs), none, none] = .rt (.bl true) := by
      show R.toS (g [.tup xs, .tup xs]) _ _ = _
      rw [hg]
      rfl
    unfold b__law_is S.seq S.ite
    rw [t0]
    simp only [R.toS, Bool.false_eq_true, if_false, S.pass]
    rw [t1]
    simp only [R.toS, if_true]
    rw [t3]
    rfl
/-- shaped data: no dicts, little depth -/
structure Sh (k : Nat) (d : D) : Prop where
  p : ∃ p, toP d = some p ∧ PyData.canLay0 p = true ∧ PyData.depth p ≤ k
theorem shs {k : Nat} : ∀ {xs : List D}, (∀ x ∈ xs, Sh k x) → ∃ ps, toPs xs = some ps ∧ ps.length = xs.length ∧ PyData.canLayAll0 ps = true ∧ PyData.depthAll ps ≤ k
  | [], _ => ⟨[], rfl, rfl, by simp [PyData.canLayAll0], by simp [PyData.depthAll]⟩
  | x :: xs, h => by
    obtain ⟨p, h1, h2, h3⟩ := (h x (List.mem_cons_self ..)).p
    obtain ⟨ps, g1, g2, g3, g4⟩ := shs fun y hy => h y (List.mem_cons_of_mem _ hy)
    refine ⟨p :: ps, by unfold toPs; rw [h1, g1]; rfl, by simp [g2], by simp [PyData.canLayAll0, h2, g3], ?_⟩
    simp only [PyData.depthAll]
    omega
theorem eqP_nil {xs : List D} {k : Nat} (h : ∀ x ∈ xs, Sh k x) (hk : k ≤ 60) : eqP (.lst xs) (.lst []) = some xs.isEmpty := by
  obtain ⟨ps, g1, g2, g3, g4⟩ := shs h
  have a1 : toP (.lst xs) = some (.list ps) := by
    unfold toP
    rw [g1]
    rfl
  have a2 : toP (.lst []) = some (.list []) := rfl
  have a3 : (SeqAt.shaped (.list ps) && SeqAt.shaped (.list [])) = true := by
    have : PyData.depthAll ps ≤ 62 := by omega
    simp [SeqAt.shaped, PyData.canLay0, PyData.depth, PyData.canLayAll0, PyData.depthAll, g3]
    omega
  unfold eqP
  rw [a1, a2, Option.bind_some, Option.bind_some, if_pos a3]
  cases xs with
  | nil =>
    cases ps with
    | nil => simp [PyData.eqv, PyData.eqvAll]
    | cons p ps => simp at g2
  | cons x xs =>
    cases ps with
    | nil => simp at g2
    | cons p ps => simp [PyData.eqv, PyData.eqvAll]
theorem eq_nilD {xs : List D} {k : Nat} (h : ∀ x ∈ xs, Sh k x) (hk : k ≤ 60) : eqD (.lst xs) (.lst []) = some (.bl xs.isEmpty) := by
  show (eqP (.lst xs) (.lst [])).map D.bl = _
  rw [eqP_nil h hk]
  rfl
theorem ne_nilD {xs : List D} {k : Nat} (h : ∀ x ∈ xs, Sh k x) (hk : k ≤ 60) : neD (.lst xs) (.lst []) = some (.bl (!xs.isEmpty)) := by
  show (eqP (.lst xs) (.lst [])).map (fun b => D.bl (!b)) = _
  rw [eqP_nil h hk]
  rfl
theorem sh_str {w : Str} (h : PyData.strOk w = true) : Sh 1 (.str w) := ⟨_, rfl, by simp [PyData.canLay0, h], by simp [PyData.depth]⟩
theorem sh_int (i : Int) : Sh 1 (.int i) := ⟨_, rfl, by simp [PyData.canLay0], by simp [PyData.depth]⟩
end K2

set_option linter.all false
set_option Elab.async false
set_option maxRecDepth 100000
set_option maxHeartbeats 1000000
namespace K2
open PySem PySem.Spec PyProof.Rows L2 DL
/-- as what a word of a kind may come -/
def toldK (k w : Str) : Str := if k == "number" then (if hd1 w == "-" then "BELOW" else "NUMBER") else if k == "key" || k == "sign" then w else if k == "name" then "NAME" else if k == "variable" then "VARIABLE" else if k == "word" then "WORD" else ""
def toldS (w : Str) : Str := toldK (kindS w) w
theorem kinds (w : Str) : kindS w ∈ (["key", "sign", "name", "variable", "number", "word", "none"] : List Str) := by
  unfold kindS
  split
  · decide +kernel
  · split
    · decide +kernel
    · split
      · decide +kernel
      · split
        · decide +kernel
        · split
          · decide +kernel
          · split <;> decide +kernel
theorem kind_num_len {w : Str} (h : kindS w = "number") : isNumB w = true := by
  cases hn : isNumB w
  · exfalso
    cases hd : (hd1 w == ".")
    · have := kind_else hd hn
      rw [h] at this
      exact absurd this (by decide +kernel)
    · have := kind_dot hd
      rw [h] at this
      cases hw : wordB w <;> rw [hw] at this <;> exact absurd this (by decide +kernel)
  · rfl
theorem told_as {w : Str} (h : Tw w) : f_told_as [.str w] = .ok (.str (toldS w)) := by
  have e1 : S.set 1 (E.call f_word_kind_by (A.cons (E.var 0) A.nil)) [some (.str w), none] = .nx [some (.str w), some (.str (kindS w))] := by
    show R.toS (f_word_kind_by [.str w]) _ _ = _
    rw [word_kind_by h]
    rfl
  have t1 : kindS w = "number" → T.and (T.val (E.op eqD (E.var 1) (E.k c_NUMBER))) (T.val (E.op eqD (E.op ixD (E.var 0) (E.k (.int 0))) (E.k (.str "-")))) [some (.str w), some (.str (kindS w))] = .ok (hd1 w == "-") := fun hk => by
    rw [hk]
    have tA : T.val (E.op eqD (E.var 1) (E.k c_NUMBER)) [some (.str w), some (.str "number")] = .ok true := by kernel_rfl
    unfold T.and
    rw [tA, R.bind_ok, if_pos rfl]
    show ((R.of (ixD (.str w) (.int 0))).bind fun x => R.of (eqD x (.str "-"))).bind (fun x => R.of (toB x)) = _
    rw [ix_0 h (num_len (kind_num_len hk)), R.of_some, R.bind_ok, eq_str _ _ (cut_tw h none (some 1)).ok minus_ok]
    rfl
  show (b_told_as [some (.str w), none]).fin = _
  unfold b_told_as S.seq
  rw [e1]
  unfold toldS
  by_cases hk : kindS w = "number"
  · dsimp only
    unfold S.ite
    rw [t1 hk]
    rw [hk]
    cases hd : (hd1 w == "-")
    · have e : toldK "number" w = "NUMBER" := by unfold toldK; rw [hd]; rfl
      rw [e]
      rfl
    · have e : toldK "number" w = "BELOW" := by unfold toldK; rw [hd]; rfl
      rw [e]
      rfl
  · have hm := kinds w
    simp only [List.mem_cons, List.not_mem_nil, or_false] at hm
    rcases hm with e | e | e | e | e | e | e
    · rw [e]
      kernel_rfl
    · rw [e]
      kernel_rfl
    · rw [e]
      kernel_rfl
    · rw [e]
      kernel_rfl
    · exact absurd e hk
    · rw [e]
      kernel_rfl
    · rw [e]
      kernel_rfl
end K2

set_option linter.all false
set_option Elab.async false
set_option maxRecDepth 100000
set_option maxHeartbeats 1000000
namespace K2
open PySem PySem.Spec PyProof.Rows L2 DL
/-- the sorts, by number -/
def sortsL : List D := [.str "entry", .str "known", .str "atom", .str "if", .str "body", .str "count", .str "(", .str "value", .str "term", .str "literal", .str "sign",
  .tup [.str "value", .int 2], .tup [.str "value", .int 1], .tup [.str "value", .int 0], .tup [.str "term", .int 2], .tup [.str "term", .int 1], .tup [.str "term", .int 0],
  .tup [.str "literal", .int 3], .tup [.str "literal", .int 2], .tup [.str "literal", .int 1], .tup [.str "literal", .int 0]]
def sD (n : Nat) : D := sortsL.getD n .non
/-- what may come at a sort, and what is then to come -/
def tab : Nat → List (Str × List Nat)
  | 0 => [("fact", [1]), ("take", [1]), ("rule", [2, 3, 4]), ("drop", [5])]
  | 1 => [("NAME", [6, 7, 11])]
  | 2 => [("NAME", [6, 8, 14])]
  | 3 => [("if", [])]
  | 4 => [("NAME", [6, 8, 14, 17]), ("not", [2, 17]), ("VARIABLE", [10, 8, 17]), ("NUMBER", [10, 8, 17]), ("BELOW", [10, 8, 17]), ("WORD", [10, 8, 17])]
  | 5 => [("NUMBER", [])]
  | 6 => [("(", [])]
  | 7 => [("NUMBER", []), ("BELOW", []), ("WORD", [])]
  | 8 => [("VARIABLE", []), ("NUMBER", []), ("BELOW", []), ("WORD", [])]
  | 9 => [("NAME", [6, 8, 14]), ("not", [2]), ("VARIABLE", [10, 8]), ("NUMBER", [10, 8]), ("BELOW", [10, 8]), ("WORD", [10, 8])]
  | 10 => [("<", []), ("=", []), (">", [])]
  | 11 => [(")", []), (",", [7, 12])]
  | 12 => [(")", []), (",", [7, 13])]
  | 13 => [(")", [])]
  | 14 => [(")", []), (",", [8, 15])]
  | 15 => [(")", []), (",", [8, 16])]
  | 16 => [(")", [])]
  | 17 => [("&", [9, 18])]
  | 18 => [("&", [9, 19])]
  | 19 => [("&", [9, 20])]
  | _ => []
def tabD (n : Nat) : List (Key × D) := (tab n).map fun p => (.inr p.1, .tup (p.2.map sD))
theorem options : ∀ n, n < 21 → f_options_of [sD n] = .ok (.dic (tabD n))
  | 0, _ => by kernel_rfl
  | 1, _ => by kernel_rfl
  | 2, _ => by kernel_rfl
  | 3, _ => by kernel_rfl
  | 4, _ => by kernel_rfl
  | 5, _ => by kernel_rfl
  | 6, _ => by kernel_rfl
  | 7, _ => by kernel_rfl
  | 8, _ => by kernel_rfl
  | 9, _ => by kernel_rfl
  | 10, _ => by kernel_rfl
  | 11, _ => by kernel_rfl
  | 12, _ => by kernel_rfl
  | 13, _ => by kernel_rfl
  | 14, _ => by kernel_rfl
  | 15, _ => by kernel_rfl
  | 16, _ => by kernel_rfl
  | 17, _ => by kernel_rfl
  | 18, _ => by kernel_rfl
  | 19, _ => by kernel_rfl
  | 20, _ => by kernel_rfl
  | n + 21, h => absurd h (by omega)
def fnd (l : List (Str × List Nat)) (t : Str) : Option (List Nat) := (l.find? fun p => decide (p.1 = t)).map (·.2)
theorem val_fnd (t : Str) : ∀ l : List (Str × List Nat), valD (l.map fun p => ((.inr p.1 : Key), D.tup (p.2.map sD))) (.inr t) = (fnd l t).map fun x => .tup (x.map sD)
  | [] => rfl
  | p :: l => by
    have ih := val_fnd t l
    unfold valD fnd at *
    rw [List.map_cons, List.find?_cons, List.find?_cons]
    by_cases h : p.1 = t
    · subst h
      simp
    · have h2 : ¬ ((Sum.inr p.1 : Key) = .inr t) := fun e => h (Sum.inr.inj e)
      simp only [h2, h, decide_false]
      exact ih
theorem fnd_mem {l : List (Str × List Nat)} {t : Str} {x : List Nat} (h : fnd l t = some x) : ∃ p ∈ l, p.2 = x := by
  unfold fnd at h
  obtain ⟨p, h1, h2⟩ := Option.map_eq_some_iff.mp h
  exact ⟨p, List.mem_of_find?_eq_some h1, h2⟩
theorem tab_all : ((List.range 21).all fun s => (tab s).all fun p => (p.2.all fun n => decide (n < 21)) && decide (p.2.length ≤ 4)) = true := by decide +kernel
theorem tab_ok {s : Nat} (hs : s < 21) {t : Str} {x : List Nat} (h : fnd (tab s) t = some x) : (∀ n ∈ x, n < 21) ∧ x.length ≤ 4 := by
  obtain ⟨p, h1, h2⟩ := fnd_mem h
  subst h2
  have a := List.all_eq_true.mp (List.all_eq_true.mp tab_all s (List.mem_range.mpr hs)) p h1
  rw [Bool.and_eq_true, List.all_eq_true] at a
  exact ⟨fun n hn => of_decide_eq_true (a.1 n hn), of_decide_eq_true a.2⟩
def stepN (W : List Nat) (t : Str) : Option (List Nat) := match W.getLast? with
  | none => none
  | some s => (fnd (tab s) t).map fun x => W.dropLast ++ x.reverse
def walkP : List Nat → List Str → Nat → List Nat × Option Nat
  | W, [], _ => (W, none)
  | W, w :: ws, k => match stepN W (toldS w) with
    | none => (W, some k)
    | some W' => walkP W' ws (k + 1)
def Good (W : List Nat) : Prop := ∀ n ∈ W, n < 21
theorem sD_sh : ∀ n, n < 21 → Sh 2 (sD n) := fun n hn => by
  have st : ∀ s : Str, PyData.strOk s = true → Sh 2 (.str s) := fun s h => ⟨_, rfl, by simp [PyData.canLay0, h], by simp [PyData.depth]⟩
  have tp : ∀ (s : Str) (i : Int), PyData.strOk s = true → Sh 2 (.tup [.str s, .int i]) := fun s i h => ⟨_, rfl, by simp [PyData.canLay0, PyData.canLayAll0, h], by simp [PyData.depth, PyData.depthAll]⟩
  match n, hn with
  | 0, _ => exact st "entry" (by decide +kernel)
  | 1, _ => exact st "known" (by decide +kernel)
  | 2, _ => exact st "atom" (by decide +kernel)
  | 3, _ => exact st "if" (by decide +kernel)
  | 4, _ => exact st "body" (by decide +kernel)
  | 5, _ => exact st "count" (by decide +kernel)
  | 6, _ => exact st "(" (by decide +kernel)
  | 7, _ => exact st "value" (by decide +kernel)
  | 8, _ => exact st "term" (by decide +kernel)
  | 9, _ => exact st "literal" (by decide +kernel)
  | 10, _ => exact st "sign" (by decide +kernel)
  | 11, _ => exact tp "value" 2 (by decide +kernel)
  | 12, _ => exact tp "value" 1 (by decide +kernel)
  | 13, _ => exact tp "value" 0 (by decide +kernel)
  | 14, _ => exact tp "term" 2 (by decide +kernel)
  | 15, _ => exact tp "term" 1 (by decide +kernel)
  | 16, _ => exact tp "term" 0 (by decide +kernel)
  | 17, _ => exact tp "literal" 3 (by decide +kernel)
  | 18, _ => exact tp "literal" 2 (by decide +kernel)
  | 19, _ => exact tp "literal" 1 (by decide +kernel)
  | 20, _ => exact tp "literal" 0 (by decide +kernel)
  | n + 21, h => exact absurd h (by omega)
theorem Good.sh {W : List Nat} (h : Good W) : ∀ x ∈ W.map sD, Sh 2 x := fun x hx => by
  obtain ⟨n, h1, rfl⟩ := List.mem_map.mp hx
  exact sD_sh n (h n h1)
theorem Good.step {W W' : List Nat} {t : Str} (h : Good W) (e : stepN W t = some W') : Good W' ∧ W'.length ≤ W.length + 4 := by
  unfold stepN at e
  cases hs : W.getLast? with
  | none => rw [hs] at e; cases e
  | some s =>
    rw [hs] at e
    obtain ⟨x, h1, h2⟩ := Option.map_eq_some_iff.mp e
    have hs2 : s < 21 := h s (List.mem_of_getLast? hs)
    obtain ⟨h3, h4⟩ := tab_ok hs2 h1
    subst h2
    refine ⟨fun n hn => ?_, by rw [List.length_append, List.length_dropLast, List.length_reverse]; omega⟩
    rcases List.mem_append.mp hn with hn | hn
    · exact h n ((List.dropLast_sublist W).subset hn)
    · exact h3 n (List.mem_reverse.mp hn)
end K2

set_option linter.all false
set_option Elab.async false
set_option maxRecDepth 100000
set_option maxHeartbeats 1000000
namespace K2
open PySem PySem.Spec PyProof.Rows L2 DL
theorem op_ok {f : D → D → Option D} {ga gb : E} {ρ : DEnv} {x y : D} (h1 : ga ρ = .ok x) (h2 : gb ρ = .ok y) : E.op f ga gb ρ = R.of (f x y) := by
  unfold E.op
  rw [h1, h2]
  rfl
theorem un_ok {f : D → Option D} {ga : E} {ρ : DEnv} {x : D} (h1 : ga ρ = .ok x) : E.un f ga ρ = R.of (f x) := by
  unfold E.un
  rw [h1]
  rfl
theorem val_ok {ga : E} {ρ : DEnv} {b : Bool} (h1 : ga ρ = .ok (.bl b)) : T.val ga ρ = .ok b := by
  unfold T.val
  rw [h1]
  rfl
theorem seq_nx {s t : Sm} {ρ ρ' : DEnv} (h : s ρ = .nx ρ') : S.seq s t ρ = t ρ' := by
  unfold S.seq
  rw [h]
theorem seq_rt {s t : Sm} {ρ : DEnv} {d : D} (h : s ρ = .rt d) : S.seq s t ρ = .rt d := by
  unfold S.seq
  rw [h]
theorem set_ok {i : Nat} {g : E} {ρ : DEnv} {d : D} (h : g ρ = .ok d) : S.set i g ρ = .nx (ρ.set i (some d)) := by
  unfold S.set
  rw [h]
  rfl
theorem ret_ok {g : E} {ρ : DEnv} {d : D} (h : g ρ = .ok d) : S.ret g ρ = .rt d := by
  unfold S.ret
  rw [h]
  rfl
theorem ite_tt {t : DEnv → R Bool} {s u : Sm} {ρ : DEnv} (h : t ρ = .ok true) : S.ite t s u ρ = s ρ := by
  unfold S.ite
  rw [h]
  rfl
theorem ite_ff {t : DEnv → R Bool} {s u : Sm} {ρ : DEnv} (h : t ρ = .ok false) : S.ite t s u ρ = u ρ := by
  unfold S.ite
  rw [h]
  simp [R.toS]
/-- a lap of the walk -/
def wb : Sm := (S.seq (S.set 5 (E.ite (T.val (E.op neD (E.var 2) (E.lst A.nil))) (E.call f_options_of (A.cons (E.op ixD (E.var 2) (E.un negD (E.k (.int 1)))) A.nil)) E.dnew)) (S.seq (S.ite (T.val (E.op ninD (E.call f_told_as (A.cons (E.var 4) A.nil)) (E.var 5))) (S.ret (E.tup (A.cons (E.var 2) (A.cons (E.var 3) A.nil)))) S.pass) (S.set 2 (E.op addD (E.slice (E.var 2) O.no (O.some (E.un negD (E.k (.int 1))))) (E.un revD (E.fn listD (A.cons (E.op dixD (E.var 5) (E.call f_told_as (A.cons (E.var 4) A.nil))) A.nil)))))))
def optW (W : List Nat) : List (Key × D) := match W.getLast? with
  | none => []
  | some s => tabD s
theorem ix_last (I : List D) (s : D) : ixD (.lst (I ++ [s])) (.int (-1)) = some s := by
  show atI (I ++ [s]) (-1) = _
  unfold atI ixN
  rw [if_neg (by decide), if_pos (by simp; omega), Option.bind_some]
  have : ((-1 : Int) + ((I ++ [s]).length : Nat)).toNat = I.length := by simp; omega
  rw [this]
  simp
theorem sx_m1 (n : Nat) (h : 1 ≤ n) : HT.sIx n n (some (-1)) = n - 1 := by
  show (if (-1 : Int) < 0 then ((-1 : Int) + (n : Int)).toNat else min (-1 : Int).toNat n) = _
  rw [if_pos (by decide)]
  omega
theorem cut_last {α : Type} (I : List α) (s : α) : cutL (I ++ [s]) none (some (-1)) = I := by
  show ((I ++ [s]).drop 0).take (HT.sIx (I ++ [s]).length (I ++ [s]).length (some (-1)) - 0) = I
  rw [sx_m1 _ (by simp), List.drop_zero, Nat.sub_zero, List.take_left']
  simp
theorem wstep {W : List Nat} (hg : Good W) (hl : W.length ≤ 50000) {w : Str} (hw : Tw w) (a b : D) (k : Nat) (o5 : Option D) :
    wb [some a, some b, some (.lst (W.map sD)), some (.int k), some (.str w), o5] = match stepN W (toldS w) with
      | none => .rt (.tup [.lst (W.map sD), .int k])
      | some W' => .nx [some a, some b, some (.lst (W'.map sD)), some (.int k), some (.str w), some (.dic (optW W))] := by
  have e1 : (E.ite (T.val (E.op neD (E.var 2) (E.lst A.nil))) (E.call f_options_of (A.cons (E.op ixD (E.var 2) (E.un negD (E.k (.int 1)))) A.nil)) E.dnew) [some a, some b, some (.lst (W.map sD)), some (.int k), some (.str w), o5] = .ok (.dic (optW W)) := by
    have t : T.val (E.op neD (E.var 2) (E.lst A.nil)) [some a, some b, some (.lst (W.map sD)), some (.int k), some (.str w), o5] = .ok (!W.isEmpty) := by
      show ((R.of (neD (.lst (W.map sD)) (.lst []))).bind fun x => R.of (toB x)) = _
      rw [ne_nilD hg.sh (by decide), List.isEmpty_map]
      rfl
    unfold E.ite
    rw [t, R.bind_ok]
    rcases List.eq_nil_or_concat W with h | ⟨I, s, h⟩
    · subst h
      rfl
    · rw [List.concat_eq_append] at h
      subst h
      have hs : s < 21 := hg s (List.mem_append.mpr (.inr (List.mem_singleton.mpr rfl)))
      have e2 : (I ++ [s]).isEmpty = false := by simp
      rw [e2]
      show (((R.of (ixD (.lst ((I ++ [s]).map sD)) (.int (-1)))).bind fun x => R.ok [x]).bind f_options_of) = _
      rw [List.map_append, List.map_cons, List.map_nil, ix_last, R.of_some, R.bind_ok, R.bind_ok, options s hs]
      unfold optW
      simp
  have e0 : S.set 5 (E.ite (T.val (E.op neD (E.var 2) (E.lst A.nil))) (E.call f_options_of (A.cons (E.op ixD (E.var 2) (E.un negD (E.k (.int 1)))) A.nil)) E.dnew) [some a, some b, some (.lst (W.map sD)), some (.int k), some (.str w), o5] = .nx [some a, some b, some (.lst (W.map sD)), some (.int k), some (.str w), some (.dic (optW W))] := by
    unfold S.set
    rw [e1]
    rfl
  have vo : valD (optW W) (.inr (toldS w)) = (match W.getLast? with | none => (none : Option (List Nat)) | some s => fnd (tab s) (toldS w)).map fun (x : List Nat) => D.tup (x.map sD) := by
    unfold optW
    cases W.getLast? with
    | none => rfl
    | some s => exact val_fnd (toldS w) (tab s)
  have t2 : T.val (E.op ninD (E.call f_told_as (A.cons (E.var 4) A.nil)) (E.var 5)) [some a, some b, some (.lst (W.map sD)), some (.int k), some (.str w), some (.dic (optW W))] = .ok (!(stepN W (toldS w)).isSome) := by
    show (((f_told_as [.str w]).bind fun x => R.of (ninD x (.dic (optW W)))).bind fun x => R.of (toB x)) = _
    rw [told_as hw, R.bind_ok]
    show ((R.of (some (D.bl (!(valD (optW W) (.inr (toldS w))).isSome)))).bind fun x => R.of (toB x)) = _
    rw [vo]
    unfold stepN
    cases W.getLast? with
    | none => rfl
    | some s =>
      dsimp only
      cases fnd (tab s) (toldS w) <;> rfl
  unfold wb S.seq
  rw [e0]
  dsimp only
  unfold S.ite
  rw [t2]
  cases hs : stepN W (toldS w) with
  | none => rfl
  | some W' =>
    have hstep := hg.step hs
    unfold stepN at hs
    cases hL : W.getLast? with
    | none => rw [hL] at hs; cases hs
    | some s =>
      rw [hL] at hs vo
      obtain ⟨x, h1, h2⟩ := Option.map_eq_some_iff.mp hs
      dsimp only at vo
      rw [h1] at vo
      have e3 : E.fn listD (A.cons (E.op dixD (E.var 5) (E.call f_told_as (A.cons (E.var 4) A.nil))) A.nil) [some a, some b, some (.lst (W.map sD)), some (.int k), some (.str w), some (.dic (optW W))] = .ok (.lst (x.map sD)) := by
        show ((((f_told_as [.str w]).bind fun y => R.of (dixD (.dic (optW W)) y)).bind fun y => R.ok [y]).bind fun xs => R.of (listD xs)) = _
        rw [told_as hw, R.bind_ok]
        show (((R.of (valD (optW W) (.inr (toldS w)))).bind fun y => R.ok [y]).bind fun xs => R.of (listD xs)) = _
        rw [vo]
        rfl
      have e4 : E.slice (E.var 2) O.no (O.some (E.un negD (E.k (.int 1)))) [some a, some b, some (.lst (W.map sD)), some (.int k), some (.str w), some (.dic (optW W))] = .ok (.lst (W.dropLast.map sD)) := by
        show R.of (slD (.lst (W.map sD)) none (some (-1))) = _
        show R.ok (D.lst (cutL (W.map sD) none (some (-1)))) = _
        rcases List.eq_nil_or_concat W with h | ⟨I, s', h⟩
        · subst h
          cases hL
        · rw [List.concat_eq_append] at h
          subst h
          rw [List.map_append, List.map_cons, List.map_nil, cut_last, List.dropLast_concat]
      have e5 : E.op addD (E.slice (E.var 2) O.no (O.some (E.un negD (E.k (.int 1))))) (E.un revD (E.fn listD (A.cons (E.op dixD (E.var 5) (E.call f_told_as (A.cons (E.var 4) A.nil))) A.nil))) [some a, some b, some (.lst (W.map sD)), some (.int k), some (.str w), some (.dic (optW W))] = .ok (.lst (W'.map sD)) := by
        rw [op_ok e4 ((un_ok e3).trans (show R.of (revD (.lst (x.map sD))) = R.ok (D.lst (x.map sD).reverse) from rfl))]
        have hsm : small ((W.dropLast.map sD).length + (x.map sD).reverse.length) = true := by
          refine decide_eq_true ?_
          have h5 := (tab_ok (hg s (List.mem_of_getLast? hL)) h1).2
          rw [List.length_map, List.length_dropLast, List.length_reverse, List.length_map]
          omega
        show R.of (if small ((W.dropLast.map sD).length + (x.map sD).reverse.length) then some (D.lst ((W.dropLast.map sD) ++ (x.map sD).reverse)) else none) = _
        rw [if_pos hsm, ← h2, List.map_append, List.map_reverse]
        rfl
      simp only [Option.isSome_some, Bool.not_true, R.toS, Bool.false_eq_true, if_false, S.pass]
      unfold S.set
      rw [e5]
      rfl
theorem wloop (a b : D) : ∀ (ws : List Str) (W : List Nat) (k : Nat), (∀ w ∈ ws, Tw w) → Good W → W.length + 5 * ws.length ≤ 50000 → ∀ o3 o4 o5, ∃ p3 p4 p5,
    forL (B.two 3 4) wb (enumL k (ws.map .str)) [some a, some b, some (.lst (W.map sD)), o3, o4, o5] = match walkP W ws k with
      | (W', some j) => .rt (.tup [.lst (W'.map sD), .int j])
      | (W', none) => .nx [some a, some b, some (.lst (W'.map sD)), p3, p4, p5]
  | [], W, k, _, _, _, o3, o4, o5 => ⟨o3, o4, o5, rfl⟩
  | w :: ws, W, k, hw, hg, hl, o3, o4, o5 => by
    rw [List.length_cons] at hl
    have e := wstep hg (by omega) (hw w (List.mem_cons_self ..)) a b k o5
    cases hs : stepN W (toldS w) with
    | none =>
      rw [hs] at e
      refine ⟨none, none, none, ?_⟩
      have e9 : walkP W (w :: ws) k = (W, some k) := by unfold walkP; rw [hs]
      rw [e9]
      show (match wb [some a, some b, some (.lst (W.map sD)), some (.int (k : Nat)), some (.str w), o5] with | RS.nx ρ2 => forL (B.two 3 4) wb (enumL (k + 1) (ws.map .str)) ρ2 | RS.ct ρ2 => forL (B.two 3 4) wb (enumL (k + 1) (ws.map .str)) ρ2 | RS.bk ρ2 => RS.nx ρ2 | RS.rt d => RS.rt d | RS.exc c g ρ2 => RS.exc c g ρ2 | RS.bad => RS.bad) = _
      rw [e]
    | some W' =>
      rw [hs] at e
      obtain ⟨hg2, hl2⟩ := hg.step hs
      obtain ⟨p3, p4, p5, ih⟩ := wloop a b ws W' (k + 1) (fun x hx => hw x (List.mem_cons_of_mem _ hx)) hg2 (by omega) (some (.int (k : Nat))) (some (.str w)) (some (.dic (optW W)))
      refine ⟨p3, p4, p5, ?_⟩
      have e9 : walkP W (w :: ws) k = walkP W' ws (k + 1) := by
        show (match stepN W (toldS w) with | none => (W, some k) | some W' => walkP W' ws (k + 1)) = _
        rw [hs]
      rw [e9, ← ih]
      show (match wb [some a, some b, some (.lst (W.map sD)), some (.int (k : Nat)), some (.str w), o5] with | RS.nx ρ2 => forL (B.two 3 4) wb (enumL (k + 1) (ws.map .str)) ρ2 | RS.ct ρ2 => forL (B.two 3 4) wb (enumL (k + 1) (ws.map .str)) ρ2 | RS.bk ρ2 => RS.nx ρ2 | RS.rt d => RS.rt d | RS.exc c g ρ2 => RS.exc c g ρ2 | RS.bad => RS.bad) = _
      rw [e]
def optD : Option Nat → D
  | some j => .int j
  | none => .non
theorem walked (s : Nat) (hs : s < 21) (ws : List Str) (hw : ∀ w ∈ ws, Tw w) (hl : ws.length ≤ 5000) : f_walked [sD s, .lst (ws.map .str)] = .ok (.tup [.lst ((walkP [s] ws 0).1.map sD), optD (walkP [s] ws 0).2]) := by
  obtain ⟨p3, p4, p5, e⟩ := wloop (sD s) (.lst (ws.map .str)) ws [s] 0 hw (fun n hn => by rw [List.mem_singleton] at hn; omega) (by simp; omega) none none none
  have e1 : f_walked [sD s, .lst (ws.map .str)] = (S.seq (forL (B.two 3 4) wb (enumL 0 (ws.map .str))) (S.ret (E.tup (A.cons (E.var 2) (A.cons (E.k .non) A.nil)))) [some (sD s), some (.lst (ws.map .str)), some (.lst ([s].map sD)), none, none, none]).fin := by kernel_rfl
  rw [e1]
  unfold S.seq
  rw [e]
  cases hp : walkP [s] ws 0 with
  | mk W' o =>
    cases o with
    | none => rfl
    | some j => rfl
/-- nothing more need come -/
def endB : List Nat → Bool
  | [] => true
  | [s] => decide (17 ≤ s)
  | _ => false
theorem can_end : ∀ W : List Nat, Good W → f_can_end [.lst (W.map sD)] = .ok (.bl (endB W))
  | [], _ => by kernel_rfl
  | [s], h => by
    have hs := h s (List.mem_singleton.mpr rfl)
    match s, hs with
    | 0, _ => kernel_rfl
    | 1, _ => kernel_rfl
    | 2, _ => kernel_rfl
    | 3, _ => kernel_rfl
    | 4, _ => kernel_rfl
    | 5, _ => kernel_rfl
    | 6, _ => kernel_rfl
    | 7, _ => kernel_rfl
    | 8, _ => kernel_rfl
    | 9, _ => kernel_rfl
    | 10, _ => kernel_rfl
    | 11, _ => kernel_rfl
    | 12, _ => kernel_rfl
    | 13, _ => kernel_rfl
    | 14, _ => kernel_rfl
    | 15, _ => kernel_rfl
    | 16, _ => kernel_rfl
    | 17, _ => kernel_rfl
    | 18, _ => kernel_rfl
    | 19, _ => kernel_rfl
    | 20, _ => kernel_rfl
    | n + 21, h => exact absurd h (by omega)
  | s :: t :: W, h => by
    have e1 : E.op eqD (E.var 0) (E.lst A.nil) [some (.lst ((s :: t :: W).map sD))] = .ok (.bl false) := by
      show R.of (eqD (.lst ((s :: t :: W).map sD)) (.lst [])) = _
      rw [eq_nilD (k := 2) h.sh (by decide)]
      rfl
    have e2 : E.op eqD (E.fn lenD (A.cons (E.var 0) A.nil)) (E.k (.int 1)) [some (.lst ((s :: t :: W).map sD))] = .ok (.bl false) := by
      show R.of (eqD (.int ((s :: t :: W).map sD).length) (.int 1)) = _
      rw [eq_1]
      simp
    show (b_can_end [some (.lst ((s :: t :: W).map sD))]).fin = _
    unfold b_can_end S.ret E.or E.and
    rw [e1, e2]
    rfl
def badN (s : Nat) (ws : List Str) : D := match walkP [s] ws 0 with
  | (_, some j) => .int j
  | (W, none) => if endB W then .non else .int ws.length
theorem walk_good : ∀ (ws : List Str) (W : List Nat) (k : Nat), Good W → Good (walkP W ws k).1
  | [], _, _, h => h
  | w :: ws, W, k, h => by
    show Good (match stepN W (toldS w) with | none => (W, some k) | some W' => walkP W' ws (k + 1)).1
    cases hs : stepN W (toldS w) with
    | none => exact h
    | some W' => exact walk_good ws W' (k + 1) (h.step hs).1
theorem first_bad_by (s : Nat) (hs : s < 21) (ws : List Str) (hw : ∀ w ∈ ws, Tw w) (hl : ws.length ≤ 5000) : f_first_bad_by [sD s, .lst (ws.map .str)] = .ok (badN s ws) := by
  have e := walked s hs ws hw hl
  have hg := walk_good ws [s] 0 (fun n hn => by rw [List.mem_singleton] at hn; omega)
  unfold badN
  cases hp : walkP [s] ws 0 with
  | mk W o =>
    rw [hp] at e hg
    have e0 : S.set2 2 3 (E.call f_walked (A.cons (E.var 0) (A.cons (E.var 1) A.nil))) [some (sD s), some (.lst (ws.map .str)), none, none] = .nx [some (sD s), some (.lst (ws.map .str)), some (.lst (W.map sD)), some (optD o)] := by
      show R.toS (f_walked [sD s, .lst (ws.map .str)]) _ _ = _
      rw [e]
      rfl
    show (b_first_bad_by [some (sD s), some (.lst (ws.map .str)), none, none]).fin = _
    unfold b_first_bad_by
    rw [S.seq, e0]
    cases o with
    | some j => rfl
    | none =>
      have t : T.val (E.call f_can_end (A.cons (E.var 2) A.nil)) [some (sD s), some (.lst (ws.map .str)), some (.lst (W.map sD)), some .non] = .ok (endB W) := by
        show ((f_can_end [.lst (W.map sD)]).bind fun x => R.of (toB x)) = _
        rw [can_end W hg]
        rfl
      show (R.toS ((T.val (E.call f_can_end (A.cons (E.var 2) A.nil)) [some (sD s), some (.lst (ws.map .str)), some (.lst (W.map sD)), some .non]).bind fun b => if b then .ok .non else .ok (.int (ws.map D.str).length)) _ fun d => .rt d).fin = _
      rw [t]
      show _ = R.ok (if endB W then D.non else D.int ws.length)
      cases endB W
      · simp [R.toS, RS.fin]
      · rfl
end K2

set_option linter.all false
set_option Elab.async false
set_option maxRecDepth 100000
set_option maxHeartbeats 1000000
namespace K2
open PySem PySem.Spec PyProof.Rows L2 DL
def signsS : Str := " (),.+-&0123456789<=>abcdefghijklmnopqrstuvwxyzABCDEFGHIJKLMNOPQRSTUVWXYZ"
/-- whether a text is a line -/
def lineB (z : Str) : Bool := among signsS z && decide (z.length ≤ 200)
theorem le_200 (n : Nat) : leD (.int n) (.int 200) = some (.bl (decide (n ≤ 200))) := by
  show some (D.bl (decide ((n : Int) ≤ 200))) = _
  congr 2
  exact decide_eq_decide.mpr (by omega)
theorem is_lined {z : Str} (h : Tw z) : f_is_lined [.str z] = .ok (.bl (lineB z)) := by
  have e1 : f_is_lined [.str z] = (R.toS ((f_is_text_of [.str z, .str signsS]).bind fun x => (R.of (toB x)).bind fun b => if b then ((R.of (lenD [.str z])).bind fun y => R.of (leD y (.int 200))) else .ok (.bl false)) [some (.str z)] fun d => .rt d).fin := by kernel_rfl
  rw [e1, is_text _ _ h.szl, len_w h]
  unfold lineB
  cases among signsS z
  · rfl
  · rw [R.bind_ok, R.of_some, R.bind_ok, le_200]
    rfl
theorem is_line {z : Str} (h : Tw z) : f_is_line [.str z] = .ok (.bl (lineB z)) := by
  show (R.toS (f_is_lined [.str z]) _ fun d => .rt d).fin = _
  rw [is_lined h]
  rfl
theorem check_line {z : Str} (h : Tw z) : f_check_line [.str z] = if lineB z then .ok .non else .exc 0 (.str z) := by
  have e1 : f_check_line [.str z] = (R.toS (((f_is_lined [.str z]).bind fun x => R.of (toB x)).bind fun b => R.ok (!b)) [some (.str z)] fun b => if b then .exc 0 (.str z) [some (.str z)] else .nx [some (.str z)]).fin := by kernel_rfl
  rw [e1, is_lined h]
  cases lineB z <;> rfl
def wordsP (z : Str) : List Str := if z == "" then [] else Txt.split z " "
theorem blank_ok : PyData.strOk " " = true := by decide +kernel
theorem split_w {z : Str} (h : Tw z) : splitD (.str z) [.str " "] = some (.lst ((Txt.split z " ").map .str)) := by
  have hs : (!((" " : Str).length == 0) && small (z.length + 2)) = true := by
    rw [Bool.and_eq_true]
    refine ⟨by decide +kernel, decide_eq_true ?_⟩
    have h1 : z.cps.size ≤ 300 := h.sz
    have h2 : z.length = z.cps.size := rfl
    omega
  show (if !((" " : Str).length == 0) && small (z.length + 2) then some (D.lst ((Txt.split z " ").map .str)) else none) = _
  rw [if_pos hs]
theorem words_by {z : Str} (h : Tw z) : f_words_by [.str z] = .ok (.lst ((wordsP z).map .str)) := by
  have e1 : f_words_by [.str z] = (R.toS (((R.of (neD (.str z) (.str ""))).bind fun x => R.of (toB x)).bind fun b => if b then R.of (splitD (.str z) [.str " "]) else .ok (.lst [])) [some (.str z)] fun d => .rt d).fin := by kernel_rfl
  rw [e1, ne_str _ _ h.ok empty_ok, split_w h]
  unfold wordsP
  cases (z == "") <;> rfl
theorem mem_joinL {S : List Nat} {c : Nat} : ∀ {ps : List (List Nat)} {p : List Nat}, p ∈ ps → c ∈ p → c ∈ TL.joinL S ps
  | [], _, h, _ => absurd h (by simp)
  | [q], p, h, hc => by
    rw [List.mem_singleton] at h
    subst h
    exact hc
  | q :: r :: ps, p, h, hc => by
    show c ∈ q ++ (S ++ TL.joinL S (r :: ps))
    rcases List.mem_cons.mp h with h | h
    · subst h
      exact List.mem_append.mpr (.inl hc)
    · exact List.mem_append.mpr (.inr (List.mem_append.mpr (.inr (mem_joinL h hc))))
theorem part_mem {z p : Str} (h : p ∈ Txt.split z " ") {c : Nat} (hc : c ∈ p.cps.toList) : c ∈ z.cps.toList := by
  have e := StrLaws.join_split z " "
  have e2 := congrArg TL.tl e
  rw [TL.tl_join] at e2
  have h3 : c ∈ TL.joinL (TL.tl " ") ((Txt.split z " ").map TL.tl) := mem_joinL (List.mem_map.mpr ⟨p, h, rfl⟩) hc
  rw [e2] at h3
  exact h3
theorem ok_mem {w : Str} (h : PyData.strOk w = true) {c : Nat} (hc : c ∈ w.cps.toList) : c < 0x110000 := by
  have h2 : w.cps.all (· < 0x110000) = true := h
  rw [← Array.all_toList, List.all_eq_true] at h2
  exact of_decide_eq_true (h2 c hc)
theorem ok_of {w : Str} (h : ∀ c ∈ w.cps.toList, c < 0x110000) : PyData.strOk w = true := by
  show w.cps.all (· < 0x110000) = true
  rw [← Array.all_toList, List.all_eq_true]
  exact fun c hc => decide_eq_true (h c hc)
theorem split_tw {z : Str} (h : Tw z) : ∀ w ∈ Txt.split z " ", Tw w := fun w hw => ⟨Nat.le_trans (part_short hw) h.sz, ok_of fun c hc => ok_mem h.ok (part_mem hw hc)⟩
theorem wordsP_tw {z : Str} (h : Tw z) : ∀ w ∈ wordsP z, Tw w := fun w hw => by
  unfold wordsP at hw
  split at hw
  · cases hw
  · exact split_tw h w hw
theorem wordsP_len {z : Str} (h : Tw z) : (wordsP z).length ≤ 302 := by
  unfold wordsP
  split
  · exact Nat.zero_le _
  · have h1 := split_le z " "
    have h2 : z.cps.size ≤ 300 := h.sz
    have h3 : z.length = z.cps.size := rfl
    omega
theorem first_bad {z : Str} (h : Tw z) : f_first_bad [.str z] = if lineB z then .ok (badN 0 (wordsP z)) else .exc 0 (.str z) := by
  have e1 : S.expr (E.call f_check_line (A.cons (E.var 0) A.nil)) [some (.str z)] = if lineB z then .nx [some (.str z)] else .exc 0 (.str z) [some (.str z)] := by
    show R.toS (f_check_line [.str z]) _ _ = _
    rw [check_line h]
    cases lineB z <;> rfl
  have e2 : E.call f_first_bad_by (A.cons (E.k c_ENTRY) (A.cons (E.call f_words_by (A.cons (E.var 0) A.nil)) A.nil)) [some (.str z)] = .ok (badN 0 (wordsP z)) := by
    show ((((f_words_by [.str z]).bind fun x => R.ok [x]).bind fun xs => R.ok (c_ENTRY :: xs)).bind f_first_bad_by) = _
    rw [words_by h]
    show f_first_bad_by [sD 0, .lst ((wordsP z).map .str)] = _
    exact first_bad_by 0 (by decide) _ (wordsP_tw h) (Nat.le_trans (wordsP_len h) (by decide))
  show (b_first_bad [some (.str z)]).fin = _
  unfold b_first_bad
  rw [S.seq, e1]
  cases lineB z
  · rfl
  · simp only [if_true]
    rw [ret_ok e2]
    rfl
theorem read_as {z : Str} (h : Tw z) (s : Nat) (hs : s < 21) : f_read_as [sD s, .str z] = if lineB z then (match badN s (wordsP z) with | .non => f_tree_by [sD s, .lst ((wordsP z).map .str)] | b => .exc 1 b) else .exc 0 (.str z) := by
  show (b_read_as [some (sD s), some (.str z), none, none]).fin = _
  have e1 : S.expr (E.call f_check_line (A.cons (E.var 1) A.nil)) [some (sD s), some (.str z), none, none] = if lineB z then .nx [some (sD s), some (.str z), none, none] else .exc 0 (.str z) [some (sD s), some (.str z), none, none] := by
    show R.toS (f_check_line [.str z]) _ _ = _
    rw [check_line h]
    cases lineB z <;> rfl
  have e2 : S.set 2 (E.call f_words_by (A.cons (E.var 1) A.nil)) [some (sD s), some (.str z), none, none] = .nx [some (sD s), some (.str z), some (.lst ((wordsP z).map .str)), none] := by
    show R.toS (f_words_by [.str z]) _ _ = _
    rw [words_by h]
    rfl
  have e3 : S.set 3 (E.call f_first_bad_by (A.cons (E.var 0) (A.cons (E.var 2) A.nil))) [some (sD s), some (.str z), some (.lst ((wordsP z).map .str)), none] = .nx [some (sD s), some (.str z), some (.lst ((wordsP z).map .str)), some (badN s (wordsP z))] := by
    show R.toS (f_first_bad_by [sD s, .lst ((wordsP z).map .str)]) _ _ = _
    rw [first_bad_by s hs _ (wordsP_tw h) (Nat.le_trans (wordsP_len h) (by decide))]
    rfl
  unfold b_read_as
  rw [S.seq, e1]
  cases lineB z
  · rfl
  · simp only [if_true]
    rw [S.seq, e2]
    dsimp only
    rw [S.seq, e3]
    dsimp only
    have e4 : ∀ b : D, (S.seq (S.ite (T.val (E.op notND (E.var 3) (E.k .non))) (S.raise 1 (E.var 3)) S.pass) (S.ret (E.call f_tree_by (A.cons (E.var 0) (A.cons (E.var 2) A.nil)))) [some (sD s), some (.str z), some (.lst ((wordsP z).map .str)), some b]).fin = match b with | .non => f_tree_by [sD s, .lst ((wordsP z).map .str)] | b => .exc 1 b := fun b => by
      cases b with
      | non =>
        show (R.toS (f_tree_by [sD s, .lst ((wordsP z).map .str)]) _ fun d => .rt d).fin = _
        cases f_tree_by [sD s, .lst ((wordsP z).map .str)] <;> rfl
      | _ => rfl
    exact e4 _
end K2

set_option linter.all false
set_option Elab.async false
set_option maxRecDepth 100000
set_option maxHeartbeats 1000000
namespace K2
open PySem PySem.Spec PyProof.Rows L2 DL
theorem pass_ff {t : DEnv → R Bool} {s u : Sm} {ρ : DEnv} (h : t ρ = .ok false) : S.seq (S.ite t s S.pass) u ρ = u ρ := by
  unfold S.seq
  rw [ite_ff h]
  rfl
theorem ret_tt {t : DEnv → R Bool} {s v u : Sm} {ρ : DEnv} {d : D} (h : t ρ = .ok true) (h2 : s ρ = .rt d) : S.seq (S.ite t s v) u ρ = .rt d := by
  unfold S.seq
  rw [ite_tt h, h2]
theorem fn1_ok {f : List D → Option D} {ga : E} {ρ : DEnv} {x : D} (h : ga ρ = .ok x) : E.fn f (A.cons ga A.nil) ρ = R.of (f [x]) := by
  unfold E.fn A.cons
  rw [h]
  rfl
theorem call1_ok {f : List D → R D} {ga : E} {ρ : DEnv} {x : D} (h : ga ρ = .ok x) : E.call f (A.cons ga A.nil) ρ = f [x] := by
  unfold E.call A.cons
  rw [h]
  rfl
theorem call2_ok {f : List D → R D} {ga gb : E} {ρ : DEnv} {x y : D} (h : ga ρ = .ok x) (h2 : gb ρ = .ok y) : E.call f (A.cons ga (A.cons gb A.nil)) ρ = f [x, y] := by
  unfold E.call A.cons
  simp only [h, h2]
  rfl
theorem tup2_ok {ga gb : E} {ρ : DEnv} {x y : D} (h : ga ρ = .ok x) (h2 : gb ρ = .ok y) : E.tup (A.cons ga (A.cons gb A.nil)) ρ = .ok (.tup [x, y]) := by
  unfold E.tup A.cons
  simp only [h, h2]
  rfl
theorem lst2_ok {ga gb : E} {ρ : DEnv} {x y : D} (h : ga ρ = .ok x) (h2 : gb ρ = .ok y) : E.lst (A.cons ga (A.cons gb A.nil)) ρ = .ok (.lst [x, y]) := by
  unfold E.lst A.cons
  simp only [h, h2]
  rfl
theorem tup3_ok {ga gb gc : E} {ρ : DEnv} {x y z : D} (h : ga ρ = .ok x) (h2 : gb ρ = .ok y) (h3 : gc ρ = .ok z) : E.tup (A.cons ga (A.cons gb (A.cons gc A.nil))) ρ = .ok (.tup [x, y, z]) := by
  unfold E.tup A.cons
  simp only [h, h2, h3]
  rfl
theorem lst3_ok {ga gb gc : E} {ρ : DEnv} {x y z : D} (h : ga ρ = .ok x) (h2 : gb ρ = .ok y) (h3 : gc ρ = .ok z) : E.lst (A.cons ga (A.cons gb (A.cons gc A.nil))) ρ = .ok (.lst [x, y, z]) := by
  unfold E.lst A.cons
  simp only [h, h2, h3]
  rfl
theorem lst4_ok {ga gb gc gd : E} {ρ : DEnv} {x y z u : D} (h : ga ρ = .ok x) (h2 : gb ρ = .ok y) (h3 : gc ρ = .ok z) (h4 : gd ρ = .ok u) : E.lst (A.cons ga (A.cons gb (A.cons gc (A.cons gd A.nil)))) ρ = .ok (.lst [x, y, z, u]) := by
  unfold E.lst A.cons
  simp only [h, h2, h3, h4]
  rfl
theorem rt_fin (r : R D) (ρ : DEnv) : (R.toS r ρ fun d => .rt d).fin = r := by cases r <;> rfl
theorem lc_sel (ρ : DEnv) (i : Nat) (t : DEnv → R Bool) (g : E) (p : Str → Bool) : ∀ l : List Str, (∀ w ∈ l, t (ρ.set i (some (.str w))) = .ok (p w)) → (∀ w ∈ l, g (ρ.set i (some (.str w))) = .ok (.str w)) → lcL (B.name i) t g ρ (l.map .str) = .ok ((l.filter p).map .str)
  | [], _, _ => rfl
  | w :: l, h1, h2 => by
    have ih := lc_sel ρ i t g p l (fun x hx => h1 x (List.mem_cons_of_mem _ hx)) (fun x hx => h2 x (List.mem_cons_of_mem _ hx))
    rw [List.map_cons]
    unfold lcL
    show ((t (ρ.set i (some (.str w)))).bind fun b => if b then (g (ρ.set i (some (.str w)))).bind fun y => (lcL (B.name i) t g ρ (l.map .str)).bind fun ys => R.ok (y :: ys) else lcL (B.name i) t g ρ (l.map .str)) = _
    rw [h1 w (List.mem_cons_self ..), R.bind_ok, ih, h2 w (List.mem_cons_self ..)]
    cases hp : p w <;> simp [List.filter_cons, hp]
theorem lc_mapD (ρ : DEnv) (i : Nat) (g : E) (f : D → D) : ∀ l : List D, (∀ d ∈ l, g (ρ.set i (some d)) = .ok (f d)) → lcL (B.name i) T.yes g ρ l = .ok (l.map f)
  | [], _ => rfl
  | d :: l, h => by
    have ih := lc_mapD ρ i g f l fun x hx => h x (List.mem_cons_of_mem _ hx)
    unfold lcL
    show ((g (ρ.set i (some d))).bind fun y => (lcL (B.name i) T.yes g ρ l).bind fun ys => R.ok (y :: ys)) = _
    rw [h d (List.mem_cons_self ..), R.bind_ok, ih]
    rfl
theorem e_lc {vs : List Nat} {bd : Bd} {gi : DEnv → R (List D)} {t : DEnv → R Bool} {g : E} {ρ : DEnv} {ds ys : List D} (h1 : gi ρ = .ok ds) (h2 : lcL bd t g (wipeD ρ vs) ds = .ok ys) (h3 : ys.length ≤ 100000) : E.lc vs bd gi t g ρ = .ok (.lst ys) := by
  unfold E.lc
  rw [h1, R.bind_ok, h2]
  have : small ys.length = true := decide_eq_true h3
  simp only [R.nx, R.bind_ok, this, if_true, R.of_some]
theorem fi_at {α : Type} (p : α → Bool) (a : α) (l2 : List α) (ha : p a = true) : ∀ l1 : List α, (∀ x ∈ l1, p x = false) → (l1 ++ a :: l2).findIdx? p = some l1.length
  | [], _ => by simp [List.findIdx?_cons, ha]
  | x :: l1, h => by
    rw [List.cons_append, List.findIdx?_cons, h x (List.mem_cons_self ..), fi_at p a l2 ha l1 fun y hy => h y (List.mem_cons_of_mem _ hy)]
    simp
abbrev oS : Str := "("
abbrev cS : Str := ")"
abbrev kS : Str := ","
theorem wib (pre mid post : List Str) (hok : ∀ w ∈ mid, Tw w) (hn : cS ∉ mid) (hl : mid.length ≤ 5000) :
    f_words_in_brackets [.lst ((pre ++ oS :: (mid ++ cS :: post)).map .str), .int pre.length] = .ok (.tup [.lst ((mid.filter fun w => !(w == kS)).map .str), .int ((pre.length + mid.length + 2 : Nat) : Int)]) := by
  generalize hL : pre ++ oS :: (mid ++ cS :: post) = L
  have e0 : indexD (.lst (L.map .str)) [.str ")", .int pre.length] = some (.int ((pre.length + (mid.length + 1) : Nat) : Int)) := by
    have c : ((flatD (.str ")") && (L.map D.str).all flatD) && decide (0 ≤ (pre.length : Int))) = true := by
      rw [Bool.and_eq_true, Bool.and_eq_true]
      refine ⟨⟨rfl, ?_⟩, decide_eq_true (by omega)⟩
      rw [List.all_map]
      exact List.all_eq_true.mpr fun _ _ => rfl
    show (if (flatD (.str ")") && (L.map D.str).all flatD) && decide (0 ≤ (pre.length : Int)) then (idxF (toV (.str ")")) ((L.map D.str).map toV) (pre.length : Int).toNat).map fun j => D.int (j : Nat) else none) = _
    rw [if_pos c, Int.toNat_natCast]
    unfold idxF
    have e1 : ((L.map D.str).map toV).drop pre.length = ((oS :: mid).map V.str) ++ V.str cS :: post.map V.str := by
      rw [← hL, List.map_map, ← List.map_drop, List.drop_left']
      · simp only [List.map_cons, List.map_append]
        rfl
      · rfl
    rw [e1, fi_at (fun z => eqV z (toV (.str ")"))) (V.str cS) _ (by decide +kernel)]
    · simp
    · intro x hx
      obtain ⟨s, h1, rfl⟩ := List.mem_map.mp hx
      show decide (s = cS) = false
      refine decide_eq_false fun e => ?_
      subst e
      rcases List.mem_cons.mp h1 with h | h
      · exact absurd h (by decide +kernel)
      · exact hn h
  have e1 : S.set 2 (E.meth isL indexD (E.var 0) (A.cons (E.k (.str ")")) (A.cons (E.var 1) A.nil))) [some (.lst (L.map .str)), some (.int pre.length), none, none] = .nx [some (.lst (L.map .str)), some (.int pre.length), some (.int ((pre.length + (mid.length + 1) : Nat) : Int)), none] := by
    show R.toS (R.of (indexD (.lst (L.map .str)) [.str ")", .int pre.length])) _ _ = _
    rw [e0]
    rfl
  have e2 : I.seq (E.slice (E.var 0) (O.some (E.op addD (E.var 1) (E.k (.int 1)))) (O.some (E.var 2))) [some (.lst (L.map .str)), some (.int pre.length), some (.int ((pre.length + (mid.length + 1) : Nat) : Int)), none] = .ok (mid.map .str) := by
    show R.ok (cutL (L.map D.str) (some ((pre.length : Int) + 1)) (some ((pre.length + (mid.length + 1) : Nat) : Int))) = _
    unfold cutL
    have e3 : ((pre.length : Int) + 1) = ((pre.length + 1 : Nat) : Int) := rfl
    rw [e3, HT.sIx_nat, HT.sIx_nat]
    have hlen : (L.map D.str).length = pre.length + (mid.length + (post.length + 2)) := by
      rw [← hL]
      simp
      omega
    rw [hlen, Nat.min_eq_left (by omega), Nat.min_eq_left (by omega), ← List.map_drop, ← List.map_take, ← hL]
    have e4 : pre ++ oS :: (mid ++ cS :: post) = (pre ++ [oS]) ++ (mid ++ cS :: post) := by simp
    rw [e4, List.drop_left' (by simp), List.take_left' (by omega)]
  have e5 : E.lc [3] (B.name 3) (I.seq (E.slice (E.var 0) (O.some (E.op addD (E.var 1) (E.k (.int 1)))) (O.some (E.var 2)))) (T.val (E.op neD (E.var 3) (E.k (.str ",")))) (E.var 3) [some (.lst (L.map .str)), some (.int pre.length), some (.int ((pre.length + (mid.length + 1) : Nat) : Int)), none] = .ok (.lst ((mid.filter fun w => !(w == kS)).map .str)) := by
    refine e_lc e2 (lc_sel _ 3 _ _ _ mid (fun w hw => ?_) (fun w hw => rfl)) ?_
    · show ((R.of (neD (.str w) (.str ","))).bind fun x => R.of (toB x)) = _
      rw [ne_str _ _ (hok w hw).ok (by decide +kernel)]
      rfl
    · rw [List.length_map]
      exact Nat.le_trans (List.length_filter_le _ _) (by omega)
  show (b_words_in_brackets [some (.lst (L.map .str)), some (.int pre.length), none, none]).fin = _
  unfold b_words_in_brackets
  rw [S.seq, e1]
  dsimp only
  unfold S.ret E.tup A.cons
  rw [e5]
  rfl
theorem value_one : f_value_by [.str "1"] = .ok (.int 1) := by kernel_rfl
abbrev twoL (w : Str) : List Str := ["1", w]
abbrev midL (w : Str) : List Str := ["1", ",", w]
abbrev factL (w : Str) : List Str := ["fact", "t", "(", "1", ",", w, ")"]
theorem mid_filter {w : Str} (n2 : w ≠ ",") : ((midL w).filter fun w => !(w == kS)) = twoL w := by
  have e1 : (!(("1" : Str) == kS)) = true := by decide +kernel
  have e2 : (!((",": Str) == kS)) = false := by decide +kernel
  have e3 : (!(w == kS)) = true := by simp [n2]
  unfold midL
  simp only [List.filter_cons, e1, e2, e3, if_true, Bool.false_eq_true, if_false, List.filter_nil]
theorem tw_of {w : Str} (h : (decide (w.cps.size ≤ 300) && PyData.strOk w) = true) : Tw w := by
  rw [Bool.and_eq_true] at h
  exact ⟨of_decide_eq_true h.1, h.2⟩
theorem mid_tw {w : Str} (h : Tw w) : ∀ x ∈ midL w, Tw x := fun x hx => by
  simp only [List.mem_cons, List.not_mem_nil, or_false] at hx
  rcases hx with rfl | rfl | rfl
  · exact tw_of (by decide +kernel)
  · exact tw_of (by decide +kernel)
  · exact h
theorem mid_no {w : Str} (n1 : w ≠ ")") : cS ∉ midL w := fun hx => by
  simp only [List.mem_cons, List.not_mem_nil, or_false] at hx
  rcases hx with e | e | e
  · exact absurd e (by decide +kernel)
  · exact absurd e (by decide +kernel)
  · exact n1 e.symm
theorem fact_read {w : Str} {v : D} (h : Tw w) (n1 : w ≠ ")") (n2 : w ≠ ",") (hv : f_value_by [.str w] = .ok v) : f_fact_read [.lst ((factL w).map .str), .int 1] = .ok (.tup [.str "t", .tup [.int 1, v]]) := by
  have e0 : f_words_in_brackets [.lst ((factL w).map .str), .int 2] = .ok (.tup [.lst [.str "1", .str w], .int 7]) := by
    have := wib ["fact", "t"] (midL w) [] (mid_tw h) (mid_no n1) (by simp)
    rw [mid_filter n2] at this
    exact this
  generalize hL : (factL w).map D.str = L at e0 ⊢
  have e1 : S.set2 2 3 (E.call f_words_in_brackets (A.cons (E.var 0) (A.cons (E.op addD (E.var 1) (E.k (.int 1))) A.nil))) [some (.lst L), some (.int 1), none, none, none] = .nx [some (.lst L), some (.int 1), some (.lst [.str "1", .str w]), some (.int 7), none] := by
    show R.toS (f_words_in_brackets [.lst L, .int 2]) _ _ = _
    rw [e0]
    rfl
  have e2 : E.lc [4] (B.name 4) (I.seq (E.var 2)) T.yes (E.call f_value_by (A.cons (E.var 4) A.nil)) [some (.lst L), some (.int 1), some (.lst [.str "1", .str w]), some (.int 7), none] = .ok (.lst [.int 1, v]) := by
    refine e_lc (ds := [.str "1", .str w]) rfl ?_ (by simp)
    show ((f_value_by [.str "1"]).bind fun y => ((f_value_by [.str w]).bind fun z => (R.ok []).bind fun ys => R.ok (z :: ys)).bind fun ys => R.ok (y :: ys)) = _
    rw [value_one, hv]
    rfl
  have e3 : E.op ixD (E.var 0) (E.var 1) [some (.lst L), some (.int 1), some (.lst [.str "1", .str w]), some (.int 7), none] = .ok (.str "t") := by
    rw [← hL]
    rfl
  show (b_fact_read [some (.lst L), some (.int 1), none, none, none]).fin = _
  unfold b_fact_read
  rw [seq_nx e1, ret_ok (tup2_ok e3 (fn1_ok e2))]
  rfl
theorem entry_read {w : Str} {v : D} (h : Tw w) (n1 : w ≠ ")") (n2 : w ≠ ",") (hv : f_value_by [.str w] = .ok v) : f_tree_by [sD 0, .lst ((factL w).map .str)] = .ok (.tup [.str "fact", .tup [.str "t", .tup [.int 1, v]]]) := by
  have e0 := fact_read h n1 n2 hv
  have e1 : ∀ L, f_tree_by [sD 0, .lst L] = (R.toS (f_entry_read [.lst L]) [some (sD 0), some (.lst L)] fun d => .rt d).fin := fun L => by kernel_rfl
  rw [e1, rt_fin]
  have i0 : E.op ixD (E.var 0) (E.k (.int 0)) [some (.lst ((factL w).map .str)), none, none, none] = .ok (.str "fact") := rfl
  generalize hL : (factL w).map D.str = L at e0 i0 ⊢
  have t1 : T.val (E.op eqD (E.var 1) (E.k c_RULE)) [some (.lst L), some (.str "fact"), none, none] = .ok false := by kernel_rfl
  have t2 : T.val (E.op eqD (E.var 1) (E.k c_ASK)) [some (.lst L), some (.str "fact"), none, none] = .ok false := by kernel_rfl
  have t3 : T.val (E.op eqD (E.var 1) (E.k c_BACK)) [some (.lst L), some (.str "fact"), none, none] = .ok false := by kernel_rfl
  have t4 : T.val (E.op inD (E.var 1) (E.tup (A.cons (E.k c_DROP) (A.cons (E.k c_SINCE) A.nil)))) [some (.lst L), some (.str "fact"), none, none] = .ok false := by kernel_rfl
  show (b_entry_read [some (.lst L), none, none, none]).fin = _
  unfold b_entry_read
  rw [seq_nx (set_ok i0)]
  simp only [List.set]
  rw [pass_ff t1, pass_ff t2, pass_ff t3]
  refine (congrArg RS.fin (ret_ok (tup2_ok (x := .str "fact") rfl ?_))).trans rfl
  unfold E.ite
  rw [t4, R.bind_ok]
  show E.call f_fact_read (A.cons (E.var 0) (A.cons (E.k (.int 1)) A.nil)) [some (.lst L), some (.str "fact"), none, none] = _
  rw [call2_ok (x := .lst L) (y := .int 1) rfl rfl]
  exact e0
end K2

set_option linter.all false
set_option Elab.async false
set_option maxRecDepth 100000
set_option maxHeartbeats 1000000
namespace K2
open PySem PySem.Spec PyProof.Rows L2 DL
theorem and_tt {ga gb : E} {ρ : DEnv} (h : ga ρ = .ok (.bl true)) : E.and ga gb ρ = gb ρ := by
  unfold E.and
  rw [h]
  rfl
theorem and_ff {ga gb : E} {ρ : DEnv} (h : ga ρ = .ok (.bl false)) : E.and ga gb ρ = .ok (.bl false) := by
  unfold E.and
  rw [h]
  rfl
theorem or_tt {ga gb : E} {ρ : DEnv} (h : ga ρ = .ok (.bl true)) : E.or ga gb ρ = .ok (.bl true) := by
  unfold E.or
  rw [h]
  rfl
theorem or_ff {ga gb : E} {ρ : DEnv} (h : ga ρ = .ok (.bl false)) : E.or ga gb ρ = gb ρ := by
  unfold E.or
  rw [h]
  rfl
theorem tor_ff {t u : DEnv → R Bool} {ρ : DEnv} (h : t ρ = .ok false) : T.or t u ρ = u ρ := by
  unfold T.or
  rw [h]
  rfl
theorem tnot_ok {t : DEnv → R Bool} {ρ : DEnv} {b : Bool} (h : t ρ = .ok b) : T.not t ρ = .ok (!b) := by
  unfold T.not
  rw [h]
  rfl
theorem eite_tt {t : DEnv → R Bool} {ga gb : E} {ρ : DEnv} (h : t ρ = .ok true) : E.ite t ga gb ρ = ga ρ := by
  unfold E.ite
  rw [h]
  rfl
theorem eite_ff {t : DEnv → R Bool} {ga gb : E} {ρ : DEnv} (h : t ρ = .ok false) : E.ite t ga gb ρ = gb ρ := by
  unfold E.ite
  rw [h]
  rfl
theorem eqP_tnil {xs : List D} {k : Nat} (h : ∀ x ∈ xs, Sh k x) (hk : k ≤ 60) : eqP (.tup xs) (.tup []) = some xs.isEmpty := by
  obtain ⟨ps, g1, g2, g3, g4⟩ := shs h
  have a1 : toP (.tup xs) = some (.tuple ps) := by
    unfold toP
    rw [g1]
    rfl
  have a2 : toP (.tup []) = some (.tuple []) := rfl
  have a3 : (SeqAt.shaped (.tuple ps) && SeqAt.shaped (.tuple [])) = true := by
    have : PyData.depthAll ps ≤ 62 := by omega
    simp [SeqAt.shaped, PyData.canLay0, PyData.depth, PyData.canLayAll0, PyData.depthAll, g3]
    omega
  unfold eqP
  rw [a1, a2, Option.bind_some, Option.bind_some, if_pos a3]
  cases xs with
  | nil =>
    cases ps with
    | nil => simp [PyData.eqv, PyData.eqvAll]
    | cons p ps => simp at g2
  | cons x xs =>
    cases ps with
    | nil => simp at g2
    | cons p ps => simp [PyData.eqv, PyData.eqvAll]
theorem eq_tnil {xs : List D} {k : Nat} (h : ∀ x ∈ xs, Sh k x) (hk : k ≤ 60) : eqD (.tup xs) (.tup []) = some (.bl xs.isEmpty) := by
  show (eqP (.tup xs) (.tup [])).map D.bl = _
  rw [eqP_tnil h hk]
  rfl
theorem sh_up {k m : Nat} {d : D} (h : Sh k d) (hk : k ≤ m) : Sh m d := by
  obtain ⟨p, h1, h2, h3⟩ := h.p
  exact ⟨p, h1, h2, Nat.le_trans h3 hk⟩
theorem sh_tup {k : Nat} {xs : List D} (h : ∀ x ∈ xs, Sh k x) : Sh (k + 1) (.tup xs) := by
  obtain ⟨ps, g1, g2, g3, g4⟩ := shs h
  refine ⟨.tuple ps, by unfold toP; rw [g1]; rfl, by simp [PyData.canLay0, g3], ?_⟩
  simp [PyData.depth]
  omega
theorem fa2 {α : Type} {P : α → Prop} {a b : α} (h1 : P a) (h2 : P b) : ∀ x ∈ [a, b], P x := fun x hx => by
  simp only [List.mem_cons, List.not_mem_nil, or_false] at hx
  rcases hx with rfl | rfl <;> assumption
theorem fa3 {α : Type} {P : α → Prop} {a b c : α} (h1 : P a) (h2 : P b) (h3 : P c) : ∀ x ∈ [a, b, c], P x := fun x hx => by
  simp only [List.mem_cons, List.not_mem_nil, or_false] at hx
  rcases hx with rfl | rfl | rfl <;> assumption
theorem fa4 {α : Type} {P : α → Prop} {a b c d : α} (h1 : P a) (h2 : P b) (h3 : P c) (h4 : P d) : ∀ x ∈ [a, b, c, d], P x := fun x hx => by
  simp only [List.mem_cons, List.not_mem_nil, or_false] at hx
  rcases hx with rfl | rfl | rfl | rfl <;> assumption
/-- a word w that stands for the value v -/
structure Vl (w : Str) (v : D) : Prop where
  rd : f_value_by [.str w] = .ok v
  is : f_is_value [v] = .ok (.bl true)
  wd : f_word_by [v] = .ok (.str w)
  same : ∀ n, Same (n + 1) v
  sh : Sh 1 v
theorem vl_str {w : Str} (h : Tw w) (hd : (hd1 w == ".") = true) (hw : wordB w = true) : Vl w (.str (tl1 w)) := by
  have ht := cut_tw h (some 1) none
  have hwt : (among lettersS (tl1 w) && decide ((tl1 w).length ≤ 6)) = true := by
    unfold wordB at hw
    rw [hd] at hw
    exact hw
  refine ⟨?_, ?_, ?_, fun n => .str _ ht.ok, sh_str ht.ok⟩
  · rw [value_by h, hd]
    rfl
  · have e0 : f_is_number [.str (tl1 w)] = .ok (.bl false) := rfl
    show (R.toS ((f_is_number [.str (tl1 w)]).bind fun x => (R.of (toB x)).bind fun b => if b then R.ok (.bl true) else f_is_word_text [.str (tl1 w)]) _ _).fin = _
    rw [e0, R.bind_ok, is_word_text ht, hwt]
    rfl
  · have e2 : addD (.str ".") (.str (tl1 w)) = some (.str w) := by
      obtain ⟨r, e⟩ := dot_first hd
      have hs : small (("." : Str).length + (tl1 w).length) = true := by
        refine decide_eq_true ?_
        have h9 : (tl1 w).cps.size ≤ 300 := ht.sz
        have e1 : ("." : Str).length = 1 := by decide +kernel
        have e2 : (tl1 w).length = (tl1 w).cps.size := rfl
        omega
      show (if small (("." : Str).length + (tl1 w).length) then some (D.str (("." : Str) ++ tl1 w)) else none) = _
      rw [if_pos hs, e, tl_cons]
      have e9 : (("." : Str) ++ (⟨⟨r⟩⟩ : Str)) = ⟨⟨46 :: r⟩⟩ := by
        have e8 : ("." : Str) = ⟨⟨[46]⟩⟩ := by decide +kernel
        rw [e8]
        show (⟨(⟨[46]⟩ : Array Nat) ++ (⟨r⟩ : Array Nat)⟩ : Str) = _
        simp
      rw [e9]
    show (R.toS (R.of (addD (.str ".") (.str (tl1 w)))) _ _).fin = _
    rw [e2]
    rfl
theorem vl_int {w : Str} (h : Tw w) {n : Int} (hd : (hd1 w == ".") = false) (h0 : intD [.str w] = some (.int n)) (h1 : -999999 ≤ n) (h2 : n ≤ 999999) (hs : strD [.int n] = some (.str w)) : Vl w (.int n) := by
  refine ⟨?_, ?_, ?_, fun n => .int _, sh_int _⟩
  · rw [value_by h, hd, h0]
    rfl
  · have e0 : f_is_number [.int n] = .ok (.bl true) := by
      have c1 : E.chain leD leD (E.op subD (E.k (.int 0)) (E.k c_GREATEST)) (E.var 0) (E.k c_GREATEST) [some (.int n)] = .ok (.bl true) := by
        have a1 : leD (.int (0 - 999999)) (.int n) = some (.bl true) := by
          show some (D.bl (decide ((0 - 999999 : Int) ≤ n))) = _
          rw [decide_eq_true (by omega)]
        have a2 : leD (.int n) (.int 999999) = some (.bl true) := by
          show some (D.bl (decide (n ≤ 999999))) = _
          rw [decide_eq_true h2]
        show ((R.of (leD (.int (0 - 999999)) (.int n))).bind fun z => (R.of (toB z)).bind fun k => if k then (R.ok (D.int 999999)).bind fun w => R.of (leD (.int n) w) else .ok (.bl false)) = _
        rw [a1]
        show R.of (leD (.int n) (.int 999999)) = _
        rw [a2]
        rfl
      show (R.toS (E.chain leD leD (E.op subD (E.k (.int 0)) (E.k c_GREATEST)) (E.var 0) (E.k c_GREATEST) [some (.int n)]) _ _).fin = _
      rw [c1]
      rfl
    show (R.toS ((f_is_number [.int n]).bind fun x => (R.of (toB x)).bind fun b => if b then R.ok (.bl true) else f_is_word_text [.int n]) _ _).fin = _
    rw [e0]
    rfl
  · show (R.toS (R.of (strD [.int n])) _ _).fin = _
    rw [hs]
    rfl
/-- whether a word stands for a value -/
def valB (w : Str) : Bool := if hd1 w == "." then wordB w else isNumB w
/-- the value of a word: what law_value tells, one or none -/
theorem law_vl {w : Str} (h : Tw w) : ∃ v : D, f__law_value [.str w] = .ok (.lst (if valB w then [v] else [])) ∧ f_value_of [.str w] = (if valB w then .ok v else .exc 3 (.str w)) ∧ (valB w = true → Vl w v) := by
  obtain ⟨n, h1, h2⟩ := law_value h
  have h3 := value_of h fun z => (h2 z).1
  unfold valB
  cases hd : (hd1 w == ".")
  · cases hb : isNumB w
    · have e : valL w n = [] := by unfold valL; simp [hd, hb]
      rw [e] at h1 h3
      exact ⟨.non, h1, h3, fun z => absurd z (by simp)⟩
    · have e : valL w n = [.int n] := by unfold valL; simp [hd, hb]
      rw [e] at h1 h3
      obtain ⟨g0, g1, g2, g3⟩ := h2 hb
      exact ⟨.int n, h1, h3, fun _ => vl_int h hd g0 g1 g2 g3⟩
  · cases hw : wordB w
    · have e : valL w n = [] := by unfold valL; simp [hd, hw]
      rw [e] at h1 h3
      exact ⟨.non, h1, h3, fun z => absurd z (by simp)⟩
    · have e : valL w n = [.str (tl1 w)] := by unfold valL; simp [hd, hw]
      rw [e] at h1 h3
      exact ⟨.str (tl1 w), h1, h3, fun _ => vl_str h hd hw⟩
end K2

set_option linter.all false
set_option Elab.async false
set_option maxRecDepth 100000
set_option maxHeartbeats 1000000
namespace K2
open PySem PySem.Spec PyProof.Rows L2 DL
theorem len_app {a b : Str} {m n : Nat} (ha : a.length ≤ m) (hb : b.length ≤ n) : (a ++ b).length ≤ m + n := by
  rw [Str.length_append]
  omega
theorem j_ok {g : E} {gs : List E} {acc s : Str} {ρ : DEnv} (h : g ρ = .ok (.str s)) (hl : (acc ++ s).length ≤ 100000) : J (g :: gs) acc ρ = J gs (acc ++ s) ρ := by
  show ((g ρ).bind fun x => (R.of (toS x)).bind fun s => if small (acc ++ s).length then J gs (acc ++ s) ρ else .bad) = _
  rw [h]
  show (if small (acc ++ s).length then J gs (acc ++ s) ρ else .bad) = _
  rw [if_pos (show small _ = true from decide_eq_true hl)]
theorem joined_ok {gs : List E} {ρ : DEnv} {s : Str} (h : J gs Str.empty ρ = .ok s) : E.joined gs ρ = .ok (.str s) := by
  unfold E.joined
  rw [h]
  rfl
theorem fmt_ok {g : E} {ρ : DEnv} {s : Str} (h : g ρ = .ok (.str s)) (hl : s.length ≤ 100000) : E.un fmtD g ρ = .ok (.str s) := by
  rw [un_ok h]
  show R.of (if small s.length then some (D.str s) else none) = _
  rw [if_pos (show small _ = true from decide_eq_true hl)]
  rfl
theorem join2 {a b : Str} (ha : a.length ≤ 1000) (hb : b.length ≤ 1000) (z : Str) (hz : z.length ≤ 10) : joinD (.str z) [.lst [.str a, .str b]] = some (.str (a ++ z ++ b)) := by
  have c : decide (([a, b].map (·.length)).sum + [a, b].length * z.length ≤ 16777216) = true := by
    refine decide_eq_true ?_
    simp
    omega
  show (if decide (([a, b].map (·.length)).sum + [a, b].length * z.length ≤ 16777216) then some (D.str (Txt.join z [a, b])) else none) = _
  rw [if_pos c, TL.join_eq]
  rfl
/-- the text of t and two words in brackets -/
def argT (w : Str) : Str := "t ( 1 , " ++ w ++ " )"
theorem argT_len {w : Str} (h : w.length ≤ 20) : (argT w).length ≤ 40 := by
  have e1 : ("t ( 1 , " : Str).length = 8 := by decide +kernel
  have e2 : (" )" : Str).length = 2 := by decide +kernel
  unfold argT
  rw [Str.length_append, Str.length_append]
  omega
theorem listed {w : Str} (h : w.length ≤ 20) : f_listed [.str "t", .lst [.str "1", .str w]] = .ok (.str (argT w)) := by
  have l1 : ("1" : Str).length = 1 := by decide +kernel
  have l2 : (" , " : Str).length = 3 := by decide +kernel
  have l3 : (Str.empty ++ ("t" : Str) ++ (" ( " : Str)).length = 4 := by decide +kernel
  have l4 : (" )" : Str).length = 2 := by decide +kernel
  have e1 : E.meth isS joinD (E.k (.str " , ")) (A.cons (E.var 1) A.nil) [some (.str "t"), some (.lst [.str "1", .str w])] = .ok (.str ("1" ++ " , " ++ w)) := by
    show R.of (joinD (.str " , ") [.lst [.str "1", .str w]]) = _
    rw [join2 (by omega) (by omega) _ (by omega)]
    rfl
  have l5 : (("1" : Str) ++ (" , " : Str) ++ w).length ≤ 24 := by
    rw [Str.length_append, Str.length_append]
    omega
  have e2 : J [(E.un fmtD (E.var 0)), (E.k (.str " ( ")), (E.un fmtD (E.meth isS joinD (E.k (.str " , ")) (A.cons (E.var 1) A.nil))), (E.k (.str " )"))] Str.empty [some (.str "t"), some (.lst [.str "1", .str w])] = .ok (argT w) := by
    rw [j_ok (s := "t") (fmt_ok rfl (by decide +kernel)) (by decide +kernel), j_ok (s := " ( ") rfl (by decide +kernel), j_ok (fmt_ok e1 (by omega)) (by rw [Str.length_append]; omega), j_ok (s := " )") rfl (by rw [Str.length_append, Str.length_append]; omega)]
    show R.ok _ = _
    congr 1
    unfold argT
    (apply TL.ext_tl; simp only [TL.tl_append, List.append_assoc]; kernel_rfl)
  show (b_listed [some (.str "t"), some (.lst [.str "1", .str w])]).fin = _
  unfold b_listed
  rw [ret_ok (joined_ok e2)]
  rfl
/-- the tree of the fact t ( 1 , v ) -/
abbrev factD (v : D) : D := .tup [.str "t", .tup [.int 1, v]]
theorem all2 : allD [.lst [.bl true, .bl true]] = some (.bl true) := rfl
section
variable {w : Str} {v : D} (V : Vl w v)
include V
theorem row_ok : f_is_some_row [.tup [.int 1, v]] = .ok (.bl true) := by
  have e1 : E.lc [1] (B.name 1) (I.seq (E.var 0)) T.yes (E.call f_is_value (A.cons (E.var 1) A.nil)) [some (.tup [.int 1, v]), none] = .ok (.lst [.bl true, .bl true]) := by
    refine e_lc (ds := [.int 1, v]) rfl ?_ (by simp)
    show ((f_is_value [.int 1]).bind fun y => ((f_is_value [v]).bind fun z => (R.ok []).bind fun ys => R.ok (z :: ys)).bind fun ys => R.ok (y :: ys)) = _
    have e0 : f_is_value [.int 1] = .ok (.bl true) := by kernel_rfl
    rw [e0, V.is]
    rfl
  have e2 : E.chain leD leD (E.k (.int 1)) (E.fn lenD (A.cons (E.var 0) A.nil)) (E.k c_MOST_TERMS) [some (.tup [.int 1, v]), none] = .ok (.bl true) := by kernel_rfl
  show (b_is_some_row [some (.tup [.int 1, v]), none]).fin = _
  unfold b_is_some_row
  refine (congrArg RS.fin (ret_ok (d := .bl true) ?_)).trans rfl
  rw [and_tt (show E.isi .tuple (E.var 0) [some (.tup [.int 1, v]), none] = .ok (.bl true) from rfl), and_tt e2, fn1_ok e1, all2]
  rfl
theorem fact_ok : f_is_fact_tree [factD v] = .ok (.bl true) := by
  have e1 : E.call f_is_tuple_of (A.cons (E.var 0) (A.cons (E.k (.int 2)) A.nil)) [some (factD v)] = .ok (.bl true) := by kernel_rfl
  have e2 : E.call f_is_name (A.cons (E.op ixD (E.var 0) (E.k (.int 0))) A.nil) [some (factD v)] = .ok (.bl true) := by
    rw [call1_ok (x := .str "t") rfl]
    kernel_rfl
  have e3 : E.call f_is_some_row (A.cons (E.op ixD (E.var 0) (E.k (.int 1))) A.nil) [some (factD v)] = .ok (.bl true) := by
    rw [call1_ok (x := .tup [.int 1, v]) rfl]
    exact row_ok V
  show (b_is_fact_tree [some (factD v)]).fin = _
  unfold b_is_fact_tree
  refine (congrArg RS.fin (ret_ok (d := .bl true) ?_)).trans rfl
  rw [and_tt e1, and_tt e2, e3]
theorem fact_sh : Sh 3 (factD v) := sh_tup (fa2 (sh_up (sh_str (by decide +kernel)) (by decide)) (sh_tup (fa2 (sh_int 1) V.sh)))
theorem entry_ok : f_is_entry_tree [.tup [.str "fact", factD v]] = .ok (.bl true) := by
  have hs : ∀ x ∈ [D.str "fact", factD v], Sh 3 x := fa2 (sh_up (sh_str (by decide +kernel)) (by decide)) (fact_sh V)
  have t1 : T.or (T.not (T.val (E.isi .tuple (E.var 0)))) (T.or (T.val (E.op eqD (E.var 0) (E.tup A.nil))) (T.not (T.val (E.isi .str (E.op ixD (E.var 0) (E.k (.int 0))))))) [some (.tup [.str "fact", factD v])] = .ok false := by
    rw [tor_ff (show T.not (T.val (E.isi .tuple (E.var 0))) [some (.tup [.str "fact", factD v])] = .ok false from rfl)]
    have a : T.val (E.op eqD (E.var 0) (E.tup A.nil)) [some (.tup [.str "fact", factD v])] = .ok false := by
      refine val_ok ((op_ok (x := .tup [.str "fact", factD v]) (y := .tup []) rfl rfl).trans ?_)
      rw [eq_tnil hs (by decide)]
      rfl
    rw [tor_ff a]
    rfl
  have t2 : T.val (E.op eqD (E.op ixD (E.var 0) (E.k (.int 0))) (E.k c_RULE)) [some (.tup [.str "fact", factD v])] = .ok false := by
    refine val_ok ((op_ok (x := .str "fact") (y := .str "rule") rfl rfl).trans ?_)
    kernel_rfl
  have t3 : T.val (E.op neD (E.fn lenD (A.cons (E.var 0) A.nil)) (E.k (.int 2))) [some (.tup [.str "fact", factD v])] = .ok false := by kernel_rfl
  have e1 : E.op inD (E.op ixD (E.var 0) (E.k (.int 0))) (E.k c_OF_FACTS) [some (.tup [.str "fact", factD v])] = .ok (.bl true) := by
    refine (op_ok (x := .str "fact") (y := c_OF_FACTS) rfl rfl).trans ?_
    kernel_rfl
  have e2 : E.call f_is_fact_tree (A.cons (E.op ixD (E.var 0) (E.k (.int 1))) A.nil) [some (.tup [.str "fact", factD v])] = .ok (.bl true) := by
    rw [call1_ok (x := factD v) rfl]
    exact fact_ok V
  show (b_is_entry_tree [some (.tup [.str "fact", factD v])]).fin = _
  unfold b_is_entry_tree
  rw [pass_ff t1, pass_ff t2, pass_ff t3]
  refine (congrArg RS.fin (ret_ok (d := .bl true) ?_)).trans rfl
  exact or_tt ((and_tt e1).trans e2)
theorem fact_text (h : w.length ≤ 20) : f_text_of_fact [factD v] = .ok (.str (argT w)) := by
  have e1 : E.lc [1] (B.name 1) (I.seq (E.op ixD (E.var 0) (E.k (.int 1)))) T.yes (E.call f_word_by (A.cons (E.var 1) A.nil)) [some (factD v), none] = .ok (.lst [.str "1", .str w]) := by
    refine e_lc (ds := [.int 1, v]) rfl ?_ (by simp)
    show ((f_word_by [.int 1]).bind fun y => ((f_word_by [v]).bind fun z => (R.ok []).bind fun ys => R.ok (z :: ys)).bind fun ys => R.ok (y :: ys)) = _
    have e0 : f_word_by [.int 1] = .ok (.str "1") := by kernel_rfl
    rw [e0, V.wd]
    rfl
  show (b_text_of_fact [some (factD v), none]).fin = _
  unfold b_text_of_fact
  refine (congrArg RS.fin (ret_ok (d := .str (argT w)) ?_)).trans rfl
  rw [call2_ok (x := .str "t") rfl e1]
  exact listed h
theorem entry_text (h : w.length ≤ 20) : f_entry_text [.tup [.str "fact", factD v]] = .ok (.str ("fact " ++ argT w)) := by
  have l1 := argT_len h
  have e0 : f_check_entry [.tup [.str "fact", factD v]] = .ok .non := by
    have t : T.not (T.val (E.call f_is_entry_tree (A.cons (E.var 0) A.nil))) [some (.tup [.str "fact", factD v])] = .ok false := by
      refine tnot_ok (b := true) (val_ok ?_)
      rw [call1_ok (x := .tup [.str "fact", factD v]) rfl]
      exact entry_ok V
    show (b_check_entry [some (.tup [.str "fact", factD v])]).fin = _
    unfold b_check_entry
    rw [ite_ff t]
    rfl
  have e1 : f_text_of_entry [.tup [.str "fact", factD v]] = .ok (.str ("fact " ++ argT w)) := by
    have t : T.val (E.op inD (E.op ixD (E.var 0) (E.k (.int 0))) (E.k c_OF_FACTS)) [some (.tup [.str "fact", factD v])] = .ok true := by
      refine val_ok ((op_ok (x := .str "fact") (y := c_OF_FACTS) rfl rfl).trans ?_)
      kernel_rfl
    have e2 : E.call f_text_of_fact (A.cons (E.op ixD (E.var 0) (E.k (.int 1))) A.nil) [some (.tup [.str "fact", factD v])] = .ok (.str (argT w)) := by
      rw [call1_ok (x := factD v) rfl]
      exact fact_text V h
    have e3 : J [(E.un fmtD (E.op ixD (E.var 0) (E.k (.int 0)))), (E.k (.str " ")), (E.un fmtD (E.call f_text_of_fact (A.cons (E.op ixD (E.var 0) (E.k (.int 1))) A.nil)))] Str.empty [some (.tup [.str "fact", factD v])] = .ok ("fact " ++ argT w) := by
      have l3 : (Str.empty ++ ("fact" : Str) ++ (" " : Str)).length = 5 := by decide +kernel
      rw [j_ok (s := "fact") (fmt_ok rfl (by decide +kernel)) (by decide +kernel), j_ok (s := " ") rfl (by decide +kernel), j_ok (fmt_ok e2 (by omega)) (by rw [Str.length_append]; omega)]
      show R.ok _ = _
      congr 1
    show (b_text_of_entry [some (.tup [.str "fact", factD v])]).fin = _
    unfold b_text_of_entry
    rw [ret_tt t (ret_ok (joined_ok e3))]
    rfl
  show (b_entry_text [some (.tup [.str "fact", factD v])]).fin = _
  unfold b_entry_text
  have e4 : S.expr (E.call f_check_entry (A.cons (E.var 0) A.nil)) [some (.tup [.str "fact", factD v])] = .nx [some (.tup [.str "fact", factD v])] := by
    unfold S.expr
    rw [call1_ok (x := .tup [.str "fact", factD v]) rfl, e0]
    rfl
  rw [seq_nx e4, ret_ok ((call1_ok (x := .tup [.str "fact", factD v]) rfl).trans e1)]
  rfl
end
end K2

set_option linter.all false
set_option Elab.async false
set_option maxRecDepth 100000
set_option maxHeartbeats 1000000
namespace K2
open PySem PySem.Spec PyProof.Rows L2 DL
/-- a word w that is read as the term t -/
structure Tm (w : Str) (t : D) : Prop where
  rd : f_term_read [.str w] = .ok t
  is : f_is_term [t] = .ok (.bl true)
  tx : f_term_text [t] = .ok (.str w)
  same : ∀ n, Same (n + 2) t
  sh : Sh 2 t
theorem val_no_var {w : Str} (h : valB w = true) : (among capsS w && decide (w.length = 1)) = false := by
  unfold valB at h
  cases hd : (hd1 w == ".") <;> rw [hd] at h
  · exact (num_not h).2.2.2.1
  · exact (dot_not2 hd).2.2.2.1
theorem term_head {a b : D} {s : Str} (ha : a = .str s) : T.or (T.not (T.val (E.call f_is_tuple_of (A.cons (E.var 0) (A.cons (E.k (.int 2)) A.nil))))) (T.not (T.val (E.isi .str (E.op ixD (E.var 0) (E.k (.int 0)))))) [some (.tup [a, b])] = .ok false := by
  subst ha
  have a : T.not (T.val (E.call f_is_tuple_of (A.cons (E.var 0) (A.cons (E.k (.int 2)) A.nil)))) [some (.tup [.str s, b])] = .ok false := by kernel_rfl
  rw [tor_ff a]
  rfl
theorem tm_val {w : Str} {v : D} (h : Tw w) (hv : valB w = true) (V : Vl w v) : Tm w (.tup [.str "val", v]) := by
  refine ⟨?_, ?_, ?_, fun n => .tup _ (fa2 (.str _ (by decide +kernel)) (V.same n)) (by simp), sh_tup (fa2 (sh_str (by decide +kernel)) V.sh)⟩
  · have t : T.val (E.call f_is_variable (A.cons (E.var 0) A.nil)) [some (.str w)] = .ok false := by
      refine val_ok ((call1_ok (x := .str w) rfl).trans ?_)
      rw [is_variable h, val_no_var hv]
    have e1 : E.tup (A.cons (E.k c_VAL) (A.cons (E.call f_value_by (A.cons (E.var 0) A.nil)) A.nil)) [some (.str w)] = .ok (.tup [.str "val", v]) := tup2_ok (x := c_VAL) rfl ((call1_ok (x := .str w) rfl).trans V.rd)
    show (b_term_read [some (.str w)]).fin = _
    unfold b_term_read
    rw [ret_ok ((eite_ff t).trans e1)]
    rfl
  · have a : E.and (E.op eqD (E.op ixD (E.var 0) (E.k (.int 0))) (E.k c_VAR)) (E.call f_is_variable (A.cons (E.op ixD (E.var 0) (E.k (.int 1))) A.nil)) [some (.tup [.str "val", v])] = .ok (.bl false) := by
      refine and_ff ((op_ok (x := .str "val") (y := .str "var") rfl rfl).trans ?_)
      kernel_rfl
    have b : E.and (E.op eqD (E.op ixD (E.var 0) (E.k (.int 0))) (E.k c_VAL)) (E.call f_is_value (A.cons (E.op ixD (E.var 0) (E.k (.int 1))) A.nil)) [some (.tup [.str "val", v])] = .ok (.bl true) := by
      refine (and_tt ((op_ok (x := .str "val") (y := .str "val") rfl rfl).trans ?_)).trans ((call1_ok (x := v) rfl).trans V.is)
      kernel_rfl
    show (b_is_term [some (.tup [.str "val", v])]).fin = _
    unfold b_is_term
    rw [pass_ff (term_head rfl), ret_ok ((or_ff a).trans b)]
    rfl
  · have t : T.val (E.op eqD (E.op ixD (E.var 0) (E.k (.int 0))) (E.k c_VAR)) [some (.tup [.str "val", v])] = .ok false := by
      refine val_ok ((op_ok (x := .str "val") (y := .str "var") rfl rfl).trans ?_)
      kernel_rfl
    show (b_term_text [some (.tup [.str "val", v])]).fin = _
    unfold b_term_text
    rw [ret_ok ((eite_ff t).trans ((call1_ok (x := v) rfl).trans V.wd))]
    rfl
theorem tm_var {w : Str} (h : Tw w) (hv : (among capsS w && decide (w.length = 1)) = true) : Tm w (.tup [.str "var", .str w]) := by
  refine ⟨?_, ?_, ?_, fun n => .tup _ (fa2 (.str _ (by decide +kernel)) (.str _ h.ok)) (by simp), sh_tup (fa2 (sh_str (by decide +kernel)) (sh_str h.ok))⟩
  · have t : T.val (E.call f_is_variable (A.cons (E.var 0) A.nil)) [some (.str w)] = .ok true := by
      refine val_ok ((call1_ok (x := .str w) rfl).trans ?_)
      rw [is_variable h, hv]
    have e1 : E.tup (A.cons (E.k c_VAR) (A.cons (E.var 0) A.nil)) [some (.str w)] = .ok (.tup [.str "var", .str w]) := tup2_ok (x := c_VAR) rfl rfl
    show (b_term_read [some (.str w)]).fin = _
    unfold b_term_read
    rw [ret_ok ((eite_tt t).trans e1)]
    rfl
  · have a : E.and (E.op eqD (E.op ixD (E.var 0) (E.k (.int 0))) (E.k c_VAR)) (E.call f_is_variable (A.cons (E.op ixD (E.var 0) (E.k (.int 1))) A.nil)) [some (.tup [.str "var", .str w])] = .ok (.bl true) := by
      refine (and_tt ((op_ok (x := .str "var") (y := .str "var") rfl rfl).trans ?_)).trans ((call1_ok (x := .str w) rfl).trans ?_)
      · kernel_rfl
      · rw [is_variable h, hv]
    show (b_is_term [some (.tup [.str "var", .str w])]).fin = _
    unfold b_is_term
    rw [pass_ff (term_head rfl), ret_ok (or_tt a)]
    rfl
  · have t : T.val (E.op eqD (E.op ixD (E.var 0) (E.k (.int 0))) (E.k c_VAR)) [some (.tup [.str "var", .str w])] = .ok true := by
      refine val_ok ((op_ok (x := .str "var") (y := .str "var") rfl rfl).trans ?_)
      kernel_rfl
    show (b_term_text [some (.tup [.str "var", .str w])]).fin = _
    unfold b_term_text
    rw [ret_ok ((eite_tt t).trans (show E.op ixD (E.var 0) (E.k (.int 1)) [some (.tup [.str "var", .str w])] = .ok (.str w) from rfl))]
    rfl
abbrev oneD : D := .tup [.str "val", .int 1]
abbrev xD : D := .tup [.str "var", .str "X"]
theorem tm_one : Tm "1" oneD := tm_val (tw_of (by decide +kernel)) (by decide +kernel) ⟨by kernel_rfl, by kernel_rfl, by kernel_rfl, fun n => .int 1, sh_int 1⟩
theorem tm_x : Tm "X" xD := tm_var (tw_of (by decide +kernel)) (by decide +kernel)
abbrev atomD (t : D) : D := .tup [.str "t", .tup [oneD, t]]
abbrev litD (t : D) : D := .tup [.str "yes", atomD t]
abbrev cmpT (t : D) : D := .tup [.str "<", xD, t]
abbrev bodyD (t : D) : D := .tup [litD t, cmpT t]
abbrev bodyW (w : Str) : List Str := ["t", "(", "1", ",", w, ")", "&", "X", "<", w]
section
variable {w : Str} {t : D} (V : Tm w t)
include V
theorem atom_ok : f_is_atom_tree [atomD t] = .ok (.bl true) := by
  have t1 : T.or (T.not (T.val (E.call f_is_tuple_of (A.cons (E.var 0) (A.cons (E.k (.int 2)) A.nil))))) (T.or (T.not (T.val (E.call f_is_name (A.cons (E.op ixD (E.var 0) (E.k (.int 0))) A.nil)))) (T.not (T.val (E.isi .tuple (E.op ixD (E.var 0) (E.k (.int 1))))))) [some (atomD t), none] = .ok false := by
    have a : T.not (T.val (E.call f_is_tuple_of (A.cons (E.var 0) (A.cons (E.k (.int 2)) A.nil)))) [some (atomD t), none] = .ok false := by kernel_rfl
    have b : T.not (T.val (E.call f_is_name (A.cons (E.op ixD (E.var 0) (E.k (.int 0))) A.nil))) [some (atomD t), none] = .ok false := by
      refine tnot_ok (b := true) (val_ok ((call1_ok (x := .str "t") rfl).trans ?_))
      kernel_rfl
    rw [tor_ff a, tor_ff b]
    rfl
  have e2 : E.chain leD leD (E.k (.int 1)) (E.fn lenD (A.cons (E.op ixD (E.var 0) (E.k (.int 1))) A.nil)) (E.k c_MOST_TERMS) [some (atomD t), none] = .ok (.bl true) := by kernel_rfl
  have e1 : E.lc [1] (B.name 1) (I.seq (E.op ixD (E.var 0) (E.k (.int 1)))) T.yes (E.call f_is_term (A.cons (E.var 1) A.nil)) [some (atomD t), none] = .ok (.lst [.bl true, .bl true]) := by
    refine e_lc (ds := [oneD, t]) rfl ?_ (by simp)
    show ((f_is_term [oneD]).bind fun y => ((f_is_term [t]).bind fun z => (R.ok []).bind fun ys => R.ok (z :: ys)).bind fun ys => R.ok (y :: ys)) = _
    rw [tm_one.is, V.is]
    rfl
  show (b_is_atom_tree [some (atomD t), none]).fin = _
  unfold b_is_atom_tree
  rw [pass_ff t1, ret_ok ((and_tt e2).trans ((fn1_ok e1).trans (show R.of (allD [.lst [.bl true, .bl true]]) = R.ok (D.bl true) from rfl)))]
  rfl
theorem atom_sh : Sh 4 (atomD t) := sh_tup (fa2 (sh_up (sh_str (by decide +kernel)) (by decide)) (sh_tup (fa2 tm_one.sh V.sh)))
theorem lit_ok : f_is_literal [litD t] = .ok (.bl true) := by
  have hs : ∀ x ∈ [D.str "yes", atomD t], Sh 4 x := fa2 (sh_up (sh_str (by decide +kernel)) (by decide)) (atom_sh V)
  have t1 : T.or (T.not (T.val (E.isi .tuple (E.var 0)))) (T.or (T.val (E.op eqD (E.var 0) (E.tup A.nil))) (T.not (T.val (E.isi .str (E.op ixD (E.var 0) (E.k (.int 0))))))) [some (litD t)] = .ok false := by
    rw [tor_ff (show T.not (T.val (E.isi .tuple (E.var 0))) [some (litD t)] = .ok false from rfl)]
    have a : T.val (E.op eqD (E.var 0) (E.tup A.nil)) [some (litD t)] = .ok false := by
      refine val_ok ((op_ok (x := litD t) (y := .tup []) rfl rfl).trans ?_)
      rw [eq_tnil hs (by decide)]
      rfl
    rw [tor_ff a]
    rfl
  have t2 : T.val (E.op inD (E.op ixD (E.var 0) (E.k (.int 0))) (E.tup (A.cons (E.k c_YES) (A.cons (E.k c_NOT) A.nil)))) [some (litD t)] = .ok true := by
    refine val_ok ((op_ok (x := .str "yes") (y := .tup [c_YES, c_NOT]) rfl rfl).trans ?_)
    kernel_rfl
  have e1 : E.op eqD (E.fn lenD (A.cons (E.var 0) A.nil)) (E.k (.int 2)) [some (litD t)] = .ok (.bl true) := by kernel_rfl
  have e2 : E.call f_is_atom_tree (A.cons (E.op ixD (E.var 0) (E.k (.int 1))) A.nil) [some (litD t)] = .ok (.bl true) := (call1_ok (x := atomD t) rfl).trans (atom_ok V)
  show (b_is_literal [some (litD t)]).fin = _
  unfold b_is_literal
  rw [pass_ff t1, ret_tt t2 (ret_ok ((and_tt e1).trans e2))]
  rfl
theorem cmp_sh : ∀ x ∈ [D.str "<", xD, t], Sh 2 x := fa3 (sh_up (sh_str (by decide +kernel)) (by decide)) tm_x.sh V.sh
theorem cmp_ok : f_is_literal [cmpT t] = .ok (.bl true) := by
  have t1 : T.or (T.not (T.val (E.isi .tuple (E.var 0)))) (T.or (T.val (E.op eqD (E.var 0) (E.tup A.nil))) (T.not (T.val (E.isi .str (E.op ixD (E.var 0) (E.k (.int 0))))))) [some (cmpT t)] = .ok false := by
    rw [tor_ff (show T.not (T.val (E.isi .tuple (E.var 0))) [some (cmpT t)] = .ok false from rfl)]
    have a : T.val (E.op eqD (E.var 0) (E.tup A.nil)) [some (cmpT t)] = .ok false := by
      refine val_ok ((op_ok (x := cmpT t) (y := .tup []) rfl rfl).trans ?_)
      rw [eq_tnil (cmp_sh V) (by decide)]
      rfl
    rw [tor_ff a]
    rfl
  have t2 : T.val (E.op inD (E.op ixD (E.var 0) (E.k (.int 0))) (E.tup (A.cons (E.k c_YES) (A.cons (E.k c_NOT) A.nil)))) [some (cmpT t)] = .ok false := by
    refine val_ok ((op_ok (x := .str "<") (y := .tup [c_YES, c_NOT]) rfl rfl).trans ?_)
    kernel_rfl
  have e0 : E.op inD (E.op ixD (E.var 0) (E.k (.int 0))) (E.k c_COMPARING) [some (cmpT t)] = .ok (.bl true) := by
    refine (op_ok (x := .str "<") (y := c_COMPARING) rfl rfl).trans ?_
    kernel_rfl
  have e1 : E.op eqD (E.fn lenD (A.cons (E.var 0) A.nil)) (E.k (.int 3)) [some (cmpT t)] = .ok (.bl true) := by kernel_rfl
  have e2 : E.call f_is_term (A.cons (E.op ixD (E.var 0) (E.k (.int 1))) A.nil) [some (cmpT t)] = .ok (.bl true) := (call1_ok (x := xD) rfl).trans tm_x.is
  have e3 : E.call f_is_term (A.cons (E.op ixD (E.var 0) (E.k (.int 2))) A.nil) [some (cmpT t)] = .ok (.bl true) := (call1_ok (x := t) rfl).trans V.is
  show (b_is_literal [some (cmpT t)]).fin = _
  unfold b_is_literal
  rw [pass_ff t1, pass_ff t2, ret_ok ((and_tt e0).trans ((and_tt e1).trans ((and_tt e2).trans e3)))]
  rfl
theorem body_ok : f_is_body_tree [bodyD t] = .ok (.bl true) := by
  have t1 : T.or (T.not (T.val (E.isi .tuple (E.var 0)))) (T.not (T.val (E.chain leD leD (E.k (.int 1)) (E.fn lenD (A.cons (E.var 0) A.nil)) (E.k c_MOST_LITERALS)))) [some (bodyD t), none] = .ok false := by
    rw [tor_ff (show T.not (T.val (E.isi .tuple (E.var 0))) [some (bodyD t), none] = .ok false from rfl)]
    kernel_rfl
  have e1 : E.lc [1] (B.name 1) (I.seq (E.var 0)) T.yes (E.call f_is_literal (A.cons (E.var 1) A.nil)) [some (bodyD t), none] = .ok (.lst [.bl true, .bl true]) := by
    refine e_lc (ds := [litD t, cmpT t]) rfl ?_ (by simp)
    show ((f_is_literal [litD t]).bind fun y => ((f_is_literal [cmpT t]).bind fun z => (R.ok []).bind fun ys => R.ok (z :: ys)).bind fun ys => R.ok (y :: ys)) = _
    rw [lit_ok V, cmp_ok V]
    rfl
  show (b_is_body_tree [some (bodyD t), none]).fin = _
  unfold b_is_body_tree
  rw [pass_ff t1, ret_ok ((fn1_ok e1).trans (show R.of (allD [.lst [.bl true, .bl true]]) = R.ok (D.bl true) from rfl))]
  rfl
theorem atom_text (h : w.length ≤ 20) : f_text_of_atom [atomD t] = .ok (.str (argT w)) := by
  have e1 : E.lc [1] (B.name 1) (I.seq (E.op ixD (E.var 0) (E.k (.int 1)))) T.yes (E.call f_term_text (A.cons (E.var 1) A.nil)) [some (atomD t), none] = .ok (.lst [.str "1", .str w]) := by
    refine e_lc (ds := [oneD, t]) rfl ?_ (by simp)
    show ((f_term_text [oneD]).bind fun y => ((f_term_text [t]).bind fun z => (R.ok []).bind fun ys => R.ok (z :: ys)).bind fun ys => R.ok (y :: ys)) = _
    rw [tm_one.tx, V.tx]
    rfl
  show (b_text_of_atom [some (atomD t), none]).fin = _
  unfold b_text_of_atom
  rw [ret_ok ((call2_ok (x := .str "t") rfl e1).trans (listed h))]
  rfl
theorem lit_text (h : w.length ≤ 20) : f_text_of_literal [litD t] = .ok (.str (argT w)) := by
  have t1 : T.val (E.op inD (E.op ixD (E.var 0) (E.k (.int 0))) (E.k c_COMPARING)) [some (litD t)] = .ok false := by
    refine val_ok ((op_ok (x := .str "yes") (y := c_COMPARING) rfl rfl).trans ?_)
    kernel_rfl
  have t2 : T.val (E.op eqD (E.op ixD (E.var 0) (E.k (.int 0))) (E.k c_YES)) [some (litD t)] = .ok true := by
    refine val_ok ((op_ok (x := .str "yes") (y := .str "yes") rfl rfl).trans ?_)
    kernel_rfl
  show (b_text_of_literal [some (litD t)]).fin = _
  unfold b_text_of_literal
  rw [pass_ff t1, ret_ok ((eite_tt t2).trans ((call1_ok (x := atomD t) rfl).trans (atom_text V h)))]
  rfl
theorem cmp_text (h : w.length ≤ 20) : f_text_of_literal [cmpT t] = .ok (.str ("X < " ++ w)) := by
  have t1 : T.val (E.op inD (E.op ixD (E.var 0) (E.k (.int 0))) (E.k c_COMPARING)) [some (cmpT t)] = .ok true := by
    refine val_ok ((op_ok (x := .str "<") (y := c_COMPARING) rfl rfl).trans ?_)
    kernel_rfl
  have l1 : (Str.empty ++ ("X" : Str) ++ (" " : Str) ++ ("<" : Str) ++ (" " : Str)).length = 4 := by decide +kernel
  have e3 : J [(E.un fmtD (E.call f_term_text (A.cons (E.op ixD (E.var 0) (E.k (.int 1))) A.nil))), (E.k (.str " ")), (E.un fmtD (E.op ixD (E.var 0) (E.k (.int 0)))), (E.k (.str " ")), (E.un fmtD (E.call f_term_text (A.cons (E.op ixD (E.var 0) (E.k (.int 2))) A.nil)))] Str.empty [some (cmpT t)] = .ok ("X < " ++ w) := by
    rw [j_ok (s := "X") (fmt_ok ((call1_ok (x := xD) rfl).trans tm_x.tx) (by decide +kernel)) (by decide +kernel), j_ok (s := " ") rfl (by decide +kernel), j_ok (s := "<") (fmt_ok rfl (by decide +kernel)) (by decide +kernel), j_ok (s := " ") rfl (by decide +kernel),
      j_ok (fmt_ok ((call1_ok (x := t) rfl).trans V.tx) (by omega)) (by rw [Str.length_append]; omega)]
    show R.ok _ = _
    congr 1
  show (b_text_of_literal [some (cmpT t)]).fin = _
  unfold b_text_of_literal
  rw [ret_tt t1 (ret_ok (joined_ok e3))]
  rfl
theorem body_text (h : w.length ≤ 20) : f_body_text [bodyD t] = .ok (.str (argT w ++ " & " ++ ("X < " ++ w))) := by
  have l1 := argT_len h
  have l2 : ("X < " : Str).length = 4 := by decide +kernel
  have e0 : f_check_body [bodyD t] = .ok .non := by
    have t : T.not (T.val (E.call f_is_body_tree (A.cons (E.var 0) A.nil))) [some (bodyD t)] = .ok false := tnot_ok (b := true) (val_ok ((call1_ok (x := bodyD t) rfl).trans (body_ok V)))
    show (b_check_body [some (bodyD _)]).fin = _
    unfold b_check_body
    rw [ite_ff t]
    rfl
  have e1 : f_text_of_body [bodyD t] = .ok (.str (argT w ++ " & " ++ ("X < " ++ w))) := by
    have e2 : E.lc [1] (B.name 1) (I.seq (E.var 0)) T.yes (E.call f_text_of_literal (A.cons (E.var 1) A.nil)) [some (bodyD t), none] = .ok (.lst [.str (argT w), .str ("X < " ++ w)]) := by
      refine e_lc (ds := [litD t, cmpT t]) rfl ?_ (by simp)
      show ((f_text_of_literal [litD t]).bind fun y => ((f_text_of_literal [cmpT t]).bind fun z => (R.ok []).bind fun ys => R.ok (z :: ys)).bind fun ys => R.ok (y :: ys)) = _
      rw [lit_text V h, cmp_text V h]
      rfl
    have e3 : E.meth isS joinD (E.k (.str " & ")) (A.cons (E.lc [1] (B.name 1) (I.seq (E.var 0)) T.yes (E.call f_text_of_literal (A.cons (E.var 1) A.nil))) A.nil) [some (bodyD t), none] = .ok (.str (argT w ++ " & " ++ ("X < " ++ w))) := by
      show ((E.lc [1] (B.name 1) (I.seq (E.var 0)) T.yes (E.call f_text_of_literal (A.cons (E.var 1) A.nil)) [some (bodyD t), none]).bind fun x => R.ok [x]).bind (fun xs => R.of (joinD (.str " & ") xs)) = _
      rw [e2, R.bind_ok, R.bind_ok, join2 (by omega) (by rw [Str.length_append]; omega) _ (by decide +kernel)]
      rfl
    show (b_text_of_body [some (bodyD t), none]).fin = _
    unfold b_text_of_body
    rw [ret_ok e3]
    rfl
  show (b_body_text [some (bodyD t)]).fin = _
  unfold b_body_text
  have e4 : S.expr (E.call f_check_body (A.cons (E.var 0) A.nil)) [some (bodyD t)] = .nx [some (bodyD t)] := by
    unfold S.expr
    rw [call1_ok (x := bodyD t) rfl, e0]
    rfl
  rw [seq_nx e4, ret_ok ((call1_ok (x := bodyD t) rfl).trans e1)]
  rfl
end
end K2

set_option linter.all false
set_option Elab.async false
set_option maxRecDepth 100000
set_option maxHeartbeats 1000000
namespace K2
open PySem PySem.Spec PyProof.Rows L2 DL
theorem atom_read {w : Str} {t : D} (h : Tw w) (n1 : w ≠ ")") (n2 : w ≠ ",") (V : Tm w t) : f_atom_read [.lst ((bodyW w).map .str), .int 0] = .ok (.tup [atomD t, .int 6]) := by
  have e0 : f_words_in_brackets [.lst ((bodyW w).map .str), .int 1] = .ok (.tup [.lst [.str "1", .str w], .int 6]) := by
    have := wib ["t"] (midL w) ["&", "X", "<", w] (mid_tw h) (mid_no n1) (by simp)
    rw [mid_filter n2] at this
    exact this
  have i0 : E.op ixD (E.var 0) (E.var 1) [some (.lst ((bodyW w).map .str)), some (.int 0), some (.lst [.str "1", .str w]), some (.int 6), none] = .ok (.str "t") := rfl
  generalize hL : (bodyW w).map D.str = L at e0 i0 ⊢
  have e1 : S.set2 2 3 (E.call f_words_in_brackets (A.cons (E.var 0) (A.cons (E.op addD (E.var 1) (E.k (.int 1))) A.nil))) [some (.lst L), some (.int 0), none, none, none] = .nx [some (.lst L), some (.int 0), some (.lst [.str "1", .str w]), some (.int 6), none] := by
    show R.toS (f_words_in_brackets [.lst L, .int 1]) _ _ = _
    rw [e0]
    rfl
  have e2 : E.lc [4] (B.name 4) (I.seq (E.var 2)) T.yes (E.call f_term_read (A.cons (E.var 4) A.nil)) [some (.lst L), some (.int 0), some (.lst [.str "1", .str w]), some (.int 6), none] = .ok (.lst [oneD, t]) := by
    refine e_lc (ds := [.str "1", .str w]) rfl ?_ (by simp)
    show ((f_term_read [.str "1"]).bind fun y => ((f_term_read [.str w]).bind fun z => (R.ok []).bind fun ys => R.ok (z :: ys)).bind fun ys => R.ok (y :: ys)) = _
    rw [tm_one.rd, V.rd]
    rfl
  have e3 : E.fn tupleD (A.cons (E.lc [4] (B.name 4) (I.seq (E.var 2)) T.yes (E.call f_term_read (A.cons (E.var 4) A.nil))) A.nil) [some (.lst L), some (.int 0), some (.lst [.str "1", .str w]), some (.int 6), none] = .ok (.tup [oneD, t]) := (fn1_ok e2).trans rfl
  show (b_atom_read [some (.lst L), some (.int 0), none, none, none]).fin = _
  unfold b_atom_read
  rw [seq_nx e1, ret_ok (tup2_ok (tup2_ok i0 e3) (y := .int 6) rfl)]
  rfl
theorem lit_read1 {w : Str} {t : D} (h : Tw w) (n1 : w ≠ ")") (n2 : w ≠ ",") (V : Tm w t) : f_literal_read [.lst ((bodyW w).map .str), .int 0] = .ok (.tup [litD t, .int 6]) := by
  have e0 := atom_read h n1 n2 V
  have i0 : E.op ixD (E.var 0) (E.var 1) [some (.lst ((bodyW w).map .str)), some (.int 0), none, none] = .ok (.str "t") := rfl
  generalize hL : (bodyW w).map D.str = L at e0 i0 ⊢
  have t1 : T.val (E.op eqD (E.op ixD (E.var 0) (E.var 1)) (E.k c_NOT)) [some (.lst L), some (.int 0), none, none] = .ok false := by
    refine val_ok ((op_ok i0 (y := .str "not") rfl).trans ?_)
    kernel_rfl
  have t2 : T.val (E.call f_is_name (A.cons (E.op ixD (E.var 0) (E.var 1)) A.nil)) [some (.lst L), some (.int 0), none, none] = .ok true := by
    refine val_ok ((call1_ok i0).trans ?_)
    kernel_rfl
  have e1 : S.set2 2 3 (E.call f_atom_read (A.cons (E.var 0) (A.cons (E.var 1) A.nil))) [some (.lst L), some (.int 0), none, none] = .nx [some (.lst L), some (.int 0), some (atomD t), some (.int 6)] := by
    show R.toS (f_atom_read [.lst L, .int 0]) _ _ = _
    rw [e0]
    rfl
  have e2 : S.seq (S.set2 2 3 (E.call f_atom_read (A.cons (E.var 0) (A.cons (E.var 1) A.nil)))) (S.ret (E.tup (A.cons (E.tup (A.cons (E.k c_YES) (A.cons (E.var 2) A.nil))) (A.cons (E.var 3) A.nil)))) [some (.lst L), some (.int 0), none, none] = .rt (.tup [litD t, .int 6]) := by
    rw [seq_nx e1]
    rfl
  show (b_literal_read [some (.lst L), some (.int 0), none, none]).fin = _
  unfold b_literal_read
  rw [pass_ff t1, ret_tt t2 e2]
  rfl
theorem lit_read2 {w : Str} {t : D} (V : Tm w t) : f_literal_read [.lst ((bodyW w).map .str), .int 7] = .ok (.tup [cmpT t, .int 10]) := by
  have i0 : E.op ixD (E.var 0) (E.var 1) [some (.lst ((bodyW w).map .str)), some (.int 7), none, none] = .ok (.str "X") := rfl
  have i1 : E.op ixD (E.var 0) (E.op addD (E.var 1) (E.k (.int 1))) [some (.lst ((bodyW w).map .str)), some (.int 7), none, none] = .ok (.str "<") := rfl
  have i2 : E.op ixD (E.var 0) (E.op addD (E.var 1) (E.k (.int 2))) [some (.lst ((bodyW w).map .str)), some (.int 7), none, none] = .ok (.str w) := rfl
  generalize hL : (bodyW w).map D.str = L at i0 i1 i2 ⊢
  have t1 : T.val (E.op eqD (E.op ixD (E.var 0) (E.var 1)) (E.k c_NOT)) [some (.lst L), some (.int 7), none, none] = .ok false := by
    refine val_ok ((op_ok i0 (y := .str "not") rfl).trans ?_)
    kernel_rfl
  have t2 : T.val (E.call f_is_name (A.cons (E.op ixD (E.var 0) (E.var 1)) A.nil)) [some (.lst L), some (.int 7), none, none] = .ok false := by
    refine val_ok ((call1_ok i0).trans ?_)
    kernel_rfl
  show (b_literal_read [some (.lst L), some (.int 7), none, none]).fin = _
  unfold b_literal_read
  rw [pass_ff t1, pass_ff t2, ret_ok (tup2_ok (tup3_ok i1 ((call1_ok i0).trans tm_x.rd) ((call1_ok i2).trans V.rd)) (y := .int 10) rfl)]
  rfl
theorem body_read {w : Str} {t : D} (h : Tw w) (n1 : w ≠ ")") (n2 : w ≠ ",") (V : Tm w t) : f_tree_by [sD 4, .lst ((bodyW w).map .str)] = .ok (bodyD t) := by
  have e1 : ∀ L, f_tree_by [sD 4, .lst L] = (R.toS (f_body_read [.lst L, .int 0]) [some (sD 4), some (.lst L)] fun d => .rt d).fin := fun L => by kernel_rfl
  rw [e1, rt_fin]
  have a1 := lit_read1 h n1 n2 V
  have a2 := lit_read2 V
  have hl : ((bodyW w).map D.str).length = 10 := rfl
  generalize hL : (bodyW w).map D.str = L at a1 a2 hl ⊢
  have s3 : bodyL L 13 11 [litD t, cmpT t] = .ok [litD t, cmpT t] := by
    unfold bodyL
    rw [hl]
    rfl
  have s2 : bodyL L 14 7 [litD t] = .ok [litD t, cmpT t] := by
    unfold bodyL
    rw [hl, if_pos (by decide), a2]
    exact s3
  have s1 : bodyL L 15 0 [] = .ok [litD t, cmpT t] := by
    unfold bodyL
    rw [hl, if_pos (by decide), a1]
    exact s2
  show ((bodyL L (L.length + 5) 0 []).bind fun l => R.ok (D.tup l)) = _
  rw [hl, s1]
  rfl
end K2

set_option linter.all false
set_option Elab.async false
set_option maxRecDepth 100000
set_option maxHeartbeats 1000000
namespace K2
open PySem PySem.Spec PyProof.Rows L2 DL
theorem kind_key {w : Str} (h : kindS w = "key") : (keysL.any fun k => decide (k = w)) = true := by
  cases hk : keysL.any fun k => decide (k = w)
  · exfalso
    unfold kindS at h
    rw [hk] at h
    simp only [Bool.false_eq_true, if_false] at h
    repeat' split at h
    all_goals exact absurd h (by decide +kernel)
  · rfl
theorem kind_sign {w : Str} (h : kindS w = "sign") : (signsL.any fun k => decide (k = w)) = true := by
  cases hk : signsL.any fun k => decide (k = w)
  · exfalso
    unfold kindS at h
    rw [hk] at h
    simp only [Bool.false_eq_true, if_false] at h
    repeat' split at h
    all_goals exact absurd h (by decide +kernel)
  · rfl
theorem kind_var {w : Str} (h : kindS w = "variable") : (among capsS w && decide (w.length = 1)) = true := by
  cases hk : (among capsS w && decide (w.length = 1))
  · exfalso
    unfold kindS at h
    rw [hk] at h
    simp only [Bool.false_eq_true, if_false] at h
    repeat' split at h
    all_goals exact absurd h (by decide +kernel)
  · rfl
theorem kind_mem {w : Str} (h : kindS w = "key" ∨ kindS w = "sign") : w ∈ keysL ++ signsL := by
  rcases h with h | h
  · obtain ⟨k, h1, h2⟩ := List.any_eq_true.mp (kind_key h)
    have h2 := of_decide_eq_true h2
    subst h2
    exact List.mem_append.mpr (.inl h1)
  · obtain ⟨k, h1, h2⟩ := List.any_eq_true.mp (kind_sign h)
    have h2 := of_decide_eq_true h2
    subst h2
    exact List.mem_append.mpr (.inr h1)
theorem kind_valB (w : Str) : valB w = (kindS w == "number" || kindS w == "word") := by
  unfold valB
  cases hd : (hd1 w == ".")
  · cases hb : isNumB w
    · have := kind_else hd hb
      simp only [List.mem_cons, List.not_mem_nil, or_false] at this
      rcases this with e | e | e | e | e <;> rw [e] <;> kernel_rfl
    · rw [kind_num hb]
      kernel_rfl
  · rw [kind_dot hd]
    cases wordB w <;> kernel_rfl
theorem fnd_all {s : Nat} {w : Str} {r : Bool → Bool → Bool → Option (List Nat)}
    (h1 : ((keysL ++ signsL).all fun k => decide (fnd (tab s) k = r false false false)) = true)
    (h2 : fnd (tab s) "NAME" = r false false true) (h3 : fnd (tab s) "VARIABLE" = r false true false)
    (h4 : fnd (tab s) "NUMBER" = r true false false) (h5 : fnd (tab s) "BELOW" = r true false false) (h6 : fnd (tab s) "WORD" = r true false false) (h7 : fnd (tab s) "" = r false false false) :
    fnd (tab s) (toldS w) = r (valB w) (kindS w == "variable") (kindS w == "name") := by
  rw [kind_valB]
  unfold toldS
  have hm := kinds w
  simp only [List.mem_cons, List.not_mem_nil, or_false] at hm
  have hks : kindS w = "key" ∨ kindS w = "sign" → fnd (tab s) w = r false false false := fun h => of_decide_eq_true (List.all_eq_true.mp h1 w (kind_mem h))
  rcases hm with e | e | e | e | e | e | e
  · rw [e]
    exact hks (.inl e)
  · rw [e]
    exact hks (.inr e)
  · rw [e]
    exact h2
  · rw [e]
    exact h3
  · rw [e]
    unfold toldK
    cases hd1 w == "-"
    · exact h4
    · exact h5
  · rw [e]
    exact h6
  · rw [e]
    exact h7
theorem fnd7 (w : Str) : fnd (tab 7) (toldS w) = if valB w then some [] else none :=
  fnd_all (s := 7) (r := fun a _ _ => if a then some [] else none) (by decide +kernel) (by decide +kernel) (by decide +kernel) (by decide +kernel) (by decide +kernel) (by decide +kernel) (by decide +kernel)
theorem fnd8 (w : Str) : fnd (tab 8) (toldS w) = if valB w || kindS w == "variable" then some [] else none :=
  fnd_all (s := 8) (r := fun a b _ => if a || b then some [] else none) (by decide +kernel) (by decide +kernel) (by decide +kernel) (by decide +kernel) (by decide +kernel) (by decide +kernel) (by decide +kernel)
theorem fnd1 (w : Str) : fnd (tab 1) (toldS w) = if kindS w == "name" then some [6, 7, 11] else none :=
  fnd_all (s := 1) (r := fun _ _ b => if b then some [6, 7, 11] else none) (by decide +kernel) (by decide +kernel) (by decide +kernel) (by decide +kernel) (by decide +kernel) (by decide +kernel) (by decide +kernel)
theorem wp_some {W W' : List Nat} {w : Str} {ws : List Str} {k : Nat} (h : stepN W (toldS w) = some W') : walkP W (w :: ws) k = walkP W' ws (k + 1) := by
  show (match stepN W (toldS w) with | none => (W, some k) | some W' => walkP W' ws (k + 1)) = _
  rw [h]
theorem wp_none {W : List Nat} {w : Str} {ws : List Str} {k : Nat} (h : stepN W (toldS w) = none) : walkP W (w :: ws) k = (W, some k) := by
  show (match stepN W (toldS w) with | none => (W, some k) | some W' => walkP W' ws (k + 1)) = _
  rw [h]
theorem fact_bad (w : Str) : badN 0 (factL w) = if valB w then .non else .int 5 := by
  have e : walkP [0] (factL w) 0 = walkP [12, 7] [w, ")"] 5 := by
    rw [factL, wp_some (W' := [1]) (by decide +kernel), wp_some (W' := [11, 7, 6]) (by decide +kernel), wp_some (W' := [11, 7]) (by decide +kernel), wp_some (W' := [11]) (by decide +kernel), wp_some (W' := [12, 7]) (by decide +kernel)]
  unfold badN
  rw [e]
  have s : stepN [12, 7] (toldS w) = if valB w then some [12] else none := by
    show (fnd (tab 7) (toldS w)).map (fun x => [12] ++ x.reverse) = _
    rw [fnd7]
    cases valB w <;> rfl
  cases hv : valB w
  · rw [hv] at s
    rw [wp_none s]
    rfl
  · rw [hv] at s
    rw [wp_some s, wp_some (W' := []) (by decide +kernel)]
    rfl
theorem body_bad (w : Str) : badN 4 (bodyW w) = if valB w || kindS w == "variable" then .non else .int 4 := by
  have e : walkP [4] (bodyW w) 0 = walkP [17, 15, 8] [w, ")", "&", "X", "<", w] 4 := by
    rw [bodyW, wp_some (W' := [17, 14, 8, 6]) (by decide +kernel), wp_some (W' := [17, 14, 8]) (by decide +kernel), wp_some (W' := [17, 14]) (by decide +kernel), wp_some (W' := [17, 15, 8]) (by decide +kernel)]
  unfold badN
  rw [e]
  have s : stepN [17, 15, 8] (toldS w) = if valB w || kindS w == "variable" then some [17, 15] else none := by
    show (fnd (tab 8) (toldS w)).map (fun x => [17, 15] ++ x.reverse) = _
    rw [fnd8]
    cases valB w || kindS w == "variable" <;> rfl
  have s2 : stepN [18, 8] (toldS w) = if valB w || kindS w == "variable" then some [18] else none := by
    show (fnd (tab 8) (toldS w)).map (fun x => [18] ++ x.reverse) = _
    rw [fnd8]
    cases valB w || kindS w == "variable" <;> rfl
  cases hv : (valB w || kindS w == "variable")
  · rw [hv] at s
    rw [wp_none s]
    rfl
  · rw [hv] at s s2
    rw [wp_some s, wp_some (W' := [17]) (by decide +kernel), wp_some (W' := [18, 9]) (by decide +kernel), wp_some (W' := [18, 8, 10]) (by decide +kernel), wp_some (W' := [18, 8]) (by decide +kernel), wp_some s2]
    rfl
abbrev takeW (w : Str) : List Str := ["take", w, "(", "1", ")"]
theorem take_bad (w : Str) : badN 0 (takeW w) = if kindS w == "name" then .non else .int 1 := by
  have e : walkP [0] (takeW w) 0 = walkP [1] [w, "(", "1", ")"] 1 := by
    rw [takeW, wp_some (W' := [1]) (by decide +kernel)]
  unfold badN
  rw [e]
  have s : stepN [1] (toldS w) = if kindS w == "name" then some [11, 7, 6] else none := by
    show (fnd (tab 1) (toldS w)).map (fun x => [] ++ x.reverse) = _
    rw [fnd1]
    cases kindS w == "name" <;> rfl
  cases hv : (kindS w == "name")
  · rw [hv] at s
    rw [wp_none s]
    rfl
  · rw [hv] at s
    rw [wp_some s, wp_some (W' := [11, 7]) (by decide +kernel), wp_some (W' := [11]) (by decide +kernel), wp_some (W' := []) (by decide +kernel)]
    rfl
/-! the three texts -/
def factT (w : Str) : Str := "fact " ++ argT w
def bodyT (w : Str) : Str := argT w ++ " & " ++ ("X < " ++ w)
def takeT (w : Str) : Str := "take " ++ w ++ " ( 1 )"
theorem among_app (z a b : Str) : among z (a ++ b) = (among z a && among z b) := by
  unfold among
  have e : (a ++ b).cps.toList = a.cps.toList ++ b.cps.toList := TL.tl_append a b
  rw [e, List.all_append]
/-- a short word without blanks, of signs of lines -/
structure Lw (w : Str) : Prop where
  tw : Tw w
  sz : w.length ≤ 20
  am : among signsS w = true
  nb : 32 ∉ w.cps.toList
  ne : 1 ≤ w.length
theorem line_tw {z : Str} (h : lineB z = true) : Tw z := by
  unfold lineB at h
  rw [Bool.and_eq_true] at h
  refine ⟨Nat.le_trans (of_decide_eq_true h.2 : z.length ≤ 200) (by decide), ok_of fun c hc => ?_⟩
  have h2 := of_decide_eq_true (List.all_eq_true.mp h.1 c hc)
  exact ok_mem (w := signsS) (by decide +kernel) h2
section
variable {w : Str} (h : Lw w)
include h
theorem fact_line : lineB (factT w) = true := by
  have l1 := argT_len h.sz
  have l2 : ("fact " : Str).length = 5 := by decide +kernel
  unfold lineB
  rw [Bool.and_eq_true]
  refine ⟨?_, decide_eq_true ?_⟩
  · unfold factT argT
    have a1 : among signsS "fact " = true := by decide +kernel
    have a2 : among signsS "t ( 1 , " = true := by decide +kernel
    have a3 : among signsS " )" = true := by decide +kernel
    rw [among_app, among_app, among_app, h.am, a1, a2, a3]
    rfl
  · unfold factT
    rw [Str.length_append]
    omega
theorem body_line : lineB (bodyT w) = true := by
  have l1 := argT_len h.sz
  have l2 : ("X < " : Str).length = 4 := by decide +kernel
  have l3 : (" & " : Str).length = 3 := by decide +kernel
  have l4 := h.sz
  unfold lineB
  rw [Bool.and_eq_true]
  refine ⟨?_, decide_eq_true ?_⟩
  · unfold bodyT argT
    have a1 : among signsS "X < " = true := by decide +kernel
    have a2 : among signsS "t ( 1 , " = true := by decide +kernel
    have a3 : among signsS " )" = true := by decide +kernel
    have a4 : among signsS " & " = true := by decide +kernel
    rw [among_app, among_app, among_app, among_app, among_app, h.am, a1, a2, a3, a4]
    rfl
  · unfold bodyT
    rw [Str.length_append, Str.length_append, Str.length_append]
    omega
theorem take_line : lineB (takeT w) = true := by
  have l2 : ("take " : Str).length = 5 := by decide +kernel
  have l3 : (" ( 1 )" : Str).length = 6 := by decide +kernel
  have l4 := h.sz
  unfold lineB
  rw [Bool.and_eq_true]
  refine ⟨?_, decide_eq_true ?_⟩
  · unfold takeT
    have a1 : among signsS "take " = true := by decide +kernel
    have a2 : among signsS " ( 1 )" = true := by decide +kernel
    rw [among_app, among_app, h.am, a1, a2]
    rfl
  · unfold takeT
    rw [Str.length_append, Str.length_append]
    omega
theorem words_join {ps : List Str} {z : Str} (e : Txt.join " " ps = z) (hn : ps ≠ []) (hp : ∀ p ∈ ps, 32 ∉ TL.tl p) (hz : 1 ≤ z.length) : wordsP z = ps := by
  have hne : (z == "") = false := by
    refine beq_eq_false_iff_ne.mpr fun e => ?_
    subst e
    exact absurd hz (by decide +kernel)
  unfold wordsP
  rw [hne, ← e]
  exact TL.split_join (s := 32) (S := []) (by decide +kernel) (by decide +kernel) hn hp
theorem fact_words : wordsP (factT w) = factL w := by
  refine words_join h ?_ (by simp) ?_ ?_
  · apply TL.ext_tl
    rw [TL.join_eq, TL.tl_join]
    unfold factT argT
    simp only [TL.tl_append, List.append_assoc]
    kernel_rfl
  · intro p hp
    simp only [List.mem_cons, List.not_mem_nil, or_false] at hp
    rcases hp with rfl | rfl | rfl | rfl | rfl | rfl | rfl
    any_goals decide +kernel
    exact h.nb
  · unfold factT
    rw [Str.length_append]
    have l2 : ("fact " : Str).length = 5 := by decide +kernel
    omega
theorem body_words : wordsP (bodyT w) = bodyW w := by
  refine words_join h ?_ (by simp) ?_ ?_
  · apply TL.ext_tl
    rw [TL.join_eq, TL.tl_join]
    unfold bodyT argT
    simp only [TL.tl_append, List.append_assoc]
    kernel_rfl
  · intro p hp
    simp only [List.mem_cons, List.not_mem_nil, or_false] at hp
    rcases hp with rfl | rfl | rfl | rfl | rfl | rfl | rfl | rfl | rfl | rfl
    any_goals decide +kernel
    all_goals exact h.nb
  · unfold bodyT
    rw [Str.length_append]
    have l2 : ("X < " : Str).length = 4 := by decide +kernel
    rw [Str.length_append, Str.length_append]
    omega
theorem take_words : wordsP (takeT w) = takeW w := by
  refine words_join h ?_ (by simp) ?_ ?_
  · apply TL.ext_tl
    rw [TL.join_eq, TL.tl_join]
    unfold takeT
    simp only [TL.tl_append, List.append_assoc]
    kernel_rfl
  · intro p hp
    simp only [List.mem_cons, List.not_mem_nil, or_false] at hp
    rcases hp with rfl | rfl | rfl | rfl | rfl
    any_goals decide +kernel
    all_goals exact h.nb
  · unfold takeT
    rw [Str.length_append]
    have l2 : (" ( 1 )" : Str).length = 6 := by decide +kernel
    omega
end
end K2

set_option linter.all false
set_option Elab.async false
set_option maxRecDepth 100000
set_option maxHeartbeats 1000000
namespace K2
open PySem PySem.Spec PyProof.Rows L2 DL
theorem not_sep {w : Str} (h : (valB w || kindS w == "variable") = true) : w ≠ ")" ∧ w ≠ "," := by
  refine ⟨fun e => ?_, fun e => ?_⟩ <;> subst e <;> exact absurd h (by decide +kernel)
section
variable {w : Str} {v : D} (h : Lw w) (V : valB w = true → Vl w v)
include h V
theorem read_entry_w : f_read_entry [.str (factT w)] = if valB w then .ok (.tup [.str "fact", factD v]) else .exc 1 (.int 5) := by
  show (R.toS (f_read_as [sD 0, .str (factT w)]) _ fun d => .rt d).fin = _
  rw [rt_fin, read_as (line_tw (fact_line h)) 0 (by decide), if_pos (fact_line h), fact_words h, fact_bad]
  cases hv : valB w
  · rfl
  · have hs := not_sep (w := w) (by rw [hv]; rfl)
    show f_tree_by [sD 0, .lst ((factL w).map .str)] = _
    rw [entry_read h.tw hs.1 hs.2 (V hv).rd]
    rfl
theorem first_fact : f_first_bad [.str (factT w)] = .ok (if valB w then .non else .int 5) := by
  rw [first_bad (line_tw (fact_line h)), if_pos (fact_line h), fact_words h, fact_bad]
theorem first_take : f_first_bad [.str (takeT w)] = .ok (if kindS w == "name" then .non else .int 1) := by
  rw [first_bad (line_tw (take_line h)), if_pos (take_line h), take_words h, take_bad]
/-- what is due of the first text -/
def due0 (w : Str) (v : D) : D := if valB w then .lst [.str "told", .tup [.str "fact", factD v], .str (factT w)] else .lst [.str "bad", .int 5]
theorem tried0 : f__law_tried [.int 0, .str (factT w)] = .ok (due0 w v) := by
  have e1 := read_entry_w h V
  have t : T.val (E.op eqD (E.var 0) (E.k (.int 0))) [some (.int 0), some (.str (factT w)), none] = .ok true := by
    refine val_ok ((op_ok (x := .int 0) (y := .int 0) rfl rfl).trans ?_)
    kernel_rfl
  show (b__law_tried [some (.int 0), some (.str (factT w)), none]).fin = _
  unfold b__law_tried S.try due0
  cases hv : valB w
  · rw [hv] at e1
    have e2 : E.lst (A.cons (E.k (.str "told")) (A.cons (E.call f_read_entry (A.cons (E.var 1) A.nil)) (A.cons (E.call f_entry_text (A.cons (E.call f_read_entry (A.cons (E.var 1) A.nil)) A.nil)) A.nil))) [some (.int 0), some (.str (factT w)), none] = .exc 1 (.int 5) := by
      show ((((f_read_entry [.str (factT w)]).bind fun x => (A.cons (E.call f_entry_text (A.cons (E.call f_read_entry (A.cons (E.var 1) A.nil)) A.nil)) A.nil [some (.int 0), some (.str (factT w)), none]).bind fun xs => R.ok (x :: xs)).bind fun xs => R.ok (D.str "told" :: xs)).bind fun xs => R.of (if small xs.length then some (D.lst xs) else none)) = _
      rw [e1]
      rfl
    have e3 : S.ret (E.ite (T.val (E.op eqD (E.var 0) (E.k (.int 0)))) (E.lst (A.cons (E.k (.str "told")) (A.cons (E.call f_read_entry (A.cons (E.var 1) A.nil)) (A.cons (E.call f_entry_text (A.cons (E.call f_read_entry (A.cons (E.var 1) A.nil)) A.nil)) A.nil)))) (E.lst (A.cons (E.k (.str "told")) (A.cons (E.call f_read_body (A.cons (E.var 1) A.nil)) (A.cons (E.call f_body_text (A.cons (E.call f_read_body (A.cons (E.var 1) A.nil)) A.nil)) A.nil))))) [some (.int 0), some (.str (factT w)), none] = .exc 1 (.int 5) [some (.int 0), some (.str (factT w)), none] := by
      unfold S.ret
      rw [eite_tt t, e2]
      rfl
    rw [e3]
    kernel_rfl
  · rw [hv] at e1
    have e4 : E.call f_read_entry (A.cons (E.var 1) A.nil) [some (.int 0), some (.str (factT w)), none] = .ok (.tup [.str "fact", factD v]) := (call1_ok (x := .str (factT w)) rfl).trans e1
    have e5 : E.call f_entry_text (A.cons (E.call f_read_entry (A.cons (E.var 1) A.nil)) A.nil) [some (.int 0), some (.str (factT w)), none] = .ok (.str (factT w)) := (call1_ok e4).trans (entry_text (V hv) h.sz)
    rw [ret_ok ((eite_tt t).trans (lst3_ok (x := .str "told") rfl e4 e5))]
    rfl
end
/-- the term of a word -/
def termD (w : Str) (v : D) : D := if valB w then .tup [.str "val", v] else .tup [.str "var", .str w]
def fitB (w : Str) : Bool := valB w || kindS w == "variable"
def due1 (w : Str) (v : D) : D := if fitB w then .lst [.str "told", bodyD (termD w v), .str (bodyT w)] else .lst [.str "bad", .int 4]
section
variable {w : Str} {v : D} (h : Lw w) (V : valB w = true → Vl w v)
include h V
theorem term_tm (hf : fitB w = true) : Tm w (termD w v) := by
  unfold termD
  cases hv : valB w
  · unfold fitB at hf
    rw [hv, Bool.false_or] at hf
    exact tm_var h.tw (kind_var (eq_of_beq hf))
  · exact tm_val h.tw hv (V hv)
theorem read_body_w : f_read_body [.str (bodyT w)] = if fitB w then .ok (bodyD (termD w v)) else .exc 1 (.int 4) := by
  show (R.toS (f_read_as [sD 4, .str (bodyT w)]) _ fun d => .rt d).fin = _
  rw [rt_fin, read_as (line_tw (body_line h)) 4 (by decide), if_pos (body_line h), body_words h, body_bad]
  cases hv : fitB w
  · have hv2 : (valB w || kindS w == "variable") = false := hv
    rw [hv2]
    rfl
  · have hs := not_sep (w := w) hv
    have hv2 : (valB w || kindS w == "variable") = true := hv
    rw [hv2]
    show f_tree_by [sD 4, .lst ((bodyW w).map .str)] = _
    rw [body_read h.tw hs.1 hs.2 (term_tm h V hv)]
    rfl
theorem tried1 : f__law_tried [.int 1, .str (bodyT w)] = .ok (due1 w v) := by
  have e1 := read_body_w h V
  have t : T.val (E.op eqD (E.var 0) (E.k (.int 0))) [some (.int 1), some (.str (bodyT w)), none] = .ok false := by
    refine val_ok ((op_ok (x := .int 1) (y := .int 0) rfl rfl).trans ?_)
    kernel_rfl
  show (b__law_tried [some (.int 1), some (.str (bodyT w)), none]).fin = _
  unfold b__law_tried S.try due1
  cases hv : fitB w
  · rw [hv] at e1
    have e2 : E.lst (A.cons (E.k (.str "told")) (A.cons (E.call f_read_body (A.cons (E.var 1) A.nil)) (A.cons (E.call f_body_text (A.cons (E.call f_read_body (A.cons (E.var 1) A.nil)) A.nil)) A.nil))) [some (.int 1), some (.str (bodyT w)), none] = .exc 1 (.int 4) := by
      show ((((f_read_body [.str (bodyT w)]).bind fun x => (A.cons (E.call f_body_text (A.cons (E.call f_read_body (A.cons (E.var 1) A.nil)) A.nil)) A.nil [some (.int 1), some (.str (bodyT w)), none]).bind fun xs => R.ok (x :: xs)).bind fun xs => R.ok (D.str "told" :: xs)).bind fun xs => R.of (if small xs.length then some (D.lst xs) else none)) = _
      rw [e1]
      rfl
    have e3 : S.ret (E.ite (T.val (E.op eqD (E.var 0) (E.k (.int 0)))) (E.lst (A.cons (E.k (.str "told")) (A.cons (E.call f_read_entry (A.cons (E.var 1) A.nil)) (A.cons (E.call f_entry_text (A.cons (E.call f_read_entry (A.cons (E.var 1) A.nil)) A.nil)) A.nil)))) (E.lst (A.cons (E.k (.str "told")) (A.cons (E.call f_read_body (A.cons (E.var 1) A.nil)) (A.cons (E.call f_body_text (A.cons (E.call f_read_body (A.cons (E.var 1) A.nil)) A.nil)) A.nil))))) [some (.int 1), some (.str (bodyT w)), none] = .exc 1 (.int 4) [some (.int 1), some (.str (bodyT w)), none] := by
      unfold S.ret
      rw [eite_ff t, e2]
      rfl
    rw [e3]
    kernel_rfl
  · rw [hv] at e1
    have e4 : E.call f_read_body (A.cons (E.var 1) A.nil) [some (.int 1), some (.str (bodyT w)), none] = .ok (bodyD (termD w v)) := (call1_ok (x := .str (bodyT w)) rfl).trans e1
    have e5 : E.call f_body_text (A.cons (E.call f_read_body (A.cons (E.var 1) A.nil)) A.nil) [some (.int 1), some (.str (bodyT w)), none] = .ok (.str (bodyT w)) := (call1_ok e4).trans (body_text (term_tm h V hv) h.sz)
    rw [ret_ok ((eite_ff t).trans (lst3_ok (x := .str "told") rfl e4 e5))]
    rfl
end
end K2

set_option linter.all false
set_option Elab.async false
set_option maxRecDepth 100000
set_option maxHeartbeats 1000000
namespace K2
open PySem PySem.Spec PyProof.Rows L2 DL
theorem call1x_ok {f : List D → R D} {ga : E} {ρ : DEnv} {x : D} (h : ga ρ = .ok x) : E.call1 f ga ρ = f [x] := by
  unfold E.call1
  rw [h]
  rfl
theorem is12 {ga gb : E} {ρ : DEnv} {d : D} (h : ga ρ = .ok d) (h2 : gb ρ = .ok d) (s : Same 12 d) : T.not (T.val (E.call (f__law_is 12) (A.cons ga (A.cons gb A.nil)))) ρ = .ok false :=
  tnot_ok (b := true) (val_ok ((call2_ok h h2).trans (is_same s)))
theorem sm_lst2 {n : Nat} {a b : D} (h1 : Same n a) (h2 : Same n b) : Same (n + 2) (.lst [a, b]) := .lst _ (fa2 h1 h2) (by simp)
theorem sm_lst3 {n : Nat} {a b c : D} (h1 : Same n a) (h2 : Same n b) (h3 : Same n c) : Same (n + 2) (.lst [a, b, c]) := .lst _ (fa3 h1 h2 h3) (by simp)
theorem sm_lst4 {n : Nat} {a b c d : D} (h1 : Same n a) (h2 : Same n b) (h3 : Same n c) (h4 : Same n d) : Same (n + 2) (.lst [a, b, c, d]) := .lst _ (fa4 h1 h2 h3 h4) (by simp)
theorem sm_tup2 {n : Nat} {a b : D} (h1 : Same n a) (h2 : Same n b) : Same (n + 1) (.tup [a, b]) := .tup _ (fa2 h1 h2) (by simp)
theorem sm_tup3 {n : Nat} {a b c : D} (h1 : Same n a) (h2 : Same n b) (h3 : Same n c) : Same (n + 1) (.tup [a, b, c]) := .tup _ (fa3 h1 h2 h3) (by simp)
theorem kind_ok (w : Str) : PyData.strOk (kindS w) = true := by
  have hm := kinds w
  simp only [List.mem_cons, List.not_mem_nil, or_false] at hm
  rcases hm with e | e | e | e | e | e | e <;> rw [e] <;> decide +kernel
/-- the list that law_value tells -/
def vlD (w : Str) (v : D) : D := .lst (if valB w then [v] else [])
/-- the value, or that there is none -/
def toldV (w : Str) (v : D) : D := if valB w then .lst [.str "told", v] else .lst [.str "value", .str w]
section
variable {w : Str} {v : D} (h : Tw w) (h1 : f__law_value [.str w] = .ok (vlD w v)) (h2 : f_value_of [.str w] = (if valB w then .ok v else .exc 3 (.str w))) (V : valB w = true → Vl w v)
include V
theorem nev {ρ : DEnv} (e : E.var 1 ρ = .ok (vlD w v)) : E.op neD (E.var 1) (E.lst A.nil) ρ = .ok (.bl (valB w)) := by
  refine (op_ok e (y := .lst []) rfl).trans ?_
  unfold vlD
  cases hv : valB w
  · kernel_rfl
  · show R.of (neD (.lst [v]) (.lst [])) = _
    rw [ne_nilD (k := 1) (fun x hx => by rw [List.mem_singleton] at hx; subst hx; exact (V hv).sh) (by decide)]
    rfl
theorem ix1 {ρ : DEnv} (hv : valB w = true) (e : E.var 1 ρ = .ok (vlD w v)) : E.op ixD (E.var 1) (E.k (.int 0)) ρ = .ok v := by
  refine (op_ok e (y := .int 0) rfl).trans ?_
  unfold vlD
  rw [hv]
  rfl
include h in
theorem toldV_same : Same 12 (toldV w v) := by
  unfold toldV
  cases hv : valB w
  · exact sm_lst2 (.str _ (by decide +kernel)) (.str _ h.ok)
  · exact sm_lst2 (.str _ (by decide +kernel)) ((V hv).same _)
include h h1 h2
/-- the first part: whatever the word -/
theorem word_first : ∀ rest : Sm, (∀ ρ, ρ = [some (.str w), some (vlD w v), some (.str (kindS w)), some (toldV w v), none, none, none, none, none, none, none] → (rest ρ).fin = .ok (.bl true)) →
    (S.seq (S.par 1 2 (E.call f__law_value (A.cons (E.var 0) A.nil)) (E.call f__law_told_kind (A.cons (E.var 0) A.nil)))
      (S.seq (S.ite (T.not (T.val (E.call (f__law_is 12) (A.cons (E.lst (A.cons (E.call f_word_kind (A.cons (E.var 0) A.nil)) (A.cons (E.call1 f_word_kind (E.var 0)) A.nil))) (A.cons (E.lst (A.cons (E.var 2) (A.cons (E.var 2) A.nil))) A.nil))))) (S.ret (E.k (.bl false))) S.pass)
      (S.seq (S.try (S.set 3 (E.lst (A.cons (E.k (.str "told")) (A.cons (E.call f_value_of (A.cons (E.var 0) A.nil)) A.nil)))) 4 okE (hSet "value" "odd" cw_InvalidValue 3))
      (S.seq (S.ite (T.not (T.val (E.call (f__law_is 12) (A.cons (E.var 3) (A.cons (E.ite (T.val (E.op neD (E.var 1) (E.lst A.nil))) (E.lst (A.cons (E.k (.str "told")) (A.cons (E.op ixD (E.var 1) (E.k (.int 0))) A.nil))) (E.lst (A.cons (E.k (.str "value")) (A.cons (E.var 0) A.nil)))) A.nil))))) (S.ret (E.k (.bl false))) S.pass)
      (S.seq (S.ite (T.and (T.val (E.op neD (E.var 1) (E.lst A.nil))) (T.not (T.val (E.call (f__law_is 12) (A.cons (E.lst (A.cons (E.call f_word_of (A.cons (E.op ixD (E.var 1) (E.k (.int 0))) A.nil)) (A.cons (E.call1 f_word_of (E.op ixD (E.var 1) (E.k (.int 0)))) (A.cons (E.call1 f_value_of (E.var 0)) A.nil)))) (A.cons (E.lst (A.cons (E.var 0) (A.cons (E.var 0) (A.cons (E.op ixD (E.var 1) (E.k (.int 0))) A.nil)))) A.nil)))))) (S.ret (E.k (.bl false))) S.pass)
      rest)))) [some (.str w), none, none, none, none, none, none, none, none, none, none]).fin = .ok (.bl true) := by
  intro rest hr
  have e1 : S.par 1 2 (E.call f__law_value (A.cons (E.var 0) A.nil)) (E.call f__law_told_kind (A.cons (E.var 0) A.nil)) [some (.str w), none, none, none, none, none, none, none, none, none, none] = .nx [some (.str w), some (vlD w v), some (.str (kindS w)), none, none, none, none, none, none, none, none] := by
    unfold S.par
    rw [call1_ok (x := .str w) rfl, call1_ok (x := .str w) rfl, h1, law_told_kind h]
    rfl
  have t2 : T.not (T.val (E.call (f__law_is 12) (A.cons (E.lst (A.cons (E.call f_word_kind (A.cons (E.var 0) A.nil)) (A.cons (E.call1 f_word_kind (E.var 0)) A.nil))) (A.cons (E.lst (A.cons (E.var 2) (A.cons (E.var 2) A.nil))) A.nil)))) [some (.str w), some (vlD w v), some (.str (kindS w)), none, none, none, none, none, none, none, none] = .ok false :=
    is12 (lst2_ok ((call1_ok (x := .str w) rfl).trans (word_kind h)) ((call1x_ok (x := .str w) rfl).trans (word_kind h))) (lst2_ok rfl rfl) (sm_lst2 (.str _ (kind_ok w)) (.str _ (kind_ok w)))
  have e3 : S.try (S.set 3 (E.lst (A.cons (E.k (.str "told")) (A.cons (E.call f_value_of (A.cons (E.var 0) A.nil)) A.nil)))) 4 okE (hSet "value" "odd" cw_InvalidValue 3) [some (.str w), some (vlD w v), some (.str (kindS w)), none, none, none, none, none, none, none, none] = .nx [some (.str w), some (vlD w v), some (.str (kindS w)), some (toldV w v), none, none, none, none, none, none, none] := by
    unfold S.try toldV
    cases hv : valB w
    · rw [hv] at h2
      have e2 : S.set 3 (E.lst (A.cons (E.k (.str "told")) (A.cons (E.call f_value_of (A.cons (E.var 0) A.nil)) A.nil))) [some (.str w), some (vlD w v), some (.str (kindS w)), none, none, none, none, none, none, none, none] = .exc 3 (.str w) [some (.str w), some (vlD w v), some (.str (kindS w)), none, none, none, none, none, none, none, none] := by
        show R.toS (((((f_value_of [.str w]).bind fun x => (R.ok []).bind fun xs => R.ok (x :: xs)).bind fun xs => R.ok (D.str "told" :: xs)).bind fun xs => R.of (if small xs.length then some (D.lst xs) else none))) _ _ = _
        rw [h2]
        rfl
      rw [e2]
      kernel_rfl
    · rw [hv] at h2
      rw [set_ok (lst2_ok (x := .str "told") rfl ((call1_ok (x := .str w) rfl).trans h2))]
      rfl
  have t4 : T.not (T.val (E.call (f__law_is 12) (A.cons (E.var 3) (A.cons (E.ite (T.val (E.op neD (E.var 1) (E.lst A.nil))) (E.lst (A.cons (E.k (.str "told")) (A.cons (E.op ixD (E.var 1) (E.k (.int 0))) A.nil))) (E.lst (A.cons (E.k (.str "value")) (A.cons (E.var 0) A.nil)))) A.nil)))) [some (.str w), some (vlD w v), some (.str (kindS w)), some (toldV w v), none, none, none, none, none, none, none] = .ok false := by
    refine is12 (d := toldV w v) rfl ?_ (toldV_same h V)
    unfold E.ite
    rw [val_ok (nev V rfl), R.bind_ok]
    unfold toldV
    cases hv : valB w
    · exact lst2_ok (x := .str "value") rfl rfl
    · exact lst2_ok (x := .str "told") rfl (ix1 V hv rfl)
  have t5 : T.and (T.val (E.op neD (E.var 1) (E.lst A.nil))) (T.not (T.val (E.call (f__law_is 12) (A.cons (E.lst (A.cons (E.call f_word_of (A.cons (E.op ixD (E.var 1) (E.k (.int 0))) A.nil)) (A.cons (E.call1 f_word_of (E.op ixD (E.var 1) (E.k (.int 0)))) (A.cons (E.call1 f_value_of (E.var 0)) A.nil)))) (A.cons (E.lst (A.cons (E.var 0) (A.cons (E.var 0) (A.cons (E.op ixD (E.var 1) (E.k (.int 0))) A.nil)))) A.nil))))) [some (.str w), some (vlD w v), some (.str (kindS w)), some (toldV w v), none, none, none, none, none, none, none] = .ok false := by
    unfold T.and
    rw [val_ok (nev V rfl), R.bind_ok]
    cases hv : valB w
    · rfl
    · rw [hv] at h2
      have hx := ix1 (ρ := [some (.str w), some (vlD w v), some (.str (kindS w)), some (toldV w v), none, none, none, none, none, none, none]) V hv rfl
      have hw : f_word_of [v] = .ok (.str w) := by
        have t : T.not (T.val (E.call f_is_value (A.cons (E.var 0) A.nil))) [some v] = .ok false := tnot_ok (b := true) (val_ok ((call1_ok (x := v) rfl).trans (V hv).is))
        show (b_word_of [some v]).fin = _
        unfold b_word_of
        rw [pass_ff t, ret_ok ((call1_ok (x := v) rfl).trans (V hv).wd)]
        rfl
      rw [if_pos rfl]
      exact is12 (lst3_ok ((call1_ok hx).trans hw) ((call1x_ok hx).trans hw) ((call1x_ok (x := .str w) rfl).trans h2)) (lst3_ok rfl rfl hx) (sm_lst3 (.str _ h.ok) (.str _ h.ok) ((V hv).same _))
  rw [seq_nx e1, pass_ff t2, seq_nx e3, pass_ff t4, pass_ff t5]
  exact hr _ rfl
end
end K2

set_option linter.all false
set_option Elab.async false
set_option maxRecDepth 100000
set_option maxHeartbeats 1000000
namespace K2
open PySem PySem.Spec PyProof.Rows L2 DL
theorem add_ok {ga gb : E} {ρ : DEnv} {a b : Str} (h1 : ga ρ = .ok (.str a)) (h2 : gb ρ = .ok (.str b)) (hl : a.length + b.length ≤ 100000) : E.op addD ga gb ρ = .ok (.str (a ++ b)) := by
  rw [op_ok h1 h2]
  show R.of (if small (a.length + b.length) then some (D.str (a ++ b)) else none) = _
  rw [if_pos (show small _ = true from decide_eq_true hl)]
  rfl
theorem due0_same {w : Str} {v : D} (h : Lw w) (V : valB w = true → Vl w v) : Same 10 (due0 w v) := by
  unfold due0
  cases hv : valB w
  · exact sm_lst2 (.str _ (by decide +kernel)) (.int _)
  · exact sm_lst3 (.str _ (by decide +kernel)) (sm_tup2 (.str _ (by decide +kernel)) (sm_tup2 (.str _ (by decide +kernel)) (sm_tup2 (.int _) ((V hv).same _)))) (.str _ (line_tw (fact_line h)).ok)
theorem due1_same {w : Str} {v : D} (h : Lw w) (V : valB w = true → Vl w v) : Same 10 (due1 w v) := by
  unfold due1
  cases hv : fitB w
  · exact sm_lst2 (.str _ (by decide +kernel)) (.int _)
  · have T := term_tm h V hv
    exact sm_lst3 (.str _ (by decide +kernel)) (sm_tup2 (sm_tup2 (.str _ (by decide +kernel)) (sm_tup2 (.str _ (by decide +kernel)) (sm_tup2 (tm_one.same _) (T.same _)))) (sm_tup3 (.str _ (by decide +kernel)) (tm_x.same _) (T.same _))) (.str _ (line_tw (body_line h)).ok)
theorem word_line {w : Str} {v : D} (h : Lw w) (V : valB w = true → Vl w v) :
    (S.seq (S.par 5 6 (E.op addD (E.op addD (E.k (.str "fact t ( 1 , ")) (E.var 0)) (E.k (.str " )"))) (E.op addD (E.op addD (E.op addD (E.k (.str "t ( 1 , ")) (E.var 0)) (E.k (.str " ) & X < "))) (E.var 0)))
     (S.seq (S.set 7 (E.ite (T.val (E.op neD (E.var 1) (E.lst A.nil))) (E.lst (A.cons (E.k (.str "told")) (A.cons (E.tup (A.cons (E.k (.str "fact")) (A.cons (E.tup (A.cons (E.k (.str "t")) (A.cons (E.tup (A.cons (E.k (.int 1)) (A.cons (E.op ixD (E.var 1) (E.k (.int 0))) A.nil))) A.nil))) A.nil))) (A.cons (E.var 5) A.nil)))) (E.lst (A.cons (E.k (.str "bad")) (A.cons (E.k (.int 5)) A.nil)))))
     (S.seq (S.set 8 (E.ite (T.val (E.op neD (E.var 1) (E.lst A.nil))) (E.tup (A.cons (E.k (.str "val")) (A.cons (E.op ixD (E.var 1) (E.k (.int 0))) A.nil))) (E.tup (A.cons (E.k (.str "var")) (A.cons (E.var 0) A.nil)))))
     (S.seq (S.set 9 (E.or (E.op neD (E.var 1) (E.lst A.nil)) (E.op eqD (E.var 2) (E.k (.str "variable")))))
     (S.seq (S.set 10 (E.ite (T.val (E.var 9)) (E.lst (A.cons (E.k (.str "told")) (A.cons (E.tup (A.cons (E.tup (A.cons (E.k (.str "yes")) (A.cons (E.tup (A.cons (E.k (.str "t")) (A.cons (E.tup (A.cons (E.tup (A.cons (E.k (.str "val")) (A.cons (E.k (.int 1)) A.nil))) (A.cons (E.var 8) A.nil))) A.nil))) A.nil))) (A.cons (E.tup (A.cons (E.k (.str "<")) (A.cons (E.tup (A.cons (E.k (.str "var")) (A.cons (E.k (.str "X")) A.nil))) (A.cons (E.var 8) A.nil)))) A.nil))) (A.cons (E.var 6) A.nil)))) (E.lst (A.cons (E.k (.str "bad")) (A.cons (E.k (.int 4)) A.nil)))))
     (S.ret (E.call (f__law_is 12) (A.cons (E.lst (A.cons (E.call f__law_tried (A.cons (E.k (.int 0)) (A.cons (E.var 5) A.nil))) (A.cons (E.call f__law_tried (A.cons (E.k (.int 1)) (A.cons (E.var 6) A.nil))) (A.cons (E.call f_first_bad (A.cons (E.var 5) A.nil)) (A.cons (E.call f_first_bad (A.cons (E.op addD (E.op addD (E.k (.str "take ")) (E.var 0)) (E.k (.str " ( 1 )"))) A.nil)) A.nil))))) (A.cons (E.lst (A.cons (E.var 7) (A.cons (E.var 10) (A.cons (E.ite (T.val (E.op neD (E.var 1) (E.lst A.nil))) (E.k .non) (E.k (.int 5))) (A.cons (E.ite (T.val (E.op eqD (E.var 2) (E.k (.str "name")))) (E.k .non) (E.k (.int 1))) A.nil))))) A.nil))))))))
     [some (.str w), some (vlD w v), some (.str (kindS w)), some (toldV w v), none, none, none, none, none, none, none]).fin = .ok (.bl true) := by
  have l0 := h.sz
  have l1 : ("fact t ( 1 , " : Str).length = 13 := by decide +kernel
  have l2 : (" )" : Str).length = 2 := by decide +kernel
  have l3 : ("t ( 1 , " : Str).length = 8 := by decide +kernel
  have l4 : (" ) & X < " : Str).length = 9 := by decide +kernel
  have l5 : ("take " : Str).length = 5 := by decide +kernel
  have l6 : (" ( 1 )" : Str).length = 6 := by decide +kernel
  have z1 : ("fact t ( 1 , " : Str) ++ w ++ (" )" : Str) = factT w := by
    unfold factT argT
    (apply TL.ext_tl; simp only [TL.tl_append, List.append_assoc]; kernel_rfl)
  have z2 : ("t ( 1 , " : Str) ++ w ++ (" ) & X < " : Str) ++ w = bodyT w := by
    unfold bodyT argT
    (apply TL.ext_tl; simp only [TL.tl_append, List.append_assoc]; kernel_rfl)
  have e1 : S.par 5 6 (E.op addD (E.op addD (E.k (.str "fact t ( 1 , ")) (E.var 0)) (E.k (.str " )"))) (E.op addD (E.op addD (E.op addD (E.k (.str "t ( 1 , ")) (E.var 0)) (E.k (.str " ) & X < "))) (E.var 0)) [some (.str w), some (vlD w v), some (.str (kindS w)), some (toldV w v), none, none, none, none, none, none, none] = .nx [some (.str w), some (vlD w v), some (.str (kindS w)), some (toldV w v), none, some (.str (factT w)), some (.str (bodyT w)), none, none, none, none] := by
    unfold S.par
    rw [add_ok (add_ok (a := "fact t ( 1 , ") (b := w) rfl rfl (by omega)) (b := " )") rfl (by rw [Str.length_append]; omega), z1,
      add_ok (add_ok (add_ok (a := "t ( 1 , ") (b := w) rfl rfl (by omega)) (b := " ) & X < ") rfl (by rw [Str.length_append]; omega)) (b := w) rfl (by rw [Str.length_append, Str.length_append]; omega), z2]
    rfl
  have e7 : (E.ite (T.val (E.op neD (E.var 1) (E.lst A.nil))) (E.lst (A.cons (E.k (.str "told")) (A.cons (E.tup (A.cons (E.k (.str "fact")) (A.cons (E.tup (A.cons (E.k (.str "t")) (A.cons (E.tup (A.cons (E.k (.int 1)) (A.cons (E.op ixD (E.var 1) (E.k (.int 0))) A.nil))) A.nil))) A.nil))) (A.cons (E.var 5) A.nil)))) (E.lst (A.cons (E.k (.str "bad")) (A.cons (E.k (.int 5)) A.nil)))) [some (.str w), some (vlD w v), some (.str (kindS w)), some (toldV w v), none, some (.str (factT w)), some (.str (bodyT w)), none, none, none, none] = .ok (due0 w v) := by
    unfold E.ite
    rw [val_ok (nev V rfl), R.bind_ok]
    unfold due0
    cases hv : valB w
    · exact lst2_ok (x := .str "bad") rfl rfl
    · exact lst3_ok (x := .str "told") rfl (tup2_ok (x := .str "fact") rfl (tup2_ok (x := .str "t") rfl (tup2_ok (x := .int 1) rfl (ix1 V hv rfl)))) rfl
  have e8 : (E.ite (T.val (E.op neD (E.var 1) (E.lst A.nil))) (E.tup (A.cons (E.k (.str "val")) (A.cons (E.op ixD (E.var 1) (E.k (.int 0))) A.nil))) (E.tup (A.cons (E.k (.str "var")) (A.cons (E.var 0) A.nil)))) [some (.str w), some (vlD w v), some (.str (kindS w)), some (toldV w v), none, some (.str (factT w)), some (.str (bodyT w)), some (due0 w v), none, none, none] = .ok (termD w v) := by
    unfold E.ite
    rw [val_ok (nev V rfl), R.bind_ok]
    unfold termD
    cases hv : valB w
    · exact tup2_ok (x := .str "var") rfl rfl
    · exact tup2_ok (x := .str "val") rfl (ix1 V hv rfl)
  have e9 : (E.or (E.op neD (E.var 1) (E.lst A.nil)) (E.op eqD (E.var 2) (E.k (.str "variable")))) [some (.str w), some (vlD w v), some (.str (kindS w)), some (toldV w v), none, some (.str (factT w)), some (.str (bodyT w)), some (due0 w v), some (termD w v), none, none] = .ok (.bl (fitB w)) := by
    unfold fitB
    cases hv : valB w
    · have := nev (ρ := [some (.str w), some (vlD w v), some (.str (kindS w)), some (toldV w v), none, some (.str (factT w)), some (.str (bodyT w)), some (due0 w v), some (termD w v), none, none]) V rfl
      rw [hv] at this
      rw [or_ff this, op_ok (x := .str (kindS w)) (y := .str "variable") rfl rfl, eq_str _ _ (kind_ok w) (by decide +kernel)]
      rfl
    · have := nev (ρ := [some (.str w), some (vlD w v), some (.str (kindS w)), some (toldV w v), none, some (.str (factT w)), some (.str (bodyT w)), some (due0 w v), some (termD w v), none, none]) V rfl
      rw [hv] at this
      rw [or_tt this]
      rfl
  have e10 : (E.ite (T.val (E.var 9)) (E.lst (A.cons (E.k (.str "told")) (A.cons (E.tup (A.cons (E.tup (A.cons (E.k (.str "yes")) (A.cons (E.tup (A.cons (E.k (.str "t")) (A.cons (E.tup (A.cons (E.tup (A.cons (E.k (.str "val")) (A.cons (E.k (.int 1)) A.nil))) (A.cons (E.var 8) A.nil))) A.nil))) A.nil))) (A.cons (E.tup (A.cons (E.k (.str "<")) (A.cons (E.tup (A.cons (E.k (.str "var")) (A.cons (E.k (.str "X")) A.nil))) (A.cons (E.var 8) A.nil)))) A.nil))) (A.cons (E.var 6) A.nil)))) (E.lst (A.cons (E.k (.str "bad")) (A.cons (E.k (.int 4)) A.nil)))) [some (.str w), some (vlD w v), some (.str (kindS w)), some (toldV w v), none, some (.str (factT w)), some (.str (bodyT w)), some (due0 w v), some (termD w v), some (.bl (fitB w)), none] = .ok (due1 w v) := by
    unfold E.ite
    rw [val_ok (b := fitB w) rfl, R.bind_ok]
    unfold due1
    cases fitB w <;> rfl
  have e11 : (E.lst (A.cons (E.call f__law_tried (A.cons (E.k (.int 0)) (A.cons (E.var 5) A.nil))) (A.cons (E.call f__law_tried (A.cons (E.k (.int 1)) (A.cons (E.var 6) A.nil))) (A.cons (E.call f_first_bad (A.cons (E.var 5) A.nil)) (A.cons (E.call f_first_bad (A.cons (E.op addD (E.op addD (E.k (.str "take ")) (E.var 0)) (E.k (.str " ( 1 )"))) A.nil)) A.nil))))) [some (.str w), some (vlD w v), some (.str (kindS w)), some (toldV w v), none, some (.str (factT w)), some (.str (bodyT w)), some (due0 w v), some (termD w v), some (.bl (fitB w)), some (due1 w v)] = .ok (.lst [due0 w v, due1 w v, if valB w then .non else .int 5, if kindS w == "name" then .non else .int 1]) :=
    lst4_ok ((call2_ok (x := .int 0) (y := .str (factT w)) rfl rfl).trans (tried0 h V)) ((call2_ok (x := .int 1) (y := .str (bodyT w)) rfl rfl).trans (tried1 h V)) ((call1_ok (x := .str (factT w)) rfl).trans (first_fact h V))
      ((call1_ok (add_ok (add_ok (a := "take ") (b := w) rfl rfl (by omega)) (b := " ( 1 )") rfl (by rw [Str.length_append]; omega))).trans (first_take h V))
  have e12 : (E.lst (A.cons (E.var 7) (A.cons (E.var 10) (A.cons (E.ite (T.val (E.op neD (E.var 1) (E.lst A.nil))) (E.k .non) (E.k (.int 5))) (A.cons (E.ite (T.val (E.op eqD (E.var 2) (E.k (.str "name")))) (E.k .non) (E.k (.int 1))) A.nil))))) [some (.str w), some (vlD w v), some (.str (kindS w)), some (toldV w v), none, some (.str (factT w)), some (.str (bodyT w)), some (due0 w v), some (termD w v), some (.bl (fitB w)), some (due1 w v)] = .ok (.lst [due0 w v, due1 w v, if valB w then .non else .int 5, if kindS w == "name" then .non else .int 1]) := by
    refine lst4_ok rfl rfl ?_ ?_
    · unfold E.ite
      rw [val_ok (nev V rfl), R.bind_ok]
      cases valB w <;> rfl
    · have t : T.val (E.op eqD (E.var 2) (E.k (.str "name"))) [some (.str w), some (vlD w v), some (.str (kindS w)), some (toldV w v), none, some (.str (factT w)), some (.str (bodyT w)), some (due0 w v), some (termD w v), some (.bl (fitB w)), some (due1 w v)] = .ok (kindS w == "name") := by
        refine val_ok ((op_ok (x := .str (kindS w)) (y := .str "name") rfl rfl).trans ?_)
        rw [eq_str _ _ (kind_ok w) (by decide +kernel)]
        rfl
      unfold E.ite
      rw [t, R.bind_ok]
      cases kindS w == "name" <;> rfl
  have sm : Same 12 (.lst [due0 w v, due1 w v, if valB w then .non else .int 5, if kindS w == "name" then .non else .int 1]) := by
    refine sm_lst4 (due0_same h V) (due1_same h V) ?_ ?_
    · cases valB w
      · exact .int _
      · exact .non
    · cases kindS w == "name"
      · exact .int _
      · exact .non
  rw [seq_nx e1, seq_nx (set_ok e7)]
  simp only [List.set]
  rw [seq_nx (set_ok e8)]
  simp only [List.set]
  rw [seq_nx (set_ok e9)]
  simp only [List.set]
  rw [seq_nx (set_ok e10)]
  simp only [List.set]
  rw [ret_ok ((call2_ok e11 e12).trans (is_same sm))]
  rfl
/-- a drawn word: short, no blanks -/
structure Dw (w : Str) : Prop where
  sz : w.length ≤ 20
  ok : PyData.strOk w = true
  nb : 32 ∉ w.cps.toList
theorem word_right {w : Str} (h : Dw w) : f__law_word_right [.str w] = .ok (.bl true) := by
  have tw : Tw w := ⟨Nat.le_trans (h.sz : w.cps.size ≤ 20) (by decide), h.ok⟩
  obtain ⟨v, h1, h2, V⟩ := law_vl tw
  show (b__law_word_right [some (.str w), none, none, none, none, none, none, none, none, none, none]).fin = _
  unfold b__law_word_right
  refine word_first tw h1 h2 V _ fun ρ hρ => ?_
  subst hρ
  have t : T.or (T.val (E.op eqD (E.var 0) (E.k (.str "")))) (T.not (T.val (E.call f_is_line (A.cons (E.var 0) A.nil)))) [some (.str w), some (vlD w v), some (.str (kindS w)), some (toldV w v), none, none, none, none, none, none, none] = .ok (!decide (1 ≤ w.length) || !lineB w) := by
    unfold T.or
    rw [val_ok (b := !decide (1 ≤ w.length)) ((op_ok (x := .str w) (y := .str "") rfl rfl).trans (by rw [eq_empty tw]; rfl)), R.bind_ok, tnot_ok (val_ok ((call1_ok (x := .str w) rfl).trans (is_line tw)))]
    cases decide (1 ≤ w.length) <;> simp
  cases hb : (!decide (1 ≤ w.length) || !lineB w)
  · rw [hb] at t
    rw [pass_ff t]
    rw [Bool.or_eq_false_iff, Bool.not_eq_false', Bool.not_eq_false'] at hb
    have hb2 := hb.2
    unfold lineB at hb2
    rw [Bool.and_eq_true] at hb2
    exact word_line ⟨tw, h.sz, hb2.1, h.nb, of_decide_eq_true hb.1⟩ V
  · rw [hb] at t
    rw [ret_tt (d := .bl true) t rfl]
    rfl
end K2

set_option linter.all false
set_option Elab.async false
set_option maxRecDepth 100000
set_option maxHeartbeats 1000000
namespace K2
open PySem PySem.Spec PyProof.Rows L2 DL
theorem lst2_exc {ga gb : E} {ρ : DEnv} {x : D} {c : Nat} {g : D} (h : ga ρ = .ok x) (h2 : gb ρ = .exc c g) : E.lst (A.cons ga (A.cons gb A.nil)) ρ = .exc c g := by
  unfold E.lst A.cons
  simp only [h, h2]
  rfl
theorem lt_201 (n : Nat) : ltD (.int n) (.int 201) = some (.bl (decide (n ≤ 200))) := by
  show some (D.bl (decide ((n : Int) < 201))) = _
  congr 2
  exact decide_eq_decide.mpr (by omega)
theorem law_signs : f__law_signs [] = .ok (.str signsS) := by kernel_rfl
theorem lc_signs6 {z : Str} (h : Tw z) (ρ : DEnv) (hρ : ρ = [some (.str z), none, none, none, none, none, none]) : E.op eqD (E.lc [6] (B.name 6) (I.seq (E.var 0)) (T.val (E.op ninD (E.var 6) (E.call f__law_signs A.nil))) (E.var 6)) (E.lst A.nil) ρ = .ok (.bl (among signsS z)) := by
  subst hρ
  have e := lc_filter [some (.str z), none, none, none, none, none, none] 6 (T.val (E.op ninD (E.var 6) (E.call f__law_signs A.nil))) (E.var 6) (fun c => !decide (c ∈ signsS.cps.toList)) z.cps.toList (fun c => by
    show ((f__law_signs []).bind fun y => R.of (ninD (s1 c) y)).bind (fun x => R.of (toB x)) = _
    rw [law_signs]
    rfl) (fun c => rfl)
  have hok : ∀ c ∈ z.cps.toList.filter (fun c => !decide (c ∈ signsS.cps.toList)), c < 0x110000 := fun c hc => ok_mem h.ok (List.mem_filter.mp hc).1
  have e2 := eq_nil _ hok
  have hsz : (z.cps.toList.filter (fun c => !decide (c ∈ signsS.cps.toList))).length ≤ 100000 := Nat.le_trans (List.length_filter_le _ _) (by rw [Array.length_toList]; exact h.szl)
  have e4 : (z.cps.toList.filter (fun c => !decide (c ∈ signsS.cps.toList))).isEmpty = among signsS z := by
    unfold among
    rw [Bool.eq_iff_iff, List.isEmpty_iff, List.filter_eq_nil_iff, List.all_eq_true]
    simp
  have e5 : (E.lc [6] (B.name 6) (I.seq (E.var 0)) (T.val (E.op ninD (E.var 6) (E.call f__law_signs A.nil))) (E.var 6)) [some (.str z), none, none, none, none, none, none] = .ok (.lst ((z.cps.toList.filter (fun c => !decide (c ∈ signsS.cps.toList))).map s1)) := e_lc (ds := z.cps.toList.map s1) rfl e (by rw [List.length_map]; exact hsz)
  refine (op_ok e5 (y := .lst []) rfl).trans ?_
  show R.of ((eqP _ (.lst [])).map D.bl) = _
  rw [e2, e4]
  rfl
theorem due_str {z : Str} (h : Tw z) : (E.and (E.isi .str (E.var 0)) (E.and (E.op ltD (E.fn lenD (A.cons (E.var 0) A.nil)) (E.k (.int 201))) (E.op eqD (E.lc [6] (B.name 6) (I.seq (E.var 0)) (T.val (E.op ninD (E.var 6) (E.call f__law_signs A.nil))) (E.var 6)) (E.lst A.nil)))) [some (.str z), none, none, none, none, none, none] = .ok (.bl (lineB z)) := by
  have a : E.op ltD (E.fn lenD (A.cons (E.var 0) A.nil)) (E.k (.int 201)) [some (.str z), none, none, none, none, none, none] = .ok (.bl (decide (z.length ≤ 200))) := by
    refine (op_ok ((fn1_ok (x := .str z) rfl).trans (by rw [len_w h]; rfl)) (y := .int 201) rfl).trans ?_
    rw [lt_201]
    rfl
  rw [and_tt (show E.isi .str (E.var 0) [some (.str z), none, none, none, none, none, none] = .ok (.bl true) from rfl)]
  unfold lineB
  cases hd : decide (z.length ≤ 200)
  · rw [hd] at a
    rw [and_ff a, Bool.and_false]
  · rw [hd] at a
    rw [and_tt a, lc_signs6 h _ rfl, Bool.and_true]
/-- a value that is asked whether it is a line, and whether it is one -/
structure Lv (v : D) (b : Bool) : Prop where
  same : Same 10 v
  isl : f_is_line [v] = .ok (.bl b)
  due : (E.and (E.isi .str (E.var 0)) (E.and (E.op ltD (E.fn lenD (A.cons (E.var 0) A.nil)) (E.k (.int 201))) (E.op eqD (E.lc [6] (B.name 6) (I.seq (E.var 0)) (T.val (E.op ninD (E.var 6) (E.call f__law_signs A.nil))) (E.var 6)) (E.lst A.nil)))) [some v, none, none, none, none, none, none] = .ok (.bl b)
  yes : b = true → ∃ z, v = .str z ∧ Tw z ∧ lineB z = true
  chk : b = false → f_check_line [v] = .exc 0 v
theorem lv_str {z : Str} (h : Tw z) : Lv (.str z) (lineB z) := ⟨.str z h.ok, is_line h, due_str h, fun hb => ⟨z, rfl, h, hb⟩, fun hb => by rw [check_line h, hb]; rfl⟩
theorem lv_no {v : D} (s : Same 10 v) (h : isiT .str v = false) : Lv v false := by
  refine ⟨s, ?_, ?_, fun z => Bool.noConfusion z, fun _ => ?_⟩
  · cases v with
    | str z => cases h
    | _ => kernel_rfl
  · cases v with
    | str z => cases h
    | _ => rfl
  · cases v with
    | str z => cases h
    | _ => kernel_rfl
/-- a lap over the three ways to ask -/
def lapS : Sm := (S.seq (S.try (S.seq (S.set 3 (E.lst (A.cons (E.k (.str "told")) (A.cons (E.ite (T.val (E.op eqD (E.var 2) (E.k (.int 0)))) (E.call f_words_of (A.cons (E.var 0) A.nil)) (E.ite (T.val (E.op eqD (E.var 2) (E.k (.int 1)))) (E.call1 f_words_of (E.var 0)) (E.k .non))) A.nil)))) (S.set 3 (E.ite (T.and (T.val (E.op eqD (E.var 2) (E.k (.int 2)))) (T.val (E.op neD (E.lst (A.cons (E.call f_first_bad (A.cons (E.var 0) A.nil)) A.nil)) (E.lst A.nil)))) (E.lst (A.cons (E.k (.str "let")) A.nil)) (E.var 3)))) 4 okE (hSet "text" "odd" cw_InvalidText 3)) (S.seq (S.set 5 (E.ite (T.val (E.op eqD (E.var 2) (E.k (.int 2)))) (E.lst (A.cons (E.k (.str "let")) A.nil)) (E.ite (T.val (E.var 1)) (E.lst (A.cons (E.k (.str "told")) (A.cons (E.ite (T.val (E.op neD (E.var 0) (E.k (.str "")))) (E.fn tupleD (A.cons (E.meth isS splitD (E.var 0) (A.cons (E.k (.str " ")) A.nil)) A.nil)) (E.tup A.nil)) A.nil))) (E.lst A.nil)))) (S.ite (T.not (T.val (E.call (f__law_is 12) (A.cons (E.var 3) (A.cons (E.ite (T.val (E.var 1)) (E.var 5) (E.lst (A.cons (E.k (.str "text")) (A.cons (E.var 0) A.nil)))) A.nil))))) (S.ret (E.k (.bl false))) S.pass)))
theorem words_of {z : Str} (h : Tw z) (hb : lineB z = true) : f_words_of [.str z] = .ok (.tup ((wordsP z).map .str)) := by
  have e1 : S.expr (E.call f_check_line (A.cons (E.var 0) A.nil)) [some (.str z)] = .nx [some (.str z)] := by
    unfold S.expr
    rw [call1_ok (x := .str z) rfl, check_line h, if_pos hb]
    rfl
  show (b_words_of [some (.str z)]).fin = _
  unfold b_words_of
  rw [seq_nx e1, ret_ok ((fn1_ok ((call1_ok (x := .str z) rfl).trans (words_by h))).trans rfl)]
  rfl
theorem words_no {v : D} (h : f_check_line [v] = .exc 0 v) : f_words_of [v] = .exc 0 v := by
  have e1 : S.expr (E.call f_check_line (A.cons (E.var 0) A.nil)) [some v] = .exc 0 v [some v] := by
    unfold S.expr
    rw [call1_ok (x := v) rfl, h]
    rfl
  show (b_words_of [some v]).fin = _
  unfold b_words_of S.seq
  rw [e1]
  rfl
theorem first_no {v : D} (h : f_check_line [v] = .exc 0 v) : f_first_bad [v] = .exc 0 v := by
  have e1 : S.expr (E.call f_check_line (A.cons (E.var 0) A.nil)) [some v] = .exc 0 v [some v] := by
    unfold S.expr
    rw [call1_ok (x := v) rfl, h]
    rfl
  show (b_first_bad [some v]).fin = _
  unfold b_first_bad S.seq
  rw [e1]
  rfl
theorem words_same {z : Str} (h : Tw z) : Same 10 (.tup ((wordsP z).map .str)) := .tup _ (fun x hx => by
  obtain ⟨w, h1, rfl⟩ := List.mem_map.mp hx
  exact .str _ (wordsP_tw h w h1).ok) (by rw [List.length_map]; exact Nat.le_trans (wordsP_len h) (by decide))
theorem badN_ne (s : Nat) (ws : List Str) : neD (.lst [badN s ws]) (.lst []) = some (.bl true) := by
  have : ∀ x ∈ [badN s ws], Sh 1 x := fun x hx => by
    rw [List.mem_singleton] at hx
    subst hx
    unfold badN
    have hn : Sh 1 D.non := ⟨_, rfl, by simp [PyData.canLay0], by simp [PyData.depth]⟩
    split
    · exact sh_int _
    · split
      · exact hn
      · exact sh_int _
  rw [ne_nilD this (by decide)]
  rfl
theorem sm_lst1 {n : Nat} {a : D} (h : Same n a) : Same (n + 2) (.lst [a]) := .lst _ (fun x hx => by rw [List.mem_singleton] at hx; subst hx; exact h) (by simp)

theorem lap_yes0 {z : Str} (h : Tw z) (hb : lineB z = true) (o3 o4 o5 o6 : Option D) : lapS [some (.str z), some (.bl true), some (.int 0), o3, o4, o5, o6] = .nx [some (.str z), some (.bl true), some (.int 0), some (.lst [.str "told", .tup ((wordsP z).map .str)]), o4, some (.lst [.str "told", .tup ((wordsP z).map .str)]), o6] := by
  have c0 : ∀ o3 o5, T.val (E.op eqD (E.var 2) (E.k (.int 0))) [some (.str z), some (.bl true), some (.int 0), o3, o4, o5, o6] = .ok true := fun o3 o5 => val_ok ((op_ok (x := .int 0) (y := .int 0) rfl rfl).trans (by kernel_rfl))
  have c1 : ∀ o3 o5, T.val (E.op eqD (E.var 2) (E.k (.int 1))) [some (.str z), some (.bl true), some (.int 0), o3, o4, o5, o6] = .ok false := fun o3 o5 => val_ok ((op_ok (x := .int 0) (y := .int 1) rfl rfl).trans (by kernel_rfl))
  have c2 : ∀ o3 o5, T.val (E.op eqD (E.var 2) (E.k (.int 2))) [some (.str z), some (.bl true), some (.int 0), o3, o4, o5, o6] = .ok false := fun o3 o5 => val_ok ((op_ok (x := .int 0) (y := .int 2) rfl rfl).trans (by kernel_rfl))
  have e1 : S.set 3 (E.lst (A.cons (E.k (.str "told")) (A.cons (E.ite (T.val (E.op eqD (E.var 2) (E.k (.int 0)))) (E.call f_words_of (A.cons (E.var 0) A.nil)) (E.ite (T.val (E.op eqD (E.var 2) (E.k (.int 1)))) (E.call1 f_words_of (E.var 0)) (E.k .non))) A.nil))) [some (.str z), some (.bl true), some (.int 0), o3, o4, o5, o6] = .nx [some (.str z), some (.bl true), some (.int 0), some (.lst [.str "told", .tup ((wordsP z).map .str)]), o4, o5, o6] := by
    exact set_ok (lst2_ok (x := .str "told") rfl ((eite_tt (c0 o3 o5)).trans ((call1_ok (x := .str z) rfl).trans (words_of h hb))))
  have e2 : S.set 3 (E.ite (T.and (T.val (E.op eqD (E.var 2) (E.k (.int 2)))) (T.val (E.op neD (E.lst (A.cons (E.call f_first_bad (A.cons (E.var 0) A.nil)) A.nil)) (E.lst A.nil)))) (E.lst (A.cons (E.k (.str "let")) A.nil)) (E.var 3)) [some (.str z), some (.bl true), some (.int 0), some (.lst [.str "told", .tup ((wordsP z).map .str)]), o4, o5, o6] = .nx [some (.str z), some (.bl true), some (.int 0), some (.lst [.str "told", .tup ((wordsP z).map .str)]), o4, o5, o6] := by
    have t : T.and (T.val (E.op eqD (E.var 2) (E.k (.int 2)))) (T.val (E.op neD (E.lst (A.cons (E.call f_first_bad (A.cons (E.var 0) A.nil)) A.nil)) (E.lst A.nil))) [some (.str z), some (.bl true), some (.int 0), some (.lst [.str "told", .tup ((wordsP z).map .str)]), o4, o5, o6] = .ok false := by
      unfold T.and
      rw [c2, R.bind_ok]
      rfl
    exact set_ok ((eite_ff t).trans rfl)
  have e3 : S.try (S.seq (S.set 3 (E.lst (A.cons (E.k (.str "told")) (A.cons (E.ite (T.val (E.op eqD (E.var 2) (E.k (.int 0)))) (E.call f_words_of (A.cons (E.var 0) A.nil)) (E.ite (T.val (E.op eqD (E.var 2) (E.k (.int 1)))) (E.call1 f_words_of (E.var 0)) (E.k .non))) A.nil)))) (S.set 3 (E.ite (T.and (T.val (E.op eqD (E.var 2) (E.k (.int 2)))) (T.val (E.op neD (E.lst (A.cons (E.call f_first_bad (A.cons (E.var 0) A.nil)) A.nil)) (E.lst A.nil)))) (E.lst (A.cons (E.k (.str "let")) A.nil)) (E.var 3)))) 4 okE (hSet "text" "odd" cw_InvalidText 3) [some (.str z), some (.bl true), some (.int 0), o3, o4, o5, o6] = .nx [some (.str z), some (.bl true), some (.int 0), some (.lst [.str "told", .tup ((wordsP z).map .str)]), o4, o5, o6] := by
    unfold S.try
    rw [seq_nx e1, e2]
  have e4 : (E.ite (T.val (E.op eqD (E.var 2) (E.k (.int 2)))) (E.lst (A.cons (E.k (.str "let")) A.nil)) (E.ite (T.val (E.var 1)) (E.lst (A.cons (E.k (.str "told")) (A.cons (E.ite (T.val (E.op neD (E.var 0) (E.k (.str "")))) (E.fn tupleD (A.cons (E.meth isS splitD (E.var 0) (A.cons (E.k (.str " ")) A.nil)) A.nil)) (E.tup A.nil)) A.nil))) (E.lst A.nil))) [some (.str z), some (.bl true), some (.int 0), some (.lst [.str "told", .tup ((wordsP z).map .str)]), o4, o5, o6] = .ok (.lst [.str "told", .tup ((wordsP z).map .str)]) := by
    refine (eite_ff (c2 _ _)).trans ((eite_tt (show T.val (E.var 1) [some (.str z), some (.bl true), some (.int 0), some (.lst [.str "told", .tup ((wordsP z).map .str)]), o4, o5, o6] = .ok true from rfl)).trans (lst2_ok (x := .str "told") rfl ?_))
    unfold E.ite
    rw [val_ok (b := !(z == "")) ((op_ok (x := .str z) (y := .str "") rfl rfl).trans (by rw [ne_str _ _ h.ok empty_ok]; rfl)), R.bind_ok]
    unfold wordsP
    cases z == ""
    · refine (if_pos rfl).trans ?_
      refine (fn1_ok (x := .lst ((Txt.split z " ").map .str)) ?_).trans rfl
      show R.of (splitD (.str z) [.str " "]) = _
      rw [split_w h]
      rfl
    · rfl
  have t5 : (T.not (T.val (E.call (f__law_is 12) (A.cons (E.var 3) (A.cons (E.ite (T.val (E.var 1)) (E.var 5) (E.lst (A.cons (E.k (.str "text")) (A.cons (E.var 0) A.nil)))) A.nil))))) [some (.str z), some (.bl true), some (.int 0), some (.lst [.str "told", .tup ((wordsP z).map .str)]), o4, some (.lst [.str "told", .tup ((wordsP z).map .str)]), o6] = .ok false := is12 (d := .lst [.str "told", .tup ((wordsP z).map .str)]) rfl ((eite_tt (show T.val (E.var 1) [some (.str z), some (.bl true), some (.int 0), some (.lst [.str "told", .tup ((wordsP z).map .str)]), o4, some (.lst [.str "told", .tup ((wordsP z).map .str)]), o6] = .ok true from rfl)).trans rfl) (sm_lst2 (.str _ (by decide +kernel)) (words_same h))
  unfold lapS
  rw [seq_nx e3, seq_nx (set_ok e4)]
  show S.ite (T.not (T.val (E.call (f__law_is 12) (A.cons (E.var 3) (A.cons (E.ite (T.val (E.var 1)) (E.var 5) (E.lst (A.cons (E.k (.str "text")) (A.cons (E.var 0) A.nil)))) A.nil))))) (S.ret (E.k (.bl false))) S.pass [some (.str z), some (.bl true), some (.int 0), some (.lst [.str "told", .tup ((wordsP z).map .str)]), o4, some (.lst [.str "told", .tup ((wordsP z).map .str)]), o6] = _
  rw [ite_ff t5]
  rfl
theorem lap_no0 {v : D} (s : Same 10 v) (h : f_check_line [v] = .exc 0 v) (o3 o4 o5 o6 : Option D) : lapS [some (v), some (.bl false), some (.int 0), o3, o4, o5, o6] = .nx [some (v), some (.bl false), some (.int 0), some (.lst [.str "text", v]), none, some (.lst []), o6] := by
  have c0 : ∀ o3 o4 o5, T.val (E.op eqD (E.var 2) (E.k (.int 0))) [some (v), some (.bl false), some (.int 0), o3, o4, o5, o6] = .ok true := fun o3 o4 o5 => val_ok ((op_ok (x := .int 0) (y := .int 0) rfl rfl).trans (by kernel_rfl))
  have c1 : ∀ o3 o4 o5, T.val (E.op eqD (E.var 2) (E.k (.int 1))) [some (v), some (.bl false), some (.int 0), o3, o4, o5, o6] = .ok false := fun o3 o4 o5 => val_ok ((op_ok (x := .int 0) (y := .int 1) rfl rfl).trans (by kernel_rfl))
  have c2 : ∀ o3 o4 o5, T.val (E.op eqD (E.var 2) (E.k (.int 2))) [some (v), some (.bl false), some (.int 0), o3, o4, o5, o6] = .ok false := fun o3 o4 o5 => val_ok ((op_ok (x := .int 0) (y := .int 2) rfl rfl).trans (by kernel_rfl))
  have e0 : (E.ite (T.val (E.op eqD (E.var 2) (E.k (.int 0)))) (E.call f_words_of (A.cons (E.var 0) A.nil)) (E.ite (T.val (E.op eqD (E.var 2) (E.k (.int 1)))) (E.call1 f_words_of (E.var 0)) (E.k .non))) [some (v), some (.bl false), some (.int 0), o3, o4, o5, o6] = .exc 0 v := (eite_tt (c0 _ _ _)).trans ((call1_ok (x := v) rfl).trans (words_no h))
  have e1 : S.seq (S.set 3 (E.lst (A.cons (E.k (.str "told")) (A.cons (E.ite (T.val (E.op eqD (E.var 2) (E.k (.int 0)))) (E.call f_words_of (A.cons (E.var 0) A.nil)) (E.ite (T.val (E.op eqD (E.var 2) (E.k (.int 1)))) (E.call1 f_words_of (E.var 0)) (E.k .non))) A.nil)))) (S.set 3 (E.ite (T.and (T.val (E.op eqD (E.var 2) (E.k (.int 2)))) (T.val (E.op neD (E.lst (A.cons (E.call f_first_bad (A.cons (E.var 0) A.nil)) A.nil)) (E.lst A.nil)))) (E.lst (A.cons (E.k (.str "let")) A.nil)) (E.var 3))) [some (v), some (.bl false), some (.int 0), o3, o4, o5, o6] = .exc 0 v [some (v), some (.bl false), some (.int 0), o3, o4, o5, o6] := by
    have e2 : (E.lst (A.cons (E.k (.str "told")) (A.cons (E.ite (T.val (E.op eqD (E.var 2) (E.k (.int 0)))) (E.call f_words_of (A.cons (E.var 0) A.nil)) (E.ite (T.val (E.op eqD (E.var 2) (E.k (.int 1)))) (E.call1 f_words_of (E.var 0)) (E.k .non))) A.nil))) [some (v), some (.bl false), some (.int 0), o3, o4, o5, o6] = .exc 0 v := by
      exact lst2_exc (x := .str "told") rfl e0
    unfold S.seq S.set
    rw [e2]
    rfl
  have e3 : S.try (S.seq (S.set 3 (E.lst (A.cons (E.k (.str "told")) (A.cons (E.ite (T.val (E.op eqD (E.var 2) (E.k (.int 0)))) (E.call f_words_of (A.cons (E.var 0) A.nil)) (E.ite (T.val (E.op eqD (E.var 2) (E.k (.int 1)))) (E.call1 f_words_of (E.var 0)) (E.k .non))) A.nil)))) (S.set 3 (E.ite (T.and (T.val (E.op eqD (E.var 2) (E.k (.int 2)))) (T.val (E.op neD (E.lst (A.cons (E.call f_first_bad (A.cons (E.var 0) A.nil)) A.nil)) (E.lst A.nil)))) (E.lst (A.cons (E.k (.str "let")) A.nil)) (E.var 3)))) 4 okE (hSet "text" "odd" cw_InvalidText 3) [some (v), some (.bl false), some (.int 0), o3, o4, o5, o6] = .nx [some (v), some (.bl false), some (.int 0), some (.lst [.str "text", v]), none, o5, o6] := by
    unfold S.try
    rw [e1]
    kernel_rfl
  have e4 : (E.ite (T.val (E.op eqD (E.var 2) (E.k (.int 2)))) (E.lst (A.cons (E.k (.str "let")) A.nil)) (E.ite (T.val (E.var 1)) (E.lst (A.cons (E.k (.str "told")) (A.cons (E.ite (T.val (E.op neD (E.var 0) (E.k (.str "")))) (E.fn tupleD (A.cons (E.meth isS splitD (E.var 0) (A.cons (E.k (.str " ")) A.nil)) A.nil)) (E.tup A.nil)) A.nil))) (E.lst A.nil))) [some (v), some (.bl false), some (.int 0), some (.lst [.str "text", v]), none, o5, o6] = .ok (.lst []) := by
    exact (eite_ff (c2 _ _ _)).trans ((eite_ff (show T.val (E.var 1) [some (v), some (.bl false), some (.int 0), some (.lst [.str "text", v]), none, o5, o6] = .ok false from rfl)).trans rfl)
  have t5 : (T.not (T.val (E.call (f__law_is 12) (A.cons (E.var 3) (A.cons (E.ite (T.val (E.var 1)) (E.var 5) (E.lst (A.cons (E.k (.str "text")) (A.cons (E.var 0) A.nil)))) A.nil))))) [some (v), some (.bl false), some (.int 0), some (.lst [.str "text", v]), none, some (.lst []), o6] = .ok false := is12 (d := .lst [.str "text", v]) rfl ((eite_ff (show T.val (E.var 1) [some (v), some (.bl false), some (.int 0), some (.lst [.str "text", v]), none, some (.lst []), o6] = .ok false from rfl)).trans (lst2_ok (x := .str "text") (y := v) rfl rfl)) (sm_lst2 (.str _ (by decide +kernel)) s)
  unfold lapS
  rw [seq_nx e3, seq_nx (set_ok e4)]
  show S.ite (T.not (T.val (E.call (f__law_is 12) (A.cons (E.var 3) (A.cons (E.ite (T.val (E.var 1)) (E.var 5) (E.lst (A.cons (E.k (.str "text")) (A.cons (E.var 0) A.nil)))) A.nil))))) (S.ret (E.k (.bl false))) S.pass [some (v), some (.bl false), some (.int 0), some (.lst [.str "text", v]), none, some (.lst []), o6] = _
  rw [ite_ff t5]
  rfl
theorem lap_yes1 {z : Str} (h : Tw z) (hb : lineB z = true) (o3 o4 o5 o6 : Option D) : lapS [some (.str z), some (.bl true), some (.int 1), o3, o4, o5, o6] = .nx [some (.str z), some (.bl true), some (.int 1), some (.lst [.str "told", .tup ((wordsP z).map .str)]), o4, some (.lst [.str "told", .tup ((wordsP z).map .str)]), o6] := by
  have c0 : ∀ o3 o5, T.val (E.op eqD (E.var 2) (E.k (.int 0))) [some (.str z), some (.bl true), some (.int 1), o3, o4, o5, o6] = .ok false := fun o3 o5 => val_ok ((op_ok (x := .int 1) (y := .int 0) rfl rfl).trans (by kernel_rfl))
  have c1 : ∀ o3 o5, T.val (E.op eqD (E.var 2) (E.k (.int 1))) [some (.str z), some (.bl true), some (.int 1), o3, o4, o5, o6] = .ok true := fun o3 o5 => val_ok ((op_ok (x := .int 1) (y := .int 1) rfl rfl).trans (by kernel_rfl))
  have c2 : ∀ o3 o5, T.val (E.op eqD (E.var 2) (E.k (.int 2))) [some (.str z), some (.bl true), some (.int 1), o3, o4, o5, o6] = .ok false := fun o3 o5 => val_ok ((op_ok (x := .int 1) (y := .int 2) rfl rfl).trans (by kernel_rfl))
  have e1 : S.set 3 (E.lst (A.cons (E.k (.str "told")) (A.cons (E.ite (T.val (E.op eqD (E.var 2) (E.k (.int 0)))) (E.call f_words_of (A.cons (E.var 0) A.nil)) (E.ite (T.val (E.op eqD (E.var 2) (E.k (.int 1)))) (E.call1 f_words_of (E.var 0)) (E.k .non))) A.nil))) [some (.str z), some (.bl true), some (.int 1), o3, o4, o5, o6] = .nx [some (.str z), some (.bl true), some (.int 1), some (.lst [.str "told", .tup ((wordsP z).map .str)]), o4, o5, o6] := by
    exact set_ok (lst2_ok (x := .str "told") rfl ((eite_ff (c0 o3 o5)).trans ((eite_tt (c1 o3 o5)).trans ((call1x_ok (x := .str z) rfl).trans (words_of h hb)))))
  have e2 : S.set 3 (E.ite (T.and (T.val (E.op eqD (E.var 2) (E.k (.int 2)))) (T.val (E.op neD (E.lst (A.cons (E.call f_first_bad (A.cons (E.var 0) A.nil)) A.nil)) (E.lst A.nil)))) (E.lst (A.cons (E.k (.str "let")) A.nil)) (E.var 3)) [some (.str z), some (.bl true), some (.int 1), some (.lst [.str "told", .tup ((wordsP z).map .str)]), o4, o5, o6] = .nx [some (.str z), some (.bl true), some (.int 1), some (.lst [.str "told", .tup ((wordsP z).map .str)]), o4, o5, o6] := by
    have t : T.and (T.val (E.op eqD (E.var 2) (E.k (.int 2)))) (T.val (E.op neD (E.lst (A.cons (E.call f_first_bad (A.cons (E.var 0) A.nil)) A.nil)) (E.lst A.nil))) [some (.str z), some (.bl true), some (.int 1), some (.lst [.str "told", .tup ((wordsP z).map .str)]), o4, o5, o6] = .ok false := by
      unfold T.and
      rw [c2, R.bind_ok]
      rfl
    exact set_ok ((eite_ff t).trans rfl)
  have e3 : S.try (S.seq (S.set 3 (E.lst (A.cons (E.k (.str "told")) (A.cons (E.ite (T.val (E.op eqD (E.var 2) (E.k (.int 0)))) (E.call f_words_of (A.cons (E.var 0) A.nil)) (E.ite (T.val (E.op eqD (E.var 2) (E.k (.int 1)))) (E.call1 f_words_of (E.var 0)) (E.k .non))) A.nil)))) (S.set 3 (E.ite (T.and (T.val (E.op eqD (E.var 2) (E.k (.int 2)))) (T.val (E.op neD (E.lst (A.cons (E.call f_first_bad (A.cons (E.var 0) A.nil)) A.nil)) (E.lst A.nil)))) (E.lst (A.cons (E.k (.str "let")) A.nil)) (E.var 3)))) 4 okE (hSet "text" "odd" cw_InvalidText 3) [some (.str z), some (.bl true), some (.int 1), o3, o4, o5, o6] = .nx [some (.str z), some (.bl true), some (.int 1), some (.lst [.str "told", .tup ((wordsP z).map .str)]), o4, o5, o6] := by
    unfold S.try
    rw [seq_nx e1, e2]
  have e4 : (E.ite (T.val (E.op eqD (E.var 2) (E.k (.int 2)))) (E.lst (A.cons (E.k (.str "let")) A.nil)) (E.ite (T.val (E.var 1)) (E.lst (A.cons (E.k (.str "told")) (A.cons (E.ite (T.val (E.op neD (E.var 0) (E.k (.str "")))) (E.fn tupleD (A.cons (E.meth isS splitD (E.var 0) (A.cons (E.k (.str " ")) A.nil)) A.nil)) (E.tup A.nil)) A.nil))) (E.lst A.nil))) [some (.str z), some (.bl true), some (.int 1), some (.lst [.str "told", .tup ((wordsP z).map .str)]), o4, o5, o6] = .ok (.lst [.str "told", .tup ((wordsP z).map .str)]) := by
    refine (eite_ff (c2 _ _)).trans ((eite_tt (show T.val (E.var 1) [some (.str z), some (.bl true), some (.int 1), some (.lst [.str "told", .tup ((wordsP z).map .str)]), o4, o5, o6] = .ok true from rfl)).trans (lst2_ok (x := .str "told") rfl ?_))
    unfold E.ite
    rw [val_ok (b := !(z == "")) ((op_ok (x := .str z) (y := .str "") rfl rfl).trans (by rw [ne_str _ _ h.ok empty_ok]; rfl)), R.bind_ok]
    unfold wordsP
    cases z == ""
    · refine (if_pos rfl).trans ?_
      refine (fn1_ok (x := .lst ((Txt.split z " ").map .str)) ?_).trans rfl
      show R.of (splitD (.str z) [.str " "]) = _
      rw [split_w h]
      rfl
    · rfl
  have t5 : (T.not (T.val (E.call (f__law_is 12) (A.cons (E.var 3) (A.cons (E.ite (T.val (E.var 1)) (E.var 5) (E.lst (A.cons (E.k (.str "text")) (A.cons (E.var 0) A.nil)))) A.nil))))) [some (.str z), some (.bl true), some (.int 1), some (.lst [.str "told", .tup ((wordsP z).map .str)]), o4, some (.lst [.str "told", .tup ((wordsP z).map .str)]), o6] = .ok false := is12 (d := .lst [.str "told", .tup ((wordsP z).map .str)]) rfl ((eite_tt (show T.val (E.var 1) [some (.str z), some (.bl true), some (.int 1), some (.lst [.str "told", .tup ((wordsP z).map .str)]), o4, some (.lst [.str "told", .tup ((wordsP z).map .str)]), o6] = .ok true from rfl)).trans rfl) (sm_lst2 (.str _ (by decide +kernel)) (words_same h))
  unfold lapS
  rw [seq_nx e3, seq_nx (set_ok e4)]
  show S.ite (T.not (T.val (E.call (f__law_is 12) (A.cons (E.var 3) (A.cons (E.ite (T.val (E.var 1)) (E.var 5) (E.lst (A.cons (E.k (.str "text")) (A.cons (E.var 0) A.nil)))) A.nil))))) (S.ret (E.k (.bl false))) S.pass [some (.str z), some (.bl true), some (.int 1), some (.lst [.str "told", .tup ((wordsP z).map .str)]), o4, some (.lst [.str "told", .tup ((wordsP z).map .str)]), o6] = _
  rw [ite_ff t5]
  rfl
theorem lap_no1 {v : D} (s : Same 10 v) (h : f_check_line [v] = .exc 0 v) (o3 o4 o5 o6 : Option D) : lapS [some (v), some (.bl false), some (.int 1), o3, o4, o5, o6] = .nx [some (v), some (.bl false), some (.int 1), some (.lst [.str "text", v]), none, some (.lst []), o6] := by
  have c0 : ∀ o3 o4 o5, T.val (E.op eqD (E.var 2) (E.k (.int 0))) [some (v), some (.bl false), some (.int 1), o3, o4, o5, o6] = .ok false := fun o3 o4 o5 => val_ok ((op_ok (x := .int 1) (y := .int 0) rfl rfl).trans (by kernel_rfl))
  have c1 : ∀ o3 o4 o5, T.val (E.op eqD (E.var 2) (E.k (.int 1))) [some (v), some (.bl false), some (.int 1), o3, o4, o5, o6] = .ok true := fun o3 o4 o5 => val_ok ((op_ok (x := .int 1) (y := .int 1) rfl rfl).trans (by kernel_rfl))
  have c2 : ∀ o3 o4 o5, T.val (E.op eqD (E.var 2) (E.k (.int 2))) [some (v), some (.bl false), some (.int 1), o3, o4, o5, o6] = .ok false := fun o3 o4 o5 => val_ok ((op_ok (x := .int 1) (y := .int 2) rfl rfl).trans (by kernel_rfl))
  have e0 : (E.ite (T.val (E.op eqD (E.var 2) (E.k (.int 0)))) (E.call f_words_of (A.cons (E.var 0) A.nil)) (E.ite (T.val (E.op eqD (E.var 2) (E.k (.int 1)))) (E.call1 f_words_of (E.var 0)) (E.k .non))) [some (v), some (.bl false), some (.int 1), o3, o4, o5, o6] = .exc 0 v := (eite_ff (c0 _ _ _)).trans ((eite_tt (c1 _ _ _)).trans ((call1x_ok (x := v) rfl).trans (words_no h)))
  have e1 : S.seq (S.set 3 (E.lst (A.cons (E.k (.str "told")) (A.cons (E.ite (T.val (E.op eqD (E.var 2) (E.k (.int 0)))) (E.call f_words_of (A.cons (E.var 0) A.nil)) (E.ite (T.val (E.op eqD (E.var 2) (E.k (.int 1)))) (E.call1 f_words_of (E.var 0)) (E.k .non))) A.nil)))) (S.set 3 (E.ite (T.and (T.val (E.op eqD (E.var 2) (E.k (.int 2)))) (T.val (E.op neD (E.lst (A.cons (E.call f_first_bad (A.cons (E.var 0) A.nil)) A.nil)) (E.lst A.nil)))) (E.lst (A.cons (E.k (.str "let")) A.nil)) (E.var 3))) [some (v), some (.bl false), some (.int 1), o3, o4, o5, o6] = .exc 0 v [some (v), some (.bl false), some (.int 1), o3, o4, o5, o6] := by
    have e2 : (E.lst (A.cons (E.k (.str "told")) (A.cons (E.ite (T.val (E.op eqD (E.var 2) (E.k (.int 0)))) (E.call f_words_of (A.cons (E.var 0) A.nil)) (E.ite (T.val (E.op eqD (E.var 2) (E.k (.int 1)))) (E.call1 f_words_of (E.var 0)) (E.k .non))) A.nil))) [some (v), some (.bl false), some (.int 1), o3, o4, o5, o6] = .exc 0 v := by
      exact lst2_exc (x := .str "told") rfl e0
    unfold S.seq S.set
    rw [e2]
    rfl
  have e3 : S.try (S.seq (S.set 3 (E.lst (A.cons (E.k (.str "told")) (A.cons (E.ite (T.val (E.op eqD (E.var 2) (E.k (.int 0)))) (E.call f_words_of (A.cons (E.var 0) A.nil)) (E.ite (T.val (E.op eqD (E.var 2) (E.k (.int 1)))) (E.call1 f_words_of (E.var 0)) (E.k .non))) A.nil)))) (S.set 3 (E.ite (T.and (T.val (E.op eqD (E.var 2) (E.k (.int 2)))) (T.val (E.op neD (E.lst (A.cons (E.call f_first_bad (A.cons (E.var 0) A.nil)) A.nil)) (E.lst A.nil)))) (E.lst (A.cons (E.k (.str "let")) A.nil)) (E.var 3)))) 4 okE (hSet "text" "odd" cw_InvalidText 3) [some (v), some (.bl false), some (.int 1), o3, o4, o5, o6] = .nx [some (v), some (.bl false), some (.int 1), some (.lst [.str "text", v]), none, o5, o6] := by
    unfold S.try
    rw [e1]
    kernel_rfl
  have e4 : (E.ite (T.val (E.op eqD (E.var 2) (E.k (.int 2)))) (E.lst (A.cons (E.k (.str "let")) A.nil)) (E.ite (T.val (E.var 1)) (E.lst (A.cons (E.k (.str "told")) (A.cons (E.ite (T.val (E.op neD (E.var 0) (E.k (.str "")))) (E.fn tupleD (A.cons (E.meth isS splitD (E.var 0) (A.cons (E.k (.str " ")) A.nil)) A.nil)) (E.tup A.nil)) A.nil))) (E.lst A.nil))) [some (v), some (.bl false), some (.int 1), some (.lst [.str "text", v]), none, o5, o6] = .ok (.lst []) := by
    exact (eite_ff (c2 _ _ _)).trans ((eite_ff (show T.val (E.var 1) [some (v), some (.bl false), some (.int 1), some (.lst [.str "text", v]), none, o5, o6] = .ok false from rfl)).trans rfl)
  have t5 : (T.not (T.val (E.call (f__law_is 12) (A.cons (E.var 3) (A.cons (E.ite (T.val (E.var 1)) (E.var 5) (E.lst (A.cons (E.k (.str "text")) (A.cons (E.var 0) A.nil)))) A.nil))))) [some (v), some (.bl false), some (.int 1), some (.lst [.str "text", v]), none, some (.lst []), o6] = .ok false := is12 (d := .lst [.str "text", v]) rfl ((eite_ff (show T.val (E.var 1) [some (v), some (.bl false), some (.int 1), some (.lst [.str "text", v]), none, some (.lst []), o6] = .ok false from rfl)).trans (lst2_ok (x := .str "text") (y := v) rfl rfl)) (sm_lst2 (.str _ (by decide +kernel)) s)
  unfold lapS
  rw [seq_nx e3, seq_nx (set_ok e4)]
  show S.ite (T.not (T.val (E.call (f__law_is 12) (A.cons (E.var 3) (A.cons (E.ite (T.val (E.var 1)) (E.var 5) (E.lst (A.cons (E.k (.str "text")) (A.cons (E.var 0) A.nil)))) A.nil))))) (S.ret (E.k (.bl false))) S.pass [some (v), some (.bl false), some (.int 1), some (.lst [.str "text", v]), none, some (.lst []), o6] = _
  rw [ite_ff t5]
  rfl
theorem lap_yes2 {z : Str} (h : Tw z) (hb : lineB z = true) (o3 o4 o5 o6 : Option D) : lapS [some (.str z), some (.bl true), some (.int 2), o3, o4, o5, o6] = .nx [some (.str z), some (.bl true), some (.int 2), some (.lst [.str "let"]), o4, some (.lst [.str "let"]), o6] := by
  have c0 : ∀ o3 o5, T.val (E.op eqD (E.var 2) (E.k (.int 0))) [some (.str z), some (.bl true), some (.int 2), o3, o4, o5, o6] = .ok false := fun o3 o5 => val_ok ((op_ok (x := .int 2) (y := .int 0) rfl rfl).trans (by kernel_rfl))
  have c1 : ∀ o3 o5, T.val (E.op eqD (E.var 2) (E.k (.int 1))) [some (.str z), some (.bl true), some (.int 2), o3, o4, o5, o6] = .ok false := fun o3 o5 => val_ok ((op_ok (x := .int 2) (y := .int 1) rfl rfl).trans (by kernel_rfl))
  have c2 : ∀ o3 o5, T.val (E.op eqD (E.var 2) (E.k (.int 2))) [some (.str z), some (.bl true), some (.int 2), o3, o4, o5, o6] = .ok true := fun o3 o5 => val_ok ((op_ok (x := .int 2) (y := .int 2) rfl rfl).trans (by kernel_rfl))
  have e1 : S.set 3 (E.lst (A.cons (E.k (.str "told")) (A.cons (E.ite (T.val (E.op eqD (E.var 2) (E.k (.int 0)))) (E.call f_words_of (A.cons (E.var 0) A.nil)) (E.ite (T.val (E.op eqD (E.var 2) (E.k (.int 1)))) (E.call1 f_words_of (E.var 0)) (E.k .non))) A.nil))) [some (.str z), some (.bl true), some (.int 2), o3, o4, o5, o6] = .nx [some (.str z), some (.bl true), some (.int 2), some (.lst [.str "told", .non]), o4, o5, o6] := by
    exact set_ok (lst2_ok (x := .str "told") rfl ((eite_ff (c0 o3 o5)).trans ((eite_ff (c1 o3 o5)).trans rfl)))
  have e2 : S.set 3 (E.ite (T.and (T.val (E.op eqD (E.var 2) (E.k (.int 2)))) (T.val (E.op neD (E.lst (A.cons (E.call f_first_bad (A.cons (E.var 0) A.nil)) A.nil)) (E.lst A.nil)))) (E.lst (A.cons (E.k (.str "let")) A.nil)) (E.var 3)) [some (.str z), some (.bl true), some (.int 2), some (.lst [.str "told", .non]), o4, o5, o6] = .nx [some (.str z), some (.bl true), some (.int 2), some (.lst [.str "let"]), o4, o5, o6] := by
    have t : T.and (T.val (E.op eqD (E.var 2) (E.k (.int 2)))) (T.val (E.op neD (E.lst (A.cons (E.call f_first_bad (A.cons (E.var 0) A.nil)) A.nil)) (E.lst A.nil))) [some (.str z), some (.bl true), some (.int 2), some (.lst [.str "told", .non]), o4, o5, o6] = .ok true := by
      unfold T.and
      rw [c2, R.bind_ok]
      rw [if_pos rfl]
      have f : E.lst (A.cons (E.call f_first_bad (A.cons (E.var 0) A.nil)) A.nil) [some (.str z), some (.bl true), some (.int 2), some (.lst [.str "told", .non]), o4, o5, o6] = .ok (.lst [badN 0 (wordsP z)]) := by
        unfold E.lst A.cons
        rw [show E.call f_first_bad (fun ρ => (E.var 0 ρ).bind fun x => (A.nil ρ).bind fun xs => R.ok (x :: xs)) [some (.str z), some (.bl true), some (.int 2), some (.lst [.str "told", .non]), o4, o5, o6] = f_first_bad [.str z] from rfl, first_bad h, if_pos hb]
        rfl
      refine val_ok ((op_ok f (y := .lst []) rfl).trans ?_)
      rw [badN_ne]
      rfl
    exact set_ok ((eite_tt t).trans rfl)
  have e3 : S.try (S.seq (S.set 3 (E.lst (A.cons (E.k (.str "told")) (A.cons (E.ite (T.val (E.op eqD (E.var 2) (E.k (.int 0)))) (E.call f_words_of (A.cons (E.var 0) A.nil)) (E.ite (T.val (E.op eqD (E.var 2) (E.k (.int 1)))) (E.call1 f_words_of (E.var 0)) (E.k .non))) A.nil)))) (S.set 3 (E.ite (T.and (T.val (E.op eqD (E.var 2) (E.k (.int 2)))) (T.val (E.op neD (E.lst (A.cons (E.call f_first_bad (A.cons (E.var 0) A.nil)) A.nil)) (E.lst A.nil)))) (E.lst (A.cons (E.k (.str "let")) A.nil)) (E.var 3)))) 4 okE (hSet "text" "odd" cw_InvalidText 3) [some (.str z), some (.bl true), some (.int 2), o3, o4, o5, o6] = .nx [some (.str z), some (.bl true), some (.int 2), some (.lst [.str "let"]), o4, o5, o6] := by
    unfold S.try
    rw [seq_nx e1, e2]
  have e4 : (E.ite (T.val (E.op eqD (E.var 2) (E.k (.int 2)))) (E.lst (A.cons (E.k (.str "let")) A.nil)) (E.ite (T.val (E.var 1)) (E.lst (A.cons (E.k (.str "told")) (A.cons (E.ite (T.val (E.op neD (E.var 0) (E.k (.str "")))) (E.fn tupleD (A.cons (E.meth isS splitD (E.var 0) (A.cons (E.k (.str " ")) A.nil)) A.nil)) (E.tup A.nil)) A.nil))) (E.lst A.nil))) [some (.str z), some (.bl true), some (.int 2), some (.lst [.str "let"]), o4, o5, o6] = .ok (.lst [.str "let"]) := by
    exact (eite_tt (c2 _ _)).trans rfl
  have t5 : (T.not (T.val (E.call (f__law_is 12) (A.cons (E.var 3) (A.cons (E.ite (T.val (E.var 1)) (E.var 5) (E.lst (A.cons (E.k (.str "text")) (A.cons (E.var 0) A.nil)))) A.nil))))) [some (.str z), some (.bl true), some (.int 2), some (.lst [.str "let"]), o4, some (.lst [.str "let"]), o6] = .ok false := is12 (d := .lst [.str "let"]) rfl ((eite_tt (show T.val (E.var 1) [some (.str z), some (.bl true), some (.int 2), some (.lst [.str "let"]), o4, some (.lst [.str "let"]), o6] = .ok true from rfl)).trans rfl) (sm_lst1 (.str _ (by decide +kernel)))
  unfold lapS
  rw [seq_nx e3, seq_nx (set_ok e4)]
  show S.ite (T.not (T.val (E.call (f__law_is 12) (A.cons (E.var 3) (A.cons (E.ite (T.val (E.var 1)) (E.var 5) (E.lst (A.cons (E.k (.str "text")) (A.cons (E.var 0) A.nil)))) A.nil))))) (S.ret (E.k (.bl false))) S.pass [some (.str z), some (.bl true), some (.int 2), some (.lst [.str "let"]), o4, some (.lst [.str "let"]), o6] = _
  rw [ite_ff t5]
  rfl
theorem lap_no2 {v : D} (s : Same 10 v) (h : f_check_line [v] = .exc 0 v) (o3 o4 o5 o6 : Option D) : lapS [some (v), some (.bl false), some (.int 2), o3, o4, o5, o6] = .nx [some (v), some (.bl false), some (.int 2), some (.lst [.str "text", v]), none, some (.lst [.str "let"]), o6] := by
  have c0 : ∀ o3 o4 o5, T.val (E.op eqD (E.var 2) (E.k (.int 0))) [some (v), some (.bl false), some (.int 2), o3, o4, o5, o6] = .ok false := fun o3 o4 o5 => val_ok ((op_ok (x := .int 2) (y := .int 0) rfl rfl).trans (by kernel_rfl))
  have c1 : ∀ o3 o4 o5, T.val (E.op eqD (E.var 2) (E.k (.int 1))) [some (v), some (.bl false), some (.int 2), o3, o4, o5, o6] = .ok false := fun o3 o4 o5 => val_ok ((op_ok (x := .int 2) (y := .int 1) rfl rfl).trans (by kernel_rfl))
  have c2 : ∀ o3 o4 o5, T.val (E.op eqD (E.var 2) (E.k (.int 2))) [some (v), some (.bl false), some (.int 2), o3, o4, o5, o6] = .ok true := fun o3 o4 o5 => val_ok ((op_ok (x := .int 2) (y := .int 2) rfl rfl).trans (by kernel_rfl))
  have e1 : S.seq (S.set 3 (E.lst (A.cons (E.k (.str "told")) (A.cons (E.ite (T.val (E.op eqD (E.var 2) (E.k (.int 0)))) (E.call f_words_of (A.cons (E.var 0) A.nil)) (E.ite (T.val (E.op eqD (E.var 2) (E.k (.int 1)))) (E.call1 f_words_of (E.var 0)) (E.k .non))) A.nil)))) (S.set 3 (E.ite (T.and (T.val (E.op eqD (E.var 2) (E.k (.int 2)))) (T.val (E.op neD (E.lst (A.cons (E.call f_first_bad (A.cons (E.var 0) A.nil)) A.nil)) (E.lst A.nil)))) (E.lst (A.cons (E.k (.str "let")) A.nil)) (E.var 3))) [some (v), some (.bl false), some (.int 2), o3, o4, o5, o6] = .exc 0 v [some (v), some (.bl false), some (.int 2), some (.lst [.str "told", .non]), o4, o5, o6] := by
    have e2 : S.set 3 (E.lst (A.cons (E.k (.str "told")) (A.cons (E.ite (T.val (E.op eqD (E.var 2) (E.k (.int 0)))) (E.call f_words_of (A.cons (E.var 0) A.nil)) (E.ite (T.val (E.op eqD (E.var 2) (E.k (.int 1)))) (E.call1 f_words_of (E.var 0)) (E.k .non))) A.nil))) [some (v), some (.bl false), some (.int 2), o3, o4, o5, o6] = .nx [some (v), some (.bl false), some (.int 2), some (.lst [.str "told", .non]), o4, o5, o6] := set_ok (lst2_ok (x := .str "told") rfl ((eite_ff (c0 _ _ _)).trans ((eite_ff (c1 _ _ _)).trans rfl)))
    rw [seq_nx e2]
    have t : T.and (T.val (E.op eqD (E.var 2) (E.k (.int 2)))) (T.val (E.op neD (E.lst (A.cons (E.call f_first_bad (A.cons (E.var 0) A.nil)) A.nil)) (E.lst A.nil))) [some (v), some (.bl false), some (.int 2), some (.lst [.str "told", .non]), o4, o5, o6] = .exc 0 v := by
      unfold T.and
      rw [c2, R.bind_ok, if_pos rfl]
      unfold T.val E.op E.lst A.cons
      rw [show E.call f_first_bad (fun ρ => (E.var 0 ρ).bind fun x => (A.nil ρ).bind fun xs => R.ok (x :: xs)) [some (v), some (.bl false), some (.int 2), some (.lst [.str "told", .non]), o4, o5, o6] = f_first_bad [v] from rfl, first_no h]
      rfl
    unfold S.set E.ite
    rw [t]
    rfl
  have e3 : S.try (S.seq (S.set 3 (E.lst (A.cons (E.k (.str "told")) (A.cons (E.ite (T.val (E.op eqD (E.var 2) (E.k (.int 0)))) (E.call f_words_of (A.cons (E.var 0) A.nil)) (E.ite (T.val (E.op eqD (E.var 2) (E.k (.int 1)))) (E.call1 f_words_of (E.var 0)) (E.k .non))) A.nil)))) (S.set 3 (E.ite (T.and (T.val (E.op eqD (E.var 2) (E.k (.int 2)))) (T.val (E.op neD (E.lst (A.cons (E.call f_first_bad (A.cons (E.var 0) A.nil)) A.nil)) (E.lst A.nil)))) (E.lst (A.cons (E.k (.str "let")) A.nil)) (E.var 3)))) 4 okE (hSet "text" "odd" cw_InvalidText 3) [some (v), some (.bl false), some (.int 2), o3, o4, o5, o6] = .nx [some (v), some (.bl false), some (.int 2), some (.lst [.str "text", v]), none, o5, o6] := by
    unfold S.try
    rw [e1]
    kernel_rfl
  have e4 : (E.ite (T.val (E.op eqD (E.var 2) (E.k (.int 2)))) (E.lst (A.cons (E.k (.str "let")) A.nil)) (E.ite (T.val (E.var 1)) (E.lst (A.cons (E.k (.str "told")) (A.cons (E.ite (T.val (E.op neD (E.var 0) (E.k (.str "")))) (E.fn tupleD (A.cons (E.meth isS splitD (E.var 0) (A.cons (E.k (.str " ")) A.nil)) A.nil)) (E.tup A.nil)) A.nil))) (E.lst A.nil))) [some (v), some (.bl false), some (.int 2), some (.lst [.str "text", v]), none, o5, o6] = .ok (.lst [.str "let"]) := by
    exact (eite_tt (c2 _ _ _)).trans rfl
  have t5 : (T.not (T.val (E.call (f__law_is 12) (A.cons (E.var 3) (A.cons (E.ite (T.val (E.var 1)) (E.var 5) (E.lst (A.cons (E.k (.str "text")) (A.cons (E.var 0) A.nil)))) A.nil))))) [some (v), some (.bl false), some (.int 2), some (.lst [.str "text", v]), none, some (.lst [.str "let"]), o6] = .ok false := is12 (d := .lst [.str "text", v]) rfl ((eite_ff (show T.val (E.var 1) [some (v), some (.bl false), some (.int 2), some (.lst [.str "text", v]), none, some (.lst [.str "let"]), o6] = .ok false from rfl)).trans (lst2_ok (x := .str "text") (y := v) rfl rfl)) (sm_lst2 (.str _ (by decide +kernel)) s)
  unfold lapS
  rw [seq_nx e3, seq_nx (set_ok e4)]
  show S.ite (T.not (T.val (E.call (f__law_is 12) (A.cons (E.var 3) (A.cons (E.ite (T.val (E.var 1)) (E.var 5) (E.lst (A.cons (E.k (.str "text")) (A.cons (E.var 0) A.nil)))) A.nil))))) (S.ret (E.k (.bl false))) S.pass [some (v), some (.bl false), some (.int 2), some (.lst [.str "text", v]), none, some (.lst [.str "let"]), o6] = _
  rw [ite_ff t5]
  rfl
theorem for_nx {bd : Bd} {s : Sm} {d : D} {ds : List D} {ρ ρ1 ρ2 : DEnv} (h : bd d ρ = some ρ1) (h2 : s ρ1 = .nx ρ2) : forL bd s (d :: ds) ρ = forL bd s ds ρ2 := by
  rw [forL, h]
  dsimp only
  rw [h2]
theorem line_right {v : D} {b : Bool} (L : Lv v b) : f__law_line_right [v] = .ok (.bl true) := by
  have t2 : T.not (T.val (E.call (f__law_is 12) (A.cons (E.lst (A.cons (E.call f_is_line (A.cons (E.var 0) A.nil)) (A.cons (E.call1 f_is_line (E.var 0)) A.nil))) (A.cons (E.lst (A.cons (E.var 1) (A.cons (E.var 1) A.nil))) A.nil)))) [some v, some (.bl b), none, none, none, none, none] = .ok false :=
    is12 (lst2_ok ((call1_ok (x := v) rfl).trans L.isl) ((call1x_ok (x := v) rfl).trans L.isl)) (lst2_ok rfl rfl) (sm_lst2 (.bl b) (.bl b))
  have r3 : I.rng1 (E.k (.int 3)) [some v, some (.bl b), none, none, none, none, none] = .ok [.int 0, .int 1, .int 2] := by kernel_rfl
  have e3 : ∃ ρ', S.for (B.name 2) (I.rng1 (E.k (.int 3))) lapS [some v, some (.bl b), none, none, none, none, none] = .nx ρ' := by
    unfold S.for
    rw [r3]
    show ∃ ρ', forL (B.name 2) lapS [.int 0, .int 1, .int 2] [some v, some (.bl b), none, none, none, none, none] = .nx ρ'
    cases b with
    | true =>
      obtain ⟨z, e, h, hb⟩ := L.yes rfl
      subst e
      rw [for_nx rfl (lap_yes0 h hb none none none none), for_nx rfl (lap_yes1 h hb _ _ _ _), for_nx rfl (lap_yes2 h hb _ _ _ _)]
      exact ⟨_, rfl⟩
    | false =>
      have h := L.chk rfl
      rw [for_nx rfl (lap_no0 L.same h none none none none), for_nx rfl (lap_no1 L.same h _ _ _ _), for_nx rfl (lap_no2 L.same h _ _ _ _)]
      exact ⟨_, rfl⟩
  obtain ⟨ρ', e3⟩ := e3
  show (b__law_line_right [some v, none, none, none, none, none, none]).fin = _
  unfold b__law_line_right
  rw [seq_nx (set_ok L.due)]
  simp only [List.set]
  rw [pass_ff t2]
  have e4 : (S.seq (S.for (B.name 2) (I.rng1 (E.k (.int 3))) lapS) (S.ret (E.k (.bl true))) [some v, some (.bl b), none, none, none, none, none]).fin = .ok (.bl true) := by
    rw [seq_nx e3]
    rfl
  exact e4
end K2

set_option linter.all false
set_option Elab.async false
set_option maxRecDepth 100000
set_option maxHeartbeats 1000000
namespace K2
open PySem PySem.Spec PyProof.Rows L2 DL
/-- a draw goes, and what comes out has P -/
def Nh {α : Type} (n : N α) (P : α → Prop) : Prop := n.ok ∧ ∀ d, n.out d → P d
theorem nh_imp {α : Type} {n : N α} {P Q : α → Prop} (h : Nh n P) (q : ∀ d, P d → Q d) : Nh n Q := ⟨h.1, fun d e => q d (h.2 d e)⟩
theorem nh_bind {α β : Type} {n : N α} {k : α → N β} {P : α → Prop} {Q : β → Prop} (h : Nh n P) (h2 : ∀ a, P a → Nh (k a) Q) : Nh (n.bind k) Q :=
  ⟨⟨h.1, fun a e => (h2 a (h.2 a e)).1⟩, fun b ⟨a, e, e2⟩ => (h2 a (h.2 a e)).2 b e2⟩
theorem nh_of {α : Type} {r : R α} {a : α} {P : α → Prop} (h : r = .ok a) (p : P a) : Nh (N.of r) P := ⟨⟨a, h⟩, fun b e => by
  have e : r = .ok b := e
  rw [h] at e
  cases e
  exact p⟩
theorem nh_pure {α : Type} {g : DEnv → R α} {ρ : DEnv} {a : α} {P : α → Prop} (h : g ρ = .ok a) (p : P a) : Nh (M.pure g ρ) P := nh_of h p
theorem nh_well {ρ : DEnv} : Nh (M.well ρ) (fun d => ∃ i : Int, d = .int i) := ⟨trivial, fun _ h => h⟩
theorem nh_op {f : D → D → Option D} {ga gb : EN} {ρ : DEnv} {P1 P2 Q : D → Prop} (h1 : Nh (ga ρ) P1) (h2 : Nh (gb ρ) P2) (hf : ∀ x y, P1 x → P2 y → ∃ z, f x y = some z ∧ Q z) : Nh (M.op f ga gb ρ) Q :=
  nh_bind h1 fun x hx => nh_bind h2 fun y hy => by
    obtain ⟨z, e, q⟩ := hf x y hx hy
    exact nh_of (by rw [e]; rfl) q
theorem nh_val {g : EN} {ρ : DEnv} (h : Nh (g ρ) (fun d => ∃ b, d = .bl b)) : Nh (M.val g ρ) (fun _ => True) := nh_bind h fun x hx => by
  obtain ⟨b, e⟩ := hx
  subst e
  exact nh_of (a := b) rfl trivial
theorem ma_nil {ρ : DEnv} : Nh (MA.nil ρ) (fun xs => xs = []) := nh_of rfl rfl
theorem ma_cons {g : EN} {gs : DEnv → N (List D)} {ρ : DEnv} {P : D → Prop} {Q : List D → Prop} (h : Nh (g ρ) P) (h2 : Nh (gs ρ) Q) : Nh (MA.cons g gs ρ) (fun xs => ∃ y ys, xs = y :: ys ∧ P y ∧ Q ys) :=
  nh_bind h fun x hx => nh_bind h2 fun ys hy => nh_of rfl ⟨x, ys, rfl, hx, hy⟩
theorem ma_k {g : E} {d : D} {gs : DEnv → N (List D)} {ρ : DEnv} {Q : List D → Prop} (h : g ρ = .ok d) (h2 : Nh (gs ρ) (fun ys => Q (d :: ys))) : Nh (MA.cons (M.pure g) gs ρ) Q :=
  nh_bind (nh_pure (P := fun x => x = d) h rfl) fun x hx => nh_bind h2 fun ys hy => nh_of rfl (by subst hx; exact hy)
theorem ma_one {g : EN} {ρ : DEnv} {Q : List D → Prop} (h : Nh (g ρ) (fun x => Q [x])) : Nh (MA.cons g MA.nil ρ) Q :=
  nh_bind h fun x hx => nh_bind ma_nil fun ys hy => nh_of rfl (by subst hy; exact hx)
theorem nh_fn {f : List D → Option D} {gs : DEnv → N (List D)} {ρ : DEnv} {P : List D → Prop} {Q : D → Prop} (h : Nh (gs ρ) P) (hf : ∀ xs, P xs → ∃ z, f xs = some z ∧ Q z) : Nh (M.fn f gs ρ) Q :=
  nh_bind h fun xs hx => by
    obtain ⟨z, e, q⟩ := hf xs hx
    exact nh_of (by rw [e]; rfl) q
theorem nh_lst {gs : DEnv → N (List D)} {ρ : DEnv} {Q : D → Prop} (h : Nh (gs ρ) (fun xs => xs.length ≤ 100000 ∧ Q (.lst xs))) : Nh (M.lst gs ρ) Q :=
  nh_bind h fun xs hx => nh_of (a := .lst xs) (by rw [if_pos (show small xs.length = true from decide_eq_true hx.1)]; rfl) hx.2
theorem nh_call {f : List D → N D} {gs : DEnv → R (List D)} {ρ : DEnv} {xs : List D} {Q : D → Prop} (h : gs ρ = .ok xs) (h2 : Nh (f xs) Q) : Nh (M.call f gs ρ) Q :=
  nh_bind (nh_of (P := fun y => y = xs) h rfl) fun y hy => by
    subst hy
    exact h2
def Ns (n : N RS) (P : DEnv → Prop) (Q : D → Prop) : Prop := Nh n (fun r => (∃ ρ, r = .nx ρ ∧ P ρ) ∨ ∃ d, r = .rt d ∧ Q d)
theorem ns_seq {s t : SN} {ρ : DEnv} {P P' : DEnv → Prop} {Q : D → Prop} (h1 : Ns (s ρ) P Q) (h2 : ∀ ρ', P ρ' → Ns (t ρ') P' Q) : Ns (MS.seq s t ρ) P' Q :=
  nh_bind h1 fun r hr => by
    rcases hr with ⟨ρ', e, p⟩ | ⟨d, e, q⟩
    · subst e
      exact h2 ρ' p
    · subst e
      exact nh_of rfl (.inr ⟨d, rfl, q⟩)
theorem ns_set {i : Nat} {g : EN} {ρ : DEnv} {R : D → Prop} {P : DEnv → Prop} {Q : D → Prop} (h : Nh (g ρ) R) (hp : ∀ d, R d → P (ρ.set i (some d))) : Ns (MS.set i g ρ) P Q :=
  nh_bind h fun d hd => nh_of rfl (.inl ⟨_, rfl, hp d hd⟩)
theorem ns_ret {g : EN} {ρ : DEnv} {P : DEnv → Prop} {Q : D → Prop} (h : Nh (g ρ) Q) : Ns (MS.ret g ρ) P Q :=
  nh_bind h fun d hd => nh_of rfl (.inr ⟨d, rfl, hd⟩)
theorem ns_ite {t : DEnv → N Bool} {s u : SN} {ρ : DEnv} {P : DEnv → Prop} {Q : D → Prop} (h : Nh (t ρ) (fun _ => True)) (h1 : Ns (s ρ) P Q) (h2 : Ns (u ρ) P Q) : Ns (MS.ite t s u ρ) P Q :=
  nh_bind h fun b _ => by
    cases b
    · exact h2
    · exact h1
theorem ns_iteff {t : DEnv → N Bool} {s u : SN} {ρ : DEnv} {P : DEnv → Prop} {Q : D → Prop} (h : Nh (t ρ) (fun b => b = false)) (h2 : Ns (u ρ) P Q) : Ns (MS.ite t s u ρ) P Q :=
  nh_bind h fun b hb => by
    subst hb
    exact h2
theorem ns_pass {ρ : DEnv} {P : DEnv → Prop} {Q : D → Prop} (h : P ρ) : Ns (MS.pass ρ) P Q := nh_of rfl (.inl ⟨ρ, rfl, h⟩)
theorem ns_put {g : EN} {ρ : DEnv} {P : DEnv → Prop} {Q : D → Prop} (h : Nh (g ρ) (fun d => ∃ n : Int, d = .int n)) (hp : P ρ) : Ns (MS.put g ρ) P Q :=
  nh_bind h fun d hd => ⟨hd, fun r e => .inl ⟨ρ, e, hp⟩⟩
theorem ns_putTwo {i : Nat} {g : EN} {ρ : DEnv} {R : Int → Prop} {P : DEnv → Prop} {Q : D → Prop} (h : Nh (g ρ) (fun d => ∃ n m : Int, d = .tup [.int n, .int m] ∧ R m)) (hp : ∀ m, R m → P (ρ.set i (some (.int m)))) : Ns (MS.putTwo i g ρ) P Q :=
  nh_bind h fun d hd => by
    obtain ⟨n, m, e, r⟩ := hd
    subst e
    refine ⟨⟨n, m, rfl⟩, fun z hz => ?_⟩
    obtain ⟨n', m', e2, e3⟩ := hz
    cases e2
    exact .inl ⟨_, e3, hp m r⟩
theorem ns_last {s : Sm} {ρ : DEnv} {d : D} {P : DEnv → Prop} {Q : D → Prop} (h : s ρ = .rt d) (q : Q d) : Ns (MS.last s ρ) P Q :=
  ⟨⟨d, h⟩, fun r e => .inr ⟨d, by rw [← e]; exact h, q⟩⟩
theorem nh_run {n m : Nat} {s : SN} {ds : List D} {Q : D → Prop} (hl : ds.length = n) (h : Ns (s (beginN m ds)) (fun _ => False) Q) : Nh (runN n m s ds) Q := by
  have h2 : Nh (finN (s (beginN m ds))) Q := nh_bind h fun r hr => by
    rcases hr with ⟨ρ', e, p⟩ | ⟨d, e, q⟩
    · exact p.elim
    · subst e
      exact nh_of rfl q
  exact ⟨⟨hl, h2.1⟩, h2.2⟩
theorem nh_lc {vs : List Nat} {i n : Nat} {gi : DEnv → N (List D)} {ge : EN} {ρ : DEnv} {P : D → Prop} (h : Nh (gi ρ) (fun ds => ds.length ≤ n)) (hn : n ≤ 100000) (h2 : ∀ d, Nh (ge ((wipeD ρ vs).set i (some d))) P) :
    Nh (M.lc vs (B.name i) gi ge ρ) (fun y => ∃ ys, y = .lst ys ∧ ys.length ≤ n ∧ ∀ z ∈ ys, P z) :=
  nh_bind h fun ds hd => ⟨⟨decide_eq_true (Nat.le_trans hd hn), fun d _ => ⟨_, rfl, (h2 d).1⟩⟩, fun y hy => by
    obtain ⟨ys, e, hl, hz⟩ := hy
    refine ⟨ys, e, by rw [hl]; exact hd, fun z hz2 => ?_⟩
    obtain ⟨d, _, ρ1, e1, o⟩ := hz z hz2
    cases e1
    exact (h2 d).2 z o⟩
/-! ### the draws -/
theorem take_ok {m : Int} (h0 : 0 < m) (h1 : m < 1073741824) : Nh (f__law_take [.int m]) (fun d => ∃ r : Int, d = .int r ∧ 0 ≤ r ∧ r < m) := by
  have hm : ∀ i : Int, 0 ≤ i % m ∧ i % m < m := fun i => ⟨Int.emod_nonneg _ (by omega), Int.emod_lt_of_pos _ h0⟩
  have bothI : ∀ {g h : EN} {ρ : DEnv} {f : D → D → Option D} {k : Int → Int → Int} , (∀ i j, f (.int i) (.int j) = some (.int (k i j))) → Nh (g ρ) (fun d => ∃ i : Int, d = .int i) → Nh (h ρ) (fun d => ∃ i : Int, d = .int i) → Nh (M.op f g h ρ) (fun d => ∃ i : Int, d = .int i) := fun hf h1 h2 => nh_op h1 h2 fun x y ⟨i, e1⟩ ⟨j, e2⟩ => by
    subst e1 e2
    exact ⟨_, hf i j, _, rfl⟩
  refine nh_run (n := 1) (m := 3) (s := b__law_take) rfl ?_
  show Ns (b__law_take [none, some (.int m), none, none]) _ _
  unfold b__law_take
  refine ns_seq (P := fun ρ => ρ = [none, some (.int m), none, none]) (ns_ite (nh_val (nh_op nh_well (nh_pure (P := fun d => d = .int 0) rfl rfl) fun x y ⟨i, e1⟩ e2 => ?_)) ?_ (ns_pass rfl)) fun ρ hρ => ?_
  · subst e1 e2
    exact ⟨_, rfl, _, rfl⟩
  · refine ns_seq (P := fun ρ => ∃ r : Int, ρ = [none, some (.int m), some (.int r), none] ∧ 0 ≤ r ∧ r < m) (ns_putTwo (R := fun r => 0 ≤ r ∧ r < m) (nh_fn (ma_cons nh_well (ma_cons (nh_pure (P := fun d => d = .int m) rfl rfl) ma_nil)) fun xs hx => ?_) fun r hr => ⟨r, rfl, hr⟩) fun ρ hρ => ?_
    · obtain ⟨y, ys, e, ⟨i, e1⟩, z, zs, e2, e3, e4⟩ := hx
      subst e e1 e2 e3 e4
      have c : (decide (0 < m) && decide (m < 1073741824)) = true := by simp [h0, h1]
      refine ⟨.tup [.int (i / m), .int (i % m)], ?_, i / m, i % m, rfl, hm i⟩
      show (if decide (0 < m) && decide (m < 1073741824) then some (D.tup [.int (i / m), .int (i % m)]) else none) = _
      rw [if_pos c]
    · obtain ⟨r, e, hr⟩ := hρ
      subst e
      exact ns_last (d := .int r) rfl ⟨r, rfl, hr⟩
  · subst hρ
    refine ns_seq (P := fun ρ => ρ = [none, some (.int m), none, none]) (ns_put (bothI (k := fun i j => i + j) (fun _ _ => rfl) nh_well (nh_pure (a := .int 1) rfl ⟨1, rfl⟩)) rfl) fun ρ hρ => ?_
    subst hρ
    refine ns_seq (P := fun ρ => ∃ k : Int, ρ = [none, some (.int m), none, some (.int k)] ∧ 0 ≤ k ∧ k < 100000) (ns_set (R := fun d => ∃ k : Int, d = .int k ∧ 0 ≤ k ∧ k < 100000) (nh_op (P1 := fun d => ∃ i : Int, d = .int i ∧ 0 ≤ i ∧ i < 28657) (P2 := fun d => d = .int 40009)
      (nh_op (P1 := fun d => ∃ i : Int, d = .int i) (P2 := fun d => d = .int 28657) (nh_fn (ma_cons nh_well ma_nil) fun xs hx => ?_) (nh_pure rfl rfl) fun x y ⟨i, e1⟩ e2 => ?_) (nh_pure rfl rfl) fun x y ⟨i, e1, hi⟩ e2 => ?_) fun d ⟨k, e, hk⟩ => ⟨k, by rw [e]; rfl, hk⟩) fun ρ hρ => ?_
    · obtain ⟨y, ys, e, ⟨i, e1⟩, e2⟩ := hx
      subst e e1 e2
      exact ⟨_, rfl, i, rfl⟩
    · subst e1 e2
      exact ⟨.int (i % 28657), rfl, _, rfl, Int.emod_nonneg _ (by decide), Int.emod_lt_of_pos _ (by decide)⟩
    · subst e1 e2
      exact ⟨.int (i + 40009), rfl, _, rfl, by omega, by omega⟩
    · obtain ⟨k, e, hk⟩ := hρ
      subst e
      refine ns_seq (P := fun ρ => ρ = [none, some (.int m), none, some (.int k)]) (ns_put (nh_op (P1 := fun d => ∃ i : Int, d = .int i) (P2 := fun d => d = .int 2147483563) (nh_fn (ma_cons (P := fun d => ∃ i : Int, d = .int i) ?_ ma_nil) fun xs hx => ?_) (nh_pure rfl rfl) fun x y ⟨i, e1⟩ e2 => ?_) rfl) fun ρ hρ => ?_
      · refine bothI (k := fun i j => i + j) (fun _ _ => rfl) (bothI (k := fun i j => i + j) (fun _ _ => rfl) (nh_op (P2 := fun d => d = .int k) nh_well (nh_pure rfl rfl) fun x y ⟨i, e1⟩ e2 => ?_) (nh_op (P1 := fun d => d = .int 50023) (nh_pure rfl rfl) nh_well fun x y e1 ⟨i, e2⟩ => ?_)) (nh_pure (a := .int 17) rfl ⟨17, rfl⟩)
        · subst e1 e2
          have c : (sixty i || sixty k) = true := by
            have : sixty k = true := by unfold sixty; rw [Bool.and_eq_true]; exact ⟨decide_eq_true (by omega), decide_eq_true (by omega)⟩
            rw [this, Bool.or_true]
          refine ⟨.int (i * k), ?_, _, rfl⟩
          show (if sixty i || sixty k then some (D.int (i * k)) else none) = _
          rw [if_pos c]
        · subst e1 e2
          refine ⟨.int (50023 * i), ?_, _, rfl⟩
          show (if sixty 50023 || sixty i then some (D.int (50023 * i)) else none) = _
          rw [if_pos (by rw [show sixty 50023 = true by decide +kernel]; rfl)]
      · obtain ⟨y, ys, e, ⟨i, e1⟩, e2⟩ := hx
        subst e e1 e2
        exact ⟨_, rfl, i, rfl⟩
      · subst e1 e2
        exact ⟨.int (i % 2147483563), rfl, _, rfl⟩
      · subst hρ
        refine ns_ret (nh_op (P1 := fun d => ∃ i : Int, d = .int i) (P2 := fun d => d = .int m) (nh_fn (ma_cons (P := fun d => ∃ i : Int, d = .int i) (nh_op (P2 := fun d => d = .int 83) nh_well (nh_pure rfl rfl) fun x y ⟨i, e1⟩ e2 => ?_) ma_nil) fun xs hx => ?_) (nh_pure rfl rfl) fun x y ⟨i, e1⟩ e2 => ?_)
        · subst e1 e2
          exact ⟨.int (i / 83), rfl, _, rfl⟩
        · obtain ⟨y, ys, e, ⟨i, e1⟩, e2⟩ := hx
          subst e e1 e2
          exact ⟨_, rfl, i, rfl⟩
        · subst e1 e2
          refine ⟨.int (i % m), ?_, _, rfl, hm i⟩
          show (if decide (0 < m) then some (D.int (i % m)) else none) = _
          rw [if_pos (decide_eq_true h0)]
theorem pick_ok {xs : List D} (h0 : 0 < xs.length) (h1 : xs.length ≤ 100000) : Nh (f__law_pick [.lst xs]) (fun d => d ∈ xs) := by
  refine nh_run (n := 1) (m := 1) (s := b__law_pick) rfl ?_
  show Ns (b__law_pick [none, some (.lst xs)]) _ _
  unfold b__law_pick
  refine ns_ret (nh_op (P1 := fun d => d = .lst xs) (nh_pure rfl rfl) (nh_call (xs := [.int xs.length]) rfl (take_ok (by omega) (by omega))) fun x y e1 ⟨r, e2, h2, h3⟩ => ?_)
  subst e1 e2
  have hr : r.toNat < xs.length := by omega
  refine ⟨xs[r.toNat], ?_, List.getElem_mem hr⟩
  show atI xs r = _
  unfold atI ixN
  rw [if_pos h2, if_pos h3, Option.bind_some]
  exact List.getElem?_eq_getElem hr
end K2

set_option linter.all false
set_option Elab.async false
set_option maxRecDepth 100000
set_option maxHeartbeats 1000000
namespace K2
open PySem PySem.Spec PyProof.Rows L2 DL
theorem ns_forLast {bd : Bd} {gi : DEnv → N (List D)} {s rest : Sm} {ρ : DEnv} {R : List D → Prop} {P : DEnv → Prop} {Q : D → Prop} (h : Nh (gi ρ) R) (h2 : ∀ ds, R ds → ∃ d, S.seq (forL bd s ds) rest ρ = .rt d ∧ Q d) : Ns (MS.forLast bd gi s rest ρ) P Q :=
  nh_bind h fun ds hd => by
    obtain ⟨d, e, q⟩ := h2 ds hd
    exact ⟨⟨d, e⟩, fun r hr => .inr ⟨d, by rw [← e]; exact hr.symm, q⟩⟩
theorem nh_seq {g : EN} {ρ : DEnv} {Q : List D → Prop} (h : Nh (g ρ) (fun d => ∃ xs, d = .lst xs ∧ Q xs)) : Nh (M.seq g ρ) Q := nh_bind h fun d ⟨xs, e, q⟩ => by
  subst e
  exact nh_of rfl q
theorem values_right : Nh (f__law_values_right []) (fun d => d = .bl true) := by
  refine nh_run (n := 0) (m := 3) (s := b__law_values_right) rfl ?_
  show Ns (b__law_values_right [none, none, none, none]) _ _
  unfold b__law_values_right
  refine ns_forLast (R := fun ds => ∃ x, x ∈ ([.str "1", .str ".", .str "a1"] : List D) ∧ ds = [.int 1000000, .int (-1000000), .int (10 ^ 20), .bl true, .non, .str "A", .str "abcdefg", .str "a b", .tup [.int 1], .lst [.int 1], .dic [], x]) (nh_seq (nh_lst ?_)) ?_
  · refine ma_k (d := .int 1000000) rfl (ma_k (d := .int (-1000000)) rfl (ma_k (d := .int (10 ^ 20)) rfl (ma_k (d := .bl true) rfl (ma_k (d := .non) rfl (ma_k (d := .str "A") rfl (ma_k (d := .str "abcdefg") rfl (ma_k (d := .str "a b") rfl (ma_k (d := .tup [.int 1]) rfl (ma_k (d := .lst [.int 1]) rfl (ma_k (d := .dic []) rfl (ma_one ?_)))))))))))
    refine nh_call (xs := [.lst [.str "1", .str ".", .str "a1"]]) rfl (nh_imp (pick_ok (by decide) (by decide)) fun x hx => ⟨by simp, _, rfl, x, hx, rfl⟩)
  · intro ds ⟨x, hx, e⟩
    subst e
    refine ⟨.bl true, ?_, rfl⟩
    simp only [List.mem_cons, List.not_mem_nil, or_false] at hx
    rcases hx with e | e | e <;> subst e <;> kernel_rfl
def dw1 : List Str := ["0", "-0", "00", "012", "-1", "-", "1234567", "123456", "-123456", "--1", "1-", ".", ".a", ".abcdef", ".abcdefg", ".A", ".1", "..", "a", "abcdef", "abcdefg", "A", "Z", "AB", "aB"]
def dw2 : List Str := ["facts", "rules", "iff", "nota", "asks", "(", ")", ",", "=", "<", ">", "&", "+", "((", "", "1a", "a1", "red", "\n", "~", "&&", "+1"]
def dw8 : List Str := ["0", "1", "9", "-", ".", "a", "z", "K"]
def dwB (w : Str) : Bool := decide (w.length ≤ 20) && (PyData.strOk w && !decide (32 ∈ w.cps.toList))
theorem dw_of {w : Str} (h : dwB w = true) : Dw w := by
  unfold dwB at h
  rw [Bool.and_eq_true, Bool.and_eq_true] at h
  refine ⟨of_decide_eq_true h.1, h.2.1, fun hm => ?_⟩
  have := h.2.2
  rw [decide_eq_true hm] at this
  cases this
theorem dw_all : ((dw1 ++ dw2 ++ keysL).all dwB) = true := by decide +kernel
theorem dw8_all : (dw8.all fun w => decide (w.length = 1) && dwB w) = true := by decide +kernel
/-- a drawn word -/
def IsW (d : D) : Prop := ∃ w, d = .str w ∧ Dw w
theorem joinL_nil (ps : List (List Nat)) : TL.joinL [] ps = ps.flatten := by
  induction ps with
  | nil => rfl
  | cons p ps ih =>
    cases ps with
    | nil => simp [TL.joinL]
    | cons q r =>
      show p ++ ([] ++ TL.joinL [] (q :: r)) = _
      rw [ih]
      simp
theorem toSs_of : ∀ {ys : List D} {P : Str → Prop}, (∀ z ∈ ys, ∃ s, z = .str s ∧ P s) → ∃ ss, ys = ss.map .str ∧ toSs ys = some ss ∧ ∀ s ∈ ss, P s
  | [], _, _ => ⟨[], rfl, rfl, fun s h => by cases h⟩
  | y :: ys, P, h => by
    obtain ⟨s, e, p⟩ := h y (List.mem_cons_self ..)
    obtain ⟨ss, e2, e3, h3⟩ := toSs_of (P := P) fun z hz => h z (List.mem_cons_of_mem _ hz)
    subst e
    refine ⟨s :: ss, by rw [e2]; rfl, by unfold toSs; rw [e3]; rfl, fun t ht => ?_⟩
    rcases List.mem_cons.mp ht with h | h
    · subst h
      exact p
    · exact h3 t h
theorem sum_le {ss : List Str} {k : Nat} (h : ∀ s ∈ ss, s.length ≤ k) : (ss.map (·.length)).sum ≤ ss.length * k := by
  induction ss with
  | nil => simp
  | cons s ss ih =>
    have h1 := h s (List.mem_cons_self ..)
    have h2 := ih fun t ht => h t (List.mem_cons_of_mem _ ht)
    rw [List.map_cons, List.sum_cons, List.length_cons, Nat.succ_mul]
    omega
theorem drawn_word : Nh (f__law_drawn_word []) IsW := by
  refine nh_run (n := 0) (m := 2) (s := b__law_drawn_word) rfl ?_
  show Ns (b__law_drawn_word [none, none, none]) _ _
  unfold b__law_drawn_word
  refine ns_seq (P := fun ρ => ρ = [none, some (.lst (dw1.map .str)), none]) (ns_set (R := fun d => d = .lst (dw1.map .str)) (nh_pure (a := .lst (dw1.map .str)) (by kernel_rfl) rfl) fun d e => by subst e; rfl) fun ρ hρ => ?_
  subst hρ
  refine ns_seq (P := fun ρ => ρ = [none, some (.lst ((dw1 ++ dw2).map .str)), none]) (ns_set (R := fun d => d = .lst ((dw1 ++ dw2).map .str)) (nh_pure (a := .lst ((dw1 ++ dw2).map .str)) (by kernel_rfl) rfl) fun d e => by subst e; rfl) fun ρ hρ => ?_
  subst hρ
  refine ns_seq (P := fun ρ => ρ = [none, some (.lst ((dw1 ++ dw2).map .str)), none]) (ns_ite (nh_val (nh_op (P2 := fun d => d = .int 0) (nh_call (xs := [.int 3]) rfl (take_ok (by decide) (by decide))) (nh_pure rfl rfl) fun x y ⟨r, e1, _⟩ e2 => ?_)) ?_ (ns_pass rfl)) fun ρ hρ => ?_
  · subst e1 e2
    refine ⟨.bl (r == 0), ?_, _, rfl⟩
    unfold eqD eqP
    simp only [toP, Option.bind_some]
    have h : (SeqAt.shaped (.int r) && SeqAt.shaped (.int 0)) = true := by simp [SeqAt.shaped, PyData.canLay0, PyData.depth]
    rw [if_pos h]
    simp [PyData.eqv]
  · refine ns_ret (nh_bind (nh_lc (n := 8) (P := fun d => ∃ s, d = .str s ∧ s ∈ dw8) (nh_bind (nh_op (P1 := fun d => d = .int 1) (Q := fun d => ∃ r : Int, d = .int r ∧ 0 ≤ r ∧ r ≤ 7) (nh_pure rfl rfl) (nh_call (xs := [.int 7]) rfl (take_ok (by decide) (by decide))) fun x y e1 ⟨r, e2, h1, h2⟩ => ?_) fun x hx => ?_) (by decide) fun d => ?_) fun x hx => ?_)
    · subst e1 e2
      exact ⟨.int (1 + r), rfl, _, rfl, by omega, by omega⟩
    · obtain ⟨r, e, h1, h2⟩ := hx
      subst e
      have c : (decide (-(2 ^ 62) ≤ r) && decide (r < 2 ^ 62)) = true := by
        rw [Bool.and_eq_true]
        exact ⟨decide_eq_true (by omega), decide_eq_true (by omega)⟩
      refine nh_of (a := DL.rng 0 r.toNat) ?_ ?_
      · show (if decide (-(2 ^ 62) ≤ r) && decide (r < 2 ^ 62) then R.ok (DL.rng 0 r.toNat) else .bad) = _
        rw [if_pos c]
      · show (DL.rng 0 r.toNat).length ≤ 8
        unfold DL.rng
        rw [List.length_map, List.length_range]
        omega
    · refine nh_call (xs := [.lst (dw8.map .str)]) rfl (nh_imp (pick_ok (by decide) (by decide)) fun x hx => ?_)
      obtain ⟨s, h1, h2⟩ := List.mem_map.mp hx
      exact ⟨s, h2.symm, h1⟩
    · obtain ⟨ys, e, hl, hz⟩ := hx
      subst e
      obtain ⟨ss, e1, e2, h3⟩ := toSs_of (P := fun s => s ∈ dw8) hz
      have h4 : ∀ s ∈ ss, s.length = 1 ∧ Dw s := fun s hs => by
        have := List.all_eq_true.mp dw8_all s (h3 s hs)
        rw [Bool.and_eq_true] at this
        exact ⟨of_decide_eq_true this.1, dw_of this.2⟩
      have hn : ss.length ≤ 8 := by
        rw [e1, List.length_map] at hl
        exact hl
      have hsum : (ss.map (·.length)).sum ≤ ss.length * 1 := sum_le fun s hs => Nat.le_of_eq (h4 s hs).1
      have l0 : ("" : Str).length = 0 := by decide +kernel
      have e3 : joinD (.str "") [.lst ys] = some (.str (Txt.join "" ss)) := by
        show (toSs ys).bind _ = _
        rw [e2, Option.bind_some]
        rw [if_pos]
        refine decide_eq_true ?_
        rw [l0]
        omega
      refine nh_of (a := .str (Txt.join "" ss)) (by rw [e3]; rfl) ⟨_, rfl, ?_⟩
      have tl0 : TL.tl ("" : Str) = [] := by decide +kernel
      have et : TL.tl (Txt.join "" ss) = (ss.map TL.tl).flatten := by
        rw [TL.join_eq, TL.tl_join, tl0, joinL_nil]
      have hc : ∀ c ∈ TL.tl (Txt.join "" ss), ∃ s ∈ ss, c ∈ TL.tl s := fun c hc => by
        rw [et] at hc
        obtain ⟨l, h1, h2⟩ := List.mem_flatten.mp hc
        obtain ⟨s, h5, h6⟩ := List.mem_map.mp h1
        subst h6
        exact ⟨s, h5, h2⟩
      refine ⟨?_, ok_of fun c h => ?_, fun h => ?_⟩
      · rw [TL.len_tl, et, List.length_flatten, List.map_map]
        have e5 : (ss.map (List.length ∘ TL.tl)) = ss.map (·.length) := by
          refine List.map_congr_left fun s _ => ?_
          exact (TL.len_tl s).symm
        rw [e5]
        omega
      · obtain ⟨s, h1, h2⟩ := hc c h
        exact ok_mem (h4 s h1).2.ok h2
      · obtain ⟨s, h1, h2⟩ := hc 32 h
        exact (h4 s h1).2.nb h2
  · subst hρ
    refine ns_ret (nh_call (xs := [.lst ((dw1 ++ dw2 ++ keysL).map .str)]) (by kernel_rfl) (nh_imp (pick_ok (by decide) (by decide)) fun x hx => ?_))
    obtain ⟨s, h1, h2⟩ := List.mem_map.mp hx
    exact ⟨s, h2.symm, dw_of (List.all_eq_true.mp dw_all s h1)⟩
/-- a value that is asked whether it is a line -/
def IsV (d : D) : Prop := ∃ b, Lv d b
theorem isv_str {z : Str} (h : Tw z) : IsV (.str z) := ⟨_, lv_str h⟩
theorem isv_no {v : D} (s : Same 10 v) (h : isiT .str v = false) : IsV v := ⟨_, lv_no s h⟩
theorem odd_value : Nh (f__law_odd []) IsV := by
  refine nh_run (n := 0) (m := 2) (s := b__law_odd) rfl ?_
  show Ns (b__law_odd [none, none, none]) _ _
  unfold b__law_odd
  refine ns_seq (P := fun ρ => ∃ k : Int, ρ = [none, some (.int k), none]) (ns_set (R := fun d => ∃ k : Int, d = .int k) (nh_op (P2 := fun d => d = .int 500000000) (nh_call (xs := [.int 1000000000]) rfl (take_ok (by decide) (by decide))) (nh_pure rfl rfl) fun x y ⟨r, e1, _⟩ e2 => ?_) fun d ⟨k, e⟩ => ⟨k, by rw [e]; rfl⟩) fun ρ hρ => ?_
  · subst e1 e2
    exact ⟨_, rfl, _, rfl⟩
  · obtain ⟨k, e⟩ := hρ
    subst e
    have L : ∃ L : List D, L = [.non, .bl true, .bl false, .str "", .str "fact p", .tup [], .tup [.int 1, .non], .lst [], .lst [.int k], .dic [], .dic [(.inr "a", .int k)], .int k, .int 0, .int 1, .int (-1), .tup [.tup [], .lst [.int k]]] := ⟨_, rfl⟩
    obtain ⟨L, hL⟩ := L
    refine ns_seq (P := fun ρ => ρ = [none, some (.int k), some (.lst L)]) (ns_set (R := fun d => d = .lst L) (nh_pure (a := .lst L) (by subst hL; kernel_rfl) rfl) fun d e => by subst e; rfl) fun ρ hρ => ?_
    subst hρ
    refine ns_ret (nh_call (xs := [.lst L]) rfl (nh_imp (pick_ok (by rw [hL]; simp) (by rw [hL]; simp)) fun x hx => ?_))
    subst hL
    have n0 : Same 10 (.tup []) := .tup _ (fun x h => by cases h) (by decide)
    have m0 : ∀ n, Same (n + 1) (.tup []) := fun n => .tup _ (fun x h => by cases h) (by decide)
    simp only [List.mem_cons, List.not_mem_nil, or_false] at hx
    rcases hx with e | e | e | e | e | e | e | e | e | e | e | e | e | e | e | e <;> subst e
    · exact isv_no .non rfl
    · exact isv_no (.bl _) rfl
    · exact isv_no (.bl _) rfl
    · exact isv_str (tw_of (by decide +kernel))
    · exact isv_str (tw_of (by decide +kernel))
    · exact isv_no n0 rfl
    · exact isv_no (sm_tup2 (.int _) .non) rfl
    · exact isv_no (.lst _ (fun x h => by cases h) (by decide)) rfl
    · exact isv_no (sm_lst1 (.int _)) rfl
    · exact isv_no (.dic _ rfl) rfl
    · refine isv_no (.dic _ ?_) rfl
      have : sameF (.int k) (.int k) = true := by simp [sameF]
      show (if eqK [((.inr "a" : Key), D.int k)] [((.inr "a" : Key), D.int k)] then some (D.bl true) else none) = _
      rw [if_pos]
      have v : valD [((.inr "a" : Key), D.int k)] (.inr "a") = some (.int k) := by
        unfold valD
        rw [List.find?_cons]
        simp
      unfold eqK
      simp [v, this]
    · exact isv_no (.int _) rfl
    · exact isv_no (.int _) rfl
    · exact isv_no (.int _) rfl
    · exact isv_no (.int _) rfl
    · exact isv_no (sm_tup2 (m0 _) (sm_lst1 (.int _))) rfl
end K2

set_option linter.all false
set_option Elab.async false
set_option maxRecDepth 100000
set_option maxHeartbeats 1000000
namespace K2
open PySem PySem.Spec PyProof.Rows L2 DL
theorem lc_none (ρ : DEnv) (i : Nat) (t : DEnv → R Bool) (g : E) : ∀ l : List D, (∀ d ∈ l, t (ρ.set i (some d)) = .ok false) → lcL (B.name i) t g ρ l = .ok []
  | [], _ => rfl
  | d :: l, h => by
    have ih := lc_none ρ i t g l fun x hx => h x (List.mem_cons_of_mem _ hx)
    unfold lcL
    show ((t (ρ.set i (some d))).bind fun b => if b then (g (ρ.set i (some d))).bind fun y => (lcL (B.name i) t g ρ l).bind fun ys => R.ok (y :: ys) else lcL (B.name i) t g ρ l) = _
    rw [h d (List.mem_cons_self ..), R.bind_ok, ih]
    rfl
theorem eqnil : eqD (.lst []) (.lst []) = some (.bl true) := by kernel_rfl
theorem nenil : neD (.lst []) (.lst []) = some (.bl false) := by kernel_rfl
theorem joinL_mem {S : List Nat} {c : Nat} : ∀ {ps : List (List Nat)}, c ∈ TL.joinL S ps → (∃ p ∈ ps, c ∈ p) ∨ c ∈ S
  | [], h => by cases h
  | [p], h => .inl ⟨p, List.mem_singleton.mpr rfl, h⟩
  | p :: q :: r, h => by
    have h : c ∈ p ++ (S ++ TL.joinL S (q :: r)) := h
    rcases List.mem_append.mp h with h | h
    · exact .inl ⟨p, List.mem_cons_self .., h⟩
    · rcases List.mem_append.mp h with h | h
      · exact .inr h
      · rcases joinL_mem h with ⟨x, h1, h2⟩ | h
        · exact .inl ⟨x, List.mem_cons_of_mem _ h1, h2⟩
        · exact .inr h
theorem words_text {ys : List D} (h : ∀ z ∈ ys, IsW z) (hl : ys.length ≤ 8) : ∃ t : Str, joinD (.str " ") [.lst ys] = some (.str t) ∧ t.length ≤ 200 ∧ PyData.strOk t = true := by
  obtain ⟨ss, e1, e2, h3⟩ := toSs_of (P := Dw) h
  have hn : ss.length ≤ 8 := by
    rw [e1, List.length_map] at hl
    exact hl
  have hsum : (ss.map (·.length)).sum ≤ ss.length * 20 := sum_le fun s hs => (h3 s hs).sz
  have l1 : (" " : Str).length = 1 := by decide +kernel
  have e3 : joinD (.str " ") [.lst ys] = some (.str (Txt.join " " ss)) := by
    show (toSs ys).bind _ = _
    rw [e2, Option.bind_some]
    rw [if_pos]
    refine decide_eq_true ?_
    rw [l1]
    omega
  refine ⟨_, e3, ?_, ok_of fun c hc => ?_⟩
  · rw [TL.join_eq]
    have := StrLaws.join_length_le " " ss
    rw [l1] at this
    omega
  · have hc : c ∈ TL.tl (Txt.join " " ss) := hc
    rw [TL.join_eq, TL.tl_join] at hc
    rcases joinL_mem hc with ⟨p, h1, h2⟩ | h
    · obtain ⟨s, h5, h6⟩ := List.mem_map.mp h1
      subst h6
      exact ok_mem (h3 s h5).ok h2
    · have e4 : TL.tl (" " : Str) = [32] := by decide +kernel
      rw [e4, List.mem_singleton] at h
      subst h
      decide
theorem ok_app {a b : Str} (ha : PyData.strOk a = true) (hb : PyData.strOk b = true) : PyData.strOk (a ++ b) = true := ok_of fun c hc => by
  have hc : c ∈ TL.tl (a ++ b) := hc
  rw [TL.tl_append] at hc
  rcases List.mem_append.mp hc with h | h
  · exact ok_mem ha h
  · exact ok_mem hb h
theorem tw_app {a b : Str} {m n : Nat} (ha : a.length ≤ m) (hb : b.length ≤ n) (oa : PyData.strOk a = true) (ob : PyData.strOk b = true) (h : m + n ≤ 300) : Tw (a ++ b) := by
  refine ⟨?_, ok_app oa ob⟩
  have e : (a ++ b).length = a.length + b.length := Str.length_append a b
  have e2 : (a ++ b).cps.size = (a ++ b).length := rfl
  omega
theorem law_right : Nh (f__law_right []) (fun d => d = .bl true) := by
  refine nh_run (n := 0) (m := 6) (s := b__law_right) rfl ?_
  show Ns (b__law_right [none, none, none, none, none, none, none]) _ _
  unfold b__law_right
  refine ns_seq (P := fun ρ => ∃ ys : List D, ρ = [none, some (.lst ys), none, none, none, none, none] ∧ ys.length ≤ 40 ∧ ∀ z ∈ ys, IsW z) (ns_set (R := fun y => ∃ ys, y = .lst ys ∧ ys.length ≤ 40 ∧ ∀ z ∈ ys, IsW z)
    (nh_lc (n := 40) (P := IsW) (nh_bind (nh_pure (P := fun d => d = .int 40) rfl rfl) fun x hx => ?_) (by decide) fun d => nh_call (xs := []) rfl drawn_word) fun d ⟨ys, e, h⟩ => ⟨ys, by rw [e]; rfl, h⟩) fun ρ hρ => ?_
  · subst hx
    refine nh_of (a := DL.rng 0 40) rfl ?_
    show (DL.rng 0 40).length ≤ 40
    unfold DL.rng
    rw [List.length_map, List.length_range]
    exact Nat.le_refl _
  obtain ⟨ys, e, hl, hw⟩ := hρ
  subst e
  refine ns_seq (P := fun ρ => ρ = [none, some (.lst ys), none, none, none, none, none]) (ns_iteff (nh_pure (a := false) ?_ rfl) (ns_pass rfl)) fun ρ hρ => ?_
  · refine val_ok ((op_ok (x := .lst []) (y := .lst []) (e_lc (ds := ys) rfl (lc_none _ 5 _ _ ys fun d hd => ?_) (by decide)) rfl).trans (by rw [nenil]; rfl))
    obtain ⟨w, e, h⟩ := hw d hd
    subst e
    exact tnot_ok (b := true) (val_ok ((call1_ok (x := .str w) rfl).trans (word_right h)))
  subst hρ
  have hcl : (cutL ys none (some 8)).length ≤ 8 ∧ ∀ z ∈ cutL ys none (some 8), IsW z := by
    have e : cutL ys none (some 8) = ys.take (min 8 ys.length) := by
      show (ys.drop 0).take (HT.sIx ys.length ys.length (some ((8 : Nat) : Int)) - 0) = _
      rw [HT.sIx_nat, List.drop_zero, Nat.sub_zero]
    rw [e]
    refine ⟨by rw [List.length_take]; omega, fun z hz => hw z (List.mem_of_mem_take hz)⟩
  obtain ⟨t, e1, ht, ho⟩ := words_text hcl.2 hcl.1
  refine ns_seq (P := fun ρ => ρ = [none, some (.lst ys), some (.str t), none, none, none, none]) (ns_set (R := fun d => d = .str t) (nh_pure (a := .str t) ?_ rfl) fun d e => by subst e; rfl) fun ρ hρ => ?_
  · show R.of (joinD (.str " ") [.lst (cutL ys none (some 8))]) = _
    rw [e1]
    rfl
  subst hρ
  have Tt : Tw t := ⟨Nat.le_trans (ht : t.cps.size ≤ 200) (by decide), ho⟩
  refine ns_seq (P := fun ρ => ∃ L : List D, ρ = [none, some (.lst ys), some (.str t), some (.lst L), none, none, none] ∧ L.length ≤ 100 ∧ ∀ v ∈ L, IsV v) (ns_set (R := fun d => ∃ L : List D, d = .lst L ∧ L.length ≤ 100 ∧ ∀ v ∈ L, IsV v) (nh_lst ?_) fun d ⟨L, e, h⟩ => ⟨L, by rw [e]; rfl, h⟩) fun ρ hρ => ?_
  · have l1 : (" " : Str).length ≤ 1 := by decide +kernel
    have l2 : (";" : Str).length ≤ 1 := by decide +kernel
    refine ma_k (d := .str t) rfl (ma_k (d := .str (cutS t none (some (-1)))) ?_ (ma_k (add_ok (a := " ") (b := t) rfl rfl (by omega)) (ma_k (add_ok (a := t) (b := " ") rfl rfl (by omega)) (ma_k (add_ok (a := t) (b := ";") rfl rfl (by omega)) (ma_k (d := .str "") rfl (ma_k (d := .str " ") rfl
      (ma_k (d := .str (repS "a" 200)) rfl (ma_k (d := .str (repS "a" 201)) rfl (ma_k (d := .str "  ") rfl (ma_k (d := .tup ys) rfl (ma_k (d := .non) rfl (ma_k (d := .int 5) rfl (ma_k (d := .lst [.str "a"]) rfl (ma_k (d := .str "a\n") rfl (ma_one (nh_call (xs := []) rfl (nh_imp odd_value fun x hx => ?_)))))))))))))))))
    · show R.of (slD (.str t) none (some (-1))) = _
      rw [sl_w Tt]
      rfl
    · refine ⟨by simp, _, rfl, by simp, fun v hv => ?_⟩
      simp only [List.mem_cons, List.not_mem_nil, or_false] at hv
      rcases hv with e | e | e | e | e | e | e | e | e | e | e | e | e | e | e | e <;> subst e
      · exact isv_str Tt
      · exact isv_str (cut_tw Tt _ _)
      · exact isv_str (tw_app l1 ht (by decide +kernel) ho (by decide))
      · exact isv_str (tw_app ht l1 ho (by decide +kernel) (by decide))
      · exact isv_str (tw_app ht l2 ho (by decide +kernel) (by decide))
      · exact isv_str (tw_of (by decide +kernel))
      · exact isv_str (tw_of (by decide +kernel))
      · exact isv_str (tw_of (by decide +kernel))
      · exact isv_str (tw_of (by decide +kernel))
      · exact isv_str (tw_of (by decide +kernel))
      · refine isv_no (.tup _ (fun x hx => ?_) (by omega)) rfl
        obtain ⟨w, e, h⟩ := hw x hx
        subst e
        exact .str _ h.ok
      · exact isv_no .non rfl
      · exact isv_no (.int _) rfl
      · exact isv_no (sm_lst1 (.str _ (by decide +kernel))) rfl
      · exact isv_str (tw_of (by decide +kernel))
      · exact hx
  obtain ⟨L, e, hL, hV⟩ := hρ
  subst e
  refine ns_ret ?_
  unfold M.and
  have e6 : E.op eqD (E.lc [6] (B.name 6) (I.seq (E.var 3)) (T.not (T.val (E.call f__law_line_right (A.cons (E.var 6) A.nil)))) (E.var 6)) (E.lst A.nil) [none, some (.lst ys), some (.str t), some (.lst L), none, none, none] = .ok (.bl true) := by
    refine (op_ok (x := .lst []) (y := .lst []) (e_lc (ds := L) rfl (lc_none _ 6 _ _ L fun d hd => ?_) (by decide)) rfl).trans (by rw [eqnil]; rfl)
    obtain ⟨b, h⟩ := hV d hd
    exact tnot_ok (b := true) (val_ok ((call1_ok (x := d) rfl).trans (line_right h)))
  refine nh_bind (nh_of (P := fun x => x = .bl true) e6 rfl) fun x hx => ?_
  subst hx
  refine nh_bind (nh_of (P := fun b => b = true) (a := true) rfl rfl) fun b hb => ?_
  subst hb
  rw [if_pos rfl]
  exact nh_call (xs := []) rfl values_right
theorem hRight : (f__law_right []).ok ∧ ∀ d, (f__law_right []).out d → d = .bl true := law_right
end K2

set_option linter.all false
set_option Elab.async false
set_option maxRecDepth 100000
set_option maxHeartbeats 1000000
namespace K2
open PySem PySem.Spec PyProof.Rows L2 DL
theorem cons_ok {ga : E} {gs : DEnv → R (List D)} {ρ : DEnv} {x : D} {xs : List D} (h : ga ρ = .ok x) (h2 : gs ρ = .ok xs) : A.cons ga gs ρ = .ok (x :: xs) := by
  unfold A.cons
  rw [h, h2]
  rfl
theorem rng1_ok {g : E} {ρ : DEnv} {r : Int} (h : g ρ = .ok (.int r)) (h1 : 0 ≤ r) (h2 : r ≤ 100) : I.rng1 g ρ = .ok (DL.rng 0 r.toNat) := by
  have c : (decide (-(2 ^ 62) ≤ r) && decide (r < 2 ^ 62)) = true := by
    rw [Bool.and_eq_true]
    exact ⟨decide_eq_true (by omega), decide_eq_true (by omega)⟩
  unfold I.rng1
  rw [h]
  show (if decide (-(2 ^ 62) ≤ r) && decide (r < 2 ^ 62) then R.ok (DL.rng 0 r.toNat) else .bad) = _
  rw [if_pos c]
theorem intsD_map : ∀ l : List Int, intsD (l.map .int) = some l
  | [] => rfl
  | i :: l => by
    rw [List.map_cons]
    unfold intsD
    rw [intsD_map l]
    rfl
theorem cut_map (l : List Int) (k : Nat) : cutL (l.map D.int) none (some (k : Int)) = (l.take (min k l.length)).map .int := by
  show ((l.map D.int).drop 0).take (HT.sIx (l.map D.int).length (l.map D.int).length (some (k : Int)) - 0) = _
  rw [HT.sIx_nat, List.drop_zero, Nat.sub_zero, List.length_map, List.map_take]
theorem mul_ok {i j : Int} (h : sixty i = true ∨ sixty j = true) : mulD (.int i) (.int j) = some (.int (i * j)) := by
  show (if sixty i || sixty j then some (D.int (i * j)) else none) = _
  rw [if_pos]
  rw [Bool.or_eq_true]
  exact h
theorem mod_ok {i j : Int} (h : 0 < j) : modD (.int i) (.int j) = some (.int (i % j)) := by
  show (if decide (0 < j) then some (D.int (i % j)) else none) = _
  rw [if_pos (decide_eq_true h)]
theorem own_ok (ns : List Int) (k : Nat) (hk : k ≤ 3) : ∃ o : Int, b0__law_well [some (.lst (ns.map .int)), some (.int k), none, none, none] = .nx [some (.lst (ns.map .int)), some (.int k), some (.int o), none, none] := by
  have c : T.val (E.op ltD (E.var 1) (E.fn lenD (A.cons (E.var 0) A.nil))) [some (.lst (ns.map .int)), some (.int k), none, none, none] = .ok (decide ((k : Int) < ((ns.map D.int).length : Nat))) :=
    val_ok ((op_ok (x := .int k) (y := .int ((ns.map D.int).length : Nat)) rfl ((fn1_ok (x := .lst (ns.map .int)) rfl).trans rfl)).trans rfl)
  unfold b0__law_well
  by_cases h : k < ns.length
  · refine ⟨ns[k], set_ok ?_⟩
    have h2 : decide ((k : Int) < ((ns.map D.int).length : Nat)) = true := decide_eq_true (by rw [List.length_map]; omega)
    rw [h2] at c
    have e : ixD (.lst (ns.map .int)) (.int k) = some (.int ns[k]) := by
      show atI (ns.map D.int) k = _
      unfold atI ixN
      rw [if_pos (by omega), if_pos (by rw [List.length_map]; omega), Option.bind_some, Int.toNat_natCast, List.getElem?_map, List.getElem?_eq_getElem h]
      rfl
    exact (eite_tt c).trans ((fn1_ok ((op_ok (x := .lst (ns.map .int)) (y := .int k) rfl rfl).trans (by rw [e]; rfl))).trans rfl)
  · have h2 : decide ((k : Int) < ((ns.map D.int).length : Nat)) = false := decide_eq_false (by rw [List.length_map]; omega)
    rw [h2] at c
    have s1 : E.slice (E.var 0) O.no (O.some (E.k (.int 2))) [some (.lst (ns.map .int)), some (.int k), none, none, none] = .ok (.lst ((ns.take (min 2 ns.length)).map .int)) := by
      show R.ok (D.lst (cutL (ns.map D.int) none (some ((2 : Nat) : Int)))) = _
      rw [cut_map]
    have s2 : sumD [.lst ((ns.take (min 2 ns.length)).map .int)] = some (.int (ns.take (min 2 ns.length)).sum) := by
      show (intsD ((ns.take (min 2 ns.length)).map .int)).map _ = _
      rw [intsD_map]
      rfl
    refine ⟨_, set_ok ((eite_ff c).trans ((op_ok (x := .int (9311 * k + (ns.take (min 2 ns.length)).sum % 1000003)) (y := .int 71) ?_ rfl).trans rfl))⟩
    refine (op_ok (x := .int (9311 * k)) (y := .int ((ns.take (min 2 ns.length)).sum % 1000003)) ?_ ?_).trans rfl
    · refine (op_ok (x := .int 9311) (y := .int k) rfl rfl).trans ?_
      rw [mul_ok (.inl (by decide +kernel))]
      rfl
    · refine (op_ok ((fn1_ok ((fn1_ok s1).trans (by rw [s2]; rfl))).trans rfl) (y := .int 1000003) rfl).trans ?_
      rw [mod_ok (by decide)]
      rfl
theorem stir_loop (a b o : D) : ∀ (l : List Int) (s : Int) (o4 : Option D), 0 ≤ s → s < 4294967296 → ∃ (s' : Int) (p4 : Option D),
    forL (B.name 4) (S.set 3 (E.op modD (E.fn intID (A.cons (E.op addD (E.op addD (E.op mulD (E.var 3) (E.k (.int 45013))) (E.op modD (E.fn intID (A.cons (E.var 4) A.nil)) (E.k (.int 2147483399)))) (E.k (.int 37))) A.nil)) (E.k (.int 2147483563)))) (l.map .int) [some a, some b, some o, some (.int s), o4] = .nx [some a, some b, some o, some (.int s'), p4]
  | [], s, o4, _, _ => ⟨s, o4, rfl⟩
  | i :: l, s, o4, h1, h2 => by
    have e : E.op modD (E.fn intID (A.cons (E.op addD (E.op addD (E.op mulD (E.var 3) (E.k (.int 45013))) (E.op modD (E.fn intID (A.cons (E.var 4) A.nil)) (E.k (.int 2147483399)))) (E.k (.int 37))) A.nil)) (E.k (.int 2147483563)) [some a, some b, some o, some (.int s), some (.int i)] = .ok (.int ((s * 45013 + i % 2147483399 + 37) % 2147483563)) := by
      have m1 : E.op mulD (E.var 3) (E.k (.int 45013)) [some a, some b, some o, some (.int s), some (.int i)] = .ok (.int (s * 45013)) := by
        refine (op_ok (x := .int s) (y := .int 45013) rfl rfl).trans ?_
        rw [mul_ok (.inr (by decide +kernel))]
        rfl
      have m2 : E.op modD (E.fn intID (A.cons (E.var 4) A.nil)) (E.k (.int 2147483399)) [some a, some b, some o, some (.int s), some (.int i)] = .ok (.int (i % 2147483399)) := by
        refine (op_ok (x := .int i) (y := .int 2147483399) ((fn1_ok (x := .int i) rfl).trans rfl) rfl).trans ?_
        rw [mod_ok (by decide)]
        rfl
      refine (op_ok (x := .int (s * 45013 + i % 2147483399 + 37)) (y := .int 2147483563) ((fn1_ok ((op_ok (x := .int (s * 45013 + i % 2147483399)) (y := .int 37) ((op_ok m1 m2).trans rfl) rfl).trans rfl)).trans rfl) rfl).trans ?_
      rw [mod_ok (by decide)]
      rfl
    obtain ⟨s', p4, ih⟩ := stir_loop a b o l ((s * 45013 + i % 2147483399 + 37) % 2147483563) (some (.int i)) (Int.emod_nonneg _ (by decide)) (Int.lt_trans (Int.emod_lt_of_pos _ (by decide)) (by decide))
    refine ⟨s', p4, ?_⟩
    rw [List.map_cons, for_nx (ρ1 := [some a, some b, some o, some (.int s), some (.int i)]) rfl (set_ok e)]
    exact ih
theorem law_well (ns : List Int) (k : Nat) (hk : k ≤ 3) : ∃ x y z : Int, f__law_well [.lst (ns.map .int), .int k] = .ok [.int x, .int y, .int z] := by
  obtain ⟨o, e0⟩ := own_ok ns k hk
  have e1 : b1__law_well [some (.lst (ns.map .int)), some (.int k), some (.int o), none, none] = .nx [some (.lst (ns.map .int)), some (.int k), some (.int o), some (.int (50021 + 1013 * k)), none] := by
    refine set_ok ((op_ok (x := .int 50021) (y := .int (1013 * k)) rfl ((op_ok (x := .int 1013) (y := .int k) rfl rfl).trans ?_)).trans rfl)
    rw [mul_ok (.inl (by decide +kernel))]
    rfl
  have s1 : I.seq (E.op addD (E.slice (E.var 0) O.no (O.some (E.k (.int 5)))) (E.lst (A.cons (E.var 2) A.nil))) [some (.lst (ns.map .int)), some (.int k), some (.int o), some (.int (50021 + 1013 * k)), none] = .ok ((ns.take (min 5 ns.length) ++ [o]).map .int) := by
    have e : E.op addD (E.slice (E.var 0) O.no (O.some (E.k (.int 5)))) (E.lst (A.cons (E.var 2) A.nil)) [some (.lst (ns.map .int)), some (.int k), some (.int o), some (.int (50021 + 1013 * k)), none] = .ok (.lst ((ns.take (min 5 ns.length) ++ [o]).map .int)) := by
      have s : E.slice (E.var 0) O.no (O.some (E.k (.int 5))) [some (.lst (ns.map .int)), some (.int k), some (.int o), some (.int (50021 + 1013 * k)), none] = .ok (.lst ((ns.take (min 5 ns.length)).map .int)) := by
        show R.ok (D.lst (cutL (ns.map D.int) none (some ((5 : Nat) : Int)))) = _
        rw [cut_map]
      refine (op_ok s (y := .lst [.int o]) rfl).trans ?_
      show R.of (if small (((ns.take (min 5 ns.length)).map D.int).length + [D.int o].length) then some (D.lst ((ns.take (min 5 ns.length)).map D.int ++ [D.int o])) else none) = _
      rw [if_pos (show small _ = true from decide_eq_true (by rw [List.length_map, List.length_take]; show _ + 1 ≤ 100000; omega)), List.map_append]
      rfl
    unfold I.seq
    rw [e]
    rfl
  obtain ⟨s, p4, e2⟩ := stir_loop (.lst (ns.map .int)) (.int k) (.int o) (ns.take (min 5 ns.length) ++ [o]) (50021 + 1013 * k) none (by omega) (by omega)
  have e3 : b2__law_well [some (.lst (ns.map .int)), some (.int k), some (.int o), some (.int (50021 + 1013 * k)), none] = .nx [some (.lst (ns.map .int)), some (.int k), some (.int o), some (.int s), p4] := by
    unfold b2__law_well S.for
    rw [s1]
    exact e2
  have e4 : S.seq b0__law_well (S.seq b1__law_well b2__law_well) [some (.lst (ns.map .int)), some (.int k), none, none, none] = .nx [some (.lst (ns.map .int)), some (.int k), some (.int o), some (.int s), p4] := by
    rw [seq_nx e0, seq_nx e1, e3]
  have e5 : ∃ x : Int, (E.ite (T.or (T.val (E.op ltD (E.var 2) (E.k (.int 0)))) (T.val (E.op geD (E.var 2) (E.op powD (E.k (.int 10)) (E.k (.int 17)))))) (E.op modD (E.fn intID (A.cons (E.fn absD (A.cons (E.var 2) A.nil)) A.nil)) (E.op powD (E.k (.int 10)) (E.k (.int 60)))) (E.k (.int 0))) [some (.lst (ns.map .int)), some (.int k), some (.int o), some (.int s), p4] = .ok (.int x) := by
    have a1 : T.val (E.op ltD (E.var 2) (E.k (.int 0))) [some (.lst (ns.map .int)), some (.int k), some (.int o), some (.int s), p4] = .ok (decide (o < 0)) := rfl
    have a2 : T.val (E.op geD (E.var 2) (E.op powD (E.k (.int 10)) (E.k (.int 17)))) [some (.lst (ns.map .int)), some (.int k), some (.int o), some (.int s), p4] = .ok (decide (10 ^ 17 ≤ o)) :=
      val_ok ((op_ok (x := .int o) (y := .int (10 ^ 17)) rfl (by kernel_rfl)).trans rfl)
    have a3 : E.op modD (E.fn intID (A.cons (E.fn absD (A.cons (E.var 2) A.nil)) A.nil)) (E.op powD (E.k (.int 10)) (E.k (.int 60))) [some (.lst (ns.map .int)), some (.int k), some (.int o), some (.int s), p4] = .ok (.int ((if o < 0 then -o else o) % 10 ^ 60)) := by
      refine (op_ok (x := .int (if o < 0 then -o else o)) (y := .int (10 ^ 60)) ((fn1_ok ((fn1_ok (x := .int o) rfl).trans rfl)).trans rfl) (by kernel_rfl)).trans ?_
      rw [mod_ok (by decide)]
      rfl
    unfold E.ite T.or
    rw [a1, a2, a3]
    cases decide (o < 0)
    · cases decide (10 ^ 17 ≤ o)
      · exact ⟨0, rfl⟩
      · exact ⟨_, rfl⟩
    · exact ⟨_, rfl⟩
  obtain ⟨x, e5⟩ := e5
  refine ⟨x, s, 0, ?_⟩
  have e6 : g__law_well [some (.lst (ns.map .int)), some (.int k), some (.int o), some (.int s), p4] = .ok [.int x, .int s, .int 0] := by
    exact cons_ok e5 rfl
  show (match S.seq b0__law_well (S.seq b1__law_well b2__law_well) [some (.lst (ns.map .int)), some (.int k), none, none, none] with
    | .nx ρ => (g__law_well ρ).nx
    | _ => .bad) = _
  rw [e4]
  show (g__law_well [some (.lst (ns.map .int)), some (.int k), some (.int o), some (.int s), p4]).nx = _
  rw [e6]
  rfl
theorem first_words : ((keysL ++ (["0", "-0", ".", "-", "(", "=", "abcdef", "abcdefg", "999999", "1000000", "A", "AB", "&", "+"] : List Str)).all dwB) = true := by decide +kernel
theorem lawPlain (ns : List Int) : f_law [.lst (ns.map D.int)] = .ok (.bl true) := by
  have t1 : T.val (E.op neD (E.lc [1] (B.name 1) (I.seq (E.op addD (E.call f__law_keys A.nil) (E.lst (A.cons (E.k (.str "0")) (A.cons (E.k (.str "-0")) (A.cons (E.k (.str ".")) (A.cons (E.k (.str "-")) (A.cons (E.k (.str "(")) (A.cons (E.k (.str "=")) (A.cons (E.k (.str "abcdef")) (A.cons (E.k (.str "abcdefg")) (A.cons (E.k (.str "999999")) (A.cons (E.k (.str "1000000")) (A.cons (E.k (.str "A")) (A.cons (E.k (.str "AB")) (A.cons (E.k (.str "&")) (A.cons (E.k (.str "+")) A.nil))))))))))))))))) (T.not (T.val (E.call f__law_word_right (A.cons (E.var 1) A.nil)))) (E.var 1)) (E.lst A.nil)) [some (.lst (ns.map .int)), none, none] = .ok false := by
    have s : I.seq (E.op addD (E.call f__law_keys A.nil) (E.lst (A.cons (E.k (.str "0")) (A.cons (E.k (.str "-0")) (A.cons (E.k (.str ".")) (A.cons (E.k (.str "-")) (A.cons (E.k (.str "(")) (A.cons (E.k (.str "=")) (A.cons (E.k (.str "abcdef")) (A.cons (E.k (.str "abcdefg")) (A.cons (E.k (.str "999999")) (A.cons (E.k (.str "1000000")) (A.cons (E.k (.str "A")) (A.cons (E.k (.str "AB")) (A.cons (E.k (.str "&")) (A.cons (E.k (.str "+")) A.nil)))))))))))))))) [some (.lst (ns.map .int)), none, none] = .ok ((keysL ++ (["0", "-0", ".", "-", "(", "=", "abcdef", "abcdefg", "999999", "1000000", "A", "AB", "&", "+"] : List Str)).map .str) := by kernel_rfl
    refine val_ok ((op_ok (x := .lst []) (y := .lst []) (e_lc s (lc_none _ 1 _ _ _ fun d hd => ?_) (by decide)) rfl).trans (by rw [nenil]; rfl))
    obtain ⟨w, h1, h2⟩ := List.mem_map.mp hd
    subst h2
    exact tnot_ok (b := true) (val_ok ((call1_ok (x := .str w) rfl).trans (word_right (dw_of (List.all_eq_true.mp first_words w h1)))))
  have s2 : ∃ m : Nat, m ≤ 3 ∧ I.rng1 (E.fn maxD (A.cons (E.k (.int 2)) (A.cons (E.fn minD (A.cons (E.fn lenD (A.cons (E.var 0) A.nil)) (A.cons (E.k (.int 3)) A.nil))) A.nil))) [some (.lst (ns.map .int)), none, none] = .ok (DL.rng 0 m) := by
    have e : ∃ m : Nat, m ≤ 3 ∧ (E.fn maxD (A.cons (E.k (.int 2)) (A.cons (E.fn minD (A.cons (E.fn lenD (A.cons (E.var 0) A.nil)) (A.cons (E.k (.int 3)) A.nil))) A.nil))) [some (.lst (ns.map .int)), none, none] = .ok (.int m) := by
      have e1 : (E.fn maxD (A.cons (E.k (.int 2)) (A.cons (E.fn minD (A.cons (E.fn lenD (A.cons (E.var 0) A.nil)) (A.cons (E.k (.int 3)) A.nil))) A.nil))) [some (.lst (ns.map .int)), none, none] = .ok (.int (if (if (3 : Int) < ((ns.map D.int).length : Nat) then 3 else (((ns.map D.int).length : Nat) : Int)) > 2 then (if (3 : Int) < ((ns.map D.int).length : Nat) then 3 else (((ns.map D.int).length : Nat) : Int)) else 2)) := by kernel_rfl
      rw [e1, List.length_map]
      by_cases h3 : (3 : Int) < (ns.length : Nat)
      · rw [if_pos h3]
        exact ⟨3, Nat.le_refl _, rfl⟩
      · rw [if_neg h3]
        by_cases h2 : ((ns.length : Nat) : Int) > 2
        · rw [if_pos h2]
          exact ⟨ns.length, by omega, rfl⟩
        · rw [if_neg h2]
          exact ⟨2, by decide, rfl⟩
    obtain ⟨m, hm, e⟩ := e
    refine ⟨m, hm, ?_⟩
    exact rng1_ok e (by omega) (by omega)
  obtain ⟨m, hm, s2⟩ := s2
  have e2 : E.lc [2] (B.name 2) (I.rng1 (E.fn maxD (A.cons (E.k (.int 2)) (A.cons (E.fn minD (A.cons (E.fn lenD (A.cons (E.var 0) A.nil)) (A.cons (E.k (.int 3)) A.nil))) A.nil)))) T.yes (E.call (f_wr f__law_well 2) (A.cons (E.var 0) (A.cons (E.var 2) A.nil))) [some (.lst (ns.map .int)), none, none] = .ok (.lst ((DL.rng 0 m).map fun _ => D.bl true)) := by
    refine e_lc s2 (lc_mapD _ 2 _ (fun _ => D.bl true) _ fun d hd => ?_) (by rw [List.length_map]; unfold DL.rng; rw [List.length_map, List.length_range]; omega)
    unfold DL.rng at hd
    obtain ⟨k, h1, h2⟩ := List.mem_map.mp hd
    have hk : k ≤ 3 := by
      have := List.mem_range.mp h1
      omega
    subst h2
    obtain ⟨x, y, z, e⟩ := law_well ns k hk
    refine (call2_ok (x := .lst (ns.map .int)) (y := .int (0 + k)) rfl rfl).trans ?_
    rw [Int.zero_add]
    show ((f__law_well [.lst (ns.map .int), .int k]).nx.bind fun xs => (match xs with
      | [.int _, .int _, .int _] => R.ok (D.bl true)
      | _ => R.bad : R D)) = _
    rw [e]
    rfl
  show (b_law [some (.lst (ns.map .int)), none, none]).fin = _
  unfold b_law
  rw [pass_ff t1, ret_ok ((fn1_ok e2).trans (by rw [all_true]; rfl))]
  rfl
end K2

set_option Elab.async false
set_option linter.all false
set_option maxRecDepth 100000
set_option maxHeartbeats 0
namespace K2
open PySem PySem.Spec PyProof.Rows L2 DL
open Evl (Ex)
theorem ints_dv {K : PySem.W.Frag} (H : Hp) : ∀ ns : List Int, DvA K H (ns.map V.int) (ns.map D.int)
  | [] => .nil
  | n :: ns => .cons (.int n) (ints_dv H ns)
section
variable {w : World} {K : PySem.W.Frag} {h : Heap} {mg : Str → Option Value} {base : Heap} {f : Addr}
theorem exAt {f : PySem.W.Frag → Bool} (c : SaysO faL fnL tsL exB w K) (i : Nat) (e : exL[i]? = some f := by rfl) : f K = true := List.all_eq_true.mp c.more f (List.mem_of_getElem? e)
theorem factsH (X : K.In h) (G : h.Ns mainGlobals mg) (hfa : mg "law" = some (.ref f)) (c : SaysO faL fnL tsL exB w K) :
    ∃ fd : FuncData, (∀ (s : Shared) (v : Value), BindsTo s fd ⟨[v], []⟩ [("script", v)]) ∧ ∀ base : Heap, K.In base → base.Ns mainGlobals mg → FnOk topP w K mg base (L2.CX topP w) 16 f fd ["script"] (spD (fun i => He.ga K (nmE i)) K 1 f_law) := by
  obtain ⟨fd_is_text_of, F_is_text_of⟩ := c.t.d.def_ 0 (d := dD "is_text_of" st_is_text_of) rfl
  obtain ⟨fd_is_lined, F_is_lined⟩ := c.t.d.def_ 1 (d := dD "is_lined" st_is_lined) rfl
  obtain ⟨fd_is_line, F_is_line⟩ := c.t.d.def_ 2 (d := dD "is_line" st_is_line) rfl
  obtain ⟨fd_check_line, F_check_line⟩ := c.t.d.def_ 3 (d := dD "check_line" st_check_line) rfl
  obtain ⟨fd_words_by, F_words_by⟩ := c.t.d.def_ 4 (d := dD "words_by" st_words_by) rfl
  obtain ⟨fd_words_of, F_words_of⟩ := c.t.d.def_ 5 (d := dD "words_of" st_words_of) rfl
  obtain ⟨fd_check_text, F_check_text⟩ := c.t.d.def_ 6 (d := dD "check_text" st_check_text) rfl
  obtain ⟨fd_is_name, F_is_name⟩ := c.t.d.def_ 7 (d := dD "is_name" st_is_name) rfl
  obtain ⟨fd_is_variable, F_is_variable⟩ := c.t.d.def_ 8 (d := dD "is_variable" st_is_variable) rfl
  obtain ⟨fd_is_number_word, F_is_number_word⟩ := c.t.d.def_ 9 (d := dD "is_number_word" st_is_number_word) rfl
  obtain ⟨fd_is_word_text, F_is_word_text⟩ := c.t.d.def_ 10 (d := dD "is_word_text" st_is_word_text) rfl
  obtain ⟨fd_is_value_word, F_is_value_word⟩ := c.t.d.def_ 11 (d := dD "is_value_word" st_is_value_word) rfl
  obtain ⟨fd_word_kind_by, F_word_kind_by⟩ := c.t.d.def_ 12 (d := dD "word_kind_by" st_word_kind_by) rfl
  obtain ⟨fd_word_kind, F_word_kind⟩ := c.t.d.def_ 13 (d := dD "word_kind" st_word_kind) rfl
  obtain ⟨fd_value_by, F_value_by⟩ := c.t.d.def_ 14 (d := dD "value_by" st_value_by) rfl
  obtain ⟨fd_value_of, F_value_of⟩ := c.t.d.def_ 15 (d := dD "value_of" st_value_of) rfl
  obtain ⟨fd_is_whole, F_is_whole⟩ := c.t.d.def_ 16 (d := dD "is_whole" st_is_whole) rfl
  obtain ⟨fd_is_number, F_is_number⟩ := c.t.d.def_ 17 (d := dD "is_number" st_is_number) rfl
  obtain ⟨fd_is_value, F_is_value⟩ := c.t.d.def_ 18 (d := dD "is_value" st_is_value) rfl
  obtain ⟨fd_word_by, F_word_by⟩ := c.t.d.def_ 19 (d := dD "word_by" st_word_by) rfl
  obtain ⟨fd_word_of, F_word_of⟩ := c.t.d.def_ 20 (d := dD "word_of" st_word_of) rfl
  obtain ⟨fd_term_text, F_term_text⟩ := c.t.d.def_ 21 (d := dD "term_text" st_term_text) rfl
  obtain ⟨fd_listed, F_listed⟩ := c.t.d.def_ 22 (d := dD "listed" st_listed) rfl
  obtain ⟨fd_text_of_fact, F_text_of_fact⟩ := c.t.d.def_ 23 (d := dD "text_of_fact" st_text_of_fact) rfl
  obtain ⟨fd_text_of_atom, F_text_of_atom⟩ := c.t.d.def_ 24 (d := dD "text_of_atom" st_text_of_atom) rfl
  obtain ⟨fd_text_of_literal, F_text_of_literal⟩ := c.t.d.def_ 25 (d := dD "text_of_literal" st_text_of_literal) rfl
  obtain ⟨fd_text_of_body, F_text_of_body⟩ := c.t.d.def_ 26 (d := dD "text_of_body" st_text_of_body) rfl
  obtain ⟨fd_text_of_rule, F_text_of_rule⟩ := c.t.d.def_ 27 (d := dD "text_of_rule" st_text_of_rule) rfl
  obtain ⟨fd_text_of_entry, F_text_of_entry⟩ := c.t.d.def_ 28 (d := dD "text_of_entry" st_text_of_entry) rfl
  obtain ⟨fd_is_tuple_of, F_is_tuple_of⟩ := c.t.d.def_ 29 (d := dD "is_tuple_of" st_is_tuple_of) rfl
  obtain ⟨fd_is_term, F_is_term⟩ := c.t.d.def_ 30 (d := dD "is_term" st_is_term) rfl
  obtain ⟨fd_is_atom_tree, F_is_atom_tree⟩ := c.t.d.def_ 31 (d := dD "is_atom_tree" st_is_atom_tree) rfl
  obtain ⟨fd_is_literal, F_is_literal⟩ := c.t.d.def_ 32 (d := dD "is_literal" st_is_literal) rfl
  obtain ⟨fd_is_body_tree, F_is_body_tree⟩ := c.t.d.def_ 33 (d := dD "is_body_tree" st_is_body_tree) rfl
  obtain ⟨fd_is_some_row, F_is_some_row⟩ := c.t.d.def_ 34 (d := dD "is_some_row" st_is_some_row) rfl
  obtain ⟨fd_is_fact_tree, F_is_fact_tree⟩ := c.t.d.def_ 35 (d := dD "is_fact_tree" st_is_fact_tree) rfl
  obtain ⟨fd_is_count, F_is_count⟩ := c.t.d.def_ 36 (d := dD "is_count" st_is_count) rfl
  obtain ⟨fd_is_entry_tree, F_is_entry_tree⟩ := c.t.d.def_ 37 (d := dD "is_entry_tree" st_is_entry_tree) rfl
  obtain ⟨fd_check_entry, F_check_entry⟩ := c.t.d.def_ 38 (d := dD "check_entry" st_check_entry) rfl
  obtain ⟨fd_check_body, F_check_body⟩ := c.t.d.def_ 39 (d := dD "check_body" st_check_body) rfl
  obtain ⟨fd_options_behind, F_options_behind⟩ := c.t.d.def_ 40 (d := dD "options_behind" st_options_behind) rfl
  obtain ⟨fd_options_of, F_options_of⟩ := c.t.d.def_ 41 (d := dD "options_of" st_options_of) rfl
  obtain ⟨fd_told_as, F_told_as⟩ := c.t.d.def_ 42 (d := dD "told_as" st_told_as) rfl
  obtain ⟨fd_walked, F_walked⟩ := c.t.d.def_ 43 (d := dD "walked" st_walked) rfl
  obtain ⟨fd_can_end, F_can_end⟩ := c.t.d.def_ 44 (d := dD "can_end" st_can_end) rfl
  obtain ⟨fd_first_bad_by, F_first_bad_by⟩ := c.t.d.def_ 45 (d := dD "first_bad_by" st_first_bad_by) rfl
  obtain ⟨fd_term_read, F_term_read⟩ := c.t.d.def_ 46 (d := dD "term_read" st_term_read) rfl
  obtain ⟨fd_words_in_brackets, F_words_in_brackets⟩ := c.t.d.def_ 47 (d := dD "words_in_brackets" st_words_in_brackets) rfl
  obtain ⟨fd_atom_read, F_atom_read⟩ := c.t.d.def_ 48 (d := dD "atom_read" st_atom_read) rfl
  obtain ⟨fd_fact_read, F_fact_read⟩ := c.t.d.def_ 49 (d := dD "fact_read" st_fact_read) rfl
  obtain ⟨fd_literal_read, F_literal_read⟩ := c.t.d.def_ 50 (d := dD "literal_read" st_literal_read) rfl
  obtain ⟨fd_first_bad, F_first_bad⟩ := c.t.d.def_ 51 (d := dD "first_bad" st_first_bad) rfl
  obtain ⟨fd_body_read, F_body_read⟩ := c.t.d.def_ 52 (d := dD "body_read" st_body_read) rfl
  obtain ⟨fd_entry_read, F_entry_read⟩ := c.t.d.def_ 53 (d := dD "entry_read" st_entry_read) rfl
  obtain ⟨fd_tree_by, F_tree_by⟩ := c.t.d.def_ 54 (d := dD "tree_by" st_tree_by) rfl
  obtain ⟨fd_read_as, F_read_as⟩ := c.t.d.def_ 55 (d := dD "read_as" st_read_as) rfl
  obtain ⟨fd_read_entry, F_read_entry⟩ := c.t.d.def_ 56 (d := dD "read_entry" st_read_entry) rfl
  obtain ⟨fd_read_body, F_read_body⟩ := c.t.d.def_ 57 (d := dD "read_body" st_read_body) rfl
  obtain ⟨fd_entry_text, F_entry_text⟩ := c.t.d.def_ 58 (d := dD "entry_text" st_entry_text) rfl
  obtain ⟨fd_body_text, F_body_text⟩ := c.t.d.def_ 59 (d := dD "body_text" st_body_text) rfl
  obtain ⟨fd__law_is, F__law_is⟩ := c.t.d.def_ 60 (d := dD "_law_is" st__law_is) rfl
  obtain ⟨fd__law_whole, F__law_whole⟩ := c.t.d.def_ 61 (d := dD "_law_whole" st__law_whole) rfl
  obtain ⟨fd__law_keys, F__law_keys⟩ := c.t.d.def_ 62 (d := dD "_law_keys" st__law_keys) rfl
  obtain ⟨fd__law_small, F__law_small⟩ := c.t.d.def_ 63 (d := dD "_law_small" st__law_small) rfl
  obtain ⟨fd__law_is_name, F__law_is_name⟩ := c.t.d.def_ 64 (d := dD "_law_is_name" st__law_is_name) rfl
  obtain ⟨fd__law_is_variable, F__law_is_variable⟩ := c.t.d.def_ 65 (d := dD "_law_is_variable" st__law_is_variable) rfl
  obtain ⟨fd__law_is_value, F__law_is_value⟩ := c.t.d.def_ 66 (d := dD "_law_is_value" st__law_is_value) rfl
  obtain ⟨fd__law_signs, F__law_signs⟩ := c.t.d.def_ 67 (d := dD "_law_signs" st__law_signs) rfl
  obtain ⟨fd__law_of_number, F__law_of_number⟩ := c.t.d.def_ 68 (d := dD "_law_of_number" st__law_of_number) rfl
  obtain ⟨fd__law_value, F__law_value⟩ := c.t.d.def_ 69 (d := dD "_law_value" st__law_value) rfl
  obtain ⟨fd__law_told_kind, F__law_told_kind⟩ := c.t.d.def_ 70 (d := dD "_law_told_kind" st__law_told_kind) rfl
  obtain ⟨fd__law_tried, F__law_tried⟩ := c.t.d.def_ 71 (d := dD "_law_tried" st__law_tried) rfl
  obtain ⟨fd__law_word_right, F__law_word_right⟩ := c.t.d.def_ 72 (d := dD "_law_word_right" st__law_word_right) rfl
  obtain ⟨fd__law_line_right, F__law_line_right⟩ := c.t.d.def_ 73 (d := dD "_law_line_right" st__law_line_right) rfl
  obtain ⟨fd__law_take, F__law_take⟩ := c.t.d.def_ 74 (d := dD "_law_take" st__law_take) rfl
  obtain ⟨fd__law_pick, F__law_pick⟩ := c.t.d.def_ 75 (d := dD "_law_pick" st__law_pick) rfl
  obtain ⟨fd__law_odd, F__law_odd⟩ := c.t.d.def_ 76 (d := dD "_law_odd" st__law_odd) rfl
  obtain ⟨fd__law_drawn_word, F__law_drawn_word⟩ := c.t.d.def_ 77 (d := dD "_law_drawn_word" st__law_drawn_word) rfl
  obtain ⟨fd__law_values_right, F__law_values_right⟩ := c.t.d.def_ 78 (d := dD "_law_values_right" st__law_values_right) rfl
  obtain ⟨fd__law_right, F__law_right⟩ := c.t.d.def_ 79 (d := dD "_law_right" st__law_right) rfl
  obtain ⟨fd__law_well, F__law_well⟩ := c.t.d.def_ 80 (d := dD "_law_well" st__law_well) rfl
  obtain ⟨fd_law, F_law⟩ := c.t.d.def_ 81 (d := dD "law" st_law) rfl
  obtain ⟨fdi_BadWord, FI_BadWord⟩ := c.t.d.def_ 82 (d := dI "BadWord" "BadWord.__init__" (clsS 3)) rfl
  obtain ⟨fdi_InvalidText, FI_InvalidText⟩ := c.t.d.def_ 83 (d := dI "InvalidText" "InvalidText.__init__" (clsS 2)) rfl
  obtain ⟨fdi_InvalidTree, FI_InvalidTree⟩ := c.t.d.def_ 84 (d := dI "InvalidTree" "InvalidTree.__init__" (clsS 4)) rfl
  obtain ⟨fdi_InvalidValue, FI_InvalidValue⟩ := c.t.d.def_ 85 (d := dI "InvalidValue" "InvalidValue.__init__" (clsS 5)) rfl
  have hl := hfa.symm.trans (He.glo_ok X G (c.t.d.fact 81 (f := .glo "law") rfl))
  cases hl
  refine ⟨fd_law, fun s v => (FunD.bindsA (ps := ["script"]) F_law fun _ _ _ _ _ _ us hl => match us, hl with | [_], _ => rfl) s [v] rfl, fun base _ _ => ?_⟩
  have eE_BadWord := errX_ok (He.glo_ok X G (c.t.d.fact 82 (f := .glo "BadWord") rfl)) (exAt c 37)
  have eE_InvalidText := errX_ok (He.glo_ok X G (c.t.d.fact 83 (f := .glo "InvalidText") rfl)) (exAt c 38)
  have eE_InvalidTree := errX_ok (He.glo_ok X G (c.t.d.fact 84 (f := .glo "InvalidTree") rfl)) (exAt c 39)
  have eE_InvalidValue := errX_ok (He.glo_ok X G (c.t.d.fact 85 (f := .glo "InvalidValue") rfl)) (exAt c 40)
  have T : Tx topP w K mg base (fun i => He.ga K (nmE i)) (He.ga K "ANY") (He.ga K "OPTIONS") (He.ma K (He.ga K "BadWord") "__init__") fdi_BadWord (He.ma K (He.ga K "InvalidText") "__init__") fdi_InvalidText (He.ma K (He.ga K "InvalidTree") "__init__") fdi_InvalidTree (He.ma K (He.ga K "InvalidValue") "__init__") fdi_InvalidValue (He.ga K "BookError") := {
    fr := fun x hx => He.free_ok X G (c.t.d.facts (f := .free x) (List.mem_append_right _ (List.mem_map_of_mem hx))),
    c_ASK := conX_ok X G (exAt c 0),
    c_ATOM := conX_ok X G (exAt c 1),
    c_BACK := conX_ok X G (exAt c 2),
    c_BELOW := conX_ok X G (exAt c 3),
    c_BODY := conX_ok X G (exAt c 4),
    c_CAPITALS := conX_ok X G (exAt c 5),
    c_COMPARING := conX_ok X G (exAt c 6),
    c_DIGITS := conX_ok X G (exAt c 7),
    c_DROP := conX_ok X G (exAt c 8),
    c_ENTRY := conX_ok X G (exAt c 9),
    c_ENTRY_OR_ASKED := conX_ok X G (exAt c 10),
    c_GREATEST := conX_ok X G (exAt c 11),
    c_KEY := conX_ok X G (exAt c 12),
    c_KEY_WORDS := conX_ok X G (exAt c 13),
    c_LETTERS := conX_ok X G (exAt c 14),
    c_LITERAL := conX_ok X G (exAt c 15),
    c_LONGEST := conX_ok X G (exAt c 16),
    c_LONGEST_LINE := conX_ok X G (exAt c 17),
    c_MOST_LITERALS := conX_ok X G (exAt c 18),
    c_MOST_TERMS := conX_ok X G (exAt c 19),
    c_NAME := conX_ok X G (exAt c 20),
    c_NONE := conX_ok X G (exAt c 21),
    c_NOT := conX_ok X G (exAt c 22),
    c_NUMBER := conX_ok X G (exAt c 23),
    c_OF_FACTS := conX_ok X G (exAt c 24),
    c_RULE := conX_ok X G (exAt c 25),
    c_SIGN := conX_ok X G (exAt c 26),
    c_SIGNS := conX_ok X G (exAt c 27),
    c_SIGN_WORDS := conX_ok X G (exAt c 28),
    c_SINCE := conX_ok X G (exAt c 29),
    c_VAL := conX_ok X G (exAt c 30),
    c_VAR := conX_ok X G (exAt c 31),
    c_VARIABLE := conX_ok X G (exAt c 32),
    c_WORD := conX_ok X G (exAt c 33),
    c_YES := conX_ok X G (exAt c 34),
    t_ANY := tabX_ok (c.t.tab 0) (exAt c 35),
    m_ANY := (He.glo_ok X G (c.t.d.fact 87 (f := .glo "ANY") rfl)),
    t_OPTIONS := tabX_ok (c.t.tab 1) (exAt c 36),
    m_OPTIONS := (He.glo_ok X G (c.t.d.fact 88 (f := .glo "OPTIONS") rfl)),
    e_BadWord := eE_BadWord,
    i_BadWord := ok_init eE_BadWord (fun_of (st := clsS 3) (qual := "BadWord.__init__") FI_BadWord) ⟨rfl, rfl, rfl, by decide +kernel, rfl, by decide +kernel, by decide +kernel⟩ rfl,
    b_BadWord := (fun_of (st := clsS 3) (qual := "BadWord.__init__") FI_BadWord).binds fun _ _ _ _ _ _ us hl => match us, hl with | [_, _], _ => rfl,
    e_InvalidText := eE_InvalidText,
    i_InvalidText := ok_init eE_InvalidText (fun_of (st := clsS 2) (qual := "InvalidText.__init__") FI_InvalidText) ⟨rfl, rfl, rfl, by decide +kernel, rfl, by decide +kernel, by decide +kernel⟩ rfl,
    b_InvalidText := (fun_of (st := clsS 2) (qual := "InvalidText.__init__") FI_InvalidText).binds fun _ _ _ _ _ _ us hl => match us, hl with | [_, _], _ => rfl,
    e_InvalidTree := eE_InvalidTree,
    i_InvalidTree := ok_init eE_InvalidTree (fun_of (st := clsS 4) (qual := "InvalidTree.__init__") FI_InvalidTree) ⟨rfl, rfl, rfl, by decide +kernel, rfl, by decide +kernel, by decide +kernel⟩ rfl,
    b_InvalidTree := (fun_of (st := clsS 4) (qual := "InvalidTree.__init__") FI_InvalidTree).binds fun _ _ _ _ _ _ us hl => match us, hl with | [_, _], _ => rfl,
    e_InvalidValue := eE_InvalidValue,
    i_InvalidValue := ok_init eE_InvalidValue (fun_of (st := clsS 5) (qual := "InvalidValue.__init__") FI_InvalidValue) ⟨rfl, rfl, rfl, by decide +kernel, rfl, by decide +kernel, by decide +kernel⟩ rfl,
    b_InvalidValue := (fun_of (st := clsS 5) (qual := "InvalidValue.__init__") FI_InvalidValue).binds fun _ _ _ _ _ _ us hl => match us, hl with | [_, _], _ => rfl,
    x_BadWord := errsX_ok (exAt c 41),
    g_BadWord := (He.glo_ok X G (c.t.d.fact 82 (f := .glo "BadWord") rfl)),
    x_InvalidText := errsX_ok (exAt c 42),
    g_InvalidText := (He.glo_ok X G (c.t.d.fact 83 (f := .glo "InvalidText") rfl)),
    x_InvalidValue := errsX_ok (exAt c 43),
    g_InvalidValue := (He.glo_ok X G (c.t.d.fact 85 (f := .glo "InvalidValue") rfl)),
    g_BookError := (He.glo_ok X G (c.t.d.fact 86 (f := .glo "BookError") rfl)) }
  have d_is_text_of := ok_is_text_of T (fun_of F_is_text_of) (He.glo_ok X G (c.t.d.fact 0 (f := .glo "is_text_of") rfl)) 
  have d_is_lined := ok_is_lined T (fun_of F_is_lined) (He.glo_ok X G (c.t.d.fact 1 (f := .glo "is_lined") rfl)) d_is_text_of
  have d_is_line := ok_is_line T (fun_of F_is_line) (He.glo_ok X G (c.t.d.fact 2 (f := .glo "is_line") rfl)) d_is_lined
  have d_check_line := ok_check_line T (fun_of F_check_line) (He.glo_ok X G (c.t.d.fact 3 (f := .glo "check_line") rfl)) d_is_lined
  have d_words_by := ok_words_by T (fun_of F_words_by) (He.glo_ok X G (c.t.d.fact 4 (f := .glo "words_by") rfl)) 
  have d_words_of := ok_words_of T (fun_of F_words_of) (He.glo_ok X G (c.t.d.fact 5 (f := .glo "words_of") rfl)) d_check_line d_words_by
  have d_check_text := ok_check_text T (fun_of F_check_text) (He.glo_ok X G (c.t.d.fact 6 (f := .glo "check_text") rfl)) 
  have d_is_name := ok_is_name T (fun_of F_is_name) (He.glo_ok X G (c.t.d.fact 7 (f := .glo "is_name") rfl)) d_is_text_of
  have d_is_variable := ok_is_variable T (fun_of F_is_variable) (He.glo_ok X G (c.t.d.fact 8 (f := .glo "is_variable") rfl)) d_is_text_of
  have d_is_number_word := ok_is_number_word T (fun_of F_is_number_word) (He.glo_ok X G (c.t.d.fact 9 (f := .glo "is_number_word") rfl)) d_is_text_of
  have d_is_word_text := ok_is_word_text T (fun_of F_is_word_text) (He.glo_ok X G (c.t.d.fact 10 (f := .glo "is_word_text") rfl)) d_is_text_of
  have d_is_value_word := ok_is_value_word T (fun_of F_is_value_word) (He.glo_ok X G (c.t.d.fact 11 (f := .glo "is_value_word") rfl)) d_is_word_text
  have d_word_kind_by := ok_word_kind_by T (fun_of F_word_kind_by) (He.glo_ok X G (c.t.d.fact 12 (f := .glo "word_kind_by") rfl)) d_is_name d_is_variable d_is_number_word d_is_value_word
  have d_word_kind := ok_word_kind T (fun_of F_word_kind) (He.glo_ok X G (c.t.d.fact 13 (f := .glo "word_kind") rfl)) d_check_text d_word_kind_by
  have d_value_by := ok_value_by T (fun_of F_value_by) (He.glo_ok X G (c.t.d.fact 14 (f := .glo "value_by") rfl)) 
  have d_value_of := ok_value_of T (fun_of F_value_of) (He.glo_ok X G (c.t.d.fact 15 (f := .glo "value_of") rfl)) d_word_kind_by d_value_by
  have d_is_whole := ok_is_whole T (fun_of F_is_whole) (He.glo_ok X G (c.t.d.fact 16 (f := .glo "is_whole") rfl)) 
  have d_is_number := ok_is_number T (fun_of F_is_number) (He.glo_ok X G (c.t.d.fact 17 (f := .glo "is_number") rfl)) d_is_whole
  have d_is_value := ok_is_value T (fun_of F_is_value) (He.glo_ok X G (c.t.d.fact 18 (f := .glo "is_value") rfl)) d_is_number d_is_word_text
  have d_word_by := ok_word_by T (fun_of F_word_by) (He.glo_ok X G (c.t.d.fact 19 (f := .glo "word_by") rfl)) 
  have d_word_of := ok_word_of T (fun_of F_word_of) (He.glo_ok X G (c.t.d.fact 20 (f := .glo "word_of") rfl)) d_is_value d_word_by
  have d_term_text := ok_term_text T (fun_of F_term_text) (He.glo_ok X G (c.t.d.fact 21 (f := .glo "term_text") rfl)) d_word_by
  have d_listed := ok_listed T (fun_of F_listed) (He.glo_ok X G (c.t.d.fact 22 (f := .glo "listed") rfl)) 
  have d_text_of_fact := ok_text_of_fact T (fun_of F_text_of_fact) (He.glo_ok X G (c.t.d.fact 23 (f := .glo "text_of_fact") rfl)) d_word_by d_listed
  have d_text_of_atom := ok_text_of_atom T (fun_of F_text_of_atom) (He.glo_ok X G (c.t.d.fact 24 (f := .glo "text_of_atom") rfl)) d_term_text d_listed
  have d_text_of_literal := ok_text_of_literal T (fun_of F_text_of_literal) (He.glo_ok X G (c.t.d.fact 25 (f := .glo "text_of_literal") rfl)) d_term_text d_text_of_atom
  have d_text_of_body := ok_text_of_body T (fun_of F_text_of_body) (He.glo_ok X G (c.t.d.fact 26 (f := .glo "text_of_body") rfl)) d_text_of_literal
  have d_text_of_rule := ok_text_of_rule T (fun_of F_text_of_rule) (He.glo_ok X G (c.t.d.fact 27 (f := .glo "text_of_rule") rfl)) d_text_of_atom d_text_of_body
  have d_text_of_entry := ok_text_of_entry T (fun_of F_text_of_entry) (He.glo_ok X G (c.t.d.fact 28 (f := .glo "text_of_entry") rfl)) d_text_of_fact d_text_of_rule
  have d_is_tuple_of := ok_is_tuple_of T (fun_of F_is_tuple_of) (He.glo_ok X G (c.t.d.fact 29 (f := .glo "is_tuple_of") rfl)) 
  have d_is_term := ok_is_term T (fun_of F_is_term) (He.glo_ok X G (c.t.d.fact 30 (f := .glo "is_term") rfl)) d_is_tuple_of d_is_variable d_is_value
  have d_is_atom_tree := ok_is_atom_tree T (fun_of F_is_atom_tree) (He.glo_ok X G (c.t.d.fact 31 (f := .glo "is_atom_tree") rfl)) d_is_tuple_of d_is_name d_is_term
  have d_is_literal := ok_is_literal T (fun_of F_is_literal) (He.glo_ok X G (c.t.d.fact 32 (f := .glo "is_literal") rfl)) d_is_atom_tree d_is_term
  have d_is_body_tree := ok_is_body_tree T (fun_of F_is_body_tree) (He.glo_ok X G (c.t.d.fact 33 (f := .glo "is_body_tree") rfl)) d_is_literal
  have d_is_some_row := ok_is_some_row T (fun_of F_is_some_row) (He.glo_ok X G (c.t.d.fact 34 (f := .glo "is_some_row") rfl)) d_is_value
  have d_is_fact_tree := ok_is_fact_tree T (fun_of F_is_fact_tree) (He.glo_ok X G (c.t.d.fact 35 (f := .glo "is_fact_tree") rfl)) d_is_tuple_of d_is_name d_is_some_row
  have d_is_count := ok_is_count T (fun_of F_is_count) (He.glo_ok X G (c.t.d.fact 36 (f := .glo "is_count") rfl)) d_is_number
  have d_is_entry_tree := ok_is_entry_tree T (fun_of F_is_entry_tree) (He.glo_ok X G (c.t.d.fact 37 (f := .glo "is_entry_tree") rfl)) d_is_atom_tree d_is_body_tree d_is_fact_tree d_is_count
  have d_check_entry := ok_check_entry T (fun_of F_check_entry) (He.glo_ok X G (c.t.d.fact 38 (f := .glo "check_entry") rfl)) d_is_entry_tree
  have d_check_body := ok_check_body T (fun_of F_check_body) (He.glo_ok X G (c.t.d.fact 39 (f := .glo "check_body") rfl)) d_is_body_tree
  have d_options_behind := ok_options_behind T (fun_of F_options_behind) (He.glo_ok X G (c.t.d.fact 40 (f := .glo "options_behind") rfl)) 
  have d_options_of := ok_options_of T (fun_of F_options_of) (He.glo_ok X G (c.t.d.fact 41 (f := .glo "options_of") rfl)) d_options_behind
  have d_told_as := ok_told_as T (fun_of F_told_as) (He.glo_ok X G (c.t.d.fact 42 (f := .glo "told_as") rfl)) d_word_kind_by
  have d_walked := ok_walked T (fun_of F_walked) (He.glo_ok X G (c.t.d.fact 43 (f := .glo "walked") rfl)) d_options_of d_told_as
  have d_can_end := ok_can_end T (fun_of F_can_end) (He.glo_ok X G (c.t.d.fact 44 (f := .glo "can_end") rfl)) 
  have d_first_bad_by := ok_first_bad_by T (fun_of F_first_bad_by) (He.glo_ok X G (c.t.d.fact 45 (f := .glo "first_bad_by") rfl)) d_walked d_can_end
  have d_term_read := ok_term_read T (fun_of F_term_read) (He.glo_ok X G (c.t.d.fact 46 (f := .glo "term_read") rfl)) d_is_variable d_value_by
  have d_words_in_brackets := ok_words_in_brackets T (fun_of F_words_in_brackets) (He.glo_ok X G (c.t.d.fact 47 (f := .glo "words_in_brackets") rfl)) 
  have d_atom_read := ok_atom_read T (fun_of F_atom_read) (He.glo_ok X G (c.t.d.fact 48 (f := .glo "atom_read") rfl)) d_words_in_brackets d_term_read
  have d_fact_read := ok_fact_read T (fun_of F_fact_read) (He.glo_ok X G (c.t.d.fact 49 (f := .glo "fact_read") rfl)) d_words_in_brackets d_value_by
  have d_literal_read := ok_literal_read T (fun_of F_literal_read) (He.glo_ok X G (c.t.d.fact 50 (f := .glo "literal_read") rfl)) d_atom_read d_is_name d_term_read
  have d_first_bad := ok_first_bad T (fun_of F_first_bad) (He.glo_ok X G (c.t.d.fact 51 (f := .glo "first_bad") rfl)) d_check_line d_words_by d_first_bad_by
  have d_body_read := ok_body_read T (fun_of F_body_read) (He.glo_ok X G (c.t.d.fact 52 (f := .glo "body_read") rfl)) d_literal_read
  have d_entry_read := ok_entry_read T (fun_of F_entry_read) (He.glo_ok X G (c.t.d.fact 53 (f := .glo "entry_read") rfl)) d_atom_read d_body_read d_value_by d_fact_read
  have d_tree_by := ok_tree_by T (fun_of F_tree_by) (He.glo_ok X G (c.t.d.fact 54 (f := .glo "tree_by") rfl)) d_atom_read d_body_read d_entry_read
  have d_read_as := ok_read_as T (fun_of F_read_as) (He.glo_ok X G (c.t.d.fact 55 (f := .glo "read_as") rfl)) d_check_line d_words_by d_first_bad_by d_tree_by
  have d_read_entry := ok_read_entry T (fun_of F_read_entry) (He.glo_ok X G (c.t.d.fact 56 (f := .glo "read_entry") rfl)) d_read_as
  have d_read_body := ok_read_body T (fun_of F_read_body) (He.glo_ok X G (c.t.d.fact 57 (f := .glo "read_body") rfl)) d_read_as
  have d_entry_text := ok_entry_text T (fun_of F_entry_text) (He.glo_ok X G (c.t.d.fact 58 (f := .glo "entry_text") rfl)) d_check_entry d_text_of_entry
  have d_body_text := ok_body_text T (fun_of F_body_text) (He.glo_ok X G (c.t.d.fact 59 (f := .glo "body_text") rfl)) d_check_body d_text_of_body
  have d__law_is := ok__law_is T (fun_of F__law_is) (He.glo_ok X G (c.t.d.fact 60 (f := .glo "_law_is") rfl))  12
  have d__law_whole := ok__law_whole T (fun_of F__law_whole) (He.glo_ok X G (c.t.d.fact 61 (f := .glo "_law_whole") rfl)) 
  have d__law_keys := ok__law_keys T (fun_of F__law_keys) (He.glo_ok X G (c.t.d.fact 62 (f := .glo "_law_keys") rfl)) 
  have d__law_small := ok__law_small T (fun_of F__law_small) (He.glo_ok X G (c.t.d.fact 63 (f := .glo "_law_small") rfl)) 
  have d__law_is_name := ok__law_is_name T (fun_of F__law_is_name) (He.glo_ok X G (c.t.d.fact 64 (f := .glo "_law_is_name") rfl)) d__law_small d__law_keys
  have d__law_is_variable := ok__law_is_variable T (fun_of F__law_is_variable) (He.glo_ok X G (c.t.d.fact 65 (f := .glo "_law_is_variable") rfl)) 
  have d__law_is_value := ok__law_is_value T (fun_of F__law_is_value) (He.glo_ok X G (c.t.d.fact 66 (f := .glo "_law_is_value") rfl)) d__law_small d__law_whole
  have d__law_signs := ok__law_signs T (fun_of F__law_signs) (He.glo_ok X G (c.t.d.fact 67 (f := .glo "_law_signs") rfl)) 
  have d__law_of_number := ok__law_of_number T (fun_of F__law_of_number) (He.glo_ok X G (c.t.d.fact 68 (f := .glo "_law_of_number") rfl)) 
  have d__law_value := ok__law_value T (fun_of F__law_value) (He.glo_ok X G (c.t.d.fact 69 (f := .glo "_law_value") rfl)) d__law_is_value d__law_of_number
  have d__law_told_kind := ok__law_told_kind T (fun_of F__law_told_kind) (He.glo_ok X G (c.t.d.fact 70 (f := .glo "_law_told_kind") rfl)) d__law_keys d__law_is_name d__law_is_variable d__law_value
  have d__law_tried := ok__law_tried T (fun_of F__law_tried) (He.glo_ok X G (c.t.d.fact 71 (f := .glo "_law_tried") rfl)) d_read_entry d_entry_text d_read_body d_body_text
  have d__law_word_right := ok__law_word_right T (fun_of F__law_word_right) (He.glo_ok X G (c.t.d.fact 72 (f := .glo "_law_word_right") rfl)) d__law_value d__law_told_kind d_word_kind d__law_is d_value_of d_word_of d_is_line d_first_bad d__law_tried
  have d__law_line_right := ok__law_line_right T (fun_of F__law_line_right) (He.glo_ok X G (c.t.d.fact 73 (f := .glo "_law_line_right") rfl)) d__law_signs d_is_line d__law_is d_words_of d_first_bad
  have d__law_take := ok__law_take T (fun_of F__law_take) (He.glo_ok X G (c.t.d.fact 74 (f := .glo "_law_take") rfl)) 
  have d__law_pick := ok__law_pick T (fun_of F__law_pick) (He.glo_ok X G (c.t.d.fact 75 (f := .glo "_law_pick") rfl)) d__law_take
  have d__law_odd := ok__law_odd T (fun_of F__law_odd) (He.glo_ok X G (c.t.d.fact 76 (f := .glo "_law_odd") rfl)) d__law_take d__law_pick
  have d__law_drawn_word := ok__law_drawn_word T (fun_of F__law_drawn_word) (He.glo_ok X G (c.t.d.fact 77 (f := .glo "_law_drawn_word") rfl)) d__law_take d__law_pick d__law_keys
  have d__law_values_right := ok__law_values_right T (fun_of F__law_values_right) (He.glo_ok X G (c.t.d.fact 78 (f := .glo "_law_values_right") rfl)) d__law_pick d_word_of d__law_is d_word_kind d_value_of
  have d__law_right := ok__law_right T (fun_of F__law_right) (He.glo_ok X G (c.t.d.fact 79 (f := .glo "_law_right") rfl)) d__law_drawn_word d__law_word_right d__law_odd d__law_values_right d__law_line_right
  have d__law_well := ok__law_well T (fun_of F__law_well) (He.glo_ok X G (c.t.d.fact 80 (f := .glo "_law_well") rfl)) 
  exact ok_law T (fun_of F_law) (He.glo_ok X G (c.t.d.fact 81 (f := .glo "law") rfl)) d__law_keys d__law_word_right d__law_right d__law_well hRight
end
theorem endCX (w : World) (H : Hp) (s : Shared) (e : Value) (s' : Shared) (h : L2.CX topP w [] H s (fun _ _ _ => False) e s') : False := by
  obtain ⟨_, _, _, _, _, _, _, _, _, _, _, _, hE⟩ := h
  exact hE
end K2
open PySem PySem.W PySem.Calls PyProof.Rows
theorem PySem.Challenge.cw_layerlore_k02_whole_words_and_values_holds : PySem.Challenge.rw_layerlore_k02_whole_words_and_values.Holds := by
  w_on; o_law
  refine HandSHeadRun.head_any (r := OpenLaw.row PySem.Challenge.rw_layerlore_k02_whole_words_and_values) (q := view (OpenLaw.row PySem.Challenge.rw_layerlore_k02_whole_words_and_values).prog [135]) (H := K2.hkH) (ob := K2.obH) (M := 30000) (loose := K2.looseL) (d := HandSHeadRun.topDef (OpenLaw.row PySem.Challenge.rw_layerlore_k02_whole_words_and_values).prog 135) (kwd := []) K2.obH_eq
    (by kernel_rfl) (fun s => by kernel_rfl) K2.runH (by kernel_rfl) (by kernel_rfl) (by kernel_rfl) (by rfl) (by first | assumption | decide +kernel) (by decide +kernel) ⟨rfl, rfl, rfl, rfl, rfl, by decide +kernel⟩ ?hw ?hc
  case hw => w_witness2
  case hc =>
    refine DL.walk_ofC (l := PySem.Challenge.rw_layerlore_k02_whole_words_and_values) (n := 63) (k := 16) (x := "script") (CX := fun w => L2.CX K2.topP w) rfl (by decide) (by kernel_rfl) ⟨rfl, by decide, by decide⟩ ?F (fun w H s e s' h => K2.endCX w H s e s' h)
    intro w mg fa h Y G hmg0
    obtain ⟨K, KX, c⟩ := Y
    have hmg : mg ("law" : PySem.Str) = some (.ref fa) := by
      have e : (HandSHeadRun.topDef (OpenLaw.row PySem.Challenge.rw_layerlore_k02_whole_words_and_values).prog 135).name = ("law" : PySem.Str) := by kernel_rfl
      rw [← e]
      exact hmg0
    obtain ⟨fd, hb, hF⟩ := K2.factsH (w := w) KX G hmg c
    refine ⟨K, fd, _, KX, hb, fun H a ns hl _ hS => ⟨rfl, H, [.lst (ns.map DL.D.int)], Evl.Ex.refl H, .cons (.lst hS (K2.ints_dv H ns)) .nil, ?_⟩, hF⟩
    rw [K2.lawPlain ns]
    intro F' H' _ v hv
    cases hv
    rfl
