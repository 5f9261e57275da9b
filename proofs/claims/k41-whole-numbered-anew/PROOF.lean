import PyProof.Rows.All
import HandS.ForMost
import HandS.Walk
import HandS.IsInst
import HandS.Wide
import HandS.Zip
import HandS.Deep
import HandS.TupAny
import HandS.Defaults
import HandS.Evl
import PySem.Challenge.RW_onewhere_k41_whole_numbered_anew
import Wide.All
import OpenK.AllK
import Wide.FinOn
import KE.KStateDown
import HandS.Head0
import HandS.Head1
import HandS.Head2
import HandS.HeadEnd
import HandS.HeadHook1
import HandS.HeadHook2
import PySem.PyData
import KE.KDictZip
import KE.KItemsList
import KE.SortData
import HandS.Conv
import PyProof.EnumMake
import PyProof.Draws
import KE.GoesMore
import HandS.TupSets
import KE.KeyNested
import HandS.SetBool
import HandS.TupLe
/-! ## part Ow1 -/
set_option Elab.async false
set_option linter.all false
set_option maxRecDepth 100000
set_option maxHeartbeats 4000000
/-! Ow1: readings by data. A slot holds a datum (Cell.d) or a bare address (Cell.a); G is the part of the heap that stands still. -/
namespace Ow
open PySem PySem.Spec PyProof.Rows L2
open Evl (Ex Ex.refl Ex.trans Ex.new ex_rd ex_l ex_t fresh_back)
abbrev D := PyData
inductive Cell where
  | d (x : PyData)
  | a (p : Addr)
abbrev Rho := List (Option Cell)

/-- both parts grow: what is new in the one is new in the other -/
structure Gr (G H G2 H2 : Hp) : Prop where
  g : Ex G G2
  i : Ex G2 H2
  h : Ex H H2
  n : ∀ a o, H a = some o → G a = none → G2 a = none
theorem Gr.refl {G H : Hp} (e : Ex G H) : Gr G H G H := ⟨.refl _, e, .refl _, fun _ _ _ h => h⟩
theorem Gr.trans {G H G1 H1 G2 H2 : Hp} (a : Gr G H G1 H1) (b : Gr G1 H1 G2 H2) : Gr G H G2 H2 :=
  ⟨a.g.trans b.g, b.i, a.h.trans b.h, fun x o h g => b.n x o (a.h x o h) (a.n x o h g)⟩
section
variable {K : PySem.W.Frag} {G G' H H' : Hp}
mutual
theorem dp_ex (e : Ex G G') : ∀ {v : V} {d : PyData}, Dp K G v d → Dp K G' v d
  | _, _, .non => .non
  | _, _, .bl b => .bl b
  | _, _, .int i => .int i
  | _, _, .str x => .str x
  | _, _, .lst h a => .lst (ex_l e h) (dpa_ex e a)
  | _, _, .tup h a => .tup (ex_t e h) (dpa_ex e a)
theorem dpa_ex (e : Ex G G') : ∀ {vs : List V} {ds : List PyData}, DpAll K G vs ds → DpAll K G' vs ds
  | _, _, .nil => .nil
  | _, _, .cons h a => .cons (dp_ex e h) (dpa_ex e a)
end
theorem DpAll.len : ∀ {vs : List V} {ds : List PyData}, DpAll K G vs ds → vs.length = ds.length
  | _, _, .nil => rfl
  | _, _, .cons _ a => congrArg Nat.succ (DpAll.len a)
theorem DpAll.at {i : Nat} : ∀ {vs : List V} {ds : List PyData} {d : PyData}, DpAll K G vs ds → ds[i]? = some d → ∃ v, vs[i]? = some v ∧ Dp K G v d := by
  induction i with
  | zero =>
    intro vs ds d h e
    cases h with
    | nil => cases e
    | cons h a =>
      have q := Option.some.inj e
      subst q
      exact ⟨_, rfl, h⟩
  | succ i ih =>
    intro vs ds d h e
    cases h with
    | nil => cases e
    | cons h a => exact ih a e
theorem DpAll.atV {i : Nat} : ∀ {vs : List V} {ds : List PyData} {v : V}, DpAll K G vs ds → vs[i]? = some v → ∃ d, ds[i]? = some d ∧ Dp K G v d := by
  induction i with
  | zero =>
    intro vs ds d h e
    cases h with
    | nil => cases e
    | cons h a =>
      have q := Option.some.inj e
      subst q
      exact ⟨_, rfl, h⟩
  | succ i ih =>
    intro vs ds d h e
    cases h with
    | nil => cases e
    | cons h a => exact ih a e
theorem DpAll.app : ∀ {vs ws : List V} {ds es : List PyData}, DpAll K G vs ds → DpAll K G ws es → DpAll K G (vs ++ ws) (ds ++ es)
  | _, _, _, _, .nil, b => b
  | _, _, _, _, .cons h a, b => .cons h (DpAll.app a b)
theorem DpAll.drop : ∀ (n : Nat) {vs : List V} {ds : List PyData}, DpAll K G vs ds → DpAll K G (vs.drop n) (ds.drop n)
  | 0, _, _, a => a
  | _ + 1, _, _, .nil => .nil
  | n + 1, _, _, .cons _ a => DpAll.drop n a
theorem DpAll.take : ∀ (n : Nat) {vs : List V} {ds : List PyData}, DpAll K G vs ds → DpAll K G (vs.take n) (ds.take n)
  | 0, _, _, _ => .nil
  | _ + 1, _, _, .nil => .nil
  | n + 1, _, _, .cons h a => .cons h (DpAll.take n a)

/-! ### slots -/
def Fits (K : PySem.W.Frag) (G : Hp) (x : Option V) : Cell → Prop
  | .d d => ∃ v, x = some v ∧ Dp K G v d
  | .a p => x = some (.ref p)
structure Sls (K : PySem.W.Frag) (G : Hp) (σ : L2.St) (ρ : Rho) : Prop where
  len : σ.length = ρ.length
  fit : ∀ (i : Nat) (c : Cell), ρ[i]? = some (some c) → ∃ x : Option V, σ[i]? = some x ∧ Fits K G x c
theorem fits_ex {x : Option V} {c : Cell} (e : Ex G G') (h : Fits K G x c) : Fits K G' x c := by
  cases c with
  | d d =>
    obtain ⟨v, h1, h2⟩ := h
    exact ⟨v, h1, dp_ex e h2⟩
  | a p => exact h
theorem Sls.ex {σ : L2.St} {ρ : Rho} (e : Ex G G') (h : Sls K G σ ρ) : Sls K G' σ ρ :=
  ⟨h.len, fun i c q => let ⟨x, h1, h2⟩ := h.fit i c q; ⟨x, h1, fits_ex e h2⟩⟩
theorem Sls.dat {σ : L2.St} {ρ : Rho} {i : Nat} {d : PyData} (h : Sls K G σ ρ) (e : ρ[i]? = some (some (.d d))) : ∃ v, σ[i]? = some (some v) ∧ Dp K G v d := by
  obtain ⟨x, h1, v, h2, h3⟩ := h.fit i _ e
  subst h2
  exact ⟨v, h1, h3⟩
theorem Sls.adr {σ : L2.St} {ρ : Rho} {i : Nat} {p : Addr} (h : Sls K G σ ρ) (e : ρ[i]? = some (some (.a p))) : σ[i]? = some (some (.ref p)) := by
  obtain ⟨x, h1, h2⟩ := h.fit i _ e
  have h2 : x = some (.ref p) := h2
  subst h2
  exact h1
theorem Sls.setO {σ : L2.St} {ρ : Rho} {i : Nat} {x : Option V} {o : Option Cell} (h : Sls K G σ ρ) (f : ∀ c, o = some c → Fits K G x c) : Sls K G (σ.set i x) (ρ.set i o) := by
  refine ⟨by rw [List.length_set, List.length_set]; exact h.len, fun j c q => ?_⟩
  by_cases e : i = j
  · subst e
    by_cases hl : i < ρ.length
    · rw [List.getElem?_set_self hl] at q
      exact ⟨x, List.getElem?_set_self (by rw [h.len]; exact hl), f c (Option.some.inj q)⟩
    · rw [List.getElem?_eq_none (by rw [List.length_set]; omega)] at q
      cases q
  · rw [List.getElem?_set_ne e] at q
    rw [List.getElem?_set_ne e]
    exact h.fit j c q
theorem Sls.set {σ : L2.St} {ρ : Rho} {i : Nat} {v : V} {d : PyData} (h : Sls K G σ ρ) (q : Dp K G v d) : Sls K G (σ.set i (some v)) (ρ.set i (some (.d d))) :=
  h.setO fun c e => by
    have e := Option.some.inj e
    subst e
    exact ⟨v, rfl, q⟩
theorem Sls.setA {σ : L2.St} {ρ : Rho} {i : Nat} {p : Addr} (h : Sls K G σ ρ) : Sls K G (σ.set i (some (.ref p))) (ρ.set i (some (.a p))) :=
  h.setO fun c e => by
    have e := Option.some.inj e
    subst e
    rfl
theorem Sls.wip {σ : L2.St} {ρ : Rho} (h : Sls K G σ ρ) : ∀ vs : List Nat, Sls K G (wipe σ vs) (vs.foldr (fun v r => r.set v none) ρ)
  | [] => h
  | v :: vs => (Sls.wip h vs).setO fun c e => by cases e
abbrev wipR (ρ : Rho) (vs : List Nat) : Rho := vs.foldr (fun v r => r.set v none) ρ
theorem wipe_set {x : Option V} : ∀ {vs : List Nat} {σ : L2.St} {j : Nat}, j ∈ vs → wipe (σ.set j x) vs = wipe σ vs
  | [], _, _, h => by cases h
  | v :: vs, σ, j, h => by
    show (wipe (σ.set j x) vs).set v none = (wipe σ vs).set v none
    by_cases e : j ∈ vs
    · rw [wipe_set e]
    · have e2 : j = v := by
        rcases List.mem_cons.mp h with q | q
        · exact q
        · exact absurd q e
      subst e2
      have key : ∀ (ws : List Nat) (τ : L2.St), j ∉ ws → wipe (τ.set j x) ws = (wipe τ ws).set j x := by
        intro ws
        induction ws with
        | nil => intro τ _; rfl
        | cons w ws ih =>
          intro τ hw
          show (wipe (τ.set j x) ws).set w none = ((wipe τ ws).set w none).set j x
          rw [ih τ fun z => hw (List.mem_cons_of_mem _ z), List.set_comm _ _ (fun z => hw (by rw [z]; exact List.mem_cons_self))]
      rw [key vs σ e, List.set_set]
theorem wipe_wipe {vs : List Nat} {σ : L2.St} : ∀ {us : List Nat}, (∀ u ∈ us, u ∈ vs) → wipe (wipe σ us) vs = wipe σ vs
  | [], _ => rfl
  | u :: us, h => by
    show wipe ((wipe σ us).set u none) vs = wipe σ vs
    rw [wipe_set (h u List.mem_cons_self)]
    exact wipe_wipe fun w hw => h w (List.mem_cons_of_mem _ hw)

/-! ### what a reading gives, by data -/
def Dv (K : PySem.W.Frag) (te : TE) (ρ : Rho) (d : PyData) : Prop := ∀ (G : Hp) (σ : L2.St) (H : Hp), Ex G H → Sls K G σ ρ → ∀ Q : VK, (∀ v G2 H2, Gr G H G2 H2 → Dp K G2 v d → Q v H2) → te σ H Q
def Dt (K : PySem.W.Frag) (tt : TT) (ρ : Rho) (b : Bool) : Prop := ∀ (G : Hp) (σ : L2.St) (H : Hp), Ex G H → Sls K G σ ρ → ∀ Q : Bool → Hp → Prop, (∀ G2 H2, Gr G H G2 H2 → Q b H2) → tt σ H Q
def Da (K : PySem.W.Frag) (ta : TA) (ρ : Rho) (ds : List PyData) : Prop := ∀ (G : Hp) (σ : L2.St) (H : Hp), Ex G H → Sls K G σ ρ → ∀ Q : List V → Hp → Prop, (∀ vs G2 H2, Gr G H G2 H2 → DpAll K G2 vs ds → Q vs H2) → ta σ H Q
/-- an operation on two values; a call on values -/
def D2 (K : PySem.W.Frag) (r : R2) (d e f : PyData) : Prop := ∀ (G H : Hp) (x y : V), Ex G H → Dp K G x d → Dp K G y e → ∀ Q : VK, (∀ v G2 H2, Gr G H G2 H2 → Dp K G2 v f → Q v H2) → r x y H Q
def D1 (K : PySem.W.Frag) (r : V → Hp → VK → Prop) (d f : PyData) : Prop := ∀ (G H : Hp) (x : V), Ex G H → Dp K G x d → ∀ Q : VK, (∀ v G2 H2, Gr G H G2 H2 → Dp K G2 v f → Q v H2) → r x H Q
def Dc (K : PySem.W.Frag) (r : List V → Hp → VK → Prop) (ds : List PyData) (f : PyData) : Prop := ∀ (G H : Hp) (vs : List V), Ex G H → DpAll K G vs ds → ∀ Q : VK, (∀ v G2 H2, Gr G H G2 H2 → Dp K G2 v f → Q v H2) → r vs H Q
variable {ρ ρ1 ρ2 : Rho} {te ta tb tc : TE} {tt tu : TT} {d e f : PyData} {ds es : List PyData} {r r' : R2}
theorem dv_var {i : Nat} (h : ρ[i]? = some (some (.d d))) : Dv K (tVar i) ρ d := fun G σ H e E Q q => by
  obtain ⟨v, h1, h2⟩ := E.dat h
  exact ⟨v, h1, q v G H (.refl e) h2⟩
theorem dv_c {v : V} (h : ∀ G : Hp, Dp K G v d) : Dv K (tC v) ρ d := fun G σ H e E Q q => q v G H (.refl e) (h G)
theorem dv_int {i : Int} : Dv K (tC (.int i)) ρ (.int i) := dv_c fun _ => .int i
theorem dv_str {x : Str} : Dv K (tC (.str x)) ρ (.str x) := dv_c fun _ => .str x
theorem dv_bl {b : Bool} : Dv K (tC (.bl b)) ρ (.bool b) := dv_c fun _ => .bl b
theorem dv_non : Dv K (tC .non) ρ .none := dv_c fun _ => .non
theorem dv_is (h : Dv K te ρ d) (e : d = f) : Dv K te ρ f := e ▸ h
theorem dt_is {b c : Bool} (h : Dt K tt ρ b) (e : b = c) : Dt K tt ρ c := e ▸ h
theorem dv_op (ha : Dv K ta ρ d) (hb : Dv K tb ρ e) (hr : D2 K r d e f) : Dv K (tOp r ta tb) ρ f := fun G σ H x E Q q =>
  ha G σ H x E _ fun v G1 H1 a1 d1 => hb G1 σ H1 a1.i (E.ex a1.g) _ fun w G2 H2 a2 d2 => hr G2 H2 v w a2.i (dp_ex a2.g d1) d2 Q fun z G3 H3 a3 d3 =>
    q z G3 H3 ((a1.trans a2).trans a3) d3
theorem dv_un {r : V → Hp → VK → Prop} (ha : Dv K ta ρ d) (hr : D1 K r d f) : Dv K (tUn r ta) ρ f := fun G σ H x E Q q =>
  ha G σ H x E _ fun v G1 H1 a1 d1 => hr G1 H1 v a1.i d1 Q fun z G3 H3 a3 d3 => q z G3 H3 (a1.trans a3) d3
theorem da_nil : Da K tNil ρ [] := fun G σ H x E Q q => q [] G H (.refl x) .nil
theorem da_cons {tr : TA} (ha : Dv K ta ρ d) (hr : Da K tr ρ ds) : Da K (tCons ta tr) ρ (d :: ds) := fun G σ H x E Q q =>
  ha G σ H x E _ fun v G1 H1 a1 d1 => hr G1 σ H1 a1.i (E.ex a1.g) _ fun vs G2 H2 a2 d2 => q (v :: vs) G2 H2 (a1.trans a2) (.cons (dp_ex a2.g d1) d2)
theorem dv_cb {t : TA} {r : List V → Hp → VK → Prop} (ha : Da K t ρ ds) (hr : Dc K r ds f) : Dv K (tCB r t) ρ f := fun G σ H x E Q q =>
  ha G σ H x E _ fun vs G1 H1 a1 d1 => hr G1 H1 vs a1.i d1 Q fun z G3 H3 a3 d3 => q z G3 H3 (a1.trans a3) d3
theorem new_up {p : Addr} {o : HO} (e : Ex G H) (h : H p = none) : Gr G H (upd G p o) (upd H p o) := by
  have hg : G p = none := fresh_back e h
  refine ⟨.new hg, fun a u q => ?_, .new h, fun a u q z => ?_⟩
  · by_cases z : a = p
    · subst z
      rw [upd_same] at q ⊢
      exact q
    · rw [upd_ne z] at q ⊢
      exact e a u q
  · rw [upd_ne (ne_of_none q h)]
    exact z
theorem small_sz {n : Nat} (h : n ≤ 100000) : n ≤ sizeLine := Nat.le_trans h (by decide)
theorem dv_tup {t : TA} (ha : Da K t ρ ds) (hl : ds.length ≤ 100000 := by decide) : Dv K (tTup t) ρ (.tuple ds) := fun G σ H x E Q q =>
  ha G σ H x E _ fun vs G1 H1 a1 d1 => ⟨small_sz (by rw [DpAll.len d1]; exact hl), fun p hp => by
    have n := new_up (o := .tup vs) a1.i hp
    exact q _ _ _ (a1.trans n) (.tup (.inl (.inl upd_same)) (dpa_ex n.g d1))⟩
theorem dv_lst {t : TA} (ha : Da K t ρ ds) (hl : ds.length ≤ 100000 := by decide) : Dv K (tLst t) ρ (.list ds) := fun G σ H x E Q q =>
  ha G σ H x E _ fun vs G1 H1 a1 d1 => ⟨small_sz (by rw [DpAll.len d1]; exact hl), fun p hp => by
    have n := new_up (o := .lst vs) a1.i hp
    exact q _ _ _ (a1.trans n) (.lst (.inl (.inl upd_same)) (dpa_ex n.g d1))⟩
/-! ### tests -/
theorem dt_test {b : Bool} (h : Dv K te ρ (.bool b)) : Dt K (tTest te) ρ b := fun G σ H x E Q q => h G σ H x E _ fun v G1 H1 a1 d1 => by
  cases d1
  exact ⟨b, rfl, q G1 H1 a1⟩
theorem dt_B {b : Bool} (h : Dv K te ρ (.bool b)) : Dt K (tB te) ρ b := fun G σ H x E Q q => h G σ H x E _ fun v G1 H1 a1 d1 => by
  cases d1
  exact ⟨b, rfl, q G1 H1 a1⟩
theorem dt_not {b : Bool} (h : Dt K tt ρ b) : Dt K (tNot tt) ρ (!b) := fun G σ H x E Q q => h G σ H x E _ fun G1 H1 a1 => q G1 H1 a1
theorem dt_andT {b : Bool} (h : Dt K tt ρ true) (k : Dt K tu ρ b) : Dt K (tAnd tt tu) ρ b := fun G σ H x E Q q => h G σ H x E _ fun G1 H1 a1 => by
  show tu σ H1 Q
  exact k G1 σ H1 a1.i (E.ex a1.g) Q fun G2 H2 a2 => q G2 H2 (a1.trans a2)
theorem dt_andF (h : Dt K tt ρ false) : Dt K (tAnd tt tu) ρ false := fun G σ H x E Q q => h G σ H x E _ fun G1 H1 a1 => by
  show Q false H1
  exact q G1 H1 a1
theorem dt_and {b c : Bool} (h : Dt K tt ρ b) (k : b = true → Dt K tu ρ c) : Dt K (tAnd tt tu) ρ (b && c) := by
  cases b with
  | true => exact dt_andT h (k rfl)
  | false => exact dt_andF h
theorem dt_orF {b : Bool} (h : Dt K tt ρ false) (k : Dt K tu ρ b) : Dt K (tOr tt tu) ρ b := fun G σ H x E Q q => h G σ H x E _ fun G1 H1 a1 => by
  show tu σ H1 Q
  exact k G1 σ H1 a1.i (E.ex a1.g) Q fun G2 H2 a2 => q G2 H2 (a1.trans a2)
theorem dt_orT (h : Dt K tt ρ true) : Dt K (tOr tt tu) ρ true := fun G σ H x E Q q => h G σ H x E _ fun G1 H1 a1 => by
  show Q true H1
  exact q G1 H1 a1
theorem dv_andT {b : PyData} (h : Dv K ta ρ (.bool true)) (k : Dv K tb ρ b) : Dv K (tAndV ta tb) ρ b := fun G σ H x E Q q => h G σ H x E _ fun v G1 H1 a1 d1 => by
  cases d1
  refine ⟨true, rfl, ?_⟩
  show tb σ H1 Q
  exact k G1 σ H1 a1.i (E.ex a1.g) Q fun z G2 H2 a2 d2 => q z G2 H2 (a1.trans a2) d2
theorem dv_andF (h : Dv K ta ρ (.bool false)) : Dv K (tAndV ta tb) ρ (.bool false) := fun G σ H x E Q q => h G σ H x E _ fun v G1 H1 a1 d1 => by
  cases d1
  refine ⟨false, rfl, ?_⟩
  show Q (.bl false) H1
  exact q _ G1 H1 a1 (.bl false)
theorem dv_and {b c : Bool} (h : Dv K ta ρ (.bool b)) (k : b = true → Dv K tb ρ (.bool c)) : Dv K (tAndV ta tb) ρ (.bool (b && c)) := by
  cases b with
  | true => exact dv_andT h (k rfl)
  | false => exact dv_andF h
theorem dv_notV {b : Bool} (h : Dv K ta ρ (.bool b)) : Dv K (tNotV ta) ρ (.bool (!b)) := fun G σ H x E Q q => h G σ H x E _ fun v G1 H1 a1 d1 => by
  cases d1
  exact ⟨b, rfl, q _ G1 H1 a1 (.bl _)⟩
theorem dv_if {b : Bool} (h : Dt K tt ρ b) (h1 : b = true → Dv K ta ρ d) (h2 : b = false → Dv K tb ρ d) : Dv K (tIf tt ta tb) ρ d := fun G σ H x E Q q => h G σ H x E _ fun G1 H1 a1 => by
  cases b with
  | true =>
    show ta σ H1 Q
    exact h1 rfl G1 σ H1 a1.i (E.ex a1.g) Q fun z G2 H2 a2 d2 => q z G2 H2 (a1.trans a2) d2
  | false =>
    show tb σ H1 Q
    exact h2 rfl G1 σ H1 a1.i (E.ex a1.g) Q fun z G2 H2 a2 d2 => q z G2 H2 (a1.trans a2) d2
/-- a op b op c -/
theorem dv_chain {b c : Bool} (ha : Dv K ta ρ d) (hb : Dv K tb ρ e) (hr : D2 K r d e (.bool b)) (hc : b = true → Dv K tc ρ f) (hr' : b = true → D2 K r' e f (.bool c)) : Dv K (tChain r r' ta tb tc) ρ (.bool (b && c)) := fun G σ H x E Q q =>
  ha G σ H x E _ fun v G1 H1 a1 d1 => hb G1 σ H1 a1.i (E.ex a1.g) _ fun w G2 H2 a2 d2 => hr G2 H2 v w a2.i (dp_ex a2.g d1) d2 _ fun z G3 H3 a3 d3 => by
    cases d3
    refine ⟨b, rfl, ?_⟩
    cases b with
    | true =>
      show tc σ H3 _
      exact hc rfl G3 σ H3 a3.i (E.ex ((a1.trans a2).trans a3).g) _ fun u G4 H4 a4 d4 => hr' rfl G4 H4 w u a4.i (dp_ex (a3.trans a4).g d2) d4 Q fun y G5 H5 a5 d5 =>
        q y G5 H5 ((((a1.trans a2).trans a3).trans a4).trans a5) d5
    | false =>
      show Q (.bl false) H3
      exact q _ G3 H3 ((a1.trans a2).trans a3) (.bl false)
/-! ### calls of defs: a promise by data -/
/-- called with data ds for which Pr ds d holds, the def gives d and leaves what stood -/
def spD (K : PySem.W.Frag) (n : Nat) (Pr : List PyData → PyData → Prop) : Sp := fun vs H Q _ => vs.length = n ∧ ∃ G ds d, Ex G H ∧ DpAll K G vs ds ∧ Pr ds d ∧ ∀ v G2 H2, Gr G H G2 H2 → Dp K G2 v d → Q v H2
theorem dv_call {n : Nat} {Pr : List PyData → PyData → Prop} {E0 : XK} {t : TA} (ha : Da K t ρ ds) (hp : Pr ds d) (hn : ds.length = n := by rfl) : Dv K (tCall (spD K n Pr) [] E0 t) ρ d := fun G σ H x E Q q =>
  ha G σ H x E _ fun vs G1 H1 a1 d1 => by
    show spD K n Pr (vs ++ []) H1 Q E0
    rw [List.append_nil]
    exact ⟨by rw [DpAll.len d1]; exact hn, G1, ds, d, a1.i, d1, hp, fun z G3 H3 a3 d3 => q z G3 H3 (a1.trans a3) d3⟩

/-! ### statements -/
def Ds (K : PySem.W.Frag) (ts : TS) (ρ ρ' : Rho) : Prop := ∀ (D : Ends) (G : Hp) (σ : L2.St) (H : Hp), Ex G H → Sls K G σ ρ → (∀ σ' G2 H2, Gr G H G2 H2 → Sls K G2 σ' ρ' → D.nx σ' H2) → ts D σ H
def Dr (K : PySem.W.Frag) (ts : TS) (ρ : Rho) (d : PyData) : Prop := ∀ (D : Ends) (G : Hp) (σ : L2.St) (H : Hp), Ex G H → Sls K G σ ρ → (∀ v G2 H2, Gr G H G2 H2 → Dp K G2 v d → D.rt v H2) → ts D σ H
variable {t u : TS}
theorem ds_next : Ds K tNext ρ ρ := fun D G σ H x E q => q σ G H (.refl x) E
theorem ds_asg {i : Nat} (h : Dv K te ρ d) : Ds K (tAsg te (gName i)) ρ (ρ.set i (some (.d d))) := fun D G σ H x E q =>
  h G σ H x E _ fun v G1 H1 a1 d1 => q _ G1 H1 a1 ((E.ex a1.g).set d1)
theorem ds_par {i j : Nat} (ha : Dv K ta ρ d) (hb : Dv K tb ρ e) : Ds K (tPar i j (tCons ta (tCons tb tNil))) ρ ((ρ.set i (some (.d d))).set j (some (.d e))) := fun D G σ H x E q =>
  da_cons ha (da_cons hb da_nil) G σ H x E _ fun vs G1 H1 a1 d1 => by
    cases d1 with
    | cons p1 p2 =>
      cases p2 with
      | cons p2 p3 =>
        cases p3
        exact ⟨_, _, rfl, q _ G1 H1 a1 (((E.ex a1.g).set p1).set p2)⟩
theorem ds_drop (h : Dv K te ρ d) : Ds K (tDrop te) ρ ρ := fun D G σ H x E q => h G σ H x E _ fun v G1 H1 a1 d1 => q σ G1 H1 a1 (E.ex a1.g)
theorem ds_seq (h : Ds K t ρ ρ1) (k : Ds K u ρ1 ρ2) : Ds K (tSeq t u) ρ ρ2 := fun D G σ H x E q =>
  h { D with nx := u D } G σ H x E fun σ' G1 H1 a1 E1 => k D G1 σ' H1 a1.i E1 fun σ2 G2 H2 a2 E2 => q σ2 G2 H2 (a1.trans a2) E2
theorem dr_seq (h : Ds K t ρ ρ1) (k : Dr K u ρ1 d) : Dr K (tSeq t u) ρ d := fun D G σ H x E q =>
  h { D with nx := u D } G σ H x E fun σ' G1 H1 a1 E1 => k D G1 σ' H1 a1.i E1 fun v G2 H2 a2 E2 => q v G2 H2 (a1.trans a2) E2
theorem dr_fst (h : Dr K t ρ d) : Dr K (tSeq t u) ρ d := fun D G σ H x E q => h { D with nx := u D } G σ H x E q
theorem dr_ret (h : Dv K te ρ d) : Dr K (tRet te) ρ d := fun D G σ H x E q => h G σ H x E _ q
theorem ds_ifT {c : TT} (h : Dt K c ρ true) (k : Ds K t ρ ρ1) : Ds K (tIfS c t u) ρ ρ1 := fun D G σ H x E q => h G σ H x E _ fun G1 H1 a1 => by
  show t D σ H1
  exact k D G1 σ H1 a1.i (E.ex a1.g) fun σ2 G2 H2 a2 E2 => q σ2 G2 H2 (a1.trans a2) E2
theorem ds_ifF {c : TT} (h : Dt K c ρ false) (k : Ds K u ρ ρ1) : Ds K (tIfS c t u) ρ ρ1 := fun D G σ H x E q => h G σ H x E _ fun G1 H1 a1 => by
  show u D σ H1
  exact k D G1 σ H1 a1.i (E.ex a1.g) fun σ2 G2 H2 a2 E2 => q σ2 G2 H2 (a1.trans a2) E2
theorem ds_ifN {c : TT} (h : Dt K c ρ false) : Ds K (tIfS c t tNext) ρ ρ := ds_ifF h ds_next
theorem dr_ifT {c : TT} (h : Dt K c ρ true) (k : Dr K t ρ d) : Dr K (tIfS c t u) ρ d := fun D G σ H x E q => h G σ H x E _ fun G1 H1 a1 => by
  show t D σ H1
  exact k D G1 σ H1 a1.i (E.ex a1.g) fun v G2 H2 a2 E2 => q v G2 H2 (a1.trans a2) E2
theorem dr_ifF {c : TT} (h : Dt K c ρ false) (k : Dr K u ρ d) : Dr K (tIfS c t u) ρ d := fun D G σ H x E q => h G σ H x E _ fun G1 H1 a1 => by
  show u D σ H1
  exact k D G1 σ H1 a1.i (E.ex a1.g) fun v G2 H2 a2 E2 => q v G2 H2 (a1.trans a2) E2
/-- while: P the slots behind so many turns -/
theorem ds_while {c : TT} (n : Nat) (P : Nat → Rho) (h0 : P 0 = ρ) (hn : P n = ρ1) (ht : ∀ i, i < n → Dt K c (P i) true) (hs : ∀ i, i < n → Ds K t (P i) (P (i + 1))) (he : Dt K c (P n) false) : Ds K (tWhile c t) ρ ρ1 := fun D G σ H x E q => by
  subst h0 hn
  refine ⟨fun m σ' H' => ∃ i G2, m = n - i ∧ i ≤ n ∧ Gr G H G2 H' ∧ Sls K G2 σ' (P i), ⟨n, 0, G, rfl, Nat.zero_le _, .refl x, E⟩, ?_⟩
  rintro m σ' H' ⟨i, G2, rfl, hi, a2, E2⟩
  by_cases h : i < n
  · refine ht i h G2 σ' H' a2.i E2 _ fun G3 H3 a3 => ?_
    rw [if_pos rfl]
    refine ⟨fun σ4 H4 => ∃ G4, Gr G H G4 H4 ∧ Sls K G4 σ4 (P (i + 1)), fun σ4 H4 ⟨G4, q1, q4⟩ => ⟨n - (i + 1), by omega, i + 1, G4, rfl, h, q1, q4⟩, ?_⟩
    exact hs i h _ G3 σ' H3 a3.i (E2.ex a3.g) fun σ4 G4 H4 a4 E4 => ⟨G4, (a2.trans a3).trans a4, E4⟩
  · have e : i = n := by omega
    subst e
    refine he G2 σ' H' a2.i E2 _ fun G3 H3 a3 => ?_
    rw [if_neg Bool.false_ne_true]
    exact q σ' G3 H3 (a2.trans a3) (E2.ex a3.g)
end
end Ow
/-! ## part Ow2 -/
set_option Elab.async false
set_option linter.all false
set_option maxRecDepth 100000
set_option maxHeartbeats 4000000
/-! Ow2: operations, built-ins, loops and comprehensions by data. -/
namespace Ow
open PySem PySem.Spec PyProof.Rows L2
open Evl (Ex Ex.refl Ex.trans Ex.new ex_rd ex_l ex_t fresh_back)
section
variable {K : PySem.W.Frag} {G G' H H' : Hp} {ρ ρ1 ρ2 : Rho} {te ta tb tc : TE} {tt tu : TT} {d e f : PyData} {ds es : List PyData} {r r' : R2}
theorem d2_0 {g : Int → Int → V} {i j : Int} (h : ∀ G : Hp, Dp K G (g i j) f) : D2 K (rI0 g) (.int i) (.int j) f := fun G H x y e hx hy Q q => by
  cases hx
  cases hy
  exact ⟨i, j, rfl, rfl, q _ G H (.refl e) (h G)⟩
theorem d2_C {C : Int → Int → Prop} {g : Int → Int → V} {i j : Int} (c : C i j) (h : ∀ G : Hp, Dp K G (g i j) f) : D2 K (rI C g) (.int i) (.int j) f := fun G H x y e hx hy Q q => by
  cases hx
  cases hy
  exact ⟨i, j, rfl, rfl, c, q _ G H (.refl e) (h G)⟩
theorem d2_add {i j : Int} : D2 K (rI0 fun i j => V.int (i + j)) (.int i) (.int j) (.int (i + j)) := d2_0 fun _ => .int _
theorem d2_sub {i j : Int} : D2 K (rI0 fun i j => V.int (i - j)) (.int i) (.int j) (.int (i - j)) := d2_0 fun _ => .int _
theorem d2_lt {i j : Int} : D2 K (rI0 fun i j => V.bl (decide (i < j))) (.int i) (.int j) (.bool (decide (i < j))) := d2_0 fun _ => .bl _
theorem d2_le {i j : Int} : D2 K (rI0 fun i j => V.bl (decide (i ≤ j))) (.int i) (.int j) (.bool (decide (i ≤ j))) := d2_0 fun _ => .bl _
theorem d2_gt {i j : Int} : D2 K (rI0 fun i j => V.bl (decide (j < i))) (.int i) (.int j) (.bool (decide (j < i))) := d2_0 fun _ => .bl _
theorem d2_ge {i j : Int} : D2 K (rI0 fun i j => V.bl (decide (j ≤ i))) (.int i) (.int j) (.bool (decide (j ≤ i))) := d2_0 fun _ => .bl _
theorem d2_mul {i j : Int} (c : CMulW i j) : D2 K (rI CMulW fun i j => V.int (i * j)) (.int i) (.int j) (.int (i * j)) := d2_C c fun _ => .int _
theorem d2_div {i j : Int} (c : CDivW i j) : D2 K (rI CDivW fun i j => V.int (i / j)) (.int i) (.int j) (.int (i / j)) := d2_C c fun _ => .int _
theorem d2_mod {i j : Int} (c : 0 < j) : D2 K (rI (fun _ j => 0 < j) fun i j => V.int (i % j)) (.int i) (.int j) (.int (i % j)) := d2_C (C := fun _ j => 0 < j) c fun _ => .int _
theorem d2_pow {i j : Int} (c : CPow i j) : D2 K (rI CPow fun i j => V.int (i ^ j.toNat)) (.int i) (.int j) (.int (i ^ j.toNat)) := d2_C c fun _ => .int _
theorem d2_eq (h1 : SeqAt.shaped d = true) (h2 : SeqAt.shaped e = true) : D2 K (rEqD K) d e (.bool (PyData.eqv d e)) := fun G H x y z hx hy Q q =>
  ⟨d, e, dp_ex z hx, dp_ex z hy, h1, h2, q _ G H (.refl z) (.bl _)⟩
theorem d2_ne (h1 : SeqAt.shaped d = true) (h2 : SeqAt.shaped e = true) : D2 K (rNeD K) d e (.bool (!PyData.eqv d e)) := fun G H x y z hx hy Q q =>
  ⟨d, e, dp_ex z hx, dp_ex z hy, h1, h2, q _ G H (.refl z) (.bl _)⟩
theorem d2_notIn (h1 : SeqAt.shaped d = true) (h2 : SeqAt.shaped (.list es) = true) : D2 K (rNotInD K) d (.list es) (.bool (!es.any fun z => PyData.eqv z d)) := fun G H x y z hx hy Q q =>
  ⟨d, es, dp_ex z hx, dp_ex z hy, h1, h2, q _ G H (.refl z) (.bl _)⟩
theorem d2_ixT {i : Int} (n : Nat) (hi : i = (n : Int)) (h : ds[n]? = some d) : D2 K (rIxT K) (.tuple ds) (.int i) d := fun G H x y e hx hy Q q => by
  subst hi
  cases hy
  cases hx with
  | tup hs ha =>
    obtain ⟨v, h1, h2⟩ := DpAll.at ha h
    exact ⟨_, _, _, v, rfl, rfl, ex_t e hs, atI_nat h1, q _ G H (.refl e) h2⟩
theorem d2_ixL {i : Int} (n : Nat) (hi : i = (n : Int)) (h : ds[n]? = some d) : D2 K (rIxL K) (.list ds) (.int i) d := fun G H x y e hx hy Q q => by
  subst hi
  cases hy
  cases hx with
  | lst hs ha =>
    obtain ⟨v, h1, h2⟩ := DpAll.at ha h
    exact ⟨_, _, _, v, rfl, rfl, ex_l e hs, atI_nat h1, q _ G H (.refl e) h2⟩
/-! ### built-ins -/
theorem dc_len {n : Nat} (hn : ds.length = n) : Dc K (fun xs H Q => ∃ p ys, xs = [V.ref p] ∧ (SqL K H p ys ∨ SqT K H p ys) ∧ Q (.int ys.length) H) [.tuple ds] (.int n) := fun G H vs e h Q q => by
  cases h with
  | cons h hr =>
    cases hr
    cases h with
    | tup hs ha =>
      refine ⟨_, _, rfl, .inr (ex_t e hs), ?_⟩
      rw [DpAll.len ha, hn]
      exact q _ G H (.refl e) (.int _)
theorem dc_lenL {n : Nat} (hn : ds.length = n) : Dc K (fun xs H Q => ∃ p ys, xs = [V.ref p] ∧ (SqL K H p ys ∨ SqT K H p ys) ∧ Q (.int ys.length) H) [.list ds] (.int n) := fun G H vs e h Q q => by
  cases h with
  | cons h hr =>
    cases hr
    cases h with
    | lst hs ha =>
      refine ⟨_, _, rfl, .inl (ex_l e hs), ?_⟩
      rw [DpAll.len ha, hn]
      exact q _ G H (.refl e) (.int _)
theorem dc_lenS {x : Str} (h : x.length ≤ 100000) : Dc K (fun xs H Q => ∃ z, xs = [V.str z] ∧ z.length ≤ sizeLine ∧ Q (.int z.length) H) [.str x] (.int x.length) := fun G H vs e h2 Q q => by
  cases h2 with
  | cons h3 hr =>
    cases hr
    cases h3
    exact ⟨x, rfl, small_sz h, q _ G H (.refl e) (.int _)⟩
theorem dc_abs {i : Int} : Dc K (fun xs H Q => ∃ i, xs = [V.int i] ∧ Q (.int (if i < 0 then -i else i)) H) [.int i] (.int (if i < 0 then -i else i)) := fun G H vs e h Q q => by
  cases h with
  | cons h hr =>
    cases hr
    cases h
    exact ⟨i, rfl, q _ G H (.refl e) (.int _)⟩
theorem dc_max {i j : Int} : Dc K (fun xs H Q => ∃ i j, xs = [V.int i, V.int j] ∧ Q (.int (if j > i then j else i)) H) [.int i, .int j] (.int (if j > i then j else i)) := fun G H vs e h Q q => by
  cases h with
  | cons h hr =>
    cases hr with
    | cons h' hr =>
      cases hr
      cases h
      cases h'
      exact ⟨i, j, rfl, q _ G H (.refl e) (.int _)⟩
theorem dc_min {i j : Int} : Dc K (fun xs H Q => ∃ i j, xs = [V.int i, V.int j] ∧ Q (.int (if j < i then j else i)) H) [.int i, .int j] (.int (if j < i then j else i)) := fun G H vs e h Q q => by
  cases h with
  | cons h hr =>
    cases hr with
    | cons h' hr =>
      cases hr
      cases h
      cases h'
      exact ⟨i, j, rfl, q _ G H (.refl e) (.int _)⟩
theorem bls_of : ∀ {bs : List Bool} {vs : List V}, DpAll K G vs (bs.map PyData.bool) → vs = bs.map V.bl
  | [], _, h => by
    cases h
    rfl
  | b :: bs, _, h => by
    cases h with
    | cons h hr =>
      cases h
      rw [bls_of hr]
      rfl
theorem dc_all {bs : List Bool} : Dc K (rAll K) [.list (bs.map PyData.bool)] (.bool (bs.all id)) := fun G H vs e h Q q => by
  cases h with
  | cons h hr =>
    cases hr
    cases h with
    | lst hs ha =>
      have z := bls_of ha
      subst z
      exact ⟨_, bs, rfl, ex_l e hs, q _ G H (.refl e) (.bl _)⟩
theorem dc_any {bs : List Bool} : Dc K (rAny K) [.list (bs.map PyData.bool)] (.bool (bs.any id)) := fun G H vs e h Q q => by
  cases h with
  | cons h hr =>
    cases hr
    cases h with
    | lst hs ha =>
      have z := bls_of ha
      subst z
      exact ⟨_, bs, rfl, ex_l e hs, q _ G H (.refl e) (.bl _)⟩
/-- the type of a datum -/
inductive TyD : PyData → String → Prop where
  | bl (b : Bool) : TyD (.bool b) "bool"
  | int (i : Int) : TyD (.int i) "int"
  | str (x : Str) : TyD (.str x) "str"
  | tup (ds : List PyData) : TyD (.tuple ds) "tuple"
theorem tyx_of {v : V} {T : String} (t : TyD d T) (e : Ex G H) (h : Dp K G v d) : TyX K H v (.type T) := by
  cases t with
  | bl b =>
    cases h
    exact .base (.bl _)
  | int i =>
    cases h
    exact .base (.int _)
  | str x =>
    cases h
    exact .base (.str _)
  | tup ds =>
    cases h with
    | tup hs ha =>
      rcases ex_t e hs with (q | ⟨o, q⟩) | ⟨o, its, n, q, hc, _⟩
      · exact .base (.tup q)
      · exact .fTuple q
      · exact .kTuple q hc
theorem dv_isi {T U : String} {b : Bool} (ha : Dv K ta ρ d) (ht : TyD d T) (hk : PySem.W.kitOne K (.type T) (.type U) = some b) : Dv K (tCB (rIsi K) (tCons ta (tCons (tC (.ty U)) tNil))) ρ (.bool b) := fun G σ H x E Q q =>
  ha G σ H x E _ fun v G1 H1 a1 d1 => ⟨v, .ty U, .type T, .type U, b, rfl, .ty U, tyx_of ht a1.i d1, hk, q _ G1 H1 a1 (.bl _)⟩
/-- list(x), tuple(x) -/
theorem dc_list : Dc K (fun xs H Q => ∃ p ys, xs = [V.ref p] ∧ (SqL K H p ys ∨ SqT K H p ys) ∧ ∀ l, H l = none → Q (.ref l) (upd H l (.lst ys))) [.list ds] (.list ds) := fun G H vs e h Q q => by
  cases h with
  | cons h hr =>
    cases hr
    cases h with
    | lst hs ha =>
      rename_i xs
      refine ⟨_, _, rfl, .inl (ex_l e hs), fun l hl => ?_⟩
      have n := new_up (o := .lst xs) e hl
      exact q _ _ _ n (.lst (.inl (.inl upd_same)) (dpa_ex n.g ha))
theorem dc_tuple : Dc K (fun xs H Q => ∃ p ys, xs = [V.ref p] ∧ ((SqL K H p ys ∧ ∀ l, H l = none → Q (.ref l) (upd H l (.tup ys))) ∨ (SqT K H p ys ∧ Q (.ref p) H))) [.list ds] (.tuple ds) := fun G H vs e h Q q => by
  cases h with
  | cons h hr =>
    cases hr
    cases h with
    | lst hs ha =>
      rename_i xs
      refine ⟨_, _, rfl, .inl ⟨ex_l e hs, fun l hl => ?_⟩⟩
      have n := new_up (o := .tup xs) e hl
      exact q _ _ _ n (.tup (.inl (.inl upd_same)) (dpa_ex n.g ha))
/-- t + u -/
theorem d2_catT (h1 : ds ≠ []) (hl : ds.length + es.length ≤ 100000) : D2 K (rCatT K) (.tuple ds) (.tuple es) (.tuple (ds ++ es)) := fun G H x y e hx hy Q q => by
  cases hx with
  | tup hs ha =>
    cases hy with
    | tup hs2 ha2 =>
      rename_i a xs b ys
      refine ⟨a, b, xs, ys, rfl, rfl, ex_t e hs, ex_t e hs2, fun z => h1 ?_, small_sz (by rw [DpAll.len ha, DpAll.len ha2]; exact hl), fun z => ?_, fun z p hp => ?_⟩
      · subst z
        cases ha
        rfl
      · subst z
        cases ha2
        rw [List.append_nil] at q
        exact q _ G H (.refl e) (.tup hs ha)
      · have n := new_up (o := .tup (xs ++ ys)) e hp
        exact q _ _ _ n (.tup (.inl (.inl upd_same)) (dpa_ex n.g (DpAll.app ha ha2)))
/-- t[n:], a tuple -/
theorem cutV_drop (xs : List V) (n : Nat) : cutV xs (some (n : Int)) none = xs.drop n := by
  unfold cutV
  rw [HT.sIx_nat, HT.sIx_none]
  by_cases h : n ≤ xs.length
  · rw [Nat.min_eq_left h, List.take_of_length_le]
    rw [List.length_drop]
    exact Nat.le_refl _
  · rw [Nat.min_eq_right (by omega), List.drop_eq_nil_of_le (Nat.le_refl _), List.take_nil, List.drop_eq_nil_of_le (by omega)]
theorem dv_slT {ti : TE} {i : Int} (n : Nat) (hi : i = (n : Int)) (ha : Dv K ta ρ (.tuple ds)) (hb : Dv K ti ρ (.int i)) : Dv K (tSl (rSlA K) ta (tPart ti) tNoPart) ρ (.tuple (ds.drop n)) := fun G σ H x E Q q =>
  ha G σ H x E _ fun v G1 H1 a1 d1 => hb G1 σ H1 a1.i (E.ex a1.g) _ fun w G2 H2 a2 d2 => by
    subst hi
    cases d2
    refine ⟨(n : Int), rfl, ?_⟩
    cases d1 with
    | tup hs ha =>
      rename_i a xs
      refine ⟨a, xs, rfl, ex_t (a2.g.trans a2.i) hs, fun z => ?_, fun z p hp => ?_⟩
      · have z1 := z.1
        rw [HT.sIx_nat] at z1
        have z2 : xs.drop n = xs := by
          by_cases h0 : n = 0
          · subst h0
            rfl
          · have h1 : xs.length = 0 := by omega
            rw [List.eq_nil_of_length_eq_zero h1]
            exact List.drop_nil
        have z3 : ds.drop n = ds := by
          by_cases h0 : n = 0
          · subst h0
            rfl
          · have h1 : ds.length = 0 := by
              rw [← DpAll.len ha]
              omega
            rw [List.eq_nil_of_length_eq_zero h1]
            exact List.drop_nil
        rw [z3] at q
        exact q _ G2 H2 (a1.trans a2) (.tup (ex_t a2.g hs) (dpa_ex a2.g ha))
      · rw [cutV_drop] at *
        have nn := new_up (o := .tup (xs.drop n)) a2.i hp
        exact q _ _ _ ((a1.trans a2).trans nn) (.tup (.inl (.inl upd_same)) (dpa_ex (a2.trans nn).g (DpAll.drop n ha)))
/-! ### targets -/
/-- x stored by the target t: the slots afterwards -/
def Dg (K : PySem.W.Frag) (t : TG) (d : PyData) (ρ ρ' : Rho) : Prop := ∀ (G H : Hp) (σ : L2.St) (v : V), Ex G H → Sls K G σ ρ → Dp K G v d → ∀ Q : L2.St → Hp → Prop, (∀ σ' G2 H2, Gr G H G2 H2 → Sls K G2 σ' ρ' → Q σ' H2) → t v σ H Q
def Dgs (K : PySem.W.Frag) (t : TGs) (ds : List PyData) (ρ ρ' : Rho) : Prop := ∀ (G H : Hp) (σ : L2.St) (vs : List V), Ex G H → Sls K G σ ρ → DpAll K G vs ds → ∀ Q : L2.St → Hp → Prop, (∀ σ', Sls K G σ' ρ' → Q σ' H) → t vs σ H Q
theorem dg_name {i : Nat} : Dg K (gName i) d ρ (ρ.set i (some (.d d))) := fun G H σ v e E h Q q => q _ G H (.refl e) (E.set h)
theorem dgs_nil : Dgs K gNil [] ρ ρ := fun G H σ vs e E h Q q => by
  cases h
  exact ⟨rfl, q σ E⟩
theorem dgs_cons {i : Nat} {u : TGs} (h2 : Dgs K u ds (ρ.set i (some (.d d))) ρ1) : Dgs K (gCons (gName i) u) (d :: ds) ρ ρ1 := fun G H σ vs e E h Q q => by
  cases h with
  | cons h hr => exact ⟨_, _, rfl, h2 G H _ _ e (E.set h) hr Q q⟩
theorem dg_tup {n : Nat} {t : TGs} (h : Dgs K t ds ρ ρ1) (hn : ds.length = n := by rfl) : Dg K (gTup K n t) (.tuple ds) ρ ρ1 := fun G H σ v e E hv Q q => by
  cases hv with
  | tup hs ha => exact ⟨_, _, rfl, ex_t e hs, (DpAll.len ha).trans hn, h G H σ _ e E ha Q fun σ' E' => q σ' G H (.refl e) E'⟩
theorem ds_asgG {g : TG} (h : Dv K te ρ d) (hg : Dg K g d ρ ρ1) : Ds K (tAsg te g) ρ ρ1 := fun D G σ H x E q =>
  h G σ H x E _ fun v G1 H1 a1 d1 => hg G1 H1 σ v a1.i (E.ex a1.g) d1 _ fun σ' G2 H2 a2 E2 => q σ' G2 H2 (a1.trans a2) E2
end
end Ow
/-! ## part Ow3 -/
set_option Elab.async false
set_option linter.all false
set_option maxRecDepth 100000
set_option maxHeartbeats 4000000
/-! Ow3: walks, loops, comprehensions by data. -/
namespace Ow
open PySem PySem.Spec PyProof.Rows L2
open Evl (Ex Ex.refl Ex.trans Ex.new ex_rd ex_l ex_t fresh_back)
section
variable {K : PySem.W.Frag} {G G' H H' : Hp} {ρ ρ1 ρ2 : Rho} {te ta tb tc : TE} {tt tu : TT} {d e f : PyData} {ds es xs ys : List PyData} {wi : TI} {g : TG} {t u : TS}
/-- at turn i it gives the i-th of xs -/
def YD (K : PySem.W.Frag) (G : Hp) (xs : List PyData) : Nat → Hp → V → Hp → Prop := fun i H v H' => ∀ G1, Ex G G1 → Ex G1 H → ∃ G2 d, Gr G1 H G2 H' ∧ xs[i]? = some d ∧ Dp K G2 v d
/-- what is walked are the data xs -/
def Dw (K : PySem.W.Frag) (wi : TI) (ρ : Rho) (xs : List PyData) : Prop := ∀ (G : Hp) (σ : L2.St) (H : Hp), Ex G H → Sls K G σ ρ → ∀ R : It → Hp → Prop, (∀ J G1 H1, Gr G H G1 H1 → Walk J xs.length (fun H' => Ex G1 H') (YD K G1 xs) → R J H1) → wi σ H R
theorem dpa_get {vs : List V} {i : Nat} {v : V} (h : DpAll K G vs ds) (e : vs[i]? = some v) : ∃ d, ds[i]? = some d ∧ Dp K G v d := DpAll.atV h e
theorem dw_list (h : Dv K te ρ (.list xs)) : Dw K (iList K te) ρ xs := fun G σ H x E R q => h G σ H x E _ fun v G1 H1 a1 d1 => by
  cases d1 with
  | lst hs ha =>
    rename_i a vs
    refine ⟨a, rfl, ⟨vs, ex_l a1.i hs⟩, q _ G1 H1 a1 ?_⟩
    have w := (walk_list (K := K) (a := a) (xs := vs)).mono (G' := fun H' => Ex G1 H') (Y' := YD K G1 xs) (fun H' z => ex_l z hs) (fun i H' y H'' hi z hy G2 e1 e2 => by
      obtain ⟨rfl, hy⟩ := hy
      obtain ⟨d, h1, h2⟩ := dpa_get ha hy
      exact ⟨G2, d, .refl e2, h1, dp_ex e1 h2⟩)
    rw [DpAll.len ha] at w
    exact w
theorem dw_tup (h : Dv K te ρ (.tuple xs)) : Dw K (iTup K te) ρ xs := fun G σ H x E R q => h G σ H x E _ fun v G1 H1 a1 d1 => by
  cases d1 with
  | tup hs ha =>
    rename_i a vs
    refine ⟨a, rfl, ⟨vs, ex_t a1.i hs⟩, q _ G1 H1 a1 ?_⟩
    have w := (walk_tup (K := K) (a := a) (xs := vs)).mono (G' := fun H' => Ex G1 H') (Y' := YD K G1 xs) (fun H' z => ex_t z hs) (fun i H' y H'' hi z hy G2 e1 e2 => by
      obtain ⟨rfl, hy⟩ := hy
      obtain ⟨d, h1, h2⟩ := dpa_get ha hy
      exact ⟨G2, d, .refl e2, h1, dp_ex e1 h2⟩)
    rw [DpAll.len ha] at w
    exact w
/-- a text, sign by sign -/
def signs (x : Str) : List PyData := x.cps.toList.map fun c => .str ⟨#[c]⟩
theorem dw_str {x : Str} (h : Dv K te ρ (.str x)) : Dw K (iStr te) ρ (signs x) := fun G σ H z E R q => h G σ H z E _ fun v G1 H1 a1 d1 => by
  cases d1
  refine ⟨x, rfl, q _ G1 H1 a1 ?_⟩
  have w := (walk_str (z := x)).mono (G' := fun H' => Ex G1 H') (Y' := YD K G1 (signs x)) (fun H' z => trivial) (fun i H' y H'' hi z hy G2 e1 e2 => by
    obtain ⟨rfl, c, h1, rfl⟩ := hy
    refine ⟨G2, .str ⟨#[c]⟩, .refl e2, ?_, .str _⟩
    unfold signs
    rw [List.getElem?_map, Array.getElem?_toList, h1]
    rfl)
  have e : (signs x).length = x.cps.size := by
    unfold signs
    rw [List.length_map, Array.length_toList]
  rw [e]
  exact w
/-- range(lo, hi, c) -/
def intsD (lo c : Int) (n : Nat) : List PyData := (List.range n).map fun i => .int (lo + (i : Nat) * c)
theorem intsD_at {lo c : Int} {n i : Nat} (h : i < n) : (intsD lo c n)[i]? = some (.int (lo + (i : Nat) * c)) := by
  unfold intsD
  rw [List.getElem?_map, List.getElem?_range h]
  rfl
theorem intsD_len {lo c : Int} {n : Nat} : (intsD lo c n).length = n := by
  unfold intsD
  rw [List.length_map, List.length_range]
theorem dw_range3 {lo hi c : Int} {n : Nat} {ta : TA} (h : Da K ta ρ [.int lo, .int hi, .int c]) (hc : RgC lo hi c n) : Dw K (iRng3 ta) ρ (intsD lo c n) := fun G σ H z E R q => h G σ H z E _ fun vs G1 H1 a1 d1 => by
  cases d1 with
  | cons p1 d1 =>
    cases d1 with
    | cons p2 d1 =>
      cases d1 with
      | cons p3 d1 =>
        cases d1
        cases p1
        cases p2
        cases p3
        refine ⟨lo, hi, c, n, rfl, hc, q _ G1 H1 a1 ?_⟩
        have w := (walk_rangeC (lo := lo) (c := c) (n := n)).mono (G' := fun H' => Ex G1 H') (Y' := YD K G1 (intsD lo c n)) (fun H' z => trivial) (fun i H' y H'' hi z hy G2 e1 e2 => by
          obtain ⟨rfl, rfl⟩ := hy
          exact ⟨G2, _, .refl e2, intsD_at hi, .int _⟩)
        rw [intsD_len]
        exact w
/-- zip of two tuples -/
theorem walk_zipT {a b : Addr} {vs us : List V} {n : Nat} (hn : n = min vs.length us.length) : Walk (RZ.ItzT K a b) n (fun H => SqT K H a vs ∧ SqT K H b us) (YPair (fun i => vs[i]?) (fun i => us[i]?)) := by
  subst hn
  refine ⟨fun i _ hi q => ?_, fun _ q => ⟨vs, us, q.1, q.2, by omega⟩, fun i H v H' _ q y => ?_⟩
  · have h1 : i < vs.length := by omega
    have h2 : i < us.length := by omega
    exact ⟨vs, us, vs[i], us[i], q.1, q.2, List.getElem?_eq_getElem h1, List.getElem?_eq_getElem h2⟩
  · obtain ⟨T, x, z, h1, h2, h3, h4, h5⟩ := y
    exact ⟨T, x, z, h1, h2, h3, h4 vs q.1, h5 us q.2⟩
def pairs (xs ys : List PyData) : List PyData := (xs.zip ys).map fun p => .tuple [p.1, p.2]
theorem pairs_at {i : Nat} (h1 : xs[i]? = some d) (h2 : ys[i]? = some e) : (pairs xs ys)[i]? = some (.tuple [d, e]) := by
  unfold pairs
  rw [List.getElem?_map]
  have z : (xs.zip ys)[i]? = some (d, e) := by
    rw [List.getElem?_zip_eq_some]
    exact ⟨h1, h2⟩
  rw [z]
  rfl
theorem pairs_len : (pairs xs ys).length = min xs.length ys.length := by
  unfold pairs
  rw [List.length_map, List.length_zip]
theorem dw_zip {ta : TA} (h : Da K ta ρ [.tuple xs, .tuple ys]) : Dw K (RZ.iZipA K ta) ρ (pairs xs ys) := fun G σ H z E R q => h G σ H z E _ fun ws G1 H1 a1 d1 => by
  cases d1 with
  | cons p1 d1 =>
    cases d1 with
    | cons p2 d1 =>
      cases d1
      cases p1 with
      | tup hs ha =>
        cases p2 with
        | tup hs2 ha2 =>
          rename_i a vs b us
          refine ⟨a, b, vs, us, rfl, .inr ⟨ex_t a1.i hs, ex_t a1.i hs2, q _ G1 H1 a1 ?_⟩⟩
          rw [pairs_len, ← DpAll.len ha, ← DpAll.len ha2]
          refine (walk_zipT (K := K) (a := a) (b := b) (vs := vs) (us := us) rfl).mono (fun H' z => ⟨ex_t z hs, ex_t z hs2⟩) fun i H' y H'' hi z hy G2 e1 e2 => ?_
          obtain ⟨T, x, w, rfl, hT, rfl, h1, h2⟩ := hy
          obtain ⟨d, k1, k2⟩ := dpa_get ha h1
          obtain ⟨e, l1, l2⟩ := dpa_get ha2 h2
          have n := new_up (o := .tup [x, w]) e2 hT
          exact ⟨_, _, n, pairs_at k1 l1, .tup (.inl (.inl upd_same)) (.cons (dp_ex (e1.trans n.g) k2) (.cons (dp_ex (e1.trans n.g) l2) .nil))⟩
/-- enumerate of a list -/
def nums (xs : List PyData) : List PyData := pairs (intsD 0 1 xs.length) xs
theorem nums_at {i : Nat} (h : xs[i]? = some d) : (nums xs)[i]? = some (.tuple [.int (i : Nat), d]) := by
  have z := intsD_at (lo := 0) (c := 1) (List.getElem?_eq_some_iff.mp h).1
  rw [Int.mul_one, Int.zero_add] at z
  exact pairs_at z h
theorem nums_len : (nums xs).length = xs.length := by
  unfold nums
  rw [pairs_len, intsD_len, Nat.min_self]
theorem dw_enum {ta : TA} (h : Da K ta ρ [.list xs]) : Dw K (iEnum K ta) ρ (nums xs) := fun G σ H z E R q => h G σ H z E _ fun ws G1 H1 a1 d1 => by
  cases d1 with
  | cons p1 d1 =>
    cases d1
    cases p1 with
    | lst hs ha =>
      rename_i a vs
      refine ⟨a, vs, rfl, ex_l a1.i hs, q _ G1 H1 a1 ?_⟩
      rw [nums_len, ← DpAll.len ha]
      refine (walk_enum (K := K) (a := a) (xs := vs)).mono (fun H' z => ex_l z hs) fun i H' y H'' hi z hy G2 e1 e2 => ?_
      obtain ⟨T, x, w, rfl, hT, rfl, h1, h2⟩ := hy
      obtain ⟨d, k1, k2⟩ := dpa_get ha h2
      have h1 := Option.some.inj h1
      subst h1
      have n := new_up (o := .tup [.int (i : Nat), w]) e2 hT
      exact ⟨_, _, n, nums_at k1, .tup (.inl (.inl upd_same)) (.cons (.int _) (.cons (dp_ex (e1.trans n.g) k2) .nil))⟩
/-! ### loops -/
theorem ds_for (P : Nat → Rho) (hw : Dw K wi ρ xs) (h0 : P 0 = ρ) (hn : P xs.length = ρ1) (hs : ∀ i x, xs[i]? = some x → ∃ ρ', Dg K g x (P i) ρ' ∧ Ds K t ρ' (P (i + 1))) : Ds K (tFor wi g t) ρ ρ1 := fun D G σ H z E q => by
  subst h0 hn
  refine hw G σ H z E _ fun J G1 H1 a1 w => ?_
  refine for_it w (fun i σ' H' => ∃ G2, Gr G1 H1 G2 H' ∧ Sls K G2 σ' (P i)) ⟨G1, .refl a1.i, E.ex a1.g⟩ (fun i σ' H' _ ⟨G2, p1, p2⟩ => p1.g.trans p1.i) (fun i x σ' H' H'' hi ⟨G2, p1, p4⟩ y => ?_) fun σ' H' ⟨G2, p1, p4⟩ => q σ' G2 H' (a1.trans p1) p4
  obtain ⟨G3, d, e1, hd, hv⟩ := y G2 p1.g p1.i
  obtain ⟨ρ', g1, g2⟩ := hs i d hd
  refine g1 G3 H'' σ' x e1.i (p4.ex e1.g) hv _ fun σ2 G4 H4 f1 E4 => ?_
  exact g2 _ G4 σ2 H4 f1.i E4 fun σ3 G5 H5 k1 E5 => ⟨G5, ((p1.trans e1).trans f1).trans k1, E5⟩
/-- the k-th turn leaves by return, the turns ahead fall through -/
theorem dr_for (P : Nat → Rho) (k : Nat) (hw : Dw K wi ρ xs) (h0 : P 0 = ρ) (hk : k < xs.length) (hs : ∀ i x, i < k → xs[i]? = some x → ∃ ρ', Dg K g x (P i) ρ' ∧ Ds K t ρ' (P (i + 1))) (hr : ∀ x, xs[k]? = some x → ∃ ρ', Dg K g x (P k) ρ' ∧ Dr K t ρ' d) : Dr K (tFor wi g t) ρ d := fun D G σ H z E q => by
  subst h0
  refine hw G σ H z E _ fun J G1 H1 a1 w => ?_
  refine for_it w (fun i σ' H' => i ≤ k ∧ ∃ G2, Gr G1 H1 G2 H' ∧ Sls K G2 σ' (P i)) ⟨Nat.zero_le _, G1, .refl a1.i, E.ex a1.g⟩ (fun i σ' H' _ ⟨_, G2, p1, p2⟩ => p1.g.trans p1.i) (fun i x σ' H' H'' hi ⟨hik, G2, p1, p4⟩ y => ?_) fun σ' H' ⟨hik, _⟩ => absurd hik (by omega)
  obtain ⟨G3, y0, e1, hd, hv⟩ := y G2 p1.g p1.i
  by_cases hlt : i < k
  · obtain ⟨ρ', g1, g2⟩ := hs i y0 hlt hd
    refine g1 G3 H'' σ' x e1.i (p4.ex e1.g) hv _ fun σ2 G4 H4 f1 E4 => ?_
    exact g2 _ G4 σ2 H4 f1.i E4 fun σ3 G5 H5 k1 E5 => ⟨hlt, G5, ((p1.trans e1).trans f1).trans k1, E5⟩
  · have e0 : i = k := by omega
    subst e0
    obtain ⟨ρ', g1, g2⟩ := hr y0 hd
    refine g1 G3 H'' σ' x e1.i (p4.ex e1.g) hv _ fun σ2 G4 H4 f1 E4 => ?_
    exact g2 _ G4 σ2 H4 f1.i E4 fun v G5 H5 k1 D5 => q v G5 H5 ((((a1.trans p1).trans e1).trans f1).trans k1) D5
/-! ### comprehensions -/
/-- the target touches these slots alone -/
def Gw (g : TG) (vs : List Nat) : Prop := ∀ (v : V) (σ : L2.St) (H : Hp) (Q : L2.St → Hp → Prop), g v σ H Q → g v σ H fun σ2 H2 => wipe σ2 vs = wipe σ vs ∧ Q σ2 H2
def Gws (g : TGs) (vs : List Nat) : Prop := ∀ (xs : List V) (σ : L2.St) (H : Hp) (Q : L2.St → Hp → Prop), g xs σ H Q → g xs σ H fun σ2 H2 => wipe σ2 vs = wipe σ vs ∧ Q σ2 H2
theorem gw_name {i : Nat} {vs : List Nat} (h : i ∈ vs := by decide) : Gw (gName i) vs := fun v σ H Q q => ⟨wipe_set h, q⟩
theorem gws_nil {vs : List Nat} : Gws gNil vs := fun xs σ H Q ⟨e, q⟩ => ⟨e, rfl, q⟩
theorem gws_cons {i : Nat} {u : TGs} {vs : List Nat} (k : Gws u vs) (h : i ∈ vs := by decide) : Gws (gCons (gName i) u) vs := fun xs σ H Q ⟨v, r, e, q⟩ => ⟨v, r, e, by
  have z := k r (σ.set i (some v)) H Q q
  rw [wipe_set h] at z
  exact z⟩
theorem gw_tup {n : Nat} {t : TGs} {vs : List Nat} (h : Gws t vs) : Gw (gTup K n t) vs := fun v σ H Q ⟨a, xs, e, s, l, q⟩ => ⟨a, xs, e, s, l, h xs σ H Q q⟩
theorem dt_yes : Dt K tYes ρ true := fun G σ H x E Q q => q G H (.refl x)
/-- what a filter keeps of the first i -/
def kept (b : Nat → Bool) (y : Nat → PyData) (n : Nat) : List PyData := ((List.range n).filter b).map y
theorem kept_yes {b : Nat → Bool} {y : Nat → PyData} {n : Nat} (h : b n = true) : kept b y (n + 1) = kept b y n ++ [y n] := by
  unfold kept
  rw [List.range_succ, List.filter_append, List.map_append]
  congr 1
  rw [List.filter_cons, if_pos h] <;> rfl
theorem kept_no {b : Nat → Bool} {y : Nat → PyData} {n : Nat} (h : b n = false) : kept b y (n + 1) = kept b y n := by
  unfold kept
  rw [List.range_succ, List.filter_append, List.map_append, List.filter_cons, if_neg (by rw [h]; exact Bool.false_ne_true), List.filter_nil, List.map_nil, List.append_nil]
theorem kept_len (b : Nat → Bool) (y : Nat → PyData) (n : Nat) : (kept b y n).length ≤ n := by
  unfold kept
  rw [List.length_map]
  refine Nat.le_trans (List.length_filter_le _ _) ?_
  rw [List.length_range]
  exact Nat.le_refl _
theorem dv_lcN {vs : List Nat} (b : Nat → Bool) (y : Nat → PyData) (hw : Dw K wi ρ xs) (hg : Gw g vs) (hl : xs.length ≤ 100000) (hs : ∀ i x, xs[i]? = some x → ∃ ρ', Dg K g x (wipR ρ vs) ρ' ∧ Dt K tt ρ' (b i) ∧ (b i = true → Dv K te ρ' (y i))) :
    Dv K (tLc wi g tt te vs) ρ (.list (kept b y xs.length)) := fun G σ H z E Q q => by
  refine hw G σ H z E _ fun J G1 H1 a1 w => fun Dl hD => ?_
  -- G2: what stands, the list at Dl apart
  refine lc_it w (fun i H' => ∃ G2 acc, Gr G1 (upd H1 Dl (.lst [])) G2 (upd H' Dl (.lst [])) ∧ Ex G2 H' ∧ Ex H1 H' ∧ G2 Dl = none ∧ H' Dl = some (.lst acc) ∧ DpAll K G2 acc (kept b y i)) ⟨G1, [], ?_, ?_, .new hD, fresh_back a1.i hD, upd_same, .nil⟩ (fun i H' _ ⟨G2, acc, p1, p2, _⟩ => p1.g.trans p2) (fun i x H' H'' hi ⟨G2, acc, p1, p2, p3, p4, p5, p6⟩ yy => ?_) fun H' ⟨G2, acc, p1, p2, p3, p4, p5, p6⟩ => ?_
  · rw [upd_upd]
    exact .refl (a1.i.trans (.new hD))
  · exact a1.i.trans (.new hD)
  · obtain ⟨G3, d0, e1, hd, hv⟩ := yy G2 p1.g p2
    obtain ⟨ρ', g1, g2, g3⟩ := hs i d0 hd
    have up : ∀ {A B A2 B2 : Hp}, Gr A B A2 B2 → A Dl = none → B Dl = some (.lst acc) → Gr A (upd B Dl (.lst [])) A2 (upd B2 Dl (.lst [])) ∧ A2 Dl = none ∧ B2 Dl = some (.lst acc) := fun {A B A2 B2} k hA hB => by
      have n2 := k.n Dl _ hB hA
      refine ⟨⟨k.g, fun c o h => ?_, fun c o h => ?_, fun c o h hc => ?_⟩, n2, k.h _ _ hB⟩
      · rw [upd_ne (ne_of_none h n2)]
        exact k.i c o h
      · by_cases hc : c = Dl
        · subst hc
          rw [upd_same] at h ⊢
          exact h
        · rw [upd_ne hc] at h ⊢
          exact k.h c o h
      · by_cases hd : c = Dl
        · subst hd
          exact n2
        · rw [upd_ne hd] at h
          exact k.n c o h hc
    have ww := hg x (wipe σ vs) H''
    rw [wipe_wipe fun _ hu => hu] at ww
    refine ww _ (g1 G3 H'' _ x e1.i (((E.ex a1.g).wip vs).ex (p1.g.trans e1.g)) hv _ fun σ2 G4 H4 f1 E4 => ?_)
    refine g2 G4 σ2 H4 f1.i E4 _ fun G5 H5 k1 => ?_
    have all := (e1.trans f1).trans k1
    obtain ⟨u1, u2, u3⟩ := up all p4 p5
    cases hb : b i with
    | true =>
      rw [if_pos rfl]
      refine g3 hb G5 σ2 H5 k1.i (E4.ex k1.g) _ fun v G6 H6 l1 D6 => ?_
      have all2 := all.trans l1
      obtain ⟨w1, w2, w3⟩ := up all2 p4 p5
      refine ⟨acc, w3, ?_, G6, acc ++ [v], ?_, fun c o h => ?_, fun c o h => ?_, w2, upd_same, ?_⟩
      · rw [DpAll.len p6]
        exact Nat.lt_of_lt_of_le (Nat.lt_of_le_of_lt (kept_len b y i) (Nat.lt_of_lt_of_le hi hl)) (small_sz (Nat.le_refl _))
      · rw [upd_upd]
        exact p1.trans w1
      · rw [upd_ne (ne_of_none h w2)]
        exact all2.i c o h
      · have hc : c ≠ Dl := ne_of_none h hD
        rw [upd_ne hc]
        exact all2.h c o (p3 c o h)
      · rw [kept_yes hb]
        exact DpAll.app (dpa_ex all2.g p6) (.cons D6 .nil)
    | false =>
      rw [if_neg Bool.false_ne_true]
      refine ⟨G5, acc, p1.trans u1, all.i, fun c o h => all.h c o (p3 c o h), u2, u3, ?_⟩
      rw [kept_no hb]
      exact dpa_ex all.g p6
  · have hup : ∀ c o, upd G2 Dl (.lst acc) c = some o → H' c = some o := fun c o h => by
      by_cases hc : c = Dl
      · subst hc
        rw [upd_same] at h
        rw [p5]
        exact h
      · rw [upd_ne hc] at h
        exact p2 c o h
    refine q (.ref Dl) (upd G2 Dl (.lst acc)) H' (a1.trans ⟨p1.g.trans (.new p4), hup, p3, fun c o h hc => ?_⟩) (.lst (.inl (.inl upd_same)) (dpa_ex (.new p4) p6))
    have hne : c ≠ Dl := ne_of_none h hD
    rw [upd_ne hne]
    refine p1.n c o ?_ hc
    rw [upd_ne hne]
    exact h
theorem kept_all {b : Nat → Bool} {y : Nat → PyData} : ∀ {n : Nat}, (∀ i, i < n → b i = true) → kept b y n = (List.range n).map y
  | 0, _ => rfl
  | n + 1, h => by
    rw [kept_yes (h n (Nat.lt_succ_self n)), kept_all fun i hi => h i (Nat.lt_succ_of_lt hi), List.range_succ, List.map_append]
    rfl
/-- without a test: ys the elements -/
theorem dv_lc {vs : List Nat} (ys : List PyData) (hw : Dw K wi ρ xs) (hg : Gw g vs) (hl : xs.length ≤ 100000) (hy : ys.length = xs.length) (hs : ∀ (i : Nat) (x y : PyData), xs[i]? = some x → ys[i]? = some y → ∃ ρ', Dg K g x (wipR ρ vs) ρ' ∧ Dv K te ρ' y) :
    Dv K (tLc wi g tYes te vs) ρ (.list ys) := by
  have z := dv_lcN (te := te) (tt := tYes) (K := K) (fun _ => true) (fun i => ys.getD i .none) hw hg hl fun i x hx => by
    have hi : i < ys.length := by
      rw [hy]
      exact (List.getElem?_eq_some_iff.mp hx).1
    have e : ys[i]? = some ys[i] := List.getElem?_eq_getElem hi
    obtain ⟨ρ', h1, h2⟩ := hs i x _ hx e
    refine ⟨ρ', h1, dt_yes, fun _ => ?_⟩
    rw [List.getD_eq_getElem?_getD, e]
    exact h2
  have e : kept (fun _ => true) (fun i => ys.getD i .none) xs.length = ys := by
    rw [kept_all fun _ _ => rfl, ← hy]
    refine List.ext_getElem ?_ fun i h1 h2 => ?_
    · rw [List.length_map, List.length_range]
    · rw [List.getElem_map, List.getElem_range, List.getD_eq_getElem?_getD, List.getElem?_eq_getElem h2]
      rfl
  rw [e] at z
  exact z
theorem kept_filter {b : PyData → Bool} {f : PyData → PyData} : ∀ (xs : List PyData), kept (fun i => b (xs.getD i .none)) (fun i => f (xs.getD i .none)) xs.length = (xs.filter b).map f := by
  intro xs
  have key : ∀ n, n ≤ xs.length → kept (fun i => b (xs.getD i .none)) (fun i => f (xs.getD i .none)) n = ((xs.take n).filter b).map f := by
    intro n
    induction n with
    | zero => intro _; rfl
    | succ n ih =>
      intro h
      have ht : xs.take (n + 1) = xs.take n ++ [xs.getD n .none] := by
        rw [List.take_add_one, List.getD_eq_getElem?_getD, List.getElem?_eq_getElem (by omega)]
        rfl
      rw [ht, List.filter_append, List.map_append, ← ih (by omega)]
      cases hb : b (xs.getD n .none) with
      | true =>
        rw [kept_yes (by exact hb), List.filter_cons, if_pos hb] <;> rfl
      | false =>
        rw [kept_no (by exact hb), List.filter_cons, if_neg (by rw [hb]; exact Bool.false_ne_true), List.filter_nil, List.map_nil, List.append_nil]
  rw [key xs.length (Nat.le_refl _), List.take_length]
/-- with a test, by functions of the item -/
theorem dv_lcF {vs : List Nat} (b : PyData → Bool) (f : PyData → PyData) (hw : Dw K wi ρ xs) (hg : Gw g vs) (hl : xs.length ≤ 100000) (hs : ∀ x, x ∈ xs → ∃ ρ', Dg K g x (wipR ρ vs) ρ' ∧ Dt K tt ρ' (b x) ∧ (b x = true → Dv K te ρ' (f x))) :
    Dv K (tLc wi g tt te vs) ρ (.list ((xs.filter b).map f)) := by
  rw [← kept_filter xs]
  refine dv_lcN _ _ hw hg hl fun i x hx => ?_
  have e : xs.getD i .none = x := by
    rw [List.getD_eq_getElem?_getD, hx]
    rfl
  rw [e]
  exact hs x (List.mem_of_getElem? hx)
end
end Ow
/-! ## part Ow4 -/
set_option Elab.async false
set_option linter.all false
set_option maxRecDepth 100000
set_option maxHeartbeats 4000000
/-! Ow4: a def of the text, its promise by data. -/
namespace Ow
open PySem PySem.Spec PyProof.Rows L2
open Evl (Ex Ex.refl Ex.trans Ex.new ex_rd ex_l ex_t fresh_back)
def top (i : Nat) : Stmt := PySem.Challenge.pw_onewhere_k41_whole_numbered_anew.main.body.getD i (.Pass ⟨0, 0, 0, 0⟩)
/-- the def st stands at x -/
def Def (K : PySem.W.Frag) (mg : Str → Option Value) (x : Str) (st : Stmt) (dvs : List V) : Prop := ∃ f fd, FunD K x x (defArgs st) (defBody st) (defScope st) dvs [] f fd ∧ mg x = some (.ref f)
/-- what is called by x keeps the promise sp -/
def Has (P : Program) (w : World) (K : PySem.W.Frag) (mg : Str → Option Value) (base : Heap) (x : Str) (ps : List Str) (k : Nat) (sp : Sp) : Prop :=
  ∃ f fd, FnOk P w K mg base CX0 k f fd ps sp ∧ mg x = some (.ref f) ∧ PySem.W.keepIn K (.ref f) = true ∧ Binds K fd ps []
theorem pe_callH {X : Cx} {x : Str} {ps : List Str} {j k : Nat} {sp : Sp} {e : Expr} {es : List Expr} {t : TA} {p pos : Pos} (h : Has X.prog X.w X.K X.mg X.base x ps j sp) (hr : Room k X.A) (hjk : j ≤ k) (hg : Gl X x) (ha : PA X (e :: es) t) (hdb : (x == ("__debug__" : Str)) = false := by decide)
    (he : starEach (e :: es) X.env = (false, eval e X.env) :: starEach es X.env := by rfl) (hpl : (backTo pos (starEach es X.env)).any (·.1) = false := by rfl) : PE X (.Call (.Name x p) (e :: es) [] pos) (tCall sp [] E0 t) := by
  obtain ⟨f, fd, F, hm, hk, hb⟩ := h
  exact pe_call F (hr.mono hjk) hg hm hk hb .nil pass0 ha hdb he hpl
section
variable {P : Program} {w : World} {K : PySem.W.Frag} {mg : Str → Option Value} {base : Heap} {G : Hp}
def startR (N : List Str) (ds : List PyData) : Rho := ds.map (fun d => some (.d d)) ++ List.replicate (N.length - ds.length) none
theorem start_sls {N : List Str} : ∀ {vs : List V} {ds : List PyData}, DpAll K G vs ds → Sls K G (L2.start N vs) (startR N ds) := fun {vs ds} h => by
  have hl := DpAll.len h
  refine ⟨?_, fun i c e => ?_⟩
  · unfold L2.start startR
    rw [List.length_append, List.length_append, List.length_map, List.length_map, List.length_replicate, List.length_replicate, hl]
  · unfold startR at e
    unfold L2.start
    by_cases hi : i < ds.length
    · rw [List.getElem?_append_left (by rw [List.length_map]; exact hi), List.getElem?_map] at e
      rw [List.getElem?_append_left (by rw [List.length_map, hl]; exact hi), List.getElem?_map]
      rw [List.getElem?_eq_getElem hi] at e
      have e := Option.some.inj (Option.some.inj e)
      subst e
      obtain ⟨v, h1, h2⟩ := DpAll.at h (List.getElem?_eq_getElem hi)
      rw [h1]
      exact ⟨some v, rfl, v, rfl, h2⟩
    · rw [List.getElem?_append_right (by rw [List.length_map]; omega)] at e
      have hm := List.mem_of_getElem? e
      rw [List.mem_replicate] at hm
      exact absurd hm.2 (by intro z; cases z)
/-- THE RULE for a def that gives data for data -/
theorem ok_data {x qual : Str} {params : Arguments} {body : List Stmt} {scope : Scope} {dvs : List V} {f : Addr} {fd : FuncData} {N ps : List Str} {k : Nat} {Pr : List PyData → PyData → Prop} (F : FunD K x qual params body scope dvs [] f fd) (S : FnScope N ps scope)
    (h : ∀ (cdv : Value) (A : Around) (outer : List PySem.Env) (s : Shared) (H : Hp) (E : XK), Room k (A.deeper (envOfC qual scope s.heap.objs.size f cdv)) →
      ∃ t, PSs (cxOf CX0 P w K mg base N qual scope f cdv A outer s H E).nox body t ∧ ∀ ds d, Pr ds d → ds.length = ps.length → Dr K t (startR N ds) d ∨ (d = .none ∧ ∃ ρ', Ds K t (startR N ds) ρ')) : FnOk P w K mg base CX0 (k + 1) f fd ps (spD K ps.length Pr) := by
  refine FunD.ok F S (fun vs H Q E z => z.1) fun cdv A outer s H vs Q E hr z => ?_
  obtain ⟨t, h1, h2⟩ := h cdv A outer s H E hr
  refine ⟨t, PSs.nox h1, ?_⟩
  obtain ⟨hl, G, ds, d, e, a, p, q⟩ := z
  rcases h2 ds d p (by rw [← DpAll.len a]; exact hl) with h3 | ⟨rfl, ρ', h3⟩
  · exact h3 _ G _ H e (start_sls a) fun v G2 H2 g D => q v G2 H2 g D
  · exact h3 _ G _ H e (start_sls a) fun σ' G2 H2 g D => q .non G2 H2 g .non
theorem has_data {x : Str} {st : Stmt} {N ps : List Str} {k : Nat} {Pr : List PyData → PyData → Prop} (T : Def K mg x st []) (S : FnScope N ps (defScope st))
    (hb : ∀ (kV doc pm : Value) (an : Option Addr) (cdv ct : Value) (us : List Value), us.length = ps.length → bindArgs (PySem.W.fnOf x x (defArgs st) (defBody st) (defScope st) .none kV doc pm an cdv ct) ⟨us, []⟩ = pure (ps.zip us))
    (h : ∀ (f : Addr) (cdv : Value) (A : Around) (outer : List PySem.Env) (s : Shared) (H : Hp) (E : XK), Room k (A.deeper (envOfC x (defScope st) s.heap.objs.size f cdv)) →
      ∃ t, PSs (cxOf CX0 P w K mg base N x (defScope st) f cdv A outer s H E).nox (defBody st) t ∧ ∀ ds d, Pr ds d → ds.length = ps.length → Dr K t (startR N ds) d ∨ (d = .none ∧ ∃ ρ', Ds K t (startR N ds) ρ')) : Has P w K mg base x ps (k + 1) (spD K ps.length Pr) := by
  obtain ⟨f, fd, F, hm⟩ := T
  exact ⟨f, fd, ok_data F S (h f), hm, F.kp, F.bindsN hb⟩
end
end Ow
namespace Ow
open PySem PySem.Spec PyProof.Rows L2
section
variable {K : PySem.W.Frag} {ρ ρ1 ρ2 : Rho} {te ta tb : TE} {tt tu : TT} {d e : PyData} {ds : List PyData} {t u : TS} {b c : Bool}
theorem dt_or (h : Dt K tt ρ b) (k : b = false → Dt K tu ρ c) : Dt K (tOr tt tu) ρ (b || c) := by
  cases b with
  | true => exact dt_orT h
  | false => exact dt_orF h (k rfl)
/-- while, by a word I and a measure of a state of one's own -/
theorem ds_whileI {α : Type} (W : α → Rho) (I : α → Prop) (m : α → Nat) (x0 : α) (hx : I x0) (h0 : W x0 = ρ)
    (hs : ∀ x, I x → (Dt K tt (W x) true ∧ ∃ x', I x' ∧ m x' < m x ∧ Ds K t (W x) (W x')) ∨ (Dt K tt (W x) false ∧ W x = ρ1)) : Ds K (tWhile tt t) ρ ρ1 := fun D G σ H x E q => by
  subst h0
  refine ⟨fun k σ' H' => ∃ y G2, k = m y ∧ I y ∧ Gr G H G2 H' ∧ Sls K G2 σ' (W y), ⟨m x0, x0, G, rfl, hx, .refl x, E⟩, ?_⟩
  rintro k σ' H' ⟨y, G2, rfl, hy, a2, E2⟩
  rcases hs y hy with ⟨h1, y', i', lt, h2⟩ | ⟨h1, h2⟩
  · refine h1 G2 σ' H' a2.i E2 _ fun G3 H3 a3 => ?_
    rw [if_pos rfl]
    refine ⟨fun σ4 H4 => ∃ G4, Gr G H G4 H4 ∧ Sls K G4 σ4 (W y'), fun σ4 H4 ⟨G4, q1, q4⟩ => ⟨m y', lt, y', G4, rfl, i', q1, q4⟩, ?_⟩
    exact h2 _ G3 σ' H3 a3.i (E2.ex a3.g) fun σ4 G4 H4 a4 E4 => ⟨G4, (a2.trans a3).trans a4, E4⟩
  · refine h1 G2 σ' H' a2.i E2 _ fun G3 H3 a3 => ?_
    rw [if_neg Bool.false_ne_true]
    rw [h2] at E2
    exact q σ' G3 H3 (a2.trans a3) (E2.ex a3.g)
/-- an if whose test is known -/
theorem ds_ifB (h : Dt K tt ρ b) (e : b = false) : Ds K (tIfS tt t tNext) ρ ρ := ds_ifN (dt_is h e)
theorem dr_seqF (h : Dt K tt ρ b) (e : b = false) (k : Dr K u ρ d) : Dr K (tSeq (tIfS tt t tNext) u) ρ d := dr_seq (ds_ifB h e) k
end
end Ow
/-! ### what the module's names hold -/
namespace Ow
open PySem PySem.Spec PyProof.Rows L2
def SMALL : Str := "abcdefghijklmnopqrstuvwxyz"
structure Tx (K : PySem.W.Frag) (mg : Str → Option Value) where
  f_len : mg "len" = none
  f_isinstance : mg "isinstance" = none
  f_int : mg "int" = none
  f_bool : mg "bool" = none
  f_str : mg "str" = none
  f_tuple : mg "tuple" = none
  f_list : mg "list" = none
  f_abs : mg "abs" = none
  f_all : mg "all" = none
  f_any : mg "any" = none
  f_zip : mg "zip" = none
  f_range : mg "range" = none
  f_enumerate : mg "enumerate" = none
  f_sorted : mg "sorted" = none
  f_max : mg "max" = none
  f_min : mg "min" = none
  tSMALL : Tok
  k_SMALL : mg "SMALL" = some (.str SMALL tSMALL)
  tLAND : Tok
  k_LAND : mg "LAND" = some (.int 64 tLAND)
  tMC : Tok
  k_MOST_CROSSINGS : mg "MOST_CROSSINGS" = some (.int 10 tMC)
  tMR : Tok
  k_MOST_ROADS : mg "MOST_ROADS" = some (.int 14 tMR)
  tMM : Tok
  k_MOST_MIDDLE : mg "MOST_MIDDLE" = some (.int 4 tMM)
  tMW : Tok
  k_MOST_ROWS : mg "MOST_ROWS" = some (.int 12 tMW)
  tMN : Tok
  k_MOST_NUMBER : mg "MOST_NUMBER" = some (.int 999 tMN)
  nought : Addr
  k_NOUGHT : mg "NOUGHT" = some (.ref nought)
  s_NOUGHT : ∀ H : Hp, SqT K H nought [.int 0, .int 1]
end Ow
/-! ## part OwHead -/
set_option Elab.async false
set_option linter.all false
set_option maxRecDepth 100000
set_option maxHeartbeats 0
/-! OwHead: what the top leaves. -/
namespace Ow
open PySem PySem.Spec PyProof.Rows L2
def hd0 : He.DefD := ⟨("is_whole", none), "is_whole", "is_whole", defArgs (top 12), defBody (top 12), defScope (top 12), [], []⟩
def hd1 : He.DefD := ⟨("is_within", none), "is_within", "is_within", defArgs (top 13), defBody (top 13), defScope (top 13), [], []⟩
def hd2 : He.DefD := ⟨("is_word", none), "is_word", "is_word", defArgs (top 14), defBody (top 14), defScope (top 14), [], []⟩
def hd3 : He.DefD := ⟨("rises", none), "rises", "rises", defArgs (top 15), defBody (top 15), defScope (top 15), [], []⟩
def hd4 : He.DefD := ⟨("is_row", none), "is_row", "is_row", defArgs (top 16), defBody (top 16), defScope (top 16), [], []⟩
def hd5 : He.DefD := ⟨("common_of", none), "common_of", "common_of", defArgs (top 17), defBody (top 17), defScope (top 17), [], []⟩
def hd6 : He.DefD := ⟨("low", none), "low", "low", defArgs (top 18), defBody (top 18), defScope (top 18), [], []⟩
def hd7 : He.DefD := ⟨("is_fraction", none), "is_fraction", "is_fraction", defArgs (top 19), defBody (top 19), defScope (top 19), [], []⟩
def hd8 : He.DefD := ⟨("plus", none), "plus", "plus", defArgs (top 20), defBody (top 20), defScope (top 20), [], []⟩
def hd9 : He.DefD := ⟨("minus", none), "minus", "minus", defArgs (top 21), defBody (top 21), defScope (top 21), [], []⟩
def hd10 : He.DefD := ⟨("times", none), "times", "times", defArgs (top 22), defBody (top 22), defScope (top 22), [], []⟩
def hd11 : He.DefD := ⟨("over", none), "over", "over", defArgs (top 23), defBody (top 23), defScope (top 23), [], []⟩
def hd12 : He.DefD := ⟨("less", none), "less", "less", defArgs (top 24), defBody (top 24), defScope (top 24), [], []⟩
def hd13 : He.DefD := ⟨("amount", none), "amount", "amount", defArgs (top 25), defBody (top 25), defScope (top 25), [], []⟩
def hd14 : He.DefD := ⟨("middle", none), "middle", "middle", defArgs (top 26), defBody (top 26), defScope (top 26), [], []⟩
def hd15 : He.DefD := ⟨("is_point", none), "is_point", "is_point", defArgs (top 27), defBody (top 27), defScope (top 27), [], []⟩
def hd16 : He.DefD := ⟨("is_in_land", none), "is_in_land", "is_in_land", defArgs (top 28), defBody (top 28), defScope (top 28), [], []⟩
def hd17 : He.DefD := ⟨("is_day", none), "is_day", "is_day", defArgs (top 29), defBody (top 29), defScope (top 29), [], []⟩
def hd18 : He.DefD := ⟨("need_day", none), "need_day", "need_day", defArgs (top 30), defBody (top 30), defScope (top 30), [.int 0], []⟩
def hd19 : He.DefD := ⟨("steps", none), "steps", "steps", defArgs (top 31), defBody (top 31), defScope (top 31), [], []⟩
def hd20 : He.DefD := ⟨("streetwise_of", none), "streetwise_of", "streetwise_of", defArgs (top 32), defBody (top 32), defScope (top 32), [], []⟩
def hd21 : He.DefD := ⟨("are_land_points", none), "are_land_points", "are_land_points", defArgs (top 37), defBody (top 37), defScope (top 37), [], []⟩
def hd22 : He.DefD := ⟨("is_road", none), "is_road", "is_road", defArgs (top 38), defBody (top 38), defScope (top 38), [], []⟩
def hd23 : He.DefD := ⟨("is_web", none), "is_web", "is_web", defArgs (top 39), defBody (top 39), defScope (top 39), [], []⟩
def hd24 : He.DefD := ⟨("need_web", none), "need_web", "need_web", defArgs (top 40), defBody (top 40), defScope (top 40), [], []⟩
def hd25 : He.DefD := ⟨("corners_of", none), "corners_of", "corners_of", defArgs (top 41), defBody (top 41), defScope (top 41), [], []⟩
def hd26 : He.DefD := ⟨("pieces_of", none), "pieces_of", "pieces_of", defArgs (top 42), defBody (top 42), defScope (top 42), [], []⟩
def hd27 : He.DefD := ⟨("long_by", none), "long_by", "long_by", defArgs (top 43), defBody (top 43), defScope (top 43), [], []⟩
def hd28 : He.DefD := ⟨("is_road_number", none), "is_road_number", "is_road_number", defArgs (top 44), defBody (top 44), defScope (top 44), [], []⟩
def hd29 : He.DefD := ⟨("is_spot", none), "is_spot", "is_spot", defArgs (top 45), defBody (top 45), defScope (top 45), [], []⟩
def hd30 : He.DefD := ⟨("need_spot", none), "need_spot", "need_spot", defArgs (top 46), defBody (top 46), defScope (top 46), [], []⟩
def hd31 : He.DefD := ⟨("is_number_row", none), "is_number_row", "is_number_row", defArgs (top 50), defBody (top 50), defScope (top 50), [], []⟩
def hd32 : He.DefD := ⟨("has_number", none), "has_number", "has_number", defArgs (top 51), defBody (top 51), defScope (top 51), [], []⟩
def hd33 : He.DefD := ⟨("is_of_day", none), "is_of_day", "is_of_day", defArgs (top 52), defBody (top 52), defScope (top 52), [], []⟩
def hd34 : He.DefD := ⟨("are_at_odds", none), "are_at_odds", "are_at_odds", defArgs (top 53), defBody (top 53), defScope (top 53), [], []⟩
def hd35 : He.DefD := ⟨("are_rows_by", none), "are_rows_by", "are_rows_by", defArgs (top 54), defBody (top 54), defScope (top 54), [], []⟩
def hd36 : He.DefD := ⟨("need_rows", none), "need_rows", "need_rows", defArgs (top 55), defBody (top 55), defScope (top 55), [], []⟩
def hd37 : He.DefD := ⟨("are_rows", none), "are_rows", "are_rows", defArgs (top 56), defBody (top 56), defScope (top 56), [], []⟩
def hd38 : He.DefD := ⟨("many_of", none), "many_of", "many_of", defArgs (top 57), defBody (top 57), defScope (top 57), [], []⟩
def hd39 : He.DefD := ⟨("stretch_of", none), "stretch_of", "stretch_of", defArgs (top 58), defBody (top 58), defScope (top 58), [], []⟩
def hd40 : He.DefD := ⟨("find_by", none), "find_by", "find_by", defArgs (top 59), defBody (top 59), defScope (top 59), [], []⟩
def hd41 : He.DefD := ⟨("number_by", none), "number_by", "number_by", defArgs (top 60), defBody (top 60), defScope (top 60), [], []⟩
def hd42 : He.DefD := ⟨("numbers_by", none), "numbers_by", "numbers_by", defArgs (top 61), defBody (top 61), defScope (top 61), [], []⟩
def hd43 : He.DefD := ⟨("need_address", none), "need_address", "need_address", defArgs (top 62), defBody (top 62), defScope (top 62), [], []⟩
def hd44 : He.DefD := ⟨("find", none), "find", "find", defArgs (top 63), defBody (top 63), defScope (top 63), [], []⟩
def hd45 : He.DefD := ⟨("numbers_at", none), "numbers_at", "numbers_at", defArgs (top 64), defBody (top 64), defScope (top 64), [], []⟩
def hd46 : He.DefD := ⟨("later", none), "later", "later", defArgs (top 65), defBody (top 65), defScope (top 65), [], []⟩
def hd47 : He.DefD := ⟨("_law_cell_at", none), "_law_cell_at", "_law_cell_at", defArgs (top 67), defBody (top 67), defScope (top 67), [], []⟩
def hd48 : He.DefD := ⟨("_law_state", none), "_law_state", "_law_state", defArgs (top 68), defBody (top 68), defScope (top 68), [], []⟩
def hd49 : He.DefD := ⟨("_law_choice", none), "_law_choice", "_law_choice", defArgs (top 69), defBody (top 69), defScope (top 69), [], []⟩
def hd50 : He.DefD := ⟨("_law_low", none), "_law_low", "_law_low", defArgs (top 70), defBody (top 70), defScope (top 70), [], []⟩
def hd51 : He.DefD := ⟨("_law_plus", none), "_law_plus", "_law_plus", defArgs (top 71), defBody (top 71), defScope (top 71), [], []⟩
def hd52 : He.DefD := ⟨("_law_times", none), "_law_times", "_law_times", defArgs (top 72), defBody (top 72), defScope (top 72), [], []⟩
def hd53 : He.DefD := ⟨("_law_land_number", none), "_law_land_number", "_law_land_number", defArgs (top 73), defBody (top 73), defScope (top 73), [], []⟩
def hd54 : He.DefD := ⟨("_law_land_point", none), "_law_land_point", "_law_land_point", defArgs (top 74), defBody (top 74), defScope (top 74), [], []⟩
def hd55 : He.DefD := ⟨("_law_street_web", none), "_law_street_web", "_law_street_web", defArgs (top 75), defBody (top 75), defScope (top 75), [], []⟩
def hd56 : He.DefD := ⟨("_law_numbers", none), "_law_numbers", "_law_numbers", defArgs (top 76), defBody (top 76), defScope (top 76), [], []⟩
def hd57 : He.DefD := ⟨("_law_three_rows", none), "_law_three_rows", "_law_three_rows", defArgs (top 77), defBody (top 77), defScope (top 77), [], []⟩
def hd58 : He.DefD := ⟨("_law_elm", none), "_law_elm", "_law_elm", defArgs (top 78), defBody (top 78), defScope (top 78), [], []⟩
def hd59 : He.DefD := ⟨("_law_leads_right", none), "_law_leads_right", "_law_leads_right", defArgs (top 79), defBody (top 79), defScope (top 79), [], []⟩
def hd60 : He.DefD := ⟨("law", none), "law", "law", defArgs (top 80), defBody (top 80), defScope (top 80), [], []⟩
def hdefs1 : List He.DefD := [hd0, hd1, hd2, hd3, hd4, hd5, hd6, hd7, hd8, hd9, hd10, hd11, hd12, hd13, hd14, hd15, hd16, hd17, hd18, hd19, hd20, hd21, hd22, hd23, hd24, hd25, hd26, hd27, hd28, hd29]
def hdefs2 : List He.DefD := [hd30, hd31, hd32, hd33, hd34, hd35, hd36, hd37, hd38, hd39, hd40, hd41, hd42, hd43, hd44, hd45, hd46, hd47, hd48, hd49, hd50, hd51, hd52, hd53, hd54, hd55, hd56, hd57, hd58, hd59, hd60]
def hdefs : List He.DefD := hdefs1 ++ hdefs2
def hfa1 : List He.Fa := [.glo "is_whole", .glo "is_within", .glo "is_word", .glo "rises", .glo "is_row", .glo "common_of", .glo "low", .glo "is_fraction", .glo "plus", .glo "minus", .glo "times", .glo "over", .glo "less", .glo "amount", .glo "middle", .glo "is_point", .glo "is_in_land", .glo "is_day", .glo "need_day", .glo "steps", .glo "streetwise_of", .glo "are_land_points", .glo "is_road", .glo "is_web", .glo "need_web", .glo "corners_of", .glo "pieces_of", .glo "long_by", .glo "is_road_number", .glo "is_spot"]
def hfa2 : List He.Fa := [.glo "need_spot", .glo "is_number_row", .glo "has_number", .glo "is_of_day", .glo "are_at_odds", .glo "are_rows_by", .glo "need_rows", .glo "are_rows", .glo "many_of", .glo "stretch_of", .glo "find_by", .glo "number_by", .glo "numbers_by", .glo "need_address", .glo "find", .glo "numbers_at", .glo "later", .glo "_law_cell_at", .glo "_law_state", .glo "_law_choice", .glo "_law_low", .glo "_law_plus", .glo "_law_times", .glo "_law_land_number", .glo "_law_land_point", .glo "_law_street_web", .glo "_law_numbers", .glo "_law_three_rows", .glo "_law_elm", .glo "_law_leads_right", .glo "law"]
def hfa3 : List He.Fa := [.free "len", .free "isinstance", .free "int", .free "bool", .free "str", .free "tuple", .free "list", .free "abs", .free "all", .free "any", .free "zip", .free "range", .free "enumerate", .free "sorted", .free "max", .free "min", .int "LAND" 64, .int "MOST_CROSSINGS" 10, .int "MOST_ROADS" 14, .int "MOST_MIDDLE" 4, .int "MOST_ROWS" 12, .int "MOST_NUMBER" 999, .str "SMALL" SMALL, .glo "NOUGHT"]
def hfa : List He.Fa := hfa1 ++ (hfa2 ++ hfa3)
abbrev AlN : Type := Bool × He.AlD
def obsN (K : PySem.W.Frag) : AlN := (He.tupB K "NOUGHT" [.int 0, .int 1], He.obsD hfa hdefs K)
def valN : AlN := (true, He.valD hdefs)
def obsNG (g : Addr → Option Obj) : AlN := obsN (He.frG g (He.asD g 4))
def hookN : PySem.W.Hook where
  α := AlN
  obs := fun s => obsNG s.heap.get?
  val := fun _ => valN
  says := fun _ h => ∃ K : PySem.W.Frag, K.In h ∧ obsN K = valN
  of := fun _ _ e => ⟨_, He.frG_in, e⟩
  keeps := fun _ _ _ ⟨K, hK, c⟩ k => ⟨K, PySem.W.Frag.In.keeps hK k, c⟩
abbrev hrow : PySem.W.OpenRow := PySem.W.OpenLaw.row PySem.Challenge.rw_onewhere_k41_whole_numbered_anew
def obN (s : PySem.W.SharedT) : AlN := obsNG (HandSHeadRun.getT s)
theorem obN_eq (s : PySem.W.SharedT) : obN s = hookN.obs s.abs := by
  have e : HandSHeadRun.getT s = s.abs.heap.get? := funext (HandSHeadRun.getT_eq s)
  show obsNG (HandSHeadRun.getT s) = obsNG s.abs.heap.get?
  rw [e]
def hloose0 : List PySem.Str := ["WhereError", "NoWeb", "NoSpot", "NoRows", "NoStreet", "NoNumber", "NoDay", "SMALL", "NOUGHT", "LAND", "is_whole", "is_within", "is_word", "rises", "is_row", "common_of"]
def hloose1 : List PySem.Str := ["low", "is_fraction", "plus", "minus", "times", "over", "less", "amount", "middle", "is_point", "is_in_land", "is_day", "need_day", "steps", "streetwise_of", "MOST_CROSSINGS"]
def hloose2 : List PySem.Str := ["MOST_ROADS", "MOST_MIDDLE", "are_land_points", "is_road", "is_web", "need_web", "corners_of", "pieces_of", "long_by", "is_road_number", "is_spot", "need_spot", "MOST_ROWS", "MOST_NUMBER", "is_number_row", "has_number"]
def hloose3 : List PySem.Str := ["is_of_day", "are_at_odds", "are_rows_by", "need_rows", "are_rows", "many_of", "stretch_of", "find_by", "number_by", "numbers_by", "need_address", "find", "numbers_at", "later", "_law_cell_at", "_law_state"]
def hloose4 : List PySem.Str := ["_law_choice", "_law_low", "_law_plus", "_law_times", "_law_land_number", "_law_land_point", "_law_street_web", "_law_numbers", "_law_three_rows", "_law_elm", "_law_leads_right"]
def hloose : List PySem.Str := hloose0 ++ (hloose1 ++ (hloose2 ++ (hloose3 ++ (hloose4))))
theorem hrun (w : World) : HandSHeadRun.RunEq hrow (PySem.W.view hrow.prog [80]) hookN obN 4000 hloose w := by
  intro os
  kernel_rfl
end Ow
/-! ## part OwMath1 -/
set_option linter.all false
/-! OwMath1: fractions are rationals. Plain mathematics. -/
namespace Ow
open PySem
def encR (q : Rat) : PyData := .tuple [.int q.num, .int (q.den : Int)]
def encP (p : Rat × Rat) : PyData := .tuple [encR p.1, encR p.2]
/-- both numbers below 2 ^ n -/
def Sm (n : Nat) (q : Rat) : Prop := q.num.natAbs < 2 ^ n ∧ q.den < 2 ^ n
theorem Sm.mono {n m : Nat} {q : Rat} (h : Sm n q) (e : n ≤ m) : Sm m q :=
  ⟨Nat.lt_of_lt_of_le h.1 (Nat.pow_le_pow_right (by decide) e), Nat.lt_of_lt_of_le h.2 (Nat.pow_le_pow_right (by decide) e)⟩
theorem divInt_pos {t b : Int} (hb : 0 < b) : Rat.divInt t b = Rat.normalize t b.toNat (by omega) := by
  obtain ⟨n, rfl⟩ : ∃ n : Nat, b = (n : Int) := ⟨b.toNat, by omega⟩
  have hn : n ≠ 0 := by omega
  show mkRat t n = _
  unfold mkRat
  rw [dif_neg hn]
  rfl
theorem low_num {t b : Int} (hb : 0 < b) : (Rat.divInt t b).num = t / (t.natAbs.gcd b.natAbs : Nat) := by
  rw [divInt_pos hb, Rat.normalize_eq]
  show t / ((t.natAbs.gcd b.toNat : Nat) : Int) = _
  have e : b.toNat = b.natAbs := by omega
  rw [e]
theorem low_den {t b : Int} (hb : 0 < b) : ((Rat.divInt t b).den : Int) = b / (t.natAbs.gcd b.natAbs : Nat) := by
  rw [divInt_pos hb, Rat.normalize_eq]
  show ((b.toNat / t.natAbs.gcd b.toNat : Nat) : Int) = _
  have e : b.toNat = b.natAbs := by omega
  rw [e, Int.natCast_ediv]
  congr 1
  omega
theorem sm_low {t b : Int} {n : Nat} (hb : 0 < b) (h1 : t.natAbs < 2 ^ n) (h2 : b.natAbs < 2 ^ n) : Sm n (Rat.divInt t b) := by
  have g0 : 0 < t.natAbs.gcd b.natAbs := Nat.gcd_pos_of_pos_right _ (by omega)
  refine ⟨?_, ?_⟩
  · rw [low_num hb]
    refine Nat.lt_of_le_of_lt ?_ h1
    rw [Int.natAbs_ediv_of_dvd]
    · exact Nat.div_le_self _ _
    · rw [← Int.natAbs_dvd_natAbs, Int.natAbs_natCast]
      exact Nat.gcd_dvd_left _ _
  · have e := low_den (t := t) hb
    have e2 : (Rat.divInt t b).den = b.natAbs / t.natAbs.gcd b.natAbs := by
      have e3 : (b / (t.natAbs.gcd b.natAbs : Nat) : Int) = ((b.natAbs / t.natAbs.gcd b.natAbs : Nat) : Int) := by
        rw [Int.natCast_ediv]
        congr 1
        omega
      rw [e3] at e
      exact Int.ofNat.inj e
    rw [e2]
    exact Nat.lt_of_le_of_lt (Nat.div_le_self _ _) h2
theorem den_pos (q : Rat) : (0 : Int) < q.den := by
  have := q.den_nz
  omega
theorem rat_eq (q : Rat) : q = (q.num : Rat) / (q.den : Rat) := by
  have h := Rat.num_divInt_den q
  rw [Rat.divInt_eq_div, Rat.intCast_natCast] at h
  exact h.symm
theorem den_ne (q : Rat) : (q.den : Rat) ≠ 0 := by
  have h := q.den_nz
  intro z
  exact h (by exact_mod_cast z)
theorem low_add (p q : Rat) : Rat.divInt (p.num * q.den + q.num * p.den) (p.den * q.den) = p + q := by
  rw [Rat.divInt_eq_div, Rat.intCast_add, Rat.intCast_mul, Rat.intCast_mul, Rat.intCast_mul]
  have h1 := rat_eq p
  have h2 := rat_eq q
  have d1 := den_ne p
  have d2 := den_ne q
  generalize (p.num : Rat) = a at *
  generalize (q.num : Rat) = b at *
  rw [Rat.intCast_natCast, Rat.intCast_natCast]
  generalize (p.den : Rat) = c at *
  generalize (q.den : Rat) = d at *
  subst h1 h2
  grind
theorem low_sub (p q : Rat) : Rat.divInt (p.num * q.den - q.num * p.den) (p.den * q.den) = p - q := by
  rw [Rat.divInt_eq_div, Rat.intCast_sub, Rat.intCast_mul, Rat.intCast_mul, Rat.intCast_mul]
  have h1 := rat_eq p
  have h2 := rat_eq q
  have d1 := den_ne p
  have d2 := den_ne q
  generalize (p.num : Rat) = a at *
  generalize (q.num : Rat) = b at *
  rw [Rat.intCast_natCast, Rat.intCast_natCast]
  generalize (p.den : Rat) = c at *
  generalize (q.den : Rat) = d at *
  subst h1 h2
  grind
theorem low_mul (p q : Rat) : Rat.divInt (p.num * q.num) (p.den * q.den) = p * q := by
  rw [Rat.divInt_eq_div, Rat.intCast_mul, Rat.intCast_mul]
  have h1 := rat_eq p
  have h2 := rat_eq q
  have d1 := den_ne p
  have d2 := den_ne q
  generalize (p.num : Rat) = a at *
  generalize (q.num : Rat) = b at *
  rw [Rat.intCast_natCast, Rat.intCast_natCast]
  generalize (p.den : Rat) = c at *
  generalize (q.den : Rat) = d at *
  subst h1 h2
  grind
theorem low_div (p q : Rat) (h : q.num ≠ 0) : Rat.divInt (p.num * q.den) (p.den * q.num) = p / q := by
  rw [Rat.divInt_eq_div, Rat.intCast_mul, Rat.intCast_mul]
  have h1 := rat_eq p
  have h2 := rat_eq q
  have d1 := den_ne p
  have d2 := den_ne q
  have d3 : (q.num : Rat) ≠ 0 := fun z => h (by exact_mod_cast z)
  generalize (p.num : Rat) = a at *
  generalize (q.num : Rat) = b at *
  rw [Rat.intCast_natCast, Rat.intCast_natCast]
  generalize (p.den : Rat) = c at *
  generalize (q.den : Rat) = d at *
  subst h1 h2
  grind
theorem less_iff (p q : Rat) : decide (p.num * q.den < q.num * p.den) = decide (p < q) := by
  rw [Bool.eq_iff_iff, decide_eq_true_iff, decide_eq_true_iff, Rat.lt_iff]
/-- sizes of what is reckoned -/
theorem natAbs_mul_lt {i j : Int} {a b : Nat} (ha : i.natAbs < 2 ^ a) (hb : j.natAbs < 2 ^ b) : (i * j).natAbs < 2 ^ (a + b) := by
  rw [Int.natAbs_mul, Nat.pow_add]
  exact Nat.mul_lt_mul'' ha hb
theorem natAbs_add_lt {i j : Int} {a : Nat} (ha : i.natAbs < 2 ^ a) (hb : j.natAbs < 2 ^ a) : (i + j).natAbs < 2 ^ (a + 1) := by
  have e : 2 ^ (a + 1) = 2 ^ a + 2 ^ a := by
    rw [Nat.pow_succ]
    omega
  rw [e]
  omega
theorem natAbs_sub_lt {i j : Int} {a : Nat} (ha : i.natAbs < 2 ^ a) (hb : j.natAbs < 2 ^ a) : (i - j).natAbs < 2 ^ (a + 1) := by
  have e : 2 ^ (a + 1) = 2 ^ a + 2 ^ a := by
    rw [Nat.pow_succ]
    omega
  rw [e]
  omega
theorem lt_pow_mono {i a b : Nat} (h : i < 2 ^ a) (e : a ≤ b) : i < 2 ^ b := Nat.lt_of_lt_of_le h (Nat.pow_le_pow_right (by decide) e)
theorem sm_add {p q : Rat} {n : Nat} (hp : Sm n p) (hq : Sm n q) : Sm (n + n + 1) (p + q) := by
  rw [← low_add p q]
  refine sm_low (Int.mul_pos (den_pos p) (den_pos q)) ?_ ?_
  · exact natAbs_add_lt (natAbs_mul_lt hp.1 hq.2) (natAbs_mul_lt hq.1 hp.2)
  · exact lt_pow_mono (natAbs_mul_lt hp.2 hq.2) (Nat.le_succ _)
theorem sm_sub {p q : Rat} {n : Nat} (hp : Sm n p) (hq : Sm n q) : Sm (n + n + 1) (p - q) := by
  rw [← low_sub p q]
  refine sm_low (Int.mul_pos (den_pos p) (den_pos q)) ?_ ?_
  · exact natAbs_sub_lt (natAbs_mul_lt hp.1 hq.2) (natAbs_mul_lt hq.1 hp.2)
  · exact lt_pow_mono (natAbs_mul_lt hp.2 hq.2) (Nat.le_succ _)
theorem sm_mul {p q : Rat} {n : Nat} (hp : Sm n p) (hq : Sm n q) : Sm (n + n) (p * q) := by
  rw [← low_mul p q]
  exact sm_low (Int.mul_pos (den_pos p) (den_pos q)) (natAbs_mul_lt hp.1 hq.1) (natAbs_mul_lt hp.2 hq.2)
theorem sm_div {p q : Rat} {n : Nat} (hp : Sm n p) (hq : Sm n q) (h : 0 < q.num) : Sm (n + n) (p / q) := by
  rw [← low_div p q (by omega)]
  exact sm_low (Int.mul_pos (den_pos p) h) (natAbs_mul_lt hp.1 hq.2) (natAbs_mul_lt hp.2 hq.1)
theorem abs_num (q : Rat) : (if q.num < 0 then -q else q).num = if q.num < 0 then -q.num else q.num := by
  split <;> rfl
theorem abs_den (q : Rat) : (if q.num < 0 then -q else q).den = q.den := by
  split <;> rfl
/-- without its sign -/
def absR (q : Rat) : Rat := if q.num < 0 then -q else q
theorem encR_abs (q : Rat) : encR (absR q) = .tuple [.int (if q.num < 0 then -q.num else q.num), .int q.den] := by
  unfold absR encR
  rw [abs_num, abs_den]
theorem sm_abs {q : Rat} {n : Nat} (h : Sm n q) : Sm n (absR q) := by
  unfold absR
  refine ⟨?_, ?_⟩
  · rw [abs_num]
    have h1 := h.1
    split <;> omega
  · rw [abs_den]
    exact h.2
theorem encR_inj {p q : Rat} (h : encR p = encR q) : p = q := by
  unfold encR at h
  injection h with h
  injection h with h1 h2
  injection h2 with h2 _
  injection h1 with h1
  injection h2 with h2
  exact Rat.ext h1 (Int.ofNat.inj h2)
end Ow
/-! ## part Ow5 -/
set_option Elab.async false
set_option linter.all false
set_option maxRecDepth 100000
set_option maxHeartbeats 4000000
namespace Ow
open PySem PySem.Spec PyProof.Rows L2
open Evl (Ex Ex.refl Ex.trans Ex.new ex_rd ex_l ex_t fresh_back)
local macro_rules | `(tactic| walk_at "pr") => `(tactic| assumption)
local macro_rules | `(tactic| walk_at "side") => `(tactic| first | assumption | rfl | decide)
local macro_rules | `(tactic| walk_at "d2") => `(tactic| first
  | exact d2_add | exact d2_sub | exact d2_lt | exact d2_le | exact d2_gt | exact d2_ge
  | exact d2_ixT 0 rfl rfl | exact d2_ixT 1 rfl rfl | exact d2_ixT 2 rfl rfl | exact d2_ixT 3 rfl rfl | exact d2_ixT 4 rfl rfl | exact d2_ixT 5 rfl rfl | exact d2_ixT 6 rfl rfl
  | exact d2_ixL 0 rfl rfl | exact d2_ixL 1 rfl rfl | exact d2_ixL 2 rfl rfl
  | exact d2_mul (by walk_at "side") | exact d2_div (by walk_at "side") | exact d2_mod (by walk_at "side")
  | exact d2_eq (by walk_at "side") (by walk_at "side") | exact d2_ne (by walk_at "side") (by walk_at "side") | walk_at "pr")
local macro_rules | `(tactic| walk_at "dc") => `(tactic| first
  | exact dc_len rfl | exact dc_lenL rfl | exact dc_abs | exact dc_max | exact dc_min | exact dc_all | exact dc_any | exact dc_list | exact dc_tuple | walk_at "pr")
local macro_rules | `(tactic| walk_at "da") => `(tactic| first
  | exact da_nil
  | (refine' da_cons ?k1 ?k2; (case k1 => walk_at "dv"); (case k2 => walk_at "da")))
local macro_rules | `(tactic| walk_at "dv") => `(tactic| first
  | exact dv_var rfl | exact dv_int | exact dv_str | exact dv_bl | exact dv_non
  | (refine' dv_call ?k1 ?k2 ?k3; (case k1 => walk_at "da"); (case k2 => walk_at "pr"); (case k3 => rfl))
  | (refine' dv_isi ?k1 ?k2 ?k3; (case k1 => walk_at "dv"); (case k2 => first | exact .int _ | exact .tup _ | exact .str _ | exact .bl _); (case k3 => exact kit_ty (by decide +kernel)))
  | (refine' dv_cb ?k1 ?k2; (case k1 => walk_at "da"); (case k2 => walk_at "dc"))
  | (refine' dv_op ?k1 ?k2 ?k3; (case k1 => walk_at "dv"); (case k2 => walk_at "dv"); (case k3 => walk_at "d2"))
  | (refine' dv_tup ?k1 ?k2; (case k1 => walk_at "da"); (case k2 => first | decide | walk_at "side"))
  | (refine' dv_lst ?k1 ?k2; (case k1 => walk_at "da"); (case k2 => first | decide | walk_at "side"))
  | (refine' dv_and ?k1 ?k2; (case k1 => walk_at "dv"); (case k2 => intro _; walk_at "dv"))
  | (refine' dv_notV ?k1; (case k1 => walk_at "dv"))
  | (refine' dv_chain ?k1 ?k2 ?k3 ?k4 ?k5; (case k1 => walk_at "dv"); (case k2 => walk_at "dv"); (case k3 => walk_at "d2"); (case k4 => intro _; walk_at "dv"); (case k5 => intro _; walk_at "d2"))
  | walk_at "pr")
local macro_rules | `(tactic| walk_at "dt") => `(tactic| first
  | (refine' dt_test ?k1; (case k1 => walk_at "dv"))
  | (refine' dt_B ?k1; (case k1 => walk_at "dv"))
  | (refine' dt_not ?k1; (case k1 => walk_at "dt"))
  | (refine' dt_or ?k1 ?k2; (case k1 => walk_at "dt"); (case k2 => intro _; walk_at "dt"))
  | (refine' dt_and ?k1 ?k2; (case k1 => walk_at "dt"); (case k2 => intro _; walk_at "dt"))
  | walk_at "pr")

section
variable {P : Program} {w : World} {K : PySem.W.Frag} {mg : Str → Option Value} {base : Heap}
theorem sc_is_whole : FnScope ["thing"] ["thing"] (defScope (top 12)) := ⟨rfl, rfl, rfl, by decide +kernel, rfl, by decide +kernel, by decide +kernel⟩
def prWhole : List PyData → PyData → Prop := fun ds d => ∃ i : Int, ds = [.int i] ∧ d = .bool true
theorem pr_whole {i : Int} : prWhole [.int i] (.bool true) := ⟨i, rfl, rfl⟩
theorem has_whole (T : Tx K mg) (F : Def K mg "is_whole" (top 12) []) : Has P w K mg base "is_whole" ["thing"] 1 (spD K 1 prWhole) := by
  refine has_data F sc_is_whole (fun _ _ _ _ _ _ us hl => match us, hl with | [_], _ => rfl) fun f cdv A outer s H E hr => ⟨_, (pss_one (ps_ret (pe_and (pe_callB call_isi (by rfl) T.f_isinstance (by decide +kernel) (pa_cons (pv 0) (pa_cons (pe_bltn (v := .ty "int") (by rfl) T.f_int (by decide +kernel) rfl) pa_nil))) (pe_one (pe_not (pe_callB call_isi (by rfl) T.f_isinstance (by decide +kernel) (pa_cons (pv 0) (pa_cons (pe_bltn (v := .ty "bool") (by rfl) T.f_bool (by decide +kernel) rfl) pa_nil)))))))), fun ds d z _ => .inl ?_⟩
  obtain ⟨i, rfl, rfl⟩ := z
  refine dr_ret (dv_is (f := .bool true) (d := .bool (true && !false)) ?_ rfl)
  walk_at "dv"
theorem sc_is_within : FnScope ["thing", "least", "most"] ["thing", "least", "most"] (defScope (top 13)) := ⟨rfl, rfl, rfl, by decide +kernel, rfl, by decide +kernel, by decide +kernel⟩
def prWithin : List PyData → PyData → Prop := fun ds d => ∃ i a b : Int, ds = [.int i, .int a, .int b] ∧ a ≤ i ∧ i ≤ b ∧ d = .bool true
theorem pr_within {i a b : Int} (h1 : a ≤ i) (h2 : i ≤ b) : prWithin [.int i, .int a, .int b] (.bool true) := ⟨i, a, b, rfl, h1, h2, rfl⟩
local macro_rules | `(tactic| walk_at "pr") => `(tactic| exact pr_whole)
theorem has_within (T : Tx K mg) (F : Def K mg "is_within" (top 13) []) (h_is_whole : Has P w K mg base "is_whole" ["thing"] 1 (spD K 1 prWhole)) : Has P w K mg base "is_within" ["thing", "least", "most"] 2 (spD K 3 prWithin) := by
  refine has_data F sc_is_within (fun _ _ _ _ _ _ us hl => match us, hl with | [_, _, _], _ => rfl) fun f cdv A outer s H E hr => ⟨_, (pss_one (ps_ret (pe_and (pe_callH h_is_whole hr (by decide) (by rfl) (pa_cons (pv 0) pa_nil)) (pe_one (pe_chain op_le op_le (pv 1) (pv 0) (pv 2)))))), fun ds d z _ => .inl ?_⟩
  obtain ⟨i, a, b, rfl, h1, h2, rfl⟩ := z
  refine dr_ret (dv_is (f := .bool true) (d := .bool (true && (decide (a ≤ i) && decide (i ≤ b)))) ?_ (by rw [decide_eq_true h1, decide_eq_true h2] <;> rfl))
  walk_at "dv"
theorem sc_common_of : FnScope ["one", "other"] ["one", "other"] (defScope (top 17)) := ⟨rfl, rfl, rfl, by decide +kernel, rfl, by decide +kernel, by decide +kernel⟩
def prCommon : List PyData → PyData → Prop := fun ds d => ∃ i j : Int, ds = [.int i, .int j] ∧ d = .int (i.natAbs.gcd j.natAbs : Nat)
theorem pr_common {i j : Int} : prCommon [.int i, .int j] (.int (i.natAbs.gcd j.natAbs : Nat)) := ⟨i, j, rfl, rfl⟩
theorem abs_ite (i : Int) : (if i < 0 then -i else i) = (i.natAbs : Int) := by
  split <;> omega
theorem has_common (T : Tx K mg) (F : Def K mg "common_of" (top 17) []) : Has P w K mg base "common_of" ["one", "other"] 1 (spD K 2 prCommon) := by
  refine has_data F sc_common_of (fun _ _ _ _ _ _ us hl => match us, hl with | [_, _], _ => rfl) fun f cdv A outer s H E hr => ⟨_, (pss_cons (ps_par (i := 0) (j := 1) (by rfl) sc_common_of.nd rfl rfl (by decide) rfl rfl (pa_cons (pe_callB call_abs (by rfl) T.f_abs (by decide +kernel) (pa_cons (pv 0) pa_nil)) (pa_cons (pe_callB call_abs (by rfl) T.f_abs (by decide +kernel) (pa_cons (pv 1) pa_nil)) pa_nil)) (by rfl))
    (pss_cons (ps_while PassesOwn.never (pt_cmpR (op_neD hr.units) (pv 1) pe_int (nomark _)) (pss_one (ps_par (i := 0) (j := 1) (by rfl) sc_common_of.nd rfl rfl (by decide) rfl rfl (pa_cons (pv 1) (pa_cons (pe_op op_mod (pv 0) (pv 1)) pa_nil)) (by rfl))))
    (pss_one (ps_ret (pv 0))))), fun ds d z _ => .inl ?_⟩
  obtain ⟨i, j, rfl, rfl⟩ := z
  refine dr_seq (ρ1 := [some (.d (.int (i.natAbs : Nat))), some (.d (.int (j.natAbs : Nat)))]) ?_ (dr_seq (ρ1 := [some (.d (.int (i.natAbs.gcd j.natAbs : Nat))), some (.d (.int 0))]) ?_ ?_)
  · rw [← abs_ite i, ← abs_ite j]
    refine ds_par ?_ ?_
    · walk_at "dv"
    · walk_at "dv"
  · refine ds_whileI (fun x : Nat × Nat => [some (.d (.int (x.1 : Nat))), some (.d (.int (x.2 : Nat)))]) (fun x => x.1.gcd x.2 = i.natAbs.gcd j.natAbs) (fun x => x.2) (i.natAbs, j.natAbs) rfl rfl fun x hx => ?_
    obtain ⟨a, b⟩ := x
    have hx : a.gcd b = i.natAbs.gcd j.natAbs := hx
    have ht : Dt K (tTest (tOp (rNeD K) (tVar 1) (tC (.int 0)))) [some (.d (.int (a : Nat))), some (.d (.int (b : Nat)))] (!PyData.eqv (.int (b : Nat)) (.int 0)) := by walk_at "dt"
    by_cases hb : b = 0
    · subst hb
      refine .inr ⟨dt_is ht rfl, ?_⟩
      rw [← hx, Nat.gcd_zero_right]
      rfl
    · refine .inl ⟨dt_is ht ?_, (b, a % b), ?_, Nat.mod_lt _ (by omega), ?_⟩
      · show (!(((b : Int)) == 0)) = true
        rw [beq_eq_false_iff_ne.mpr (by omega)]
        rfl
      · show b.gcd (a % b) = _
        rw [← hx, Nat.gcd_comm, ← Nat.gcd_rec, Nat.gcd_comm]
      · have hp : (0 : Int) < (b : Int) := by omega
        refine ds_par ?_ ?_
        · walk_at "dv"
        · walk_at "dv"
  · exact dr_ret (dv_var rfl)
end
end Ow
/-! ## part OwZip -/
set_option Elab.async false
set_option linter.all false
set_option maxRecDepth 100000
set_option maxHeartbeats 4000000
/-! OwZip: list(zip(t, u)) of two tuples. -/
namespace Ow
open PySem PySem.Spec PyProof.Rows L2 PySem.W
section
variable {prog : Program} {w : World} {A : Around} {E : Value → Shared → Prop} {s : Shared}
/-- one draw while the tuple handed out before is held -/
theorem zt_next {z TI TO T i1 i2 l1 l2 : Addr} {f : Bool} {oT : Obj} {k : Nat} {xs ys : Array Value} {x y : Value} {Q : Value → Shared → Prop} (D : ZipApart z TI TO i1 i2 l1 l2)
    (hz : IsZipHeld s.heap z TI TO T f) (hT : s.heap.get? T = some oT) (hTI : IsPair s.heap TI (.ref i1) (.ref i2)) (h1 : s.heap.IsTupleIter i1 l1 k) (h2 : s.heap.IsTupleIter i2 l2 k)
    (t1 : s.heap.IsTuple l1 xs) (t2 : s.heap.IsTuple l2 ys) (hx : xs[k]? = some x) (hy : ys[k]? = some y)
    (hQ : ∀ g : Heap, IsZipHeld g z TI TO T true → g.IsTupleIter i1 l1 (k + 1) → g.IsTupleIter i2 l2 (k + 1) → IsPair g s.heap.objs.size x y →
      (∀ c o, c ≠ z → c ≠ i1 → c ≠ i2 → s.heap.get? c = some o → g.get? c = some o) → Q (.ref s.heap.objs.size) { s with heap := g }) :
    wpAny (model prog w) A (Builtin.«zip.__next__» ⟨[.ref z], []⟩) (fun fin s' => ∃ v, fin = .done (.ret v) ∧ Q v s') E s := by
  show wpAny _ _ (field (.ref z) 2 >>= _) _ _ _
  refine wpAny_bind (wpAny_field hz rfl (x := .bool false) rfl ?_)
  show wpAny _ _ (field (.ref z) 3 >>= _) _ _ _
  refine wpAny_bind (wpAny_field hz rfl (x := .ref TI) rfl (wpAny_bind (wpAny_seqItems hTI rfl ?_)))
  show wpAny _ _ (Builtin.SmallTypes.ownedTupleIsFree (.ref z) >>= _) _ _ _
  refine wpAny_bind (wpAny_tupleHeld_zip hz hT fun ga za sa => ?_)
  simp only [Bool.false_eq_true, if_false]
  refine wpAny_bind ?_
  rw [← Array.forIn_toList]
  simp only [List.forIn_cons, List.forIn_nil]
  refine wpAny_bind (wpAny_bind (wpAny_holding ?_))
  show wpAny _ _ (Builtin.SmallTypes.nextOf (.ref i1) >>= _) _ _ _
  refine wpAny_bind (RZ.nextOf_tuple_item (s := { s with heap := ga }) (h1.extBut sa.extBut D.i1z) (t1.extBut sa.extBut D.l1z) hx fun gb ib sb => wpAny_pure (wpAny_pure ?_))
  refine wpAny_bind (wpAny_bind (wpAny_holding ?_))
  show wpAny _ _ (Builtin.SmallTypes.nextOf (.ref i2) >>= _) _ _ _
  refine wpAny_bind (RZ.nextOf_tuple_item (s := { s with heap := gb }) ((h2.extBut sa.extBut D.i2z).extBut sb.extBut D.i12.symm) ((t2.extBut sa.extBut D.l2z).extBut sb.extBut D.l2i1) hy fun gc ic sc => wpAny_pure (wpAny_pure (wpAny_pure ?_)))
  show wpAny _ _ (newTuple [x, y] >>= _) _ _ _
  refine wpAny_bind (wpAny_newTuple (wpAny_pure ⟨_, rfl, ?_⟩))
  have size : gc.objs.size = s.heap.objs.size := by rw [sc.1, sb.1, sa.1]
  have kp : ∀ c o, c ≠ z → c ≠ i1 → c ≠ i2 → s.heap.get? c = some o → gc.get? c = some o := fun c o n1 n2 n3 e => sc.extBut _ _ n3 (sb.extBut _ _ n2 (sa.extBut _ _ n1 e))
  have zc : IsZipHeld gc z TI TO T true := sc.extBut _ _ D.i2z.symm (sb.extBut _ _ D.i1z.symm za)
  show Q (.ref gc.objs.size) _
  have np : IsPair (gc.push { cls := .type "tuple", data := .seq #[x, y] }) gc.objs.size x y := Heap.get?_push_size _ rfl
  rw [size] at np ⊢
  exact hQ _ (Heap.get?_push_of_some _ zc) ((ib.extBut sc.extBut D.i12).at fun o e => Heap.get?_push_of_some _ e) (ic.at fun o e => Heap.get?_push_of_some _ e) np fun c o n1 n2 n3 e => Heap.get?_push_of_some _ (kp c o n1 n2 n3 e)
/-- the end while the tuple is held -/
theorem zt_stop {z TI TO T i1 i2 l1 l2 : Addr} {f : Bool} {oT : Obj} {k : Nat} {xs ys : Array Value} {Q : Fin → Shared → Prop} (hh : A.handled = none) (D : ZipApart z TI TO i1 i2 l1 l2)
    (hz : IsZipHeld s.heap z TI TO T f) (hT : s.heap.get? T = some oT) (hTI : IsPair s.heap TI (.ref i1) (.ref i2)) (h1 : s.heap.IsTupleIter i1 l1 k) (h2 : s.heap.IsTupleIter i2 l2 k)
    (t1 : s.heap.IsTuple l1 xs) (t2 : s.heap.IsTuple l2 ys) (he : xs[k]? = none ∨ ys[k]? = none)
    (hE : ∀ (g : Heap) (e : Addr), (∀ c o, c ≠ z → c ≠ i1 → c ≠ i2 → s.heap.get? c = some o → g.get? c = some o) → (∃ o, g.get? e = some o ∧ o.cls = .type "StopIteration") → E (.ref e) { s with heap := g }) :
    wpAny (model prog w) A (Builtin.«zip.__next__» ⟨[.ref z], []⟩) Q E s := by
  show wpAny _ _ (field (.ref z) 2 >>= _) _ _ _
  refine wpAny_bind (wpAny_field hz rfl (x := .bool false) rfl ?_)
  show wpAny _ _ (field (.ref z) 3 >>= _) _ _ _
  refine wpAny_bind (wpAny_field hz rfl (x := .ref TI) rfl (wpAny_bind (wpAny_seqItems hTI rfl ?_)))
  show wpAny _ _ (Builtin.SmallTypes.ownedTupleIsFree (.ref z) >>= _) _ _ _
  refine wpAny_bind (wpAny_tupleHeld_zip hz hT fun ga za sa => ?_)
  simp only [Bool.false_eq_true, if_false]
  refine wpAny_bind ?_
  rw [← Array.forIn_toList]
  simp only [List.forIn_cons, List.forIn_nil]
  refine wpAny_bind (wpAny_bind (wpAny_holding ?_))
  show wpAny _ _ (Builtin.SmallTypes.nextOf (.ref i1) >>= _) _ _ _
  cases hx : xs[k]? with
  | none =>
    refine wpAny_bind (RZ.nextOf_tuple_end (s := { s with heap := ga }) hh (h1.extBut sa.extBut D.i1z) (t1.extBut sa.extBut D.l1z) hx fun gb e sb be => ?_)
    exact hE gb e (fun c o n1 n2 _ q => sb _ _ n2 (sa.extBut _ _ n1 q)) be
  | some x =>
    have hy : ys[k]? = none := he.elim (fun q => by rw [hx] at q; cases q) id
    refine wpAny_bind (RZ.nextOf_tuple_item (s := { s with heap := ga }) (h1.extBut sa.extBut D.i1z) (t1.extBut sa.extBut D.l1z) hx fun gb ib sb => wpAny_pure (wpAny_pure ?_))
    refine wpAny_bind (wpAny_bind (wpAny_holding ?_))
    show wpAny _ _ (Builtin.SmallTypes.nextOf (.ref i2) >>= _) _ _ _
    refine wpAny_bind (RZ.nextOf_tuple_end (s := { s with heap := gb }) hh ((h2.extBut sa.extBut D.i2z).extBut sb.extBut D.i12.symm) ((t2.extBut sa.extBut D.l2z).extBut sb.extBut D.l2i1) hy fun gc e sc ce => ?_)
    exact hE gc e (fun c o n1 n2 n3 q => sc _ _ n3 (sb.extBut _ _ n2 (sa.extBut _ _ n1 q))) ce
/-- how the zip at z stands behind k draws; S: the list that is filled -/
def ZS (h : Heap) (z TI TO i1 i2 l1 l2 S : Addr) (xs ys : Array Value) (k : Nat) : Prop :=
  IsPair h TI (.ref i1) (.ref i2) ∧ h.IsTupleIter i1 l1 k ∧ h.IsTupleIter i2 l2 k ∧ h.IsTuple l1 xs ∧ h.IsTuple l2 ys ∧
    ((IsZip h z TI TO .none ∧ ∃ a b, IsPair h TO a b) ∨ ∃ T f oT, IsZipHeld h z TI TO T f ∧ h.get? T = some oT ∧ T ≠ z ∧ T ≠ i1 ∧ T ≠ i2 ∧ T ≠ S)
structure ZApart (z TI TO i1 i2 l1 l2 S : Addr) : Prop where
  zip : ZipApart z TI TO i1 i2 l1 l2
  sz : z ≠ S
  sTI : TI ≠ S
  sTO : TO ≠ S
  s1 : i1 ≠ S
  s2 : i2 ≠ S
  sl1 : l1 ≠ S
  sl2 : l2 ≠ S
variable {z TI TO i1 i2 l1 l2 S : Addr} {xs ys : Array Value}
theorem ZS.put {h h' : Heap} {k : Nat} (D : ZApart z TI TO i1 i2 l1 l2 S) (q : ZS h z TI TO i1 i2 l1 l2 S xs ys k) (kp : ∀ c o, c ≠ S → h.get? c = some o → h'.get? c = some o) : ZS h' z TI TO i1 i2 l1 l2 S xs ys k := by
  obtain ⟨a1, a2, a3, a4, a5, a6⟩ := q
  refine ⟨kp _ _ D.sTI a1, a2.at fun o e => kp _ o D.s1 e, a3.at fun o e => kp _ o D.s2 e, a4.at fun o e => kp _ o D.sl1 e, a5.at fun o e => kp _ o D.sl2 e, ?_⟩
  rcases a6 with ⟨b1, b2, b3, b4⟩ | ⟨T, f, oT, b1, b2, b3, b4, b5, b6⟩
  · exact .inl ⟨kp _ _ D.sz b1, b2, b3, kp _ _ D.sTO b4⟩
  · exact .inr ⟨T, f, oT, kp _ _ D.sz b1, kp _ _ b6 b2, b3, b4, b5, b6⟩
theorem zs_next {k : Nat} {x y : Value} {Q : Option Value → Shared → Prop} (D : ZApart z TI TO i1 i2 l1 l2 S) (hS : S < s.heap.objs.size) (st : ZS s.heap z TI TO i1 i2 l1 l2 S xs ys k) (hx : xs[k]? = some x) (hy : ys[k]? = some y)
    (hQ : ∀ g : Heap, ZS g z TI TO i1 i2 l1 l2 S xs ys (k + 1) → IsPair g s.heap.objs.size x y → (∀ c o, c ≠ z → c ≠ TO → c ≠ i1 → c ≠ i2 → s.heap.get? c = some o → g.get? c = some o) → Q (some (.ref s.heap.objs.size)) { s with heap := g }) :
    wpAny (model prog w) A (pyNext (.ref z)) Q E s := by
  obtain ⟨a1, a2, a3, a4, a5, a6⟩ := st
  have dz := D.zip
  have nS : s.heap.objs.size ≠ S := Nat.ne_of_gt hS
  have n1 : s.heap.objs.size ≠ i1 := let ⟨_, e, _⟩ := a2; Nat.ne_of_gt (Heap.lt_size e)
  have n2 : s.heap.objs.size ≠ i2 := let ⟨_, e, _⟩ := a3; Nat.ne_of_gt (Heap.lt_size e)
  rcases a6 with ⟨b1, b2, b3, b4⟩ | ⟨T, f, oT, b1, b2, b3, b4, b5, b6⟩
  · refine RZ.pyNext_zipT_item dz b1 a1 b4 a2 a3 a4 a5 hx hy fun g c1 c2 c3 c4 c5 c6 kp => ?_
    refine hQ g ⟨kp _ _ dz.TIz dz.TITO dz.TIi1 dz.TIi2 a1, c3, c4, a4.at fun o e => kp _ o dz.l1z dz.l1TO dz.l1i1 dz.l1i2 e, a5.at fun o e => kp _ o dz.l2z dz.l2TO dz.l2i1 dz.l2i2 e, .inr ⟨_, false, _, c1, c5, Nat.ne_of_gt (Heap.lt_size b1), n1, n2, nS⟩⟩ c5 kp
  · have hTy : s.TypeIs (.ref z) "zip" := ⟨_, b1, rfl⟩
    unfold pyNext
    refine wpAny_bind (wpAny_attempt (wpAny_callSpecial?_slot (name := Str.ofString "__next__") hTy F.slot_zip_next (wpAny_call_entry F.slot_zip_next hTy F.entry_zip_next ?_ (F.args_zip_next_1 _))))
    refine zt_next dz b1 b2 a1 a2 a3 a4 a5 hx hy fun g c1 c3 c4 c5 kp => wpAny_pure ?_
    exact hQ g ⟨kp _ _ dz.TIz dz.TIi1 dz.TIi2 a1, c3, c4, a4.at fun o e => kp _ o dz.l1z dz.l1i1 dz.l1i2 e, a5.at fun o e => kp _ o dz.l2z dz.l2i1 dz.l2i2 e, .inr ⟨T, true, oT, c1, kp _ _ b3 b4 b5 b2, b3, b4, b5, b6⟩⟩ c5 fun c o m1 _ m3 m4 e => kp c o m1 m3 m4 e
theorem zs_done {k : Nat} {Q : Option Value → Shared → Prop} (hh : A.handled = none) (D : ZApart z TI TO i1 i2 l1 l2 S) (st : ZS s.heap z TI TO i1 i2 l1 l2 S xs ys k) (he : xs[k]? = none ∨ ys[k]? = none)
    (hQ : ∀ g : Heap, (∀ c o, c ≠ z → c ≠ TO → c ≠ i1 → c ≠ i2 → s.heap.get? c = some o → g.get? c = some o) → Q none { s with heap := g }) : wpAny (model prog w) A (pyNext (.ref z)) Q E s := by
  obtain ⟨a1, a2, a3, a4, a5, a6⟩ := st
  have dz := D.zip
  rcases a6 with ⟨b1, b2, b3, b4⟩ | ⟨T, f, oT, b1, b2, b3, b4, b5, b6⟩
  · exact RZ.pyNext_zipT_end hh dz b1 a1 b4 a2 a3 a4 a5 he fun g kp => hQ g kp
  · have hTy : s.TypeIs (.ref z) "zip" := ⟨_, b1, rfl⟩
    unfold pyNext
    refine wpAny_bind (wpAny_attempt (wpAny_callSpecial?_slot (name := Str.ofString "__next__") hTy F.slot_zip_next (wpAny_call_entry F.slot_zip_next hTy F.entry_zip_next ?_ (F.args_zip_next_1 _))))
    refine zt_stop hh dz b1 b2 a1 a2 a3 a4 a5 he fun g e kp hc => ?_
    obtain ⟨o, ho, hcl⟩ := hc
    exact wpAny_bind (wpAny_isInstance (T := "StopIteration") (b := true) ⟨o, ho, hcl⟩ isSubtype_stop (wpAny_pure (hQ g fun c o m1 _ m3 m4 q => kp c o m1 m3 m4 q)))
end
theorem ltne {a c lo : Nat} (h : a < lo) (k : lo ≤ c) : c ≠ a := Nat.ne_of_gt (Nat.lt_of_lt_of_le h k)
/-- the pairs that were made: new, apart, in order -/
structure Made (h : Heap) (lo n : Nat) (xs ys : Array Value) (as : List Addr) : Prop where
  len : as.length = n
  up : as.Pairwise (· < ·)
  new : ∀ a ∈ as, lo ≤ a
  at_ : ∀ (j : Nat) (a : Addr), as[j]? = some a → ∃ x y, xs[j]? = some x ∧ ys[j]? = some y ∧ IsPair h a x y
theorem Made.lt {h : Heap} {lo n : Nat} {xs ys : Array Value} {as : List Addr} (m : Made h lo n xs ys as) {a : Addr} (ha : a ∈ as) : a < h.objs.size := by
  obtain ⟨j, hj⟩ := List.mem_iff_getElem?.mp ha
  obtain ⟨_, _, _, _, e⟩ := m.at_ j a hj
  exact Heap.lt_size e
theorem Made.keep {h h' : Heap} {lo n : Nat} {xs ys : Array Value} {as : List Addr} (m : Made h lo n xs ys as) (kp : ∀ c o, lo ≤ c → h.get? c = some o → h'.get? c = some o) : Made h' lo n xs ys as :=
  ⟨m.len, m.up, m.new, fun j a hj => let ⟨x, y, e1, e2, e3⟩ := m.at_ j a hj; ⟨x, y, e1, e2, kp a _ (m.new a (List.mem_of_getElem? hj)) e3⟩⟩
section
variable {prog : Program} {w : World} {A : Around} {s : Shared} {R : Result → Shared → Prop} {z TI TO i1 i2 l1 l2 S : Addr} {xs ys : Array Value}
theorem zz_loop (hh : A.handled = none) (D : ZApart z TI TO i1 i2 l1 l2 S) {lo : Nat} (b1 : z < lo) (b2 : TO < lo) (b3 : i1 < lo) (b4 : i2 < lo) (b5 : S < lo) {n : Nat} (hx : xs.size = n + 1) (hy : ys.size = n) (hn : n ≤ sizeLine) (res : Value) {h0 : Heap}
    (hR : ∀ (h' : Heap) (tk : Nat) (acc : Array Value) (c : Nat) (as : List Addr), (∀ b o, b ≠ S → b ≠ z → b ≠ TO → b ≠ i1 → b ≠ i2 → h0.get? b = some o → h'.get? b = some o) → h'.get? S = some { cls := .type "list", dict := none, data := .seq acc c, slots := #[] } → Made h' lo n xs ys as →
      acc.toList = as.map Value.ref → R (.ok (.ret res)) { s with heap := h', toks := tk }) :
    ∀ (m k : Nat) (h : Heap) (tk c : Nat) (acc : Array Value) (as : List Addr), n - k = m → k ≤ n → ZS h z TI TO i1 i2 l1 l2 S xs ys k → (∀ b o, b ≠ S → b ≠ z → b ≠ TO → b ≠ i1 → b ≠ i2 → h0.get? b = some o → h.get? b = some o) →
      h.get? S = some { cls := .type "list", dict := none, data := .seq acc c, slots := #[] } → acc.toList = as.map Value.ref → Made h lo k xs ys as → lo ≤ h.objs.size →
      codeAny (model prog w) A (.builtin "list.extend.loop" ⟨[.ref S, .ref z, res], []⟩) R { s with heap := h, toks := tk } := by
  intro m
  induction m with
  | zero =>
    intro k h tk c acc as hm hk st kp hS hacc M hl
    have ek : k = n := by omega
    subst ek
    refine codeAny_builtin PySem.F.entry_extend_loop ?_
    rw [Around.under_plainId PySem.F.plain_extend_loop _]
    show wpAny _ A.in1 (pyNext (.ref z) >>= _) _ _ _
    refine wpAny_bind (zs_done (s := { s with heap := h, toks := tk }) (A := A.in1) hh D st (.inr (Array.getElem?_eq_none (by omega))) fun g gk => ?_)
    refine wpAny_pure (hR g tk acc c as (fun b o n1 n2 n3 n4 n5 e => gk b o n2 n3 n4 n5 (kp b o n1 n2 n3 n4 n5 e)) (gk S _ D.sz.symm D.sTO.symm D.s1.symm D.s2.symm hS) (M.keep fun c o hc e => gk c o (ltne b1 hc) (ltne b2 hc) (ltne b3 hc) (ltne b4 hc) e) hacc)
  | succ m ih =>
    intro k h tk c acc as hm hk st kp hS hacc M hl
    have hlt : k < n := by omega
    have ex : xs[k]? = some xs[k] := Array.getElem?_eq_getElem (by omega)
    have ey : ys[k]? = some ys[k] := Array.getElem?_eq_getElem (by omega)
    have hsz : acc.size = k := by rw [← Array.length_toList, hacc, List.length_map, M.len]
    have hSl : S < h.objs.size := Heap.lt_size hS
    refine codeAny_builtin PySem.F.entry_extend_loop ?_
    rw [Around.under_plainId PySem.F.plain_extend_loop _]
    show wpAny _ A.in1 (pyNext (.ref z) >>= _) _ _ _
    refine wpAny_bind (zs_next (s := { s with heap := h, toks := tk }) (S := S) D hSl st ex ey fun g st' np gk => ?_)
    dsimp only at np gk ⊢
    have hS' := gk S _ D.sz.symm D.sTO.symm D.s1.symm D.s2.symm hS
    have off : ∀ b o, b ≠ S → g.get? b = some o → (g.update S (Obj.mapSeq (·.push (Value.ref h.objs.size)))).get? b = some o := fun b o hb e => (Heap.get?_update_other _ _ (Ne.symm hb)).trans e
    show wpAny _ A.in1 (updateSeq S (·.push (Value.ref h.objs.size)) >>= _) _ _ _
    refine wpAny_bind ?_
    refine wpAny_updateSeq hS' rfl (wpAny_pure ⟨plainId_quiet PySem.F.plain_extend_loop _, ih (k + 1) _ tk _ (acc.push (Value.ref h.objs.size)) (as ++ [h.objs.size]) (by omega) hlt (st'.put D off)
      (fun b o n1 n2 n3 n4 n5 e => off b o n1 (gk b o n2 n3 n4 n5 (kp b o n1 n2 n3 n4 n5 e))) (Heap.get?_update_self _ hS' rfl) (by rw [Array.toList_push, hacc, List.map_append]; rfl) ⟨?_, ?_, ?_, ?_⟩ ?_⟩) (by rw [hsz]; omega) (by show (acc.push (Value.ref h.objs.size)).size ≤ sizeLine + 1; rw [Array.size_push, hsz]; omega)
    · rw [List.length_append, M.len]
      rfl
    · refine List.pairwise_append.mpr ⟨M.up, List.pairwise_singleton _ _, fun a ha b hb => ?_⟩
      rw [List.mem_singleton.mp hb]
      exact M.lt ha
    · intro a ha
      rcases List.mem_append.mp ha with ha | ha
      · exact M.new a ha
      · rw [List.mem_singleton.mp ha]
        exact hl
    · intro j a hj
      by_cases hjl : j < as.length
      · rw [List.getElem?_append_left hjl] at hj
        obtain ⟨x, y, e1, e2, e3⟩ := M.at_ j a hj
        have ha := M.new a (List.mem_of_getElem? hj)
        exact ⟨x, y, e1, e2, off a _ (ltne b5 ha) (gk a _ (ltne b1 ha) (ltne b2 ha) (ltne b3 ha) (ltne b4 ha) e3)⟩
      · rw [List.getElem?_append_right (by omega)] at hj
        have e0 : j - as.length = 0 := by
          have := (List.getElem?_eq_some_iff.mp hj).1
          rw [List.length_singleton] at this
          omega
        rw [e0] at hj
        have ea := Option.some.inj hj
        subst ea
        have ej : j = k := by
          have := M.len
          omega
        subst ej
        exact ⟨_, _, ex, ey, off _ _ (Nat.ne_of_gt hSl) np⟩
    · have e := off _ _ (Nat.ne_of_gt hSl) np
      exact Nat.le_trans hl (Nat.le_of_lt (Heap.lt_size e))
theorem zip_nolen : typeLookup (.type "zip") "__len__" = pure none := by rw [typeLookup_type, builtinLookup_eq_fast]; kernel_rfl
theorem zip_nohint : typeLookup (.type "zip") "__length_hint__" = pure none := by rw [typeLookup_type, builtinLookup_eq_fast]; kernel_rfl
theorem zz_extend (hh : A.handled = none) (D : ZApart z TI TO i1 i2 l1 l2 S) {lo : Nat} (b1 : z < lo) (b2 : TO < lo) (b3 : i1 < lo) (b4 : i2 < lo) (b5 : S < lo) (hlo : lo ≤ s.heap.objs.size) {n : Nat} (hx : xs.size = n + 1) (hy : ys.size = n) (hn : n ≤ sizeLine) (res : Value) (c0 : Nat)
    (st : ZS s.heap z TI TO i1 i2 l1 l2 S xs ys 0) (hS : s.heap.get? S = some { cls := .type "list", data := .seq #[] c0 }) (hz : IsZip s.heap z TI TO .none)
    (hR : ∀ (h' : Heap) (tk : Nat) (acc : Array Value) (c : Nat) (as : List Addr), (∀ b o, b ≠ S → b ≠ z → b ≠ TO → b ≠ i1 → b ≠ i2 → s.heap.get? b = some o → h'.get? b = some o) → h'.get? S = some { cls := .type "list", dict := none, data := .seq acc c, slots := #[] } → Made h' lo n xs ys as →
      acc.toList = as.map Value.ref → R (.ok (.ret res)) { s with heap := h', toks := tk }) :
    wpAny (model prog w) A.in1 (Builtin.List.listExtendWith (.ref S) (.ref z) res)
      (fun fin s' => match fin with | .done f => R (.ok f) s' | .again c' => c'.quiet = true ∧ codeAny (model prog w) A c' R s') (fun e s' => R (.error e) s') s := by
  have hTy : s.TypeIs (.ref z) "zip" := ⟨_, hz, rfl⟩
  unfold Builtin.List.listExtendWith
  refine wpAny_bind (wpAny_typeOf hTy ?_)
  have q1 : Builtin.List.listSameRef (.ref S) (.ref z) = false := by simp [Builtin.List.listSameRef, D.sz.symm]
  have q2 : (Value.type "zip" == Value.type "list") = false := by decide
  have q3 : (Value.type "zip" == Value.type "tuple") = false := by decide
  simp only [q1, q2, q3, Bool.or_false, Bool.false_eq_true, if_false]
  refine wpAny_bind (wpAny_pyIter_zip hz ?_)
  refine wpAny_bind (wpAny_holding ?_)
  unfold Builtin.List.listLengthHint
  refine wpAny_bind (wpAny_specialOf hTy zip_nolen ?_)
  show wpAny _ A.in1 (specialOf (Value.ref z) (Str.ofString "__length_hint__") >>= _) _ _ _
  refine wpAny_bind (wpAny_specialOf hTy zip_nohint (wpAny_pure ?_))
  show wpAny _ A.in1 (rule "list.extend.makes-room" >>= fun _ => Builtin.List.listTouch (.ref S) >>= fun _ => again (.builtin "list.extend.loop" ⟨[.ref S, .ref z, res], []⟩)) _ _ _
  refine wpAny_bind (wpAny_rule (wpAny_bind ?_))
  show wpAny _ A.in1 (updateSeq S (·.push .none) >>= fun _ => updateSeq S (·.pop)) _ _ _
  refine wpAny_bind (wpAny_updateSeq hS rfl ?_)
  have s2 := Heap.get?_update_self (Obj.mapSeq (·.push Value.none)) hS rfl
  refine wpAny_updateSeq (hz := by seq_fits) s2 rfl ?_
  have s3 := Heap.get?_update_self (Obj.mapSeq (·.pop)) s2 rfl
  have off : ∀ b o, b ≠ S → s.heap.get? b = some o → ((s.heap.update S (Obj.mapSeq (·.push Value.none))).update S (Obj.mapSeq (·.pop))).get? b = some o := fun b o hb e => (Heap.get?_update_other _ _ (Ne.symm hb)).trans ((Heap.get?_update_other _ _ (Ne.symm hb)).trans e)
  refine wpAny_pure ⟨plainId_quiet PySem.F.plain_extend_loop _, ?_⟩
  refine zz_loop (s := s) (h0 := s.heap) (n := n) hh D b1 b2 b3 b4 b5 hx hy hn res hR n 0 _ s.toks _ #[] [] (Nat.sub_zero _) (Nat.zero_le _) (st.put D off) (fun b o n1 _ _ _ _ e => off b o n1 e) s3 rfl ⟨rfl, .nil, (fun _ h => nomatch h), (fun j a h => by simp at h)⟩ ?_
  rw [Heap.size_update, Heap.size_update]
  exact hlo
end
section
variable {prog : Program} {w : World} {A : Around} {E : Value → Shared → Prop} {s : Shared} {z TI TO i1 i2 l1 l2 : Addr} {xs ys : Array Value}
/-- list(z), z a zip of two tuples just made -/
theorem call_list_zip {Q : Value → Shared → Prop} (hh : A.handled = none) (D : ZipApart z TI TO i1 i2 l1 l2) {n : Nat} (hx : xs.size = n + 1) (hy : ys.size = n) (hn : n ≤ sizeLine)
    (hz : IsZip s.heap z TI TO .none) (hTI : IsPair s.heap TI (.ref i1) (.ref i2)) (hTO : IsPair s.heap TO .none .none) (h1 : s.heap.IsTupleIter i1 l1 0) (h2 : s.heap.IsTupleIter i2 l2 0) (t1 : s.heap.IsTuple l1 xs) (t2 : s.heap.IsTuple l2 ys)
    (hQ : ∀ (h' : Heap) (tk : Nat) (acc : Array Value) (c : Nat) (as : List Addr), (∀ b o, b ≠ z → b ≠ TO → b ≠ i1 → b ≠ i2 → s.heap.get? b = some o → h'.get? b = some o) → h'.get? s.heap.objs.size = some { cls := .type "list", dict := none, data := .seq acc c, slots := #[] } → Made h' (s.heap.objs.size + 1) n xs ys as →
      acc.toList = as.map Value.ref → Q (.ref s.heap.objs.size) { s with heap := h', toks := tk }) :
    wpAny (model prog w) A (call (.type "list") [.ref z]) Q E s := by
  refine callType_codes (Q₁ := fun obj s₁ => obj = .ref s.heap.objs.size ∧ s₁ = { s with heap := s.heap.push { cls := .type "list", data := .seq #[] } }) PySem.F.called_list (PySem.F.typeCall_list_1 _) PySem.F.entry_list_init
    (code_list_new _ ⟨rfl, rfl⟩) fun obj s₁ hs => ?_
  obtain ⟨rfl, rfl⟩ := hs
  have hS : (s.heap.push { cls := .type "list", data := .seq #[] }).get? s.heap.objs.size = some { cls := .type "list", data := .seq #[] } := Heap.get?_push_size _ rfl
  have kp : ∀ b o, s.heap.get? b = some o → (s.heap.push { cls := .type "list", data := .seq #[] }).get? b = some o := fun b o e => Heap.get?_push_of_some _ e
  have lz : z < s.heap.objs.size := Heap.lt_size hz
  have lTI : TI < s.heap.objs.size := Heap.lt_size hTI
  have lTO : TO < s.heap.objs.size := Heap.lt_size hTO
  have li1 : i1 < s.heap.objs.size := let ⟨_, e, _⟩ := h1; Heap.lt_size e
  have li2 : i2 < s.heap.objs.size := let ⟨_, e, _⟩ := h2; Heap.lt_size e
  have ll1 : l1 < s.heap.objs.size := let ⟨_, e, _⟩ := t1; Heap.lt_size e
  have ll2 : l2 < s.heap.objs.size := let ⟨_, e, _⟩ := t2; Heap.lt_size e
  have DD : ZApart z TI TO i1 i2 l1 l2 s.heap.objs.size := ⟨D, Nat.ne_of_lt lz, Nat.ne_of_lt lTI, Nat.ne_of_lt lTO, Nat.ne_of_lt li1, Nat.ne_of_lt li2, Nat.ne_of_lt ll1, Nat.ne_of_lt ll2⟩
  refine ⟨⟨_, hS, rfl⟩, PySem.F.args_list_init_2 _ _, ?_⟩
  show wpAny _ _ (do let old ← Builtin.List.listItems (.ref s.heap.objs.size); Builtin.List.listUpdate (.ref s.heap.objs.size) (fun _ => #[]); letGo old.toList.reverse; Builtin.List.listExtendWith (.ref s.heap.objs.size) (.ref z) .none) _ _ _
  refine wpAny_bind ?_
  unfold Builtin.List.listItems
  refine wpAny_bind (wpAny_seqItems hS rfl (wpAny_pure ?_))
  show wpAny _ _ (updateSeq s.heap.objs.size (fun _ => #[]) >>= fun _ => letGo (#[] : Array Value).toList.reverse >>= fun _ => Builtin.List.listExtendWith (.ref s.heap.objs.size) (.ref z) .none) _ _ _
  refine wpAny_bind (wpAny_updateSeq hS rfl ?_)
  have s2 := Heap.get?_update_self (Obj.mapSeq (fun _ => (#[] : Array Value))) hS rfl
  have off : ∀ b o, b ≠ s.heap.objs.size → s.heap.get? b = some o → ((s.heap.push { cls := .type "list", data := .seq #[] }).update s.heap.objs.size (Obj.mapSeq (fun _ => (#[] : Array Value)))).get? b = some o :=
    fun b o hb e => (Heap.get?_update_other _ _ (Ne.symm hb)).trans (kp b o e)
  refine wpAny_bind (wpAny_letGo ?_)
  refine zz_extend (A := A.in1) (lo := s.heap.objs.size + 1) hh DD (Nat.lt_succ_of_lt lz) (Nat.lt_succ_of_lt lTO) (Nat.lt_succ_of_lt li1) (Nat.lt_succ_of_lt li2) (Nat.lt_succ_self _) ?_ hx hy hn .none _ ⟨off _ _ DD.sTI hTI, h1.at fun o e => off _ o DD.s1 e, h2.at fun o e => off _ o DD.s2 e, t1.at fun o e => off _ o DD.sl1 e, t2.at fun o e => off _ o DD.sl2 e, .inl ⟨off _ _ DD.sz hz, _, _, off _ _ DD.sTO hTO⟩⟩ s2 (off _ _ DD.sz hz) fun h' tk acc c as k1 k2 k3 k4 => ?_
  · show s.heap.objs.size + 1 ≤ ((s.heap.push { cls := .type "list", data := .seq #[] }).update s.heap.objs.size (Obj.mapSeq (fun _ => (#[] : Array Value)))).objs.size
    rw [Heap.size_update, Heap.size_push]
    exact Nat.le_refl _
  · exact ⟨rfl, hQ h' tk acc c as (fun b o n1 n2 n3 n4 e => k1 b o (Nat.ne_of_lt (Heap.lt_size e)) n1 n2 n3 n4 (off b o (Nat.ne_of_lt (Heap.lt_size e)) e)) k2 k3 k4⟩
end
end Ow
/-! ## part OwZip2 -/
set_option Elab.async false
set_option linter.all false
set_option maxRecDepth 100000
set_option maxHeartbeats 4000000
/-! OwZip2: list(zip(t, u)) as a rule, and by data. -/
namespace Ow
open PySem PySem.Spec PyProof.Rows L2
open Evl (Ex Ex.refl Ex.trans Ex.new ex_rd ex_l ex_t fresh_back)
/-- the new list at p, the new pairs at as, over H -/
def putP (H : Hp) (p : Addr) (as : List Addr) (vs us : List V) : Hp := fun c => if c = p then some (.lst (as.map V.ref)) else if c ∈ as then some (.tup [vs.getD (as.idxOf c) .non, us.getD (as.idxOf c) .non]) else H c
section
variable {H : Hp} {p : Addr} {as : List Addr} {vs us : List V}
theorem putP_p : putP H p as vs us p = some (.lst (as.map V.ref)) := if_pos rfl
theorem putP_in {c : Addr} (hc : c ≠ p) (h : c ∈ as) : putP H p as vs us c = some (.tup [vs.getD (as.idxOf c) .non, us.getD (as.idxOf c) .non]) := by
  unfold putP
  rw [if_neg hc, if_pos h]
theorem putP_off {c : Addr} (hc : c ≠ p) (h : c ∉ as) : putP H p as vs us c = H c := by
  unfold putP
  rw [if_neg hc, if_neg h]
theorem putP_old (h1 : H p = none) (h2 : ∀ a ∈ as, H a = none) : Ex H (putP H p as vs us) := fun c o e => by
  rw [putP_off (ne_of_none e h1) fun z => by rw [h2 c z] at e; cases e]
  exact e
end
def tLZ (K : PySem.W.Frag) (ta tb : TE) : TE := fun σ H Q => ta σ H fun x H1 => tb σ H1 fun y H2 => ∃ (a b : Addr) (vs us : List V), x = .ref a ∧ y = .ref b ∧ SqT K H2 a vs ∧ SqT K H2 b us ∧ vs.length = us.length + 1 ∧ us.length ≤ sizeLine ∧
  ∀ (p : Addr) (as : List Addr), H2 p = none → (∀ t ∈ as, H2 t = none) → p ∉ as → as.Nodup → as.length = us.length → Q (.ref p) (putP H2 p as vs us)
theorem pair_refs : ∀ as : List Addr, Vals (as.map V.ref) (as.map Value.ref)
  | [] => .nil
  | _ :: as => .cons rfl (pair_refs as)
theorem idx_get {as : List Addr} (nd : as.Nodup) {c : Addr} (h : c ∈ as) : as[as.idxOf c]? = some c := by
  rw [List.getElem?_eq_getElem (List.idxOf_lt_length_of_mem h), List.getElem_idxOf]
theorem pe_list_zip {X : Cx} {e e2 : Expr} {ta tb : TE} {p p2 q pos : Pos} (hc : X.calm = true) (hg : Gl X "list") (hm : X.mg "list" = none) (hg2 : Gl X "zip") (hm2 : X.mg "zip" = none) (ha : PE X e ta) (hb : PE X e2 tb)
    (hs : starEach [.Call (.Name "zip" p2) [e, e2] [] q] X.env = (false, eval (.Call (.Name "zip" p2) [e, e2] [] q) X.env) :: starEach [] X.env := by rfl)
    (hs2 : starEach [e, e2] X.env = (false, eval e X.env) :: starEach [e2] X.env := by rfl) (hs3 : starEach [e2] X.env = (false, eval e2 X.env) :: starEach [] X.env := by rfl) (hpl : (backTo q (starEach [e2] X.env)).any (·.1) = false := by rfl) :
    PE X (.Call (.Name "list" p) [.Call (.Name "zip" p2) [e, e2] [] q] [] pos) (tLZ X.K ta tb) := by
  refine ⟨fun pins s σ H Q I h => ?_⟩
  refine Call_ (ld_blt I hg hm boot_list ?_)
  refine PyProof.Rows.callWith_type1 (PyProof.Rows.args_cons ?_ hs) hs rfl
  refine Call_ (ld_blt I hg2 hm2 PyProof.Rows.boot_zip (PyProof.Rows.callWith_type1 ?_ hs2 hpl))
  refine PyProof.Rows.args_cons (thn (ha.run pins s σ H _ I h) fun v s1 ⟨x, H1, I1, r1, q1⟩ => ?_) hs2
  refine PyProof.Rows.args_cons (thn (hb.run pins s1 σ H1 _ I1 q1) fun u s2 ⟨y, H2, I2, r2, q2⟩ => PyProof.Rows.args_nil ?_) hs3
  obtain ⟨a, b, vs, us, rfl, rfl, t1, t2, hl, hz, k⟩ := q2
  cases r1
  cases r2
  obtain ⟨its, rv, p1, _⟩ := I2.tuple t1
  obtain ⟨its2, rv2, p3, _⟩ := I2.tuple t2
  have l1 := rv.length
  have l2 := rv2.length
  obtain ⟨o1, ho1, _⟩ := id p1
  obtain ⟨o2, ho2, _⟩ := id p3
  have a1 : s2.heap.IsTuple a its.toArray := p1
  have a2 : s2.heap.IsTuple b its2.toArray := p3
  refine RZ.call_zipT a1 a2 fun g hz1 hTI hTO i1 i2 hsz kp => PyProof.Rows.args_nil ?_
  refine call_list_zip (s := { s2 with heap := g }) (n := us.length) (I2.ok.hd hc) (PySem.W.ktu_apart s2.heap.objs.size a b (Heap.lt_size ho1) (Heap.lt_size ho2)) (by rw [List.size_toArray]; omega) (by rw [List.size_toArray]; omega) hz hz1 hTI hTO i1 i2 (a1.at fun o e => kp _ o e) (a2.at fun o e => kp _ o e) fun h' tk acc c as k1 k2 M hacc => ?_
  have old : ∀ c o, s2.heap.get? c = some o → h'.get? c = some o := fun c o e => by
    have lt := Heap.lt_size e
    refine k1 c o (Nat.ne_of_lt (Nat.lt_of_lt_of_le lt (Nat.le_add_right _ _))) (Nat.ne_of_lt (Nat.lt_of_lt_of_le lt (Nat.le_add_right _ _))) (Nat.ne_of_lt lt) (Nat.ne_of_lt (Nat.lt_of_lt_of_le lt (Nat.le_add_right _ _))) (kp c o e)
  have hg5 : g.objs.size = s2.heap.objs.size + 5 := hsz
  have fp : H2 g.objs.size = none := I2.hok.fresh (by rw [hg5]; exact Nat.le_add_right _ _)
  have fas : ∀ t ∈ as, H2 t = none := fun t ht => I2.hok.fresh (Nat.le_trans (Nat.le_trans (by rw [hg5]; exact Nat.le_add_right _ _) (Nat.le_succ g.objs.size)) (M.new t ht))
  have npas : g.objs.size ∉ as := fun z => Nat.lt_irrefl _ (M.new _ z)
  have nd : as.Nodup := M.up.imp fun h => Nat.ne_of_lt h
  have ex : Ex H2 (putP H2 g.objs.size as vs us) := putP_old fp fas
  refine ⟨.ref g.objs.size, putP H2 g.objs.size as vs us, ?_, rfl, k _ _ fp fas npas nd M.len⟩
  refine I2.call' (s' := { s2 with heap := h', toks := tk }) (ch := []) rfl ⟨fun b o q _ _ _ => old b o q, fun b o q _ _ _ => ⟨o.slots, old b o q⟩, fun b o q n _ => ?_, fun b o q _ => ⟨o, old b o q⟩, fun b xs q => ex b _ q, fun b o u q => ex b _ q, fun b ps q => ⟨#[], by rw [ex b _ q]; simp⟩⟩ (fun b u q => ?_) I2.bare fun b z => nomatch z
  · have lt := Heap.lt_size q
    rw [putP_off (Nat.ne_of_lt (Nat.lt_of_lt_of_le lt (by rw [hg5]; exact Nat.le_add_right _ _))) fun z => absurd (M.new b z) (Nat.not_le.mpr (Nat.lt_of_lt_of_le lt (by rw [hg5]; exact Nat.le_trans (Nat.le_add_right _ 5) (Nat.le_succ _))))]
    exact n
  · by_cases hb : b = g.objs.size
    · subst hb
      rw [putP_p] at q
      cases q
      refine ⟨by rw [List.length_map, M.len]; exact hz, acc.toList, c, by rw [hacc]; exact pair_refs as, ?_⟩
      rw [Array.toArray_toList]
      exact k2
    · by_cases hi : b ∈ as
      · rw [putP_in hb hi] at q
        cases q
        obtain ⟨x, y, e1, e2, e3⟩ := M.at_ _ b (idx_get nd hi)
        have hj : as.idxOf b < us.length := by
          rw [← M.len]
          exact List.idxOf_lt_length_of_mem hi
        have g1 : vs[as.idxOf b]? = some vs[as.idxOf b] := List.getElem?_eq_getElem (by omega)
        have g2 : us[as.idxOf b]? = some us[as.idxOf b] := List.getElem?_eq_getElem hj
        obtain ⟨w1, f1, f2⟩ := rv.get g1
        obtain ⟨w2, f3, f4⟩ := rv2.get g2
        rw [List.getElem?_toArray, f1] at e1
        rw [List.getElem?_toArray, f3] at e2
        have e1 := Option.some.inj e1
        have e2 := Option.some.inj e2
        subst e1 e2
        rw [List.getD_eq_getElem?_getD, List.getD_eq_getElem?_getD, g1, g2]
        exact ⟨by show 2 ≤ sizeLine; decide, [w1, w2], .cons f2 (.cons f4 .nil), ⟨_, e3, rfl, _, rfl⟩⟩
      · rw [putP_off hb hi] at q
        exact (I2.hok b u q).stay (fun d v _ y => old d v y) (fun d y => ex d _ y) fun d xs y => ex d _ y
section
variable {K : PySem.W.Frag} {ρ : Rho} {ta tb : TE} {xs ys : List PyData}
theorem dpa_refs {G : Hp} : ∀ {as : List Addr} {ds : List PyData}, as.length = ds.length → (∀ (j : Nat) (a : Addr) (d : PyData), as[j]? = some a → ds[j]? = some d → Dp K G (.ref a) d) → DpAll K G (as.map V.ref) ds
  | [], [], _, _ => .nil
  | [], _ :: _, h, _ => by cases h
  | _ :: _, [], h, _ => by cases h
  | a :: as, d :: ds, h, k => .cons (k 0 a d rfl rfl) (dpa_refs (Nat.succ.inj h) fun j b e h1 h2 => k (j + 1) b e h1 h2)
theorem dv_lzip (ha : Dv K ta ρ (.tuple xs)) (hb : Dv K tb ρ (.tuple ys)) (hl : xs.length = ys.length + 1) (hs : ys.length ≤ 100000) : Dv K (tLZ K ta tb) ρ (.list (pairs xs ys)) := fun G σ H x E Q q =>
  ha G σ H x E _ fun v G1 H1 a1 d1 => hb G1 σ H1 a1.i (E.ex a1.g) _ fun w G2 H2 a2 d2 => by
    have d1 := dp_ex a2.g d1
    cases d1 with
    | tup t1 p1 =>
      cases d2 with
      | tup t2 p2 =>
        rename_i a vs b us
        have l1 := DpAll.len p1
        have l2 := DpAll.len p2
        refine ⟨a, b, vs, us, rfl, rfl, ex_t a2.i t1, ex_t a2.i t2, by omega, small_sz (by omega), fun p as hp has hnp nd hlen => ?_⟩
        have gp : G2 p = none := fresh_back a2.i hp
        have gas : ∀ t ∈ as, G2 t = none := fun t ht => fresh_back a2.i (has t ht)
        have up : Ex (putP G2 p as vs us) (putP H2 p as vs us) := fun c o e => by
          by_cases h1 : c = p
          · subst h1
            rw [putP_p] at e ⊢
            exact e
          · by_cases h2 : c ∈ as
            · rw [putP_in h1 h2] at e ⊢
              exact e
            · rw [putP_off h1 h2] at e ⊢
              exact a2.i c o e
        have gr : Gr G2 H2 (putP G2 p as vs us) (putP H2 p as vs us) := ⟨putP_old gp gas, up, putP_old hp has, fun c o h g => by
          rw [putP_off (ne_of_none h hp) fun z => by rw [has c z] at h; cases h]
          exact g⟩
        refine q _ _ _ ((a1.trans a2).trans gr) (.lst (.inl (.inl putP_p)) (dpa_refs ?_ fun j t d h1 h2 => ?_))
        · rw [hlen, pairs_len, l2, hl]
          omega
        · have hj : j < us.length := by
            rw [← hlen]
            exact (List.getElem?_eq_some_iff.mp h1).1
          have g1 : vs[j]? = some vs[j] := List.getElem?_eq_getElem (by omega)
          have g2 : us[j]? = some us[j] := List.getElem?_eq_getElem hj
          obtain ⟨dx, k1, k2⟩ := DpAll.atV p1 g1
          obtain ⟨dy, k3, k4⟩ := DpAll.atV p2 g2
          rw [pairs_at k1 k3] at h2
          have h2 := Option.some.inj h2
          subst h2
          have htm : t ∈ as := List.mem_of_getElem? h1
          have hne : t ≠ p := fun z => hnp (by rw [← z]; exact htm)
          have hix : as.idxOf t = j := by
            have e1 := idx_get nd htm
            have hj2 : j < as.length := by omega
            have e2 : as[as.idxOf t]'(List.idxOf_lt_length_of_mem htm) = as[j] := by
              rw [List.getElem_idxOf]
              exact (Option.some.inj ((List.getElem?_eq_getElem hj2).symm.trans h1)).symm
            exact (List.getElem_inj nd).mp e2
          have hp2 := putP_in (H := G2) (vs := vs) (us := us) hne htm
          rw [hix, List.getD_eq_getElem?_getD, List.getD_eq_getElem?_getD, g1, g2] at hp2
          exact .tup (.inl (.inl hp2)) (.cons (dp_ex gr.g k2) (.cons (dp_ex gr.g k4) .nil))
end
end Ow
/-! ## part OwSort -/
set_option Elab.async false
set_option linter.all false
set_option maxRecDepth 100000
set_option maxHeartbeats 4000000
/-! OwSort: sorted and < of data. -/
namespace Ow
open PySem PySem.Spec PyProof.Rows L2
open Evl (Ex Ex.refl Ex.trans Ex.new ex_rd ex_l ex_t fresh_back)
def rSortD (K : PySem.W.Frag) : List V → Hp → VK → Prop := fun vs H Q => ∃ (a : Addr) (bs : List (V × PyData)), vs = [.ref a] ∧ SqL K H a (bs.map Prod.fst) ∧ (∀ b ∈ bs, Dp K H b.1 b.2) ∧ PySem.W.AllAlike (bs.map Prod.snd) ∧ PySem.W.Sortable (bs.map Prod.snd) ∧ bs.length ≤ sizeLine ∧ (∀ b ∈ bs, b.2.depth ≤ 32) ∧
  ∀ p, H p = none → Q (.ref p) (upd H p (.lst ((bs.mergeSort (PySem.W.dataLe false Prod.snd)).map Prod.fst)))
theorem each_vals : ∀ {bs : List (V × PyData)} {us : List Value}, Vals (bs.map Prod.fst) us → PySem.W.EachIs (fun v (b : V × PyData) => RelV b.1 v) us bs
  | [], _, .nil => .nil
  | _ :: _, _, .cons r t => .cons r (each_vals t)
theorem vals_each : ∀ {bs : List (V × PyData)} {us : List Value}, PySem.W.EachIs (fun v (b : V × PyData) => RelV b.1 v) us bs → Vals (bs.map Prod.fst) us
  | [], _, .nil => .nil
  | _ :: _, _, .cons r t => .cons r (vals_each t)
theorem each_reads {X : Cx} {pins : List (Addr × Obj)} {σ : L2.St} {H : Hp} {s : Shared} (I : Inv X pins σ H s) : ∀ {bs : List (V × PyData)} {us : List Value}, (∀ b ∈ bs, Dp X.K H b.1 b.2) → Vals (bs.map Prod.fst) us → PySem.W.EachIs (fun v (b : V × PyData) => ∃ as, Reads s.heap v (Prod.snd b) as) us bs
  | [], _, _, .nil => .nil
  | b :: bs, _, h, .cons r t => .cons (Dp.reads I b.2 b.1 _ (h b List.mem_cons_self) r) (each_reads I (fun c hc => h c (List.mem_cons_of_mem _ hc)) t)
theorem cr_sortedD {X : Cx} {k : Nat} (hr : Room k X.A) : CallR X (.builtin "sorted") (rSortD X.K) := by
  intro pins s σ H vs us Q I r h
  obtain ⟨a, bs, rfl, hl, hd, al, so, hz, hdep, q⟩ := h
  obtain ⟨u, rfl, rx⟩ := vals1 r
  cases rx
  obtain ⟨its, rv, pl, _⟩ := I.list hl
  refine PySem.W.sorted_data (R := fun v (b : V × PyData) => RelV b.1 v) (enc := Prod.snd) (bs := bs) pl.isList (each_vals rv) (each_reads I hd rv) al so hz (fun b hb => ?_) fun out ho eo => ?_
  · have := hr.units
    have := hdep b hb
    omega
  · obtain ⟨c, hc⟩ := PyProof.Rows.sortedAll_at s.heap its out.toArray
    refine ⟨.ref (s.heap.objs.size + 1), _, I.laid (t' := s.toks) (fun _ _ e => PyProof.Rows.sortedAll_old e) (Nat.le_succ _) (show ObjOk X.prog X.w _ _ _ (.lst ((bs.mergeSort (PySem.W.dataLe false Prod.snd)).map Prod.fst)) from ⟨?_, out, c, vals_each eo, hc⟩), rfl, q _ (I.hok.fresh (Nat.le_succ _))⟩
    rw [List.length_map, List.length_mergeSort]
    exact hz
section
variable {K : PySem.W.Frag} {ρ : Rho} {ta tb : TE} {ds : List PyData} {d e : PyData}
theorem dpa_of {G : Hp} : ∀ {bs : List (V × PyData)}, (∀ b ∈ bs, Dp K G b.1 b.2) → DpAll K G (bs.map Prod.fst) (bs.map Prod.snd)
  | [], _ => .nil
  | b :: bs, h => .cons (h b List.mem_cons_self) (dpa_of fun c hc => h c (List.mem_cons_of_mem _ hc))
theorem of_dpa {G : Hp} : ∀ {vs : List V} {ds : List PyData}, DpAll K G vs ds → ∃ bs : List (V × PyData), bs.map Prod.fst = vs ∧ bs.map Prod.snd = ds ∧ ∀ b ∈ bs, Dp K G b.1 b.2
  | _, _, .nil => ⟨[], rfl, rfl, fun _ h => nomatch h⟩
  | v :: vs, d :: ds, .cons h t => by
    obtain ⟨bs, h1, h2, h3⟩ := of_dpa t
    refine ⟨(v, d) :: bs, by rw [List.map_cons, h1], by rw [List.map_cons, h2], fun b hb => ?_⟩
    rcases List.mem_cons.mp hb with e | hb
    · subst e
      exact h
    · exact h3 b hb
theorem dc_sorted (al : PySem.W.AllAlike ds) (so : PySem.W.Sortable ds) (hz : ds.length ≤ 100000) (hdep : ∀ d ∈ ds, d.depth ≤ 32) : Dc K (rSortD K) [.list ds] (.list (ds.mergeSort (PySem.W.dataLe false fun d => d))) := fun G H vs e h Q q => by
  cases h with
  | cons h hr =>
    cases hr
    cases h with
    | lst hs ha =>
      obtain ⟨bs, h1, h2, h3⟩ := of_dpa ha
      subst h1 h2
      have hz : bs.length ≤ 100000 := by
        rw [List.length_map] at hz
        exact hz
      refine ⟨_, bs, rfl, ex_l e hs, fun b hb => dp_ex e (h3 b hb), al, so, small_sz hz, fun b hb => hdep _ (List.mem_map.mpr ⟨b, hb, rfl⟩), fun p hp => ?_⟩
      have n := new_up (o := .lst ((bs.mergeSort (PySem.W.dataLe false Prod.snd)).map Prod.fst)) e hp
      refine q _ _ _ n (.lst (.inl (.inl upd_same)) ?_)
      have em : (bs.map Prod.snd).mergeSort (PySem.W.dataLe false fun d => d) = (bs.mergeSort (PySem.W.dataLe false Prod.snd)).map Prod.snd := (PySem.W.sort_maps Prod.snd fun _ _ _ _ => rfl).symm
      rw [em]
      exact dpa_ex n.g (dpa_of fun b hb => h3 b ((List.mergeSort_perm bs _).mem_iff.mp hb))
def rLtD (K : PySem.W.Frag) : R2 := fun x y H Q => ∃ d e, Dp K H x d ∧ Dp K H y e ∧ PySem.W.alike d e = true ∧ d ≠ .none ∧ d.depth ≤ 32 ∧ Q (.bl (PySem.W.dataLt d e)) H
theorem op_ltD {X : Cx} {k : Nat} (hr : Room k X.A) : OpR X (compareOp .Lt) (rLtD X.K) := by
  intro pins s σ H x y v u Q I rx ry h
  obtain ⟨d, e, hd, he, al, nn, dp, q⟩ := h
  obtain ⟨as, r1⟩ := Dp.reads I d x v hd rx
  obtain ⟨bs, r2⟩ := Dp.reads I e y u he ry
  have hu : X.A.units + min d.depth e.depth < cLine := by
    have := hr.units
    have : min d.depth e.depth ≤ d.depth := Nat.min_le_left _ _
    omega
  exact PySem.W.rcLt_alike d e X.A s v u as bs r1 r2 al nn hu X.prog X.w _ _ ⟨.bl _, H, I, rfl, q⟩
theorem d2_ltD (al : PySem.W.alike d e = true) (nn : d ≠ .none) (dp : d.depth ≤ 32) : D2 K (rLtD K) d e (.bool (PySem.W.dataLt d e)) := fun G H x y z hx hy Q q =>
  ⟨d, e, dp_ex z hx, dp_ex z hy, al, nn, dp, q _ G H (.refl z) (.bl _)⟩
end
end Ow
/-! ## part OwEnum -/
set_option Elab.async false
set_option linter.all false
set_option maxRecDepth 100000
set_option maxHeartbeats 4000000
/-! OwEnum: list(range(a, b, c)); enumerate of a tuple; two clauses. -/
namespace Ow
open PySem PySem.Spec PyProof.Rows L2
open Evl (Ex Ex.refl Ex.trans Ex.new ex_rd ex_l ex_t fresh_back)
/-! ### list(range(a, b, c)) -/
def vint (lo c : Int) (n : Nat) : List V := (List.range n).map fun i => .int (lo + (i : Nat) * c)
def tLR (ta tb tc : TE) : TE := fun σ H Q => ta σ H fun x H1 => tb σ H1 fun y H2 => tc σ H2 fun z H3 => ∃ (i j c : Int) (n : Nat), x = .int i ∧ y = .int j ∧ z = .int c ∧ RgC i j c n ∧ n ≤ 100000 ∧ ∀ p, H3 p = none → Q (.ref p) (upd H3 p (.lst (vint i c n)))
theorem vals_range {a c : Int} {n : Nat} {acc : Array Value} (h : ItemsOf (fun i v => ∃ t, v = .int (a + i * c) t) acc n) : Vals (vint a c n) acc.toList := by
  have e : acc.toList.length = n := by rw [Array.length_toList]; exact h.1
  unfold vint
  rw [← e]
  refine vals_of_get acc.toList _ fun j u hj => ?_
  obtain ⟨t, rfl⟩ := h.2 j u (by rw [← hj, Array.getElem?_toList])
  exact ⟨t, rfl⟩
theorem pe_list_range {X : Cx} {e1 e2 e3 : Expr} {ta tb tc : TE} {p p2 q pos : Pos} (hc : X.calm = true) (hg : Gl X "list") (hm : X.mg "list" = none) (hg2 : Gl X "range") (hm2 : X.mg "range" = none) (ha : PE X e1 ta) (hb : PE X e2 tb) (hd : PE X e3 tc)
    (hs : starEach [.Call (.Name "range" p2) [e1, e2, e3] [] q] X.env = (false, eval (.Call (.Name "range" p2) [e1, e2, e3] [] q) X.env) :: starEach [] X.env := by rfl)
    (n1 : starEach [e1, e2, e3] X.env = (false, eval e1 X.env) :: starEach [e2, e3] X.env := by rfl) (n2 : starEach [e2, e3] X.env = (false, eval e2 X.env) :: starEach [e3] X.env := by rfl) (n3 : starEach [e3] X.env = (false, eval e3 X.env) :: starEach [] X.env := by rfl) (hpl : (backTo q (starEach [e2, e3] X.env)).any (·.1) = false := by rfl) :
    PE X (.Call (.Name "list" p) [.Call (.Name "range" p2) [e1, e2, e3] [] q] [] pos) (tLR ta tb tc) := by
  refine ⟨fun pins s σ H Q I h => ?_⟩
  refine Call_ (ld_blt I hg hm boot_list ?_)
  refine PyProof.Rows.callWith_type1 (PyProof.Rows.args_cons ?_ hs) hs rfl
  refine Call_ (ld_blt I hg2 hm2 boot_range (PyProof.Rows.callWith_type1 ?_ n1 hpl))
  refine PyProof.Rows.args_cons (thn (ha.run pins s σ H _ I h) fun v s1 ⟨x, H1, I1, r1, q1⟩ => ?_) n1
  refine PyProof.Rows.args_cons (thn (hb.run pins s1 σ H1 _ I1 q1) fun u s2 ⟨y, H2, I2, r2, q2⟩ => ?_) n2
  refine PyProof.Rows.args_cons (thn (hd.run pins s2 σ H2 _ I2 q2) fun w s3 ⟨z, H3, I3, r3, q3⟩ => PyProof.Rows.args_nil ?_) n3
  obtain ⟨i, j, c, n, rfl, rfl, rfl, ⟨c0, c1, c2, c3⟩, hn, k⟩ := q3
  obtain ⟨t1, rfl⟩ := r1
  obtain ⟨t2, rfl⟩ := r2
  obtain ⟨t3, rfl⟩ := r3
  refine call_range_3 c0 (PyProof.Rows.args_nil ?_) (.inl (PyProof.noPylong_small c1))
  have hn2 : n ≤ 2 ^ 24 := Nat.le_trans hn (by decide)
  refine call_list_range (s := { s3 with heap := s3.heap.push { cls := .type "range", data := .fields #[.int i t1, .int j t2, .int c t3] } }) (n := n) (I3.ok.hd hc) (IsRange.new ..) c2 c3 hn2 fun h' tk acc c' hk e' hi => ?_
  have I4 : Inv X pins σ H3 { s3 with heap := s3.heap.push { cls := .type "range", data := .fields #[.int i t1, .int j t2, .int c t3] } } := I3.kept (t' := s3.toks) fun b o e => Heap.get?_push_of_some _ e
  refine ⟨.ref (s3.heap.push { cls := .type "range", data := .fields #[.int i t1, .int j t2, .int c t3] }).objs.size, _, I4.laid (t' := tk) hk (Nat.le_refl _) (show ObjOk X.prog X.w _ _ _ (.lst (vint i c n)) from ⟨?_, acc.toList, c', vals_range hi, ?_⟩), rfl, k _ (I4.hok.fresh (Nat.le_refl _))⟩
  · unfold vint
    rw [List.length_map, List.length_range]
    exact small_sz hn
  · rw [Array.toArray_toList]
    exact e'
section
variable {K : PySem.W.Frag} {ρ : Rho} {ta tb tc : TE} {i j c : Int} {n : Nat}
theorem dpa_vint {G : Hp} : DpAll K G (vint i c n) (intsD i c n) := by
  unfold vint intsD
  have key : ∀ l : List Nat, DpAll K G (l.map fun k => V.int (i + (k : Nat) * c)) (l.map fun k => PyData.int (i + (k : Nat) * c)) := by
    intro l
    induction l with
    | nil => exact .nil
    | cons a l ih => exact .cons (.int _) ih
  exact key _
theorem dv_lrange (ha : Dv K ta ρ (.int i)) (hb : Dv K tb ρ (.int j)) (hc : Dv K tc ρ (.int c)) (hr : RgC i j c n) (hn : n ≤ 100000) : Dv K (tLR ta tb tc) ρ (.list (intsD i c n)) := fun G σ H x E Q q =>
  ha G σ H x E _ fun v G1 H1 a1 d1 => hb G1 σ H1 a1.i (E.ex a1.g) _ fun w G2 H2 a2 d2 => hc G2 σ H2 a2.i (E.ex (a1.trans a2).g) _ fun z G3 H3 a3 d3 => by
    cases d1
    cases d2
    cases d3
    refine ⟨i, j, c, n, rfl, rfl, rfl, hr, hn, fun p hp => ?_⟩
    have nn := new_up (o := .lst (vint i c n)) a3.i hp
    exact q _ _ _ (((a1.trans a2).trans a3).trans nn) (.lst (.inl (.inl upd_same)) dpa_vint)
end
/-! ### enumerate of a tuple -/
theorem meets_enumT (l : Addr) (items : Array Value) : Meets (Builtin.«enumerate.__new__» ⟨[.type "enumerate", .ref l], []⟩) (fun _ R s => s.heap.IsTuple l items ∧
      R (.ok (.ret (.ref (s.heap.push { cls := .type "tuple_iterator", data := .fields #[.ref l, .int 0 0] }).objs.size)))
        { s with heap := (s.heap.push { cls := .type "tuple_iterator", data := .fields #[.ref l, .int 0 0] }).push { cls := .type "enumerate", data := .fields #[.none, .bool false, .ref s.heap.objs.size, rawInt 0, .none, .none] } }) :=
  .of_wp fun prog w A R s h => by
    obtain ⟨hp, g, d, tk, os⟩ := s
    obtain ⟨hl, h⟩ := h
    obtain ⟨⟨oc, od, dt, sl⟩, ho, hcl, n, hd⟩ := id hl
    replace hcl : oc = .type "tuple" := hcl
    replace hd : dt = .seq items n := hd
    subst hcl hd
    have hsub := sub_enumerate
    wp_walk using AutoSeq1.wpAny_loadPart' ho
    refine wpAny_stack_any fun st => wpAny_pure ?_
    split
    · rename_i c _ _ _ _ _
      cases (c == Value.type "enumerate")
      · wp_walk using AutoSeq1.wpAny_loadPart' ho, wpAny_pyIter_tuple hl
        exact ⟨_, rfl, h⟩
      · wp_walk using AutoSeq1.wpAny_loadPart' ho, wpAny_pyIter_tuple hl
        exact ⟨_, rfl, h⟩
    · wp_walk using AutoSeq1.wpAny_loadPart' ho, wpAny_pyIter_tuple hl
      exact ⟨_, rfl, h⟩
theorem call_enumT {prog : Program} {w : World} {A : Around} {E : Value → Shared → Prop} {s : Shared} {l : Addr} {items : Array Value} {Q : Value → Shared → Prop} (hL : s.heap.IsTuple l items)
    (h : ∀ h', IsEnum h' (s.heap.objs.size + 1) s.heap.objs.size 0 .none → h'.IsTupleIter s.heap.objs.size l 0 → (∀ b o, s.heap.get? b = some o → h'.get? b = some o) → Q (.ref (s.heap.objs.size + 1)) { s with heap := h' }) :
    wpAny (model prog w) A (call (.type "enumerate") [.ref l]) Q E s := by
  refine callType_new F.called_enumerate (by decide) (F.typeCall_enumerate_1 _) (F.newCall_enumerate_1 _) (fun obj => F.args_object_init_2 obj _) F.entry_enumerate_new (meets_enumT l items) ⟨hL, ?_⟩
  have hz : (s.heap.push { cls := .type "tuple_iterator", data := .fields #[.ref l, .int 0 0] }).objs.size = s.heap.objs.size + 1 := Heap.size_push ..
  show _ ∧ _
  rw [hz]
  have he : IsEnum ((s.heap.push { cls := .type "tuple_iterator", data := .fields #[.ref l, .int 0 0] }).push { cls := .type "enumerate", data := .fields #[.none, .bool false, .ref s.heap.objs.size, rawInt 0, .none, .none] }) (s.heap.objs.size + 1) s.heap.objs.size 0 .none := by
    have q := Heap.get?_push_size (s.heap.push { cls := .type "tuple_iterator", data := .fields #[.ref l, .int 0 0] }) (o := { cls := .type "enumerate", data := .fields #[.none, .bool false, .ref s.heap.objs.size, rawInt 0, .none, .none] }) rfl
    rw [hz] at q
    exact q
  exact ⟨⟨_, he, rfl⟩, h _ he ⟨_, Heap.get?_push_of_some _ (Heap.get?_push_size _ rfl), rfl, rfl⟩ fun b o x => Heap.get?_push_of_some _ (Heap.get?_push_of_some _ x)⟩
def IteT (K : PySem.W.Frag) (a : Addr) : It :=
  ⟨fun i H => ∃ (xs : List V) (x : V), SqT K H a xs ∧ xs[i]? = some x, fun i H v H' => ∃ T x, v = .ref T ∧ H T = none ∧ H' = upd H T (.tup [.int (i : Nat), x]) ∧ ∀ xs, SqT K H a xs → xs[i]? = some x, fun i H => ∃ xs : List V, SqT K H a xs ∧ xs.length = i⟩
theorem turn_enumT {P : Program} {w : World} {K : PySem.W.Frag} {elts : List Expr} {kk : Nat} {tpos : Pos} (a e it : Addr) (hea : a ≠ e) (hia : a ≠ it) :
    Turn P w K (.Tuple elts kk tpos) (IteT K a) [e, it] e (fun i h => (∃ old, IsEnum h e it ((i : Nat) : Int) old) ∧ h.IsTupleIter it a i ∧ e ≠ it) where
  mem := List.mem_cons_self
  obj := fun i h st b hb => by
    obtain ⟨⟨old, he⟩, ⟨o, ho, _, hd⟩, _⟩ := st
    rcases List.mem_cons.mp hb with z | z
    · subst z
      exact ⟨_, he, fun v q => nomatch q⟩
    · have z := List.mem_singleton.mp z
      subst z
      exact ⟨o, ho, fun v q => by rw [hd] at q; cases q⟩
  keep := fun i h h' st k => let ⟨⟨old, he⟩, hi, hne⟩ := st; ⟨⟨old, k e List.mem_cons_self _ he⟩, hi.at fun o q => k it (by simp) o q, hne⟩
  item := by
    intro X hP hw hK hc i pins s σ H E I hf st hg
    subst hP hw hK
    obtain ⟨⟨old, he⟩, hit, hne⟩ := st
    obtain ⟨xs, x, hq, hx⟩ := hg
    obtain ⟨its, rv, p, hz⟩ := I.tuple hq
    obtain ⟨u, hu, ru⟩ := rv.get hx
    have hp : s.heap.IsTuple a its.toArray := p
    have hel : e < s.heap.objs.size := Heap.lt_size he
    have hil : it < s.heap.objs.size := by
      obtain ⟨_, q, _⟩ := hit
      exact Heap.lt_size q
    have hlt : i < its.toArray.size := by
      rw [List.size_toArray]
      exact (List.getElem?_eq_some_iff.mp hu).1
    refine wpAny_pyNext_enum_itemD (Draws.tuple (A := X.A.in1) (I.ok.hd hc) it a hia its.toArray) he ⟨hit, hp⟩ hlt hne (by simp [hne, hea.symm]) fun y h' tk py ho st' hT _ hk => ?_
    have ey : y = u := by
      rw [List.getElem?_toArray, hu] at py
      exact (Option.some.inj py).symm
    subst ey
    refine ⟨_, rfl, wpAny_letOwnedTupleGo_enum (s := { s with heap := h', toks := tk + 1 }) ho fun h'' he' sb => ?_⟩
    have hT2 : h''.get? s.heap.objs.size = some { cls := .type "tuple", data := .seq #[.int i tk, y] } := (sb.2 _ (Nat.ne_of_gt hel)).trans hT
    have new : ObjOk X.prog X.w (upd H s.heap.objs.size (.tup [.int (i : Nat), x])) h'' s.heap.objs.size (.tup [.int (i : Nat), x]) :=
      ⟨by show 2 ≤ sizeLine; decide, [.int i tk, y], .cons ⟨_, rfl⟩ (.cons ru .nil), ⟨_, hT2, rfl, _, rfl⟩⟩
    have I1 : Inv X pins σ (upd H s.heap.objs.size (.tup [.int (i : Nat), x])) { s with heap := h'', toks := tk + 1 } :=
      I.turnedNew (ch := [e, it]) (fun b ob hb q => (sb.2 b (fun z => hb (by simp [z]))).trans (hk b ob (fun z => hb (by simp [z])) (fun z => hb (by simp [z])) q)) hf (Nat.le_refl _) new
    refine ⟨.ref s.heap.objs.size, _, I1, rfl, ⟨_, x, rfl, I.hok.fresh (Nat.le_refl _), rfl, fun ys hy => by rw [I.tuple_inj hy hq]; exact hx⟩, ⟨⟨y, ?_⟩, st'.1.at fun o q => (sb.2 it (Ne.symm hne)).trans q, hne⟩, fun b hb => ?_⟩
    · have e1 : ((i + 1 : Nat) : Int) = (i : Int) + 1 := by omega
      rw [e1]
      exact he'
    · have hb' : b < s.heap.objs.size := by
        rcases List.mem_cons.mp hb with z | z
        · rw [z]
          exact hel
        · rw [List.mem_singleton.mp z]
          exact hil
      rw [upd_ne (Nat.ne_of_lt hb')]
      exact (hf b hb).1
  done := by
    intro X hP hw hK hc i pins s σ H E I hf st hg
    subst hP hw hK
    obtain ⟨⟨old, he⟩, hit, hne⟩ := st
    obtain ⟨xs, hq, hx⟩ := hg
    obtain ⟨its, rv, p, hz⟩ := I.tuple hq
    have hp : s.heap.IsTuple a its.toArray := p
    obtain ⟨f0, f1, f2, f3, f4, f5⟩ := hf it (by simp)
    have hl := rv.length
    have hi : its.toArray.size = i := by
      rw [List.size_toArray]
      omega
    subst hi
    exact wpAny_pyNext_enum_endD (Draws.tuple (A := X.A.in1) (I.ok.hd hc) it a hia its.toArray) he ⟨hit, hp⟩ fun h' eb => ⟨rfl, I.turned (t' := s.toks) (fun b o hb q => eb b o hb q) f0 f1 f3 f4 f5⟩
  self := fun A i s Q E st h => let ⟨⟨_, he⟩, _⟩ := st; wpAny_pyIter_enum he h
def iEnumT (K : PySem.W.Frag) (ta : TA) : TI := fun σ H R => ta σ H fun vs H1 => ∃ a xs, vs = [.ref a] ∧ SqT K H1 a xs ∧ R (IteT K a) H1
theorem pi_enumT {X : Cx} {e : Expr} {ta : TA} {p pos tpos : Pos} {elts : List Expr} {kk : Nat} (hg : Gl X "enumerate") (hm : X.mg "enumerate" = none) (ha : PA X [e] ta) (hs : starEach [e] X.env = [(false, eval e X.env)] := by rfl) :
    PI X (.Tuple elts kk tpos) (.Call (.Name "enumerate" p) [e] [] pos) (iEnumT X.K ta) := by
  refine ⟨fun pins s σ H R I h => ?_⟩
  refine Call_ (ld_blt I hg hm boot_enumerate (PyProof.Rows.callWith_type1 (thn (ha.run pos pins s σ H _ I h) fun us s1 ⟨vs, H1, I1, r1, q1⟩ => ?_) hs rfl))
  obtain ⟨a, xs, ex, hq, q⟩ := q1
  subst ex
  cases r1 with
  | cons r rr =>
    cases rr
    cases r
    obtain ⟨its, rv, p', hz⟩ := I1.tuple hq
    obtain ⟨o, ho, _⟩ := id p'
    have hal := Heap.lt_size ho
    refine call_enumT (show s1.heap.IsTuple a its.toArray from p') fun h' he hit hk => wpAny_pyIter_enum he ?_
    have I2 : Inv X pins σ H1 { s1 with heap := h' } := I1.kept (t' := s1.toks) hk
    refine ⟨s1.heap.objs.size + 1, [s1.heap.objs.size + 1, s1.heap.objs.size], _, _, H1, rfl, I2, turn_enumT a (s1.heap.objs.size + 1) s1.heap.objs.size (Nat.ne_of_lt (Nat.lt_succ_of_lt hal)) (Nat.ne_of_lt hal), ⟨⟨.none, he⟩, hit, Nat.succ_ne_self _⟩, fun b hb => ?_, q⟩
    have hle : s1.heap.objs.size ≤ b := by
      rcases List.mem_cons.mp hb with z | z
      · rw [z]
        exact Nat.le_add_right _ _
      · rw [List.mem_singleton.mp z]
        exact Nat.le_refl _
    exact I1.fpOk hle (I1.hok.fresh hle)
section
variable {K : PySem.W.Frag} {ρ : Rho} {xs : List PyData} {te : TE} {wi wi1 : TI} {g g1 : TG}
theorem walk_enumT {a : Addr} {vs : List V} : Walk (IteT K a) vs.length (fun H => SqT K H a vs) (YPair (fun i => some (.int (i : Nat))) (fun i => vs[i]?)) := by
  refine ⟨fun i _ hi q => ⟨vs, vs[i], q, List.getElem?_eq_getElem hi⟩, fun _ q => ⟨vs, q, rfl⟩, fun i H v H' _ q y => ?_⟩
  obtain ⟨T, x, h1, h2, h3, h4⟩ := y
  exact ⟨T, .int (i : Nat), x, h1, h2, h3, rfl, h4 vs q⟩
theorem dw_enumT {ta : TA} (h : Da K ta ρ [.tuple xs]) : Dw K (iEnumT K ta) ρ (nums xs) := fun G σ H z E R q => h G σ H z E _ fun ws G1 H1 a1 d1 => by
  cases d1 with
  | cons p1 d1 =>
    cases d1
    cases p1 with
    | tup hs ha =>
      rename_i a vs
      refine ⟨a, vs, rfl, ex_t a1.i hs, q _ G1 H1 a1 ?_⟩
      rw [nums_len, ← DpAll.len ha]
      refine (walk_enumT (K := K) (a := a) (vs := vs)).mono (fun H' z => ex_t z hs) fun i H' y H'' hi z hy G2 e1 e2 => ?_
      obtain ⟨T, x, w, rfl, hT, rfl, h1, h2⟩ := hy
      obtain ⟨d, k1, k2⟩ := dpa_get ha h2
      have h1 := Option.some.inj h1
      subst h1
      have n := new_up (o := .tup [.int (i : Nat), w]) e2 hT
      exact ⟨_, _, n, nums_at k1, .tup (.inl (.inl upd_same)) (.cons (.int _) (.cons (dp_ex (e1.trans n.g) k2) .nil))⟩
end
end Ow
/-! ## part OwSet -/
set_option Elab.async false
set_option linter.all false
set_option maxRecDepth 100000
set_option maxHeartbeats 4000000
/-! OwSet: a set of tuples of numbers, nested. -/
namespace Ow
open PySem PySem.Spec PyProof.Rows L2
/-! ### keys of numbers alone -/
mutual
def numK : NestedKey → Bool
  | .num _ => true
  | .tup ks => numKs ks
  | _ => false
def numKs : List NestedKey → Bool
  | [] => true
  | k :: ks => numK k && numKs ks
end
section
variable {P : Program} {w : World} {A : Around} {E : Value → Shared → Prop} {s : Shared}
def NoCls (P : Program) (w : World) (n : Nat) (s : Shared) (v : Value) : Prop := ∀ (A : Around) (E : Value → Shared → Prop) (Q : Bool → Shared → Prop), Q false s → wpAny (model P w) A (ofAClassStatement n v) Q E s
def ByVal (P : Program) (w : World) (n : Nat) (s : Shared) (v : Value) : Prop := ∀ (A : Around) (E : Value → Shared → Prop) (Q : Bool → Shared → Prop), Q true s → wpAny (model P w) A (hashByValue n v) Q E s
theorem noCls_tup {n m : Nat} {a : Addr} {o : Obj} {vs : Array Value} (ho : s.heap.get? a = some o) (hc : o.cls = .type "tuple") (hd : o.data = .seq vs m) (h : ∀ v ∈ vs.toList, NoCls P w n s v) : NoCls P w (n + 1) s (.ref a) := fun A E Q q => by
  have hT : s.TypeIs (.ref a) "tuple" := ⟨o, ho, hc⟩
  unfold ofAClassStatement
  refine wpAny_bind (wpAny_typeOf hT ?_)
  dsimp only
  have e : (("tuple" : String) == "tuple") = true := by decide
  simp only [e, if_true, Bool.not_true, Bool.false_eq_true, if_false]
  try refine wpAny_bind (wpAny_pure ?_)
  try simp only [Bool.not_true, Bool.false_eq_true, if_false]
  show wpAny _ _ (seqItems? (.ref a) >>= _) _ _ s
  refine wpAny_bind (wpAny_seqItems ho hd ?_)
  dsimp only
  refine wpAny_bind ?_
  show wpAny _ _ (forIn vs _ _) _ _ s
  rw [← Array.forIn_toList]
  refine wpAny_forIn_list _ (fun rest r s' => r.1 = none ∧ s' = s ∧ ∀ v ∈ rest, NoCls P w n s v) _ ?_ ?_ _ _ ⟨rfl, rfl, h⟩
  · rintro v rest r s' ⟨hr, rfl, hall⟩
    refine wpAny_bind (hall v List.mem_cons_self _ _ _ ?_)
    simp only [Bool.false_eq_true, if_false]
    exact wpAny_pure ⟨rfl, rfl, fun u hu => hall u (List.mem_cons_of_mem _ hu)⟩
  · rintro ⟨r1, r2⟩ s' ⟨hr, rfl, _⟩
    simp only at hr
    subst hr
    exact wpAny_pure q
theorem byVal_tup {n m : Nat} {a : Addr} {o : Obj} {vs : Array Value} (ho : s.heap.get? a = some o) (hc : o.cls = .type "tuple") (hd : o.data = .seq vs m) (h : ∀ v ∈ vs.toList, ByVal P w n s v) : ByVal P w (n + 1) s (.ref a) := fun A E Q q => by
  have hT : s.TypeIs (.ref a) "tuple" := ⟨o, ho, hc⟩
  unfold hashByValue
  refine wpAny_bind (wpAny_specialOf hT F.slot_tuple_hash.lookup ?_)
  show wpAny _ _ (seqItems? (.ref a) >>= _) _ _ s
  refine wpAny_bind (wpAny_seqItems ho hd (wpAny_bind ?_))
  show wpAny _ _ (forIn vs _ _) _ _ s
  rw [← Array.forIn_toList]
  refine wpAny_forIn_list _ (fun rest r s' => r.1 = none ∧ s' = s ∧ ∀ v ∈ rest, ByVal P w n s v) _ ?_ ?_ _ _ ⟨rfl, rfl, h⟩
  · rintro v rest r s' ⟨hr, rfl, hall⟩
    refine wpAny_bind (hall v List.mem_cons_self _ _ _ ?_)
    simp only [Bool.not_true, Bool.false_eq_true, if_false]
    exact wpAny_pure ⟨rfl, rfl, fun u hu => hall u (List.mem_cons_of_mem _ hu)⟩
  · rintro ⟨r1, r2⟩ s' ⟨hr, rfl, _⟩
    simp only at hr
    subst hr
    exact wpAny_pure q
theorem noCls_flat {n : Nat} {v : Value} (h : (∃ b, v = .bool b) ∨ ∃ i t, v = .int i t) : NoCls P w n s v := fun A E Q q => by
  rcases h with ⟨b, rfl⟩ | ⟨i, t, rfl⟩ <;> cases n <;> exact wpAny_pure q
theorem byVal_flat {n : Nat} {v : Value} (h : (∃ b, v = .bool b) ∨ ∃ i t, v = .int i t) : ByVal P w n s v := fun A E Q q => by
  rcases h with ⟨b, rfl⟩ | ⟨i, t, rfl⟩ <;> cases n <;> exact wpAny_pure q
mutual
theorem key_noCls : ∀ (k : NestedKey) (v : Value) (n : Nat) (s : Shared), NestedIs s.heap k v → numK k = true → k.depth ≤ n → NoCls P w n s v
  | .none, _, n, s, x, h, _ => absurd h (by simp [numK])
  | .text _, _, n, s, x, h, _ => absurd h (by simp [numK])
  | .num i, _, n, s, x, h, _ => by
    cases x with
    | bool e => exact noCls_flat (.inl ⟨_, rfl⟩)
    | int i t => exact noCls_flat (.inr ⟨_, _, rfl⟩)
  | .tup ks, _, n, s, x, h, hn => by
    cases x with
    | tup hg hc hd hk =>
      simp only [NestedKey.depth] at hn
      cases n with
      | zero => omega
      | succ n => exact noCls_tup hg hc hd (keys_noCls ks _ n s hk (by simpa [numK] using h) (by omega))
theorem keys_noCls : ∀ (ks : List NestedKey) (vs : List Value) (n : Nat) (s : Shared), NestedAll s.heap ks vs → numKs ks = true → NestedKey.depthAll ks ≤ n → ∀ v ∈ vs, NoCls P w n s v
  | [], _, n, s, x, _, _, v, hv => by
    cases x
    cases hv
  | k :: ks, _, n, s, x, h, hn, v, hv => by
    cases x with
    | cons x1 x2 =>
      simp only [NestedKey.depthAll] at hn
      have h2 : numK k = true ∧ numKs ks = true := by
        have := h
        rw [numKs, Bool.and_eq_true] at this
        exact this
      rcases List.mem_cons.mp hv with e | hv
      · rw [e]
        exact key_noCls k _ n s x1 h2.1 (by omega)
      · exact keys_noCls ks _ n s x2 h2.2 (by omega) v hv
end
mutual
theorem key_byVal : ∀ (k : NestedKey) (v : Value) (n : Nat) (s : Shared), NestedIs s.heap k v → numK k = true → k.depth ≤ n → ByVal P w n s v
  | .none, _, n, s, x, h, _ => absurd h (by simp [numK])
  | .text _, _, n, s, x, h, _ => absurd h (by simp [numK])
  | .num i, _, n, s, x, h, _ => by
    cases x with
    | bool e => exact byVal_flat (.inl ⟨_, rfl⟩)
    | int i t => exact byVal_flat (.inr ⟨_, _, rfl⟩)
  | .tup ks, _, n, s, x, h, hn => by
    cases x with
    | tup hg hc hd hk =>
      simp only [NestedKey.depth] at hn
      cases n with
      | zero => omega
      | succ n => exact byVal_tup hg hc hd (keys_byVal ks _ n s hk (by simpa [numK] using h) (by omega))
theorem keys_byVal : ∀ (ks : List NestedKey) (vs : List Value) (n : Nat) (s : Shared), NestedAll s.heap ks vs → numKs ks = true → NestedKey.depthAll ks ≤ n → ∀ v ∈ vs, ByVal P w n s v
  | [], _, n, s, x, _, _, v, hv => by
    cases x
    cases hv
  | k :: ks, _, n, s, x, h, hn, v, hv => by
    cases x with
    | cons x1 x2 =>
      simp only [NestedKey.depthAll] at hn
      have h2 : numK k = true ∧ numKs ks = true := by
        have := h
        rw [numKs, Bool.and_eq_true] at this
        exact this
      rcases List.mem_cons.mp hv with e | hv
      · rw [e]
        exact key_byVal k _ n s x1 h2.1 (by omega)
      · exact keys_byVal ks _ n s x2 h2.2 (by omega) v hv
end
end
/-- the tuple at a is the key k, of numbers alone -/
structure IsN (P : Program) (w : World) (h : Heap) (k : NestedKey) (a : Addr) : Prop where
  is : (nestedKind P w).is h k a
  num : numK k = true
abbrev nhash (P : Program) (w : World) (k : NestedKey) : Int := (nestedKind P w).hash k
section
variable {P : Program} {w : World} {A : Around} {E : Value → Shared → Prop} {s : Shared}
theorem IsN.at {h h' : Heap} {k : NestedKey} {a : Addr} (x : IsN P w h k a) (kp : ∀ b o vs n, h.get? b = some o → o.data = .seq vs n → h'.get? b = some o) : IsN P w h' k a :=
  ⟨⟨NestedIs.at (fun b ob vs n hb hc => kp b ob vs n hb hc) k _ x.is.1, x.is.2⟩, x.num⟩
theorem IsN.beside {h h' : Heap} {k : NestedKey} {a b : Addr} {o : Obj} {es : Array (Int × Value)} {ep : Nat} {t : SetTable} (x : IsN P w h k b) (ho : h.get? a = some o) (hd : o.data = .set es ep t) (hs : Heap.SameBut a h h') : IsN P w h' k b :=
  x.at fun c oc vs n e ed => (hs.2 c fun z => by
    subst z
    rw [ho] at e
    cases e
    rw [hd] at ed
    cases ed).trans e
theorem IsN.quiet {k : NestedKey} {b : Addr} {Q : Bool → Shared → Prop} (x : IsN P w s.heap k b) (h : Q true s) : wpAny (model P w) A (eqIsQuiet 8 (.ref b)) Q E s := (nestedKind P w).quiet x.is h
theorem IsN.noCls {k : NestedKey} {b : Addr} {Q : Bool → Shared → Prop} (x : IsN P w s.heap k b) (h : Q false s) : wpAny (model P w) A (ofAClassStatement 8 (.ref b)) Q E s := key_noCls k _ 8 s x.is.1 x.num x.is.2 A E Q h
theorem IsN.byVal {k : NestedKey} {b : Addr} {Q : Bool → Shared → Prop} (x : IsN P w s.heap k b) (h : Q true s) : wpAny (model P w) A (hashByValue 8 (.ref b)) Q E s := key_byVal k _ 8 s x.is.1 x.num x.is.2 A E Q h
/-- the search shows nothing -/
theorem seenN {k : NestedKey} {b : Addr} {Q : Bool → Shared → Prop} (hk : IsN P w s.heap k b) {ys : List Value} (hy : ∀ y ∈ ys, ∃ k' c, y = Value.ref c ∧ IsN P w s.heap k' c) (h : Q false s) : wpAny (model P w) A (searchCouldBeSeen (.ref b) ys) Q E s := by
  unfold searchCouldBeSeen
  refine wpAny_bind (wpAny_forIn_list _ (fun rest r s' => r.1 = none ∧ s' = s ∧ ∀ y ∈ rest, ∃ k' c, y = Value.ref c ∧ IsN P w s.heap k' c) _ ?_ ?_ _ _ ⟨rfl, rfl, hy⟩)
  · rintro v rest r s' ⟨_, rfl, all⟩
    obtain ⟨k', c, rfl, hc⟩ := all v List.mem_cons_self
    have next : ∀ y ∈ rest, ∃ k' c, y = Value.ref c ∧ IsN P w s'.heap k' c := fun u hu => all u (List.mem_cons_of_mem _ hu)
    dsimp only
    by_cases hv : (b == c || (carriedByValue (.ref b) && carriedByValue (.ref c))) = true
    · exact wp_if_pos hv (wpAny_pure ⟨rfl, rfl, next⟩)
    · refine wp_if_neg hv (wpAny_bind (hk.quiet ?_))
      simp only [Bool.not_true, Bool.false_eq_true, if_false]
      refine wpAny_bind (hc.quiet ?_)
      simp only [Bool.not_true, Bool.false_eq_true, if_false]
      refine wpAny_bind (hk.noCls ?_)
      simp only [Bool.false_eq_true, if_false]
      refine wpAny_bind (hc.noCls ?_)
      simp only [Bool.false_eq_true, if_false]
      exact wpAny_pure ⟨rfl, rfl, next⟩
  · rintro ⟨r1, r2⟩ s' ⟨hr, rfl, _⟩
    simp only at hr
    subst hr
    exact wpAny_pure h
end
/-! ### the set -/
abbrev PK := Addr × NestedKey
abbrev hashesN (P : Program) (w : World) (L : List PK) : List Int := L.map fun p => nhash P w p.2
abbrev rowsN (P : Program) (w : World) (L : List PK) : List (Int × Value) := L.map fun p => (nhash P w p.2, Value.ref p.1)
structure SetN (P : Program) (w : World) (h : Heap) (a : Addr) (L : List PK) (es : Array (Int × Value)) (ep : Nat) (t : SetTable) : Prop where
  ob : ∃ o, h.get? a = some o ∧ o.ExactSet ∧ o.data = .set es ep t
  rows : es.toList = rowsN P w L
  tab : TabOk t (hashesN P w L)
  nd : (L.map Prod.snd).Nodup
  keys : ∀ p ∈ L, IsN P w h p.2 p.1
  plain : t.plain = true
  led : w.params.followText "set-order" = true ∨ t.led = true
  room : L.length * 5 < t.mask * 3
  few : L.length < 64
section
variable {P : Program} {w : World} {A : Around} {E : Value → Shared → Prop} {s : Shared} {a : Addr} {L : List PK} {es : Array (Int × Value)} {ep : Nat} {t : SetTable}
theorem rowsN_len (es : Array (Int × Value)) (L : List PK) (h : es.toList = rowsN P w L) : es.size = L.length := by
  have z := congrArg List.length h
  unfold rowsN at z
  rw [Array.length_toList, List.length_map] at z
  exact z
theorem hashesN_len : (hashesN P w L).length = L.length := by
  unfold hashesN
  rw [List.length_map]
theorem SetN.entry (R : SetN P w s.heap a L es ep t) {i : Nat} {p : PK} (h : L[i]? = some p) : es[i]? = some (nhash P w p.2, Value.ref p.1) := by
  rw [← Array.getElem?_toList, R.rows]
  unfold rowsN
  rw [List.getElem?_map, h]
  rfl
theorem SetN.fits (R : SetN P w s.heap a L es ep t) : t.fits es.size = true := by
  have h1 := R.tab.sz
  rw [hashesN_len] at h1
  have h2 := rowsN_len es L R.rows
  have h3 := R.room
  unfold SetTable.fits SetTable.fill
  rw [R.tab.dm, Bool.and_eq_true, beq_iff_eq, decide_eq_true_eq]
  show t.place.size = es.size ∧ t.place.size + 0 ≤ t.mask
  omega
theorem SetN.gw (R : SetN P w s.heap a L es ep t) : ¬ t.gaveWay = true := by
  unfold SetTable.gaveWay
  rw [mask_odd R.tab.mok]
  decide
theorem nth_dummy (m : Nat) : ∀ (n : Nat) (p : SetTable.Probe), p.dummy = none → (nth m p n).dummy = none
  | 0, _, h => h
  | n + 1, p, h => nth_dummy m n (adv m p) (by
    unfold adv
    split <;> exact h)
/-- where the c-th step of the way of the hash h stands -/
abbrev stepAt (m : Nat) (h : Int) (c : Nat) : SetTable.Probe := nth m (runAt m (SetTable.bits h % (m + 1)) (SetTable.bits h)) c
theorem stepAt_add (m : Nat) (h : Int) (c q : Nat) : nth m (stepAt m h c) q = stepAt m h (c + q) := (nth_add m c _ q).symm
theorem search_fromN (R : SetN P w s.heap a L es ep t) {x : Addr} {k : NestedKey} (hx : IsN P w s.heap k x) (hu : A.units + 8 < cLine) {K : Nat} (hKf : K < 10 * SetTable.turns t.mask) (hK : way t.mask (nhash P w k) K ∉ t.place.toList)
    (hKb : ∀ c, c < K → way t.mask (nhash P w k) c ∈ t.place.toList) (hnew : k ∉ L.map Prod.snd) {Q : SetFound → Shared → Prop} (hout : Q (.free (way t.mask (nhash P w k) K) false) s) :
    ∀ (f c : Nat) (stand : Option SetTable.Probe), stand.getD (t.probeStart (nhash P w k)) = stepAt t.mask (nhash P w k) c → c ≤ K → K - c < f → wpAny (model P w) A (setSearchFrom a (.ref x) (nhash P w k) true f stand) Q E s := by
  intro f
  induction f with
  | zero => intro c stand _ _ hf; exact absurd hf (Nat.not_lt_zero _)
  | succ f ih =>
    intro c stand hst hc hf
    obtain ⟨o, ho, hex, hd⟩ := R.ob
    rw [setSearchFrom_succ]
    refine wpAny_bind (wpAny_setState_of ho hd R.fits ?_)
    dsimp only
    refine wp_if_neg R.gw ?_
    try refine wpAny_bind (wpAny_pure ?_)
    have hnd : (stepAt t.mask (nhash P w k) c).dummy = none := nth_dummy _ c _ rfl
    have e1 : ∀ q, (nth t.mask (stepAt t.mask (nhash P w k) c) q).j = way t.mask (nhash P w k) (c + q) := fun q => congrArg SetTable.Probe.j (stepAt_add t.mask (nhash P w k) c q)
    rcases go_spec t R.tab.ris R.tab.dm (fun i => (es[i]?.map (·.1)).getD 0) (nhash P w k) (10 * SetTable.turns t.mask) (K - c) _ hnd (by omega) (fun q hq => by rw [e1]; exact hKb (c + q) (by omega)) (by rw [e1, show c + (K - c) = K by omega]; exact hK) with ⟨q, i, hq, hi, hh, hno, hpr⟩ | ⟨hno, hpr⟩
    · -- another one of the same hash on the way
      have hpr2 : t.probe (fun i => (es[i]?.map (·.1)).getD 0) (nhash P w k) (stand.getD (t.probeStart (nhash P w k))) = some (.candidate (way t.mask (nhash P w k) (c + q)) i (stepAt t.mask (nhash P w k) (c + (q + 1)))) := by
        rw [hst, ← e1, ← stepAt_add]
        exact hpr
      rw [hpr2]
      dsimp only
      rw [e1] at hi
      have hil : i < L.length := by
        have z1 : i < t.place.toList.length := (List.getElem?_eq_some_iff.mp hi).1
        have z2 := R.tab.sz
        rw [hashesN_len] at z2
        rw [Array.length_toList] at z1
        omega
      obtain ⟨p, hp⟩ : ∃ p, L[i]? = some p := ⟨_, List.getElem?_eq_getElem hil⟩
      have hmem : p ∈ L := List.mem_of_getElem? hp
      have hne : p.2 ≠ k := fun z => hnew (List.mem_map.mpr ⟨p, hmem, z⟩)
      have rest : wpAny (model P w) A (searchRest a (.ref x) (nhash P w k) true f es t (way t.mask (nhash P w k) (c + q)) i (stepAt t.mask (nhash P w k) (c + (q + 1)))) Q E s := by
        unfold searchRest
        rw [R.entry hp]
        dsimp only
        refine wpAny_bind (wpAny_holding ((nestedKind P w).eqBool hu (R.keys p hmem).is hx.is ?_))
        refine wpAny_bind (wpAny_setState_of ho hd R.fits ?_)
        dsimp only
        refine wp_if_neg (by simp [hne]) ?_
        try refine wpAny_bind (wpAny_pure ?_)
        rw [sameMem]
        dsimp only
        have hsl : t.slot (way t.mask (nhash P w k) (c + q)) = .live i := slot_live R.tab.ris hi
        simp only [if_true, hsl, R.entry hp]
        refine wpAny_bind (wpAny_isSame_ref_self (wpAny_bind (wpAny_pure ?_)))
        simp only [if_true]
        exact wp_if_neg (by simp [hne]) (ih (c + (q + 1)) _ rfl (by omega) (by omega))
      by_cases hl : t.led = true
      · refine wp_if_neg (by simp [hl]) ?_
        try refine wpAny_bind (wpAny_pure ?_)
        exact rest
      · refine wp_if_pos (by simp [hl]) (wpAny_bind (seenN hx (fun y hy => ?_) ?_))
        · obtain ⟨e, he, ee⟩ := List.mem_map.mp hy
          have he1 : e ∈ es ∧ e.1 = nhash P w k := by simpa using he
          have he2 : e ∈ es.toList := by simpa using he1.1
          rw [R.rows] at he2
          obtain ⟨p2, hp2, e2⟩ := List.mem_map.mp he2
          exact ⟨p2.2, p2.1, by rw [← ee, ← e2], R.keys p2 hp2⟩
        · refine wp_if_neg (by decide) ?_
          try refine wpAny_bind (wpAny_pure ?_)
          exact rest
    · have hpr2 : t.probe (fun i => (es[i]?.map (·.1)).getD 0) (nhash P w k) (stand.getD (t.probeStart (nhash P w k))) = some (.empty (way t.mask (nhash P w k) K) none) := by
        have e2 : way t.mask (nhash P w k) K = (nth t.mask (stepAt t.mask (nhash P w k) c) (K - c)).j := by
          rw [e1, show c + (K - c) = K by omega]
        rw [hst, e2]
        exact hpr
      rw [hpr2]
      dsimp only
      exact wpAny_pure hout
theorem search_atN (R : SetN P w s.heap a L es ep t) {x : Addr} {k : NestedKey} (hx : IsN P w s.heap k x) (hu : A.units + 8 < cLine) (hnew : k ∉ L.map Prod.snd) {Q : SetFound → Shared → Prop}
    (hout : ∀ K, way t.mask (nhash P w k) K ∉ t.place.toList → (∀ c, c < K → way t.mask (nhash P w k) c ∈ t.place.toList) → Q (.free (way t.mask (nhash P w k) K) false) s) : wpAny (model P w) A (setSearch a (.ref x) (nhash P w k) true) Q E s := by
  have hroom := R.room
  obtain ⟨K, hKf, hK, hKb⟩ := R.tab.first (by rw [hashesN_len]; omega) (nhash P w k)
  have big : K < 100000 := by
    have : 10 * SetTable.turns t.mask ≤ 1420 := by
      unfold SetTable.turns
      rcases R.tab.mok with e | e | e <;> omega
    omega
  unfold setSearch
  exact search_fromN R hx hu hKf hK hKb hnew (hout K hK hKb) 100000 0 none rfl (Nat.zero_le _) (by omega)
end
end Ow
/-! ## part OwSet2 -/
set_option Elab.async false
set_option linter.all false
set_option maxRecDepth 100000
set_option maxHeartbeats 4000000
/-! OwSet2: adding to the set; the comprehension; its length. -/
namespace Ow
open PySem PySem.Spec PyProof.Rows L2
open Evl (Ex Ex.refl Ex.trans Ex.new ex_rd ex_l ex_t fresh_back)
section
variable {P : Program} {w : World} {A : Around} {E : Value → Shared → Prop} {s : Shared}
theorem rowsN_put (L : List PK) (p : Nat) (x : Addr) (k : NestedKey) : rowsN P w (L.take p ++ (x, k) :: L.drop p) = (rowsN P w L).take p ++ (nhash P w k, Value.ref x) :: (rowsN P w L).drop p := by
  unfold rowsN
  rw [List.map_append, List.map_cons, List.map_take, List.map_drop]
theorem order_rowsN (L : List (Addr × NestedKey)) (es : Array (Int × Value)) (order : Array Nat) (hr : es.toList = rowsN P w L) (hp : order.toList.Perm (List.range L.length)) :
    ∃ L2, (order.filterMap (es[·]?)).toList = rowsN P w L2 ∧ L2.Perm L ∧ (hashesN P w L2) = order.toList.map fun i => (es.map (·.1)).getD i 0 := by
  have hsz : es.size = L.length := by
    have h := congrArg List.length hr
    unfold rowsN at h
    rw [Array.length_toList, List.length_map] at h
    exact h
  have ent : ∀ i (h : i < L.length), es[i]? = some (nhash P w (L[i]).2, Value.ref (L[i]).1) := fun i h => by
    rw [← Array.getElem?_toList, hr]
    unfold rowsN
    rw [List.getElem?_map, List.getElem?_eq_getElem h] <;> rfl
  have key : ∀ l : List Nat, (∀ i ∈ l, i < L.length) → ∃ L2 : List (Addr × NestedKey), l.filterMap (fun i => es[i]?) = rowsN P w L2 ∧ L2 = l.filterMap (fun i => L[i]?) ∧ (hashesN P w L2) = l.map fun i => (es.map (·.1)).getD i 0 := by
    intro l
    induction l with
    | nil => intro _; exact ⟨[], rfl, rfl, rfl⟩
    | cons i l ih =>
      intro hl
      have hi := hl i List.mem_cons_self
      obtain ⟨L2, e1, e2, e3⟩ := ih fun j hj => hl j (List.mem_cons_of_mem _ hj)
      refine ⟨L[i] :: L2, ?_, ?_, ?_⟩
      · rw [List.filterMap_cons_some (ent i hi), e1] <;> rfl
      · rw [List.filterMap_cons_some (List.getElem?_eq_getElem hi), e2]
      · show nhash P w (L[i]).2 :: _ = _
        rw [List.map_cons, ← e3]
        have hi2 : i < (es.map (·.1)).size := by rw [Array.size_map, hsz]; exact hi
        have e4 : (es.map (·.1)).getD i 0 = nhash P w (L[i]).2 := by
          have e5 : (es.map (·.1))[i]? = some (nhash P w (L[i]).2) := by rw [Array.getElem?_map, ent i hi] <;> rfl
          simp [Array.getD_eq_getD_getElem?, e5]
        rw [e4]
  obtain ⟨L2, e1, e2, e3⟩ := key order.toList fun i hi => List.mem_range.mp (hp.mem_iff.mp hi)
  refine ⟨L2, by first | (rw [Array.toList_filterMap]; exact e1) | simpa using e1, ?_, e3⟩
  have h1 : L2.Perm ((List.range L.length).filterMap fun i => L[i]?) := by
    rw [e2]
    exact hp.filterMap _
  have h2 : (List.range L.length).filterMap (fun i => L[i]?) = L := by
    have key2 : ∀ n, n ≤ L.length → (List.range n).filterMap (fun i => L[i]?) = L.take n := by
      intro n
      induction n with
      | zero => intro _; rfl
      | succ n ih =>
        intro hn
        have hlt : n < L.length := hn
        rw [List.range_succ, List.filterMap_append, ih (Nat.le_of_lt hlt), List.take_succ, List.getElem?_eq_getElem hlt]
        rw [List.filterMap_cons_some (List.getElem?_eq_getElem hlt)] <;> rfl
    rw [key2 L.length (Nat.le_refl _), List.take_length]
  rw [h2] at h1
  exact h1

variable {a : Addr} {L : List PK} {es : Array (Int × Value)} {ep : Nat} {t : SetTable}
theorem relayN {o : Obj} (ho : s.heap.get? a = some o) (hex : o.ExactSet) (hd : o.data = .set es ep t) (hrows : es.toList = rowsN P w L) (hsz : t.place.size = es.size) (hdm : t.dummies = #[]) (hfl : es.size ≤ t.mask)
    (nd : (L.map Prod.snd).Nodup) (tup : ∀ p ∈ L, IsN P w s.heap p.2 p.1) (pl : t.plain = true) (ld : w.params.followText "set-order" = true ∨ t.led = true) (few : L.length < 64) {wanted M : Nat}
    (hw : SetTable.sizeAbove wanted - 1 = M) (hM : MaskOk M) (hw2 : SetTable.sizeAbove wanted ≤ 128) (hn : L.length * 5 < M * 3) {Q : Unit → Shared → Prop}
    (hQ : ∀ h' L' es' ep' t', Heap.SameBut a s.heap h' → SetN P w h' a L' es' ep' t' → L'.Perm L → Q () { s with heap := h' }) : wpAny (model P w) A (setRelay a wanted) Q E s := by
  have hsl : es.size = L.length := by
    have h := congrArg List.length hrows
    unfold rowsN at h
    rw [Array.length_toList, List.length_map] at h
    exact h
  have hfits : t.fits es.size = true := by
    unfold SetTable.fits SetTable.fill
    rw [hdm, Bool.and_eq_true, beq_iff_eq, decide_eq_true_eq]
    show t.place.size = es.size ∧ t.place.size + 0 ≤ t.mask
    omega
  obtain ⟨t', order, e, hp, T, em, el, ep', ed⟩ := relaid_ok t (hs := es.map (·.1)) (wanted := wanted) hw hM (by rw [Array.size_map, hsl]; omega)
  rw [Array.size_map, hsl] at hp
  obtain ⟨L2, r1, r2, r3⟩ := order_rowsN L es order hrows hp
  rw [← r3] at T
  have hs2 : (order.filterMap (es[·]?)).size = es.size := by
    have h := congrArg List.length r1
    unfold rowsN at h
    rw [Array.length_toList, List.length_map, r2.length_eq] at h
    rw [h, hsl]
  rw [setRelay_eq]
  refine wpAny_bind (wpAny_setState_of ho hd hfits ?_)
  dsimp only
  refine wp_if_neg (by rw [sizeLine_eq]; omega) ?_
  try refine wpAny_bind (wpAny_pure ?_)
  rw [e]
  dsimp only
  refine wpAny_bind ?_
  refine wp_if_neg (by rw [hs2]; simp) ?_
  try refine wpAny_bind (wpAny_pure ?_)
  refine wpAny_pure ?_
  dsimp only
  refine wpAny_storeSet_of ho hd ?_ (by rw [hs2, hsl, sizeLine_eq]; omega)
  have sb : Heap.SameBut a s.heap (s.heap.update a (Obj.putSet (order.filterMap (es[·]?)) t')) := Heap.SameBut.update ..
  refine hQ _ L2 (order.filterMap (es[·]?)) (ep + 1) t' sb ?_ r2
  refine ⟨⟨_, store_at ho hd, ⟨hex.1, hex.2.1, hex.2.2⟩, rfl⟩, r1, T, ?_, fun p hpm => (tup p (r2.mem_iff.mp hpm)).beside ho hd sb, by rw [ep']; exact pl, by rw [el]; exact ld, ?_, by rw [r2.length_eq]; exact few⟩
  · exact (r2.map Prod.snd).nodup_iff.mpr nd
  · rw [r2.length_eq, em]
    exact hn

theorem add_atN (R : SetN P w s.heap a L es ep t) {x : Addr} {k : NestedKey} (hx : IsN P w s.heap k x) (hu : A.units + 8 < cLine) (hfew : L.length + 1 < 64) {Q : Bool → Shared → Prop}
    (hm : k ∉ L.map Prod.snd) (hQ : ∀ b h' L' es' ep' t', Heap.SameBut a s.heap h' → SetN P w h' a L' es' ep' t' → L'.Perm ((x, k) :: L) → Q b { s with heap := h' }) :
    wpAny (model P w) A (setAddHashed a (.ref x) (nhash P w k)) Q E s := by
  obtain ⟨o, ho, hex, hd⟩ := R.ob
  have hsl := (rowsN_len es L R.rows)
  have hroom := R.room
  unfold setAddHashed
  refine wpAny_holding ?_
  rw [show (100000 : Nat) = 99999 + 1 from rfl, setAddHashedIn_succ]
  refine wpAny_bind (wpAny_setState_of ho hd R.fits ?_)
  dsimp only
  refine wp_if_neg (by simp [byScan, Value.scannable]) ?_
  try refine wpAny_bind (wpAny_pure ?_)
  refine wpAny_bind (search_atN R hx hu hm fun K hK hb => ?_)
  · dsimp only
    refine wpAny_bind (wpAny_setState_of ho hd R.fits ?_)
    dsimp only
    obtain ⟨q1, q2, q3, q4, q5, q6, q7, q8, q9⟩ := R.tab.put hK hb
    have hp1 : (t.put (way t.mask (nhash P w k) K)).1.plain = true := by rw [q6]; exact R.plain
    generalize hpt : t.put (way t.mask (nhash P w k) K) = pt at q1 q3 q4 q5 q6 q7 q8 q9 hp1 ⊢
    obtain ⟨t1, p⟩ := pt
    dsimp only at q1 q3 q4 q5 q6 q7 q8 q9 hp1 ⊢
    subst q1
    first
      | (refine wpAny_bind ?_; refine wp_if_pos hp1 ?_; refine hx.byVal ?_)
      | refine wp_if_pos hp1 (wpAny_bind (hx.byVal ?_))
    simp only [if_true]
    have hin : (SetTable.insertAt es (SetTable.below t.place (way t.mask (nhash P w k) K)) (nhash P w k, Value.ref x)).toList = rowsN P w (L.take (SetTable.below t.place (way t.mask (nhash P w k) K)) ++ (x, k) :: L.drop (SetTable.below t.place (way t.mask (nhash P w k) K))) := by
      rw [SetTable.toList_insertAt, rowsN_put, R.rows]
    generalize hpp : SetTable.below t.place (way t.mask (nhash P w k) K) = p at q2 q3 hin ⊢
    have pm := put_perm L p (x, k)
    have hlen : (L.take p ++ (x, k) :: L.drop p).length = L.length + 1 := pm.length_eq
    have hhs : (L.take p ++ (x, k) :: L.drop p).map (fun p => nhash P w p.2) = (hashesN P w L).take p ++ nhash P w k :: (hashesN P w L).drop p := by
      rw [List.map_append, List.map_cons, List.map_take, List.map_drop]
    rw [← hhs] at q3
    have nd1 : ((L.take p ++ (x, k) :: L.drop p).map Prod.snd).Nodup := by
      refine (pm.map Prod.snd).nodup_iff.mpr ?_
      rw [List.map_cons]
      exact List.nodup_cons.mpr ⟨hm, R.nd⟩
    have hes : (SetTable.insertAt es p (nhash P w k, Value.ref x)).size = L.length + 1 := by
      have h := congrArg List.length hin
      unfold rowsN at h
      rw [Array.length_toList, List.length_map, hlen] at h
      exact h
    generalize SetTable.insertAt es p (nhash P w k, Value.ref x) = es1 at hin hes ⊢
    generalize L.take p ++ (x, k) :: L.drop p = L1 at pm hlen q3 nd1 hin
    refine wpAny_bind (wpAny_storeSet_of ho hd ?_ (by rw [hes, sizeLine_eq]; omega))
    have sb : Heap.SameBut a s.heap (s.heap.update a (Obj.putSet es1 t1)) := Heap.SameBut.update ..
    have ho1 := store_at (es' := es1) (t' := t1) ho hd
    generalize s.heap.update a (Obj.putSet es1 t1) = h1 at sb ho1 ⊢
    have tup1 : ∀ p ∈ L1, IsN P w h1 p.2 p.1 := fun p hp => by
      rcases List.mem_cons.mp (pm.mem_iff.mp hp) with e | hp
      · rw [e]; exact hx.beside ho hd sb
      · exact (R.keys p hp).beside ho hd sb
    have ld1 : w.params.followText "set-order" = true ∨ t1.led = true := by rw [q5]; exact R.led
    by_cases hf : t1.tooFull = true
    · first
        | (refine wpAny_bind ?_; refine wp_if_pos (by simp [hf]) ?_)
        | (refine wp_if_pos (by simp [hf]) ?_; refine wpAny_bind ?_)
      have hfull : (L.length + 1) * 5 ≥ t1.mask * 3 := by
        have h := hf
        unfold SetTable.tooFull at h
        rw [decide_eq_true_eq, q9, List.length_map] at h
        exact h
      rw [hsl]
      have hsz1 : t1.place.size = es1.size := by
        have h := q3.sz
        rw [List.length_map, hlen] at h
        rw [h, hes]
      have cases2 : (t.mask = 7 ∧ L.length = 4) ∨ (t.mask = 31 ∧ L.length = 18) := by
        rcases R.tab.mok with e | e | e
        · left; rw [q4, e] at hfull; rw [e] at hroom; exact ⟨e, by omega⟩
        · right; rw [q4, e] at hfull; rw [e] at hroom; exact ⟨e, by omega⟩
        · exfalso; rw [q4, e] at hfull; omega
      have go : ∀ M, SetTable.sizeAbove (SetTable.grown (L.length + 1)) - 1 = M → MaskOk M → SetTable.sizeAbove (SetTable.grown (L.length + 1)) ≤ 128 → (L.length + 1) * 5 < M * 3 →
          wpAny (model P w) A (setRelay a (SetTable.grown (L.length + 1))) (fun _ s' => wpAny (model P w) A (pure true) Q E s') E { s with heap := h1 } := fun M h1' h2' h3' h4' => by
        refine relayN (s := { s with heap := h1 }) ho1 ⟨hex.1, hex.2.1, hex.2.2⟩ rfl hin hsz1 q3.dm (by rw [hes, q4]; rcases cases2 with ⟨e, e2⟩ | ⟨e, e2⟩ <;> omega) nd1 tup1 hp1 ld1 (by rw [hlen]; exact hfew) h1' h2' h3' (by rw [hlen]; exact h4') ?_
        intro h2 L2 es2 ep2 t2 sb2 R2 pm2
        refine wpAny_pure (hQ true h2 L2 es2 ep2 t2 (sb.trans sb2) R2 (pm2.trans pm))
      rcases cases2 with ⟨_, e2⟩ | ⟨_, e2⟩
      · refine go 31 (by rw [e2, size_20]) (.inr (.inl rfl)) (by rw [e2, size_20]; decide) (by omega)
      · refine go 127 (by rw [e2, size_76]) (.inr (.inr rfl)) (by rw [e2, size_76]; decide) (by omega)
    · first
        | refine wp_if_neg (by simp [hf]) ?_
        | (refine wpAny_bind ?_; refine wp_if_neg (by simp [hf]) ?_; refine wpAny_pure ?_)
      refine wpAny_pure (hQ true h1 L1 es1 (ep + 1) t1 sb ⟨⟨_, ho1, ⟨hex.1, hex.2.1, hex.2.2⟩, rfl⟩, hin, q3, nd1, tup1, hp1, ld1, ?_, by rw [hlen]; exact hfew⟩ pm)
      have h := hf
      unfold SetTable.tooFull at h
      rw [decide_eq_true_eq, q9, List.length_map] at h
      rw [hlen]
      omega
end
section
variable {P : Program} {w : World}
theorem setN_fresh {h : Heap} {a : Addr} (ho : h.get? a = some { cls := .type "set", dict := none, data := .set #[] 0 (.fresh 0 0 (!w.params.followText "set-order")) }) : SetN P w h a [] #[] 0 (.fresh 0 0 (!w.params.followText "set-order")) where
  ob := ⟨_, ho, ⟨rfl, rfl, rfl⟩, rfl⟩
  rows := rfl
  tab := ⟨List.Pairwise.nil, rfl, rfl, .inl rfl, fun x hx => (by cases hx), fun i h j hi => (by simp [hashesN] at hi)⟩
  nd := List.nodup_nil
  keys := fun p hp => (by cases hp)
  plain := rfl
  led := by
    show _ ∨ (!w.params.followText "set-order") = true
    cases w.params.followText "set-order"
    · exact .inr rfl
    · exact .inl rfl
  room := by
    show 0 * 5 < 7 * 3
    decide
  few := by
    show 0 < 64
    decide
/-- the set at a, without its keys -/
structure SetN0 (P : Program) (w : World) (h : Heap) (a : Addr) (L : List PK) : Prop where
  ex : ∃ (es : Array (Int × Value)) (ep : Nat) (t : SetTable), (∃ o, h.get? a = some o ∧ o.ExactSet ∧ o.data = .set es ep t) ∧ es.toList = rowsN P w L ∧ TabOk t (hashesN P w L) ∧ (L.map Prod.snd).Nodup ∧ t.plain = true ∧
    (w.params.followText "set-order" = true ∨ t.led = true) ∧ L.length * 5 < t.mask * 3 ∧ L.length < 64
theorem SetN.n0 {h : Heap} {a : Addr} {L : List PK} {es : Array (Int × Value)} {ep : Nat} {t : SetTable} (R : SetN P w h a L es ep t) : SetN0 P w h a L := ⟨es, ep, t, R.ob, R.rows, R.tab, R.nd, R.plain, R.led, R.room, R.few⟩
theorem SetN0.full {h : Heap} {a : Addr} {L : List PK} (R : SetN0 P w h a L) (hk : ∀ p ∈ L, IsN P w h p.2 p.1) : ∃ es ep t, SetN P w h a L es ep t := by
  obtain ⟨es, ep, t, h1, h2, h3, h4, h5, h6, h7, h8⟩ := R.ex
  exact ⟨es, ep, t, h1, h2, h3, h4, hk, h5, h6, h7, h8⟩
def SetNO (P : Program) (w : World) (a : Addr) (L : List PK) : HO := .ext fun h => SetN0 P w h a L
theorem setNO_new {H : Hp} {h : Heap} {a : Addr} {L : List PK} (R : SetN0 P w h a L) : ObjOk P w H h a (SetNO P w a L) := by
  have ⟨es, ep, t, ⟨o, ho, r⟩, q⟩ := R.ex
  refine ⟨R, ⟨o, ho⟩, fun h1 h2 p k => ?_⟩
  have ⟨es', ep', t', ⟨o', ho', r'⟩, q'⟩ := SetN0.ex p
  exact ⟨es', ep', t', ⟨o', k o' ho', r'⟩, q'⟩
end
/-! ### data as keys -/
mutual
def keyD : PyData → NestedKey
  | .int i => .num i
  | .tuple ds => .tup (keyDs ds)
  | _ => .none
def keyDs : List PyData → List NestedKey
  | [] => []
  | d :: ds => keyD d :: keyDs ds
end
mutual
def numD : PyData → Bool
  | .int _ => true
  | .tuple ds => numDs ds
  | _ => false
def numDs : List PyData → Bool
  | [] => true
  | d :: ds => numD d && numDs ds
end
mutual
theorem numK_of : ∀ (d : PyData), numD d = true → numK (keyD d) = true
  | .int i, _ => rfl
  | .tuple ds, h => by
    have h : numDs ds = true := h
    show numKs (keyDs ds) = true
    exact numKs_of ds h
  | .none, h => by cases h
  | .bool _, h => by cases h
  | .str _, h => by cases h
  | .list _, h => by cases h
  | .dict _, h => by cases h
theorem numKs_of : ∀ (ds : List PyData), numDs ds = true → numKs (keyDs ds) = true
  | [], _ => rfl
  | d :: ds, h => by
    have h : (numD d && numDs ds) = true := h
    rw [Bool.and_eq_true] at h
    show (numK (keyD d) && numKs (keyDs ds)) = true
    rw [numK_of d h.1, numKs_of ds h.2]
    rfl
end
section
variable {X : Cx} {pins : List (Addr × Obj)} {σ : L2.St} {H : Hp} {s : Shared}
mutual
theorem dp_key (I : Inv X pins σ H s) : ∀ (d : PyData) (v : V) (u : Value), numD d = true → Dp X.K H v d → RelV v u → NestedIs s.heap (keyD d) u
  | .int i, _, _, _, h, r => by
    cases h
    obtain ⟨t, rfl⟩ := r
    exact .int i t
  | .tuple ds, _, _, n, h, r => by
    have n : numDs ds = true := n
    cases h with
    | tup hs ha =>
      cases r
      obtain ⟨its, rv, ⟨o, ho, hc, m, hd⟩, _⟩ := I.tuple hs
      exact .tup ho hc hd (dps_key I ds _ _ n ha (by simpa using rv))
  | .none, _, _, n, _, _ => by cases n
  | .bool _, _, _, n, _, _ => by cases n
  | .str _, _, _, n, _, _ => by cases n
  | .list _, _, _, n, _, _ => by cases n
  | .dict _, _, _, n, _, _ => by cases n
theorem dps_key (I : Inv X pins σ H s) : ∀ (ds : List PyData) (vs : List V) (us : List Value), numDs ds = true → DpAll X.K H vs ds → Vals vs us → NestedAll s.heap (keyDs ds) us
  | [], _, _, _, h, r => by
    cases h
    cases r
    exact .nil
  | d :: ds, _, _, n, h, r => by
    have n : (numD d && numDs ds) = true := n
    rw [Bool.and_eq_true] at n
    cases h with
    | cons h1 h2 =>
      cases r with
      | cons r1 r2 => exact .cons (dp_key I d _ _ n.1 h1 r1) (dps_key I ds _ _ n.2 h2 r2)
end
/-- v is the datum of the key k -/
def KeyAt (K : PySem.W.Frag) (H : Hp) (k : NestedKey) (a : Addr) : Prop := ∃ d, Dp K H (.ref a) d ∧ numD d = true ∧ keyD d = k ∧ k.depth ≤ 8
theorem KeyAt.isN {k : NestedKey} {a : Addr} (I : Inv X pins σ H s) (h : KeyAt X.K H k a) : IsN X.prog X.w s.heap k a := by
  obtain ⟨d, h1, h2, h3, h4⟩ := h
  subst h3
  exact ⟨⟨dp_key I d _ _ h2 h1 rfl, h4⟩, numK_of d h2⟩
theorem addN_ok {E : Value → Shared → Prop} {D p : Addr} {L : List PK} {d : PyData} {Q : Value → Shared → Prop} (hu : X.A.units + 64 < cLine) (I : Inv X pins σ H s) (hD : H D = some (SetNO X.prog X.w D L)) (hk : ∀ q ∈ L, KeyAt X.K H q.2 q.1) (hd : Dp X.K H (.ref p) d) (hn : numD d = true ∧ (keyD d).depth ≤ 8)
    (hnew : keyD d ∉ L.map Prod.snd) (hf : L.length + 1 < 64) (h : ∀ L', L'.Perm ((p, keyD d) :: L) → ∀ s', Inv X pins σ (upd H D (SetNO X.prog X.w D L')) s' → Q .none s') : wpAny (model X.prog X.w) X.A (call (.builtin "set.add") [.ref D, .ref p]) Q E s := by
  have R0 : SetN0 X.prog X.w s.heap D L := (I.hok D _ hD).1
  obtain ⟨es, ep, t, R⟩ := R0.full fun q hq => (hk q hq).isN I
  have hx : IsN X.prog X.w s.heap (keyD d) p := KeyAt.isN I ⟨d, hd, hn.1, rfl, hn.2⟩
  have hT : s.TypeIs (.ref D) "set" := by
    obtain ⟨o, ho, hex, _⟩ := R.ob
    exact ⟨o, ho, hex.1⟩
  refine wpAny_call_entry F.slot_set_add hT F.entry_set_add ?_ (F.args_set_add_2 _ _)
  unfold Builtin.«set.add» Builtin.Frozenset.oneOther
  simp only [List.isEmpty_nil, bind_assoc]
  unfold Builtin.Frozenset.addrOf setAdd
  refine wpAny_bind (wpAny_pure ?_)
  try dsimp only
  refine wpAny_bind (wpAny_pure ?_)
  try dsimp only
  refine wpAny_bind ?_
  refine wpAny_holding ?_
  refine wpAny_bind ((nestedKind X.prog X.w).pyHash (by
    show X.A.in1.units + 8 < cLine
    rw [Around.in1_units]
    omega) hx.is ?_)
  refine add_atN (s := { s with toks := s.toks + (keyD d).draws }) R hx (by
    rw [Around.in1_units]
    omega) hf hnew fun b h' L' es' ep' t' sb R' pm => ?_
  show wpAny _ _ (ret Value.none) _ _ _
  refine wpAny_pure ⟨_, rfl, h L' pm _ ?_⟩
  have he : ∃ u, h'.get? D = some u := by
    have ⟨o, ho, _⟩ := R'.ob
    exact ⟨o, ho⟩
  exact I.write (e := D) (t' := s.toks + (keyD d).draws) (by rw [hD]; trivial) (.inl rfl) (fun b u hb hu => (sb.2 b hb).trans hu) he (setNO_new R'.n0)
end
section
variable {X : Cx}
/-- {elt for target in iter if ..}, elt a new tuple of numbers each time: D the new set -/
def tScN (P : Program) (w : World) (K : PySem.W.Frag) (wi : TI) (g : TG) (tt : TT) (te : TE) (vs : List Nat) : TE := fun σ H Q => wi σ H fun J H1 => ∀ D, H1 D = none → ∃ W : Nat → Nat → Hp → Prop, (∃ m, W 0 m (upd H1 D (SetNO P w D []))) ∧ ∀ i m H, W i m H →
  (J.stop i H ∧ Q (.ref D) H) ∨ (J.go i H ∧ ∃ Nx : Hp → Prop, (∀ H', Nx H' → ∃ m', m' < m ∧ W (i + 1) m' H') ∧ ∀ x H', J.yld i H x H' → g x (wipe σ vs) H' fun σ2 H2 => wipe σ2 vs = wipe σ vs ∧ tt σ2 H2 fun b H3 =>
    if b = true then te σ2 H3 fun y H4 => ∃ (p : Addr) (d : PyData) (L : List PK), y = .ref p ∧ Dp K H4 (.ref p) d ∧ (numD d = true ∧ (keyD d).depth ≤ 8) ∧ H4 D = some (SetNO P w D L) ∧ (∀ q ∈ L, KeyAt K H4 q.2 q.1) ∧ keyD d ∉ L.map Prod.snd ∧ L.length + 1 < 64 ∧ ∀ L', L'.Perm ((p, keyD d) :: L) → Nx (upd H4 D (SetNO P w D L')) else Nx H3)
open PpSet in
theorem sc_coreN {pins : List (Addr × Obj)} {s : Shared} {σ : L2.St} {H : Hp} {Q : VK} {elt tg iter : Expr} {ifs : List Expr} {scope : Scope} {own : List (PySem.Str × Nat)} {pos pos' : Pos} {wi : TI} {g : TG} {tt : TT} {te : TE} {use : Option (Value → Sem Unit)} {Qf : Value → Shared → Prop}
    (hu : X.A.units + 64 < cLine) (hc : X.calm = true) (hN : X.N.Nodup) (I : Inv X pins σ H s) (hi : PI X tg iter wi) (ok : BlkOk X.N X.env.scope scope own)
    (hg : ∀ (s : Shared) (H : Hp) (C : Addr) (cl : List (PySem.Str × Addr)) (fp : List Addr), PG (X.blk s H scope (compEnvC scope cl C X.env) fp) tg g) (ht : ∀ (s : Shared) (H : Hp) (C : Addr) (cl : List (PySem.Str × Addr)) (fp : List Addr), PTs (X.blk s H scope (compEnvC scope cl C X.env) fp) ifs tt)
    (he : ∀ (s : Shared) (H : Hp) (C : Addr) (cl : List (PySem.Str × Addr)) (fp : List Addr), PE (X.blk s H scope (compEnvC scope cl C X.env) fp) elt te) (hs : ∀ x, foldedSetIterable iter X.env x = pure x)
    (h : tScN X.prog X.w X.K wi g tt te (own.map (·.2)) σ H Q)
    (hRR : ∀ D C s' m H', Inv X pins σ H' s' → Q (.ref D) H' → s'.heap.Ns C m → FpOk X pins H' C → compPost (model X.prog X.w) X.A X.xe use Qf (.ref D) C (.ok .next) s') :
    wpAny (model X.prog X.w) X.A (comprehension (.SetComp elt [⟨tg, iter, ifs, 0⟩] scope pos) scope X.env pos' (newSet (.type "set")) false (eval iter X.env) use) Qf X.xe s := by
  have hfree : ∀ y ∈ scope.names, y.2 = .free → ∃ c, X.env.cells.lookup y.1 = some c := fun y hy e => by
    rcases ok.free y hy e with k | k
    · exact I.ok.has _ (.inl k)
    · exact I.ok.has _ (.inr k)
  refine wpAny_comprehension_free (use := use) rfl hs (closure_ok hfree) ok.kind (fun y hy e => by rw [ok.uniq y hy, e])
    (thn (hi.run pins s σ H _ I h) fun xv s1 hx => thn hx fun itv s2 h2 => ?_)
  obtain ⟨it, fp, tn, J, H2, e, I2, T, st2, f2, q⟩ := h2
  subst e
  refine newSet_ok (newEnv_comp ?_)
  generalize hD : s2.heap.objs.size = D
  have hDn : H2 D = none := I2.hok.fresh (Nat.le_of_eq hD)
  obtain ⟨W, ⟨m0, w0⟩, turn⟩ := q D hDn
  -- the new list
  generalize hs3 : ({ s2 with heap := s2.heap.push { cls := .type "set", dict := none, data := .set #[] 0 (.fresh 0 0 (!X.w.params.followText "set-order")) } } : Shared) = s3
  have I3 : Inv X pins σ (upd H2 D (SetNO X.prog X.w D [])) s3 := by
    rw [← hs3]
    refine I2.laid (t' := s2.toks) (fun b o e => Heap.get?_push_of_some _ e) (Nat.le_of_eq hD) ?_
    rw [← hD]
    exact setNO_new (setN_fresh (Heap.get?_push_size _ rfl)).n0
  have h3 : s3.heap = s2.heap.push { cls := .type "set", dict := none, data := .set #[] 0 (.fresh 0 0 (!X.w.params.followText "set-order")) } := by rw [← hs3]
  have sz : ∀ b ∈ fp, b < s2.heap.objs.size := fun b hb => by
    obtain ⟨o, e, _⟩ := T.obj _ _ st2 b hb
    exact Heap.lt_size e
  have f3 : ∀ b ∈ fp, FpOk X pins (upd H2 D (SetNO X.prog X.w D [])) b ∧ b < s3.heap.objs.size := fun b hb => by
    have hlt := sz b hb
    refine ⟨⟨?_, (f2 b hb).2⟩, by rw [h3, Heap.size_push]; exact Nat.lt_succ_of_lt hlt⟩
    rw [upd_ne (by rw [← hD]; exact Nat.ne_of_lt hlt)]
    exact (f2 b hb).1
  have st3 : tn 0 s3.heap := T.keep _ _ _ st2 fun b _ o e => by rw [h3]; exact Heap.get?_push_of_some _ e
  have I4 := block_start I3 ok hN f3
  have pg := hg s3 (upd H2 D (SetNO X.prog X.w D [])) s3.heap.objs.size (cellsFrom (s3.heap.objs.size + 1) scope.names (cloFrom X.env.cells scope.names [])) fp
  have pt := ht s3 (upd H2 D (SetNO X.prog X.w D [])) s3.heap.objs.size (cellsFrom (s3.heap.objs.size + 1) scope.names (cloFrom X.env.cells scope.names [])) fp
  have pe := he s3 (upd H2 D (SetNO X.prog X.w D [])) s3.heap.objs.size (cellsFrom (s3.heap.objs.size + 1) scope.names (cloFrom X.env.cells scope.names [])) fp
  show codeAny _ _ (.compStart (.SetComp elt [⟨tg, iter, ifs, 0⟩] scope pos) 0 (.ref it) (.ref D) (compEnvC scope (cellsFrom (s3.heap.objs.size + 1) scope.names (cloFrom X.env.cells scope.names [])) s3.heap.objs.size X.env)) (compPost (model X.prog X.w) X.A X.xe use Qf (.ref D) s3.heap.objs.size) { s3 with heap := pushCells (s3.heap.push { cls := .type "dict", data := .dict #[] }) scope.names }
  have nfp : ∀ b ∈ fp, (upd H2 D (SetNO X.prog X.w D [])) b = none := fun b hb => (f3 b hb).1.1
  generalize hce : compEnvC scope (cellsFrom (s3.heap.objs.size + 1) scope.names (cloFrom X.env.cells scope.names [])) s3.heap.objs.size X.env = ce at I4 pg pt pe ⊢
  have cL : ce.locals = s3.heap.objs.size := by subst hce; rfl
  generalize hH3 : upd H2 D (SetNO X.prog X.w D []) = H3 at I3 I4 pg pt pe w0 nfp f3
  generalize hs4 : ({ s3 with heap := pushCells (s3.heap.push { cls := .type "dict", data := .dict #[] }) scope.names } : Shared) = s4 at I4 ⊢
  have st4 : tn 0 s4.heap := T.keep _ _ _ st3 fun b _ o e => by rw [← hs4]; exact pushCells_keeps _ _ _ _ (Heap.get?_push_of_some _ e)
  have stat : ∀ {σ' : L2.St} {H' : Hp} {s' : Shared}, Inv (X.blk s3 H3 scope ce fp) [] σ' H' s' → (∀ b ∈ fp, H' b = none) → ∀ b ∈ fp, FpOk (X.blk s3 H3 scope ce fp) [] H' b := fun {σ' H' s'} I' hn b hb =>
    ⟨hn b hb, (I'.ok.exf b hb).1, I'.ok.exfs b hb, .inl hb, fun x c e => (I'.ok.exf b hb).2 x c e, fun p hp => absurd (show p ∈ ([] : List (Addr × Obj)) ++ [] from hp) (by simp)⟩
  have loop : codeAny (model X.prog X.w) X.A (.compLoop (.SetComp elt [⟨tg, iter, ifs, 0⟩] scope pos) 0 (.ref it) (.ref D) ce) (compPost (model X.prog X.w) X.A X.xe use Qf (.ref D) s3.heap.objs.size) s4 := by
    refine compLoopS_any (fun n s' => ∃ i H', Inv (X.blk s3 H3 scope ce fp) [] (wipe σ (own.map (·.2))) H' s' ∧ tn i s'.heap ∧ (∀ b ∈ fp, H' b = none) ∧ W i n H') ?_ m0 ⟨0, H3, I4, st4, nfp, w0⟩
    rintro n s5 ⟨i, H5, I5, st5, n5, w5⟩
    rcases turn i n H5 w5 with ⟨stop, qq⟩ | ⟨go, Nx, hNx, step⟩
    · have td := T.done (X.blk s3 H3 scope ce fp) rfl rfl rfl hc i [] s5 _ H5 (fun _ _ => False) I5 (stat I5 n5) st5 stop
      refine thnF td fun r s6 ⟨hr, I6⟩ => ?_
      subst hr
      -- back in the def's context
      have I7 : Inv X pins σ H5 s6 := I3.call' (ch := fp) I6.os I6.base I6.hok I6.bare fun b hb => ⟨(f3 b hb).1.2.2.2.1, (f3 b hb).1.2.1, (f3 b hb).1.2.2.2.2.1, (f3 b hb).1.2.2.2.2.2⟩
      have nC : H5 s3.heap.objs.size = none := by
        have z : H5 ce.locals = none := I6.free
        rw [cL] at z
        exact z
      obtain ⟨m, hn, _⟩ := I6.loc
      have hn : s6.heap.Ns ce.locals m := hn
      rw [cL] at hn
      exact hRR D s3.heap.objs.size s6 m H5 I7 qq hn (I3.fpOk (Nat.le_refl _) nC)
    · have ti := T.item (X.blk s3 H3 scope ce fp) rfl rfl rfl hc i [] s5 _ H5 (fun _ _ => False) I5 (stat I5 n5) st5 go
      refine thnF ti fun r s6 ⟨u, hr, h6⟩ => ?_
      subst hr
      refine thnF h6 fun _ s7 ⟨x, H7, I7, r7, y7, st7, n7⟩ => ?_
      have I7' := I7.pinned (stat I7 n7) (T.obj _ _ st7)
      refine thnF (pg.run _ s7 _ H7 x u _ I7' r7 (step x H7 y7)) fun _ s8 ⟨σ8, H8, I8, hw8, q8⟩ => ?_
      refine thnF (pt.run _ s8 σ8 H8 _ I8 q8) fun b s9 ⟨H9, I9, q9⟩ => ?_
      -- the turn's end
      have fin : ∀ {s' : Shared} {H' : Hp}, Inv (X.blk s3 H3 scope ce fp) ([] ++ pinsAt fp s7.heap) σ8 H' s' → Nx H' → ∃ m, m < n ∧ ∃ i H', Inv (X.blk s3 H3 scope ce fp) [] (wipe σ (own.map (·.2))) H' s' ∧ tn i s'.heap ∧ (∀ b ∈ fp, H' b = none) ∧ W i m H' := fun {s' H'} I' nx => by
        obtain ⟨m', hm, w'⟩ := hNx H' nx
        have pin' : ∀ b ∈ fp, ∀ o, s7.heap.get? b = some o → s'.heap.get? b = some o ∧ H' b = none := fun b hb o e =>
          let z := I'.pin (b, o) (List.mem_append_right _ (List.mem_append_right _ (mem_pinsAt hb e)))
          ⟨z.1, z.2.1⟩
        have hl : (wipe σ (own.map (·.2))).length = σ8.length := by rw [← hw8, wipe_length]
        refine ⟨m', hm, i + 1, H', (I'.unpinned (pins := [])).weak hl (fun j v e => ?_), T.keep _ _ _ st7 fun b hb o e => (pin' b hb o e).1, fun b hb => ?_, w'⟩
        · rw [← hw8] at e
          exact (wipe_some e).1
        · obtain ⟨o, e, _⟩ := T.obj _ _ st7 b hb
          exact (pin' b hb o e).2
      cases b with
      | false =>
        simp only [Bool.false_eq_true, if_false] at q9 ⊢
        exact fin I9 q9
      | true =>
        simp only [if_true] at q9 ⊢
        refine thnF (pe.run _ s9 σ8 H9 _ I9 q9) fun z s10 ⟨yv, H10, I10, r10, pa, dd, L0, ey, hdd, hnd, hD10, hkeys, hnew, hz10, nx⟩ => ?_
        subst ey
        cases (show z = Value.ref pa from r10)
        exact addN_ok (X := X.blk s3 H3 scope ce fp) hu I10 hD10 hkeys hdd hnd hnew hz10 fun L' pm s11 I11 => fin I11 (nx L' pm)
  exact codeAny_compStart_set loop (T.self X.A 0 _ _ _ st4 loop)
open PpSet in
/-- as a value -/
theorem pe_scN {elt tg iter : Expr} {ifs : List Expr} {scope : Scope} {own : List (PySem.Str × Nat)} {pos : Pos} {wi : TI} {g : TG} {tt : TT} {te : TE} (hu : X.A.units + 64 < cLine) (hc : X.calm = true) (hN : X.N.Nodup) (hi : PI X tg iter wi) (ok : BlkOk X.N X.env.scope scope own)
    (hg : ∀ (s : Shared) (H : Hp) (C : Addr) (cl : List (PySem.Str × Addr)) (fp : List Addr), PG (X.blk s H scope (compEnvC scope cl C X.env) fp) tg g) (ht : ∀ (s : Shared) (H : Hp) (C : Addr) (cl : List (PySem.Str × Addr)) (fp : List Addr), PTs (X.blk s H scope (compEnvC scope cl C X.env) fp) ifs tt)
    (he : ∀ (s : Shared) (H : Hp) (C : Addr) (cl : List (PySem.Str × Addr)) (fp : List Addr), PE (X.blk s H scope (compEnvC scope cl C X.env) fp) elt te) (hs : ∀ x, foldedSetIterable iter X.env x = pure x := by intro _; rfl) :
    PE X (.SetComp elt [⟨tg, iter, ifs, 0⟩] scope pos) (tScN X.prog X.w X.K wi g tt te (own.map (·.2))) := by
  refine ⟨fun pins s σ H Q I h => ?_⟩
  rw [eval_SetComp]
  refine sc_coreN hu hc hN I hi ok hg ht he hs h fun D C s' m H' I' q hn f => ⟨m, hn, fun h'' sb => ?_⟩
  obtain ⟨f0, f1, f2, f3, f4, f5⟩ := f
  exact ⟨.ref D, H', I'.turned (t' := s'.toks) (fun b o hb e => (sb.2 b hb).trans e) f0 f1 f3 f4 f5, rfl, q⟩
end
/-- len of such a set -/
def rLenN (P : Program) (w : World) : List V → Hp → VK → Prop := fun vs H Q => ∃ (a : Addr) (L : List PK), vs = [V.ref a] ∧ H a = some (SetNO P w a L) ∧ Q (.int L.length) H
theorem cr_lenN {X : Cx} : CallR X (.builtin "len") (rLenN X.prog X.w) := by
  intro pins s σ H vs us Q I r h
  obtain ⟨a, L, rfl, ha, q⟩ := h
  have R0 : SetN0 X.prog X.w s.heap a L := (I.hok a _ ha).1
  obtain ⟨es, ep, t, ⟨o, ho, hex, hd⟩, h2, h3, h4, h5, h6, h7, h8⟩ := R0.ex
  rw [Vals.ref1 r]
  have hes := rowsN_len es L h2
  have hf : t.fits es.size = true := by
    have z1 := h3.sz
    rw [hashesN_len] at z1
    unfold SetTable.fits SetTable.fill
    rw [h3.dm, Bool.and_eq_true, beq_iff_eq, decide_eq_true_eq]
    show t.place.size = es.size ∧ t.place.size + 0 ≤ t.mask
    omega
  exact call_len_set ho hex hd hf (by omega) ⟨.int L.length, H, I.tok _, ⟨_, by rw [hes]⟩, q⟩
section
variable {P : Program} {w : World} {K : PySem.W.Frag} {ρ : Rho} {te ta : TE} {tt : TT} {g : TG} {wi : TI} {xs : List PyData}
/-- len({x for x in t}), t a tuple of unlike tuples of numbers -/
theorem dv_lenset {ta : TE} {i : Nat} (h : Dv K ta ρ (.tuple xs)) (hl : i < ρ.length) (hn : ∀ x ∈ xs, numD x = true ∧ (keyD x).depth ≤ 8) (ht : ∀ x ∈ xs, ∃ ds, x = .tuple ds) (hu : (xs.map keyD).Nodup) (hf : xs.length < 63) :
    Dv K (tCB (rLenN P w) (tCons (tScN P w K (iTup K ta) (gName i) tYes (tVar i) [i]) tNil)) ρ (.int xs.length) := fun G σ H z E Q q => by
  show tScN P w K (iTup K ta) (gName i) tYes (tVar i) [i] σ H fun v H1 => rLenN P w [v] H1 Q
  refine h G σ H z E _ fun v G1 H1 a1 d1 => ?_
  cases d1 with
  | tup hs ha =>
    rename_i a vs
    refine ⟨a, rfl, ⟨vs, ex_t a1.i hs⟩, fun D hD => ?_⟩
    have hlen := DpAll.len ha
    have hi0 : i < σ.length := by rw [E.len]; exact hl
    refine ⟨fun j m H' => m = vs.length - j ∧ j ≤ vs.length ∧ Ex G1 H' ∧ Ex H1 H' ∧ ∃ L : List PK, H' D = some (SetNO P w D L) ∧ (L.map Prod.snd).Perm ((xs.take j).map keyD) ∧ ∀ q ∈ L, KeyAt K G1 q.2 q.1, ⟨vs.length, by simp, Nat.zero_le _, a1.i.trans (.new hD), .new hD, [], upd_same, List.Perm.refl _, fun q hq => by cases hq⟩, ?_⟩
    rintro j m H' ⟨rfl, hj, e1, e2, L, hDL, hp, hk⟩
    have w0 := walk_tup (K := K) (a := a) (xs := vs)
    have q0 : SqT K H' a vs := ex_t e1 hs
    have hLl : L.length = j := by
      have zz := hp.length_eq
      rw [List.length_map, List.length_map, List.length_take] at zz
      omega
    by_cases hlt : j < vs.length
    · refine .inr ⟨w0.goes j H' hlt q0, fun H'' => j + 1 ≤ vs.length ∧ Ex G1 H'' ∧ Ex H1 H'' ∧ ∃ L : List PK, H'' D = some (SetNO P w D L) ∧ (L.map Prod.snd).Perm ((xs.take (j + 1)).map keyD) ∧ ∀ q ∈ L, KeyAt K G1 q.2 q.1, fun H'' p' => ⟨vs.length - (j + 1), by omega, rfl, p'⟩, fun x H'' y => ?_⟩
      obtain ⟨rfl, hx⟩ := w0.yields j H' x H'' hlt q0 y
      obtain ⟨d, hd, hdp⟩ := DpAll.atV ha hx
      have hmem : d ∈ xs := List.mem_of_getElem? hd
      obtain ⟨ds, rfl⟩ := ht d hmem
      have hx2 : ∃ p, x = .ref p := by
        cases hdp with
        | tup _ _ => exact ⟨_, rfl⟩
      obtain ⟨p, rfl⟩ := hx2
      have htk : xs.take (j + 1) = xs.take j ++ [.tuple ds] := take_next hd
      show wipe ((wipe σ [i]).set i (some (V.ref p))) [i] = wipe σ [i] ∧ tYes ((wipe σ [i]).set i (some (V.ref p))) H'' _
      refine ⟨by rw [wipe_set (by simp), wipe_wipe fun _ hu => hu], ?_⟩
      unfold tYes
      simp only [↓reduceIte]
      show tVar i ((wipe σ [i]).set i (some (V.ref p))) H'' _
      refine ⟨.ref p, List.getElem?_set_self (by rw [wipe_length]; exact hi0), p, .tuple ds, L, rfl, dp_ex e1 hdp, hn _ hmem, hDL, fun q hq => ?_, fun hin => ?_, by omega, fun L' pm => ⟨hlt, fun c o g => ?_, fun c o g => ?_, L', upd_same, ?_, fun q hq => ?_⟩⟩
      · obtain ⟨d', k1, k2⟩ := hk q hq
        exact ⟨d', dp_ex e1 k1, k2⟩
      · have hin2 := hp.mem_iff.mp hin
        have hnd : ((xs.take (j + 1)).map keyD).Nodup := by
          rw [List.map_take]
          exact hu.sublist (List.take_sublist _ _)
        rw [htk, List.map_append] at hnd
        exact (List.nodup_append.mp hnd).2.2 _ hin2 _ (List.mem_singleton.mpr rfl) rfl
      · have hc : c ≠ D := ne_of_none g (fresh_back a1.i hD)
        rw [upd_ne hc]
        exact e1 c o g
      · have hc : c ≠ D := ne_of_none g hD
        rw [upd_ne hc]
        exact e2 c o g
      · rw [htk, List.map_append]
        refine (pm.map Prod.snd).trans ?_
        rw [List.map_cons]
        refine (List.Perm.cons _ hp).trans ?_
        exact (List.perm_append_singleton _ _).symm
      · rcases List.mem_cons.mp (pm.mem_iff.mp hq) with z1 | z1
        · subst z1
          exact ⟨_, hdp, (hn _ hmem).1, rfl, (hn _ hmem).2⟩
        · exact hk q z1
    · have ej : j = vs.length := by omega
      refine .inl ⟨by rw [ej]; exact w0.stops H' q0, D, L, rfl, hDL, ?_⟩
      rw [hLl, ej, hlen]
      exact q _ G1 H' ⟨a1.g, e1, a1.h.trans e2, fun c o g1 g2 => a1.n c o g1 g2⟩ (.int _)
end

end Ow
/-! ## part Ow6 -/
set_option Elab.async false
set_option linter.all false
set_option maxRecDepth 100000
set_option maxHeartbeats 4000000
/-! Ow6: two clauses in one comprehension; a list's last item; a list's tail. -/
namespace Ow
open PySem PySem.Spec PyProof.Rows L2
open Evl (Ex Ex.refl Ex.trans Ex.new ex_rd ex_l ex_t fresh_back)
theorem hu65 {k : Nat} {A : Around} (r : Room k A) : A.units + 65 < cLine := by have := r.un; omega
section
variable {K : PySem.W.Frag} {G G1 G2 G3 H H1 H2 H3 : Hp} {Dl : Addr} {ρ ρ1 ρ2 : Rho} {te ta tb tc : TE} {tt tu : TT} {d e f : PyData} {ds es xs ys : List PyData} {wi wi1 : TI} {g g1 : TG} {t u : TS}
/-- the list at Dl, not yet among what stands: its items so far -/
def Bld (K : PySem.W.Frag) (G1 H1 : Hp) (Dl : Addr) (es : List PyData) (G2 H2 : Hp) : Prop := Gr G1 (upd H1 Dl (.lst [])) G2 (upd H2 Dl (.lst [])) ∧ Ex G2 H2 ∧ Ex H1 H2 ∧ G2 Dl = none ∧ ∃ acc, H2 Dl = some (.lst acc) ∧ DpAll K G2 acc es
theorem Bld.new (e : Ex G1 H1) (hD : H1 Dl = none) : Bld K G1 H1 Dl [] G1 (upd H1 Dl (.lst [])) := by
  refine ⟨?_, e.trans (.new hD), .new hD, fresh_back e hD, [], upd_same, .nil⟩
  rw [upd_upd]
  exact .refl (e.trans (.new hD))
theorem Bld.step (b : Bld K G1 H1 Dl es G2 H2) (hD : H1 Dl = none) (k : Gr G2 H2 G3 H3) : Bld K G1 H1 Dl es G3 H3 := by
  obtain ⟨p1, p2, p3, p4, acc, p5, p6⟩ := b
  have n2 := k.n Dl _ p5 p4
  have up : Gr G2 (upd H2 Dl (.lst [])) G3 (upd H3 Dl (.lst [])) := by
    refine ⟨k.g, fun c o h => ?_, fun c o h => ?_, fun c o h hc => ?_⟩
    · rw [upd_ne (ne_of_none h n2)]
      exact k.i c o h
    · by_cases hc : c = Dl
      · subst hc
        rw [upd_same] at h ⊢
        exact h
      · rw [upd_ne hc] at h ⊢
        exact k.h c o h
    · by_cases hd : c = Dl
      · subst hd
        exact n2
      · rw [upd_ne hd] at h
        exact k.n c o h hc
  exact ⟨p1.trans up, k.i, fun c o h => k.h c o (p3 c o h), n2, acc, k.h _ _ p5, dpa_ex k.g p6⟩
theorem Bld.put {v : V} {acc : List V} (b : Bld K G1 H1 Dl es G2 H2) (hD : H1 Dl = none) (ha : H2 Dl = some (.lst acc)) (hv : Dp K G2 v d) : Bld K G1 H1 Dl (es ++ [d]) G2 (upd H2 Dl (.lst (acc ++ [v]))) := by
  obtain ⟨p1, p2, p3, p4, acc', p5, p6⟩ := b
  rw [ha] at p5
  cases p5
  refine ⟨?_, fun c o h => ?_, fun c o h => ?_, p4, _, upd_same, DpAll.app p6 (.cons hv .nil)⟩
  · rw [upd_upd]
    exact p1
  · rw [upd_ne (ne_of_none h p4)]
    exact p2 c o h
  · rw [upd_ne (ne_of_none h hD)]
    exact p3 c o h
theorem Bld.done (b : Bld K G1 H1 Dl es G2 H2) (hD : H1 Dl = none) : ∃ G3, Gr G1 H1 G3 H2 ∧ Dp K G3 (.ref Dl) (.list es) := by
  obtain ⟨p1, p2, p3, p4, acc, p5, p6⟩ := b
  have hup : ∀ c o, upd G2 Dl (.lst acc) c = some o → H2 c = some o := fun c o h => by
    by_cases hc : c = Dl
    · subst hc
      rw [upd_same] at h
      rw [p5]
      exact h
    · rw [upd_ne hc] at h
      exact p2 c o h
  refine ⟨upd G2 Dl (.lst acc), ⟨p1.g.trans (.new p4), hup, p3, fun c o h hc => ?_⟩, .lst (.inl (.inl upd_same)) (dpa_ex (.new p4) p6)⟩
  have hne : c ≠ Dl := ne_of_none h hD
  rw [upd_ne hne]
  refine p1.n c o ?_ hc
  rw [upd_ne hne]
  exact h
theorem Bld.len (b : Bld K G1 H1 Dl es G2 H2) {acc : List V} (h : H2 Dl = some (.lst acc)) : acc.length = es.length := by
  obtain ⟨_, _, _, _, acc', p5, p6⟩ := b
  rw [h] at p5
  cases p5
  exact DpAll.len p6
theorem Bld.ex (b : Bld K G1 H1 Dl es G2 H2) : Ex G1 G2 ∧ Ex G2 H2 := ⟨b.1.g, b.2.1⟩
theorem Bld.acc (b : Bld K G1 H1 Dl es G2 H2) : ∃ acc, H2 Dl = some (.lst acc) := let ⟨acc, h, _⟩ := b.2.2.2.2; ⟨acc, h⟩
/-- how many stand ahead of turn i -/
def ahead (m : Nat → Nat) : Nat → Nat
  | 0 => 0
  | i + 1 => ahead m i + m i
theorem ahead_le {m : Nat → Nat} {B : Nat} (h : ∀ i, m i ≤ B) : ∀ i, ahead m i ≤ i * B
  | 0 => Nat.zero_le _
  | i + 1 => by
    have := ahead_le h i
    have := h i
    show ahead m i + m i ≤ (i + 1) * B
    rw [Nat.succ_mul]
    omega
/-- two clauses, no tests, every item the same -/
theorem dv_lc2 {vs vs1 : List Nat} (m : Nat → Nat) (hw : Dw K wi ρ xs) (hg : Gw g vs) (hg1 : Gw g1 vs1) (hv : ∀ u ∈ vs1, u ∈ vs) (hl : xs.length ≤ 100) (hm : ∀ i, m i ≤ 100)
    (hs : ∀ (i : Nat) (x : PyData), xs[i]? = some x → ∃ (ρ' : Rho) (ys : List PyData), Dg K g x (wipR ρ vs) ρ' ∧ ys.length = m i ∧ Dw K wi1 ρ' ys ∧ ∀ (j : Nat) (y : PyData), ys[j]? = some y → ∃ ρ'', Dg K g1 y (wipR ρ' vs1) ρ'' ∧ Dv K te ρ'' e) :
    Dv K (tLc2 wi g tYes wi1 g1 tYes te vs vs1) ρ (.list (List.replicate (ahead m xs.length) e)) := fun G σ H z E Q q => by
  refine hw G σ H z E _ fun J G1 H1 a1 w => fun Dl hD => ?_
  refine ⟨fun i k H' => k = xs.length - i ∧ i ≤ xs.length ∧ ∃ G2, Bld K G1 H1 Dl (List.replicate (ahead m i) e) G2 H', ⟨xs.length, by simp, Nat.zero_le _, G1, .new a1.i hD⟩, ?_⟩
  rintro i k H' ⟨rfl, hi, G2, b⟩
  by_cases hlt : i < xs.length
  · refine .inr ⟨w.goes i H' hlt (b.ex.1.trans b.ex.2), fun H'' => i + 1 ≤ xs.length ∧ ∃ G2, Bld K G1 H1 Dl (List.replicate (ahead m (i + 1)) e) G2 H'', fun H'' p' => ⟨xs.length - (i + 1), by omega, rfl, p'⟩, fun x H'' y => ?_⟩
    obtain ⟨G3, d0, e1, hd, hv'⟩ := w.yields i H' x H'' hlt (b.ex.1.trans b.ex.2) y G2 b.ex.1 b.ex.2
    obtain ⟨ρ', ys, g1', hlen, hw1, hin⟩ := hs i d0 hd
    have b3 := b.step hD e1
    have ww := hg x (wipe σ vs) H''
    rw [wipe_wipe fun _ hu => hu] at ww
    refine ww _ (g1' G3 H'' _ x e1.i (((E.ex a1.g).wip vs).ex (b3.ex.1)) hv' _ fun σ2 G4 H4 f1 E4 => ?_)
    have b4 := b3.step hD f1
    unfold tYes
    simp only [↓reduceIte]
    refine hw1 G4 σ2 H4 f1.i E4 _ fun J1 G5 H5 a5 w5 => ?_
    have b5 := b4.step hD a5
    refine ⟨fun j k H' => k = ys.length - j ∧ j ≤ ys.length ∧ ∃ G2, Ex G5 G2 ∧ Bld K G1 H1 Dl (List.replicate (ahead m i + j) e) G2 H', ⟨ys.length, by simp, Nat.zero_le _, G5, .refl _, b5⟩, ?_⟩
    rintro j k H6 ⟨rfl, hj, G6, x6, b6⟩
    by_cases hlj : j < ys.length
    · refine .inr ⟨w5.goes j H6 hlj (x6.trans b6.ex.2), fun H'' => j + 1 ≤ ys.length ∧ ∃ G2, Ex G5 G2 ∧ Bld K G1 H1 Dl (List.replicate (ahead m i + (j + 1)) e) G2 H'', fun H'' p' => ⟨ys.length - (j + 1), by omega, rfl, p'⟩, fun x1 H7 y1 => ?_⟩
      obtain ⟨G7, d1, e7, hd1, hv1⟩ := w5.yields j H6 x1 H7 hlj (x6.trans b6.ex.2) y1 G6 x6 b6.ex.2
      obtain ⟨ρ'', g2', hel⟩ := hin j d1 hd1
      have b7 := b6.step hD e7
      have ww1 := hg1 x1 (wipe σ2 vs1) H7
      rw [wipe_wipe fun _ hu => hu] at ww1
      refine ww1 _ (g2' G7 H7 _ x1 e7.i (((E4.ex a5.g).wip vs1).ex (x6.trans e7.g)) hv1 _ fun σ3 G8 H8 f8 E8 => ?_)
      have b8 := b7.step hD f8
      refine hel G8 σ3 H8 f8.i E8 _ fun v G9 H9 a9 D9 => ?_
      have b9 := b8.step hD a9
      obtain ⟨acc, hacc⟩ := b9.acc
      have h3 := b9.len hacc
      rw [List.length_replicate] at h3
      have h4 := ahead_le hm i
      have h5 := hm i
      refine ⟨acc, hacc, Nat.lt_of_lt_of_le (m := 100000) ?_ (small_sz (Nat.le_refl _)), hlj, G9, ((x6.trans e7.g).trans f8.g).trans a9.g, ?_⟩
      · have h6 : i * 100 ≤ 100 * 100 := Nat.mul_le_mul_right _ (by omega)
        omega
      · have b10 := b9.put hD hacc D9
        rw [← List.replicate_succ'] at b10
        exact b10
    · have ej : j = ys.length := by omega
      subst ej
      refine .inl ⟨w5.stops H6 (x6.trans b6.ex.2), hlt, G6, ?_⟩
      rw [hlen] at b6
      exact b6
  · have ei : i = xs.length := by omega
    subst ei
    obtain ⟨G3, g3, d3⟩ := b.done hD
    exact .inl ⟨w.stops H' (b.ex.1.trans b.ex.2), q _ G3 H' (a1.trans g3) d3⟩
/-! ### lists: the last item, the tail -/
theorem d2_ixLast (h : ds.getLast? = some d) : D2 K (rIxL K) (.list ds) (.int (-1)) d := fun G H x y e hx hy Q q => by
  cases hy
  cases hx with
  | lst hs ha =>
    rename_i a vs
    obtain ⟨ds', rfl⟩ := List.getLast?_eq_some_iff.mp h
    have hl := DpAll.len ha
    rw [List.length_append, List.length_singleton] at hl
    obtain ⟨v, h1, h2⟩ := DpAll.at (i := ds'.length) ha (by rw [List.getElem?_append_right (Nat.le_refl _), Nat.sub_self]; rfl)
    have hv : vs = vs.take ds'.length ++ [v] := by
      have z : vs.take (ds'.length + 1) = vs.take ds'.length ++ [v] := by rw [List.take_succ, h1]; rfl
      rw [List.take_of_length_le (by omega)] at z
      exact z
    refine ⟨a, vs, -1, v, rfl, rfl, ex_l e hs, ?_, q _ G H (.refl e) h2⟩
    rw [hv]
    exact atI_last _ _
theorem d1_neg {i : Int} : D1 K (rU fun i => V.int (-i)) (.int i) (.int (-i)) := fun G H x e hx Q q => by
  cases hx
  exact ⟨i, rfl, q _ G H (.refl e) (.int _)⟩
theorem dv_slL {ti : TE} {i : Int} (n : Nat) (hi : i = (n : Int)) (ha : Dv K ta ρ (.list ds)) (hb : Dv K ti ρ (.int i)) : Dv K (tSl (rSlL K) ta (tPart ti) tNoPart) ρ (.list (ds.drop n)) := fun G σ H x E Q q =>
  ha G σ H x E _ fun v G1 H1 a1 d1 => hb G1 σ H1 a1.i (E.ex a1.g) _ fun w G2 H2 a2 d2 => by
    subst hi
    cases d2
    refine ⟨(n : Int), rfl, ?_⟩
    cases d1 with
    | lst hs ha =>
      rename_i a xs
      refine ⟨a, xs, rfl, ex_l (a2.g.trans a2.i) hs, fun p hp => ?_⟩
      rw [cutV_drop] at *
      have nn := new_up (o := .lst (xs.drop n)) a2.i hp
      exact q _ _ _ ((a1.trans a2).trans nn) (.lst (.inl (.inl upd_same)) (dpa_ex (a2.trans nn).g (DpAll.drop n ha)))
theorem any_rep {n : Nat} : (List.replicate n false).any id = false := by
  induction n with
  | zero => rfl
  | succ n ih => rw [List.replicate_succ, List.any_cons, ih]; rfl
end
abbrev rLenSeq (K : PySem.W.Frag) : List V → Hp → VK → Prop := fun xs H Q => ∃ p ys, xs = [V.ref p] ∧ (SqL K H p ys ∨ SqT K H p ys) ∧ Q (.int ys.length) H
section
variable {K : PySem.W.Frag} {ρ : Rho} {te : TE} {d e : PyData} {xs : List PyData} {wi : TI} {g : TG}
theorem d2_inSign {c : Nat} {z : Str} : D2 K (fun x y H Q => ∃ (c : Nat) (z : Str), x = V.str ⟨#[c]⟩ ∧ y = V.str z ∧ Q (.bl (decide (c ∈ z.cps.toList))) H) (.str ⟨#[c]⟩) (.str z) (.bool (decide (c ∈ z.cps.toList))) := fun G H x y e hx hy Q q => by
  cases hx
  cases hy
  exact ⟨c, z, rfl, rfl, q _ G H (.refl e) (.bl _)⟩
theorem all_rep {n : Nat} : (List.replicate n true).all id = true := by
  induction n with
  | zero => rfl
  | succ n ih => rw [List.replicate_succ, List.all_cons, ih]; rfl
/-- every item true -/
theorem dv_lcC {vs : List Nat} (hw : Dw K wi ρ xs) (hg : Gw g vs) (hl : xs.length ≤ 100000) (hs : ∀ x, x ∈ xs → ∃ ρ', Dg K g x (wipR ρ vs) ρ' ∧ Dv K te ρ' e) : Dv K (tLc wi g tYes te vs) ρ (.list (List.replicate xs.length e)) :=
  dv_lc (List.replicate xs.length e) hw hg hl (List.length_replicate ..) fun i x y hx hy => by
    obtain ⟨ρ', h1, h2⟩ := hs x (List.mem_of_getElem? hx)
    have hy := List.mem_of_getElem? hy
    rw [List.mem_replicate] at hy
    rw [hy.2]
    exact ⟨ρ', h1, h2⟩
theorem dv_allT {vs : List Nat} (hw : Dw K wi ρ xs) (hg : Gw g vs) (hl : xs.length ≤ 100000) (hs : ∀ x, x ∈ xs → ∃ ρ', Dg K g x (wipR ρ vs) ρ' ∧ Dv K te ρ' (.bool true)) : Dv K (tCB (rAll K) (tCons (tLc wi g tYes te vs) tNil)) ρ (.bool true) := by
  have z := dv_lcC hw hg hl hs
  have e : (List.replicate xs.length (PyData.bool true)) = (List.replicate xs.length true).map PyData.bool := by rw [List.map_replicate]
  rw [e] at z
  have y := dv_cb (da_cons z da_nil) dc_all
  rw [all_rep] at y
  exact y
theorem dv_anyF {vs : List Nat} (hw : Dw K wi ρ xs) (hg : Gw g vs) (hl : xs.length ≤ 100000) (hs : ∀ x, x ∈ xs → ∃ ρ', Dg K g x (wipR ρ vs) ρ' ∧ Dv K te ρ' (.bool false)) : Dv K (tCB (rAny K) (tCons (tLc wi g tYes te vs) tNil)) ρ (.bool false) := by
  have z := dv_lcC hw hg hl hs
  have e : (List.replicate xs.length (PyData.bool false)) = (List.replicate xs.length false).map PyData.bool := by rw [List.map_replicate]
  rw [e] at z
  have y := dv_cb (da_cons z da_nil) dc_any
  rw [any_rep] at y
  exact y
/-- a test that's to be false -/
theorem dr_unless {t u : TS} {tt : TT} {b : Bool} (h : Dt K tt ρ b) (e : b = false) (k : Dr K u ρ d) : Dr K (tSeq (tIfS tt t tNext) u) ρ d := dr_seq (ds_ifB h e) k
theorem dr_retI (h : Dv K te ρ d) (q : d = e) : Dr K (tRet te) ρ e := dr_ret (dv_is h q)
end
end Ow
/-! ## part Ow7 -/
set_option Elab.async false
set_option linter.all false
set_option maxRecDepth 100000
set_option maxHeartbeats 4000000
namespace Ow
open PySem PySem.Spec PyProof.Rows L2
open Evl (Ex Ex.refl Ex.trans Ex.new ex_rd ex_l ex_t fresh_back)
local macro_rules | `(tactic| walk_at "pr") => `(tactic| assumption)
local macro_rules | `(tactic| walk_at "side") => `(tactic| first | assumption | rfl | decide)
local macro_rules | `(tactic| walk_at "d2") => `(tactic| first
  | exact d2_add | exact d2_sub | exact d2_lt | exact d2_le | exact d2_gt | exact d2_ge
  | exact d2_ixT 0 rfl rfl | exact d2_ixT 1 rfl rfl | exact d2_ixT 2 rfl rfl | exact d2_ixT 3 rfl rfl | exact d2_ixT 4 rfl rfl | exact d2_ixT 5 rfl rfl | exact d2_ixT 6 rfl rfl
  | exact d2_ixL 0 rfl rfl | exact d2_ixL 1 rfl rfl | exact d2_ixL 2 rfl rfl
  | exact d2_mul (by walk_at "side") | exact d2_div (by walk_at "side") | exact d2_mod (by walk_at "side")
  | exact d2_eq (by walk_at "side") (by walk_at "side") | exact d2_ne (by walk_at "side") (by walk_at "side") | walk_at "pr")
local macro_rules | `(tactic| walk_at "dc") => `(tactic| first
  | exact dc_len rfl | exact dc_lenL rfl | exact dc_abs | exact dc_max | exact dc_min | exact dc_all | exact dc_any | exact dc_list | exact dc_tuple | walk_at "pr")
local macro_rules | `(tactic| walk_at "da") => `(tactic| first
  | exact da_nil
  | (refine' da_cons ?k1 ?k2; (case k1 => walk_at "dv"); (case k2 => walk_at "da")))
local macro_rules | `(tactic| walk_at "dv") => `(tactic| first
  | exact dv_var rfl | exact dv_int | exact dv_str | exact dv_bl | exact dv_non
  | (refine' dv_call ?k1 ?k2 ?k3; (case k1 => walk_at "da"); (case k2 => walk_at "pr"); (case k3 => rfl))
  | (refine' dv_isi (b := true) ?k1 ?k2 ?k3; (case k1 => walk_at "dv"); (case k2 => first | exact .int _ | exact .tup _ | exact .str _ | exact .bl _); (case k3 => exact kit_ty (by decide +kernel)))
  | (refine' dv_isi (b := false) ?k1 ?k2 ?k3; (case k1 => walk_at "dv"); (case k2 => first | exact .int _ | exact .tup _ | exact .str _ | exact .bl _); (case k3 => exact kit_ty (by decide +kernel)))
  | (refine' dv_cb ?k1 ?k2; (case k1 => walk_at "da"); (case k2 => walk_at "dc"))
  | (refine' dv_op ?k1 ?k2 ?k3; (case k1 => walk_at "dv"); (case k2 => walk_at "dv"); (case k3 => walk_at "d2"))
  | (refine' dv_tup ?k1 ?k2; (case k1 => walk_at "da"); (case k2 => first | exact Nat.le_of_ble_eq_true rfl | walk_at "side"))
  | (refine' dv_lst ?k1 ?k2; (case k1 => walk_at "da"); (case k2 => first | exact Nat.le_of_ble_eq_true rfl | walk_at "side"))
  | (refine' dv_and ?k1 ?k2; (case k1 => walk_at "dv"); (case k2 => intro _; walk_at "dv"))
  | (refine' dv_notV ?k1; (case k1 => walk_at "dv"))
  | (refine' dv_chain ?k1 ?k2 ?k3 ?k4 ?k5; (case k1 => walk_at "dv"); (case k2 => walk_at "dv"); (case k3 => walk_at "d2"); (case k4 => intro _; walk_at "dv"); (case k5 => intro _; walk_at "d2"))
  | walk_at "pr")
local macro_rules | `(tactic| walk_at "dt") => `(tactic| first
  | (refine' dt_test ?k1; (case k1 => walk_at "dv"))
  | (refine' dt_B ?k1; (case k1 => walk_at "dv"))
  | (refine' dt_not ?k1; (case k1 => walk_at "dt"))
  | (refine' dt_or ?k1 ?k2; (case k1 => walk_at "dt"); (case k2 => intro _; walk_at "dt"))
  | (refine' dt_and ?k1 ?k2; (case k1 => walk_at "dt"); (case k2 => intro _; walk_at "dt"))
  | walk_at "pr")
local macro_rules | `(tactic| walk_at "no") => `(tactic| first | rfl | assumption)
local macro_rules | `(tactic| walk_at "fin") => `(tactic| first | rfl | assumption)
local macro_rules | `(tactic| walk_at "dr") => `(tactic| first
  | (refine' dr_retI ?k1 ?k2; (case k1 => walk_at "dv"); (case k2 => walk_at "fin"))
  | (refine' dr_unless ?k1 ?k2 ?k3; (case k1 => walk_at "dt"); (case k2 => walk_at "no"); (case k3 => walk_at "dr"))
  | (refine' dr_seq (ds_asg ?k1) ?k2; (case k1 => walk_at "dv"); (case k2 => walk_at "dr"))
  | (refine' dr_seq (ds_drop ?k1) ?k2; (case k1 => walk_at "dv"); (case k2 => walk_at "dr"))
  | (refine' dr_seq (ds_par ?k1 ?k2) ?k3; (case k1 => walk_at "dv"); (case k2 => walk_at "dv"); (case k3 => walk_at "dr"))
  | (refine' dr_seq (ds_asgG ?k1 ?k2) ?k3; (case k1 => walk_at "dv"); (case k2 => walk_at "dg"); (case k3 => walk_at "dr")))
local macro_rules | `(tactic| walk_at "dg") => `(tactic| first
  | exact dg_name
  | exact dg_tup (dgs_cons (dgs_cons dgs_nil))
  | exact dg_tup (dgs_cons (dgs_cons (dgs_cons dgs_nil)))
  | exact dg_tup (dgs_cons (dgs_cons (dgs_cons (dgs_cons dgs_nil))))
  | exact dg_tup (dgs_cons (dgs_cons (dgs_cons (dgs_cons (dgs_cons (dgs_cons (dgs_cons dgs_nil))))))))

open PySem.W (dataLt)
section
variable {P : Program} {w : World} {K : PySem.W.Frag} {mg : Str → Option Value} {base : Heap}
theorem sc_is_word : FnScope ["thing", "one"] ["thing"] (defScope (top 14)) := ⟨rfl, rfl, rfl, by decide +kernel, rfl, by decide +kernel, by decide +kernel⟩
def Word (x : Str) : Prop := x = "elm" ∨ x = "oak"
def prWord : List PyData → PyData → Prop := fun ds d => ∃ x : Str, Word x ∧ ds = [.str x] ∧ d = .bool true
theorem pr_word {x : Str} (h : Word x) : prWord [.str x] (.bool true) := ⟨x, h, rfl, rfl⟩
local macro_rules | `(tactic| walk_at "dc") => `(tactic| exact dc_lenS (by decide +kernel))
local macro_rules | `(tactic| walk_at "d2") => `(tactic| exact d2_inSign)
theorem signs_small : ∀ y ∈ signs "elm" ++ signs "oak", ∃ c : Nat, y = .str ⟨#[c]⟩ ∧ decide (c ∈ SMALL.cps.toList) = true := by
  have e : signs "elm" ++ signs "oak" = [.str ⟨#[101]⟩, .str ⟨#[108]⟩, .str ⟨#[109]⟩, .str ⟨#[111]⟩, .str ⟨#[97]⟩, .str ⟨#[107]⟩] := by rfl
  rw [e]
  intro y hy
  simp only [List.mem_cons, List.mem_nil_iff, or_false] at hy
  rcases hy with rfl | rfl | rfl | rfl | rfl | rfl <;> exact ⟨_, rfl, by decide +kernel⟩
theorem has_word (T : Tx K mg) (F : Def K mg "is_word" (top 14) []) : Has P w K mg base "is_word" ["thing"] 1 (spD K 1 prWord) := by
  refine has_data F sc_is_word (fun _ _ _ _ _ _ us hl => match us, hl with | [_], _ => rfl) fun f cdv A outer s H E hr => ⟨_, (pss_one (ps_ret (pe_and (pe_callB call_isi (by rfl) T.f_isinstance (by decide +kernel) (pa_cons (pv 0) (pa_cons (pe_bltn (v := .ty "str") (by rfl) T.f_str (by decide +kernel) rfl) pa_nil))) (pe_and (pe_chain op_le op_le pe_int (pe_callB call_len_str (by rfl) T.f_len (by decide +kernel) (pa_cons (pv 0) pa_nil)) pe_int) (pe_one (pe_callB (cr_all rfl) (by rfl) T.f_all (by decide +kernel) (pa_cons (pe_lc (own := [("one", 1)]) rfl sc_is_word.nd (pi_str (pv 0)) (blkOk_by (own := [("one", 1)]) (N := ["thing", "one"]) (sc := defScope (top 14)) (by decide +kernel)) (fun _ _ _ _ _ => (pg_name (i := 1) sc_is_word.nd rfl (by first | exact Or.inl rfl | exact Or.inr rfl))) (fun _ _ _ _ _ => pts_nil) (fun _ _ _ _ _ => (pe_cmpR op_in_sign (pv 1) (pe_glob (v := .str SMALL) (by rfl) T.k_SMALL ⟨_, rfl⟩) (by rfl)))) pa_nil))))))), fun ds d z _ => .inl ?_⟩
  obtain ⟨x, hx, rfl, rfl⟩ := z
  have hl : Dv K (tCB (rAll K) (tCons (tLc (iStr (tVar 0)) (gName 1) tYes (tOp (fun x y H Q => ∃ (c : Nat) (z : Str), x = V.str ⟨#[c]⟩ ∧ y = V.str z ∧ Q (.bl (decide (c ∈ z.cps.toList))) H) (tVar 1) (tC (.str SMALL))) [1]) tNil)) (startR ["thing", "one"] [.str x]) (.bool true) := by
    refine dv_allT (dw_str (dv_var rfl)) (gw_name (by decide)) (by rcases hx with rfl | rfl <;> decide +kernel) fun y hy => ?_
    obtain ⟨c, rfl, hc⟩ := signs_small y (by
      rcases hx with rfl | rfl
      · exact List.mem_append_left _ hy
      · exact List.mem_append_right _ hy)
    refine ⟨_, dg_name, dv_is (f := .bool true) ?_ (congrArg PyData.bool hc)⟩
    walk_at "dv"
  rcases hx with rfl | rfl
  · refine dr_retI (d := .bool (true && ((decide ((1 : Int) ≤ 3) && decide ((3 : Int) ≤ 8)) && true))) ?_ (by rfl)
    refine dv_and (by walk_at "dv") fun _ => dv_and (dv_chain dv_int (dv_cb (da_cons (dv_var rfl) da_nil) (dc_lenS (x := "elm") (by decide +kernel))) d2_le (fun _ => dv_int) fun _ => d2_le) fun _ => ?_
    exact hl
  · refine dr_retI (d := .bool (true && ((decide ((1 : Int) ≤ 3) && decide ((3 : Int) ≤ 8)) && true))) ?_ (by rfl)
    refine dv_and (by walk_at "dv") fun _ => dv_and (dv_chain dv_int (dv_cb (da_cons (dv_var rfl) da_nil) (dc_lenS (x := "oak") (by decide +kernel))) d2_le (fun _ => dv_int) fun _ => d2_le) fun _ => ?_
    exact hl
theorem sc_low : FnScope ["top", "bottom", "share"] ["top", "bottom"] (defScope (top 18)) := ⟨rfl, rfl, rfl, by decide +kernel, rfl, by decide +kernel, by decide +kernel⟩
def prLow : List PyData → PyData → Prop := fun ds d => ∃ t b : Int, 0 < b ∧ b.natAbs < 2 ^ 8000 ∧ ds = [.int t, .int b] ∧ d = encR (Rat.divInt t b)
theorem pr_low {t b : Int} (h : 0 < b) (h2 : b.natAbs < 2 ^ 8000) : prLow [.int t, .int b] (encR (Rat.divInt t b)) := ⟨t, b, h, h2, rfl, rfl⟩
local macro_rules | `(tactic| walk_at "pr") => `(tactic| first | exact pr_common | assumption)
theorem gcd_cdiv {t b : Int} {i : Int} (h : 0 < b) (h2 : b.natAbs < 2 ^ 8000) : CDivW i ((t.natAbs.gcd b.natAbs : Nat) : Int) := by
  have g0 : 0 < t.natAbs.gcd b.natAbs := Nat.gcd_pos_of_pos_right _ (by omega)
  have g1 : t.natAbs.gcd b.natAbs ≤ b.natAbs := Nat.le_of_dvd (by omega) (Nat.gcd_dvd_right _ _)
  exact wide_div (b := 8000) (by omega) (by rw [Int.natAbs_natCast]; exact Nat.lt_of_le_of_lt g1 h2) (by decide) (by decide)
theorem has_low (T : Tx K mg) (F : Def K mg "low" (top 18) []) (h_common_of : Has P w K mg base "common_of" ["one", "other"] 1 (spD K 2 prCommon)) : Has P w K mg base "low" ["top", "bottom"] 2 (spD K 2 prLow) := by
  refine has_data F sc_low (fun _ _ _ _ _ _ us hl => match us, hl with | [_, _], _ => rfl) fun f cdv A outer s H E hr => ⟨_, (pss_cons (ps_set (i := 2) sc_low.nd rfl (by first | exact Or.inl rfl | exact Or.inr rfl) (pe_callH h_common_of hr (by decide) (by rfl) (pa_cons (pv 0) (pa_cons (pv 1) pa_nil))))
    (pss_cons (ps_if (pt_cmpR op_lt (pv 1) pe_int (nomark _)) (pss_one (ps_set (i := 2) sc_low.nd rfl (by first | exact Or.inl rfl | exact Or.inr rfl) (pe_op op_sub pe_int (pv 2)))) pss_nil)
    (pss_one (ps_ret (pe_tup (pa_cons (pe_op op_fdivW (pv 0) (pv 2)) (pa_cons (pe_op op_fdivW (pv 1) (pv 2)) pa_nil))))))), fun ds d z _ => .inl ?_⟩
  obtain ⟨t, b, h1, h2, rfl, rfl⟩ := z
  have c1 : CDivW t ((t.natAbs.gcd b.natAbs : Nat) : Int) := gcd_cdiv h1 h2
  have c2 : CDivW b ((t.natAbs.gcd b.natAbs : Nat) : Int) := gcd_cdiv h1 h2
  have n0 : decide (b < 0) = false := decide_eq_false (by omega)
  unfold encR
  rw [low_num h1, low_den h1]
  walk_at "dr"
theorem sc_is_fraction : FnScope ["thing"] ["thing"] (defScope (top 19)) := ⟨rfl, rfl, rfl, by decide +kernel, rfl, by decide +kernel, by decide +kernel⟩
def prFrac : List PyData → PyData → Prop := fun ds d => ∃ q : Rat, ds = [encR q] ∧ d = .bool true
theorem pr_frac {q : Rat} : prFrac [encR q] (.bool true) := ⟨q, rfl, rfl⟩
local macro_rules | `(tactic| walk_at "pr") => `(tactic| first | exact pr_common | exact pr_whole | assumption)
theorem has_frac (T : Tx K mg) (F : Def K mg "is_fraction" (top 19) []) (h_is_whole : Has P w K mg base "is_whole" ["thing"] 1 (spD K 1 prWhole)) (h_common_of : Has P w K mg base "common_of" ["one", "other"] 1 (spD K 2 prCommon)) : Has P w K mg base "is_fraction" ["thing"] 2 (spD K 1 prFrac) := by
  refine has_data F sc_is_fraction (fun _ _ _ _ _ _ us hl => match us, hl with | [_], _ => rfl) fun f cdv A outer s H E hr => ⟨_, (pss_cons (ps_if (PW.pt (pw_or (pt_not (pt_val (pe_callB call_isi (by rfl) T.f_isinstance (by decide +kernel) (pa_cons (pv 0) (pa_cons (pe_bltn (v := .ty "tuple") (by rfl) T.f_tuple (by decide +kernel) rfl) pa_nil))))) (pw_or (pt_cmpR (op_neD hr.units) (pe_callB call_len_seq (by rfl) T.f_len (by decide +kernel) (pa_cons (pv 0) pa_nil)) pe_int (nomark _)) (pw_or (pt_not (pt_val (pe_callH h_is_whole hr (by decide) (by rfl) (pa_cons (pe_ix ix_tup (pv 0) pe_int (fun _ _ => rfl)) pa_nil)))) (pw_or1 (pt_not (pt_val (pe_callH h_is_whole hr (by decide) (by rfl) (pa_cons (pe_ix ix_tup (pv 0) pe_int (fun _ _ => rfl)) pa_nil))))))))) (pss_one (ps_ret pe_bl)) pss_nil)
    (pss_one (ps_ret (pe_and (pe_cmpR op_gt (pe_ix ix_tup (pv 0) pe_int (fun _ _ => rfl)) pe_int (nomark _)) (pe_one (pe_cmpR (op_eqD hr.units) (pe_callH h_common_of hr (by decide) (by rfl) (pa_cons (pe_ix ix_tup (pv 0) pe_int (fun _ _ => rfl)) (pa_cons (pe_ix ix_tup (pv 0) pe_int (fun _ _ => rfl)) pa_nil))) pe_int (nomark _))))))), fun ds d z _ => .inl ?_⟩
  obtain ⟨q, rfl, rfl⟩ := z
  have e0 : PyData.bool (decide ((0 : Int) < q.den) && PyData.eqv (.int (q.num.natAbs.gcd ((q.den : Int)).natAbs : Nat)) (.int 1)) = .bool true := by
    have e1 : q.num.natAbs.gcd ((q.den : Int)).natAbs = 1 := by
      rw [Int.natAbs_natCast]
      exact q.reduced
    rw [e1, decide_eq_true (den_pos q)]
    rfl
  walk_at "dr"
end
end Ow
/-! ## part Ow8 -/
set_option Elab.async false
set_option linter.all false
set_option maxRecDepth 100000
set_option maxHeartbeats 4000000
namespace Ow
open PySem PySem.Spec PyProof.Rows L2
open Evl (Ex Ex.refl Ex.trans Ex.new ex_rd ex_l ex_t fresh_back)
local macro_rules | `(tactic| walk_at "pr") => `(tactic| assumption)
local macro_rules | `(tactic| walk_at "side") => `(tactic| first | assumption | rfl | decide)
local macro_rules | `(tactic| walk_at "d2") => `(tactic| first
  | exact d2_add | exact d2_sub | exact d2_lt | exact d2_le | exact d2_gt | exact d2_ge
  | exact d2_ixT 0 rfl rfl | exact d2_ixT 1 rfl rfl | exact d2_ixT 2 rfl rfl | exact d2_ixT 3 rfl rfl | exact d2_ixT 4 rfl rfl | exact d2_ixT 5 rfl rfl | exact d2_ixT 6 rfl rfl
  | exact d2_ixL 0 rfl rfl | exact d2_ixL 1 rfl rfl | exact d2_ixL 2 rfl rfl
  | exact d2_mul (by walk_at "side") | exact d2_div (by walk_at "side") | exact d2_mod (by walk_at "side")
  | exact d2_eq (by walk_at "side") (by walk_at "side") | exact d2_ne (by walk_at "side") (by walk_at "side") | walk_at "pr")
local macro_rules | `(tactic| walk_at "dc") => `(tactic| first
  | exact dc_len rfl | exact dc_lenL rfl | exact dc_abs | exact dc_max | exact dc_min | exact dc_all | exact dc_any | exact dc_list | exact dc_tuple | walk_at "pr")
local macro_rules | `(tactic| walk_at "da") => `(tactic| first
  | exact da_nil
  | (refine' da_cons ?k1 ?k2; (case k1 => walk_at "dv"); (case k2 => walk_at "da")))
local macro_rules | `(tactic| walk_at "dv") => `(tactic| first
  | exact dv_var rfl | exact dv_int | exact dv_str | exact dv_bl | exact dv_non
  | (refine' dv_call ?k1 ?k2 ?k3; (case k1 => walk_at "da"); (case k2 => walk_at "pr"); (case k3 => rfl))
  | (refine' dv_isi (b := true) ?k1 ?k2 ?k3; (case k1 => walk_at "dv"); (case k2 => first | exact .int _ | exact .tup _ | exact .str _ | exact .bl _); (case k3 => exact kit_ty (by decide +kernel)))
  | (refine' dv_isi (b := false) ?k1 ?k2 ?k3; (case k1 => walk_at "dv"); (case k2 => first | exact .int _ | exact .tup _ | exact .str _ | exact .bl _); (case k3 => exact kit_ty (by decide +kernel)))
  | (refine' dv_cb ?k1 ?k2; (case k1 => walk_at "da"); (case k2 => walk_at "dc"))
  | (refine' dv_op ?k1 ?k2 ?k3; (case k1 => walk_at "dv"); (case k2 => walk_at "dv"); (case k3 => walk_at "d2"))
  | (refine' dv_tup ?k1 ?k2; (case k1 => walk_at "da"); (case k2 => first | exact Nat.le_of_ble_eq_true rfl | walk_at "side"))
  | (refine' dv_lst ?k1 ?k2; (case k1 => walk_at "da"); (case k2 => first | exact Nat.le_of_ble_eq_true rfl | walk_at "side"))
  | (refine' dv_and ?k1 ?k2; (case k1 => walk_at "dv"); (case k2 => intro _; walk_at "dv"))
  | (refine' dv_notV ?k1; (case k1 => walk_at "dv"))
  | (refine' dv_chain ?k1 ?k2 ?k3 ?k4 ?k5; (case k1 => walk_at "dv"); (case k2 => walk_at "dv"); (case k3 => walk_at "d2"); (case k4 => intro _; walk_at "dv"); (case k5 => intro _; walk_at "d2"))
  | walk_at "pr")
local macro_rules | `(tactic| walk_at "dt") => `(tactic| first
  | (refine' dt_test ?k1; (case k1 => walk_at "dv"))
  | (refine' dt_B ?k1; (case k1 => walk_at "dv"))
  | (refine' dt_not ?k1; (case k1 => walk_at "dt"))
  | (refine' dt_or ?k1 ?k2; (case k1 => walk_at "dt"); (case k2 => intro _; walk_at "dt"))
  | (refine' dt_and ?k1 ?k2; (case k1 => walk_at "dt"); (case k2 => intro _; walk_at "dt"))
  | walk_at "pr")
local macro_rules | `(tactic| walk_at "no") => `(tactic| first | rfl | assumption)
local macro_rules | `(tactic| walk_at "fin") => `(tactic| first | rfl | assumption)
local macro_rules | `(tactic| walk_at "dr") => `(tactic| first
  | (refine' dr_retI ?k1 ?k2; (case k1 => walk_at "dv"); (case k2 => walk_at "fin"))
  | (refine' dr_unless ?k1 ?k2 ?k3; (case k1 => walk_at "dt"); (case k2 => walk_at "no"); (case k3 => walk_at "dr"))
  | (refine' dr_seq (ds_asg ?k1) ?k2; (case k1 => walk_at "dv"); (case k2 => walk_at "dr"))
  | (refine' dr_seq (ds_drop ?k1) ?k2; (case k1 => walk_at "dv"); (case k2 => walk_at "dr"))
  | (refine' dr_seq (ds_par ?k1 ?k2) ?k3; (case k1 => walk_at "dv"); (case k2 => walk_at "dv"); (case k3 => walk_at "dr"))
  | (refine' dr_seq (ds_asgG ?k1 ?k2) ?k3; (case k1 => walk_at "dv"); (case k2 => walk_at "dg"); (case k3 => walk_at "dr")))
local macro_rules | `(tactic| walk_at "dg") => `(tactic| first
  | exact dg_name
  | exact dg_tup (dgs_cons (dgs_cons dgs_nil))
  | exact dg_tup (dgs_cons (dgs_cons (dgs_cons dgs_nil)))
  | exact dg_tup (dgs_cons (dgs_cons (dgs_cons (dgs_cons dgs_nil))))
  | exact dg_tup (dgs_cons (dgs_cons (dgs_cons (dgs_cons (dgs_cons (dgs_cons (dgs_cons dgs_nil))))))))

open PySem.W (dataLt)
/-! ### defaults: one value left out -/
def Has1 (P : Program) (w : World) (K : PySem.W.Frag) (mg : Str → Option Value) (base : Heap) (x : Str) (ps : List Str) (k : Nat) (sp : Sp) (dv : V) : Prop :=
  ∃ f fd ds, FnOk P w K mg base CX0 k f fd ps sp ∧ mg x = some (.ref f) ∧ PySem.W.keepIn K (.ref f) = true ∧ Vals [dv] ds ∧ Binds K fd ps ds
theorem pe_callH1 {X : Cx} {x : Str} {ps : List Str} {j k : Nat} {sp : Sp} {dv : V} {e : Expr} {es : List Expr} {t : TA} {p pos : Pos} (h : Has1 X.prog X.w X.K X.mg X.base x ps j sp dv) (hr : Room k X.A) (hjk : j ≤ k) (hg : Gl X x) (ha : PA X (e :: es) t) (hdb : (x == ("__debug__" : Str)) = false := by decide)
    (he : starEach (e :: es) X.env = (false, eval e X.env) :: starEach es X.env := by rfl) (hpl : (backTo pos (starEach es X.env)).any (·.1) = false := by rfl) : PE X (.Call (.Name x p) (e :: es) [] pos) (tCall sp [dv] E0 t) := by
  obtain ⟨f, fd, ds, F, hm, hk, hv, hb⟩ := h
  exact pe_call F (hr.mono hjk) hg hm hk hb hv pass0 ha hdb he hpl
section
variable {K : PySem.W.Frag} {ρ : Rho} {ds : List PyData} {d : PyData}
theorem dv_call1 {n : Nat} {Pr : List PyData → PyData → Prop} {E0 : XK} {t : TA} {i : Int} (ha : Da K t ρ ds) (hp : Pr (ds ++ [.int i]) d) (hn : ds.length + 1 = n := by rfl) : Dv K (tCall (spD K n Pr) [.int i] E0 t) ρ d := fun G σ H x E Q q =>
  ha G σ H x E _ fun vs G1 H1 a1 d1 => by
    show spD K n Pr (vs ++ [.int i]) H1 Q E0
    exact ⟨by rw [List.length_append, DpAll.len d1]; exact hn, G1, ds ++ [.int i], d, a1.i, DpAll.app d1 (.cons (.int i) .nil), hp, fun z G3 H3 a3 d3 => q z G3 H3 (a1.trans a3) d3⟩
end
theorem cmul {i j : Int} {n : Nat} (ha : i.natAbs < 2 ^ n) (hb : j.natAbs < 2 ^ n) (h : n ≤ 500000) (h0 : 0 < n := by decide) : CMulW i j := wide_mul ha hb h0 h0 (by omega)
theorem den_abs (q : Rat) : ((q.den : Int)).natAbs = q.den := Int.natAbs_natCast _
section
variable {P : Program} {w : World} {K : PySem.W.Frag} {mg : Str → Option Value} {base : Heap}
local macro_rules | `(tactic| walk_at "pr") => `(tactic| first | exact pr_common | exact pr_whole | exact pr_frac | exact pr_low (by assumption) (by assumption) | assumption)
def prTwo (f : Rat → Rat → Rat) (C : Rat → Rat → Prop) : List PyData → PyData → Prop := fun ds d => ∃ p q : Rat, Sm 2000 p ∧ Sm 2000 q ∧ C p q ∧ ds = [encR p, encR q] ∧ d = encR (f p q)
theorem pr_two {f : Rat → Rat → Rat} {C : Rat → Rat → Prop} {p q : Rat} (h1 : Sm 2000 p) (h2 : Sm 2000 q) (h3 : C p q) : prTwo f C [encR p, encR q] (encR (f p q)) := ⟨p, q, h1, h2, h3, rfl, rfl⟩
abbrev prPlus := prTwo (fun p q => p + q) fun _ _ => True
abbrev prMinus := prTwo (fun p q => p - q) fun _ _ => True
abbrev prTimes := prTwo (fun p q => p * q) fun _ _ => True
abbrev prOver := prTwo (fun p q => p / q) fun _ q => 0 < q.num
theorem den2 {p q : Rat} (h1 : Sm 2000 p) (h2 : Sm 2000 q) : (0 : Int) < p.den * q.den ∧ ((p.den : Int) * q.den).natAbs < 2 ^ 8000 := by
  refine ⟨Int.mul_pos (den_pos p) (den_pos q), ?_⟩
  have h := natAbs_mul_lt (i := (p.den : Int)) (j := (q.den : Int)) (a := 2000) (b := 2000) (by rw [den_abs]; exact h1.2) (by rw [den_abs]; exact h2.2)
  exact lt_pow_mono h (by decide)
section
variable {p q : Rat}
theorem nd_mul (h1 : Sm 2000 p) (h2 : Sm 2000 q) : CMulW p.num q.den ∧ CMulW q.num p.den ∧ CMulW p.den q.den ∧ CMulW p.num q.num ∧ CMulW p.den q.num :=
  ⟨cmul h1.1 (by rw [den_abs]; exact h2.2) (by decide), cmul h2.1 (by rw [den_abs]; exact h1.2) (by decide), cmul (n := 2000) (by rw [den_abs]; exact h1.2) (by rw [den_abs]; exact h2.2) (by decide), cmul h1.1 h2.1 (by decide), cmul (n := 2000) (by rw [den_abs]; exact h1.2) h2.1 (by decide)⟩
end
abbrev Hl (P : Program) (w : World) (K : PySem.W.Frag) (mg : Str → Option Value) (base : Heap) := Has P w K mg base "low" ["top", "bottom"] 2 (spD K 2 prLow)
theorem sc_plus : FnScope ["one", "other"] ["one", "other"] (defScope (top 20)) := ⟨rfl, rfl, rfl, by decide +kernel, rfl, by decide +kernel, by decide +kernel⟩
theorem has_plus (T : Tx K mg) (F : Def K mg "plus" (top 20) []) (h_low : Hl P w K mg base) : Has P w K mg base "plus" ["one", "other"] 3 (spD K 2 prPlus) := by
  refine has_data F sc_plus (fun _ _ _ _ _ _ us hl => match us, hl with | [_, _], _ => rfl) fun f cdv A outer s H E hr => ⟨_, (pss_one (ps_ret (pe_callH h_low hr (by decide) (by rfl) (pa_cons (pe_op op_add (pe_op op_mulW (pe_ix ix_tup (pv 0) pe_int (fun _ _ => rfl)) (pe_ix ix_tup (pv 1) pe_int (fun _ _ => rfl))) (pe_op op_mulW (pe_ix ix_tup (pv 1) pe_int (fun _ _ => rfl)) (pe_ix ix_tup (pv 0) pe_int (fun _ _ => rfl)))) (pa_cons (pe_op op_mulW (pe_ix ix_tup (pv 0) pe_int (fun _ _ => rfl)) (pe_ix ix_tup (pv 1) pe_int (fun _ _ => rfl))) pa_nil))))), fun ds d z _ => .inl ?_⟩
  obtain ⟨p, q, h1, h2, _, rfl, rfl⟩ := z
  obtain ⟨m1, m2, m3, m4, m5⟩ := nd_mul h1 h2
  obtain ⟨d1, d2⟩ := den2 h1 h2
  show Dr _ _ _ (encR (p + q))
  rw [← low_add p q]
  walk_at "dr"
theorem sc_minus : FnScope ["one", "other"] ["one", "other"] (defScope (top 21)) := ⟨rfl, rfl, rfl, by decide +kernel, rfl, by decide +kernel, by decide +kernel⟩
theorem has_minus (T : Tx K mg) (F : Def K mg "minus" (top 21) []) (h_low : Hl P w K mg base) : Has P w K mg base "minus" ["one", "other"] 3 (spD K 2 prMinus) := by
  refine has_data F sc_minus (fun _ _ _ _ _ _ us hl => match us, hl with | [_, _], _ => rfl) fun f cdv A outer s H E hr => ⟨_, (pss_one (ps_ret (pe_callH h_low hr (by decide) (by rfl) (pa_cons (pe_op op_sub (pe_op op_mulW (pe_ix ix_tup (pv 0) pe_int (fun _ _ => rfl)) (pe_ix ix_tup (pv 1) pe_int (fun _ _ => rfl))) (pe_op op_mulW (pe_ix ix_tup (pv 1) pe_int (fun _ _ => rfl)) (pe_ix ix_tup (pv 0) pe_int (fun _ _ => rfl)))) (pa_cons (pe_op op_mulW (pe_ix ix_tup (pv 0) pe_int (fun _ _ => rfl)) (pe_ix ix_tup (pv 1) pe_int (fun _ _ => rfl))) pa_nil))))), fun ds d z _ => .inl ?_⟩
  obtain ⟨p, q, h1, h2, _, rfl, rfl⟩ := z
  obtain ⟨m1, m2, m3, m4, m5⟩ := nd_mul h1 h2
  obtain ⟨d1, d2⟩ := den2 h1 h2
  show Dr _ _ _ (encR (p - q))
  rw [← low_sub p q]
  walk_at "dr"
theorem sc_times : FnScope ["one", "other"] ["one", "other"] (defScope (top 22)) := ⟨rfl, rfl, rfl, by decide +kernel, rfl, by decide +kernel, by decide +kernel⟩
theorem has_times (T : Tx K mg) (F : Def K mg "times" (top 22) []) (h_low : Hl P w K mg base) : Has P w K mg base "times" ["one", "other"] 3 (spD K 2 prTimes) := by
  refine has_data F sc_times (fun _ _ _ _ _ _ us hl => match us, hl with | [_, _], _ => rfl) fun f cdv A outer s H E hr => ⟨_, (pss_one (ps_ret (pe_callH h_low hr (by decide) (by rfl) (pa_cons (pe_op op_mulW (pe_ix ix_tup (pv 0) pe_int (fun _ _ => rfl)) (pe_ix ix_tup (pv 1) pe_int (fun _ _ => rfl))) (pa_cons (pe_op op_mulW (pe_ix ix_tup (pv 0) pe_int (fun _ _ => rfl)) (pe_ix ix_tup (pv 1) pe_int (fun _ _ => rfl))) pa_nil))))), fun ds d z _ => .inl ?_⟩
  obtain ⟨p, q, h1, h2, _, rfl, rfl⟩ := z
  obtain ⟨m1, m2, m3, m4, m5⟩ := nd_mul h1 h2
  obtain ⟨d1, d2⟩ := den2 h1 h2
  show Dr _ _ _ (encR (p * q))
  rw [← low_mul p q]
  walk_at "dr"
theorem sc_over : FnScope ["one", "other"] ["one", "other"] (defScope (top 23)) := ⟨rfl, rfl, rfl, by decide +kernel, rfl, by decide +kernel, by decide +kernel⟩
theorem has_over (T : Tx K mg) (F : Def K mg "over" (top 23) []) (h_low : Hl P w K mg base) : Has P w K mg base "over" ["one", "other"] 3 (spD K 2 prOver) := by
  refine has_data F sc_over (fun _ _ _ _ _ _ us hl => match us, hl with | [_, _], _ => rfl) fun f cdv A outer s H E hr => ⟨_, (pss_one (ps_ret (pe_callH h_low hr (by decide) (by rfl) (pa_cons (pe_op op_mulW (pe_ix ix_tup (pv 0) pe_int (fun _ _ => rfl)) (pe_ix ix_tup (pv 1) pe_int (fun _ _ => rfl))) (pa_cons (pe_op op_mulW (pe_ix ix_tup (pv 0) pe_int (fun _ _ => rfl)) (pe_ix ix_tup (pv 1) pe_int (fun _ _ => rfl))) pa_nil))))), fun ds d z _ => .inl ?_⟩
  obtain ⟨p, q, h1, h2, h3, rfl, rfl⟩ := z
  obtain ⟨m1, m2, m3, m4, m5⟩ := nd_mul h1 h2
  have d1 : (0 : Int) < p.den * q.num := Int.mul_pos (den_pos p) h3
  have d2 : ((p.den : Int) * q.num).natAbs < 2 ^ 8000 := lt_pow_mono (natAbs_mul_lt (a := 2000) (b := 2000) (by rw [den_abs]; exact h1.2) h2.1) (by decide)
  show Dr _ _ _ (encR (p / q))
  rw [← low_div p q (by omega)]
  walk_at "dr"
theorem sc_less : FnScope ["one", "other"] ["one", "other"] (defScope (top 24)) := ⟨rfl, rfl, rfl, by decide +kernel, rfl, by decide +kernel, by decide +kernel⟩
def prLess : List PyData → PyData → Prop := fun ds d => ∃ p q : Rat, Sm 2000 p ∧ Sm 2000 q ∧ ds = [encR p, encR q] ∧ d = .bool (decide (p < q))
theorem pr_less {p q : Rat} (h1 : Sm 2000 p) (h2 : Sm 2000 q) : prLess [encR p, encR q] (.bool (decide (p < q))) := ⟨p, q, h1, h2, rfl, rfl⟩
theorem has_less (T : Tx K mg) (F : Def K mg "less" (top 24) []) : Has P w K mg base "less" ["one", "other"] 1 (spD K 2 prLess) := by
  refine has_data F sc_less (fun _ _ _ _ _ _ us hl => match us, hl with | [_, _], _ => rfl) fun f cdv A outer s H E hr => ⟨_, (pss_one (ps_ret (pe_cmpR op_lt (pe_op op_mulW (pe_ix ix_tup (pv 0) pe_int (fun _ _ => rfl)) (pe_ix ix_tup (pv 1) pe_int (fun _ _ => rfl))) (pe_op op_mulW (pe_ix ix_tup (pv 1) pe_int (fun _ _ => rfl)) (pe_ix ix_tup (pv 0) pe_int (fun _ _ => rfl))) (nomark _)))), fun ds d z _ => .inl ?_⟩
  obtain ⟨p, q, h1, h2, rfl, rfl⟩ := z
  obtain ⟨m1, m2, m3, m4, m5⟩ := nd_mul h1 h2
  rw [← less_iff p q]
  walk_at "dr"
theorem sc_amount : FnScope ["one"] ["one"] (defScope (top 25)) := ⟨rfl, rfl, rfl, by decide +kernel, rfl, by decide +kernel, by decide +kernel⟩
def prAmount : List PyData → PyData → Prop := fun ds d => ∃ p : Rat, ds = [encR p] ∧ d = encR (absR p)
theorem pr_amount {p : Rat} : prAmount [encR p] (encR (absR p)) := ⟨p, rfl, rfl⟩
theorem has_amount (T : Tx K mg) (F : Def K mg "amount" (top 25) []) : Has P w K mg base "amount" ["one"] 1 (spD K 1 prAmount) := by
  refine has_data F sc_amount (fun _ _ _ _ _ _ us hl => match us, hl with | [_], _ => rfl) fun f cdv A outer s H E hr => ⟨_, (pss_one (ps_ret (pe_tup (pa_cons (pe_callB call_abs (by rfl) T.f_abs (by decide +kernel) (pa_cons (pe_ix ix_tup (pv 0) pe_int (fun _ _ => rfl)) pa_nil)) (pa_cons (pe_ix ix_tup (pv 0) pe_int (fun _ _ => rfl)) pa_nil))))), fun ds d z _ => .inl ?_⟩
  obtain ⟨p, rfl, rfl⟩ := z
  rw [encR_abs]
  walk_at "dr"
theorem sc_middle : FnScope ["one", "other"] ["one", "other"] (defScope (top 26)) := ⟨rfl, rfl, rfl, by decide +kernel, rfl, by decide +kernel, by decide +kernel⟩
def prMiddle : List PyData → PyData → Prop := fun ds d => ∃ p q : Rat, Sm 900 p ∧ Sm 900 q ∧ ds = [encR p, encR q] ∧ d = encR ((p + q) / 2)
theorem pr_middle {p q : Rat} (h1 : Sm 900 p) (h2 : Sm 900 q) : prMiddle [encR p, encR q] (encR ((p + q) / 2)) := ⟨p, q, h1, h2, rfl, rfl⟩
local macro_rules | `(tactic| walk_at "pr") => `(tactic| first | exact pr_two (by assumption) (by assumption) (by first | exact trivial | assumption) | assumption)
theorem enc2 : PyData.tuple [.int 2, .int 1] = encR 2 := rfl
theorem has_middle (T : Tx K mg) (F : Def K mg "middle" (top 26) []) (h_plus : Has P w K mg base "plus" ["one", "other"] 3 (spD K 2 prPlus)) (h_over : Has P w K mg base "over" ["one", "other"] 3 (spD K 2 prOver)) : Has P w K mg base "middle" ["one", "other"] 4 (spD K 2 prMiddle) := by
  refine has_data F sc_middle (fun _ _ _ _ _ _ us hl => match us, hl with | [_, _], _ => rfl) fun f cdv A outer s H E hr => ⟨_, (pss_one (ps_ret (pe_callH h_over hr (by decide) (by rfl) (pa_cons (pe_callH h_plus hr (by decide) (by rfl) (pa_cons (pv 0) (pa_cons (pv 1) pa_nil))) (pa_cons (pe_tup (pa_cons pe_int (pa_cons pe_int pa_nil))) pa_nil))))), fun ds d z _ => .inl ?_⟩
  obtain ⟨p, q, h1, h2, rfl, rfl⟩ := z
  have s1 : Sm 2000 p := h1.mono (by decide)
  have s2 : Sm 2000 q := h2.mono (by decide)
  have s3 : Sm 2000 (p + q) := (sm_add h1 h2).mono (by decide)
  have s4 : Sm 2000 (2 : Rat) := Sm.mono (n := 2) ⟨by decide, by decide⟩ (by decide)
  have s5 : (0 : Int) < (2 : Rat).num := by decide
  refine dr_ret (dv_call (ds := [encR (p + q), encR 2]) (da_cons ?_ (da_cons ?_ da_nil)) (pr_two s3 s4 s5))
  · walk_at "dv"
  · rw [← enc2]
    walk_at "dv"
end
end Ow
/-! ## part Ow9 -/
set_option Elab.async false
set_option linter.all false
set_option maxRecDepth 100000
set_option maxHeartbeats 4000000
namespace Ow
open PySem PySem.Spec PyProof.Rows L2
open Evl (Ex Ex.refl Ex.trans Ex.new ex_rd ex_l ex_t fresh_back)
local macro_rules | `(tactic| walk_at "pr") => `(tactic| assumption)
local macro_rules | `(tactic| walk_at "side") => `(tactic| first | assumption | rfl | decide)
local macro_rules | `(tactic| walk_at "d2") => `(tactic| first
  | exact d2_add | exact d2_sub | exact d2_lt | exact d2_le | exact d2_gt | exact d2_ge
  | exact d2_ixT 0 rfl rfl | exact d2_ixT 1 rfl rfl | exact d2_ixT 2 rfl rfl | exact d2_ixT 3 rfl rfl | exact d2_ixT 4 rfl rfl | exact d2_ixT 5 rfl rfl | exact d2_ixT 6 rfl rfl
  | exact d2_ixL 0 rfl rfl | exact d2_ixL 1 rfl rfl | exact d2_ixL 2 rfl rfl
  | exact d2_mul (by walk_at "side") | exact d2_div (by walk_at "side") | exact d2_mod (by walk_at "side")
  | exact d2_eq (by walk_at "side") (by walk_at "side") | exact d2_ne (by walk_at "side") (by walk_at "side") | walk_at "pr")
local macro_rules | `(tactic| walk_at "dc") => `(tactic| first
  | exact dc_len rfl | exact dc_lenL rfl | exact dc_abs | exact dc_max | exact dc_min | exact dc_all | exact dc_any | exact dc_list | exact dc_tuple | walk_at "pr")
local macro_rules | `(tactic| walk_at "da") => `(tactic| first
  | exact da_nil
  | (refine' da_cons ?k1 ?k2; (case k1 => walk_at "dv"); (case k2 => walk_at "da")))
local macro_rules | `(tactic| walk_at "dv") => `(tactic| first
  | exact dv_var rfl | exact dv_int | exact dv_str | exact dv_bl | exact dv_non
  | (refine' dv_call ?k1 ?k2 ?k3; (case k1 => walk_at "da"); (case k2 => walk_at "pr"); (case k3 => rfl))
  | (refine' dv_isi (b := true) ?k1 ?k2 ?k3; (case k1 => walk_at "dv"); (case k2 => first | exact .int _ | exact .tup _ | exact .str _ | exact .bl _); (case k3 => exact kit_ty (by decide +kernel)))
  | (refine' dv_isi (b := false) ?k1 ?k2 ?k3; (case k1 => walk_at "dv"); (case k2 => first | exact .int _ | exact .tup _ | exact .str _ | exact .bl _); (case k3 => exact kit_ty (by decide +kernel)))
  | (refine' dv_cb ?k1 ?k2; (case k1 => walk_at "da"); (case k2 => walk_at "dc"))
  | (refine' dv_op ?k1 ?k2 ?k3; (case k1 => walk_at "dv"); (case k2 => walk_at "dv"); (case k3 => walk_at "d2"))
  | (refine' dv_tup ?k1 ?k2; (case k1 => walk_at "da"); (case k2 => first | exact Nat.le_of_ble_eq_true rfl | walk_at "side"))
  | (refine' dv_lst ?k1 ?k2; (case k1 => walk_at "da"); (case k2 => first | exact Nat.le_of_ble_eq_true rfl | walk_at "side"))
  | (refine' dv_and ?k1 ?k2; (case k1 => walk_at "dv"); (case k2 => intro _; walk_at "dv"))
  | (refine' dv_notV ?k1; (case k1 => walk_at "dv"))
  | (refine' dv_chain ?k1 ?k2 ?k3 ?k4 ?k5; (case k1 => walk_at "dv"); (case k2 => walk_at "dv"); (case k3 => walk_at "d2"); (case k4 => intro _; walk_at "dv"); (case k5 => intro _; walk_at "d2"))
  | walk_at "pr")
local macro_rules | `(tactic| walk_at "dt") => `(tactic| first
  | (refine' dt_test ?k1; (case k1 => walk_at "dv"))
  | (refine' dt_B ?k1; (case k1 => walk_at "dv"))
  | (refine' dt_not ?k1; (case k1 => walk_at "dt"))
  | (refine' dt_or ?k1 ?k2; (case k1 => walk_at "dt"); (case k2 => intro _; walk_at "dt"))
  | (refine' dt_and ?k1 ?k2; (case k1 => walk_at "dt"); (case k2 => intro _; walk_at "dt"))
  | walk_at "pr")
local macro_rules | `(tactic| walk_at "no") => `(tactic| first | rfl | assumption | (simp [*]; done))
local macro_rules | `(tactic| walk_at "fin") => `(tactic| first | rfl | assumption | (simp [*]; done))
local macro_rules | `(tactic| walk_at "dr") => `(tactic| first
  | (refine' dr_retI ?k1 ?k2; (case k1 => walk_at "dv"); (case k2 => walk_at "fin"))
  | (refine' dr_unless ?k1 ?k2 ?k3; (case k1 => walk_at "dt"); (case k2 => walk_at "no"); (case k3 => walk_at "dr"))
  | (refine' dr_seq (ds_asg ?k1) ?k2; (case k1 => walk_at "dv"); (case k2 => walk_at "dr"))
  | (refine' dr_seq (ds_drop ?k1) ?k2; (case k1 => walk_at "dv"); (case k2 => walk_at "dr"))
  | (refine' dr_seq (ds_par ?k1 ?k2) ?k3; (case k1 => walk_at "dv"); (case k2 => walk_at "dv"); (case k3 => walk_at "dr"))
  | (refine' dr_seq (ds_asgG ?k1 ?k2) ?k3; (case k1 => walk_at "dv"); (case k2 => walk_at "dg"); (case k3 => walk_at "dr")))
local macro_rules | `(tactic| walk_at "dg") => `(tactic| first
  | exact dg_name
  | exact dg_tup (dgs_cons (dgs_cons dgs_nil))
  | exact dg_tup (dgs_cons (dgs_cons (dgs_cons dgs_nil)))
  | exact dg_tup (dgs_cons (dgs_cons (dgs_cons (dgs_cons dgs_nil))))
  | exact dg_tup (dgs_cons (dgs_cons (dgs_cons (dgs_cons (dgs_cons (dgs_cons (dgs_cons dgs_nil))))))))

open PySem.W (dataLt alike)
section
variable {P : Program} {w : World} {K : PySem.W.Frag} {mg : Str → Option Value} {base : Heap}
theorem pairs_next {xs : List PyData} {y : PyData} (h : y ∈ pairs xs (xs.drop 1)) : ∃ (i : Nat) (d e : PyData), y = .tuple [d, e] ∧ xs[i]? = some d ∧ xs[i + 1]? = some e := by
  unfold pairs at h
  obtain ⟨p, hp, rfl⟩ := List.mem_map.mp h
  obtain ⟨i, hi⟩ := List.getElem?_of_mem hp
  rw [List.getElem?_zip_eq_some] at hi
  obtain ⟨h1, h2⟩ := hi
  rw [List.getElem?_drop] at h2
  exact ⟨i, p.1, p.2, rfl, h1, by rw [Nat.add_comm]; exact h2⟩
theorem sc_rises : FnScope ["row", "one", "later"] ["row"] (defScope (top 15)) := ⟨rfl, rfl, rfl, by decide +kernel, rfl, by decide +kernel, by decide +kernel⟩
def Rises (xs : List PyData) : Prop := ∀ (i : Nat) (d e : PyData), xs[i]? = some d → xs[i + 1]? = some e → alike d e = true ∧ d ≠ .none ∧ d.depth ≤ 32 ∧ dataLt d e = true
def prRises : List PyData → PyData → Prop := fun ds d => ∃ xs, xs.length ≤ 100000 ∧ Rises xs ∧ ds = [.tuple xs] ∧ d = .bool true
theorem pr_rises {xs : List PyData} (h : xs.length ≤ 100000) (h2 : Rises xs) : prRises [.tuple xs] (.bool true) := ⟨xs, h, h2, rfl, rfl⟩
theorem has_rises (T : Tx K mg) (F : Def K mg "rises" (top 15) []) : Has P w K mg base "rises" ["row"] 1 (spD K 1 prRises) := by
  refine has_data F sc_rises (fun _ _ _ _ _ _ us hl => match us, hl with | [_], _ => rfl) fun f cdv A outer s H E hr => ⟨_, (pss_one (ps_ret (pe_callB (cr_all rfl) (by rfl) T.f_all (by decide +kernel) (pa_cons (pe_lc (own := [("one", 1), ("later", 2)]) (g := (gTup K 2 (gCons (gName 1) (gCons (gName 2) gNil)))) (tt := tYes) (te := (tOp (rLtD K) (tVar 1) (tVar 2))) rfl sc_rises.nd (RZ.pi_zipA (by rfl) T.f_zip (pa_cons (pv 0) (pa_cons (pe_slice sl_tupA (pv 0) (po_some pe_int) po_none) pa_nil))) (blkOk_by (own := [("one", 1), ("later", 2)]) (N := ["row", "one", "later"]) (sc := defScope (top 15)) (by decide +kernel)) (fun _ _ _ _ _ => (pg_tup (by rfl) (pgs_cons (pg_name (i := 1) sc_rises.nd rfl (by first | exact Or.inl rfl | exact Or.inr rfl)) (pgs_cons (pg_name (i := 2) sc_rises.nd rfl (by first | exact Or.inl rfl | exact Or.inr rfl)) pgs_nil)))) (fun _ _ _ _ _ => pts_nil) (fun _ _ _ _ _ => (pe_cmpR ((op_ltD hr)) (pv 1) (pv 2) (nomark _)))) pa_nil)))), fun ds d z _ => .inl ?_⟩
  obtain ⟨xs, hl, hx, rfl, rfl⟩ := z
  refine dr_ret (dv_allT (dw_zip (da_cons (dv_var rfl) (da_cons (dv_slT 1 rfl (dv_var rfl) dv_int) da_nil))) (gw_tup (gws_cons (gws_cons gws_nil))) (by rw [pairs_len]; omega) fun y hy => ?_)
  obtain ⟨i, d, e, rfl, h1, h2⟩ := pairs_next hy
  obtain ⟨a1, a2, a3, a4⟩ := hx i d e h1 h2
  refine ⟨_, dg_tup (dgs_cons (dgs_cons dgs_nil)), ?_⟩
  rw [← a4]
  exact dv_op (dv_var rfl) (dv_var rfl) (d2_ltD a1 a2 a3)
theorem sc_is_row : FnScope ["thing", "least", "most", "many", "one"] ["thing", "least", "most", "many"] (defScope (top 16)) := ⟨rfl, rfl, rfl, by decide +kernel, rfl, by decide +kernel, by decide +kernel⟩
def prRow : List PyData → PyData → Prop := fun ds d => ∃ (xs : List PyData) (l m : Int) (n : Nat), xs.length ≤ 100000 ∧ l ≤ xs.length ∧ xs.length ≤ m ∧ (∀ x ∈ xs, ∃ ys : List PyData, x = .tuple ys ∧ ys.length = n) ∧ ds = [.tuple xs, .int l, .int m, .int n] ∧ d = .bool true
theorem has_row (T : Tx K mg) (F : Def K mg "is_row" (top 16) []) : Has P w K mg base "is_row" ["thing", "least", "most", "many"] 1 (spD K 4 prRow) := by
  refine has_data F sc_is_row (fun _ _ _ _ _ _ us hl => match us, hl with | [_, _, _, _], _ => rfl) fun f cdv A outer s H E hr => ⟨_, (pss_cons (ps_if (PW.pt (pw_or (pt_not (pt_val (pe_callB call_isi (by rfl) T.f_isinstance (by decide +kernel) (pa_cons (pv 0) (pa_cons (pe_bltn (v := .ty "tuple") (by rfl) T.f_tuple (by decide +kernel) rfl) pa_nil))))) (pw_or1 (pt_not (pt_chain op_le op_le (pv 1) (pe_callB call_len_seq (by rfl) T.f_len (by decide +kernel) (pa_cons (pv 0) pa_nil)) (pv 2)))))) (pss_one (ps_ret pe_bl)) pss_nil)
    (pss_one (ps_ret (pe_callB (cr_all rfl) (by rfl) T.f_all (by decide +kernel) (pa_cons (pe_lc (own := [("one", 4)]) (g := (gName 4)) (tt := tYes) (te := (tAndV (tCB (rIsi K) (tCons (tVar 4) (tCons (tC (V.ty "tuple")) tNil))) (tOp (rEqD K) (tCB (rLenSeq K) (tCons (tVar 4) tNil)) (tVar 3)))) rfl sc_is_row.nd (pi_tup (pv 0)) (blkOk_by (own := [("one", 4)]) (N := ["thing", "least", "most", "many", "one"]) (sc := defScope (top 16)) (by decide +kernel)) (fun _ _ _ _ _ => (pg_name (i := 4) sc_is_row.nd rfl (by first | exact Or.inl rfl | exact Or.inr rfl))) (fun _ _ _ _ _ => pts_nil) (fun _ _ _ _ _ => (pe_and (pe_callB call_isi (by rfl) T.f_isinstance (by decide +kernel) (pa_cons (pv 4) (pa_cons (pe_bltn (v := .ty "tuple") (by rfl) T.f_tuple (by decide +kernel) rfl) pa_nil))) (pe_one (pe_cmpR (op_eqD hr.units) (pe_callB call_len_seq (by rfl) T.f_len (by decide +kernel) (pa_cons (pv 4) pa_nil)) (pv 3) (nomark _)))))) pa_nil))))), fun ds d z _ => .inl ?_⟩
  obtain ⟨xs, l, m, n, hl, h1, h2, hx, rfl, rfl⟩ := z
  refine dr_unless (b := (!true || !(decide (l ≤ (xs.length : Int)) && decide ((xs.length : Int) ≤ m)))) ?_ ?_ (dr_ret (dv_allT (dw_tup (dv_var rfl)) (gw_name (by decide)) hl fun y hy => ?_))
  · walk_at "dt"
  · walk_at "no"
  · obtain ⟨ys, rfl, hn⟩ := hx y hy
    refine ⟨_, dg_name, dv_is (d := .bool (true && PyData.eqv (.int (ys.length : Nat)) (.int (n : Nat)))) ?_ ?_⟩
    · walk_at "dv"
    · rw [hn]
      show PyData.bool ((n : Int) == (n : Int)) = _
      rw [beq_self_eq_true]
theorem sc_is_point : FnScope ["thing"] ["thing"] (defScope (top 27)) := ⟨rfl, rfl, rfl, by decide +kernel, rfl, by decide +kernel, by decide +kernel⟩
def prPoint : List PyData → PyData → Prop := fun ds d => ∃ p : Rat × Rat, ds = [encP p] ∧ d = .bool true
theorem pr_point {p : Rat × Rat} : prPoint [encP p] (.bool true) := ⟨p, rfl, rfl⟩
local macro_rules | `(tactic| walk_at "pr") => `(tactic| first | exact pr_frac | exact pr_whole | assumption)
theorem has_point (T : Tx K mg) (F : Def K mg "is_point" (top 27) []) (h_is_fraction : Has P w K mg base "is_fraction" ["thing"] 2 (spD K 1 prFrac)) : Has P w K mg base "is_point" ["thing"] 3 (spD K 1 prPoint) := by
  refine has_data F sc_is_point (fun _ _ _ _ _ _ us hl => match us, hl with | [_], _ => rfl) fun f cdv A outer s H E hr => ⟨_, (pss_one (ps_ret (pe_and (pe_callB call_isi (by rfl) T.f_isinstance (by decide +kernel) (pa_cons (pv 0) (pa_cons (pe_bltn (v := .ty "tuple") (by rfl) T.f_tuple (by decide +kernel) rfl) pa_nil))) (pe_and (pe_cmpR (op_eqD hr.units) (pe_callB call_len_seq (by rfl) T.f_len (by decide +kernel) (pa_cons (pv 0) pa_nil)) pe_int (nomark _)) (pe_and (pe_callH h_is_fraction hr (by decide) (by rfl) (pa_cons (pe_ix ix_tup (pv 0) pe_int (fun _ _ => rfl)) pa_nil)) (pe_one (pe_callH h_is_fraction hr (by decide) (by rfl) (pa_cons (pe_ix ix_tup (pv 0) pe_int (fun _ _ => rfl)) pa_nil)))))))), fun ds d z _ => .inl ?_⟩
  obtain ⟨p, rfl, rfl⟩ := z
  walk_at "dr"
theorem sc_is_in_land : FnScope ["point", "one"] ["point"] (defScope (top 28)) := ⟨rfl, rfl, rfl, by decide +kernel, rfl, by decide +kernel, by decide +kernel⟩
def In64 (q : Rat) : Prop := 0 ≤ q.num ∧ q.num < 64 * (q.den : Int) ∧ Sm 20 q
def LandP (p : Rat × Rat) : Prop := In64 p.1 ∧ In64 p.2
def prLand : List PyData → PyData → Prop := fun ds d => ∃ p : Rat × Rat, LandP p ∧ ds = [encP p] ∧ d = .bool true
theorem pr_land {p : Rat × Rat} (h : LandP p) : prLand [encP p] (.bool true) := ⟨p, h, rfl, rfl⟩
theorem has_land (T : Tx K mg) (F : Def K mg "is_in_land" (top 28) []) : Has P w K mg base "is_in_land" ["point"] 1 (spD K 1 prLand) := by
  refine has_data F sc_is_in_land (fun _ _ _ _ _ _ us hl => match us, hl with | [_], _ => rfl) fun f cdv A outer s H E hr => ⟨_, (pss_one (ps_ret (pe_callB (cr_all rfl) (by rfl) T.f_all (by decide +kernel) (pa_cons (pe_lc (own := [("one", 1)]) (g := (gName 1)) (tt := tYes) (te := (tChain (rI0 fun i j => V.bl (decide (i ≤ j))) (rI0 fun i j => V.bl (decide (i < j))) (tC (V.int 0)) (tOp (rIxT K) (tVar 1) (tC (V.int 0))) (tOp (rI CMulW fun i j => V.int (i * j)) (tC (V.int 64)) (tOp (rIxT K) (tVar 1) (tC (V.int 1)))))) rfl sc_is_in_land.nd (pi_tup (pv 0)) (blkOk_by (own := [("one", 1)]) (N := ["point", "one"]) (sc := defScope (top 28)) (by decide +kernel)) (fun _ _ _ _ _ => (pg_name (i := 1) sc_is_in_land.nd rfl (by first | exact Or.inl rfl | exact Or.inr rfl))) (fun _ _ _ _ _ => pts_nil) (fun _ _ _ _ _ => (pe_chain op_le op_lt pe_int (pe_ix ix_tup (pv 1) pe_int (fun _ _ => rfl)) (pe_op op_mulW (pe_glob (v := .int 64) (by rfl) T.k_LAND ⟨_, rfl⟩) (pe_ix ix_tup (pv 1) pe_int (fun _ _ => rfl)))))) pa_nil)))), fun ds d z _ => .inl ?_⟩
  obtain ⟨p, hp, rfl, rfl⟩ := z
  refine dr_ret (dv_allT (xs := [encR p.1, encR p.2]) (dw_tup (dv_var rfl)) (gw_name (by decide)) (Nat.le_of_ble_eq_true rfl) fun y hy => ?_)
  have hy : ∃ q, y = encR q ∧ In64 q := by
    rcases List.mem_cons.mp hy with e | hy
    · exact ⟨_, e, hp.1⟩
    · rw [List.mem_singleton.mp hy]
      exact ⟨_, rfl, hp.2⟩
  obtain ⟨q, rfl, h1, h2, h3⟩ := hy
  have c1 : CMulW 64 q.den := cmul (n := 20) (by decide) (by rw [den_abs]; exact h3.2) (by decide)
  refine ⟨_, dg_name, dv_is (d := .bool (decide (0 ≤ q.num) && decide (q.num < 64 * (q.den : Int)))) ?_ ?_⟩
  · walk_at "dv"
  · walk_at "no"
theorem sc_is_day : FnScope ["thing"] ["thing"] (defScope (top 29)) := ⟨rfl, rfl, rfl, by decide +kernel, rfl, by decide +kernel, by decide +kernel⟩
def prDay : List PyData → PyData → Prop := fun ds d => ∃ i : Int, 0 ≤ i ∧ ds = [.int i] ∧ d = .bool true
theorem pr_day {i : Int} (h : 0 ≤ i) : prDay [.int i] (.bool true) := ⟨i, h, rfl, rfl⟩
theorem has_day (T : Tx K mg) (F : Def K mg "is_day" (top 29) []) (h_is_whole : Has P w K mg base "is_whole" ["thing"] 1 (spD K 1 prWhole)) : Has P w K mg base "is_day" ["thing"] 2 (spD K 1 prDay) := by
  refine has_data F sc_is_day (fun _ _ _ _ _ _ us hl => match us, hl with | [_], _ => rfl) fun f cdv A outer s H E hr => ⟨_, (pss_one (ps_ret (pe_and (pe_callH h_is_whole hr (by decide) (by rfl) (pa_cons (pv 0) pa_nil)) (pe_one (pe_cmpR op_ge (pv 0) pe_int (nomark _)))))), fun ds d z _ => .inl ?_⟩
  obtain ⟨i, h1, rfl, rfl⟩ := z
  walk_at "dr"
theorem sc_need_day : FnScope ["thing", "least"] ["thing", "least"] (defScope (top 30)) := ⟨rfl, rfl, rfl, by decide +kernel, rfl, by decide +kernel, by decide +kernel⟩
def prNDay : List PyData → PyData → Prop := fun ds d => ∃ i j : Int, 0 ≤ i ∧ j ≤ i ∧ ds = [.int i, .int j] ∧ d = .none
theorem pr_nday {i j : Int} (h : 0 ≤ i) (h2 : j ≤ i) : prNDay [.int i, .int j] .none := ⟨i, j, h, h2, rfl, rfl⟩
local macro_rules | `(tactic| walk_at "pr") => `(tactic| first | exact pr_day (by assumption) | assumption)
theorem ok_nday {f : Addr} {fd : FuncData} (T : Tx K mg) (F : FunD K "need_day" "need_day" (defArgs (top 30)) (defBody (top 30)) (defScope (top 30)) [.int 0] [] f fd) (h_is_day : Has P w K mg base "is_day" ["thing"] 2 (spD K 1 prDay)) : FnOk P w K mg base CX0 3 f fd ["thing", "least"] (spD K 2 prNDay) := by
  refine ok_data F sc_need_day fun cdv A outer s H E hr => ⟨_, (pss_one (ps_if (PW.pt (pw_or (pt_not (pt_val (pe_callH h_is_day hr (by decide) (by rfl) (pa_cons (pv 0) pa_nil)))) (pw_or1 (pt_cmpR op_lt (pv 0) (pv 1) (nomark _))))) (pss_one ps_never) pss_nil)), fun ds d z _ => .inr ?_⟩
  obtain ⟨i, j, h1, h2, rfl, rfl⟩ := z
  have h3 : ¬ i < j := by omega
  refine ⟨rfl, _, ds_ifB (b := (!true || decide (i < j))) ?_ ?_⟩
  · walk_at "dt"
  · walk_at "no"
theorem has_nday (T : Tx K mg) (F : Def K mg "need_day" (top 30) [.int 0]) (h_is_day : Has P w K mg base "is_day" ["thing"] 2 (spD K 1 prDay)) : Has P w K mg base "need_day" ["thing", "least"] 3 (spD K 2 prNDay) ∧ Has1 P w K mg base "need_day" ["thing", "least"] 3 (spD K 2 prNDay) (.int 0) := by
  obtain ⟨f, fd, F, hm⟩ := F
  have ok := ok_nday (P := P) (w := w) (base := base) T F h_is_day
  obtain ⟨d0, v0, b0⟩ := F.binds1 (ps := ["thing", "least"]) 2 1 (by simp) rfl fun T kV doc pm an cdv ct us its h1 h2 => match us, its, h1, h2 with | [_, _], [_], _, _ => ⟨_, rfl, rfl⟩
  obtain ⟨d1, v1, b1⟩ := F.binds1 (ps := ["thing", "least"]) 1 0 (by simp) rfl fun T kV doc pm an cdv ct us its h1 h2 => match us, its, h1, h2 with | [_], [_], _, _ => ⟨_, rfl, rfl⟩
  have e0 : d0 = [] := by
    cases v0
    rfl
  subst e0
  exact ⟨⟨f, fd, ok, hm, F.kp, b0⟩, f, fd, d1, ok, hm, F.kp, v1, b1⟩
theorem sc_steps : FnScope ["one", "other"] ["one", "other"] (defScope (top 31)) := ⟨rfl, rfl, rfl, by decide +kernel, rfl, by decide +kernel, by decide +kernel⟩
def stepsD (p q : Rat × Rat) : PyData := .tuple [encR (absR (p.1 - q.1)), encR (absR (p.2 - q.2))]
def prSteps : List PyData → PyData → Prop := fun ds d => ∃ p q : Rat × Rat, LandP p ∧ LandP q ∧ ds = [encP p, encP q] ∧ d = stepsD p q
theorem pr_steps {p q : Rat × Rat} (h1 : LandP p) (h2 : LandP q) : prSteps [encP p, encP q] (stepsD p q) := ⟨p, q, h1, h2, rfl, rfl⟩
local macro_rules | `(tactic| walk_at "pr") => `(tactic| first | exact pr_amount | exact pr_two (by assumption) (by assumption) (by first | exact trivial | assumption) | assumption)
theorem has_steps (T : Tx K mg) (F : Def K mg "steps" (top 31) []) (h_amount : Has P w K mg base "amount" ["one"] 1 (spD K 1 prAmount)) (h_minus : Has P w K mg base "minus" ["one", "other"] 3 (spD K 2 prMinus)) : Has P w K mg base "steps" ["one", "other"] 4 (spD K 2 prSteps) := by
  refine has_data F sc_steps (fun _ _ _ _ _ _ us hl => match us, hl with | [_, _], _ => rfl) fun f cdv A outer s H E hr => ⟨_, (pss_one (ps_ret (pe_tup (pa_cons (pe_callH h_amount hr (by decide) (by rfl) (pa_cons (pe_callH h_minus hr (by decide) (by rfl) (pa_cons (pe_ix ix_tup (pv 0) pe_int (fun _ _ => rfl)) (pa_cons (pe_ix ix_tup (pv 1) pe_int (fun _ _ => rfl)) pa_nil))) pa_nil)) (pa_cons (pe_callH h_amount hr (by decide) (by rfl) (pa_cons (pe_callH h_minus hr (by decide) (by rfl) (pa_cons (pe_ix ix_tup (pv 0) pe_int (fun _ _ => rfl)) (pa_cons (pe_ix ix_tup (pv 1) pe_int (fun _ _ => rfl)) pa_nil))) pa_nil)) pa_nil))))), fun ds d z _ => .inl ?_⟩
  obtain ⟨p, q, h1, h2, rfl, rfl⟩ := z
  have s1 : Sm 2000 p.1 := h1.1.2.2.mono (by decide)
  have s2 : Sm 2000 p.2 := h1.2.2.2.mono (by decide)
  have s3 : Sm 2000 q.1 := h2.1.2.2.mono (by decide)
  have s4 : Sm 2000 q.2 := h2.2.2.2.mono (by decide)
  refine dr_ret (dv_tup (ds := [encR (absR (p.1 - q.1)), encR (absR (p.2 - q.2))]) (da_cons (dv_call (ds := [encR (p.1 - q.1)]) (da_cons (dv_call (ds := [encR p.1, encR q.1]) (da_cons ?_ (da_cons ?_ da_nil)) (pr_two s1 s3 trivial)) da_nil) pr_amount) (da_cons (dv_call (ds := [encR (p.2 - q.2)]) (da_cons (dv_call (ds := [encR p.2, encR q.2]) (da_cons ?_ (da_cons ?_ da_nil)) (pr_two s2 s4 trivial)) da_nil) pr_amount) da_nil)) (Nat.le_of_ble_eq_true rfl))
  · walk_at "dv"
  · walk_at "dv"
  · walk_at "dv"
  · walk_at "dv"
theorem sc_streetwise_of : FnScope ["one", "other", "here", "there"] ["one", "other"] (defScope (top 32)) := ⟨rfl, rfl, rfl, by decide +kernel, rfl, by decide +kernel, by decide +kernel⟩
def dist (p q : Rat × Rat) : Rat := absR (p.1 - q.1) + absR (p.2 - q.2)
theorem sm_dist {p q : Rat × Rat} (h1 : LandP p) (h2 : LandP q) : Sm 83 (dist p q) := sm_add (sm_abs (sm_sub h1.1.2.2 h2.1.2.2)) (sm_abs (sm_sub h1.2.2.2 h2.2.2.2))
def prDist : List PyData → PyData → Prop := fun ds d => ∃ p q : Rat × Rat, LandP p ∧ LandP q ∧ ds = [encP p, encP q] ∧ d = encR (dist p q)
theorem pr_dist {p q : Rat × Rat} (h1 : LandP p) (h2 : LandP q) : prDist [encP p, encP q] (encR (dist p q)) := ⟨p, q, h1, h2, rfl, rfl⟩
theorem has_streetwise (T : Tx K mg) (F : Def K mg "streetwise_of" (top 32) []) (h_steps : Has P w K mg base "steps" ["one", "other"] 4 (spD K 2 prSteps)) (h_plus : Has P w K mg base "plus" ["one", "other"] 3 (spD K 2 prPlus)) : Has P w K mg base "streetwise_of" ["one", "other"] 5 (spD K 2 prDist) := by
  refine has_data F sc_streetwise_of (fun _ _ _ _ _ _ us hl => match us, hl with | [_, _], _ => rfl) fun f cdv A outer s H E hr => ⟨_, (pss_cons (ps_asg (pe_callH h_steps hr (by decide) (by rfl) (pa_cons (pv 0) (pa_cons (pv 1) pa_nil))) (pg_tup (by rfl) (pgs_cons (pg_name (i := 2) sc_streetwise_of.nd rfl (by first | exact Or.inl rfl | exact Or.inr rfl)) (pgs_cons (pg_name (i := 3) sc_streetwise_of.nd rfl (by first | exact Or.inl rfl | exact Or.inr rfl)) pgs_nil))))
    (pss_one (ps_ret (pe_callH h_plus hr (by decide) (by rfl) (pa_cons (pv 2) (pa_cons (pv 3) pa_nil)))))), fun ds d z _ => .inl ?_⟩
  obtain ⟨p, q, h1, h2, rfl, rfl⟩ := z
  have s1 : Sm 2000 (absR (p.1 - q.1)) := (sm_abs (sm_sub h1.1.2.2 h2.1.2.2)).mono (by decide)
  have s2 : Sm 2000 (absR (p.2 - q.2)) := (sm_abs (sm_sub h1.2.2.2 h2.2.2.2)).mono (by decide)
  refine dr_seq (ds_asgG (d := stepsD p q) (dv_call (ds := [encP p, encP q]) (da_cons (dv_var rfl) (da_cons (dv_var rfl) da_nil)) (pr_steps h1 h2)) (dg_tup (dgs_cons (dgs_cons dgs_nil)))) ?_
  exact dr_ret (dv_call (ds := [encR (absR (p.1 - q.1)), encR (absR (p.2 - q.2))]) (da_cons (dv_var rfl) (da_cons (dv_var rfl) da_nil)) (pr_two s1 s2 trivial))
end
end Ow
/-! ## part Ow10 -/
set_option Elab.async false
set_option linter.all false
set_option maxRecDepth 100000
set_option maxHeartbeats 4000000
namespace Ow
open PySem PySem.Spec PyProof.Rows L2
open Evl (Ex Ex.refl Ex.trans Ex.new ex_rd ex_l ex_t fresh_back)
local macro_rules | `(tactic| walk_at "pr") => `(tactic| assumption)
local macro_rules | `(tactic| walk_at "side") => `(tactic| first | assumption | rfl | decide)
local macro_rules | `(tactic| walk_at "d2") => `(tactic| first
  | exact d2_add | exact d2_sub | exact d2_lt | exact d2_le | exact d2_gt | exact d2_ge
  | exact d2_ixT 0 rfl rfl | exact d2_ixT 1 rfl rfl | exact d2_ixT 2 rfl rfl | exact d2_ixT 3 rfl rfl | exact d2_ixT 4 rfl rfl | exact d2_ixT 5 rfl rfl | exact d2_ixT 6 rfl rfl
  | exact d2_ixL 0 rfl rfl | exact d2_ixL 1 rfl rfl | exact d2_ixL 2 rfl rfl
  | exact d2_mul (by walk_at "side") | exact d2_div (by walk_at "side") | exact d2_mod (by walk_at "side")
  | exact d2_eq (by walk_at "side") (by walk_at "side") | exact d2_ne (by walk_at "side") (by walk_at "side") | walk_at "pr")
local macro_rules | `(tactic| walk_at "dc") => `(tactic| first
  | exact dc_len rfl | exact dc_lenL rfl | exact dc_abs | exact dc_max | exact dc_min | exact dc_all | exact dc_any | exact dc_list | exact dc_tuple | walk_at "pr")
local macro_rules | `(tactic| walk_at "da") => `(tactic| first
  | exact da_nil
  | (refine' da_cons ?k1 ?k2; (case k1 => walk_at "dv"); (case k2 => walk_at "da")))
local macro_rules | `(tactic| walk_at "dv") => `(tactic| first
  | exact dv_var rfl | exact dv_int | exact dv_str | exact dv_bl | exact dv_non
  | (refine' dv_call ?k1 ?k2 ?k3; (case k1 => walk_at "da"); (case k2 => walk_at "pr"); (case k3 => rfl))
  | (refine' dv_isi (b := true) ?k1 ?k2 ?k3; (case k1 => walk_at "dv"); (case k2 => first | exact .int _ | exact .tup _ | exact .str _ | exact .bl _); (case k3 => exact kit_ty (by decide +kernel)))
  | (refine' dv_isi (b := false) ?k1 ?k2 ?k3; (case k1 => walk_at "dv"); (case k2 => first | exact .int _ | exact .tup _ | exact .str _ | exact .bl _); (case k3 => exact kit_ty (by decide +kernel)))
  | (refine' dv_cb ?k1 ?k2; (case k1 => walk_at "da"); (case k2 => walk_at "dc"))
  | (refine' dv_op ?k1 ?k2 ?k3; (case k1 => walk_at "dv"); (case k2 => walk_at "dv"); (case k3 => walk_at "d2"))
  | (refine' dv_tup ?k1 ?k2; (case k1 => walk_at "da"); (case k2 => first | exact Nat.le_of_ble_eq_true rfl | walk_at "side"))
  | (refine' dv_lst ?k1 ?k2; (case k1 => walk_at "da"); (case k2 => first | exact Nat.le_of_ble_eq_true rfl | walk_at "side"))
  | (refine' dv_and ?k1 ?k2; (case k1 => walk_at "dv"); (case k2 => intro _; walk_at "dv"))
  | (refine' dv_notV ?k1; (case k1 => walk_at "dv"))
  | (refine' dv_chain ?k1 ?k2 ?k3 ?k4 ?k5; (case k1 => walk_at "dv"); (case k2 => walk_at "dv"); (case k3 => walk_at "d2"); (case k4 => intro _; walk_at "dv"); (case k5 => intro _; walk_at "d2"))
  | walk_at "pr")
local macro_rules | `(tactic| walk_at "dt") => `(tactic| first
  | (refine' dt_test ?k1; (case k1 => walk_at "dv"))
  | (refine' dt_B ?k1; (case k1 => walk_at "dv"))
  | (refine' dt_not ?k1; (case k1 => walk_at "dt"))
  | (refine' dt_or ?k1 ?k2; (case k1 => walk_at "dt"); (case k2 => intro _; walk_at "dt"))
  | (refine' dt_and ?k1 ?k2; (case k1 => walk_at "dt"); (case k2 => intro _; walk_at "dt"))
  | walk_at "pr")
local macro_rules | `(tactic| walk_at "no") => `(tactic| first | rfl | assumption | (simp [*]; done))
local macro_rules | `(tactic| walk_at "fin") => `(tactic| first | rfl | assumption | (simp [*]; done))
local macro_rules | `(tactic| walk_at "dr") => `(tactic| first
  | (refine' dr_retI ?k1 ?k2; (case k1 => walk_at "dv"); (case k2 => walk_at "fin"))
  | (refine' dr_unless ?k1 ?k2 ?k3; (case k1 => walk_at "dt"); (case k2 => walk_at "no"); (case k3 => walk_at "dr"))
  | (refine' dr_seq (ds_asg ?k1) ?k2; (case k1 => walk_at "dv"); (case k2 => walk_at "dr"))
  | (refine' dr_seq (ds_drop ?k1) ?k2; (case k1 => walk_at "dv"); (case k2 => walk_at "dr"))
  | (refine' dr_seq (ds_par ?k1 ?k2) ?k3; (case k1 => walk_at "dv"); (case k2 => walk_at "dv"); (case k3 => walk_at "dr"))
  | (refine' dr_seq (ds_asgG ?k1 ?k2) ?k3; (case k1 => walk_at "dv"); (case k2 => walk_at "dg"); (case k3 => walk_at "dr")))
local macro_rules | `(tactic| walk_at "dg") => `(tactic| first
  | exact dg_name
  | exact dg_tup (dgs_cons (dgs_cons dgs_nil))
  | exact dg_tup (dgs_cons (dgs_cons (dgs_cons dgs_nil)))
  | exact dg_tup (dgs_cons (dgs_cons (dgs_cons (dgs_cons dgs_nil))))
  | exact dg_tup (dgs_cons (dgs_cons (dgs_cons (dgs_cons (dgs_cons (dgs_cons (dgs_cons dgs_nil))))))))

section
variable {K : PySem.W.Frag} {G : Hp} {ρ ρ1 ρ2 : Rho} {ts : TS}
theorem Sls.forget {σ : L2.St} {i : Nat} (h : Sls K G σ ρ) : Sls K G σ (ρ.set i none) := by
  refine ⟨by rw [List.length_set]; exact h.len, fun j c q => ?_⟩
  by_cases e : i = j
  · subst e
    by_cases hl : i < ρ.length
    · rw [List.getElem?_set_self hl] at q
      cases q
    · rw [List.getElem?_eq_none (by rw [List.length_set]; omega)] at q
      cases q
  · rw [List.getElem?_set_ne e] at q
    exact h.fit j c q
theorem Sls.forgets {σ : L2.St} (h : Sls K G σ ρ) : ∀ vs : List Nat, Sls K G σ (wipR ρ vs)
  | [] => h
  | v :: vs => (Sls.forgets h vs).forget
theorem ds_forget (vs : List Nat) (h : Ds K ts ρ ρ1) (e : wipR ρ1 vs = ρ2) : Ds K ts ρ ρ2 := fun D G σ H x E q => h D G σ H x E fun σ' G2 H2 g E2 => q σ' G2 H2 g (by
  rw [← e]
  exact E2.forgets vs)
end
/-! ### webs -/
structure Road where
  one : Nat
  other : Nat
  mid : List (Rat × Rat)
  ways : Nat
def encRoad (r : Road) : PyData := .tuple [.int (r.one : Nat), .int (r.other : Nat), .tuple (r.mid.map encP), .int (r.ways : Nat)]
structure Web where
  cs : List (Rat × Rat)
  roads : List Road
def encW (W : Web) : PyData := .tuple [.tuple (W.cs.map encP), .tuple (W.roads.map encRoad)]
def nth0 (cs : List (Rat × Rat)) (i : Nat) : Rat × Rat := cs.getD i (0, 0)
def lineOf (cs : List (Rat × Rat)) (r : Road) : List (Rat × Rat) := nth0 cs r.one :: (r.mid ++ [nth0 cs r.other])
structure GoodRoad (cs : List (Rat × Rat)) (r : Road) : Prop where
  one : r.one < cs.length
  other : r.other < cs.length
  ne : r.one ≠ r.other
  ways : 1 ≤ r.ways ∧ r.ways ≤ 2
  few : r.mid.length ≤ 4
  mid : ∀ p ∈ r.mid, LandP p
  step : ∀ (i : Nat) (p q : Rat × Rat), (lineOf cs r)[i]? = some p → (lineOf cs r)[i + 1]? = some q → p ≠ q
structure GoodWeb (W : Web) : Prop where
  some : 1 ≤ W.cs.length
  few : W.cs.length ≤ 10
  land : ∀ p ∈ W.cs, LandP p
  nd : W.cs.Nodup
  roads : W.roads.length ≤ 14
  good : ∀ r ∈ W.roads, GoodRoad W.cs r
theorem nth0_get {cs : List (Rat × Rat)} {i : Nat} (h : i < cs.length) : cs[i]? = some (nth0 cs i) := by
  unfold nth0
  rw [List.getD_eq_getElem?_getD, List.getElem?_eq_getElem h]
  rfl
theorem nth0_enc {cs : List (Rat × Rat)} {i : Nat} (h : i < cs.length) : (cs.map encP)[i]? = some (encP (nth0 cs i)) := by
  rw [List.getElem?_map, nth0_get h]
  rfl
theorem nth0_mem {cs : List (Rat × Rat)} {i : Nat} (h : i < cs.length) : nth0 cs i ∈ cs := List.mem_of_getElem? (nth0_get h)
theorem line_enc (cs : List (Rat × Rat)) (r : Road) : [encP (nth0 cs r.one)] ++ r.mid.map encP ++ [encP (nth0 cs r.other)] = (lineOf cs r).map encP := by
  unfold lineOf
  rw [List.map_cons, List.map_append, List.map_cons, List.map_nil]
  rfl
theorem line_len (cs : List (Rat × Rat)) (r : Road) : (lineOf cs r).length = r.mid.length + 2 := by
  unfold lineOf
  rw [List.length_cons, List.length_append]
  rfl
theorem line_land {cs : List (Rat × Rat)} {r : Road} (h : GoodRoad cs r) (hc : ∀ p ∈ cs, LandP p) : ∀ p ∈ lineOf cs r, LandP p := fun p hp => by
  unfold lineOf at hp
  rcases List.mem_cons.mp hp with e | hp
  · rw [e]
    exact hc _ (nth0_mem h.one)
  · rcases List.mem_append.mp hp with hp | hp
    · exact h.mid p hp
    · rw [List.mem_singleton.mp hp]
      exact hc _ (nth0_mem h.other)
theorem eqv_int (i j : Int) : PyData.eqv (.int i) (.int j) = decide (i = j) := by
  show (i == j) = _
  rw [Bool.eq_iff_iff, beq_iff_eq, decide_eq_true_iff]
theorem eqv_R (p q : Rat) : PyData.eqv (encR p) (encR q) = decide (p = q) := by
  have e : PyData.eqv (encR p) (encR q) = (PyData.eqv (.int p.num) (.int q.num) && (PyData.eqv (.int (p.den : Int)) (.int (q.den : Int)) && true)) := rfl
  rw [e, eqv_int, eqv_int, Bool.and_true, Bool.eq_iff_iff, Bool.and_eq_true, decide_eq_true_iff, decide_eq_true_iff, decide_eq_true_iff]
  constructor
  · rintro ⟨h1, h2⟩
    exact Rat.ext h1 (by exact_mod_cast h2)
  · intro h
    subst h
    exact ⟨rfl, rfl⟩
theorem eqv_P (p q : Rat × Rat) : PyData.eqv (encP p) (encP q) = decide (p = q) := by
  have e : PyData.eqv (encP p) (encP q) = (PyData.eqv (encR p.1) (encR q.1) && (PyData.eqv (encR p.2) (encR q.2) && true)) := rfl
  rw [e, eqv_R, eqv_R, Bool.and_true, Bool.eq_iff_iff, Bool.and_eq_true, decide_eq_true_iff, decide_eq_true_iff, decide_eq_true_iff]
  constructor
  · rintro ⟨h1, h2⟩
    exact Prod.ext h1 h2
  · intro h
    subst h
    exact ⟨rfl, rfl⟩
theorem keyP_inj {p q : Rat × Rat} (h : keyD (encP p) = keyD (encP q)) : p = q := by
  have h : NestedKey.tup [.tup [.num p.1.num, .num p.1.den], .tup [.num p.2.num, .num p.2.den]] = NestedKey.tup [.tup [.num q.1.num, .num q.1.den], .tup [.num q.2.num, .num q.2.den]] := h
  injection h with h
  simp only [List.cons.injEq, NestedKey.tup.injEq, NestedKey.num.injEq, and_true] at h
  obtain ⟨⟨h1, h2⟩, h3, h4⟩ := h
  exact Prod.ext (Rat.ext h1 (by exact_mod_cast h2)) (Rat.ext h3 (by exact_mod_cast h4))
theorem keys_nodup {cs : List (Rat × Rat)} (h : cs.Nodup) : ((cs.map encP).map keyD).Nodup := by
  rw [List.map_map]
  exact h.map (f := keyD ∘ encP) fun a b hne e => hne (keyP_inj e)
theorem mem_pairs_map {L : List (Rat × Rat)} {y : PyData} (h : y ∈ pairs (L.map encP) ((L.map encP).drop 1)) : ∃ (i : Nat) (p q : Rat × Rat), y = .tuple [encP p, encP q] ∧ L[i]? = some p ∧ L[i + 1]? = some q := by
  obtain ⟨i, d, e, rfl, h1, h2⟩ := pairs_next h
  rw [List.getElem?_map] at h1 h2
  obtain ⟨p, hp, rfl⟩ := Option.map_eq_some_iff.mp h1
  obtain ⟨q, hq, rfl⟩ := Option.map_eq_some_iff.mp h2
  exact ⟨i, p, q, rfl, hp, hq⟩
section
variable {P : Program} {w : World} {K : PySem.W.Frag} {mg : Str → Option Value} {base : Heap}
theorem sc_are_land_points : FnScope ["thing", "least", "most", "one"] ["thing", "least", "most"] (defScope (top 37)) := ⟨rfl, rfl, rfl, by decide +kernel, rfl, by decide +kernel, by decide +kernel⟩
def prLandPts : List PyData → PyData → Prop := fun ds d => ∃ (ps : List (Rat × Rat)) (l m : Int), ps.length ≤ 100000 ∧ l ≤ ps.length ∧ ps.length ≤ m ∧ (∀ p ∈ ps, LandP p) ∧ ds = [.tuple (ps.map encP), .int l, .int m] ∧ d = .bool true
local macro_rules | `(tactic| walk_at "pr") => `(tactic| first | exact pr_point | exact pr_land (by assumption) | exact pr_within (by assumption) (by assumption) | assumption)
theorem has_landpts (T : Tx K mg) (F : Def K mg "are_land_points" (top 37) []) (h_is_point : Has P w K mg base "is_point" ["thing"] 3 (spD K 1 prPoint)) (h_is_in_land : Has P w K mg base "is_in_land" ["point"] 1 (spD K 1 prLand)) : Has P w K mg base "are_land_points" ["thing", "least", "most"] 4 (spD K 3 prLandPts) := by
  refine has_data F sc_are_land_points (fun _ _ _ _ _ _ us hl => match us, hl with | [_, _, _], _ => rfl) fun f cdv A outer s H E hr => ⟨_, (pss_cons (ps_if (PW.pt (pw_or (pt_not (pt_val (pe_callB call_isi (by rfl) T.f_isinstance (by decide +kernel) (pa_cons (pv 0) (pa_cons (pe_bltn (v := .ty "tuple") (by rfl) T.f_tuple (by decide +kernel) rfl) pa_nil))))) (pw_or1 (pt_not (pt_chain op_le op_le (pv 1) (pe_callB call_len_seq (by rfl) T.f_len (by decide +kernel) (pa_cons (pv 0) pa_nil)) (pv 2)))))) (pss_one (ps_ret pe_bl)) pss_nil)
    (pss_one (ps_ret (pe_callB (cr_all rfl) (by rfl) T.f_all (by decide +kernel) (pa_cons (pe_lc (own := [("one", 3)]) (g := (gName 3)) (tt := tYes) (te := (tAndV (tCall (spD K 1 prPoint) [] E0 (tCons (tVar 3) tNil)) (tCall (spD K 1 prLand) [] E0 (tCons (tVar 3) tNil)))) rfl sc_are_land_points.nd (pi_tup (pv 0)) (blkOk_by (own := [("one", 3)]) (N := ["thing", "least", "most", "one"]) (sc := defScope (top 37)) (by decide +kernel)) (fun _ _ _ _ _ => (pg_name (i := 3) sc_are_land_points.nd rfl (by first | exact Or.inl rfl | exact Or.inr rfl))) (fun _ _ _ _ _ => pts_nil) (fun _ _ _ _ _ => (pe_and (pe_callH h_is_point hr (by decide) (by rfl) (pa_cons (pv 3) pa_nil)) (pe_one (pe_callH h_is_in_land hr (by decide) (by rfl) (pa_cons (pv 3) pa_nil)))))) pa_nil))))), fun ds d z _ => .inl ?_⟩
  obtain ⟨ps, l, m, hz, h1, h2, hx, rfl, rfl⟩ := z
  have el : (ps.map encP).length = ps.length := List.length_map ..
  rw [← el] at h1 h2 hz
  refine dr_unless (b := (!true || !(decide (l ≤ ((ps.map encP).length : Int)) && decide (((ps.map encP).length : Int) ≤ m)))) ?_ ?_ (dr_ret (dv_allT (dw_tup (dv_var rfl)) (gw_name (by decide)) hz fun y hy => ?_))
  · walk_at "dt"
  · rw [decide_eq_true h1, decide_eq_true h2]
    rfl
  · obtain ⟨p, hp, rfl⟩ := List.mem_map.mp hy
    have hl := hx p hp
    refine ⟨_, dg_name, dv_is (d := .bool (true && true)) ?_ rfl⟩
    walk_at "dv"
end
end Ow
/-! ## part Ow11 -/
set_option Elab.async false
set_option linter.all false
set_option maxRecDepth 100000
set_option maxHeartbeats 4000000
namespace Ow
open PySem PySem.Spec PyProof.Rows L2
open Evl (Ex Ex.refl Ex.trans Ex.new ex_rd ex_l ex_t fresh_back)
local macro_rules | `(tactic| walk_at "pr") => `(tactic| assumption)
local macro_rules | `(tactic| walk_at "side") => `(tactic| first | assumption | rfl | decide)
local macro_rules | `(tactic| walk_at "d2") => `(tactic| first
  | exact d2_add | exact d2_sub | exact d2_lt | exact d2_le | exact d2_gt | exact d2_ge
  | exact d2_ixT 0 rfl rfl | exact d2_ixT 1 rfl rfl | exact d2_ixT 2 rfl rfl | exact d2_ixT 3 rfl rfl | exact d2_ixT 4 rfl rfl | exact d2_ixT 5 rfl rfl | exact d2_ixT 6 rfl rfl
  | exact d2_ixL 0 rfl rfl | exact d2_ixL 1 rfl rfl | exact d2_ixL 2 rfl rfl
  | exact d2_mul (by walk_at "side") | exact d2_div (by walk_at "side") | exact d2_mod (by walk_at "side")
  | exact d2_eq (by walk_at "side") (by walk_at "side") | exact d2_ne (by walk_at "side") (by walk_at "side") | walk_at "pr")
local macro_rules | `(tactic| walk_at "dc") => `(tactic| first
  | exact dc_len rfl | exact dc_lenL rfl | exact dc_abs | exact dc_max | exact dc_min | exact dc_all | exact dc_any | exact dc_list | exact dc_tuple | walk_at "pr")
local macro_rules | `(tactic| walk_at "da") => `(tactic| first
  | exact da_nil
  | (refine' da_cons ?k1 ?k2; (case k1 => walk_at "dv"); (case k2 => walk_at "da")))
local macro_rules | `(tactic| walk_at "dv") => `(tactic| first
  | exact dv_var rfl | exact dv_int | exact dv_str | exact dv_bl | exact dv_non
  | (refine' dv_call ?k1 ?k2 ?k3; (case k1 => walk_at "da"); (case k2 => walk_at "pr"); (case k3 => rfl))
  | (refine' dv_isi (b := true) ?k1 ?k2 ?k3; (case k1 => walk_at "dv"); (case k2 => first | exact .int _ | exact .tup _ | exact .str _ | exact .bl _); (case k3 => exact kit_ty (by decide +kernel)))
  | (refine' dv_isi (b := false) ?k1 ?k2 ?k3; (case k1 => walk_at "dv"); (case k2 => first | exact .int _ | exact .tup _ | exact .str _ | exact .bl _); (case k3 => exact kit_ty (by decide +kernel)))
  | (refine' dv_cb ?k1 ?k2; (case k1 => walk_at "da"); (case k2 => walk_at "dc"))
  | (refine' dv_op ?k1 ?k2 ?k3; (case k1 => walk_at "dv"); (case k2 => walk_at "dv"); (case k3 => walk_at "d2"))
  | (refine' dv_tup ?k1 ?k2; (case k1 => walk_at "da"); (case k2 => first | exact Nat.le_of_ble_eq_true rfl | walk_at "side"))
  | (refine' dv_lst ?k1 ?k2; (case k1 => walk_at "da"); (case k2 => first | exact Nat.le_of_ble_eq_true rfl | walk_at "side"))
  | (refine' dv_and ?k1 ?k2; (case k1 => walk_at "dv"); (case k2 => intro _; walk_at "dv"))
  | (refine' dv_notV ?k1; (case k1 => walk_at "dv"))
  | (refine' dv_chain ?k1 ?k2 ?k3 ?k4 ?k5; (case k1 => walk_at "dv"); (case k2 => walk_at "dv"); (case k3 => walk_at "d2"); (case k4 => intro _; walk_at "dv"); (case k5 => intro _; walk_at "d2"))
  | walk_at "pr")
local macro_rules | `(tactic| walk_at "dt") => `(tactic| first
  | (refine' dt_test ?k1; (case k1 => walk_at "dv"))
  | (refine' dt_B ?k1; (case k1 => walk_at "dv"))
  | (refine' dt_not ?k1; (case k1 => walk_at "dt"))
  | (refine' dt_or ?k1 ?k2; (case k1 => walk_at "dt"); (case k2 => intro _; walk_at "dt"))
  | (refine' dt_and ?k1 ?k2; (case k1 => walk_at "dt"); (case k2 => intro _; walk_at "dt"))
  | walk_at "pr")
local macro_rules | `(tactic| walk_at "no") => `(tactic| first | rfl | assumption | (simp [*]; done))
local macro_rules | `(tactic| walk_at "fin") => `(tactic| first | rfl | assumption | (simp [*]; done))
local macro_rules | `(tactic| walk_at "dr") => `(tactic| first
  | (refine' dr_retI ?k1 ?k2; (case k1 => walk_at "dv"); (case k2 => walk_at "fin"))
  | (refine' dr_unless ?k1 ?k2 ?k3; (case k1 => walk_at "dt"); (case k2 => walk_at "no"); (case k3 => walk_at "dr"))
  | (refine' dr_seq (ds_asg ?k1) ?k2; (case k1 => walk_at "dv"); (case k2 => walk_at "dr"))
  | (refine' dr_seq (ds_drop ?k1) ?k2; (case k1 => walk_at "dv"); (case k2 => walk_at "dr"))
  | (refine' dr_seq (ds_par ?k1 ?k2) ?k3; (case k1 => walk_at "dv"); (case k2 => walk_at "dv"); (case k3 => walk_at "dr"))
  | (refine' dr_seq (ds_asgG ?k1 ?k2) ?k3; (case k1 => walk_at "dv"); (case k2 => walk_at "dg"); (case k3 => walk_at "dr")))
local macro_rules | `(tactic| walk_at "dg") => `(tactic| first
  | exact dg_name
  | exact dg_tup (dgs_cons (dgs_cons dgs_nil))
  | exact dg_tup (dgs_cons (dgs_cons (dgs_cons dgs_nil)))
  | exact dg_tup (dgs_cons (dgs_cons (dgs_cons (dgs_cons dgs_nil))))
  | exact dg_tup (dgs_cons (dgs_cons (dgs_cons (dgs_cons (dgs_cons (dgs_cons (dgs_cons dgs_nil))))))))

theorem sm_add' {p q : Rat} {a b : Nat} (hp : Sm a p) (hq : Sm b q) : Sm (a + b + 1) (p + q) := by
  rw [← low_add p q]
  have x1 : ((p.den : Int)).natAbs < 2 ^ a := by rw [den_abs]; exact hp.2
  have x2 : ((q.den : Int)).natAbs < 2 ^ b := by rw [den_abs]; exact hq.2
  refine sm_low (Int.mul_pos (den_pos p) (den_pos q)) ?_ ?_
  · refine natAbs_add_lt (natAbs_mul_lt hp.1 x2) ?_
    have z := natAbs_mul_lt hq.1 x1
    rw [Nat.add_comm b a] at z
    exact z
  · exact lt_pow_mono (natAbs_mul_lt x1 x2) (Nat.le_succ _)
def lsum (L : List (Rat × Rat)) : Nat → Rat
  | 0 => 0
  | n + 1 => lsum L n + dist (nth0 L n) (nth0 L (n + 1))
theorem sm_lsum {L : List (Rat × Rat)} (h : ∀ p ∈ L, LandP p) : ∀ n, n < L.length → Sm (84 * n + 1) (lsum L n)
  | 0, _ => (show Sm 1 (0 : Rat) from ⟨by decide, by decide⟩)
  | n + 1, hn => by
    have z := sm_add' (sm_lsum h n (by omega)) (sm_dist (h _ (nth0_mem (cs := L) (i := n) (by omega))) (h _ (nth0_mem (cs := L) (i := n + 1) hn)))
    exact z.mono (by omega)
def longOf (W : Web) (r : Road) : Rat := lsum (lineOf W.cs r) (r.mid.length + 1)
theorem sm_long {W : Web} {r : Road} (hW : GoodWeb W) (hr : r ∈ W.roads) : Sm 500 (longOf W r) := by
  have g := hW.good r hr
  have z := sm_lsum (line_land g hW.land) (r.mid.length + 1) (by rw [line_len]; omega)
  have f := g.few
  exact z.mono (by omega)
section
variable {P : Program} {w : World} {K : PySem.W.Frag} {mg : Str → Option Value} {base : Heap}
theorem sc_is_road : FnScope ["crossings", "thing", "one", "other", "middle", "ways", "last", "line", "here", "there"] ["crossings", "thing"] (defScope (top 38)) := ⟨rfl, rfl, rfl, by decide +kernel, rfl, by decide +kernel, by decide +kernel⟩
def prRoad : List PyData → PyData → Prop := fun ds d => ∃ (cs : List (Rat × Rat)) (r : Road), cs.length ≤ 10 ∧ GoodRoad cs r ∧ ds = [.tuple (cs.map encP), encRoad r] ∧ d = .bool true
theorem pr_road {cs : List (Rat × Rat)} {r : Road} (h0 : cs.length ≤ 10) (h : GoodRoad cs r) : prRoad [.tuple (cs.map encP), encRoad r] (.bool true) := ⟨cs, r, h0, h, rfl, rfl⟩
theorem pr_landpts {ps : List (Rat × Rat)} {l m : Int} (h0 : ps.length ≤ 100000) (h1 : l ≤ ps.length) (h2 : ps.length ≤ m) (h3 : ∀ p ∈ ps, LandP p) : prLandPts [.tuple (ps.map encP), .int l, .int m] (.bool true) := ⟨ps, l, m, h0, h1, h2, h3, rfl, rfl⟩
local macro_rules | `(tactic| walk_at "pr") => `(tactic| first | exact pr_landpts (by assumption) (by assumption) (by assumption) (by assumption) | exact pr_within (by assumption) (by assumption) | assumption)
local macro_rules | `(tactic| walk_at "d2") => `(tactic| exact d2_ixT _ rfl (by assumption))
theorem has_road (T : Tx K mg) (F : Def K mg "is_road" (top 38) []) (h_is_within : Has P w K mg base "is_within" ["thing", "least", "most"] 2 (spD K 3 prWithin)) (h_are_land_points : Has P w K mg base "are_land_points" ["thing", "least", "most"] 4 (spD K 3 prLandPts)) : Has P w K mg base "is_road" ["crossings", "thing"] 5 (spD K 2 prRoad) := by
  refine has_data F sc_is_road (fun _ _ _ _ _ _ us hl => match us, hl with | [_, _], _ => rfl) fun f cdv A outer s H E hr => ⟨_, (pss_cons (ps_asg (pv 1) (pg_tup (by rfl) (pgs_cons (pg_name (i := 2) sc_is_road.nd rfl (by first | exact Or.inl rfl | exact Or.inr rfl)) (pgs_cons (pg_name (i := 3) sc_is_road.nd rfl (by first | exact Or.inl rfl | exact Or.inr rfl)) (pgs_cons (pg_name (i := 4) sc_is_road.nd rfl (by first | exact Or.inl rfl | exact Or.inr rfl)) (pgs_cons (pg_name (i := 5) sc_is_road.nd rfl (by first | exact Or.inl rfl | exact Or.inr rfl)) pgs_nil))))))
    (pss_cons (ps_set (i := 6) sc_is_road.nd rfl (by first | exact Or.inl rfl | exact Or.inr rfl) (pe_op op_sub (pe_callB call_len_seq (by rfl) T.f_len (by decide +kernel) (pa_cons (pv 0) pa_nil)) pe_int))
    (pss_cons (ps_if (PW.pt (pw_or (pt_not (pt_val (pe_callH h_is_within hr (by decide) (by rfl) (pa_cons (pv 2) (pa_cons pe_int (pa_cons (pv 6) pa_nil)))))) (pw_or (pt_not (pt_val (pe_callH h_is_within hr (by decide) (by rfl) (pa_cons (pv 3) (pa_cons pe_int (pa_cons (pv 6) pa_nil)))))) (pw_or (pt_cmpR (op_eqD hr.units) (pv 2) (pv 3) (nomark _)) (pw_or1 (pt_not (pt_val (pe_callH h_is_within hr (by decide) (by rfl) (pa_cons (pv 5) (pa_cons pe_int (pa_cons pe_int pa_nil))))))))))) (pss_one (ps_ret pe_bl)) pss_nil)
    (pss_cons (ps_if (pt_not (pt_val (pe_callH h_are_land_points hr (by decide) (by rfl) (pa_cons (pv 4) (pa_cons pe_int (pa_cons (pe_glob (v := .int 4) (by rfl) T.k_MOST_MIDDLE ⟨_, rfl⟩) pa_nil)))))) (pss_one (ps_ret pe_bl)) pss_nil)
    (pss_cons (ps_set (i := 7) sc_is_road.nd rfl (by first | exact Or.inl rfl | exact Or.inr rfl) (pe_op op_catT (pe_op op_catT (pe_tup (pa_cons (pe_ix ix_tup (pv 0) (pv 2) (fun _ _ => rfl)) pa_nil)) (pv 4)) (pe_tup (pa_cons (pe_ix ix_tup (pv 0) (pv 3) (fun _ _ => rfl)) pa_nil))))
    (pss_one (ps_ret (pe_callB (cr_all rfl) (by rfl) T.f_all (by decide +kernel) (pa_cons (pe_lc (own := [("here", 8), ("there", 9)]) (g := (gTup K 2 (gCons (gName 8) (gCons (gName 9) gNil)))) (tt := tYes) (te := (tOp (rNeD K) (tVar 8) (tVar 9))) rfl sc_is_road.nd (RZ.pi_zipA (by rfl) T.f_zip (pa_cons (pv 7) (pa_cons (pe_slice sl_tupA (pv 7) (po_some pe_int) po_none) pa_nil))) (blkOk_by (own := [("here", 8), ("there", 9)]) (N := ["crossings", "thing", "one", "other", "middle", "ways", "last", "line", "here", "there"]) (sc := defScope (top 38)) (by decide +kernel)) (fun _ _ _ _ _ => (pg_tup (by rfl) (pgs_cons (pg_name (i := 8) sc_is_road.nd rfl (by first | exact Or.inl rfl | exact Or.inr rfl)) (pgs_cons (pg_name (i := 9) sc_is_road.nd rfl (by first | exact Or.inl rfl | exact Or.inr rfl)) pgs_nil)))) (fun _ _ _ _ _ => pts_nil) (fun _ _ _ _ _ => (pe_cmpR (op_neD hr.units) (pv 8) (pv 9) (nomark _)))) pa_nil))))))))), fun ds d z _ => .inl ?_⟩
  obtain ⟨cs, r, h0, g, rfl, rfl⟩ := z
  have el : (cs.map encP).length = cs.length := List.length_map ..
  have a1 := g.one
  have a2 := g.other
  have a3 := g.ways
  have a4 := g.few
  have a5 := g.mid
  have w1 : (0 : Int) ≤ (r.one : Nat) := by omega
  have w2 : ((r.one : Nat) : Int) ≤ ((cs.map encP).length : Nat) - 1 := by omega
  have w3 : (0 : Int) ≤ (r.other : Nat) := by omega
  have w4 : ((r.other : Nat) : Int) ≤ ((cs.map encP).length : Nat) - 1 := by omega
  have w5 : (1 : Int) ≤ (r.ways : Nat) := by omega
  have w6 : ((r.ways : Nat) : Int) ≤ 2 := by omega
  have w7 : (0 : Int) ≤ r.mid.length := by omega
  have w8 : (r.mid.length : Int) ≤ 4 := by omega
  have w9 : r.mid.length ≤ 100000 := by omega
  have n0 : (!true || (!true || (PyData.eqv (.int (r.one : Nat)) (.int (r.other : Nat)) || !true))) = false := by
    rw [eqv_int, decide_eq_false (by have := g.ne; omega)]
    rfl
  have i1 := nth0_enc a1
  have i2 := nth0_enc a2
  have lm : (r.mid.map encP).length = r.mid.length := List.length_map ..
  refine dr_seq (ds_asgG (dv_var rfl) (dg_tup (ds := [.int (r.one : Nat), .int (r.other : Nat), .tuple (r.mid.map encP), .int (r.ways : Nat)]) (dgs_cons (dgs_cons (dgs_cons (dgs_cons dgs_nil)))))) (dr_seq (ds_asg (d := .int (((cs.map encP).length : Nat) - 1)) ?_) (dr_unless ?_ n0 (dr_unless (b := !true) ?_ rfl (dr_seq (ds_asg (d := .tuple ((lineOf cs r).map encP)) ?_) ?_))))
  · walk_at "dv"
  · walk_at "dt"
  · walk_at "dt"
  · rw [← line_enc]
    refine dv_op (dv_op ?_ ?_ (d2_catT (by simp) ?_)) ?_ (d2_catT (by simp) ?_)
    · walk_at "dv"
    · walk_at "dv"
    · rw [lm]
      show 1 + _ ≤ _
      omega
    · walk_at "dv"
    · rw [List.length_append, lm]
      show 1 + _ + 1 ≤ _
      omega
  · refine dr_ret (dv_allT (dw_zip (da_cons (dv_var rfl) (da_cons (dv_slT 1 rfl (dv_var rfl) dv_int) da_nil))) (gw_tup (gws_cons (gws_cons gws_nil))) (by rw [pairs_len, List.length_map, line_len]; omega) fun y hy => ?_)
    obtain ⟨i, p, q, rfl, h1, h2⟩ := mem_pairs_map hy
    refine ⟨_, dg_tup (dgs_cons (dgs_cons dgs_nil)), dv_is (d := .bool (!PyData.eqv (encP p) (encP q))) ?_ ?_⟩
    · walk_at "dv"
    · rw [eqv_P, decide_eq_false (g.step i p q h1 h2)]
      rfl
theorem sc_is_web : FnScope ["thing", "crossings", "roads", "point", "road"] ["thing"] (defScope (top 39)) := ⟨rfl, rfl, rfl, by decide +kernel, rfl, by decide +kernel, by decide +kernel⟩
def prWeb : List PyData → PyData → Prop := fun ds d => ∃ W : Web, GoodWeb W ∧ ds = [encW W] ∧ d = .bool true
theorem pr_web {W : Web} (h : GoodWeb W) : prWeb [encW W] (.bool true) := ⟨W, h, rfl, rfl⟩
theorem pr_row {xs : List PyData} {l m : Int} {n : Nat} (h0 : xs.length ≤ 100000) (h1 : l ≤ xs.length) (h2 : xs.length ≤ m) (h3 : ∀ x ∈ xs, ∃ ys : List PyData, x = .tuple ys ∧ ys.length = n) : prRow [.tuple xs, .int l, .int m, .int n] (.bool true) := ⟨xs, l, m, n, h0, h1, h2, h3, rfl, rfl⟩
theorem has_web (T : Tx K mg) (F : Def K mg "is_web" (top 39) []) (h_are_land_points : Has P w K mg base "are_land_points" ["thing", "least", "most"] 4 (spD K 3 prLandPts)) (h_is_row : Has P w K mg base "is_row" ["thing", "least", "most", "many"] 1 (spD K 4 prRow)) (h_is_road : Has P w K mg base "is_road" ["crossings", "thing"] 5 (spD K 2 prRoad)) : Has P w K mg base "is_web" ["thing"] 6 (spD K 1 prWeb) := by
  refine has_data F sc_is_web (fun _ _ _ _ _ _ us hl => match us, hl with | [_], _ => rfl) fun f cdv A outer s H E hr => ⟨_, (pss_cons (ps_if (PW.pt (pw_or (pt_not (pt_val (pe_callB call_isi (by rfl) T.f_isinstance (by decide +kernel) (pa_cons (pv 0) (pa_cons (pe_bltn (v := .ty "tuple") (by rfl) T.f_tuple (by decide +kernel) rfl) pa_nil))))) (pw_or1 (pt_cmpR (op_neD hr.units) (pe_callB call_len_seq (by rfl) T.f_len (by decide +kernel) (pa_cons (pv 0) pa_nil)) pe_int (nomark _))))) (pss_one (ps_ret pe_bl)) pss_nil)
    (pss_cons (ps_asg (pv 0) (pg_tup (by rfl) (pgs_cons (pg_name (i := 1) sc_is_web.nd rfl (by first | exact Or.inl rfl | exact Or.inr rfl)) (pgs_cons (pg_name (i := 2) sc_is_web.nd rfl (by first | exact Or.inl rfl | exact Or.inr rfl)) pgs_nil))))
    (pss_cons (ps_if (PW.pt (pw_or (pt_not (pt_val (pe_callH h_are_land_points hr (by decide) (by rfl) (pa_cons (pv 1) (pa_cons pe_int (pa_cons (pe_glob (v := .int 10) (by rfl) T.k_MOST_CROSSINGS ⟨_, rfl⟩) pa_nil)))))) (pw_or1 (pt_cmpR op_lt (pe_callB cr_lenN (by rfl) T.f_len (by decide +kernel) (pa_cons (pe_scN (own := [("point", 3)]) (g := (gName 3)) (tt := tYes) (te := (tVar 3)) hr.units rfl sc_is_web.nd (pi_tup (pv 1)) (blkOk_by (own := [("point", 3)]) (N := ["thing", "crossings", "roads", "point", "road"]) (sc := defScope (top 39)) (by decide +kernel)) (fun _ _ _ _ _ => (pg_name (i := 3) sc_is_web.nd rfl (by first | exact Or.inl rfl | exact Or.inr rfl))) (fun _ _ _ _ _ => pts_nil) (fun _ _ _ _ _ => (pv 3))) pa_nil)) (pe_callB call_len_seq (by rfl) T.f_len (by decide +kernel) (pa_cons (pv 1) pa_nil)) (nomark _))))) (pss_one (ps_ret pe_bl)) pss_nil)
    (pss_one (ps_ret (pe_and (pe_callH h_is_row hr (by decide) (by rfl) (pa_cons (pv 2) (pa_cons pe_int (pa_cons (pe_glob (v := .int 14) (by rfl) T.k_MOST_ROADS ⟨_, rfl⟩) (pa_cons pe_int pa_nil))))) (pe_one (pe_callB (cr_all rfl) (by rfl) T.f_all (by decide +kernel) (pa_cons (pe_lc (own := [("road", 4)]) (g := (gName 4)) (tt := tYes) (te := (tCall (spD K 2 prRoad) [] E0 (tCons (tVar 1) (tCons (tVar 4) tNil)))) rfl sc_is_web.nd (pi_tup (pv 2)) (blkOk_by (own := [("road", 4)]) (N := ["thing", "crossings", "roads", "point", "road"]) (sc := defScope (top 39)) (by decide +kernel)) (fun _ _ _ _ _ => (pg_name (i := 4) sc_is_web.nd rfl (by first | exact Or.inl rfl | exact Or.inr rfl))) (fun _ _ _ _ _ => pts_nil) (fun _ _ _ _ _ => (pe_callH h_is_road hr (by decide) (by rfl) (pa_cons (pv 1) (pa_cons (pv 4) pa_nil))))) pa_nil))))))))), fun ds d z _ => .inl ?_⟩
  obtain ⟨W, g, rfl, rfl⟩ := z
  have lc : (W.cs.map encP).length = W.cs.length := List.length_map ..
  have lr : (W.roads.map encRoad).length = W.roads.length := List.length_map ..
  have a1 := g.some
  have a2 := g.few
  have a3 := g.land
  have a4 := g.roads
  have w1 : W.cs.length ≤ 100000 := by omega
  have w2 : (1 : Int) ≤ W.cs.length := by omega
  have w3 : (W.cs.length : Int) ≤ 10 := by omega
  refine dr_unless (b := (!true || !PyData.eqv (.int ((2 : Nat) : Int)) (.int 2))) ?_ rfl (dr_seq (ds_asgG (dv_var rfl) (dg_tup (ds := [.tuple (W.cs.map encP), .tuple (W.roads.map encRoad)]) (dgs_cons (dgs_cons dgs_nil)))) (dr_unless (b := (!true || decide (((W.cs.map encP).length : Int) < ((W.cs.map encP).length : Nat)))) ?_ ?_ (dr_retI (d := .bool (true && true)) ?_ rfl)))
  · walk_at "dt"
  · refine dt_or ?_ fun _ => dt_test (dv_op (dv_lenset (dv_var rfl) (Nat.le_of_ble_eq_true rfl) ?_ ?_ (keys_nodup g.nd) (by omega)) ?_ d2_lt)
    · walk_at "dt"
    · intro x hx
      obtain ⟨p, hp, rfl⟩ := List.mem_map.mp hx
      exact ⟨rfl, by show 2 ≤ 8; decide⟩
    · intro x hx
      obtain ⟨p, hp, rfl⟩ := List.mem_map.mp hx
      exact ⟨_, rfl⟩
    · walk_at "dv"
  · rw [decide_eq_false (by omega)]
    rfl
  · refine dv_and (dv_call (ds := [.tuple (W.roads.map encRoad), .int 0, .int 14, .int (4 : Nat)]) (da_cons (dv_var rfl) (da_cons dv_int (da_cons dv_int (da_cons dv_int da_nil)))) (pr_row (by omega) (by omega) (by omega) fun x hx => ?_)) fun _ => dv_allT (dw_tup (dv_var rfl)) (gw_name (by decide)) (by omega) fun y hy => ?_
    · obtain ⟨r, hr, rfl⟩ := List.mem_map.mp hx
      exact ⟨_, rfl, rfl⟩
    · obtain ⟨r, hr, rfl⟩ := List.mem_map.mp hy
      exact ⟨_, dg_name, dv_call (ds := [.tuple (W.cs.map encP), encRoad r]) (da_cons (dv_var rfl) (da_cons (dv_var rfl) da_nil)) (pr_road a2 (g.good r hr))⟩
end
end Ow
/-! ## part Ow12 -/
set_option Elab.async false
set_option linter.all false
set_option maxRecDepth 100000
set_option maxHeartbeats 4000000
namespace Ow
open PySem PySem.Spec PyProof.Rows L2
open Evl (Ex Ex.refl Ex.trans Ex.new ex_rd ex_l ex_t fresh_back)
local macro_rules | `(tactic| walk_at "pr") => `(tactic| assumption)
local macro_rules | `(tactic| walk_at "side") => `(tactic| first | assumption | rfl | decide)
local macro_rules | `(tactic| walk_at "d2") => `(tactic| first
  | exact d2_add | exact d2_sub | exact d2_lt | exact d2_le | exact d2_gt | exact d2_ge
  | exact d2_ixT 0 rfl rfl | exact d2_ixT 1 rfl rfl | exact d2_ixT 2 rfl rfl | exact d2_ixT 3 rfl rfl | exact d2_ixT 4 rfl rfl | exact d2_ixT 5 rfl rfl | exact d2_ixT 6 rfl rfl
  | exact d2_ixL 0 rfl rfl | exact d2_ixL 1 rfl rfl | exact d2_ixL 2 rfl rfl
  | exact d2_mul (by walk_at "side") | exact d2_div (by walk_at "side") | exact d2_mod (by walk_at "side")
  | exact d2_eq (by walk_at "side") (by walk_at "side") | exact d2_ne (by walk_at "side") (by walk_at "side") | walk_at "pr")
local macro_rules | `(tactic| walk_at "dc") => `(tactic| first
  | exact dc_len rfl | exact dc_lenL rfl | exact dc_abs | exact dc_max | exact dc_min | exact dc_all | exact dc_any | exact dc_list | exact dc_tuple | walk_at "pr")
local macro_rules | `(tactic| walk_at "da") => `(tactic| first
  | exact da_nil
  | (refine' da_cons ?k1 ?k2; (case k1 => walk_at "dv"); (case k2 => walk_at "da")))
local macro_rules | `(tactic| walk_at "dv") => `(tactic| first
  | exact dv_var rfl | exact dv_int | exact dv_str | exact dv_bl | exact dv_non
  | (refine' dv_call ?k1 ?k2 ?k3; (case k1 => walk_at "da"); (case k2 => walk_at "pr"); (case k3 => rfl))
  | (refine' dv_isi (b := true) ?k1 ?k2 ?k3; (case k1 => walk_at "dv"); (case k2 => first | exact .int _ | exact .tup _ | exact .str _ | exact .bl _); (case k3 => exact kit_ty (by decide +kernel)))
  | (refine' dv_isi (b := false) ?k1 ?k2 ?k3; (case k1 => walk_at "dv"); (case k2 => first | exact .int _ | exact .tup _ | exact .str _ | exact .bl _); (case k3 => exact kit_ty (by decide +kernel)))
  | (refine' dv_cb ?k1 ?k2; (case k1 => walk_at "da"); (case k2 => walk_at "dc"))
  | (refine' dv_op ?k1 ?k2 ?k3; (case k1 => walk_at "dv"); (case k2 => walk_at "dv"); (case k3 => walk_at "d2"))
  | (refine' dv_tup ?k1 ?k2; (case k1 => walk_at "da"); (case k2 => first | exact Nat.le_of_ble_eq_true rfl | walk_at "side"))
  | (refine' dv_lst ?k1 ?k2; (case k1 => walk_at "da"); (case k2 => first | exact Nat.le_of_ble_eq_true rfl | walk_at "side"))
  | (refine' dv_and ?k1 ?k2; (case k1 => walk_at "dv"); (case k2 => intro _; walk_at "dv"))
  | (refine' dv_notV ?k1; (case k1 => walk_at "dv"))
  | (refine' dv_chain ?k1 ?k2 ?k3 ?k4 ?k5; (case k1 => walk_at "dv"); (case k2 => walk_at "dv"); (case k3 => walk_at "d2"); (case k4 => intro _; walk_at "dv"); (case k5 => intro _; walk_at "d2"))
  | walk_at "pr")
local macro_rules | `(tactic| walk_at "dt") => `(tactic| first
  | (refine' dt_test ?k1; (case k1 => walk_at "dv"))
  | (refine' dt_B ?k1; (case k1 => walk_at "dv"))
  | (refine' dt_not ?k1; (case k1 => walk_at "dt"))
  | (refine' dt_or ?k1 ?k2; (case k1 => walk_at "dt"); (case k2 => intro _; walk_at "dt"))
  | (refine' dt_and ?k1 ?k2; (case k1 => walk_at "dt"); (case k2 => intro _; walk_at "dt"))
  | walk_at "pr")
local macro_rules | `(tactic| walk_at "no") => `(tactic| first | rfl | assumption | (simp [*]; done))
local macro_rules | `(tactic| walk_at "fin") => `(tactic| first | rfl | assumption | (simp [*]; done))
local macro_rules | `(tactic| walk_at "dr") => `(tactic| first
  | (refine' dr_retI ?k1 ?k2; (case k1 => walk_at "dv"); (case k2 => walk_at "fin"))
  | (refine' dr_unless ?k1 ?k2 ?k3; (case k1 => walk_at "dt"); (case k2 => walk_at "no"); (case k3 => walk_at "dr"))
  | (refine' dr_seq (ds_asg ?k1) ?k2; (case k1 => walk_at "dv"); (case k2 => walk_at "dr"))
  | (refine' dr_seq (ds_drop ?k1) ?k2; (case k1 => walk_at "dv"); (case k2 => walk_at "dr"))
  | (refine' dr_seq (ds_par ?k1 ?k2) ?k3; (case k1 => walk_at "dv"); (case k2 => walk_at "dv"); (case k3 => walk_at "dr"))
  | (refine' dr_seq (ds_asgG ?k1 ?k2) ?k3; (case k1 => walk_at "dv"); (case k2 => walk_at "dg"); (case k3 => walk_at "dr")))
local macro_rules | `(tactic| walk_at "dg") => `(tactic| first
  | exact dg_name
  | exact dg_tup (dgs_cons (dgs_cons dgs_nil))
  | exact dg_tup (dgs_cons (dgs_cons (dgs_cons dgs_nil)))
  | exact dg_tup (dgs_cons (dgs_cons (dgs_cons (dgs_cons dgs_nil))))
  | exact dg_tup (dgs_cons (dgs_cons (dgs_cons (dgs_cons (dgs_cons (dgs_cons (dgs_cons dgs_nil))))))))

section
variable {P : Program} {w : World} {K : PySem.W.Frag} {mg : Str → Option Value} {base : Heap}
theorem sc_need_web : FnScope ["thing"] ["thing"] (defScope (top 40)) := ⟨rfl, rfl, rfl, by decide +kernel, rfl, by decide +kernel, by decide +kernel⟩
def prNWeb : List PyData → PyData → Prop := fun ds d => ∃ W : Web, GoodWeb W ∧ ds = [encW W] ∧ d = .none
theorem pr_nweb {W : Web} (h : GoodWeb W) : prNWeb [encW W] .none := ⟨W, h, rfl, rfl⟩
local macro_rules | `(tactic| walk_at "pr") => `(tactic| first | exact pr_web (by assumption) | exact pr_within (by assumption) (by assumption) | exact pr_frac | assumption)
local macro_rules | `(tactic| walk_at "d2") => `(tactic| exact d2_ixT _ rfl (by assumption))
theorem has_nweb (T : Tx K mg) (F : Def K mg "need_web" (top 40) []) (h_is_web : Has P w K mg base "is_web" ["thing"] 6 (spD K 1 prWeb)) : Has P w K mg base "need_web" ["thing"] 7 (spD K 1 prNWeb) := by
  refine has_data F sc_need_web (fun _ _ _ _ _ _ us hl => match us, hl with | [_], _ => rfl) fun f cdv A outer s H E hr => ⟨_, (pss_one (ps_if (pt_not (pt_val (pe_callH h_is_web hr (by decide) (by rfl) (pa_cons (pv 0) pa_nil)))) (pss_one ps_never) pss_nil)), fun ds d z _ => .inr ?_⟩
  obtain ⟨W, g, rfl, rfl⟩ := z
  refine ⟨rfl, _, ds_ifB (b := !true) ?_ rfl⟩
  walk_at "dt"
theorem sc_corners_of : FnScope ["web", "road", "one", "other", "middle", "ways"] ["web", "road"] (defScope (top 41)) := ⟨rfl, rfl, rfl, by decide +kernel, rfl, by decide +kernel, by decide +kernel⟩
def prCorners : List PyData → PyData → Prop := fun ds d => ∃ (W : Web) (k : Nat) (r : Road), GoodWeb W ∧ W.roads[k]? = some r ∧ ds = [encW W, .int (k : Nat)] ∧ d = .tuple ((lineOf W.cs r).map encP)
theorem pr_corners {W : Web} {k : Nat} {r : Road} (h : GoodWeb W) (h2 : W.roads[k]? = some r) : prCorners [encW W, .int (k : Nat)] (.tuple ((lineOf W.cs r).map encP)) := ⟨W, k, r, h, h2, rfl, rfl⟩
theorem road_enc {W : Web} {k : Nat} {r : Road} (h : W.roads[k]? = some r) : (W.roads.map encRoad)[k]? = some (encRoad r) := by
  rw [List.getElem?_map, h]
  rfl
theorem has_corners (T : Tx K mg) (F : Def K mg "corners_of" (top 41) []) : Has P w K mg base "corners_of" ["web", "road"] 1 (spD K 2 prCorners) := by
  refine has_data F sc_corners_of (fun _ _ _ _ _ _ us hl => match us, hl with | [_, _], _ => rfl) fun f cdv A outer s H E hr => ⟨_, (pss_cons (ps_asg (pe_ix ix_tup (pe_ix ix_tup (pv 0) pe_int (fun _ _ => rfl)) (pv 1) (fun _ _ => rfl)) (pg_tup (by rfl) (pgs_cons (pg_name (i := 2) sc_corners_of.nd rfl (by first | exact Or.inl rfl | exact Or.inr rfl)) (pgs_cons (pg_name (i := 3) sc_corners_of.nd rfl (by first | exact Or.inl rfl | exact Or.inr rfl)) (pgs_cons (pg_name (i := 4) sc_corners_of.nd rfl (by first | exact Or.inl rfl | exact Or.inr rfl)) (pgs_cons (pg_name (i := 5) sc_corners_of.nd rfl (by first | exact Or.inl rfl | exact Or.inr rfl)) pgs_nil))))))
    (pss_one (ps_ret (pe_op op_catT (pe_op op_catT (pe_tup (pa_cons (pe_ix ix_tup (pe_ix ix_tup (pv 0) pe_int (fun _ _ => rfl)) (pv 2) (fun _ _ => rfl)) pa_nil)) (pv 4)) (pe_tup (pa_cons (pe_ix ix_tup (pe_ix ix_tup (pv 0) pe_int (fun _ _ => rfl)) (pv 3) (fun _ _ => rfl)) pa_nil)))))), fun ds d z _ => .inl ?_⟩
  obtain ⟨W, k, r, g, hk, rfl, rfl⟩ := z
  have gr := g.good r (List.mem_of_getElem? hk)
  have i0 := road_enc hk
  have i1 := nth0_enc gr.one
  have i2 := nth0_enc gr.other
  have a4 := gr.few
  have lm : (r.mid.map encP).length = r.mid.length := List.length_map ..
  refine dr_seq (ds_asgG (d := encRoad r) ?_ (dg_tup (ds := [.int (r.one : Nat), .int (r.other : Nat), .tuple (r.mid.map encP), .int (r.ways : Nat)]) (dgs_cons (dgs_cons (dgs_cons (dgs_cons dgs_nil)))))) ?_
  · walk_at "dv"
  · rw [← line_enc]
    refine dr_ret (dv_op (dv_op ?_ ?_ (d2_catT (by simp) ?_)) ?_ (d2_catT (by simp) ?_))
    · walk_at "dv"
    · walk_at "dv"
    · rw [lm]
      show 1 + _ ≤ _
      omega
    · walk_at "dv"
    · rw [List.length_append, lm]
      show 1 + _ + 1 ≤ _
      omega
theorem sc_pieces_of : FnScope ["web", "road", "line"] ["web", "road"] (defScope (top 42)) := ⟨rfl, rfl, rfl, by decide +kernel, rfl, by decide +kernel, by decide +kernel⟩
def prPieces : List PyData → PyData → Prop := fun ds d => ∃ (W : Web) (k : Nat) (r : Road), GoodWeb W ∧ W.roads[k]? = some r ∧ ds = [encW W, .int (k : Nat)] ∧ d = .list (pairs ((lineOf W.cs r).map encP) (((lineOf W.cs r).map encP).drop 1))
theorem pr_pieces {W : Web} {k : Nat} {r : Road} (h : GoodWeb W) (h2 : W.roads[k]? = some r) : prPieces [encW W, .int (k : Nat)] (.list (pairs ((lineOf W.cs r).map encP) (((lineOf W.cs r).map encP).drop 1))) := ⟨W, k, r, h, h2, rfl, rfl⟩
theorem has_pieces (T : Tx K mg) (F : Def K mg "pieces_of" (top 42) []) (h_corners_of : Has P w K mg base "corners_of" ["web", "road"] 1 (spD K 2 prCorners)) : Has P w K mg base "pieces_of" ["web", "road"] 2 (spD K 2 prPieces) := by
  refine has_data F sc_pieces_of (fun _ _ _ _ _ _ us hl => match us, hl with | [_, _], _ => rfl) fun f cdv A outer s H E hr => ⟨_, (pss_cons (ps_set (i := 2) sc_pieces_of.nd rfl (by first | exact Or.inl rfl | exact Or.inr rfl) (pe_callH h_corners_of hr (by decide) (by rfl) (pa_cons (pv 0) (pa_cons (pv 1) pa_nil))))
    (pss_one (ps_ret (pe_list_zip rfl (by rfl) T.f_list (by rfl) T.f_zip (pv 2) (pe_slice sl_tupA (pv 2) (po_some pe_int) po_none))))), fun ds d z _ => .inl ?_⟩
  obtain ⟨W, k, r, g, hk, rfl, rfl⟩ := z
  have gr := g.good r (List.mem_of_getElem? hk)
  have a4 := gr.few
  refine dr_seq (ds_asg (dv_call (ds := [encW W, .int (k : Nat)]) (da_cons (dv_var rfl) (da_cons (dv_var rfl) da_nil)) (pr_corners g hk))) (dr_ret (dv_lzip (dv_var rfl) (dv_slT 1 rfl (dv_var rfl) dv_int) ?_ ?_))
  · rw [List.length_drop, List.length_map, line_len]
    omega
  · rw [List.length_drop, List.length_map, line_len]
    omega
theorem sc_long_by : FnScope ["web", "road", "found", "one", "other"] ["web", "road"] (defScope (top 43)) := ⟨rfl, rfl, rfl, by decide +kernel, rfl, by decide +kernel, by decide +kernel⟩
def prLong : List PyData → PyData → Prop := fun ds d => ∃ (W : Web) (k : Nat) (r : Road), GoodWeb W ∧ W.roads[k]? = some r ∧ ds = [encW W, .int (k : Nat)] ∧ d = encR (longOf W r)
theorem pr_long {W : Web} {k : Nat} {r : Road} (h : GoodWeb W) (h2 : W.roads[k]? = some r) : prLong [encW W, .int (k : Nat)] (encR (longOf W r)) := ⟨W, k, r, h, h2, rfl, rfl⟩
theorem has_long (T : Tx K mg) (F : Def K mg "long_by" (top 43) []) (h_pieces_of : Has P w K mg base "pieces_of" ["web", "road"] 2 (spD K 2 prPieces)) (h_plus : Has P w K mg base "plus" ["one", "other"] 3 (spD K 2 prPlus)) (h_streetwise_of : Has P w K mg base "streetwise_of" ["one", "other"] 5 (spD K 2 prDist)) : Has P w K mg base "long_by" ["web", "road"] 6 (spD K 2 prLong) := by
  refine has_data F sc_long_by (fun _ _ _ _ _ _ us hl => match us, hl with | [_, _], _ => rfl) fun f cdv A outer s H E hr => ⟨_, (pss_cons (ps_set (i := 2) sc_long_by.nd rfl (by first | exact Or.inl rfl | exact Or.inr rfl) (pe_glob (v := .ref T.nought) (by rfl) T.k_NOUGHT rfl))
    (pss_cons (ps_for PassesOwn.never rfl (pi_list (pe_callH h_pieces_of hr (by decide) (by rfl) (pa_cons (pv 0) (pa_cons (pv 1) pa_nil)))) (pg_tup (by rfl) (pgs_cons (pg_name (i := 3) sc_long_by.nd rfl (by first | exact Or.inl rfl | exact Or.inr rfl)) (pgs_cons (pg_name (i := 4) sc_long_by.nd rfl (by first | exact Or.inl rfl | exact Or.inr rfl)) pgs_nil))) (pss_one (ps_set (i := 2) sc_long_by.nd rfl (by first | exact Or.inl rfl | exact Or.inr rfl) (pe_callH h_plus hr (by decide) (by rfl) (pa_cons (pv 2) (pa_cons (pe_callH h_streetwise_of hr (by decide) (by rfl) (pa_cons (pv 3) (pa_cons (pv 4) pa_nil))) pa_nil))))))
    (pss_one (ps_ret (pv 2))))), fun ds d z _ => .inl ?_⟩
  obtain ⟨W, k, r, g, hk, rfl, rfl⟩ := z
  have gr := g.good r (List.mem_of_getElem? hk)
  have a4 := gr.few
  have hl := line_land gr g.land
  have h0 : ∀ G : Hp, Dp K G (.ref T.nought) (encR 0) := fun G => .tup (T.s_NOUGHT G) (.cons (.int 0) (.cons (.int 1) .nil))
  have ll : (lineOf W.cs r).length = r.mid.length + 2 := line_len _ _
  have pl : (pairs ((lineOf W.cs r).map encP) (((lineOf W.cs r).map encP).drop 1)).length = r.mid.length + 1 := by
    rw [pairs_len, List.length_drop, List.length_map, ll]
    omega
  refine dr_seq (ds_asg (dv_c h0)) (dr_seq (ρ1 := [some (.d (encW W)), some (.d (.int (k : Nat))), some (.d (encR (longOf W r))), none, none]) (ds_for (fun i => [some (.d (encW W)), some (.d (.int (k : Nat))), some (.d (encR (lsum (lineOf W.cs r) i))), none, none]) (dw_list (dv_call (ds := [encW W, .int (k : Nat)]) (da_cons (dv_var rfl) (da_cons (dv_var rfl) da_nil)) (pr_pieces g hk))) rfl (by rw [pl]; rfl) fun i x hx => ?_) (dr_ret (dv_var rfl)))
  have hi : i < r.mid.length + 1 := by
    rw [← pl]
    exact (List.getElem?_eq_some_iff.mp hx).1
  have e1 := nth0_enc (cs := lineOf W.cs r) (i := i) (by omega)
  have e2 := nth0_enc (cs := lineOf W.cs r) (i := i + 1) (by omega)
  have ex : x = .tuple [encP (nth0 (lineOf W.cs r) i), encP (nth0 (lineOf W.cs r) (i + 1))] := by
    have e3 := pairs_at (xs := (lineOf W.cs r).map encP) (ys := ((lineOf W.cs r).map encP).drop 1) (i := i) e1 (by rw [List.getElem?_drop, Nat.add_comm]; exact e2)
    rw [hx] at e3
    exact Option.some.inj e3
  subst ex
  have l1 := hl _ (nth0_mem (cs := lineOf W.cs r) (i := i) (by omega))
  have l2 := hl _ (nth0_mem (cs := lineOf W.cs r) (i := i + 1) (by omega))
  have s1 : Sm 2000 (lsum (lineOf W.cs r) i) := (sm_lsum hl i (by omega)).mono (by omega)
  have s2 : Sm 2000 (dist (nth0 (lineOf W.cs r) i) (nth0 (lineOf W.cs r) (i + 1))) := (sm_dist l1 l2).mono (by decide)
  refine ⟨_, dg_tup (ds := [encP (nth0 (lineOf W.cs r) i), encP (nth0 (lineOf W.cs r) (i + 1))]) (dgs_cons (dgs_cons dgs_nil)), ds_forget [3, 4] (ds_asg (dv_call (ds := [encR (lsum (lineOf W.cs r) i), encR (dist (nth0 (lineOf W.cs r) i) (nth0 (lineOf W.cs r) (i + 1)))]) (da_cons (dv_var rfl) (da_cons (dv_call (ds := [encP (nth0 (lineOf W.cs r) i), encP (nth0 (lineOf W.cs r) (i + 1))]) (da_cons (dv_var rfl) (da_cons (dv_var rfl) da_nil)) (pr_dist l1 l2)) da_nil)) (pr_two s1 s2 trivial))) rfl⟩
theorem sc_is_road_number : FnScope ["web", "thing"] ["web", "thing"] (defScope (top 44)) := ⟨rfl, rfl, rfl, by decide +kernel, rfl, by decide +kernel, by decide +kernel⟩
def prRoadNo : List PyData → PyData → Prop := fun ds d => ∃ (W : Web) (k : Nat), k < W.roads.length ∧ ds = [encW W, .int (k : Nat)] ∧ d = .bool true
theorem pr_roadno {W : Web} {k : Nat} (h2 : k < W.roads.length) : prRoadNo [encW W, .int (k : Nat)] (.bool true) := ⟨W, k, h2, rfl, rfl⟩
theorem has_roadno (T : Tx K mg) (F : Def K mg "is_road_number" (top 44) []) (h_is_within : Has P w K mg base "is_within" ["thing", "least", "most"] 2 (spD K 3 prWithin)) : Has P w K mg base "is_road_number" ["web", "thing"] 3 (spD K 2 prRoadNo) := by
  refine has_data F sc_is_road_number (fun _ _ _ _ _ _ us hl => match us, hl with | [_, _], _ => rfl) fun f cdv A outer s H E hr => ⟨_, (pss_one (ps_ret (pe_callH h_is_within hr (by decide) (by rfl) (pa_cons (pv 1) (pa_cons pe_int (pa_cons (pe_op op_sub (pe_callB call_len_seq (by rfl) T.f_len (by decide +kernel) (pa_cons (pe_ix ix_tup (pv 0) pe_int (fun _ _ => rfl)) pa_nil)) pe_int) pa_nil)))))), fun ds d z _ => .inl ?_⟩
  obtain ⟨W, k, hk, rfl, rfl⟩ := z
  have lr : (W.roads.map encRoad).length = W.roads.length := List.length_map ..
  have w1 : (0 : Int) ≤ (k : Nat) := by omega
  have w2 : ((k : Nat) : Int) ≤ ((W.roads.map encRoad).length : Nat) - 1 := by omega
  walk_at "dr"
theorem sc_is_spot : FnScope ["web", "thing"] ["web", "thing"] (defScope (top 45)) := ⟨rfl, rfl, rfl, by decide +kernel, rfl, by decide +kernel, by decide +kernel⟩
def encSpot (k : Nat) (q : Rat) : PyData := .tuple [.int (k : Nat), encR q]
structure GoodSpot (W : Web) (k : Nat) (r : Road) (q : Rat) : Prop where
  web : GoodWeb W
  road : W.roads[k]? = some r
  sm : Sm 2000 q
  pos : 0 ≤ q.num
  le : ¬ longOf W r < q
def prSpot : List PyData → PyData → Prop := fun ds d => ∃ (W : Web) (k : Nat) (r : Road) (q : Rat), GoodSpot W k r q ∧ ds = [encW W, encSpot k q] ∧ d = .bool true
theorem pr_spot {W : Web} {k : Nat} {r : Road} {q : Rat} (h : GoodSpot W k r q) : prSpot [encW W, encSpot k q] (.bool true) := ⟨W, k, r, q, h, rfl, rfl⟩
local macro_rules | `(tactic| walk_at "pr") => `(tactic| first | exact pr_roadno (by assumption) | exact pr_frac | exact pr_long (by assumption) (by assumption) | exact pr_less (by assumption) (by assumption) | assumption)
theorem has_spot (T : Tx K mg) (F : Def K mg "is_spot" (top 45) []) (h_is_road_number : Has P w K mg base "is_road_number" ["web", "thing"] 3 (spD K 2 prRoadNo)) (h_is_fraction : Has P w K mg base "is_fraction" ["thing"] 2 (spD K 1 prFrac)) (h_less : Has P w K mg base "less" ["one", "other"] 1 (spD K 2 prLess)) (h_long_by : Has P w K mg base "long_by" ["web", "road"] 6 (spD K 2 prLong)) : Has P w K mg base "is_spot" ["web", "thing"] 7 (spD K 2 prSpot) := by
  refine has_data F sc_is_spot (fun _ _ _ _ _ _ us hl => match us, hl with | [_, _], _ => rfl) fun f cdv A outer s H E hr => ⟨_, (pss_cons (ps_if (PW.pt (pw_or (pt_not (pt_val (pe_callB call_isi (by rfl) T.f_isinstance (by decide +kernel) (pa_cons (pv 1) (pa_cons (pe_bltn (v := .ty "tuple") (by rfl) T.f_tuple (by decide +kernel) rfl) pa_nil))))) (pw_or (pt_cmpR (op_neD hr.units) (pe_callB call_len_seq (by rfl) T.f_len (by decide +kernel) (pa_cons (pv 1) pa_nil)) pe_int (nomark _)) (pw_or1 (pt_not (pt_val (pe_callH h_is_road_number hr (by decide) (by rfl) (pa_cons (pv 0) (pa_cons (pe_ix ix_tup (pv 1) pe_int (fun _ _ => rfl)) pa_nil))))))))) (pss_one (ps_ret pe_bl)) pss_nil)
    (pss_one (ps_ret (pe_and (pe_callH h_is_fraction hr (by decide) (by rfl) (pa_cons (pe_ix ix_tup (pv 1) pe_int (fun _ _ => rfl)) pa_nil)) (pe_and (pe_cmpR op_ge (pe_ix ix_tup (pe_ix ix_tup (pv 1) pe_int (fun _ _ => rfl)) pe_int (fun _ _ => rfl)) pe_int (nomark _)) (pe_one (pe_not (pe_callH h_less hr (by decide) (by rfl) (pa_cons (pe_callH h_long_by hr (by decide) (by rfl) (pa_cons (pv 0) (pa_cons (pe_ix ix_tup (pv 1) pe_int (fun _ _ => rfl)) pa_nil))) (pa_cons (pe_ix ix_tup (pv 1) pe_int (fun _ _ => rfl)) pa_nil)))))))))), fun ds d z _ => .inl ?_⟩
  obtain ⟨W, k, r, q, g, rfl, rfl⟩ := z
  have g1 := g.web
  have g2 := g.road
  have g3 := g.sm
  have s1 : Sm 2000 (longOf W r) := (sm_long g1 (List.mem_of_getElem? g2)).mono (by decide)
  have hk : k < W.roads.length := (List.getElem?_eq_some_iff.mp g2).1
  have n1 : PyData.bool (decide (0 ≤ q.num) && !decide (longOf W r < q)) = .bool true := by
    rw [decide_eq_true g.pos, decide_eq_false g.le]
    rfl
  refine dr_unless (b := (!true || (!PyData.eqv (.int ((2 : Nat) : Int)) (.int 2) || !true))) ?_ rfl (dr_retI (d := .bool (true && (decide (0 ≤ q.num) && !decide (longOf W r < q)))) ?_ n1)
  · walk_at "dt"
  · refine dv_and ?_ fun _ => dv_and ?_ fun _ => dv_notV (dv_call (ds := [encR (longOf W r), encR q]) (da_cons (dv_call (ds := [encW W, .int (k : Nat)]) (da_cons (dv_var rfl) (da_cons ?_ da_nil)) (pr_long g1 g2)) (da_cons ?_ da_nil)) (pr_less s1 g3))
    · walk_at "dv"
    · walk_at "dv"
    · walk_at "dv"
    · walk_at "dv"
theorem sc_need_spot : FnScope ["web", "thing"] ["web", "thing"] (defScope (top 46)) := ⟨rfl, rfl, rfl, by decide +kernel, rfl, by decide +kernel, by decide +kernel⟩
def prNSpot : List PyData → PyData → Prop := fun ds d => ∃ (W : Web) (k : Nat) (r : Road) (q : Rat), GoodSpot W k r q ∧ ds = [encW W, encSpot k q] ∧ d = .none
theorem pr_nspot {W : Web} {k : Nat} {r : Road} {q : Rat} (h : GoodSpot W k r q) : prNSpot [encW W, encSpot k q] .none := ⟨W, k, r, q, h, rfl, rfl⟩
theorem has_nspot (T : Tx K mg) (F : Def K mg "need_spot" (top 46) []) (h_is_spot : Has P w K mg base "is_spot" ["web", "thing"] 7 (spD K 2 prSpot)) : Has P w K mg base "need_spot" ["web", "thing"] 8 (spD K 2 prNSpot) := by
  refine has_data F sc_need_spot (fun _ _ _ _ _ _ us hl => match us, hl with | [_, _], _ => rfl) fun f cdv A outer s H E hr => ⟨_, (pss_one (ps_if (pt_not (pt_val (pe_callH h_is_spot hr (by decide) (by rfl) (pa_cons (pv 0) (pa_cons (pv 1) pa_nil))))) (pss_one ps_never) pss_nil)), fun ds d z _ => .inr ?_⟩
  obtain ⟨W, k, r, q, g, rfl, rfl⟩ := z
  exact ⟨rfl, _, ds_ifB (b := !true) (dt_not (dt_B (dv_call (ds := [encW W, encSpot k q]) (da_cons (dv_var rfl) (da_cons (dv_var rfl) da_nil)) (pr_spot g)))) rfl⟩
end
end Ow
/-! ## part Ow13 -/
set_option Elab.async false
set_option linter.all false
set_option maxRecDepth 100000
set_option maxHeartbeats 4000000
namespace Ow
open PySem PySem.Spec PyProof.Rows L2
open Evl (Ex Ex.refl Ex.trans Ex.new ex_rd ex_l ex_t fresh_back)
local macro_rules | `(tactic| walk_at "pr") => `(tactic| assumption)
local macro_rules | `(tactic| walk_at "side") => `(tactic| first | assumption | rfl | decide)
local macro_rules | `(tactic| walk_at "d2") => `(tactic| first
  | exact d2_add | exact d2_sub | exact d2_lt | exact d2_le | exact d2_gt | exact d2_ge
  | exact d2_ixT 0 rfl rfl | exact d2_ixT 1 rfl rfl | exact d2_ixT 2 rfl rfl | exact d2_ixT 3 rfl rfl | exact d2_ixT 4 rfl rfl | exact d2_ixT 5 rfl rfl | exact d2_ixT 6 rfl rfl
  | exact d2_ixL 0 rfl rfl | exact d2_ixL 1 rfl rfl | exact d2_ixL 2 rfl rfl
  | exact d2_mul (by walk_at "side") | exact d2_div (by walk_at "side") | exact d2_mod (by walk_at "side")
  | exact d2_eq (by walk_at "side") (by walk_at "side") | exact d2_ne (by walk_at "side") (by walk_at "side") | walk_at "pr")
local macro_rules | `(tactic| walk_at "dc") => `(tactic| first
  | exact dc_len rfl | exact dc_lenL rfl | exact dc_abs | exact dc_max | exact dc_min | exact dc_all | exact dc_any | exact dc_list | exact dc_tuple | walk_at "pr")
local macro_rules | `(tactic| walk_at "da") => `(tactic| first
  | exact da_nil
  | (refine' da_cons ?k1 ?k2; (case k1 => walk_at "dv"); (case k2 => walk_at "da")))
local macro_rules | `(tactic| walk_at "dv") => `(tactic| first
  | exact dv_var rfl | exact dv_int | exact dv_str | exact dv_bl | exact dv_non
  | (refine' dv_call ?k1 ?k2 ?k3; (case k1 => walk_at "da"); (case k2 => walk_at "pr"); (case k3 => rfl))
  | (refine' dv_isi (b := true) ?k1 ?k2 ?k3; (case k1 => walk_at "dv"); (case k2 => first | exact .int _ | exact .tup _ | exact .str _ | exact .bl _); (case k3 => exact kit_ty (by decide +kernel)))
  | (refine' dv_isi (b := false) ?k1 ?k2 ?k3; (case k1 => walk_at "dv"); (case k2 => first | exact .int _ | exact .tup _ | exact .str _ | exact .bl _); (case k3 => exact kit_ty (by decide +kernel)))
  | (refine' dv_cb ?k1 ?k2; (case k1 => walk_at "da"); (case k2 => walk_at "dc"))
  | (refine' dv_op ?k1 ?k2 ?k3; (case k1 => walk_at "dv"); (case k2 => walk_at "dv"); (case k3 => walk_at "d2"))
  | (refine' dv_tup ?k1 ?k2; (case k1 => walk_at "da"); (case k2 => first | exact Nat.le_of_ble_eq_true rfl | walk_at "side"))
  | (refine' dv_lst ?k1 ?k2; (case k1 => walk_at "da"); (case k2 => first | exact Nat.le_of_ble_eq_true rfl | walk_at "side"))
  | (refine' dv_and ?k1 ?k2; (case k1 => walk_at "dv"); (case k2 => intro _; walk_at "dv"))
  | (refine' dv_notV ?k1; (case k1 => walk_at "dv"))
  | (refine' dv_chain ?k1 ?k2 ?k3 ?k4 ?k5; (case k1 => walk_at "dv"); (case k2 => walk_at "dv"); (case k3 => walk_at "d2"); (case k4 => intro _; walk_at "dv"); (case k5 => intro _; walk_at "d2"))
  | walk_at "pr")
local macro_rules | `(tactic| walk_at "dt") => `(tactic| first
  | (refine' dt_test ?k1; (case k1 => walk_at "dv"))
  | (refine' dt_B ?k1; (case k1 => walk_at "dv"))
  | (refine' dt_not ?k1; (case k1 => walk_at "dt"))
  | (refine' dt_or ?k1 ?k2; (case k1 => walk_at "dt"); (case k2 => intro _; walk_at "dt"))
  | (refine' dt_and ?k1 ?k2; (case k1 => walk_at "dt"); (case k2 => intro _; walk_at "dt"))
  | walk_at "pr")
local macro_rules | `(tactic| walk_at "no") => `(tactic| first | rfl | assumption | (simp [*]; done))
local macro_rules | `(tactic| walk_at "fin") => `(tactic| first | rfl | assumption | (simp [*]; done))
local macro_rules | `(tactic| walk_at "dr") => `(tactic| first
  | (refine' dr_retI ?k1 ?k2; (case k1 => walk_at "dv"); (case k2 => walk_at "fin"))
  | (refine' dr_unless ?k1 ?k2 ?k3; (case k1 => walk_at "dt"); (case k2 => walk_at "no"); (case k3 => walk_at "dr"))
  | (refine' dr_seq (ds_asg ?k1) ?k2; (case k1 => walk_at "dv"); (case k2 => walk_at "dr"))
  | (refine' dr_seq (ds_drop ?k1) ?k2; (case k1 => walk_at "dv"); (case k2 => walk_at "dr"))
  | (refine' dr_seq (ds_par ?k1 ?k2) ?k3; (case k1 => walk_at "dv"); (case k2 => walk_at "dv"); (case k3 => walk_at "dr"))
  | (refine' dr_seq (ds_asgG ?k1 ?k2) ?k3; (case k1 => walk_at "dv"); (case k2 => walk_at "dg"); (case k3 => walk_at "dr")))
local macro_rules | `(tactic| walk_at "dg") => `(tactic| first
  | exact dg_name
  | exact dg_tup (dgs_cons (dgs_cons dgs_nil))
  | exact dg_tup (dgs_cons (dgs_cons (dgs_cons dgs_nil)))
  | exact dg_tup (dgs_cons (dgs_cons (dgs_cons (dgs_cons dgs_nil))))
  | exact dg_tup (dgs_cons (dgs_cons (dgs_cons (dgs_cons (dgs_cons (dgs_cons (dgs_cons dgs_nil))))))))

structure Row where
  street : Str
  road : Nat
  first : Int
  last : Int
  step : Int
  since : Int
  upto : Int
def encRow (r : Row) : PyData := .tuple [.str r.street, .int (r.road : Nat), .int r.first, .int r.last, .int r.step, .int r.since, .int r.upto]
structure GoodRow (W : Web) (r : Row) : Prop where
  word : Word r.street
  road : r.road < W.roads.length
  first : 1 ≤ r.first ∧ r.first ≤ 999
  last : r.first ≤ r.last ∧ r.last ≤ 999
  step : 1 ≤ r.step ∧ r.step ≤ 2
  even : (r.last - r.first) % r.step = 0
  since : 0 ≤ r.since
  days : r.since < r.upto
def hasN (r : Row) (n : Int) : Bool := decide (r.first ≤ n) && decide (n ≤ r.last) && decide ((n - r.first) % r.step = 0)
def ofDay (r : Row) (d : Int) : Bool := decide (r.since ≤ d) && decide (d < r.upto)
def manyOf (r : Row) : Int := (r.last - r.first) / r.step + 1
def Apart (a b : Row) : Prop := a.street ≠ b.street ∨ b.upto ≤ a.since ∨ a.upto ≤ b.since
theorem eqv_str (x y : Str) : PyData.eqv (.str x) (.str y) = decide (x = y) := by
  show (x == y) = _
  rw [Bool.eq_iff_iff, beq_iff_eq, decide_eq_true_iff]
section
variable {P : Program} {w : World} {K : PySem.W.Frag} {mg : Str → Option Value} {base : Heap}
theorem sc_is_number_row : FnScope ["web", "thing", "street", "road", "first", "last", "step", "since", "until"] ["web", "thing"] (defScope (top 50)) := ⟨rfl, rfl, rfl, by decide +kernel, rfl, by decide +kernel, by decide +kernel⟩
def prNRow : List PyData → PyData → Prop := fun ds d => ∃ (W : Web) (r : Row), GoodRow W r ∧ ds = [encW W, encRow r] ∧ d = .bool true
theorem pr_nrow {W : Web} {r : Row} (h : GoodRow W r) : prNRow [encW W, encRow r] (.bool true) := ⟨W, r, h, rfl, rfl⟩
local macro_rules | `(tactic| walk_at "pr") => `(tactic| first | exact pr_word (by assumption) | exact pr_roadno (by assumption) | exact pr_within (by assumption) (by assumption) | exact pr_day (by assumption) | assumption)
theorem dg_row {r : Row} {ρ : Rho} {a b c d e f g : Nat} : Dg K (gTup K 7 (gCons (gName a) (gCons (gName b) (gCons (gName c) (gCons (gName d) (gCons (gName e) (gCons (gName f) (gCons (gName g) gNil)))))))) (encRow r) ρ (((((((ρ.set a (some (.d (.str r.street)))).set b (some (.d (.int (r.road : Nat))))).set c (some (.d (.int r.first)))).set d (some (.d (.int r.last)))).set e (some (.d (.int r.step)))).set f (some (.d (.int r.since)))).set g (some (.d (.int r.upto)))) :=
  dg_tup (dgs_cons (dgs_cons (dgs_cons (dgs_cons (dgs_cons (dgs_cons (dgs_cons dgs_nil)))))))
theorem has_nrow (T : Tx K mg) (F : Def K mg "is_number_row" (top 50) []) (h_is_word : Has P w K mg base "is_word" ["thing"] 1 (spD K 1 prWord)) (h_is_road_number : Has P w K mg base "is_road_number" ["web", "thing"] 3 (spD K 2 prRoadNo)) (h_is_within : Has P w K mg base "is_within" ["thing", "least", "most"] 2 (spD K 3 prWithin)) (h_is_day : Has P w K mg base "is_day" ["thing"] 2 (spD K 1 prDay)) : Has P w K mg base "is_number_row" ["web", "thing"] 4 (spD K 2 prNRow) := by
  refine has_data F sc_is_number_row (fun _ _ _ _ _ _ us hl => match us, hl with | [_, _], _ => rfl) fun f cdv A outer s H E hr => ⟨_, (pss_cons (ps_asg (pv 1) (pg_tup (by rfl) (pgs_cons (pg_name (i := 2) sc_is_number_row.nd rfl (by first | exact Or.inl rfl | exact Or.inr rfl)) (pgs_cons (pg_name (i := 3) sc_is_number_row.nd rfl (by first | exact Or.inl rfl | exact Or.inr rfl)) (pgs_cons (pg_name (i := 4) sc_is_number_row.nd rfl (by first | exact Or.inl rfl | exact Or.inr rfl)) (pgs_cons (pg_name (i := 5) sc_is_number_row.nd rfl (by first | exact Or.inl rfl | exact Or.inr rfl)) (pgs_cons (pg_name (i := 6) sc_is_number_row.nd rfl (by first | exact Or.inl rfl | exact Or.inr rfl)) (pgs_cons (pg_name (i := 7) sc_is_number_row.nd rfl (by first | exact Or.inl rfl | exact Or.inr rfl)) (pgs_cons (pg_name (i := 8) sc_is_number_row.nd rfl (by first | exact Or.inl rfl | exact Or.inr rfl)) pgs_nil)))))))))
    (pss_cons (ps_if (PW.pt (pw_or (pt_not (pt_val (pe_callH h_is_word hr (by decide) (by rfl) (pa_cons (pv 2) pa_nil)))) (pw_or (pt_not (pt_val (pe_callH h_is_road_number hr (by decide) (by rfl) (pa_cons (pv 0) (pa_cons (pv 3) pa_nil))))) (pw_or1 (pt_not (pt_val (pe_callH h_is_within hr (by decide) (by rfl) (pa_cons (pv 4) (pa_cons pe_int (pa_cons (pe_glob (v := .int 999) (by rfl) T.k_MOST_NUMBER ⟨_, rfl⟩) pa_nil)))))))))) (pss_one (ps_ret pe_bl)) pss_nil)
    (pss_cons (ps_if (PW.pt (pw_or (pt_not (pt_val (pe_callH h_is_within hr (by decide) (by rfl) (pa_cons (pv 5) (pa_cons (pv 4) (pa_cons (pe_glob (v := .int 999) (by rfl) T.k_MOST_NUMBER ⟨_, rfl⟩) pa_nil)))))) (pw_or (pt_not (pt_val (pe_callH h_is_within hr (by decide) (by rfl) (pa_cons (pv 6) (pa_cons pe_int (pa_cons pe_int pa_nil)))))) (pw_or1 (pt_cmpR (op_neD hr.units) (pe_op op_mod (pe_op op_sub (pv 5) (pv 4)) (pv 6)) pe_int (nomark _)))))) (pss_one (ps_ret pe_bl)) pss_nil)
    (pss_one (ps_ret (pe_and (pe_callH h_is_day hr (by decide) (by rfl) (pa_cons (pv 7) pa_nil)) (pe_and (pe_callH h_is_day hr (by decide) (by rfl) (pa_cons (pv 8) pa_nil)) (pe_one (pe_cmpR op_lt (pv 7) (pv 8) (nomark _)))))))))), fun ds d z _ => .inl ?_⟩
  obtain ⟨W, r, g, rfl, rfl⟩ := z
  have a1 := g.word
  have a2 := g.road
  obtain ⟨a3, a4⟩ := g.first
  obtain ⟨a5, a6⟩ := g.last
  obtain ⟨a7, a8⟩ := g.step
  have a9 := g.since
  have a10 : 0 ≤ r.upto := by have := g.days; omega
  have a11 : 0 < r.step := by omega
  have n1 : (!true || (!true || !PyData.eqv (.int ((r.last - r.first) % r.step)) (.int 0))) = false := by
    rw [eqv_int, decide_eq_true g.even]
    rfl
  have n2 : PyData.bool (true && (true && decide (r.since < r.upto))) = .bool true := by
    rw [decide_eq_true g.days]
    rfl
  refine dr_seq (ds_asgG (dv_var rfl) dg_row) ?_
  walk_at "dr"
theorem sc_has_number : FnScope ["row", "number", "street", "road", "first", "last", "step", "since", "until"] ["row", "number"] (defScope (top 51)) := ⟨rfl, rfl, rfl, by decide +kernel, rfl, by decide +kernel, by decide +kernel⟩
def prHasN : List PyData → PyData → Prop := fun ds d => ∃ (r : Row) (n : Int), 0 < r.step ∧ ds = [encRow r, .int n] ∧ d = .bool (hasN r n)
theorem pr_hasn {r : Row} {n : Int} (h : 0 < r.step) : prHasN [encRow r, .int n] (.bool (hasN r n)) := ⟨r, n, h, rfl, rfl⟩
theorem has_hasn (T : Tx K mg) (F : Def K mg "has_number" (top 51) []) : Has P w K mg base "has_number" ["row", "number"] 1 (spD K 2 prHasN) := by
  refine has_data F sc_has_number (fun _ _ _ _ _ _ us hl => match us, hl with | [_, _], _ => rfl) fun f cdv A outer s H E hr => ⟨_, (pss_cons (ps_asg (pv 0) (pg_tup (by rfl) (pgs_cons (pg_name (i := 2) sc_has_number.nd rfl (by first | exact Or.inl rfl | exact Or.inr rfl)) (pgs_cons (pg_name (i := 3) sc_has_number.nd rfl (by first | exact Or.inl rfl | exact Or.inr rfl)) (pgs_cons (pg_name (i := 4) sc_has_number.nd rfl (by first | exact Or.inl rfl | exact Or.inr rfl)) (pgs_cons (pg_name (i := 5) sc_has_number.nd rfl (by first | exact Or.inl rfl | exact Or.inr rfl)) (pgs_cons (pg_name (i := 6) sc_has_number.nd rfl (by first | exact Or.inl rfl | exact Or.inr rfl)) (pgs_cons (pg_name (i := 7) sc_has_number.nd rfl (by first | exact Or.inl rfl | exact Or.inr rfl)) (pgs_cons (pg_name (i := 8) sc_has_number.nd rfl (by first | exact Or.inl rfl | exact Or.inr rfl)) pgs_nil)))))))))
    (pss_one (ps_ret (pe_and (pe_chain op_le op_le (pv 4) (pv 1) (pv 5)) (pe_one (pe_cmpR (op_eqD hr.units) (pe_op op_mod (pe_op op_sub (pv 1) (pv 4)) (pv 6)) pe_int (nomark _))))))), fun ds d z _ => .inl ?_⟩
  obtain ⟨r, n, g, rfl, rfl⟩ := z
  have n2 : PyData.bool ((decide (r.first ≤ n) && decide (n ≤ r.last)) && PyData.eqv (.int ((n - r.first) % r.step)) (.int 0)) = .bool (hasN r n) := by
    rw [eqv_int]
    rfl
  refine dr_seq (ds_asgG (dv_var rfl) dg_row) ?_
  walk_at "dr"
theorem sc_is_of_day : FnScope ["row", "day"] ["row", "day"] (defScope (top 52)) := ⟨rfl, rfl, rfl, by decide +kernel, rfl, by decide +kernel, by decide +kernel⟩
def prOfDay : List PyData → PyData → Prop := fun ds d => ∃ (r : Row) (n : Int), ds = [encRow r, .int n] ∧ d = .bool (ofDay r n)
theorem pr_ofday {r : Row} {n : Int} : prOfDay [encRow r, .int n] (.bool (ofDay r n)) := ⟨r, n, rfl, rfl⟩
theorem has_ofday (T : Tx K mg) (F : Def K mg "is_of_day" (top 52) []) : Has P w K mg base "is_of_day" ["row", "day"] 1 (spD K 2 prOfDay) := by
  refine has_data F sc_is_of_day (fun _ _ _ _ _ _ us hl => match us, hl with | [_, _], _ => rfl) fun f cdv A outer s H E hr => ⟨_, (pss_one (ps_ret (pe_chain op_le op_lt (pe_ix ix_tup (pv 0) pe_int (fun _ _ => rfl)) (pv 1) (pe_ix ix_tup (pv 0) pe_int (fun _ _ => rfl))))), fun ds d z _ => .inl ?_⟩
  obtain ⟨r, n, rfl, rfl⟩ := z
  walk_at "dr"
theorem sc_are_at_odds : FnScope ["one", "other", "number"] ["one", "other"] (defScope (top 53)) := ⟨rfl, rfl, rfl, by decide +kernel, rfl, by decide +kernel, by decide +kernel⟩
theorem shaped_word {x : Str} (h : Word x) : SeqAt.shaped (.str x) = true := by rcases h with rfl | rfl <;> decide +kernel
def prOdds : List PyData → PyData → Prop := fun ds d => ∃ (a b : Row), Apart a b ∧ Word a.street ∧ Word b.street ∧ ds = [encRow a, encRow b] ∧ d = .bool false
theorem pr_odds {a b : Row} (h : Apart a b) (h2 : Word a.street) (h3 : Word b.street) : prOdds [encRow a, encRow b] (.bool false) := ⟨a, b, h, h2, h3, rfl, rfl⟩
theorem has_odds (T : Tx K mg) (F : Def K mg "are_at_odds" (top 53) []) (h_has_number : Has P w K mg base "has_number" ["row", "number"] 1 (spD K 2 prHasN)) : Has P w K mg base "are_at_odds" ["one", "other"] 2 (spD K 2 prOdds) := by
  refine has_data F sc_are_at_odds (fun _ _ _ _ _ _ us hl => match us, hl with | [_, _], _ => rfl) fun f cdv A outer s H E hr => ⟨_, (pss_cons (ps_if (PW.pt (pw_or (pt_cmpR (op_neD hr.units) (pe_ix ix_tup (pv 0) pe_int (fun _ _ => rfl)) (pe_ix ix_tup (pv 1) pe_int (fun _ _ => rfl)) (nomark _)) (pw_or (pt_cmpR op_ge (pe_ix ix_tup (pv 0) pe_int (fun _ _ => rfl)) (pe_ix ix_tup (pv 1) pe_int (fun _ _ => rfl)) (nomark _)) (pw_or1 (pt_cmpR op_ge (pe_ix ix_tup (pv 1) pe_int (fun _ _ => rfl)) (pe_ix ix_tup (pv 0) pe_int (fun _ _ => rfl)) (nomark _)))))) (pss_one (ps_ret pe_bl)) pss_nil)
    (pss_one (ps_ret (pe_callB (cr_any rfl) (by rfl) T.f_any (by decide +kernel) (pa_cons (pe_lc (own := [("number", 2)]) (g := (gName 2)) (tt := tYes) (te := (tCall (spD K 2 prHasN) [] E0 (tCons (tVar 1) (tCons (tVar 2) tNil)))) rfl sc_are_at_odds.nd (pi_range3 (by rfl) T.f_range (pa_cons (pe_ix ix_tup (pv 0) pe_int (fun _ _ => rfl)) (pa_cons (pe_op op_add (pe_ix ix_tup (pv 0) pe_int (fun _ _ => rfl)) pe_int) (pa_cons (pe_ix ix_tup (pv 0) pe_int (fun _ _ => rfl)) pa_nil)))) (blkOk_by (own := [("number", 2)]) (N := ["one", "other", "number"]) (sc := defScope (top 53)) (by decide +kernel)) (fun _ _ _ _ _ => (pg_name (i := 2) sc_are_at_odds.nd rfl (by first | exact Or.inl rfl | exact Or.inr rfl))) (fun _ _ _ _ _ => pts_nil) (fun _ _ _ _ _ => (pe_callH h_has_number hr (by decide) (by rfl) (pa_cons (pv 1) (pa_cons (pv 2) pa_nil))))) pa_nil))))), fun ds d z _ => .inl ?_⟩
  obtain ⟨a, b, h, x1, x2, rfl, rfl⟩ := z
  have y1 := shaped_word x1
  have y2 := shaped_word x2
  refine' dr_fst (dr_ifT (dt_is ?h1 ?h2) (dr_ret dv_bl))
  case h1 => walk_at "dt"
  case h2 =>
    show ((!PyData.eqv (.str a.street) (.str b.street)) || (decide (b.upto ≤ a.since) || decide (a.upto ≤ b.since))) = true
    rw [eqv_str]
    rcases h with h | h | h
    · rw [decide_eq_false h]
      rfl
    · rw [decide_eq_true h, Bool.true_or, Bool.or_true]
    · rw [decide_eq_true h, Bool.or_true, Bool.or_true]
theorem sc_are_rows_by : FnScope ["web", "thing", "row", "at", "one", "other"] ["web", "thing"] (defScope (top 54)) := ⟨rfl, rfl, rfl, by decide +kernel, rfl, by decide +kernel, by decide +kernel⟩
structure GoodRows (W : Web) (rows : List Row) : Prop where
  few : rows.length ≤ 12
  good : ∀ r ∈ rows, GoodRow W r
  rise : Rises (rows.map encRow)
  apart : ∀ (i j : Nat) (a b : Row), i < j → rows[i]? = some a → rows[j]? = some b → Apart a b
def encRows (rows : List Row) : PyData := .tuple (rows.map encRow)
def prRowsBy : List PyData → PyData → Prop := fun ds d => ∃ (W : Web) (rows : List Row), GoodRows W rows ∧ ds = [encW W, encRows rows] ∧ d = .bool true
theorem pr_rowsby {W : Web} {rows : List Row} (h : GoodRows W rows) : prRowsBy [encW W, encRows rows] (.bool true) := ⟨W, rows, h, rfl, rfl⟩
theorem has_rowsby (T : Tx K mg) (F : Def K mg "are_rows_by" (top 54) []) (h_is_row : Has P w K mg base "is_row" ["thing", "least", "most", "many"] 1 (spD K 4 prRow)) (h_is_number_row : Has P w K mg base "is_number_row" ["web", "thing"] 4 (spD K 2 prNRow)) (h_rises : Has P w K mg base "rises" ["row"] 1 (spD K 1 prRises)) (h_are_at_odds : Has P w K mg base "are_at_odds" ["one", "other"] 2 (spD K 2 prOdds)) : Has P w K mg base "are_rows_by" ["web", "thing"] 5 (spD K 2 prRowsBy) := by
  refine has_data F sc_are_rows_by (fun _ _ _ _ _ _ us hl => match us, hl with | [_, _], _ => rfl) fun f cdv A outer s H E hr => ⟨_, (pss_cons (ps_if (PW.pt (pw_or (pt_not (pt_val (pe_callH h_is_row hr (by decide) (by rfl) (pa_cons (pv 1) (pa_cons pe_int (pa_cons (pe_glob (v := .int 12) (by rfl) T.k_MOST_ROWS ⟨_, rfl⟩) (pa_cons pe_int pa_nil))))))) (pw_or (pt_not (pt_val (pe_callB (cr_all rfl) (by rfl) T.f_all (by decide +kernel) (pa_cons (pe_lc (own := [("row", 2)]) (g := (gName 2)) (tt := tYes) (te := (tCall (spD K 2 prNRow) [] E0 (tCons (tVar 0) (tCons (tVar 2) tNil)))) rfl sc_are_rows_by.nd (pi_tup (pv 1)) (blkOk_by (own := [("row", 2)]) (N := ["web", "thing", "row", "at", "one", "other"]) (sc := defScope (top 54)) (by decide +kernel)) (fun _ _ _ _ _ => (pg_name (i := 2) sc_are_rows_by.nd rfl (by first | exact Or.inl rfl | exact Or.inr rfl))) (fun _ _ _ _ _ => pts_nil) (fun _ _ _ _ _ => (pe_callH h_is_number_row hr (by decide) (by rfl) (pa_cons (pv 0) (pa_cons (pv 2) pa_nil))))) pa_nil)))) (pw_or1 (pt_not (pt_val (pe_callH h_rises hr (by decide) (by rfl) (pa_cons (pv 1) pa_nil)))))))) (pss_one (ps_ret pe_bl)) pss_nil)
    (pss_one (ps_ret (pe_not (pe_callB (cr_any rfl) (by rfl) T.f_any (by decide +kernel) (pa_cons (pe_lc2 (own := [("at", 3), ("one", 4), ("other", 5)]) (g := (gTup K 2 (gCons (gName 3) (gCons (gName 4) gNil)))) (tt := tYes) (g1 := (gName 5)) (wi1 := (iTup K (tSl (rSlA K) (tVar 1) (tPart (tOp (rI0 fun i j => V.int (i + j)) (tVar 3) (tC (V.int 1)))) tNoPart))) (tt1 := tYes) (te := (tCall (spD K 2 prOdds) [] E0 (tCons (tVar 4) (tCons (tVar 5) tNil)))) (vs1 := [5]) rfl sc_are_rows_by.nd (pi_enumT (by rfl) T.f_enumerate (pa_cons (pv 1) pa_nil)) (blkOk_by (own := [("at", 3), ("one", 4), ("other", 5)]) (N := ["web", "thing", "row", "at", "one", "other"]) (sc := defScope (top 54)) (by decide +kernel)) (by decide) (fun _ _ _ _ _ => (pg_tup (by rfl) (pgs_cons (pg_name (i := 3) sc_are_rows_by.nd rfl (by first | exact Or.inl rfl | exact Or.inr rfl)) (pgs_cons (pg_name (i := 4) sc_are_rows_by.nd rfl (by first | exact Or.inl rfl | exact Or.inr rfl)) pgs_nil)))) (fun _ _ _ _ _ => pts_nil) (fun _ _ _ _ _ => (pi_tup (pe_slice sl_tupA (pv 1) (po_some (pe_op op_add (pv 3) pe_int)) po_none))) (fun _ _ _ _ _ => (pg_name (i := 5) sc_are_rows_by.nd rfl (by first | exact Or.inl rfl | exact Or.inr rfl))) (fun _ _ _ _ _ => pts_nil) (fun _ _ _ _ _ => (pe_callH h_are_at_odds hr (by decide) (by rfl) (pa_cons (pv 4) (pa_cons (pv 5) pa_nil))))) pa_nil)))))), fun ds d z _ => .inl ?_⟩
  obtain ⟨W, rows, g, rfl, rfl⟩ := z
  have lr : (rows.map encRow).length = rows.length := List.length_map ..
  have a1 := g.few
  refine dr_unless (b := (!true || (!true || !true))) (dt_or (dt_not (dt_B ?_)) fun _ => dt_or (dt_not (dt_B ?_)) fun _ => dt_not (dt_B ?_)) rfl (dr_retI (d := .bool (!false)) (dv_notV ?_) rfl)
  · refine dv_call (ds := [.tuple (rows.map encRow), .int 0, .int 12, .int (7 : Nat)]) (da_cons (dv_var rfl) (da_cons dv_int (da_cons dv_int (da_cons dv_int da_nil)))) (pr_row (by omega) (by omega) (by omega) fun x hx => ?_)
    obtain ⟨r, hr, rfl⟩ := List.mem_map.mp hx
    exact ⟨_, rfl, rfl⟩
  · refine dv_allT (dw_tup (dv_var rfl)) (gw_name (by decide)) (by omega) fun y hy => ?_
    obtain ⟨r, hr, rfl⟩ := List.mem_map.mp hy
    exact ⟨_, dg_name, dv_call (ds := [encW W, encRow r]) (da_cons (dv_var rfl) (da_cons (dv_var rfl) da_nil)) (pr_nrow (g.good r hr))⟩
  · exact dv_call (ds := [.tuple (rows.map encRow)]) (da_cons (dv_var rfl) da_nil) (pr_rises (by omega) g.rise)
  · have lc := dv_lc2 (K := K) (e := .bool false) (ρ := startR ["web", "thing", "row", "at", "one", "other"] [encW W, encRows rows]) (xs := nums (rows.map encRow)) (wi := iEnumT K (tCons (tVar 1) tNil)) (vs := [3, 4, 5]) (vs1 := [5]) (g := gTup K 2 (gCons (gName 3) (gCons (gName 4) gNil))) (g1 := gName 5) (wi1 := iTup K (tSl (rSlA K) (tVar 1) (tPart (tOp (rI0 fun i j => V.int (i + j)) (tVar 3) (tC (.int 1)))) tNoPart)) (te := tCall (spD K 2 prOdds) [] E0 (tCons (tVar 4) (tCons (tVar 5) tNil))) (fun i => rows.length - (i + 1)) (dw_enumT (da_cons (dv_var rfl) da_nil)) (gw_tup (gws_cons (gws_cons gws_nil))) (gw_name (by decide)) (by decide) (by rw [nums_len]; omega) (fun i => by omega) fun i x hx => by
      have hi : i < rows.length := by
        have z := (List.getElem?_eq_some_iff.mp hx).1
        rw [nums_len, lr] at z
        exact z
      have e1 : (rows.map encRow)[i]? = some (encRow rows[i]) := by
        rw [List.getElem?_map, List.getElem?_eq_getElem hi]
        rfl
      have e2 := nums_at e1
      rw [hx] at e2
      have e3 := Option.some.inj e2
      subst e3
      refine ⟨_, (rows.map encRow).drop (i + 1), dg_tup (ds := [.int (i : Nat), encRow rows[i]]) (dgs_cons (dgs_cons dgs_nil)), ?_, dw_tup (dv_slT (i + 1) (i := ((i : Nat) : Int) + 1) rfl (dv_var (i := 1) (d := .tuple (rows.map encRow)) rfl) (dv_op (dv_var rfl) dv_int d2_add)), fun j y hy => ?_⟩
      · rw [List.length_drop, lr]
      · rw [List.getElem?_drop, List.getElem?_map] at hy
        obtain ⟨b, hb, rfl⟩ := Option.map_eq_some_iff.mp hy
        exact ⟨_, dg_name, dv_call (ds := [encRow rows[i], encRow b]) (da_cons (dv_var rfl) (da_cons (dv_var rfl) da_nil)) (pr_odds (g.apart i (i + 1 + j) _ b (by omega) (List.getElem?_eq_getElem hi) hb) (g.good _ (List.getElem_mem hi)).word (g.good b (List.mem_of_getElem? hb)).word)⟩
    have e : ∀ n : Nat, (List.replicate n (PyData.bool false)) = (List.replicate n false).map PyData.bool := fun n => by rw [List.map_replicate]
    rw [e] at lc
    have y := dv_cb (da_cons lc da_nil) dc_any
    rw [any_rep] at y
    exact y
theorem sc_need_rows : FnScope ["web", "rows"] ["web", "rows"] (defScope (top 55)) := ⟨rfl, rfl, rfl, by decide +kernel, rfl, by decide +kernel, by decide +kernel⟩
def prNRows : List PyData → PyData → Prop := fun ds d => ∃ (W : Web) (rows : List Row), GoodWeb W ∧ GoodRows W rows ∧ ds = [encW W, encRows rows] ∧ d = .none
theorem pr_nrows {W : Web} {rows : List Row} (h0 : GoodWeb W) (h : GoodRows W rows) : prNRows [encW W, encRows rows] .none := ⟨W, rows, h0, h, rfl, rfl⟩
theorem has_nrows (T : Tx K mg) (F : Def K mg "need_rows" (top 55) []) (h_need_web : Has P w K mg base "need_web" ["thing"] 7 (spD K 1 prNWeb)) (h_are_rows_by : Has P w K mg base "are_rows_by" ["web", "thing"] 5 (spD K 2 prRowsBy)) : Has P w K mg base "need_rows" ["web", "rows"] 8 (spD K 2 prNRows) := by
  refine has_data F sc_need_rows (fun _ _ _ _ _ _ us hl => match us, hl with | [_, _], _ => rfl) fun f cdv A outer s H E hr => ⟨_, (pss_cons (ps_expr (pe_callH h_need_web hr (by decide) (by rfl) (pa_cons (pv 0) pa_nil)))
    (pss_one (ps_if (pt_not (pt_val (pe_callH h_are_rows_by hr (by decide) (by rfl) (pa_cons (pv 0) (pa_cons (pv 1) pa_nil))))) (pss_one ps_never) pss_nil))), fun ds d z _ => .inr ?_⟩
  obtain ⟨W, rows, g0, g, rfl, rfl⟩ := z
  exact ⟨rfl, _, ds_seq (ds_drop (dv_call (ds := [encW W]) (da_cons (dv_var rfl) da_nil) (pr_nweb g0))) (ds_ifB (b := !true) (dt_not (dt_B (dv_call (ds := [encW W, encRows rows]) (da_cons (dv_var rfl) (da_cons (dv_var rfl) da_nil)) (pr_rowsby g)))) rfl)⟩
theorem sc_are_rows : FnScope ["web", "thing"] ["web", "thing"] (defScope (top 56)) := ⟨rfl, rfl, rfl, by decide +kernel, rfl, by decide +kernel, by decide +kernel⟩
def prRows : List PyData → PyData → Prop := fun ds d => ∃ (W : Web) (rows : List Row), GoodWeb W ∧ GoodRows W rows ∧ ds = [encW W, encRows rows] ∧ d = .bool true
theorem pr_rows {W : Web} {rows : List Row} (h0 : GoodWeb W) (h : GoodRows W rows) : prRows [encW W, encRows rows] (.bool true) := ⟨W, rows, h0, h, rfl, rfl⟩
theorem has_rows (T : Tx K mg) (F : Def K mg "are_rows" (top 56) []) (h_need_web : Has P w K mg base "need_web" ["thing"] 7 (spD K 1 prNWeb)) (h_are_rows_by : Has P w K mg base "are_rows_by" ["web", "thing"] 5 (spD K 2 prRowsBy)) : Has P w K mg base "are_rows" ["web", "thing"] 8 (spD K 2 prRows) := by
  refine has_data F sc_are_rows (fun _ _ _ _ _ _ us hl => match us, hl with | [_, _], _ => rfl) fun f cdv A outer s H E hr => ⟨_, (pss_cons (ps_expr (pe_callH h_need_web hr (by decide) (by rfl) (pa_cons (pv 0) pa_nil)))
    (pss_one (ps_ret (pe_callH h_are_rows_by hr (by decide) (by rfl) (pa_cons (pv 0) (pa_cons (pv 1) pa_nil)))))), fun ds d z _ => .inl ?_⟩
  obtain ⟨W, rows, g0, g, rfl, rfl⟩ := z
  exact dr_seq (ds_drop (dv_call (ds := [encW W]) (da_cons (dv_var rfl) da_nil) (pr_nweb g0))) (dr_ret (dv_call (ds := [encW W, encRows rows]) (da_cons (dv_var rfl) (da_cons (dv_var rfl) da_nil)) (pr_rowsby g)))
end
end Ow
/-! ## part Ow14 -/
set_option Elab.async false
set_option linter.all false
set_option maxRecDepth 100000
set_option maxHeartbeats 4000000
namespace Ow
open PySem PySem.Spec PyProof.Rows L2
open Evl (Ex Ex.refl Ex.trans Ex.new ex_rd ex_l ex_t fresh_back)
local macro_rules | `(tactic| walk_at "pr") => `(tactic| assumption)
local macro_rules | `(tactic| walk_at "side") => `(tactic| first | assumption | rfl | decide)
local macro_rules | `(tactic| walk_at "d2") => `(tactic| first
  | exact d2_add | exact d2_sub | exact d2_lt | exact d2_le | exact d2_gt | exact d2_ge
  | exact d2_ixT 0 rfl rfl | exact d2_ixT 1 rfl rfl | exact d2_ixT 2 rfl rfl | exact d2_ixT 3 rfl rfl | exact d2_ixT 4 rfl rfl | exact d2_ixT 5 rfl rfl | exact d2_ixT 6 rfl rfl
  | exact d2_ixL 0 rfl rfl | exact d2_ixL 1 rfl rfl | exact d2_ixL 2 rfl rfl
  | exact d2_mul (by walk_at "side") | exact d2_div (by walk_at "side") | exact d2_mod (by walk_at "side")
  | exact d2_eq (by walk_at "side") (by walk_at "side") | exact d2_ne (by walk_at "side") (by walk_at "side") | walk_at "pr")
local macro_rules | `(tactic| walk_at "dc") => `(tactic| first
  | exact dc_len rfl | exact dc_lenL rfl | exact dc_abs | exact dc_max | exact dc_min | exact dc_all | exact dc_any | exact dc_list | exact dc_tuple | walk_at "pr")
local macro_rules | `(tactic| walk_at "da") => `(tactic| first
  | exact da_nil
  | (refine' da_cons ?k1 ?k2; (case k1 => walk_at "dv"); (case k2 => walk_at "da")))
local macro_rules | `(tactic| walk_at "dv") => `(tactic| first
  | exact dv_var rfl | exact dv_int | exact dv_str | exact dv_bl | exact dv_non
  | (refine' dv_call ?k1 ?k2 ?k3; (case k1 => walk_at "da"); (case k2 => walk_at "pr"); (case k3 => rfl))
  | (refine' dv_isi (b := true) ?k1 ?k2 ?k3; (case k1 => walk_at "dv"); (case k2 => first | exact .int _ | exact .tup _ | exact .str _ | exact .bl _); (case k3 => exact kit_ty (by decide +kernel)))
  | (refine' dv_isi (b := false) ?k1 ?k2 ?k3; (case k1 => walk_at "dv"); (case k2 => first | exact .int _ | exact .tup _ | exact .str _ | exact .bl _); (case k3 => exact kit_ty (by decide +kernel)))
  | (refine' dv_cb ?k1 ?k2; (case k1 => walk_at "da"); (case k2 => walk_at "dc"))
  | (refine' dv_op ?k1 ?k2 ?k3; (case k1 => walk_at "dv"); (case k2 => walk_at "dv"); (case k3 => walk_at "d2"))
  | (refine' dv_tup ?k1 ?k2; (case k1 => walk_at "da"); (case k2 => first | exact Nat.le_of_ble_eq_true rfl | walk_at "side"))
  | (refine' dv_lst ?k1 ?k2; (case k1 => walk_at "da"); (case k2 => first | exact Nat.le_of_ble_eq_true rfl | walk_at "side"))
  | (refine' dv_and ?k1 ?k2; (case k1 => walk_at "dv"); (case k2 => intro _; walk_at "dv"))
  | (refine' dv_notV ?k1; (case k1 => walk_at "dv"))
  | (refine' dv_chain ?k1 ?k2 ?k3 ?k4 ?k5; (case k1 => walk_at "dv"); (case k2 => walk_at "dv"); (case k3 => walk_at "d2"); (case k4 => intro _; walk_at "dv"); (case k5 => intro _; walk_at "d2"))
  | walk_at "pr")
local macro_rules | `(tactic| walk_at "dt") => `(tactic| first
  | (refine' dt_test ?k1; (case k1 => walk_at "dv"))
  | (refine' dt_B ?k1; (case k1 => walk_at "dv"))
  | (refine' dt_not ?k1; (case k1 => walk_at "dt"))
  | (refine' dt_or ?k1 ?k2; (case k1 => walk_at "dt"); (case k2 => intro _; walk_at "dt"))
  | (refine' dt_and ?k1 ?k2; (case k1 => walk_at "dt"); (case k2 => intro _; walk_at "dt"))
  | walk_at "pr")
local macro_rules | `(tactic| walk_at "no") => `(tactic| first | rfl | assumption | (simp [*]; done))
local macro_rules | `(tactic| walk_at "fin") => `(tactic| first | rfl | assumption | (simp [*]; done))
local macro_rules | `(tactic| walk_at "dr") => `(tactic| first
  | (refine' dr_retI ?k1 ?k2; (case k1 => walk_at "dv"); (case k2 => walk_at "fin"))
  | (refine' dr_unless ?k1 ?k2 ?k3; (case k1 => walk_at "dt"); (case k2 => walk_at "no"); (case k3 => walk_at "dr"))
  | (refine' dr_seq (ds_asg ?k1) ?k2; (case k1 => walk_at "dv"); (case k2 => walk_at "dr"))
  | (refine' dr_seq (ds_drop ?k1) ?k2; (case k1 => walk_at "dv"); (case k2 => walk_at "dr"))
  | (refine' dr_seq (ds_par ?k1 ?k2) ?k3; (case k1 => walk_at "dv"); (case k2 => walk_at "dv"); (case k3 => walk_at "dr"))
  | (refine' dr_seq (ds_asgG ?k1 ?k2) ?k3; (case k1 => walk_at "dv"); (case k2 => walk_at "dg"); (case k3 => walk_at "dr")))
local macro_rules | `(tactic| walk_at "dg") => `(tactic| first
  | exact dg_name
  | exact dg_tup (dgs_cons (dgs_cons dgs_nil))
  | exact dg_tup (dgs_cons (dgs_cons (dgs_cons dgs_nil)))
  | exact dg_tup (dgs_cons (dgs_cons (dgs_cons (dgs_cons dgs_nil))))
  | exact dg_tup (dgs_cons (dgs_cons (dgs_cons (dgs_cons (dgs_cons (dgs_cons (dgs_cons dgs_nil))))))))

theorem sm_mul' {p q : Rat} {a b : Nat} (hp : Sm a p) (hq : Sm b q) : Sm (a + b) (p * q) := by
  rw [← low_mul p q]
  refine sm_low (Int.mul_pos (den_pos p) (den_pos q)) (natAbs_mul_lt hp.1 hq.1) ?_
  exact natAbs_mul_lt (by rw [den_abs]; exact hp.2) (by rw [den_abs]; exact hq.2)
def longAt (W : Web) (k : Nat) : Rat := match W.roads[k]? with
  | some r => longOf W r
  | none => 0
theorem longAt_of {W : Web} {k : Nat} {r : Road} (h : W.roads[k]? = some r) : longAt W k = longOf W r := by
  unfold longAt
  rw [h]
theorem long_get {W : Web} {k : Nat} (h : k < W.roads.length) : ∃ r, W.roads[k]? = some r ∧ longAt W k = longOf W r := ⟨_, List.getElem?_eq_getElem h, longAt_of (List.getElem?_eq_getElem h)⟩
theorem pr_longAt {W : Web} {k : Nat} (h : GoodWeb W) (h2 : k < W.roads.length) : prLong [encW W, .int (k : Nat)] (encR (longAt W k)) := by
  obtain ⟨r, h3, h4⟩ := long_get h2
  rw [h4]
  exact pr_long h h3
theorem sm_longAt {W : Web} {k : Nat} (h : GoodWeb W) (h2 : k < W.roads.length) : Sm 500 (longAt W k) := by
  obtain ⟨r, h3, h4⟩ := long_get h2
  rw [h4]
  exact sm_long h (List.mem_of_getElem? h3)
theorem many_bd {W : Web} {r : Row} (g : GoodRow W r) : 1 ≤ manyOf r ∧ manyOf r ≤ 999 := by
  obtain ⟨a, b⟩ := g.step
  obtain ⟨c, d⟩ := g.last
  obtain ⟨e, f⟩ := g.first
  have h : r.step = 1 ∨ r.step = 2 := by omega
  unfold manyOf
  rcases h with h | h <;> rw [h] <;> omega
/-- one over m -/
def unit1 (m : Int) : Rat := Rat.divInt 1 m
theorem enc_unit {m : Int} (h : 0 < m) : encR (unit1 m) = .tuple [.int 1, .int m] := by
  unfold encR unit1
  rw [low_num h, low_den h]
  have e : (1 : Int).natAbs.gcd m.natAbs = 1 := Nat.gcd_one_left _
  rw [e]
  show PyData.tuple [.int (1 / 1), .int (m / 1)] = _
  rw [Int.ediv_one, Int.ediv_one]
theorem sm_unit {m : Int} (h : 0 < m) (h2 : m ≤ 999) : Sm 10 (unit1 m) := sm_low h (by decide) (by
  have e : (2 : Nat) ^ 10 = 1024 := rfl
  omega)
theorem enc_int (i : Int) : encR (i : Rat) = .tuple [.int i, .int 1] := rfl
theorem sm_int {i : Int} {n : Nat} (h : i.natAbs < 2 ^ n) (h0 : 0 < n) : Sm n (i : Rat) := by
  refine ⟨h, ?_⟩
  show 1 < 2 ^ n
  exact Nat.one_lt_two_pow (by omega)
def shareOf (W : Web) (r : Row) : Rat := longAt W r.road * unit1 (manyOf r)
def placeOf (r : Row) (n : Int) : Int := (n - r.first) / r.step
def strD (W : Web) (r : Row) (n : Int) : PyData := .tuple [.int (r.road : Nat), encR ((placeOf r n : Int) * shareOf W r), encR (((placeOf r n + 1 : Int) : Rat) * shareOf W r)]
theorem sm_share {W : Web} {r : Row} (h : GoodWeb W) (g : GoodRow W r) : Sm 510 (shareOf W r) := by
  obtain ⟨a, b⟩ := many_bd g
  exact sm_mul' (sm_longAt h g.road) (sm_unit (by omega) b)
theorem place_bd {W : Web} {r : Row} {n : Int} (g : GoodRow W r) (h1 : r.first ≤ n) (h2 : n ≤ r.last) : 0 ≤ placeOf r n ∧ placeOf r n ≤ 998 := by
  obtain ⟨a, b⟩ := g.step
  obtain ⟨c, d⟩ := g.last
  obtain ⟨e, f⟩ := g.first
  have h : r.step = 1 ∨ r.step = 2 := by omega
  unfold placeOf
  rcases h with h | h <;> rw [h] <;> omega
theorem sm_place {W : Web} {r : Row} {n : Int} (g : GoodRow W r) (h1 : r.first ≤ n) (h2 : n ≤ r.last) : Sm 10 ((placeOf r n : Int) : Rat) ∧ Sm 10 ((placeOf r n + 1 : Int) : Rat) := by
  obtain ⟨a, b⟩ := place_bd g h1 h2
  have e : (2 : Nat) ^ 10 = 1024 := rfl
  exact ⟨sm_int (by omega) (by decide), sm_int (by omega) (by decide)⟩
section
variable {P : Program} {w : World} {K : PySem.W.Frag} {mg : Str → Option Value} {base : Heap}
theorem sc_many_of : FnScope ["row"] ["row"] (defScope (top 57)) := ⟨rfl, rfl, rfl, by decide +kernel, rfl, by decide +kernel, by decide +kernel⟩
def prMany : List PyData → PyData → Prop := fun ds d => ∃ (r : Row), 1 ≤ r.step ∧ r.step ≤ 2 ∧ ds = [encRow r] ∧ d = .int (manyOf r)
theorem pr_many {r : Row} (h : 1 ≤ r.step) (h2 : r.step ≤ 2) : prMany [encRow r] (.int (manyOf r)) := ⟨r, h, h2, rfl, rfl⟩
theorem step_div {i j : Int} (h : 1 ≤ j) (h2 : j ≤ 2) : CDivW i j := wide_div (b := 2) (by omega) (by
  have e : (2 : Nat) ^ 2 = 4 := rfl
  omega) (by decide) (by decide)
theorem has_many (T : Tx K mg) (F : Def K mg "many_of" (top 57) []) : Has P w K mg base "many_of" ["row"] 1 (spD K 1 prMany) := by
  refine has_data F sc_many_of (fun _ _ _ _ _ _ us hl => match us, hl with | [_], _ => rfl) fun f cdv A outer s H E hr => ⟨_, (pss_one (ps_ret (pe_op op_add (pe_op op_fdivW (pe_op op_sub (pe_ix ix_tup (pv 0) pe_int (fun _ _ => rfl)) (pe_ix ix_tup (pv 0) pe_int (fun _ _ => rfl))) (pe_ix ix_tup (pv 0) pe_int (fun _ _ => rfl))) pe_int))), fun ds d z _ => .inl ?_⟩
  obtain ⟨r, h1, h2, rfl, rfl⟩ := z
  have c : CDivW (r.last - r.first) r.step := step_div h1 h2
  walk_at "dr"
theorem sc_stretch_of : FnScope ["web", "row", "number", "at", "share"] ["web", "row", "number"] (defScope (top 58)) := ⟨rfl, rfl, rfl, by decide +kernel, rfl, by decide +kernel, by decide +kernel⟩
def prStretch : List PyData → PyData → Prop := fun ds d => ∃ (W : Web) (r : Row) (n : Int), GoodWeb W ∧ GoodRow W r ∧ r.first ≤ n ∧ n ≤ r.last ∧ ds = [encW W, encRow r, .int n] ∧ d = strD W r n
theorem pr_stretch {W : Web} {r : Row} {n : Int} (h : GoodWeb W) (h2 : GoodRow W r) (h3 : r.first ≤ n) (h4 : n ≤ r.last) : prStretch [encW W, encRow r, .int n] (strD W r n) := ⟨W, r, n, h, h2, h3, h4, rfl, rfl⟩
local macro_rules | `(tactic| walk_at "pr") => `(tactic| first | exact pr_longAt (by assumption) (by assumption) | exact pr_many (by assumption) (by assumption) | exact pr_two (by assumption) (by assumption) (by first | exact trivial | assumption) | assumption)
theorem has_stretch (T : Tx K mg) (F : Def K mg "stretch_of" (top 58) []) (h_times : Has P w K mg base "times" ["one", "other"] 3 (spD K 2 prTimes)) (h_long_by : Has P w K mg base "long_by" ["web", "road"] 6 (spD K 2 prLong)) (h_many_of : Has P w K mg base "many_of" ["row"] 1 (spD K 1 prMany)) : Has P w K mg base "stretch_of" ["web", "row", "number"] 7 (spD K 3 prStretch) := by
  refine has_data F sc_stretch_of (fun _ _ _ _ _ _ us hl => match us, hl with | [_, _, _], _ => rfl) fun f cdv A outer s H E hr => ⟨_, (pss_cons (ps_par (i := 3) (j := 4) (by rfl) sc_stretch_of.nd rfl rfl (by decide) rfl rfl (pa_cons (pe_op op_fdivW (pe_op op_sub (pv 2) (pe_ix ix_tup (pv 1) pe_int (fun _ _ => rfl))) (pe_ix ix_tup (pv 1) pe_int (fun _ _ => rfl))) (pa_cons (pe_callH h_times hr (by decide) (by rfl) (pa_cons (pe_callH h_long_by hr (by decide) (by rfl) (pa_cons (pv 0) (pa_cons (pe_ix ix_tup (pv 1) pe_int (fun _ _ => rfl)) pa_nil))) (pa_cons (pe_tup (pa_cons pe_int (pa_cons (pe_callH h_many_of hr (by decide) (by rfl) (pa_cons (pv 1) pa_nil)) pa_nil))) pa_nil))) pa_nil)) (by rfl))
    (pss_one (ps_ret (pe_tup (pa_cons (pe_ix ix_tup (pv 1) pe_int (fun _ _ => rfl)) (pa_cons (pe_callH h_times hr (by decide) (by rfl) (pa_cons (pe_tup (pa_cons (pv 3) (pa_cons pe_int pa_nil))) (pa_cons (pv 4) pa_nil))) (pa_cons (pe_callH h_times hr (by decide) (by rfl) (pa_cons (pe_tup (pa_cons (pe_op op_add (pv 3) pe_int) (pa_cons pe_int pa_nil))) (pa_cons (pv 4) pa_nil))) pa_nil))))))), fun ds d z _ => .inl ?_⟩
  obtain ⟨W, r, n, h0, g, h1, h2, rfl, rfl⟩ := z
  obtain ⟨s1, s2⟩ := g.step
  have c : CDivW (n - r.first) r.step := step_div s1 s2
  obtain ⟨m1, m2⟩ := many_bd g
  have x1 : Sm 2000 (longAt W r.road) := (sm_longAt h0 g.road).mono (by decide)
  have x2 : Sm 2000 (unit1 (manyOf r)) := (sm_unit (by omega) m2).mono (by decide)
  have x3 : Sm 2000 (shareOf W r) := (sm_share h0 g).mono (by decide)
  obtain ⟨p1, p2⟩ := sm_place g h1 h2
  have x4 := p1.mono (m := 2000) (by decide)
  have x5 := p2.mono (m := 2000) (by decide)
  have g1 := g.road
  refine dr_seq (ds_par (d := .int (placeOf r n)) (e := encR (shareOf W r)) ?_ ?_) (dr_ret (dv_tup (ds := [.int (r.road : Nat), encR ((placeOf r n : Int) * shareOf W r), encR (((placeOf r n + 1 : Int) : Rat) * shareOf W r)]) (da_cons ?_ (da_cons ?_ (da_cons ?_ da_nil))) (Nat.le_of_ble_eq_true rfl)))
  · walk_at "dv"
  · refine dv_call (ds := [encR (longAt W r.road), encR (unit1 (manyOf r))]) (da_cons ?_ (da_cons ?_ da_nil)) (pr_two x1 x2 trivial)
    · walk_at "dv"
    · rw [enc_unit (by omega)]
      walk_at "dv"
  · walk_at "dv"
  · refine dv_call (ds := [encR ((placeOf r n : Int) : Rat), encR (shareOf W r)]) (da_cons ?_ (da_cons ?_ da_nil)) (pr_two x4 x3 trivial)
    · rw [enc_int]
      walk_at "dv"
    · walk_at "dv"
  · refine dv_call (ds := [encR ((placeOf r n + 1 : Int) : Rat), encR (shareOf W r)]) (da_cons ?_ (da_cons ?_ da_nil)) (pr_two x5 x3 trivial)
    · rw [enc_int]
      walk_at "dv"
    · walk_at "dv"
theorem sc_find_by : FnScope ["web", "rows", "street", "number", "day", "row"] ["web", "rows", "street", "number", "day"] (defScope (top 59)) := ⟨rfl, rfl, rfl, by decide +kernel, rfl, by decide +kernel, by decide +kernel⟩
def hit (x : Str) (day n : Int) (r : Row) : Bool := decide (r.street = x) && (ofDay r day && hasN r n)
structure Hit (rows : List Row) (x : Str) (n day : Int) (k : Nat) (r : Row) : Prop where
  at_ : rows[k]? = some r
  yes : hit x day n r = true
  first : ∀ (i : Nat) (r' : Row), i < k → rows[i]? = some r' → hit x day n r' = false
def prFindBy : List PyData → PyData → Prop := fun ds d => ∃ (W : Web) (rows : List Row) (x : Str) (n day : Int) (k : Nat) (r : Row), GoodWeb W ∧ GoodRows W rows ∧ Word x ∧ Hit rows x n day k r ∧ ds = [encW W, encRows rows, .str x, .int n, .int day] ∧ d = strD W r n
theorem pr_findby {W : Web} {rows : List Row} {x : Str} {n day : Int} {k : Nat} {r : Row} (h : GoodWeb W) (h2 : GoodRows W rows) (h3 : Word x) (h4 : Hit rows x n day k r) : prFindBy [encW W, encRows rows, .str x, .int n, .int day] (strD W r n) := ⟨W, rows, x, n, day, k, r, h, h2, h3, h4, rfl, rfl⟩
theorem hasN_bd {r : Row} {n : Int} (h : hasN r n = true) : r.first ≤ n ∧ n ≤ r.last := by
  unfold hasN at h
  rw [Bool.and_eq_true, Bool.and_eq_true, decide_eq_true_iff, decide_eq_true_iff] at h
  exact h.1
theorem hit_has {x : Str} {day n : Int} {r : Row} (h : hit x day n r = true) : hasN r n = true := by
  unfold hit at h
  rw [Bool.and_eq_true, Bool.and_eq_true] at h
  exact h.2.2
local macro_rules | `(tactic| walk_at "pr") => `(tactic| first | exact pr_ofday | exact pr_hasn (by assumption) | assumption)
theorem has_findby (T : Tx K mg) (F : Def K mg "find_by" (top 59) []) (h_is_of_day : Has P w K mg base "is_of_day" ["row", "day"] 1 (spD K 2 prOfDay)) (h_has_number : Has P w K mg base "has_number" ["row", "number"] 1 (spD K 2 prHasN)) (h_stretch_of : Has P w K mg base "stretch_of" ["web", "row", "number"] 7 (spD K 3 prStretch)) : Has P w K mg base "find_by" ["web", "rows", "street", "number", "day"] 8 (spD K 5 prFindBy) := by
  refine has_data F sc_find_by (fun _ _ _ _ _ _ us hl => match us, hl with | [_, _, _, _, _], _ => rfl) fun f cdv A outer s H E hr => ⟨_, (pss_cons (ps_for PassesOwn.never rfl (pi_tup (pv 1)) (pg_name (i := 5) sc_find_by.nd rfl (by first | exact Or.inl rfl | exact Or.inr rfl)) (pss_one (ps_if (PW.pt (pw_and (pt_cmpR (op_eqD hr.units) (pe_ix ix_tup (pv 5) pe_int (fun _ _ => rfl)) (pv 2) (nomark _)) (pw_and (pt_val (pe_callH h_is_of_day hr (by decide) (by rfl) (pa_cons (pv 5) (pa_cons (pv 4) pa_nil)))) (pw_and1 (pt_val (pe_callH h_has_number hr (by decide) (by rfl) (pa_cons (pv 5) (pa_cons (pv 3) pa_nil)))))))) (pss_one (ps_ret (pe_callH h_stretch_of hr (by decide) (by rfl) (pa_cons (pv 0) (pa_cons (pv 5) (pa_cons (pv 3) pa_nil)))))) pss_nil)))
    (pss_one (ps_ret pe_non))), fun ds d z _ => .inl ?_⟩
  obtain ⟨W, rows, x, n, day, k, r, h0, g, hx, h4, rfl, rfl⟩ := z
  have lr : (rows.map encRow).length = rows.length := List.length_map ..
  have y1 := shaped_word hx
  have test : ∀ r' : Row, r' ∈ rows → Dt K (tAnd (tTest (tOp (rEqD K) (tOp (rIxT K) (tVar 5) (tC (.int 0))) (tVar 2))) (tAnd (tB (tCall (spD K 2 prOfDay) [] E0 (tCons (tVar 5) (tCons (tVar 4) tNil)))) (tB (tCall (spD K 2 prHasN) [] E0 (tCons (tVar 5) (tCons (tVar 3) tNil)))))) [some (.d (encW W)), some (.d (encRows rows)), some (.d (.str x)), some (.d (.int n)), some (.d (.int day)), some (.d (encRow r'))] (hit x day n r') := fun r' hr' => by
    have gr := g.good r' hr'
    have y2 := shaped_word gr.word
    have y3 : 0 < r'.step := by have := gr.step; omega
    have e : hit x day n r' = (PyData.eqv (.str r'.street) (.str x) && (ofDay r' day && hasN r' n)) := by
      rw [eqv_str]
      rfl
    rw [e]
    refine dt_and (dt_test (dv_op ?_ ?_ (d2_eq y2 y1))) fun _ => dt_and (dt_B ?_) fun _ => dt_B ?_
    · walk_at "dv"
    · walk_at "dv"
    · walk_at "dv"
    · walk_at "dv"
  refine dr_fst (dr_for (fun _ => [some (.d (encW W)), some (.d (encRows rows)), some (.d (.str x)), some (.d (.int n)), some (.d (.int day)), none]) k (dw_tup (xs := rows.map encRow) (dv_var rfl)) rfl (by rw [lr]; exact (List.getElem?_eq_some_iff.mp h4.at_).1) (fun i y hi hy => ?_) fun y hy => ?_)
  · rw [List.getElem?_map] at hy
    obtain ⟨r', hr', rfl⟩ := Option.map_eq_some_iff.mp hy
    exact ⟨_, dg_name, ds_forget [5] (ds_ifB (test r' (List.mem_of_getElem? hr')) (h4.first i r' hi hr')) rfl⟩
  · rw [List.getElem?_map, h4.at_] at hy
    have hy := Option.some.inj hy
    subst hy
    have hm := List.mem_of_getElem? h4.at_
    obtain ⟨b1, b2⟩ := hasN_bd (hit_has h4.yes)
    exact ⟨_, dg_name, dr_ifT (dt_is (test r hm) h4.yes) (dr_ret (dv_call (ds := [encW W, encRow r, .int n]) (da_cons (dv_var rfl) (da_cons (dv_var rfl) (da_cons (dv_var rfl) da_nil))) (pr_stretch h0 (g.good r hm) b1 b2)))⟩
end
end Ow
/-! ## part Ow15 -/
set_option Elab.async false
set_option linter.all false
set_option maxRecDepth 100000
set_option maxHeartbeats 4000000
namespace Ow
open PySem PySem.Spec PyProof.Rows L2
open Evl (Ex Ex.refl Ex.trans Ex.new ex_rd ex_l ex_t fresh_back)
local macro_rules | `(tactic| walk_at "pr") => `(tactic| assumption)
local macro_rules | `(tactic| walk_at "side") => `(tactic| first | assumption | rfl | decide)
local macro_rules | `(tactic| walk_at "d2") => `(tactic| first
  | exact d2_add | exact d2_sub | exact d2_lt | exact d2_le | exact d2_gt | exact d2_ge
  | exact d2_ixT 0 rfl rfl | exact d2_ixT 1 rfl rfl | exact d2_ixT 2 rfl rfl | exact d2_ixT 3 rfl rfl | exact d2_ixT 4 rfl rfl | exact d2_ixT 5 rfl rfl | exact d2_ixT 6 rfl rfl
  | exact d2_ixL 0 rfl rfl | exact d2_ixL 1 rfl rfl | exact d2_ixL 2 rfl rfl
  | exact d2_mul (by walk_at "side") | exact d2_div (by walk_at "side") | exact d2_mod (by walk_at "side")
  | exact d2_eq (by walk_at "side") (by walk_at "side") | exact d2_ne (by walk_at "side") (by walk_at "side") | walk_at "pr")
local macro_rules | `(tactic| walk_at "dc") => `(tactic| first
  | exact dc_len rfl | exact dc_lenL rfl | exact dc_abs | exact dc_max | exact dc_min | exact dc_all | exact dc_any | exact dc_list | exact dc_tuple | walk_at "pr")
local macro_rules | `(tactic| walk_at "da") => `(tactic| first
  | exact da_nil
  | (refine' da_cons ?k1 ?k2; (case k1 => walk_at "dv"); (case k2 => walk_at "da")))
local macro_rules | `(tactic| walk_at "dv") => `(tactic| first
  | exact dv_var rfl | exact dv_int | exact dv_str | exact dv_bl | exact dv_non
  | (refine' dv_call ?k1 ?k2 ?k3; (case k1 => walk_at "da"); (case k2 => walk_at "pr"); (case k3 => rfl))
  | (refine' dv_isi (b := true) ?k1 ?k2 ?k3; (case k1 => walk_at "dv"); (case k2 => first | exact .int _ | exact .tup _ | exact .str _ | exact .bl _); (case k3 => exact kit_ty (by decide +kernel)))
  | (refine' dv_isi (b := false) ?k1 ?k2 ?k3; (case k1 => walk_at "dv"); (case k2 => first | exact .int _ | exact .tup _ | exact .str _ | exact .bl _); (case k3 => exact kit_ty (by decide +kernel)))
  | (refine' dv_cb ?k1 ?k2; (case k1 => walk_at "da"); (case k2 => walk_at "dc"))
  | (refine' dv_op ?k1 ?k2 ?k3; (case k1 => walk_at "dv"); (case k2 => walk_at "dv"); (case k3 => walk_at "d2"))
  | (refine' dv_tup ?k1 ?k2; (case k1 => walk_at "da"); (case k2 => first | exact Nat.le_of_ble_eq_true rfl | walk_at "side"))
  | (refine' dv_lst ?k1 ?k2; (case k1 => walk_at "da"); (case k2 => first | exact Nat.le_of_ble_eq_true rfl | walk_at "side"))
  | (refine' dv_and ?k1 ?k2; (case k1 => walk_at "dv"); (case k2 => intro _; walk_at "dv"))
  | (refine' dv_notV ?k1; (case k1 => walk_at "dv"))
  | (refine' dv_chain ?k1 ?k2 ?k3 ?k4 ?k5; (case k1 => walk_at "dv"); (case k2 => walk_at "dv"); (case k3 => walk_at "d2"); (case k4 => intro _; walk_at "dv"); (case k5 => intro _; walk_at "d2"))
  | walk_at "pr")
local macro_rules | `(tactic| walk_at "dt") => `(tactic| first
  | (refine' dt_test ?k1; (case k1 => walk_at "dv"))
  | (refine' dt_B ?k1; (case k1 => walk_at "dv"))
  | (refine' dt_not ?k1; (case k1 => walk_at "dt"))
  | (refine' dt_or ?k1 ?k2; (case k1 => walk_at "dt"); (case k2 => intro _; walk_at "dt"))
  | (refine' dt_and ?k1 ?k2; (case k1 => walk_at "dt"); (case k2 => intro _; walk_at "dt"))
  | walk_at "pr")
local macro_rules | `(tactic| walk_at "no") => `(tactic| first | rfl | assumption | (simp [*]; done))
local macro_rules | `(tactic| walk_at "fin") => `(tactic| first | rfl | assumption | (simp [*]; done))
local macro_rules | `(tactic| walk_at "dr") => `(tactic| first
  | (refine' dr_retI ?k1 ?k2; (case k1 => walk_at "dv"); (case k2 => walk_at "fin"))
  | (refine' dr_unless ?k1 ?k2 ?k3; (case k1 => walk_at "dt"); (case k2 => walk_at "no"); (case k3 => walk_at "dr"))
  | (refine' dr_seq (ds_asg ?k1) ?k2; (case k1 => walk_at "dv"); (case k2 => walk_at "dr"))
  | (refine' dr_seq (ds_drop ?k1) ?k2; (case k1 => walk_at "dv"); (case k2 => walk_at "dr"))
  | (refine' dr_seq (ds_par ?k1 ?k2) ?k3; (case k1 => walk_at "dv"); (case k2 => walk_at "dv"); (case k3 => walk_at "dr"))
  | (refine' dr_seq (ds_asgG ?k1 ?k2) ?k3; (case k1 => walk_at "dv"); (case k2 => walk_at "dg"); (case k3 => walk_at "dr")))
local macro_rules | `(tactic| walk_at "dg") => `(tactic| first
  | exact dg_name
  | exact dg_tup (dgs_cons (dgs_cons dgs_nil))
  | exact dg_tup (dgs_cons (dgs_cons (dgs_cons dgs_nil)))
  | exact dg_tup (dgs_cons (dgs_cons (dgs_cons (dgs_cons dgs_nil))))
  | exact dg_tup (dgs_cons (dgs_cons (dgs_cons (dgs_cons (dgs_cons (dgs_cons (dgs_cons dgs_nil))))))))

section
variable {K : PySem.W.Frag} {ρ : Rho} {te : TE} {tt : TT} {g : TG} {wi : TI} {d e : PyData}
theorem d2_isN {ds : List PyData} : D2 K (fun x y H Q => y = V.non ∧ Q (.bl (decide (x = V.non))) H) (.tuple ds) .none (.bool false) := fun G H x y e hx hy Q q => by
  cases hy
  cases hx with
  | tup hs ha =>
    refine ⟨rfl, ?_⟩
    rw [decide_eq_false (by intro z; cases z)]
    exact q _ G H (.refl e) (.bl _)
theorem kept_map {α : Type} {b : α → Bool} {f : α → PyData} (rows : List α) : kept (fun i => (rows[i]?).elim false b) (fun i => (rows[i]?).elim .none f) rows.length = (rows.filter b).map f := by
  have key : ∀ n, n ≤ rows.length → kept (fun i => (rows[i]?).elim false b) (fun i => (rows[i]?).elim .none f) n = ((rows.take n).filter b).map f := by
    intro n
    induction n with
    | zero => intro _; rfl
    | succ n ih =>
      intro h
      have hg : rows[n]? = some rows[n] := List.getElem?_eq_getElem (by omega)
      have ht : rows.take (n + 1) = rows.take n ++ [rows[n]] := by
        rw [List.take_add_one, hg]
        rfl
      rw [ht, List.filter_append, List.map_append, ← ih (by omega)]
      cases hb : b rows[n] with
      | true =>
        rw [kept_yes (by rw [hg]; exact hb), List.filter_cons, if_pos hb, hg] <;> rfl
      | false =>
        rw [kept_no (by rw [hg]; exact hb), List.filter_cons, if_neg (by rw [hb]; exact Bool.false_ne_true), List.filter_nil, List.map_nil, List.append_nil]
  rw [key rows.length (Nat.le_refl _), List.take_length]
/-- a comprehension over encoded things -/
theorem dv_lcM {α : Type} {enc : α → PyData} {vs : List Nat} (b : α → Bool) (f : α → PyData) (rows : List α) (hw : Dw K wi ρ (rows.map enc)) (hg : Gw g vs) (hl : rows.length ≤ 100000) (hs : ∀ r, r ∈ rows → ∃ ρ', Dg K g (enc r) (wipR ρ vs) ρ' ∧ Dt K tt ρ' (b r) ∧ (b r = true → Dv K te ρ' (f r))) :
    Dv K (tLc wi g tt te vs) ρ (.list ((rows.filter b).map f)) := by
  rw [← kept_map rows]
  have z := dv_lcN (te := te) (tt := tt) (K := K) (fun i => (rows[i]?).elim false b) (fun i => (rows[i]?).elim .none f) hw hg (by rw [List.length_map]; exact hl) fun i x hx => by
    rw [List.getElem?_map] at hx
    obtain ⟨r, hr, rfl⟩ := Option.map_eq_some_iff.mp hx
    rw [hr]
    exact hs r (List.mem_of_getElem? hr)
  rw [List.length_map] at z
  exact z
/-- the same without a test -/
theorem dv_lcE {α : Type} {enc : α → PyData} {vs : List Nat} (f : α → PyData) (rows : List α) (hw : Dw K wi ρ (rows.map enc)) (hg : Gw g vs) (hl : rows.length ≤ 100000) (hs : ∀ r, r ∈ rows → ∃ ρ', Dg K g (enc r) (wipR ρ vs) ρ' ∧ Dv K te ρ' (f r)) :
    Dv K (tLc wi g tYes te vs) ρ (.list (rows.map f)) := by
  have z := dv_lcM (te := te) (tt := tYes) (K := K) (fun _ => true) f rows hw hg hl fun r hr => by
    obtain ⟨ρ', h1, h2⟩ := hs r hr
    exact ⟨ρ', h1, dt_yes, fun _ => h2⟩
  rw [List.filter_eq_self.mpr fun _ _ => rfl] at z
  exact z
end
def numBy (W : Web) (r : Row) (q : Rat) : Int := r.first + r.step * (if q < longAt W r.road then q.num * (longAt W r.road).den * manyOf r / (q.den * (longAt W r.road).num) else manyOf r - 1)
def nbD (W : Web) (q : Rat) (r : Row) : PyData := .tuple [.str r.street, .int (numBy W r q)]
def mineB (k : Nat) (day : Int) (r : Row) : Bool := decide (r.road = k) && ofDay r day
def toldD (W : Web) (rows : List Row) (k : Nat) (q : Rat) (day : Int) : PyData := .list (((rows.filter (mineB k day)).map (nbD W q)).mergeSort (PySem.W.dataLe false fun d => d))
section
variable {P : Program} {w : World} {K : PySem.W.Frag} {mg : Str → Option Value} {base : Heap}
theorem sc_number_by : FnScope ["web", "row", "far", "long", "many", "at"] ["web", "row", "far"] (defScope (top 60)) := ⟨rfl, rfl, rfl, by decide +kernel, rfl, by decide +kernel, by decide +kernel⟩
def prNumberBy : List PyData → PyData → Prop := fun ds d => ∃ (W : Web) (r : Row) (q : Rat), GoodWeb W ∧ GoodRow W r ∧ Sm 2000 q ∧ 0 ≤ q.num ∧ ds = [encW W, encRow r, encR q] ∧ d = .int (numBy W r q)
theorem pr_numberby {W : Web} {r : Row} {q : Rat} (h : GoodWeb W) (h2 : GoodRow W r) (h3 : Sm 2000 q) (h4 : 0 ≤ q.num) : prNumberBy [encW W, encRow r, encR q] (.int (numBy W r q)) := ⟨W, r, q, h, h2, h3, h4, rfl, rfl⟩
local macro_rules | `(tactic| walk_at "pr") => `(tactic| first | exact pr_longAt (by assumption) (by assumption) | exact pr_many (by assumption) (by assumption) | exact pr_less (by assumption) (by assumption) | assumption)
theorem has_numberby (T : Tx K mg) (F : Def K mg "number_by" (top 60) []) (h_long_by : Has P w K mg base "long_by" ["web", "road"] 6 (spD K 2 prLong)) (h_many_of : Has P w K mg base "many_of" ["row"] 1 (spD K 1 prMany)) (h_less : Has P w K mg base "less" ["one", "other"] 1 (spD K 2 prLess)) : Has P w K mg base "number_by" ["web", "row", "far"] 7 (spD K 3 prNumberBy) := by
  refine has_data F sc_number_by (fun _ _ _ _ _ _ us hl => match us, hl with | [_, _, _], _ => rfl) fun f cdv A outer s H E hr => ⟨_, (pss_cons (ps_par (i := 3) (j := 4) (by rfl) sc_number_by.nd rfl rfl (by decide) rfl rfl (pa_cons (pe_callH h_long_by hr (by decide) (by rfl) (pa_cons (pv 0) (pa_cons (pe_ix ix_tup (pv 1) pe_int (fun _ _ => rfl)) pa_nil))) (pa_cons (pe_callH h_many_of hr (by decide) (by rfl) (pa_cons (pv 1) pa_nil)) pa_nil)) (by rfl))
    (pss_cons (ps_set (i := 5) sc_number_by.nd rfl (by first | exact Or.inl rfl | exact Or.inr rfl) (pe_op op_sub (pv 4) pe_int))
    (pss_cons (ps_if (pt_val (pe_callH h_less hr (by decide) (by rfl) (pa_cons (pv 2) (pa_cons (pv 3) pa_nil)))) (pss_one (ps_set (i := 5) sc_number_by.nd rfl (by first | exact Or.inl rfl | exact Or.inr rfl) (pe_op op_fdivW (pe_op op_mulW (pe_op op_mulW (pe_ix ix_tup (pv 2) pe_int (fun _ _ => rfl)) (pe_ix ix_tup (pv 3) pe_int (fun _ _ => rfl))) (pv 4)) (pe_op op_mulW (pe_ix ix_tup (pv 2) pe_int (fun _ _ => rfl)) (pe_ix ix_tup (pv 3) pe_int (fun _ _ => rfl)))))) pss_nil)
    (pss_one (ps_ret (pe_op op_add (pe_ix ix_tup (pv 1) pe_int (fun _ _ => rfl)) (pe_op op_mulW (pe_ix ix_tup (pv 1) pe_int (fun _ _ => rfl)) (pv 5)))))))), fun ds d z _ => .inl ?_⟩
  obtain ⟨W, r, q, h0, g, h1, h2, rfl, rfl⟩ := z
  obtain ⟨s1, s2⟩ := g.step
  obtain ⟨m1, m2⟩ := many_bd g
  have g1 := g.road
  have x0 := sm_longAt h0 g.road
  have x1 : Sm 2000 (longAt W r.road) := x0.mono (by decide)
  unfold numBy
  generalize hL : longAt W r.road = L at x0 x1 ⊢
  have pl : prLong [encW W, .int (r.road : Nat)] (encR L) := by
    rw [← hL]
    exact pr_longAt h0 g1
  have e10 : (2 : Nat) ^ 10 = 1024 := rfl
  have bm : (manyOf r).natAbs < 2 ^ 10 := by omega
  have bs : r.step.natAbs < 2 ^ 10 := by omega
  have bL : ((L.den : Int)).natAbs < 2 ^ 500 := by rw [den_abs]; exact x0.2
  have bq : ((q.den : Int)).natAbs < 2 ^ 2000 := by rw [den_abs]; exact h1.2
  have b1 : (q.num * L.den).natAbs < 2 ^ 2500 := natAbs_mul_lt h1.1 bL
  have b2 : (q.num * L.den * manyOf r).natAbs < 2 ^ 2510 := natAbs_mul_lt b1 bm
  have b3 : ((q.den : Int) * L.num).natAbs < 2 ^ 2500 := natAbs_mul_lt bq x0.1
  have c1 : CMulW q.num L.den := wide_mul h1.1 bL (by decide) (by decide) (by decide)
  have c2 : CMulW (q.num * L.den) (manyOf r) := wide_mul b1 bm (by decide) (by decide) (by decide)
  have c3 : CMulW q.den L.num := wide_mul bq x0.1 (by decide) (by decide) (by decide)
  refine dr_seq (ds_par (d := encR L) (e := .int (manyOf r)) ?_ ?_) (dr_seq (ds_asg (d := .int (manyOf r - 1)) ?_) ?_)
  · walk_at "dv"
  · walk_at "dv"
  · walk_at "dv"
  · by_cases hlt : q < L
    · rw [if_pos hlt]
      have hpos : 0 < L.num := by
        have z := (Rat.lt_iff q L).mp hlt
        have hd := den_pos q
        have hd2 := den_pos L
        have z1 : 0 ≤ q.num * L.den := Int.mul_nonneg h2 (by omega)
        have z2 : 0 < L.num * q.den := by omega
        exact Int.pos_of_mul_pos_left z2 (by omega)
      have c4 : CDivW (q.num * L.den * manyOf r) (q.den * L.num) := wide_div (b := 2500) (Int.mul_pos (den_pos q) hpos) b3 (by decide) (by decide)
      have b5 : (q.num * L.den * manyOf r / (q.den * L.num)).natAbs < 2 ^ 2510 := Nat.lt_of_le_of_lt (Int.natAbs_ediv_le_natAbs _ _) b2
      have c5 : CMulW r.step (q.num * L.den * manyOf r / (q.den * L.num)) := wide_mul bs b5 (by decide) (by decide) (by decide)
      refine dr_seq (ds_ifT (dt_is (b := decide (q < L)) ?_ (decide_eq_true hlt)) (ds_asg (d := .int (q.num * L.den * manyOf r / (q.den * L.num))) ?_)) ?_
      · walk_at "dt"
      · walk_at "dv"
      · walk_at "dr"
    · rw [if_neg hlt]
      have c5 : CMulW r.step (manyOf r - 1) := wide_mul (a := 10) (b := 10) bs (by omega) (by decide) (by decide) (by decide)
      refine dr_seq (ds_ifB (b := decide (q < L)) ?_ (decide_eq_false hlt)) ?_
      · walk_at "dt"
      · walk_at "dr"
theorem sc_numbers_by : FnScope ["web", "rows", "spot", "day", "mine", "row"] ["web", "rows", "spot", "day"] (defScope (top 61)) := ⟨rfl, rfl, rfl, by decide +kernel, rfl, by decide +kernel, by decide +kernel⟩
def prNumbersBy : List PyData → PyData → Prop := fun ds d => ∃ (W : Web) (rows : List Row) (k : Nat) (q : Rat) (day : Int), GoodWeb W ∧ GoodRows W rows ∧ Sm 2000 q ∧ 0 ≤ q.num ∧ ds = [encW W, encRows rows, encSpot k q, .int day] ∧ d = toldD W rows k q day
theorem pr_numbersby {W : Web} {rows : List Row} {k : Nat} {q : Rat} {day : Int} (h : GoodWeb W) (h2 : GoodRows W rows) (h3 : Sm 2000 q) (h4 : 0 ≤ q.num) : prNumbersBy [encW W, encRows rows, encSpot k q, .int day] (toldD W rows k q day) := ⟨W, rows, k, q, day, h, h2, h3, h4, rfl, rfl⟩
local macro_rules | `(tactic| walk_at "pr") => `(tactic| first | exact pr_ofday | exact pr_numberby (by assumption) (by assumption) (by assumption) (by assumption) | assumption)
theorem has_numbersby (T : Tx K mg) (F : Def K mg "numbers_by" (top 61) []) (h_is_of_day : Has P w K mg base "is_of_day" ["row", "day"] 1 (spD K 2 prOfDay)) (h_number_by : Has P w K mg base "number_by" ["web", "row", "far"] 7 (spD K 3 prNumberBy)) : Has P w K mg base "numbers_by" ["web", "rows", "spot", "day"] 8 (spD K 4 prNumbersBy) := by
  refine has_data F sc_numbers_by (fun _ _ _ _ _ _ us hl => match us, hl with | [_, _, _, _], _ => rfl) fun f cdv A outer s H E hr => ⟨_, (pss_cons (ps_setLc (i := 4) (own := [("row", 5)]) (g := (gName 5)) (tt := (tAnd (tTest (tOp (rEqD K) (tOp (rIxT K) (tVar 5) (tC (V.int 1))) (tOp (rIxT K) (tVar 2) (tC (V.int 0))))) (tB (tCall (spD K 2 prOfDay) [] E0 (tCons (tVar 5) (tCons (tVar 3) tNil)))))) (te := (tVar 5)) rfl sc_numbers_by.nd rfl rfl (sw_true rfl rfl rfl (by decide +kernel)) (pi_tup (pv 1)) (blkOk_by (own := [("row", 5)]) (N := ["web", "rows", "spot", "day", "mine", "row"]) (sc := defScope (top 61)) (by decide +kernel)) (fun _ _ _ _ _ => (pg_name (i := 5) sc_numbers_by.nd rfl (by first | exact Or.inl rfl | exact Or.inr rfl))) (fun _ _ _ _ _ => (pts_one (PW.pt (pw_and (pt_cmpR (op_eqD hr.units) (pe_ix ix_tup (pv 5) pe_int (fun _ _ => rfl)) (pe_ix ix_tup (pv 2) pe_int (fun _ _ => rfl)) (nomark _)) (pw_and1 (pt_val (pe_callH h_is_of_day hr (by decide) (by rfl) (pa_cons (pv 5) (pa_cons (pv 3) pa_nil))))))))) (fun _ _ _ _ _ => (pv 5)))
    (pss_one (ps_ret (pe_callB (cr_sortedD hr) (by rfl) T.f_sorted (by decide +kernel) (pa_cons (pe_lc (own := [("row", 5)]) (g := (gName 5)) (tt := tYes) (te := (tTup (tCons (tOp (rIxT K) (tVar 5) (tC (V.int 0))) (tCons (tCall (spD K 3 prNumberBy) [] E0 (tCons (tVar 0) (tCons (tVar 5) (tCons (tOp (rIxT K) (tVar 2) (tC (V.int 1))) tNil)))) tNil)))) rfl sc_numbers_by.nd (pi_list (pv 4)) (blkOk_by (own := [("row", 5)]) (N := ["web", "rows", "spot", "day", "mine", "row"]) (sc := defScope (top 61)) (by decide +kernel)) (fun _ _ _ _ _ => (pg_name (i := 5) sc_numbers_by.nd rfl (by first | exact Or.inl rfl | exact Or.inr rfl))) (fun _ _ _ _ _ => pts_nil) (fun _ _ _ _ _ => (pe_tup (pa_cons (pe_ix ix_tup (pv 5) pe_int (fun _ _ => rfl)) (pa_cons (pe_callH h_number_by hr (by decide) (by rfl) (pa_cons (pv 0) (pa_cons (pv 5) (pa_cons (pe_ix ix_tup (pv 2) pe_int (fun _ _ => rfl)) pa_nil)))) pa_nil))))) pa_nil))))), fun ds d z _ => .inl ?_⟩
  obtain ⟨W, rows, k, q, day, h0, g, h1, h2, rfl, rfl⟩ := z
  have a1 := g.few
  refine dr_seq (ds_asg (d := .list ((rows.filter (mineB k day)).map encRow)) (dv_lcM (enc := encRow) (mineB k day) encRow rows (dw_tup (dv_var rfl)) (gw_name (by decide)) (by omega) fun r hr => ⟨_, dg_name, ?_, fun _ => dv_var rfl⟩)) (dr_ret (dv_cb (da_cons (dv_lcE (enc := encRow) (nbD W q) (rows.filter (mineB k day)) (dw_list (dv_var rfl)) (gw_name (by decide)) ?_ fun r hr => ⟨_, dg_name, ?_⟩) da_nil) (dc_sorted ?_ ?_ ?_ ?_)))
  · have e : mineB k day r = (PyData.eqv (.int (r.road : Nat)) (.int (k : Nat)) && ofDay r day) := by
      rw [eqv_int]
      unfold mineB
      congr 1
      rw [Bool.eq_iff_iff, decide_eq_true_iff, decide_eq_true_iff]
      omega
    rw [e]
    refine dt_and ?_ fun _ => ?_
    · walk_at "dt"
    · walk_at "dt"
  · have := List.length_filter_le (mineB k day) rows
    omega
  · have gr := g.good r ((List.mem_filter.mp hr).1)
    unfold nbD
    walk_at "dv"
  · intro x hx y hy
    obtain ⟨r, _, rfl⟩ := List.mem_map.mp hx
    obtain ⟨r', _, rfl⟩ := List.mem_map.mp hy
    rfl
  · refine .inl fun x hx => ?_
    obtain ⟨r, _, rfl⟩ := List.mem_map.mp hx
    exact ⟨_, _, rfl⟩
  · rw [List.length_map]
    have := List.length_filter_le (mineB k day) rows
    omega
  · intro x hx
    obtain ⟨r, _, rfl⟩ := List.mem_map.mp hx
    show 1 ≤ 32
    decide
theorem sc_need_address : FnScope ["web", "rows", "street", "number", "day"] ["web", "rows", "street", "number", "day"] (defScope (top 62)) := ⟨rfl, rfl, rfl, by decide +kernel, rfl, by decide +kernel, by decide +kernel⟩
def prNAddr : List PyData → PyData → Prop := fun ds d => ∃ (W : Web) (rows : List Row) (x : Str) (n day : Int), GoodWeb W ∧ GoodRows W rows ∧ Word x ∧ 0 ≤ day ∧ ds = [encW W, encRows rows, .str x, .int n, .int day] ∧ d = .none
theorem pr_naddr {W : Web} {rows : List Row} {x : Str} {n day : Int} (h : GoodWeb W) (h2 : GoodRows W rows) (h3 : Word x) (h4 : 0 ≤ day) : prNAddr [encW W, encRows rows, .str x, .int n, .int day] .none := ⟨W, rows, x, n, day, h, h2, h3, h4, rfl, rfl⟩
theorem has_naddr (T : Tx K mg) (F : Def K mg "need_address" (top 62) []) (h_need_rows : Has P w K mg base "need_rows" ["web", "rows"] 8 (spD K 2 prNRows)) (h_is_word : Has P w K mg base "is_word" ["thing"] 1 (spD K 1 prWord)) (h_is_whole : Has P w K mg base "is_whole" ["thing"] 1 (spD K 1 prWhole)) (h_need_day1 : Has1 P w K mg base "need_day" ["thing", "least"] 3 (spD K 2 prNDay) (.int 0)) : Has P w K mg base "need_address" ["web", "rows", "street", "number", "day"] 9 (spD K 5 prNAddr) := by
  refine has_data F sc_need_address (fun _ _ _ _ _ _ us hl => match us, hl with | [_, _, _, _, _], _ => rfl) fun f cdv A outer s H E hr => ⟨_, (pss_cons (ps_expr (pe_callH h_need_rows hr (by decide) (by rfl) (pa_cons (pv 0) (pa_cons (pv 1) pa_nil))))
    (pss_cons (ps_if (pt_not (pt_val (pe_callH h_is_word hr (by decide) (by rfl) (pa_cons (pv 2) pa_nil)))) (pss_one ps_never) pss_nil)
    (pss_cons (ps_if (pt_not (pt_val (pe_callH h_is_whole hr (by decide) (by rfl) (pa_cons (pv 3) pa_nil)))) (pss_one ps_never) pss_nil)
    (pss_one (ps_expr (pe_callH1 h_need_day1 hr (by decide) (by rfl) (pa_cons (pv 4) pa_nil))))))), fun ds d z _ => .inr ?_⟩
  obtain ⟨W, rows, x, n, day, h0, g, hx, hd, rfl, rfl⟩ := z
  exact ⟨rfl, _, ds_seq (ds_drop (dv_call (ds := [encW W, encRows rows]) (da_cons (dv_var rfl) (da_cons (dv_var rfl) da_nil)) (pr_nrows h0 g))) (ds_seq (ds_ifB (b := !true) (dt_not (dt_B (dv_call (ds := [.str x]) (da_cons (dv_var rfl) da_nil) (pr_word hx)))) rfl) (ds_seq (ds_ifB (b := !true) (dt_not (dt_B (dv_call (ds := [.int n]) (da_cons (dv_var rfl) da_nil) pr_whole))) rfl) (ds_drop (dv_call1 (ds := [.int day]) (da_cons (dv_var rfl) da_nil) (pr_nday hd hd)))))⟩
theorem sc_find : FnScope ["web", "rows", "street", "number", "day"] ["web", "rows", "street", "number", "day"] (defScope (top 63)) := ⟨rfl, rfl, rfl, by decide +kernel, rfl, by decide +kernel, by decide +kernel⟩
def prFind : List PyData → PyData → Prop := fun ds d => ∃ (W : Web) (rows : List Row) (x : Str) (n day : Int) (k : Nat) (r : Row), GoodWeb W ∧ GoodRows W rows ∧ Word x ∧ 0 ≤ day ∧ Hit rows x n day k r ∧ ds = [encW W, encRows rows, .str x, .int n, .int day] ∧ d = strD W r n
theorem pr_find {W : Web} {rows : List Row} {x : Str} {n day : Int} {k : Nat} {r : Row} (h : GoodWeb W) (h2 : GoodRows W rows) (h3 : Word x) (h4 : 0 ≤ day) (h5 : Hit rows x n day k r) : prFind [encW W, encRows rows, .str x, .int n, .int day] (strD W r n) := ⟨W, rows, x, n, day, k, r, h, h2, h3, h4, h5, rfl, rfl⟩
theorem has_find (T : Tx K mg) (F : Def K mg "find" (top 63) []) (h_need_address : Has P w K mg base "need_address" ["web", "rows", "street", "number", "day"] 9 (spD K 5 prNAddr)) (h_find_by : Has P w K mg base "find_by" ["web", "rows", "street", "number", "day"] 8 (spD K 5 prFindBy)) : Has P w K mg base "find" ["web", "rows", "street", "number", "day"] 10 (spD K 5 prFind) := by
  refine has_data F sc_find (fun _ _ _ _ _ _ us hl => match us, hl with | [_, _, _, _, _], _ => rfl) fun f cdv A outer s H E hr => ⟨_, (pss_cons (ps_expr (pe_callH h_need_address hr (by decide) (by rfl) (pa_cons (pv 0) (pa_cons (pv 1) (pa_cons (pv 2) (pa_cons (pv 3) (pa_cons (pv 4) pa_nil)))))))
    (pss_one (ps_ret (pe_callH h_find_by hr (by decide) (by rfl) (pa_cons (pv 0) (pa_cons (pv 1) (pa_cons (pv 2) (pa_cons (pv 3) (pa_cons (pv 4) pa_nil))))))))), fun ds d z _ => .inl ?_⟩
  obtain ⟨W, rows, x, n, day, k, r, h0, g, hx, hd, hh, rfl, rfl⟩ := z
  have five : Da K (tCons (tVar 0) (tCons (tVar 1) (tCons (tVar 2) (tCons (tVar 3) (tCons (tVar 4) tNil))))) (startR ["web", "rows", "street", "number", "day"] [encW W, encRows rows, .str x, .int n, .int day]) [encW W, encRows rows, .str x, .int n, .int day] := by walk_at "da"
  exact dr_seq (ds_drop (dv_call five (pr_naddr h0 g hx hd))) (dr_ret (dv_call five (pr_findby h0 g hx hh)))
theorem sc_numbers_at : FnScope ["web", "rows", "spot", "day"] ["web", "rows", "spot", "day"] (defScope (top 64)) := ⟨rfl, rfl, rfl, by decide +kernel, rfl, by decide +kernel, by decide +kernel⟩
def prNumbersAt : List PyData → PyData → Prop := fun ds d => ∃ (W : Web) (rows : List Row) (k : Nat) (r : Road) (q : Rat) (day : Int), GoodRows W rows ∧ GoodSpot W k r q ∧ 0 ≤ day ∧ ds = [encW W, encRows rows, encSpot k q, .int day] ∧ d = toldD W rows k q day
theorem pr_numbersat {W : Web} {rows : List Row} {k : Nat} {r : Road} {q : Rat} {day : Int} (h2 : GoodRows W rows) (h3 : GoodSpot W k r q) (h4 : 0 ≤ day) : prNumbersAt [encW W, encRows rows, encSpot k q, .int day] (toldD W rows k q day) := ⟨W, rows, k, r, q, day, h2, h3, h4, rfl, rfl⟩
theorem has_numbersat (T : Tx K mg) (F : Def K mg "numbers_at" (top 64) []) (h_need_rows : Has P w K mg base "need_rows" ["web", "rows"] 8 (spD K 2 prNRows)) (h_need_spot : Has P w K mg base "need_spot" ["web", "thing"] 8 (spD K 2 prNSpot)) (h_need_day1 : Has1 P w K mg base "need_day" ["thing", "least"] 3 (spD K 2 prNDay) (.int 0)) (h_numbers_by : Has P w K mg base "numbers_by" ["web", "rows", "spot", "day"] 8 (spD K 4 prNumbersBy)) : Has P w K mg base "numbers_at" ["web", "rows", "spot", "day"] 9 (spD K 4 prNumbersAt) := by
  refine has_data F sc_numbers_at (fun _ _ _ _ _ _ us hl => match us, hl with | [_, _, _, _], _ => rfl) fun f cdv A outer s H E hr => ⟨_, (pss_cons (ps_expr (pe_callH h_need_rows hr (by decide) (by rfl) (pa_cons (pv 0) (pa_cons (pv 1) pa_nil))))
    (pss_cons (ps_expr (pe_callH h_need_spot hr (by decide) (by rfl) (pa_cons (pv 0) (pa_cons (pv 2) pa_nil))))
    (pss_cons (ps_expr (pe_callH1 h_need_day1 hr (by decide) (by rfl) (pa_cons (pv 3) pa_nil)))
    (pss_one (ps_ret (pe_callH h_numbers_by hr (by decide) (by rfl) (pa_cons (pv 0) (pa_cons (pv 1) (pa_cons (pv 2) (pa_cons (pv 3) pa_nil)))))))))), fun ds d z _ => .inl ?_⟩
  obtain ⟨W, rows, k, r, q, day, g, sp, hd, rfl, rfl⟩ := z
  exact dr_seq (ds_drop (dv_call (ds := [encW W, encRows rows]) (da_cons (dv_var rfl) (da_cons (dv_var rfl) da_nil)) (pr_nrows sp.web g))) (dr_seq (ds_drop (dv_call (ds := [encW W, encSpot k q]) (da_cons (dv_var rfl) (da_cons (dv_var rfl) da_nil)) (pr_nspot sp))) (dr_seq (ds_drop (dv_call1 (ds := [.int day]) (da_cons (dv_var rfl) da_nil) (pr_nday hd hd))) (dr_ret (dv_call (ds := [encW W, encRows rows, encSpot k q, .int day]) (by walk_at "da") (pr_numbersby sp.web g sp.sm sp.pos)))))
theorem sc_later : FnScope ["web", "rows", "street", "number", "day", "later_day", "found", "road", "begin", "end"] ["web", "rows", "street", "number", "day", "later_day"] (defScope (top 65)) := ⟨rfl, rfl, rfl, by decide +kernel, rfl, by decide +kernel, by decide +kernel⟩
theorem sm_div' {p q : Rat} {a b : Nat} (hp : Sm a p) (hq : Sm b q) (h : 0 < q.num) : Sm (a + b) (p / q) := by
  rw [← low_div p q (by omega)]
  refine sm_low (Int.mul_pos (den_pos p) h) (natAbs_mul_lt hp.1 (by rw [den_abs]; exact hq.2)) ?_
  exact natAbs_mul_lt (by rw [den_abs]; exact hp.2) hq.1
def midOf (W : Web) (r : Row) (n : Int) : Rat := ((placeOf r n : Int) * shareOf W r + ((placeOf r n + 1 : Int) : Rat) * shareOf W r) / 2
theorem sm_mid {W : Web} {r : Row} {n : Int} (h : GoodWeb W) (g : GoodRow W r) (h1 : r.first ≤ n) (h2 : n ≤ r.last) : Sm 900 ((placeOf r n : Int) * shareOf W r) ∧ Sm 900 (((placeOf r n + 1 : Int) : Rat) * shareOf W r) ∧ Sm 2000 (midOf W r n) := by
  obtain ⟨p1, p2⟩ := sm_place g h1 h2
  have s := sm_share h g
  have a := sm_mul' p1 s
  have b := sm_mul' p2 s
  refine ⟨a.mono (by decide), b.mono (by decide), ?_⟩
  have c := sm_add' a b
  have d : Sm 2 (2 : Rat) := ⟨by decide, by decide⟩
  exact (sm_div' c d (by decide)).mono (by decide)
def prLater : List PyData → PyData → Prop := fun ds d => ∃ (W : Web) (rows : List Row) (x : Str) (n day upto : Int) (k : Nat) (r : Row), GoodWeb W ∧ GoodRows W rows ∧ Word x ∧ 0 ≤ day ∧ day ≤ upto ∧ Hit rows x n day k r ∧ 0 ≤ (midOf W r n).num ∧ ds = [encW W, encRows rows, .str x, .int n, .int day, .int upto] ∧ d = toldD W rows r.road (midOf W r n) upto
theorem pr_later {W : Web} {rows : List Row} {x : Str} {n day upto : Int} {k : Nat} {r : Row} (h : GoodWeb W) (h2 : GoodRows W rows) (h3 : Word x) (h4 : 0 ≤ day) (h5 : day ≤ upto) (h6 : Hit rows x n day k r) (h7 : 0 ≤ (midOf W r n).num) : prLater [encW W, encRows rows, .str x, .int n, .int day, .int upto] (toldD W rows r.road (midOf W r n) upto) := ⟨W, rows, x, n, day, upto, k, r, h, h2, h3, h4, h5, h6, h7, rfl, rfl⟩
theorem has_later (T : Tx K mg) (F : Def K mg "later" (top 65) []) (h_need_address : Has P w K mg base "need_address" ["web", "rows", "street", "number", "day"] 9 (spD K 5 prNAddr)) (h_need_day : Has P w K mg base "need_day" ["thing", "least"] 3 (spD K 2 prNDay)) (h_find_by : Has P w K mg base "find_by" ["web", "rows", "street", "number", "day"] 8 (spD K 5 prFindBy)) (h_middle : Has P w K mg base "middle" ["one", "other"] 4 (spD K 2 prMiddle)) (h_numbers_by : Has P w K mg base "numbers_by" ["web", "rows", "spot", "day"] 8 (spD K 4 prNumbersBy)) : Has P w K mg base "later" ["web", "rows", "street", "number", "day", "later_day"] 10 (spD K 6 prLater) := by
  refine has_data F sc_later (fun _ _ _ _ _ _ us hl => match us, hl with | [_, _, _, _, _, _], _ => rfl) fun f cdv A outer s H E hr => ⟨_, (pss_cons (ps_expr (pe_callH h_need_address hr (by decide) (by rfl) (pa_cons (pv 0) (pa_cons (pv 1) (pa_cons (pv 2) (pa_cons (pv 3) (pa_cons (pv 4) pa_nil)))))))
    (pss_cons (ps_expr (pe_callH h_need_day hr (by decide) (by rfl) (pa_cons (pv 5) (pa_cons (pv 4) pa_nil))))
    (pss_cons (ps_set (i := 6) sc_later.nd rfl (by first | exact Or.inl rfl | exact Or.inr rfl) (pe_callH h_find_by hr (by decide) (by rfl) (pa_cons (pv 0) (pa_cons (pv 1) (pa_cons (pv 2) (pa_cons (pv 3) (pa_cons (pv 4) pa_nil)))))))
    (pss_cons (ps_if (pt_cmpR op_isN (pv 6) pe_non (nomark _)) (pss_one (ps_ret (pe_lst pa_nil))) pss_nil)
    (pss_cons (ps_asg (pv 6) (pg_tup (by rfl) (pgs_cons (pg_name (i := 7) sc_later.nd rfl (by first | exact Or.inl rfl | exact Or.inr rfl)) (pgs_cons (pg_name (i := 8) sc_later.nd rfl (by first | exact Or.inl rfl | exact Or.inr rfl)) (pgs_cons (pg_name (i := 9) sc_later.nd rfl (by first | exact Or.inl rfl | exact Or.inr rfl)) pgs_nil)))))
    (pss_one (ps_ret (pe_callH h_numbers_by hr (by decide) (by rfl) (pa_cons (pv 0) (pa_cons (pv 1) (pa_cons (pe_tup (pa_cons (pv 7) (pa_cons (pe_callH h_middle hr (by decide) (by rfl) (pa_cons (pv 8) (pa_cons (pv 9) pa_nil))) pa_nil))) (pa_cons (pv 5) pa_nil)))))))))))), fun ds d z _ => .inl ?_⟩
  obtain ⟨W, rows, x, n, day, upto, k, r, h0, g, hx, hd, hu, hh, hp, rfl, rfl⟩ := z
  have five : ∀ a b c d, Da K (tCons (tVar 0) (tCons (tVar 1) (tCons (tVar 2) (tCons (tVar 3) (tCons (tVar 4) tNil))))) [some (.d (encW W)), some (.d (encRows rows)), some (.d (.str x)), some (.d (.int n)), some (.d (.int day)), some (.d (.int upto)), a, b, c, d] [encW W, encRows rows, .str x, .int n, .int day] := fun a b c d => by walk_at "da"
  have hm := List.mem_of_getElem? hh.at_
  obtain ⟨b1, b2⟩ := hasN_bd (hit_has hh.yes)
  obtain ⟨m1, m2, m3⟩ := sm_mid h0 (g.good r hm) b1 b2
  refine dr_seq (ds_drop (dv_call (five _ _ _ _) (pr_naddr h0 g hx hd))) (dr_seq (ds_drop (dv_call (ds := [.int upto, .int day]) (da_cons (dv_var rfl) (da_cons (dv_var rfl) da_nil)) (pr_nday (by omega) hu))) (dr_seq (ds_asg (dv_call (five _ _ _ _) (pr_findby h0 g hx hh))) (dr_unless (dt_test (dv_op (dv_var rfl) dv_non d2_isN)) rfl (dr_seq (ds_asgG (dv_var rfl) (dg_tup (ds := [.int (r.road : Nat), encR ((placeOf r n : Int) * shareOf W r), encR (((placeOf r n + 1 : Int) : Rat) * shareOf W r)]) (dgs_cons (dgs_cons (dgs_cons dgs_nil))))) (dr_ret (dv_call (ds := [encW W, encRows rows, encSpot r.road (midOf W r n), .int upto]) (da_cons (dv_var rfl) (da_cons (dv_var rfl) (da_cons (dv_tup (ds := [.int (r.road : Nat), encR (midOf W r n)]) (da_cons (dv_var rfl) (da_cons (dv_call (ds := [encR ((placeOf r n : Int) * shareOf W r), encR (((placeOf r n + 1 : Int) : Rat) * shareOf W r)]) (da_cons (dv_var rfl) (da_cons (dv_var rfl) da_nil)) (pr_middle m1 m2)) da_nil)) (Nat.le_of_ble_eq_true rfl)) (da_cons (dv_var rfl) da_nil)))) (pr_numbersby h0 g m3 hp)))))))
end
end Ow
/-! ## part OwE -/
set_option Elab.async false
set_option linter.all false
set_option maxRecDepth 100000
set_option maxHeartbeats 4000000
/-! OwE: readings and statements over a store of lists that change. Postconditions are relations. -/
namespace Ow
open PySem PySem.Spec PyProof.Rows L2
open Evl (Ex Ex.refl Ex.trans Ex.new ex_rd ex_l ex_t fresh_back)
abbrev Store := List (Addr × List PyData)
structure Mt (K : PySem.W.Frag) (G H : Hp) (M : Store) : Prop where
  nd : (M.map Prod.fst).Nodup
  at_ : ∀ p ∈ M, G p.1 = none ∧ ∃ vs, H p.1 = some (.lst vs) ∧ DpAll K G vs p.2
section
variable {K : PySem.W.Frag} {G G' G2 H H2 : Hp} {M M1 M2 : Store} {p : Addr} {ds es : List PyData} {vs : List V}
theorem Mt.gr (m : Mt K G H M) (g : Gr G H G2 H2) : Mt K G2 H2 M := ⟨m.nd, fun q hq => by
  obtain ⟨a, vs, b, c⟩ := m.at_ q hq
  exact ⟨g.n _ _ b a, vs, g.h _ _ b, dpa_ex g.g c⟩⟩
theorem Mt.perm (m : Mt K G H M) (h : M.Perm M1) : Mt K G H M1 := ⟨(h.map Prod.fst).nodup_iff.mp m.nd, fun q hq => m.at_ q (h.mem_iff.mpr hq)⟩
theorem Mt.sub (m : Mt K G H M) (h : M1.Sublist M) : Mt K G H M1 := ⟨m.nd.sublist (h.map Prod.fst), fun q hq => m.at_ q (h.subset hq)⟩
theorem Mt.nil : Mt K G H [] := ⟨List.nodup_nil, fun q hq => nomatch hq⟩
/-- a list among them stands still from now on -/
theorem Mt.freeze (m : Mt K G H ((p, ds) :: M)) (e : Ex G H) : ∃ G2, Ex G G2 ∧ Ex G2 H ∧ Mt K G2 H M ∧ Dp K G2 (.ref p) (.list ds) ∧ ∀ c, c ≠ p → G2 c = G c := by
  obtain ⟨a, vs, b, c⟩ := m.at_ _ List.mem_cons_self
  have nd := m.nd
  rw [List.map_cons, List.nodup_cons] at nd
  refine ⟨upd G p (.lst vs), .new a, fun x o h => ?_, ⟨nd.2, fun q hq => ?_⟩, .lst (.inl (.inl upd_same)) (dpa_ex (.new a) c), fun c hc => upd_ne hc⟩
  · by_cases hx : x = p
    · subst hx
      rw [upd_same] at h
      rw [← h]
      exact b
    · rw [upd_ne hx] at h
      exact e x o h
  · obtain ⟨a2, vs2, b2, c2⟩ := m.at_ q (List.mem_cons_of_mem _ hq)
    have hne : q.1 ≠ p := fun z => nd.1 (List.mem_map.mpr ⟨q, hq, z⟩)
    exact ⟨by rw [upd_ne hne]; exact a2, vs2, b2, dpa_ex (.new a) c2⟩
/-- all of them, for a look -/
theorem Mt.look : ∀ {M : Store} {G : Hp}, Mt K G H M → Ex G H → ∃ G2, Ex G G2 ∧ Ex G2 H ∧ ∀ q ∈ M, Dp K G2 (.ref q.1) (.list q.2)
  | [], G, _, e => ⟨G, .refl _, e, fun q hq => nomatch hq⟩
  | (p, ds) :: M, G, m, e => by
    obtain ⟨G2, e1, e2, m2, d, _⟩ := m.freeze e
    obtain ⟨G3, e3, e4, h⟩ := Mt.look m2 e2
    refine ⟨G3, e1.trans e3, e4, fun q hq => ?_⟩
    rcases List.mem_cons.mp hq with z | z
    · rw [z]
      exact dp_ex e3 d
    · exact h q z
theorem Mt.new (m : Mt K G H M) (e : Ex G H) (hp : H p = none) (h : DpAll K G vs ds) : Mt K G (upd H p (.lst vs)) (M ++ [(p, ds)]) ∧ Ex G (upd H p (.lst vs)) := by
  have fresh : ∀ q ∈ M, q.1 ≠ p := fun q hq z => by
    obtain ⟨_, vs, b, _⟩ := m.at_ q hq
    rw [z, hp] at b
    cases b
  refine ⟨⟨?_, fun q hq => ?_⟩, e.trans (.new hp)⟩
  · rw [List.map_append]
    refine List.nodup_append.mpr ⟨m.nd, by simp, fun a ha b hb hab => ?_⟩
    obtain ⟨q, hq, rfl⟩ := List.mem_map.mp ha
    have hb : b = p := by simpa using hb
    exact fresh q hq (hab.trans hb)
  · rcases List.mem_append.mp hq with hq | hq
    · obtain ⟨a, us, b, c⟩ := m.at_ q hq
      exact ⟨a, us, by rw [upd_ne (fresh q hq)]; exact b, c⟩
    · rw [List.mem_singleton.mp hq]
      exact ⟨fresh_back e hp, vs, upd_same, h⟩
theorem Mt.put (m : Mt K G H ((p, ds) :: M)) (e : Ex G H) (h : DpAll K G vs es) : Mt K G (upd H p (.lst vs)) ((p, es) :: M) ∧ Ex G (upd H p (.lst vs)) := by
  obtain ⟨a, _⟩ := m.at_ _ List.mem_cons_self
  have nd := m.nd
  rw [List.map_cons, List.nodup_cons] at nd
  refine ⟨⟨?_, fun q hq => ?_⟩, fun c o g => ?_⟩
  · rw [List.map_cons, List.nodup_cons]
    exact nd
  · rcases List.mem_cons.mp hq with hq | hq
    · subst hq
      exact ⟨a, vs, upd_same, h⟩
    · obtain ⟨a2, us, b, c⟩ := m.at_ q (List.mem_cons_of_mem _ hq)
      have hne : q.1 ≠ p := fun z => nd.1 (List.mem_map.mpr ⟨q, hq, z⟩)
      exact ⟨a2, us, by rw [upd_ne hne]; exact b, c⟩
  · rw [upd_ne (ne_of_none g a)]
    exact e c o g
theorem Mt.upd_fresh {o : HO} (m : Mt K G H M) (hp : H p = none) : Mt K G (upd H p o) M := ⟨m.nd, fun q hq => by
  obtain ⟨a, us, b, c⟩ := m.at_ q hq
  have hne : q.1 ≠ p := fun z => by
    rw [z, hp] at b
    cases b
  exact ⟨a, us, by rw [upd_ne hne]; exact b, c⟩⟩
end
section
variable (K : PySem.W.Frag)
def Ev (te : TE) (ρ : Rho) (M : Store) (R : PyData → Store → Prop) : Prop := ∀ (G : Hp) (σ : L2.St) (H : Hp), Ex G H → Sls K G σ ρ → Mt K G H M → ∀ Q : VK, (∀ d M2 v G2 H2, R d M2 → Ex G G2 → Ex G2 H2 → Mt K G2 H2 M2 → Dp K G2 v d → Q v H2) → te σ H Q
def Ea (ta : TA) (ρ : Rho) (M : Store) (R : List PyData → Store → Prop) : Prop := ∀ (G : Hp) (σ : L2.St) (H : Hp), Ex G H → Sls K G σ ρ → Mt K G H M → ∀ Q : List V → Hp → Prop, (∀ ds M2 vs G2 H2, R ds M2 → Ex G G2 → Ex G2 H2 → Mt K G2 H2 M2 → DpAll K G2 vs ds → Q vs H2) → ta σ H Q
def Et (tt : TT) (ρ : Rho) (M : Store) (R : Bool → Store → Prop) : Prop := ∀ (G : Hp) (σ : L2.St) (H : Hp), Ex G H → Sls K G σ ρ → Mt K G H M → ∀ Q : Bool → Hp → Prop, (∀ b M2 G2 H2, R b M2 → Ex G G2 → Ex G2 H2 → Mt K G2 H2 M2 → Q b H2) → tt σ H Q
def Es (ts : TS) (ρ : Rho) (M : Store) (R : Rho → Store → Prop) : Prop := ∀ (D : Ends) (G : Hp) (σ : L2.St) (H : Hp), Ex G H → Sls K G σ ρ → Mt K G H M → (∀ ρ' M2 σ' G2 H2, R ρ' M2 → Ex G G2 → Ex G2 H2 → Mt K G2 H2 M2 → Sls K G2 σ' ρ' → D.nx σ' H2) → ts D σ H
def Er (ts : TS) (ρ : Rho) (M : Store) (R : PyData → Store → Prop) : Prop := ∀ (D : Ends) (G : Hp) (σ : L2.St) (H : Hp), Ex G H → Sls K G σ ρ → Mt K G H M → (∀ d M2 v G2 H2, R d M2 → Ex G G2 → Ex G2 H2 → Mt K G2 H2 M2 → Dp K G2 v d → D.rt v H2) → ts D σ H
end
section
variable {K : PySem.W.Frag} {ρ ρ1 ρ2 : Rho} {M M1 : Store} {te ta tb : TE} {t : TA} {tt tu : TT} {ts tv : TS} {d e f : PyData} {ds es : List PyData} {R : PyData → Store → Prop} {Ra : List PyData → Store → Prop} {Rt : Bool → Store → Prop} {Rs : Rho → Store → Prop} {r : R2} {g : TG}
theorem ev_pure (h : Dv K te ρ d) (q : R d M) : Ev K te ρ M R := fun G σ H x E m Q k => h G σ H x E _ fun v G2 H2 a D => k d M v G2 H2 q a.g a.i (m.gr a) D
theorem ea_pure (h : Da K t ρ ds) (q : Ra ds M) : Ea K t ρ M Ra := fun G σ H x E m Q k => h G σ H x E _ fun v G2 H2 a D => k ds M v G2 H2 q a.g a.i (m.gr a) D
theorem et_pure {b : Bool} (h : Dt K tt ρ b) (q : Rt b M) : Et K tt ρ M Rt := fun G σ H x E m Q k => h G σ H x E _ fun G2 H2 a => k b M G2 H2 q a.g a.i (m.gr a)
theorem es_pure (h : Ds K ts ρ ρ1) (q : Rs ρ1 M) : Es K ts ρ M Rs := fun D G σ H x E m k => h D G σ H x E fun σ' G2 H2 a E2 => k ρ1 M σ' G2 H2 q a.g a.i (m.gr a) E2
theorem er_pure (h : Dr K ts ρ d) (q : R d M) : Er K ts ρ M R := fun D G σ H x E m k => h D G σ H x E fun v G2 H2 a D2 => k d M v G2 H2 q a.g a.i (m.gr a) D2
theorem ev_mono {R' : PyData → Store → Prop} (h : Ev K te ρ M R') (w : ∀ d M1, R' d M1 → R d M1) : Ev K te ρ M R := fun G σ H x E m Q k => h G σ H x E m Q fun d M2 v G2 H2 q => k d M2 v G2 H2 (w d M2 q)
theorem es_mono {R' : Rho → Store → Prop} (h : Es K ts ρ M R') (w : ∀ d M1, R' d M1 → Rs d M1) : Es K ts ρ M Rs := fun D G σ H x E m k => h D G σ H x E m fun d M2 v G2 H2 q => k d M2 v G2 H2 (w d M2 q)
theorem ev_op (ha : Ev K ta ρ M fun d M1 => Ev K tb ρ M1 fun e M2 => ∃ f, D2 K r d e f ∧ R f M2) : Ev K (tOp r ta tb) ρ M R := fun G σ H x E m Q k =>
  ha G σ H x E m _ fun d M1 v G1 H1 hb e1 i1 m1 D1 => hb G1 σ H1 i1 (E.ex e1) m1 _ fun e M2 w G2 H2 ⟨f, hf, q⟩ e2 i2 m2 D2 => hf G2 H2 v w i2 (dp_ex e2 D1) D2 _ fun z G3 H3 a D3 =>
    k f M2 z G3 H3 q ((e1.trans e2).trans a.g) a.i (m2.gr a) D3
theorem ea_nil (q : Ra [] M) : Ea K tNil ρ M Ra := fun G σ H x E m Q k => k [] M [] G H q (.refl _) x m .nil
theorem ea_cons {tr : TA} (ha : Ev K ta ρ M fun d M1 => Ea K tr ρ M1 fun ds M2 => Ra (d :: ds) M2) : Ea K (tCons ta tr) ρ M Ra := fun G σ H x E m Q k =>
  ha G σ H x E m _ fun d M1 v G1 H1 hb e1 i1 m1 D1 => hb G1 σ H1 i1 (E.ex e1) m1 _ fun ds M2 vs G2 H2 q e2 i2 m2 D2 => k (d :: ds) M2 (v :: vs) G2 H2 q (e1.trans e2) i2 m2 (.cons (dp_ex e2 D1) D2)
theorem ev_tup (ha : Ea K t ρ M fun ds M1 => ds.length ≤ 100000 ∧ R (.tuple ds) M1) : Ev K (tTup t) ρ M R := fun G σ H x E m Q k =>
  ha G σ H x E m _ fun ds M1 vs G1 H1 ⟨hl, q⟩ e1 i1 m1 D1 => ⟨small_sz (by rw [DpAll.len D1]; exact hl), fun p hp => by
    have n := new_up (o := .tup vs) i1 hp
    exact k _ M1 _ _ _ q (e1.trans n.g) n.i (m1.gr n) (.tup (.inl (.inl upd_same)) (dpa_ex n.g D1))⟩
theorem ev_lst (ha : Ea K t ρ M fun ds M1 => ds.length ≤ 100000 ∧ R (.list ds) M1) : Ev K (tLst t) ρ M R := fun G σ H x E m Q k =>
  ha G σ H x E m _ fun ds M1 vs G1 H1 ⟨hl, q⟩ e1 i1 m1 D1 => ⟨small_sz (by rw [DpAll.len D1]; exact hl), fun p hp => by
    have n := new_up (o := .lst vs) i1 hp
    exact k _ M1 _ _ _ q (e1.trans n.g) n.i (m1.gr n) (.lst (.inl (.inl upd_same)) (dpa_ex n.g D1))⟩
theorem ev_cb {rr : List V → Hp → VK → Prop} (ha : Ea K t ρ M fun ds M1 => ∃ f, Dc K rr ds f ∧ R f M1) : Ev K (tCB rr t) ρ M R := fun G σ H x E m Q k =>
  ha G σ H x E m _ fun ds M1 vs G1 H1 ⟨f, hf, q⟩ e1 i1 m1 D1 => hf G1 H1 vs i1 D1 _ fun z G2 H2 a D2 => k f M1 z G2 H2 q (e1.trans a.g) a.i (m1.gr a) D2
theorem ev_call {n : Nat} {Pr : List PyData → PyData → Prop} {E0 : XK} (ha : Ea K t ρ M fun ds M1 => ds.length = n ∧ ∃ d, Pr ds d ∧ R d M1) : Ev K (tCall (spD K n Pr) [] E0 t) ρ M R := fun G σ H x E m Q k =>
  ha G σ H x E m _ fun ds M1 vs G1 H1 ⟨hn, d, hp, q⟩ e1 i1 m1 D1 => by
    show spD K n Pr (vs ++ []) H1 Q E0
    rw [List.append_nil]
    exact ⟨by rw [DpAll.len D1]; exact hn, G1, ds, d, i1, D1, hp, fun z G2 H2 a D2 => k d M1 z G2 H2 q (e1.trans a.g) a.i (m1.gr a) D2⟩
/-! ### calls that change the first list of the store -/
def spS (K : PySem.W.Frag) (n : Nat) (Pre : List PyData → List PyData → Prop) (Post : List PyData → List PyData → PyData → List PyData → Prop) : Sp := fun vs H Q _ => vs.length = n ∧ ∃ G p us st ds M, vs = .ref p :: us ∧ Ex G H ∧ Mt K G H ((p, st) :: M) ∧ DpAll K G us ds ∧ Pre st ds ∧
  ∀ d st' v G2 H2, Post st ds d st' → Ex G G2 → Ex G2 H2 → Mt K G2 H2 ((p, st') :: M) → Dp K G2 v d → Q v H2
theorem ev_st {n i : Nat} {p : Addr} {st : List PyData} {Pre : List PyData → List PyData → Prop} {Post : List PyData → List PyData → PyData → List PyData → Prop} {E0 : XK} (hi : ρ[i]? = some (some (.a p)))
    (ha : Ea K t ρ ((p, st) :: M) fun ds M1 => ds.length + 1 = n ∧ ∃ st1 M2, M1 = (p, st1) :: M2 ∧ Pre st1 ds ∧ ∀ d st', Post st1 ds d st' → R d ((p, st') :: M2)) : Ev K (tCall (spS K n Pre Post) [] E0 (tCons (tVar i) t)) ρ ((p, st) :: M) R := fun G σ H x E m Q k => by
  refine ⟨.ref p, E.adr hi, ?_⟩
  refine ha G σ H x E m _ fun ds M1 vs G1 H1 ⟨hn, st1, M2, he, hp, q⟩ e1 i1 m1 D1 => ?_
  subst he
  show spS K n Pre Post ((V.ref p :: vs) ++ []) H1 Q E0
  rw [List.append_nil]
  exact ⟨by rw [List.length_cons, DpAll.len D1]; exact hn, G1, p, vs, st1, ds, M2, rfl, i1, m1, D1, hp, fun d st' v G2 H2 po e2 i2 m2 D2 => k d _ v G2 H2 (q d st' po) (e1.trans e2) i2 m2 D2⟩
/-! ### a look into the store -/
inductive Flat : PyData → Prop where
  | non : Flat .none
  | bl (b : Bool) : Flat (.bool b)
  | int (i : Int) : Flat (.int i)
  | str (x : Str) : Flat (.str x)
theorem Flat.any {G G' : Hp} {v : V} (h : Flat d) (D : Dp K G v d) : Dp K G' v d := by
  cases h <;> cases D
  · exact .non
  · exact .bl _
  · exact .int _
  · exact .str _
abbrev seen (L : List (Nat × List PyData)) (ρ : Rho) : Rho := L.foldr (fun t r => r.set t.1 (some (.d (.list t.2)))) ρ
theorem sls_seen {G H : Hp} {σ : L2.St} (E : Sls K G σ ρ) (x : Ex G H) (m : Mt K G H M) (L : List (Nat × List PyData)) (hL : ∀ t ∈ L, ∃ p, ρ[t.1]? = some (some (.a p)) ∧ (p, t.2) ∈ M) : ∃ G2, Ex G G2 ∧ Ex G2 H ∧ Sls K G2 σ (seen L ρ) := by
  obtain ⟨G2, e1, e2, hd⟩ := m.look x
  refine ⟨G2, e1, e2, ?_⟩
  have E2 := E.ex e1
  have key : ∀ L : List (Nat × List PyData), (∀ t ∈ L, ∃ p, ρ[t.1]? = some (some (.a p)) ∧ (p, t.2) ∈ M) → Sls K G2 σ (seen L ρ) := by
    intro L
    induction L with
    | nil => intro _; exact E2
    | cons t L ih =>
      intro h
      have ih := ih fun u hu => h u (List.mem_cons_of_mem _ hu)
      obtain ⟨p, h1, h2⟩ := h t List.mem_cons_self
      have hv := E2.adr h1
      have z := Sls.set (i := t.1) ih (hd _ h2)
      have e : σ.set t.1 (some (V.ref p)) = σ := by
        have hlt := (List.getElem?_eq_some_iff.mp hv)
        obtain ⟨hl, he⟩ := hlt
        rw [← he, List.set_getElem_self]
      rw [e] at z
      exact z
  exact key L hL
theorem ev_flat (L : List (Nat × List PyData)) (hL : ∀ t ∈ L, ∃ p, ρ[t.1]? = some (some (.a p)) ∧ (p, t.2) ∈ M) (h : Dv K te (seen L ρ) d) (f : Flat d) (q : R d M) : Ev K te ρ M R := fun G σ H x E m Q k => by
  obtain ⟨G2, e1, e2, E2⟩ := sls_seen E x m L hL
  refine h G2 σ H e2 E2 _ fun v G3 H3 a D => ?_
  have g : Gr G H G H3 := ⟨.refl _, x.trans a.h, a.h, fun c o h1 h2 => h2⟩
  exact k d M v G H3 q (.refl _) g.i (m.gr g) (f.any D)
theorem et_flat {b : Bool} (L : List (Nat × List PyData)) (hL : ∀ t ∈ L, ∃ p, ρ[t.1]? = some (some (.a p)) ∧ (p, t.2) ∈ M) (h : Dt K tt (seen L ρ) b) (q : Rt b M) : Et K tt ρ M Rt := fun G σ H x E m Q k => by
  obtain ⟨G2, e1, e2, E2⟩ := sls_seen E x m L hL
  refine h G2 σ H e2 E2 _ fun G3 H3 a => ?_
  have g : Gr G H G H3 := ⟨.refl _, x.trans a.h, a.h, fun c o h1 h2 => h2⟩
  exact k b M G H3 q (.refl _) g.i (m.gr g)
/-- an item of a list of the store -/
theorem ev_ixM {i : Nat} {p : Addr} {ti : TE} {j : Nat} (hi : ρ[i]? = some (some (.a p))) (hm : (p, ds) ∈ M) (hj : ds[j]? = some d) (h : Dv K ti ρ (.int (j : Nat))) (q : R d M) : Ev K (tOp (rIxL K) (tVar i) ti) ρ M R := fun G σ H x E m Q k => by
  refine ⟨.ref p, E.adr hi, ?_⟩
  refine h G σ H x E _ fun v G1 H1 a D => ?_
  cases D
  obtain ⟨n1, vs, h1, h2⟩ := (m.gr a).at_ _ hm
  obtain ⟨v, h3, h4⟩ := DpAll.at h2 hj
  exact ⟨p, vs, _, v, rfl, rfl, .inl (.inl h1), atI_nat h3, k d M v G1 H1 q a.g a.i (m.gr a) h4⟩
/-- l + [..], l a list of the store: a new list -/
theorem ev_cat {i : Nat} {p : Addr} (hi : ρ[i]? = some (some (.a p))) (ha : Ea K t ρ M fun es M1 => ∃ ds, (p, ds) ∈ M1 ∧ ds.length + es.length ≤ 100000 ∧ es.length ≤ 100000 ∧ R (.list (ds ++ es)) M1) : Ev K (tOp rCat (tVar i) (tLst t)) ρ M R := fun G σ H x E m Q k => by
  refine ⟨.ref p, E.adr hi, ?_⟩
  refine ha G σ H x E m _ fun es M1 ws G1 H1 ⟨ds, hm, hl, hl2, q⟩ e1 i1 m1 D1 => ⟨small_sz (by rw [DpAll.len D1]; exact hl2), fun b hb => ?_⟩
  have n := new_up (o := .lst ws) i1 hb
  have m2 := m1.gr n
  obtain ⟨a1, vs, b1, c1⟩ := m2.at_ _ hm
  refine ⟨p, b, vs, ws, rfl, rfl, b1, upd_same, small_sz (by rw [DpAll.len D1, DpAll.len c1]; exact hl), fun l hl => ?_⟩
  have n2 := new_up (o := .lst (vs ++ ws)) n.i hl
  exact k _ M1 _ _ _ q ((e1.trans n.g).trans n2.g) n2.i (m2.gr n2) (.lst (.inl (.inl upd_same)) (DpAll.app (dpa_ex n2.g c1) (dpa_ex (n.g.trans n2.g) D1)))
/-! ### statements -/
theorem es_next (q : Rs ρ M) : Es K tNext ρ M Rs := fun D G σ H x E m k => k ρ M σ G H q (.refl _) x m E
theorem es_seq (h : Es K ts ρ M fun ρ1 M1 => Es K tv ρ1 M1 Rs) : Es K (tSeq ts tv) ρ M Rs := fun D G σ H x E m k =>
  h { D with nx := tv D } G σ H x E m fun ρ1 M1 σ1 G1 H1 hb e1 i1 m1 E1 => hb D G1 σ1 H1 i1 E1 m1 fun ρ2 M2 σ2 G2 H2 q e2 i2 m2 E2 => k ρ2 M2 σ2 G2 H2 q (e1.trans e2) i2 m2 E2
theorem er_seq (h : Es K ts ρ M fun ρ1 M1 => Er K tv ρ1 M1 R) : Er K (tSeq ts tv) ρ M R := fun D G σ H x E m k =>
  h { D with nx := tv D } G σ H x E m fun ρ1 M1 σ1 G1 H1 hb e1 i1 m1 E1 => hb D G1 σ1 H1 i1 E1 m1 fun d M2 v G2 H2 q e2 i2 m2 D2 => k d M2 v G2 H2 q (e1.trans e2) i2 m2 D2
theorem er_ret (h : Ev K te ρ M R) : Er K (tRet te) ρ M R := fun D G σ H x E m k => h G σ H x E m _ k
theorem es_if (h : Et K tt ρ M fun b M1 => (b = true → Es K ts ρ M1 Rs) ∧ (b = false → Es K tv ρ M1 Rs)) : Es K (tIfS tt ts tv) ρ M Rs := fun D G σ H x E m k =>
  h G σ H x E m _ fun b M1 G1 H1 ⟨h1, h2⟩ e1 i1 m1 => by
    cases b with
    | true =>
      show ts D σ H1
      exact h1 rfl D G1 σ H1 i1 (E.ex e1) m1 fun ρ2 M2 σ2 G2 H2 q e2 => k ρ2 M2 σ2 G2 H2 q (e1.trans e2)
    | false =>
      show tv D σ H1
      exact h2 rfl D G1 σ H1 i1 (E.ex e1) m1 fun ρ2 M2 σ2 G2 H2 q e2 => k ρ2 M2 σ2 G2 H2 q (e1.trans e2)
/-- if ..: .. return ..; the rest -/
theorem er_ifR {u : TS} (h : Et K tt ρ M fun b M1 => (b = true → Er K ts ρ M1 R) ∧ (b = false → Er K u ρ M1 R)) : Er K (tSeq (tIfS tt ts tNext) u) ρ M R := fun D G σ H x E m k =>
  h G σ H x E m _ fun b M1 G1 H1 ⟨h1, h2⟩ e1 i1 m1 => by
    cases b with
    | true =>
      show ts { D with nx := u D } σ H1
      exact h1 rfl { D with nx := u D } G1 σ H1 i1 (E.ex e1) m1 fun ρ2 M2 σ2 G2 H2 q e2 => k ρ2 M2 σ2 G2 H2 q (e1.trans e2)
    | false =>
      show u D σ H1
      exact h2 rfl D G1 σ H1 i1 (E.ex e1) m1 fun ρ2 M2 σ2 G2 H2 q e2 => k ρ2 M2 σ2 G2 H2 q (e1.trans e2)
theorem es_asg {i : Nat} (h : Ev K te ρ M fun d M1 => Rs (ρ.set i (some (.d d))) M1) : Es K (tAsg te (gName i)) ρ M Rs := fun D G σ H x E m k =>
  h G σ H x E m _ fun d M1 v G1 H1 q e1 i1 m1 D1 => k _ M1 _ G1 H1 q e1 i1 m1 ((E.ex e1).set D1)
theorem es_asgG (h : Ev K te ρ M fun d M1 => ∃ ρ1, Dg K g d ρ ρ1 ∧ Rs ρ1 M1) : Es K (tAsg te g) ρ M Rs := fun D G σ H x E m k =>
  h G σ H x E m _ fun d M1 v G1 H1 ⟨ρ1, hg, q⟩ e1 i1 m1 D1 => hg G1 H1 σ v i1 (E.ex e1) D1 _ fun σ2 G2 H2 a E2 => k ρ1 M1 σ2 G2 H2 q (e1.trans a.g) a.i (m1.gr a) E2
theorem es_par {i j : Nat} (h : Ea K (tCons ta (tCons tb tNil)) ρ M fun ds M1 => ∃ d e, ds = [d, e] ∧ Rs ((ρ.set i (some (.d d))).set j (some (.d e))) M1) : Es K (tPar i j (tCons ta (tCons tb tNil))) ρ M Rs := fun D G σ H x E m k =>
  h G σ H x E m _ fun ds M1 vs G1 H1 ⟨d, e, he, q⟩ e1 i1 m1 D1 => by
    subst he
    cases D1 with
    | cons p1 p2 =>
      cases p2 with
      | cons p2 p3 =>
        cases p3
        exact ⟨_, _, rfl, k _ M1 _ G1 H1 q e1 i1 m1 (((E.ex e1).set p1).set p2)⟩
/-- x = [..], a list that is to change -/
theorem es_new {i : Nat} (h : Ea K t ρ M fun ds M1 => ds.length ≤ 100000 ∧ ∀ p, Rs (ρ.set i (some (.a p))) (M1 ++ [(p, ds)])) : Es K (tAsg (tLst t) (gName i)) ρ M Rs := fun D G σ H x E m k =>
  h G σ H x E m _ fun ds M1 vs G1 H1 ⟨hl, q⟩ e1 i1 m1 D1 => ⟨small_sz (by rw [DpAll.len D1]; exact hl), fun p hp => by
    obtain ⟨m2, i2⟩ := m1.new i1 hp D1
    exact k _ _ _ G1 _ (q p) e1 i2 m2 ((E.ex e1).setA)⟩
/-- x, y = [..], [] : both to change -/
theorem es_new2 {i j : Nat} (h : Ea K t ρ M fun ds M1 => ds.length ≤ 100000 ∧ ∀ p q, Rs ((ρ.set i (some (.a p))).set j (some (.a q))) (M1 ++ [(p, ds)] ++ [(q, [])])) : Es K (tPar i j (tCons (tLst t) (tCons (tLst tNil) tNil))) ρ M Rs := fun D G σ H x E m k =>
  h G σ H x E m _ fun ds M1 vs G1 H1 ⟨hl, q⟩ e1 i1 m1 D1 => ⟨small_sz (by rw [DpAll.len D1]; exact hl), fun p hp => by
    obtain ⟨m2, i2⟩ := m1.new i1 hp D1
    refine ⟨Nat.zero_le _, fun p2 hp2 => ?_⟩
    obtain ⟨m3, i3⟩ := m2.new i2 hp2 .nil
    exact ⟨_, _, rfl, k _ _ _ G1 _ (q p p2) e1 i3 m3 ((E.ex e1).setA).setA⟩⟩
/-- x[j] = .. -/
theorem es_set {i : Nat} {j : Nat} {p : Addr} (hi : ρ[i]? = some (some (.a p))) (h : Ev K te ρ M fun d M1 => ∃ ds M2, M1 = (p, ds) :: M2 ∧ j < ds.length ∧ Rs ρ ((p, ds.set j d) :: M2)) : Es K (tAsg te (gSub (tVar i) (tC (.int (j : Nat))) rSetL)) ρ M Rs := fun D G σ H x E m k =>
  h G σ H x E m _ fun d M1 v G1 H1 ⟨ds, M2, he, hj, q⟩ e1 i1 m1 D1 => by
    subst he
    refine ⟨.ref p, (E.ex e1).adr hi, ?_⟩
    obtain ⟨a1, vs, b1, c1⟩ := m1.at_ _ List.mem_cons_self
    have hl : vs.length = ds.length := DpAll.len c1
    refine ⟨p, vs, (j : Nat), j, rfl, rfl, b1, ?_, ?_⟩
    · unfold ixN
      rw [if_pos (by omega), if_pos (by omega)]
      rfl
    · have key : ∀ (j : Nat) {vs : List V} {ds : List PyData}, DpAll K G1 vs ds → DpAll K G1 (vs.set j v) (ds.set j d) := by
        intro j
        induction j with
        | zero =>
          intro vs ds h
          cases h with
          | nil => exact .nil
          | cons h1 h2 => exact .cons D1 h2
        | succ j ih =>
          intro vs ds h
          cases h with
          | nil => exact .nil
          | cons h1 h2 => exact .cons h1 (ih h2)
      obtain ⟨m2, i2⟩ := m1.put i1 (key j c1)
      exact k ρ _ σ G1 _ q e1 i2 m2 (E.ex e1)
/-- x.append(..): x's list at the store's end M2 -/
theorem es_append {i : Nat} {p : Addr} (hi : ρ[i]? = some (some (.a p))) (hm : p ∈ M.map Prod.fst) (h : Ev K te ρ M fun d M1 => ∃ ds M2, M1.Perm ((p, ds) :: M2) ∧ ds.length < 100000 ∧ ∃ M3, ((p, ds ++ [d]) :: M2).Perm M3 ∧ Rs ρ M3) : Es K (tDrop (tBM K "list" rAppend (tVar i) (tCons te tNil))) ρ M Rs := fun D G σ H x E m k => by
  refine ⟨.ref p, E.adr hi, ?_⟩
  obtain ⟨q0, hq0, e0⟩ := List.mem_map.mp hm
  refine ⟨.inl ⟨rfl, ?_⟩, ?_⟩
  · obtain ⟨_, vs, b, _⟩ := m.at_ q0 hq0
    rw [e0] at b
    exact ⟨vs, .inl (.inl b)⟩
  · refine h G σ H x E m _ fun d M1 v G1 H1 ⟨ds, M2, hp, hl, M3, hp3, q⟩ e1 i1 m1 D1 => ?_
    have m1 := m1.perm hp
    obtain ⟨a1, vs, b1, c1⟩ := m1.at_ _ List.mem_cons_self
    obtain ⟨m2, i2⟩ := m1.put i1 (DpAll.app c1 (.cons D1 .nil))
    refine ⟨p, vs, v, rfl, rfl, b1, Nat.lt_of_lt_of_le (by rw [DpAll.len c1]; exact hl) (small_sz (Nat.le_refl _)), ?_⟩
    exact k ρ M3 σ G1 _ q e1 i2 (m2.perm hp3) (E.ex e1)
/-! ### what stands still from now on; what's forgotten -/
theorem es_freeze {i : Nat} {p : Addr} (hi : ρ[i]? = some (some (.a p))) (h : Es K ts (ρ.set i (some (.d (.list ds)))) M Rs) (hp : M1.Perm ((p, ds) :: M)) : Es K ts ρ M1 Rs := fun D G σ H x E m k => by
  obtain ⟨G2, e1, e2, m2, dd, _⟩ := (m.perm hp).freeze x
  have hv := E.adr hi
  have z := Sls.set (i := i) (E.ex e1) dd
  have e : σ.set i (some (V.ref p)) = σ := by
    obtain ⟨hl, he⟩ := List.getElem?_eq_some_iff.mp hv
    rw [← he, List.set_getElem_self]
  rw [e] at z
  exact h D G2 σ H e2 z m2 fun ρ2 M2 σ2 G3 H3 q e3 => k ρ2 M2 σ2 G3 H3 q (e1.trans e3)
theorem er_freeze {i : Nat} {p : Addr} (hi : ρ[i]? = some (some (.a p))) (h : Er K ts (ρ.set i (some (.d (.list ds)))) M R) (hp : M1.Perm ((p, ds) :: M)) : Er K ts ρ M1 R := fun D G σ H x E m k => by
  obtain ⟨G2, e1, e2, m2, dd, _⟩ := (m.perm hp).freeze x
  have hv := E.adr hi
  have z := Sls.set (i := i) (E.ex e1) dd
  have e : σ.set i (some (V.ref p)) = σ := by
    obtain ⟨hl, he⟩ := List.getElem?_eq_some_iff.mp hv
    rw [← he, List.set_getElem_self]
  rw [e] at z
  exact h D G2 σ H e2 z m2 fun ρ2 M2 σ2 G3 H3 q e3 => k ρ2 M2 σ2 G3 H3 q (e1.trans e3)
end
end Ow
/-! ## part OwE2 -/
set_option Elab.async false
set_option linter.all false
set_option maxRecDepth 100000
set_option maxHeartbeats 4000000
/-! OwE2: loops and comprehensions over a store; defs that change a list. -/
namespace Ow
open PySem PySem.Spec PyProof.Rows L2
open Evl (Ex Ex.refl Ex.trans Ex.new ex_rd ex_l ex_t fresh_back)
section
variable {K : PySem.W.Frag} {ρ ρ1 ρ2 : Rho} {M M1 : Store} {te ta tb : TE} {t : TA} {tt tu : TT} {ts tv : TS} {d e f : PyData} {ds es xs : List PyData} {R : PyData → Store → Prop} {Ra : List PyData → Store → Prop} {Rt : Bool → Store → Prop} {Rs : Rho → Store → Prop} {r : R2} {g : TG} {wi : TI}
theorem sls_forget {G : Hp} {σ : L2.St} (h : Sls K G σ ρ) : ∀ vs : List Nat, Sls K G σ (wipR ρ vs)
  | [] => h
  | v :: vs => by
    have h := sls_forget h vs
    show Sls K G σ ((wipR ρ vs).set v none)
    refine ⟨by rw [List.length_set]; exact h.len, fun j c q => ?_⟩
    by_cases e : v = j
    · subst e
      by_cases hl : v < (wipR ρ vs).length
      · rw [List.getElem?_set_self hl] at q
        cases q
      · rw [List.getElem?_eq_none (by rw [List.length_set]; omega)] at q
        cases q
    · rw [List.getElem?_set_ne e] at q
      exact h.fit j c q
theorem es_forget (vs : List Nat) (h : Es K ts ρ M fun ρ1 M1 => Rs (wipR ρ1 vs) M1) : Es K ts ρ M Rs := fun D G σ H x E m k =>
  h D G σ H x E m fun ρ1 M1 σ1 G1 H1 q e1 i1 m1 E1 => k _ M1 σ1 G1 H1 q e1 i1 m1 (sls_forget E1 vs)
theorem es_weak (vs : List Nat) (h : Es K ts (wipR ρ vs) M Rs) : Es K ts ρ M Rs := fun D G σ H x E m k => h D G σ H x (sls_forget E vs) m k
theorem er_weak (vs : List Nat) (h : Er K ts (wipR ρ vs) M R) : Er K ts ρ M R := fun D G σ H x E m k => h D G σ H x (sls_forget E vs) m k
theorem look1 {i : Nat} {p : Addr} (hi : ρ[i]? = some (some (.a p))) (hm : (p, ds) ∈ M) : ∀ t ∈ [(i, ds)], ∃ p, ρ[t.1]? = some (some (.a p)) ∧ (p, t.2) ∈ M := fun t ht => by
  rw [List.mem_singleton.mp ht]
  exact ⟨p, hi, hm⟩
theorem look2 {i j : Nat} {p q : Addr} (hi : ρ[i]? = some (some (.a p))) (hm : (p, ds) ∈ M) (hj : ρ[j]? = some (some (.a q))) (hn : (q, es) ∈ M) : ∀ t ∈ [(i, ds), (j, es)], ∃ p, ρ[t.1]? = some (some (.a p)) ∧ (p, t.2) ∈ M := fun t ht => by
  rcases List.mem_cons.mp ht with h | h
  · rw [h]
    exact ⟨p, hi, hm⟩
  · rw [List.mem_singleton.mp h]
    exact ⟨q, hj, hn⟩
def Ew (K : PySem.W.Frag) (wi : TI) (ρ : Rho) (M : Store) (R : List PyData → Store → Prop) : Prop := ∀ (G : Hp) (σ : L2.St) (H : Hp), Ex G H → Sls K G σ ρ → Mt K G H M → ∀ Rk : It → Hp → Prop, (∀ xs M2 J G1 H1, R xs M2 → Ex G G1 → Ex G1 H1 → Mt K G1 H1 M2 → Walk J xs.length (fun H' => Ex G1 H') (YD K G1 xs) → Rk J H1) → wi σ H Rk
theorem ew_pure (h : Dw K wi ρ xs) (q : Ra xs M) : Ew K wi ρ M Ra := fun G σ H x E m Rk k => h G σ H x E _ fun J G1 H1 a w => k xs M J G1 H1 q a.g a.i (m.gr a) w
theorem ew_rng1 (h : Ea K t ρ M fun ds M1 => ∃ n : Nat, ds = [.int (n : Nat)] ∧ n ≤ 100000 ∧ Ra (intsD 0 1 n) M1) : Ew K (iRng1 t) ρ M Ra := fun G σ H x E m Rk k => h G σ H x E m _ fun ds M1 vs G1 H1 ⟨n, he, hn, q⟩ e1 i1 m1 D1 => by
  subst he
  cases D1 with
  | cons p1 p2 =>
    cases p2
    cases p1
    refine ⟨(n : Nat), rfl, by omega, by omega, k _ M1 _ G1 H1 q e1 i1 m1 ?_⟩
    have w := (walk_range (lo := 0) (n := n)).mono (G' := fun H' => Ex G1 H') (Y' := YD K G1 (intsD 0 1 n)) (fun H' z => trivial) (fun i H' y H'' hi z hy G2 x1 x2 => by
      obtain ⟨rfl, rfl⟩ := hy
      refine ⟨G2, .int (0 + (i : Nat) * 1), .refl x2, intsD_at hi, ?_⟩
      rw [Int.mul_one]
      exact .int _)
    rw [intsD_len]
    exact w
theorem es_for (h : Ew K wi ρ M fun xs M1 => ∃ I : Nat → Rho → Store → Prop, I 0 ρ M1 ∧ (∀ (i : Nat) (x : PyData) (ρ' : Rho) (M' : Store), xs[i]? = some x → I i ρ' M' → ∃ ρ'', Dg K g x ρ' ρ'' ∧ Es K ts ρ'' M' (I (i + 1))) ∧ ∀ ρ' M', I xs.length ρ' M' → Rs ρ' M') : Es K (tFor wi g ts) ρ M Rs := fun D G σ H x E m k => by
  refine h G σ H x E m _ fun xs M1 J G1 H1 ⟨I, i0, hs, hd⟩ e1 i1 m1 w => ?_
  refine for_it w (fun i σ' H' => ∃ G2 ρ' M', I i ρ' M' ∧ Ex G1 G2 ∧ Ex G2 H' ∧ Mt K G2 H' M' ∧ Sls K G2 σ' ρ') ⟨G1, ρ, M1, i0, .refl _, i1, m1, E.ex e1⟩ (fun i σ' H' _ ⟨G2, ρ', M', _, a, b, _⟩ => a.trans b) (fun i y σ' H' H'' hi ⟨G2, ρ', M', hI, a, b, m2, E2⟩ yy => ?_) fun σ' H' ⟨G2, ρ', M', hI, a, b, m2, E2⟩ => k ρ' M' σ' G2 H' (hd ρ' M' hI) (e1.trans a) b m2 E2
  obtain ⟨G3, d, g3, hd', hv⟩ := yy G2 a b
  obtain ⟨ρ'', hg, hb⟩ := hs i d ρ' M' hd' hI
  refine hg G3 H'' σ' y g3.i (E2.ex g3.g) hv _ fun σ2 G4 H4 g4 E4 => ?_
  exact hb _ G4 σ2 H4 g4.i E4 ((m2.gr g3).gr g4) fun ρ3 M3 σ3 G5 H5 hI5 e5 i5 m5 E5 => ⟨G5, ρ3, M3, hI5, ((a.trans g3.g).trans g4.g).trans e5, i5, m5, E5⟩
/-- a comprehension whose items may change the store -/
theorem ev_lcS {vs : List Nat} (I : Nat → List PyData → Store → Prop) (hw : Dw K wi ρ xs) (hg : Gw g vs) (hl : xs.length ≤ 100000) (h0 : I 0 [] M) (hlen : ∀ i acc M', I i acc M' → acc.length = i)
    (hs : ∀ (i : Nat) (x : PyData) (acc : List PyData) (M' : Store), xs[i]? = some x → I i acc M' → ∃ ρ', Dg K g x (wipR ρ vs) ρ' ∧ ∀ Dl : Addr, Ev K te ρ' (M' ++ [(Dl, acc)]) fun d M2 => ∃ M3, M2 = M3 ++ [(Dl, acc)] ∧ I (i + 1) (acc ++ [d]) M3)
    (hd : ∀ acc M', I xs.length acc M' → R (.list acc) M') : Ev K (tLc wi g tYes te vs) ρ M R := fun G σ H z E m Q q => by
  refine hw G σ H z E _ fun J G1 H1 a1 w => fun Dl hD => ?_
  have m1 := m.gr a1
  obtain ⟨mD, iD⟩ := m1.new (vs := []) (ds := []) a1.i hD .nil
  have back : ∀ {M' : Store} {x : Addr × List PyData}, (M' ++ [x]).Perm (x :: M') := fun {M' x} => List.perm_append_singleton x M'
  refine lc_it w (fun i H' => ∃ G2 acc M', I i acc M' ∧ Ex G1 G2 ∧ Ex G2 H' ∧ Mt K G2 H' (M' ++ [(Dl, acc)])) ⟨G1, [], M, h0, .refl _, iD, mD⟩ (fun i H' _ ⟨G2, acc, M', _, a, b, _⟩ => a.trans b) (fun i x H' H'' hi ⟨G2, acc, M', hI, a, b, m2⟩ yy => ?_) fun H' ⟨G2, acc, M', hI, a, b, m2⟩ => ?_
  · obtain ⟨G3, d0, g3, hd0, hv⟩ := yy G2 a b
    obtain ⟨ρ', hdg, hev⟩ := hs i d0 acc M' hd0 hI
    have ww := hg x (wipe σ vs) H''
    rw [wipe_wipe fun _ hu => hu] at ww
    refine ww _ (hdg G3 H'' _ x g3.i (((E.ex a1.g).wip vs).ex (a.trans g3.g)) hv _ fun σ2 G4 H4 g4 E4 => ?_)
    unfold tYes
    simp only [↓reduceIte]
    refine hev Dl G4 σ2 H4 g4.i E4 ((m2.gr g3).gr g4) _ fun d M2 v G5 H5 ⟨M3, he, hI5⟩ e5 i5 m5 D5 => ?_
    subst he
    have m5 := m5.perm back
    obtain ⟨_, av, b5, c5⟩ := m5.at_ _ List.mem_cons_self
    have hla := hlen i acc M' hI
    have hlv : av.length = acc.length := DpAll.len c5
    obtain ⟨m6, i6⟩ := m5.put i5 (DpAll.app c5 (.cons D5 .nil))
    refine ⟨av, b5, Nat.lt_of_lt_of_le (m := 100000) (by omega) (small_sz (Nat.le_refl _)), G5, acc ++ [d], M3, hI5, ((a.trans g3.g).trans g4.g).trans e5, i6, m6.perm back.symm⟩
  · obtain ⟨G3, e3, i3, m3, dd, _⟩ := (m2.perm back).freeze b
    exact q _ M' (.ref Dl) G3 H' (hd acc M' hI) ((a1.g.trans a).trans e3) i3 m3 dd
end
/-! ### defs that change their first list -/
def startS (N : List Str) (p : Addr) (ds : List PyData) : Rho := some (.a p) :: startR N.tail ds
section
variable {P : Program} {w : World} {K : PySem.W.Frag} {mg : Str → Option Value} {base : Heap} {G : Hp}
theorem start_slsS {N : List Str} {p : Addr} {us : List V} {ds : List PyData} (h : DpAll K G us ds) : Sls K G (L2.start N (.ref p :: us)) (startS N p ds) := by
  have z := start_sls (N := N.tail) h
  have e : L2.start N (V.ref p :: us) = some (V.ref p) :: L2.start N.tail us := by
    unfold L2.start
    rw [List.map_cons, List.cons_append, List.length_cons, List.length_tail]
    congr 3
    omega
  rw [e]
  unfold startS
  refine ⟨by rw [List.length_cons, List.length_cons, z.len], fun i c q => ?_⟩
  cases i with
  | zero =>
    have q := Option.some.inj (Option.some.inj q)
    subst q
    exact ⟨some (.ref p), rfl, rfl⟩
  | succ i => exact z.fit i c q
theorem has_state {x : Str} {st : Stmt} {N ps : List Str} {k : Nat} {Pre : List PyData → List PyData → Prop} {Post : List PyData → List PyData → PyData → List PyData → Prop} (T : Def K mg x st []) (S : FnScope N ps (defScope st))
    (hb : ∀ (kV doc pm : Value) (an : Option Addr) (cdv ct : Value) (us : List Value), us.length = ps.length → bindArgs (PySem.W.fnOf x x (defArgs st) (defBody st) (defScope st) .none kV doc pm an cdv ct) ⟨us, []⟩ = pure (ps.zip us))
    (h : ∀ (f : Addr) (cdv : Value) (A : Around) (outer : List PySem.Env) (s : Shared) (H : Hp) (E : XK), Room k (A.deeper (envOfC x (defScope st) s.heap.objs.size f cdv)) →
      ∃ t, PSs (cxOf CX0 P w K mg base N x (defScope st) f cdv A outer s H E).nox (defBody st) t ∧ ∀ p s0 ds M, Pre s0 ds → ds.length + 1 = ps.length → Er K t (startS N p ds) ((p, s0) :: M) fun d M2 => ∃ st', M2 = (p, st') :: M ∧ Post s0 ds d st') : Has P w K mg base x ps (k + 1) (spS K ps.length Pre Post) := by
  obtain ⟨f, fd, F, hm⟩ := T
  refine ⟨f, fd, FunD.ok F S (fun vs H Q E z => z.1) fun cdv A outer s H vs Q E hr z => ?_, hm, F.kp, F.bindsN hb⟩
  obtain ⟨t, h1, h2⟩ := h f cdv A outer s H E hr
  refine ⟨t, PSs.nox h1, ?_⟩
  obtain ⟨hl, G, p, us, s0, ds, M, rfl, e, m, a, pre, q⟩ := z
  refine h2 p s0 ds M pre (by rw [← DpAll.len a, ← List.length_cons (a := V.ref p)]; exact hl) _ G _ H e (start_slsS a) m fun d M2 v G2 H2 ⟨st', he, po⟩ e2 i2 m2 D2 => ?_
  subst he
  exact q d st' v G2 H2 po e2 i2 m2 D2
end
end Ow
/-! ## part Ow16 -/
set_option Elab.async false
set_option linter.all false
set_option maxRecDepth 100000
set_option maxHeartbeats 4000000
namespace Ow
open PySem PySem.Spec PyProof.Rows L2
open Evl (Ex Ex.refl Ex.trans Ex.new ex_rd ex_l ex_t fresh_back)
local macro_rules | `(tactic| walk_at "pr") => `(tactic| assumption)
local macro_rules | `(tactic| walk_at "side") => `(tactic| first | assumption | rfl | decide)
local macro_rules | `(tactic| walk_at "d2") => `(tactic| first
  | exact d2_add | exact d2_sub | exact d2_lt | exact d2_le | exact d2_gt | exact d2_ge
  | exact d2_ixT 0 rfl rfl | exact d2_ixT 1 rfl rfl | exact d2_ixT 2 rfl rfl | exact d2_ixT 3 rfl rfl | exact d2_ixT 4 rfl rfl | exact d2_ixT 5 rfl rfl | exact d2_ixT 6 rfl rfl
  | exact d2_ixL 0 rfl rfl | exact d2_ixL 1 rfl rfl | exact d2_ixL 2 rfl rfl
  | exact d2_mul (by walk_at "side") | exact d2_div (by walk_at "side") | exact d2_mod (by walk_at "side")
  | exact d2_eq (by walk_at "side") (by walk_at "side") | exact d2_ne (by walk_at "side") (by walk_at "side") | walk_at "pr")
local macro_rules | `(tactic| walk_at "dc") => `(tactic| first
  | exact dc_len rfl | exact dc_lenL rfl | exact dc_abs | exact dc_max | exact dc_min | exact dc_all | exact dc_any | exact dc_list | exact dc_tuple | walk_at "pr")
local macro_rules | `(tactic| walk_at "da") => `(tactic| first
  | exact da_nil
  | (refine' da_cons ?k1 ?k2; (case k1 => walk_at "dv"); (case k2 => walk_at "da")))
local macro_rules | `(tactic| walk_at "dv") => `(tactic| first
  | exact dv_var rfl | exact dv_int | exact dv_str | exact dv_bl | exact dv_non
  | (refine' dv_call ?k1 ?k2 ?k3; (case k1 => walk_at "da"); (case k2 => walk_at "pr"); (case k3 => rfl))
  | (refine' dv_isi (b := true) ?k1 ?k2 ?k3; (case k1 => walk_at "dv"); (case k2 => first | exact .int _ | exact .tup _ | exact .str _ | exact .bl _); (case k3 => exact kit_ty (by decide +kernel)))
  | (refine' dv_isi (b := false) ?k1 ?k2 ?k3; (case k1 => walk_at "dv"); (case k2 => first | exact .int _ | exact .tup _ | exact .str _ | exact .bl _); (case k3 => exact kit_ty (by decide +kernel)))
  | (refine' dv_cb ?k1 ?k2; (case k1 => walk_at "da"); (case k2 => walk_at "dc"))
  | (refine' dv_op ?k1 ?k2 ?k3; (case k1 => walk_at "dv"); (case k2 => walk_at "dv"); (case k3 => walk_at "d2"))
  | (refine' dv_tup ?k1 ?k2; (case k1 => walk_at "da"); (case k2 => first | exact Nat.le_of_ble_eq_true rfl | walk_at "side"))
  | (refine' dv_lst ?k1 ?k2; (case k1 => walk_at "da"); (case k2 => first | exact Nat.le_of_ble_eq_true rfl | walk_at "side"))
  | (refine' dv_and ?k1 ?k2; (case k1 => walk_at "dv"); (case k2 => intro _; walk_at "dv"))
  | (refine' dv_notV ?k1; (case k1 => walk_at "dv"))
  | (refine' dv_chain ?k1 ?k2 ?k3 ?k4 ?k5; (case k1 => walk_at "dv"); (case k2 => walk_at "dv"); (case k3 => walk_at "d2"); (case k4 => intro _; walk_at "dv"); (case k5 => intro _; walk_at "d2"))
  | walk_at "pr")
local macro_rules | `(tactic| walk_at "dt") => `(tactic| first
  | (refine' dt_test ?k1; (case k1 => walk_at "dv"))
  | (refine' dt_B ?k1; (case k1 => walk_at "dv"))
  | (refine' dt_not ?k1; (case k1 => walk_at "dt"))
  | (refine' dt_or ?k1 ?k2; (case k1 => walk_at "dt"); (case k2 => intro _; walk_at "dt"))
  | (refine' dt_and ?k1 ?k2; (case k1 => walk_at "dt"); (case k2 => intro _; walk_at "dt"))
  | walk_at "pr")
local macro_rules | `(tactic| walk_at "no") => `(tactic| first | rfl | assumption | (simp [*]; done))
local macro_rules | `(tactic| walk_at "fin") => `(tactic| first | rfl | assumption | (simp [*]; done))
local macro_rules | `(tactic| walk_at "dr") => `(tactic| first
  | (refine' dr_retI ?k1 ?k2; (case k1 => walk_at "dv"); (case k2 => walk_at "fin"))
  | (refine' dr_unless ?k1 ?k2 ?k3; (case k1 => walk_at "dt"); (case k2 => walk_at "no"); (case k3 => walk_at "dr"))
  | (refine' dr_seq (ds_asg ?k1) ?k2; (case k1 => walk_at "dv"); (case k2 => walk_at "dr"))
  | (refine' dr_seq (ds_drop ?k1) ?k2; (case k1 => walk_at "dv"); (case k2 => walk_at "dr"))
  | (refine' dr_seq (ds_par ?k1 ?k2) ?k3; (case k1 => walk_at "dv"); (case k2 => walk_at "dv"); (case k3 => walk_at "dr"))
  | (refine' dr_seq (ds_asgG ?k1 ?k2) ?k3; (case k1 => walk_at "dv"); (case k2 => walk_at "dg"); (case k3 => walk_at "dr")))
local macro_rules | `(tactic| walk_at "dg") => `(tactic| first
  | exact dg_name
  | exact dg_tup (dgs_cons (dgs_cons dgs_nil))
  | exact dg_tup (dgs_cons (dgs_cons (dgs_cons dgs_nil)))
  | exact dg_tup (dgs_cons (dgs_cons (dgs_cons (dgs_cons dgs_nil))))
  | exact dg_tup (dgs_cons (dgs_cons (dgs_cons (dgs_cons (dgs_cons (dgs_cons (dgs_cons dgs_nil))))))))

section
variable {P : Program} {w : World} {K : PySem.W.Frag} {mg : Str → Option Value} {base : Heap}
theorem sc_law_low : FnScope ["_law_top", "_law_bottom", "_law_one", "_law_other", "_law_by"] ["_law_top", "_law_bottom"] (defScope (top 70)) := ⟨rfl, rfl, rfl, by decide +kernel, rfl, by decide +kernel, by decide +kernel⟩
theorem has_llow (T : Tx K mg) (F : Def K mg "_law_low" (top 70) []) : Has P w K mg base "_law_low" ["_law_top", "_law_bottom"] 1 (spD K 2 prLow) := by
  refine has_data F sc_law_low (fun _ _ _ _ _ _ us hl => match us, hl with | [_, _], _ => rfl) fun f cdv A outer s H E hr => ⟨_, (pss_cons (ps_par (i := 2) (j := 3) (by rfl) sc_law_low.nd rfl rfl (by decide) rfl rfl (pa_cons (pe_callB call_abs (by rfl) T.f_abs (by decide +kernel) (pa_cons (pv 0) pa_nil)) (pa_cons (pe_callB call_abs (by rfl) T.f_abs (by decide +kernel) (pa_cons (pv 1) pa_nil)) pa_nil)) (by rfl))
    (pss_cons (ps_while PassesOwn.never (pt_cmpR op_gt (pv 3) pe_int (nomark _)) (pss_one (ps_par (i := 2) (j := 3) (by rfl) sc_law_low.nd rfl rfl (by decide) rfl rfl (pa_cons (pv 3) (pa_cons (pe_op op_mod (pv 2) (pv 3)) pa_nil)) (by rfl))))
    (pss_cons (ps_set (i := 4) sc_law_low.nd rfl (by first | exact Or.inl rfl | exact Or.inr rfl) (pe_ifExp (pt_cmpR op_gt (pv 1) pe_int (nomark _)) (pv 2) (pe_op op_sub pe_int (pv 2))))
    (pss_one (ps_ret (pe_tup (pa_cons (pe_op op_fdivW (pv 0) (pv 4)) (pa_cons (pe_op op_fdivW (pv 1) (pv 4)) pa_nil)))))))), fun ds d z _ => .inl ?_⟩
  obtain ⟨i, j, h1, h2, rfl, rfl⟩ := z
  have c1 : CDivW i ((i.natAbs.gcd j.natAbs : Nat) : Int) := gcd_cdiv h1 h2
  have c2 : CDivW j ((i.natAbs.gcd j.natAbs : Nat) : Int) := gcd_cdiv h1 h2
  refine dr_seq (ρ1 := [some (.d (.int i)), some (.d (.int j)), some (.d (.int (i.natAbs : Nat))), some (.d (.int (j.natAbs : Nat))), none]) ?_ (dr_seq (ρ1 := [some (.d (.int i)), some (.d (.int j)), some (.d (.int (i.natAbs.gcd j.natAbs : Nat))), some (.d (.int 0)), none]) ?_ ?_)
  · rw [← abs_ite i, ← abs_ite j]
    refine ds_par ?_ ?_
    · walk_at "dv"
    · walk_at "dv"
  · refine ds_whileI (fun x : Nat × Nat => [some (.d (.int i)), some (.d (.int j)), some (.d (.int (x.1 : Nat))), some (.d (.int (x.2 : Nat))), none]) (fun x => x.1.gcd x.2 = i.natAbs.gcd j.natAbs) (fun x => x.2) (i.natAbs, j.natAbs) rfl rfl fun x hx => ?_
    obtain ⟨a, b⟩ := x
    have hx : a.gcd b = i.natAbs.gcd j.natAbs := hx
    have ht : Dt K (tTest (tOp (rI0 fun i j => V.bl (decide (j < i))) (tVar 3) (tC (.int 0)))) [some (.d (.int i)), some (.d (.int j)), some (.d (.int (a : Nat))), some (.d (.int (b : Nat))), none] (decide ((0 : Int) < (b : Nat))) := by walk_at "dt"
    by_cases hb : b = 0
    · subst hb
      refine .inr ⟨dt_is ht rfl, ?_⟩
      rw [← hx, Nat.gcd_zero_right]
      rfl
    · have hp : (0 : Int) < (b : Int) := by omega
      refine .inl ⟨dt_is ht (decide_eq_true hp), (b, a % b), ?_, Nat.mod_lt _ (by omega), ?_⟩
      · show b.gcd (a % b) = _
        rw [← hx, Nat.gcd_comm, ← Nat.gcd_rec, Nat.gcd_comm]
      · refine ds_par ?_ ?_
        · walk_at "dv"
        · walk_at "dv"
  · unfold encR
    rw [low_num h1, low_den h1]
    refine dr_seq (ds_asg (d := .int (i.natAbs.gcd j.natAbs : Nat)) (dv_if (b := decide (0 < j)) ?_ (fun _ => dv_var rfl) fun h => absurd h (by rw [decide_eq_true h1]; decide))) ?_
    · walk_at "dt"
    · walk_at "dr"
theorem sc_law_plus : FnScope ["_law_one", "_law_other"] ["_law_one", "_law_other"] (defScope (top 71)) := ⟨rfl, rfl, rfl, by decide +kernel, rfl, by decide +kernel, by decide +kernel⟩
local macro_rules | `(tactic| walk_at "pr") => `(tactic| first | exact pr_low (by assumption) (by assumption) | assumption)
theorem has_lplus (T : Tx K mg) (F : Def K mg "_law_plus" (top 71) []) (h_law_low : Has P w K mg base "_law_low" ["_law_top", "_law_bottom"] 1 (spD K 2 prLow)) : Has P w K mg base "_law_plus" ["_law_one", "_law_other"] 2 (spD K 2 prPlus) := by
  refine has_data F sc_law_plus (fun _ _ _ _ _ _ us hl => match us, hl with | [_, _], _ => rfl) fun f cdv A outer s H E hr => ⟨_, (pss_one (ps_ret (pe_callH h_law_low hr (by decide) (by rfl) (pa_cons (pe_op op_add (pe_op op_mulW (pe_ix ix_tup (pv 0) pe_int (fun _ _ => rfl)) (pe_ix ix_tup (pv 1) pe_int (fun _ _ => rfl))) (pe_op op_mulW (pe_ix ix_tup (pv 1) pe_int (fun _ _ => rfl)) (pe_ix ix_tup (pv 0) pe_int (fun _ _ => rfl)))) (pa_cons (pe_op op_mulW (pe_ix ix_tup (pv 0) pe_int (fun _ _ => rfl)) (pe_ix ix_tup (pv 1) pe_int (fun _ _ => rfl))) pa_nil))))), fun ds d z _ => .inl ?_⟩
  obtain ⟨p, q, h1, h2, _, rfl, rfl⟩ := z
  obtain ⟨m1, m2, m3, m4, m5⟩ := nd_mul h1 h2
  obtain ⟨d1, d2⟩ := den2 h1 h2
  show Dr _ _ _ (encR (p + q))
  rw [← low_add p q]
  walk_at "dr"
theorem sc_law_times : FnScope ["_law_one", "_law_other"] ["_law_one", "_law_other"] (defScope (top 72)) := ⟨rfl, rfl, rfl, by decide +kernel, rfl, by decide +kernel, by decide +kernel⟩
theorem has_ltimes (T : Tx K mg) (F : Def K mg "_law_times" (top 72) []) (h_law_low : Has P w K mg base "_law_low" ["_law_top", "_law_bottom"] 1 (spD K 2 prLow)) : Has P w K mg base "_law_times" ["_law_one", "_law_other"] 2 (spD K 2 prTimes) := by
  refine has_data F sc_law_times (fun _ _ _ _ _ _ us hl => match us, hl with | [_, _], _ => rfl) fun f cdv A outer s H E hr => ⟨_, (pss_one (ps_ret (pe_callH h_law_low hr (by decide) (by rfl) (pa_cons (pe_op op_mulW (pe_ix ix_tup (pv 0) pe_int (fun _ _ => rfl)) (pe_ix ix_tup (pv 1) pe_int (fun _ _ => rfl))) (pa_cons (pe_op op_mulW (pe_ix ix_tup (pv 0) pe_int (fun _ _ => rfl)) (pe_ix ix_tup (pv 1) pe_int (fun _ _ => rfl))) pa_nil))))), fun ds d z _ => .inl ?_⟩
  obtain ⟨p, q, h1, h2, _, rfl, rfl⟩ := z
  obtain ⟨m1, m2, m3, m4, m5⟩ := nd_mul h1 h2
  obtain ⟨d1, d2⟩ := den2 h1 h2
  show Dr _ _ _ (encR (p * q))
  rw [← low_mul p q]
  walk_at "dr"
theorem sc_law_cell_at : FnScope ["_law_script", "_law_k"] ["_law_script", "_law_k"] (defScope (top 67)) := ⟨rfl, rfl, rfl, by decide +kernel, rfl, by decide +kernel, by decide +kernel⟩
def prCell : List PyData → PyData → Prop := fun ds d => ∃ (xs : List Int) (k : Nat), ds = [.list (xs.map PyData.int), .int (k : Nat)] ∧ d = .int (xs.getD k 0)
theorem pr_cell {xs : List Int} {k : Nat} : prCell [.list (xs.map PyData.int), .int (k : Nat)] (.int (xs.getD k 0)) := ⟨xs, k, rfl, rfl⟩
theorem has_cell (T : Tx K mg) (F : Def K mg "_law_cell_at" (top 67) []) : Has P w K mg base "_law_cell_at" ["_law_script", "_law_k"] 1 (spD K 2 prCell) := by
  refine has_data F sc_law_cell_at (fun _ _ _ _ _ _ us hl => match us, hl with | [_, _], _ => rfl) fun f cdv A outer s H E hr => ⟨_, (pss_cons (ps_if (pt_cmpR op_lt (pv 1) (pe_callB call_len_seq (by rfl) T.f_len (by decide +kernel) (pa_cons (pv 0) pa_nil)) (nomark _)) (pss_one (ps_ret (pe_ix ix_list (pv 0) (pv 1) (fun _ _ => rfl)))) pss_nil)
    (pss_one (ps_ret pe_int))), fun ds d z _ => .inl ?_⟩
  obtain ⟨xs, k, rfl, rfl⟩ := z
  have hl : (xs.map PyData.int).length = xs.length := List.length_map ..
  have ht : Dt K (tTest (tOp (rI0 fun i j => V.bl (decide (i < j))) (tVar 1) (tCB (rLenSeq K) (tCons (tVar 0) tNil)))) (startR ["_law_script", "_law_k"] [.list (xs.map PyData.int), .int (k : Nat)]) (decide (((k : Nat) : Int) < ((xs.map PyData.int).length : Nat))) := by walk_at "dt"
  by_cases h : k < xs.length
  · have e : (xs.map PyData.int)[k]? = some (.int (xs.getD k 0)) := by
      rw [List.getElem?_map, List.getD_eq_getElem?_getD, List.getElem?_eq_getElem h]
      rfl
    exact dr_fst (dr_ifT (dt_is ht (decide_eq_true (by omega))) (dr_ret (dv_op (dv_var rfl) (dv_var rfl) (d2_ixL k rfl e))))
  · have e : xs.getD k 0 = 0 := by
      rw [List.getD_eq_getElem?_getD, List.getElem?_eq_none (by omega)]
      rfl
    rw [e]
    exact dr_unless ht (decide_eq_false (by omega)) (dr_ret dv_int)
theorem sc_law_choice : FnScope ["_law_state_here", "_law_many", "_law_found", "_law_mixed"] ["_law_state_here", "_law_many"] (defScope (top 69)) := ⟨rfl, rfl, rfl, by decide +kernel, rfl, by decide +kernel, by decide +kernel⟩
def OkS (st : List PyData) : Prop := ∃ a b c : Int, st = [.int a, .int b, .int c] ∧ 0 ≤ a ∧ 0 ≤ b ∧ b < 2147483648 ∧ 0 ≤ c
def preCh (st ds : List PyData) : Prop := OkS st ∧ ∃ n : Int, ds = [.int n] ∧ 0 < n ∧ n < 1000000
def poCh (st ds : List PyData) (d : PyData) (st' : List PyData) : Prop := OkS st' ∧ ∃ n r : Int, ds = [.int n] ∧ d = .int r ∧ 0 ≤ r ∧ r < n
abbrev spCh (K : PySem.W.Frag) : Sp := spS K 2 preCh poCh
theorem has_choice (T : Tx K mg) (F : Def K mg "_law_choice" (top 69) []) : Has P w K mg base "_law_choice" ["_law_state_here", "_law_many"] 1 (spCh K) := by
  refine has_state F sc_law_choice (fun _ _ _ _ _ _ us hl => match us, hl with | [_, _], _ => rfl) fun f cdv A outer s H E hr => ⟨_, (pss_cons (ps_if (pt_cmpR op_gt (pe_ix ix_list (pv 0) pe_int (fun _ _ => rfl)) pe_int (nomark _)) (pss_cons (ps_set (i := 2) sc_law_choice.nd rfl (by first | exact Or.inl rfl | exact Or.inr rfl) (pe_op op_mod (pe_ix ix_list (pv 0) pe_int (fun _ _ => rfl)) (pv 1)))
    (pss_cons (ps_asg (pe_op op_fdivW (pe_ix ix_list (pv 0) pe_int (fun _ _ => rfl)) (pv 1)) (pg_sub (pv 0) pe_int set_list))
    (pss_one (ps_ret (pv 2))))) pss_nil)
    (pss_cons (ps_asg (pe_op op_add (pe_ix ix_list (pv 0) pe_int (fun _ _ => rfl)) pe_int) (pg_sub (pv 0) pe_int set_list))
    (pss_cons (ps_asg (pe_op op_mod (pe_op op_add (pe_op op_add (pe_op op_mulW (pe_ix ix_list (pv 0) pe_int (fun _ _ => rfl)) pe_int) pe_int) (pe_ix ix_list (pv 0) pe_int (fun _ _ => rfl))) pe_int) (pg_sub (pv 0) pe_int set_list))
    (pss_cons (ps_set (i := 3) sc_law_choice.nd rfl (by first | exact Or.inl rfl | exact Or.inr rfl) (pe_op op_mod (pe_op op_add (pe_op op_add (pe_op op_mulW (pe_ix ix_list (pv 0) pe_int (fun _ _ => rfl)) (pe_ix ix_list (pv 0) pe_int (fun _ _ => rfl))) (pe_op op_mulW pe_int (pe_ix ix_list (pv 0) pe_int (fun _ _ => rfl)))) pe_int) pe_int))
    (pss_cons (ps_set (i := 3) sc_law_choice.nd rfl (by first | exact Or.inl rfl | exact Or.inr rfl) (pe_op op_mod (pe_op op_add (pe_op op_mulW (pv 3) (pv 3)) (pe_op op_mulW pe_int (pv 3))) pe_int))
    (pss_one (ps_ret (pe_op op_mod (pe_op op_fdivW (pv 3) pe_int) (pv 1))))))))), fun p s0 ds M z _ => ?_⟩
  obtain ⟨⟨a, b, c, rfl, ha, hb, hb2, hc⟩, n, rfl, hn, hn2⟩ := z
  have cn : CDivW a n := wide_div (b := 20) hn (by
    have e : (2 : Nat) ^ 20 = 1048576 := rfl
    omega) (by decide) (by decide)
  refine er_ifR (et_flat [(0, [.int a, .int b, .int c])] (look1 rfl List.mem_cons_self) (b := decide (0 < a)) ?_ ⟨fun h => ?_, fun h => ?_⟩)
  · walk_at "dt"
  · have h : 0 < a := of_decide_eq_true h
    refine er_seq (es_asg (ev_flat [(0, [.int a, .int b, .int c])] (look1 rfl List.mem_cons_self) (d := .int (a % n)) ?_ (.int _) ?_))
    · walk_at "dv"
    · refine er_seq (es_set (j := 0) (p := p) rfl (ev_flat [(0, [.int a, .int b, .int c])] (look1 rfl List.mem_cons_self) (d := .int (a / n)) ?_ (.int _) ⟨_, _, rfl, Nat.zero_lt_succ _, ?_⟩))
      · walk_at "dv"
      · refine er_ret (ev_pure (dv_var rfl) ⟨_, rfl, ⟨a / n, b, c, rfl, Int.ediv_nonneg ha (by omega), hb, hb2, hc⟩, n, a % n, rfl, rfl, Int.emod_nonneg _ (by omega), Int.emod_lt_of_pos _ hn⟩)
  · refine er_seq (es_set (j := 2) (p := p) rfl (ev_flat [(0, [.int a, .int b, .int c])] (look1 rfl List.mem_cons_self) (d := .int (c + 1)) ?_ (.int _) ⟨_, _, rfl, (show 2 < 3 by decide), ?_⟩))
    · walk_at "dv"
    · generalize hb' : (b * 48271 + 29 + (c + 1)) % 2147483647 = b'
      have x1 : 0 ≤ b' := by rw [← hb']; exact Int.emod_nonneg _ (by decide)
      have x2 : b' < 2147483647 := by rw [← hb']; exact Int.emod_lt_of_pos _ (by decide)
      have e31 : (2 : Nat) ^ 31 = 2147483648 := rfl
      have e20 : (2 : Nat) ^ 20 = 1048576 := rfl
      have c1 : CMulW b 48271 := wide_mul (a := 31) (b := 20) (by omega) (by omega) (by decide) (by decide) (by decide)
      have c2 : CMulW b' b' := wide_mul (a := 31) (b := 31) (by omega) (by omega) (by decide) (by decide) (by decide)
      have c3 : CMulW 39373 b' := wide_mul (a := 20) (b := 31) (by omega) (by omega) (by decide) (by decide) (by decide)
      refine er_seq (es_set (j := 1) (p := p) rfl (ev_flat [(0, [.int a, .int b, .int (c + 1)])] (look1 rfl List.mem_cons_self) (d := .int b') (by rw [← hb']; walk_at "dv") (.int _) ⟨_, _, rfl, (show 1 < 3 by decide), ?_⟩))
      generalize hm : (b' * b' + 39373 * b' + 7) % 2147483629 = m
      have y1 : 0 ≤ m := by rw [← hm]; exact Int.emod_nonneg _ (by decide)
      have y2 : m < 2147483629 := by rw [← hm]; exact Int.emod_lt_of_pos _ (by decide)
      have c4 : CMulW m m := wide_mul (a := 31) (b := 31) (by omega) (by omega) (by decide) (by decide) (by decide)
      have c5 : CMulW 50021 m := wide_mul (a := 20) (b := 31) (by omega) (by omega) (by decide) (by decide) (by decide)
      refine er_seq (es_asg (ev_flat [(0, [.int a, .int b', .int (c + 1)])] (look1 rfl List.mem_cons_self) (d := .int m) (by rw [← hm]; walk_at "dv") (.int _) ?_))
      generalize hq : (m * m + 50021 * m) % 2147483587 = q
      have z1 : 0 ≤ q := by rw [← hq]; exact Int.emod_nonneg _ (by decide)
      refine er_seq (es_asg (ev_pure (d := .int q) (by rw [← hq]; walk_at "dv") ?_))
      have c6 : CDivW q 8 := wide_div (b := 20) (by decide) (by decide) (by decide) (by decide)
      exact er_ret (ev_pure (d := .int (q / 8 % n)) (by walk_at "dv") ⟨_, rfl, ⟨a, b', c + 1, rfl, ha, x1, by omega, by omega⟩, n, q / 8 % n, rfl, rfl, Int.emod_nonneg _ (by omega), Int.emod_lt_of_pos _ hn⟩)
end
end Ow
/-! ## part Ow17 -/
set_option Elab.async false
set_option linter.all false
set_option maxRecDepth 100000
set_option maxHeartbeats 4000000
namespace Ow
open PySem PySem.Spec PyProof.Rows L2
open Evl (Ex Ex.refl Ex.trans Ex.new ex_rd ex_l ex_t fresh_back)
local macro_rules | `(tactic| walk_at "pr") => `(tactic| assumption)
local macro_rules | `(tactic| walk_at "side") => `(tactic| first | assumption | rfl | decide)
local macro_rules | `(tactic| walk_at "d2") => `(tactic| first
  | exact d2_add | exact d2_sub | exact d2_lt | exact d2_le | exact d2_gt | exact d2_ge
  | exact d2_ixT 0 rfl rfl | exact d2_ixT 1 rfl rfl | exact d2_ixT 2 rfl rfl | exact d2_ixT 3 rfl rfl | exact d2_ixT 4 rfl rfl | exact d2_ixT 5 rfl rfl | exact d2_ixT 6 rfl rfl
  | exact d2_ixL 0 rfl rfl | exact d2_ixL 1 rfl rfl | exact d2_ixL 2 rfl rfl
  | exact d2_mul (by walk_at "side") | exact d2_div (by walk_at "side") | exact d2_mod (by walk_at "side")
  | exact d2_eq (by walk_at "side") (by walk_at "side") | exact d2_ne (by walk_at "side") (by walk_at "side") | walk_at "pr")
local macro_rules | `(tactic| walk_at "dc") => `(tactic| first
  | exact dc_len rfl | exact dc_lenL rfl | exact dc_abs | exact dc_max | exact dc_min | exact dc_all | exact dc_any | exact dc_list | exact dc_tuple | walk_at "pr")
local macro_rules | `(tactic| walk_at "da") => `(tactic| first
  | exact da_nil
  | (refine' da_cons ?k1 ?k2; (case k1 => walk_at "dv"); (case k2 => walk_at "da")))
local macro_rules | `(tactic| walk_at "dv") => `(tactic| first
  | exact dv_var rfl | exact dv_int | exact dv_str | exact dv_bl | exact dv_non
  | (refine' dv_call ?k1 ?k2 ?k3; (case k1 => walk_at "da"); (case k2 => walk_at "pr"); (case k3 => rfl))
  | (refine' dv_isi (b := true) ?k1 ?k2 ?k3; (case k1 => walk_at "dv"); (case k2 => first | exact .int _ | exact .tup _ | exact .str _ | exact .bl _); (case k3 => exact kit_ty (by decide +kernel)))
  | (refine' dv_isi (b := false) ?k1 ?k2 ?k3; (case k1 => walk_at "dv"); (case k2 => first | exact .int _ | exact .tup _ | exact .str _ | exact .bl _); (case k3 => exact kit_ty (by decide +kernel)))
  | (refine' dv_cb ?k1 ?k2; (case k1 => walk_at "da"); (case k2 => walk_at "dc"))
  | (refine' dv_op ?k1 ?k2 ?k3; (case k1 => walk_at "dv"); (case k2 => walk_at "dv"); (case k3 => walk_at "d2"))
  | (refine' dv_tup ?k1 ?k2; (case k1 => walk_at "da"); (case k2 => first | exact Nat.le_of_ble_eq_true rfl | walk_at "side"))
  | (refine' dv_lst ?k1 ?k2; (case k1 => walk_at "da"); (case k2 => first | exact Nat.le_of_ble_eq_true rfl | walk_at "side"))
  | (refine' dv_and ?k1 ?k2; (case k1 => walk_at "dv"); (case k2 => intro _; walk_at "dv"))
  | (refine' dv_notV ?k1; (case k1 => walk_at "dv"))
  | (refine' dv_chain ?k1 ?k2 ?k3 ?k4 ?k5; (case k1 => walk_at "dv"); (case k2 => walk_at "dv"); (case k3 => walk_at "d2"); (case k4 => intro _; walk_at "dv"); (case k5 => intro _; walk_at "d2"))
  | walk_at "pr")
local macro_rules | `(tactic| walk_at "dt") => `(tactic| first
  | (refine' dt_test ?k1; (case k1 => walk_at "dv"))
  | (refine' dt_B ?k1; (case k1 => walk_at "dv"))
  | (refine' dt_not ?k1; (case k1 => walk_at "dt"))
  | (refine' dt_or ?k1 ?k2; (case k1 => walk_at "dt"); (case k2 => intro _; walk_at "dt"))
  | (refine' dt_and ?k1 ?k2; (case k1 => walk_at "dt"); (case k2 => intro _; walk_at "dt"))
  | walk_at "pr")
local macro_rules | `(tactic| walk_at "no") => `(tactic| first | rfl | assumption | (simp [*]; done))
local macro_rules | `(tactic| walk_at "fin") => `(tactic| first | rfl | assumption | (simp [*]; done))
local macro_rules | `(tactic| walk_at "dr") => `(tactic| first
  | (refine' dr_retI ?k1 ?k2; (case k1 => walk_at "dv"); (case k2 => walk_at "fin"))
  | (refine' dr_unless ?k1 ?k2 ?k3; (case k1 => walk_at "dt"); (case k2 => walk_at "no"); (case k3 => walk_at "dr"))
  | (refine' dr_seq (ds_asg ?k1) ?k2; (case k1 => walk_at "dv"); (case k2 => walk_at "dr"))
  | (refine' dr_seq (ds_drop ?k1) ?k2; (case k1 => walk_at "dv"); (case k2 => walk_at "dr"))
  | (refine' dr_seq (ds_par ?k1 ?k2) ?k3; (case k1 => walk_at "dv"); (case k2 => walk_at "dv"); (case k3 => walk_at "dr"))
  | (refine' dr_seq (ds_asgG ?k1 ?k2) ?k3; (case k1 => walk_at "dv"); (case k2 => walk_at "dg"); (case k3 => walk_at "dr")))
local macro_rules | `(tactic| walk_at "dg") => `(tactic| first
  | exact dg_name
  | exact dg_tup (dgs_cons (dgs_cons dgs_nil))
  | exact dg_tup (dgs_cons (dgs_cons (dgs_cons dgs_nil)))
  | exact dg_tup (dgs_cons (dgs_cons (dgs_cons (dgs_cons dgs_nil))))
  | exact dg_tup (dgs_cons (dgs_cons (dgs_cons (dgs_cons (dgs_cons (dgs_cons (dgs_cons dgs_nil))))))))

theorem in64_low {r b : Int} (hb : 0 < b) (hb2 : b ≤ 8) (h0 : 0 ≤ r) (h1 : r < 64 * b) : In64 (Rat.divInt r b) := by
  have g0 : 0 < r.natAbs.gcd b.natAbs := Nat.gcd_pos_of_pos_right _ (by omega)
  have d1 : ((r.natAbs.gcd b.natAbs : Nat) : Int) ∣ r := by
    rw [← Int.natAbs_dvd_natAbs, Int.natAbs_natCast]
    exact Nat.gcd_dvd_left _ _
  have d2 : ((r.natAbs.gcd b.natAbs : Nat) : Int) ∣ b := by
    rw [← Int.natAbs_dvd_natAbs, Int.natAbs_natCast]
    exact Nat.gcd_dvd_right _ _
  have e20 : (2 : Nat) ^ 20 = 1048576 := rfl
  refine ⟨?_, ?_, sm_low hb (by omega) (by omega)⟩
  · rw [low_num hb]
    exact Int.ediv_nonneg h0 (by omega)
  · rw [low_num hb, low_den hb]
    have hg : (0 : Int) < ((r.natAbs.gcd b.natAbs : Nat) : Int) := by omega
    generalize ((r.natAbs.gcd b.natAbs : Nat) : Int) = g at *
    obtain ⟨x, rfl⟩ := d1
    obtain ⟨y, rfl⟩ := d2
    rw [Int.mul_ediv_cancel_left _ (by omega), Int.mul_ediv_cancel_left _ (by omega)]
    have e : 64 * (g * y) = g * (64 * y) := by
      rw [Int.mul_left_comm]
    rw [e] at h1
    exact Int.lt_of_mul_lt_mul_left h1 (by omega)
section
variable {P : Program} {w : World} {K : PySem.W.Frag} {mg : Str → Option Value} {base : Heap}
theorem one_int {n m : Int} (h : [PyData.int n] = [PyData.int m]) : n = m := by
  injection h with h
  injection h
theorem sc_law_land_number : FnScope ["_law_state_here", "_law_bottom"] ["_law_state_here"] (defScope (top 73)) := ⟨rfl, rfl, rfl, by decide +kernel, rfl, by decide +kernel, by decide +kernel⟩
def preLN (st ds : List PyData) : Prop := OkS st ∧ ds = []
def poLN (st ds : List PyData) (d : PyData) (st' : List PyData) : Prop := OkS st' ∧ ∃ q, In64 q ∧ d = encR q
theorem has_landnumber (T : Tx K mg) (F : Def K mg "_law_land_number" (top 73) []) (h_law_choice : Has P w K mg base "_law_choice" ["_law_state_here", "_law_many"] 1 (spCh K)) (h_law_low : Has P w K mg base "_law_low" ["_law_top", "_law_bottom"] 1 (spD K 2 prLow)) : Has P w K mg base "_law_land_number" ["_law_state_here"] 2 (spS K 1 preLN poLN) := by
  refine has_state F sc_law_land_number (fun _ _ _ _ _ _ us hl => match us, hl with | [_], _ => rfl) fun f cdv A outer s H E hr => ⟨_, (pss_cons (ps_set (i := 1) sc_law_land_number.nd rfl (by first | exact Or.inl rfl | exact Or.inr rfl) (pe_ix ix_list (pe_lst (pa_cons pe_int (pa_cons pe_int (pa_cons pe_int (pa_cons pe_int (pa_cons pe_int (pa_cons pe_int pa_nil))))))) (pe_callH h_law_choice hr (by decide) (by rfl) (pa_cons (pv 0) (pa_cons pe_int pa_nil))) (fun _ _ => rfl)))
    (pss_one (ps_ret (pe_callH h_law_low hr (by decide) (by rfl) (pa_cons (pe_callH h_law_choice hr (by decide) (by rfl) (pa_cons (pv 0) (pa_cons (pe_op op_mulW pe_int (pv 1)) pa_nil))) (pa_cons (pv 1) pa_nil)))))), fun p s0 ds M z _ => ?_⟩
  obtain ⟨ok, rfl⟩ := z
  refine er_seq (es_asg (ev_op (ev_pure (d := .list [.int 1, .int 1, .int 1, .int 2, .int 3, .int 8]) ?_ (ev_st (p := p) (st := s0) rfl (ea_cons (ev_pure dv_int (ea_nil ⟨rfl, s0, M, rfl, ⟨ok, 6, rfl, by decide, by decide⟩, fun d st' po => ?_⟩)))))))
  · walk_at "dv"
  · obtain ⟨ok', n, r, hn, rfl, h0, h1⟩ := po
    have hn := one_int hn
    subst hn
    obtain ⟨b, hb, hg⟩ : ∃ b : Int, (0 < b ∧ b ≤ 8) ∧ [PyData.int 1, .int 1, .int 1, .int 2, .int 3, .int 8][r.toNat]? = some (.int b) := by
      have h : r = 0 ∨ r = 1 ∨ r = 2 ∨ r = 3 ∨ r = 4 ∨ r = 5 := by omega
      rcases h with rfl | rfl | rfl | rfl | rfl | rfl
      · exact ⟨1, by decide, rfl⟩
      · exact ⟨1, by decide, rfl⟩
      · exact ⟨1, by decide, rfl⟩
      · exact ⟨2, by decide, rfl⟩
      · exact ⟨3, by decide, rfl⟩
      · exact ⟨8, by decide, rfl⟩
    refine ⟨.int b, d2_ixL r.toNat (by omega) hg, ?_⟩
    have e8 : (2 : Nat) ^ 8 = 256 := rfl
    have c1 : CMulW 64 b := wide_mul (a := 8) (b := 8) (by decide) (by omega) (by decide) (by decide) (by decide)
    refine er_ret (ev_call (ea_cons (ev_st (p := p) (st := st') rfl (ea_cons (ev_pure (d := .int (64 * b)) ?_ (ea_nil ⟨rfl, st', M, rfl, ⟨ok', 64 * b, rfl, by omega, by omega⟩, fun d st2 po2 => ?_⟩))))))
    · walk_at "dv"
    · obtain ⟨ok2, n, r2, hn, rfl, h2, h3⟩ := po2
      have hn := one_int hn
      subst hn
      exact ea_pure (ds := [.int b]) (da_cons (dv_var rfl) da_nil) ⟨rfl, _, pr_low hb.1 (Nat.lt_of_lt_of_le (m := 2 ^ 8) (by omega) (Nat.pow_le_pow_right (by decide) (by decide))), st2, rfl, ok2, _, in64_low hb.1 hb.2 h2 h3, rfl⟩
theorem sc_law_land_point : FnScope ["_law_state_here"] ["_law_state_here"] (defScope (top 74)) := ⟨rfl, rfl, rfl, by decide +kernel, rfl, by decide +kernel, by decide +kernel⟩
def poLP (st ds : List PyData) (d : PyData) (st' : List PyData) : Prop := OkS st' ∧ ∃ q, LandP q ∧ d = encP q
theorem has_landpoint (T : Tx K mg) (F : Def K mg "_law_land_point" (top 74) []) (h_law_land_number : Has P w K mg base "_law_land_number" ["_law_state_here"] 2 (spS K 1 preLN poLN)) : Has P w K mg base "_law_land_point" ["_law_state_here"] 3 (spS K 1 preLN poLP) := by
  refine has_state F sc_law_land_point (fun _ _ _ _ _ _ us hl => match us, hl with | [_], _ => rfl) fun f cdv A outer s H E hr => ⟨_, (pss_one (ps_ret (pe_tup (pa_cons (pe_callH h_law_land_number hr (by decide) (by rfl) (pa_cons (pv 0) pa_nil)) (pa_cons (pe_callH h_law_land_number hr (by decide) (by rfl) (pa_cons (pv 0) pa_nil)) pa_nil))))), fun p s0 ds M z _ => ?_⟩
  obtain ⟨ok, rfl⟩ := z
  refine er_ret (ev_tup (ea_cons (ev_st (p := p) (st := s0) rfl (ea_nil ⟨rfl, s0, M, rfl, ⟨ok, rfl⟩, fun d st' po => ?_⟩))))
  obtain ⟨ok', q, hq, rfl⟩ := po
  refine ea_cons (ev_st (p := p) (st := st') rfl (ea_nil ⟨rfl, st', M, rfl, ⟨ok', rfl⟩, fun d st2 po2 => ?_⟩))
  obtain ⟨ok2, q2, hq2, rfl⟩ := po2
  exact ea_nil ⟨Nat.le_of_ble_eq_true rfl, st2, rfl, ok2, (q, q2), ⟨hq, hq2⟩, rfl⟩
end
end Ow
/-! ## part Ow18 -/
set_option Elab.async false
set_option linter.all false
set_option maxRecDepth 100000
set_option maxHeartbeats 4000000
namespace Ow
open PySem PySem.Spec PyProof.Rows L2
open Evl (Ex Ex.refl Ex.trans Ex.new ex_rd ex_l ex_t fresh_back)
local macro_rules | `(tactic| walk_at "pr") => `(tactic| assumption)
local macro_rules | `(tactic| walk_at "side") => `(tactic| first | assumption | rfl | decide)
local macro_rules | `(tactic| walk_at "d2") => `(tactic| first
  | exact d2_add | exact d2_sub | exact d2_lt | exact d2_le | exact d2_gt | exact d2_ge
  | exact d2_ixT 0 rfl rfl | exact d2_ixT 1 rfl rfl | exact d2_ixT 2 rfl rfl | exact d2_ixT 3 rfl rfl | exact d2_ixT 4 rfl rfl | exact d2_ixT 5 rfl rfl | exact d2_ixT 6 rfl rfl
  | exact d2_ixL 0 rfl rfl | exact d2_ixL 1 rfl rfl | exact d2_ixL 2 rfl rfl
  | exact d2_mul (by walk_at "side") | exact d2_div (by walk_at "side") | exact d2_mod (by walk_at "side")
  | exact d2_eq (by walk_at "side") (by walk_at "side") | exact d2_ne (by walk_at "side") (by walk_at "side") | walk_at "pr")
local macro_rules | `(tactic| walk_at "dc") => `(tactic| first
  | exact dc_len rfl | exact dc_lenL rfl | exact dc_abs | exact dc_max | exact dc_min | exact dc_all | exact dc_any | exact dc_list | exact dc_tuple | walk_at "pr")
local macro_rules | `(tactic| walk_at "da") => `(tactic| first
  | exact da_nil
  | (refine' da_cons ?k1 ?k2; (case k1 => walk_at "dv"); (case k2 => walk_at "da")))
local macro_rules | `(tactic| walk_at "dv") => `(tactic| first
  | exact dv_var rfl | exact dv_int | exact dv_str | exact dv_bl | exact dv_non
  | (refine' dv_call ?k1 ?k2 ?k3; (case k1 => walk_at "da"); (case k2 => walk_at "pr"); (case k3 => rfl))
  | (refine' dv_isi (b := true) ?k1 ?k2 ?k3; (case k1 => walk_at "dv"); (case k2 => first | exact .int _ | exact .tup _ | exact .str _ | exact .bl _); (case k3 => exact kit_ty (by decide +kernel)))
  | (refine' dv_isi (b := false) ?k1 ?k2 ?k3; (case k1 => walk_at "dv"); (case k2 => first | exact .int _ | exact .tup _ | exact .str _ | exact .bl _); (case k3 => exact kit_ty (by decide +kernel)))
  | (refine' dv_cb ?k1 ?k2; (case k1 => walk_at "da"); (case k2 => walk_at "dc"))
  | (refine' dv_op ?k1 ?k2 ?k3; (case k1 => walk_at "dv"); (case k2 => walk_at "dv"); (case k3 => walk_at "d2"))
  | (refine' dv_tup ?k1 ?k2; (case k1 => walk_at "da"); (case k2 => first | exact Nat.le_of_ble_eq_true rfl | walk_at "side"))
  | (refine' dv_lst ?k1 ?k2; (case k1 => walk_at "da"); (case k2 => first | exact Nat.le_of_ble_eq_true rfl | walk_at "side"))
  | (refine' dv_and ?k1 ?k2; (case k1 => walk_at "dv"); (case k2 => intro _; walk_at "dv"))
  | (refine' dv_notV ?k1; (case k1 => walk_at "dv"))
  | (refine' dv_chain ?k1 ?k2 ?k3 ?k4 ?k5; (case k1 => walk_at "dv"); (case k2 => walk_at "dv"); (case k3 => walk_at "d2"); (case k4 => intro _; walk_at "dv"); (case k5 => intro _; walk_at "d2"))
  | walk_at "pr")
local macro_rules | `(tactic| walk_at "dt") => `(tactic| first
  | (refine' dt_test ?k1; (case k1 => walk_at "dv"))
  | (refine' dt_B ?k1; (case k1 => walk_at "dv"))
  | (refine' dt_not ?k1; (case k1 => walk_at "dt"))
  | (refine' dt_or ?k1 ?k2; (case k1 => walk_at "dt"); (case k2 => intro _; walk_at "dt"))
  | (refine' dt_and ?k1 ?k2; (case k1 => walk_at "dt"); (case k2 => intro _; walk_at "dt"))
  | walk_at "pr")
local macro_rules | `(tactic| walk_at "no") => `(tactic| first | rfl | assumption | (simp [*]; done))
local macro_rules | `(tactic| walk_at "fin") => `(tactic| first | rfl | assumption | (simp [*]; done))
local macro_rules | `(tactic| walk_at "dr") => `(tactic| first
  | (refine' dr_retI ?k1 ?k2; (case k1 => walk_at "dv"); (case k2 => walk_at "fin"))
  | (refine' dr_unless ?k1 ?k2 ?k3; (case k1 => walk_at "dt"); (case k2 => walk_at "no"); (case k3 => walk_at "dr"))
  | (refine' dr_seq (ds_asg ?k1) ?k2; (case k1 => walk_at "dv"); (case k2 => walk_at "dr"))
  | (refine' dr_seq (ds_drop ?k1) ?k2; (case k1 => walk_at "dv"); (case k2 => walk_at "dr"))
  | (refine' dr_seq (ds_par ?k1 ?k2) ?k3; (case k1 => walk_at "dv"); (case k2 => walk_at "dv"); (case k3 => walk_at "dr"))
  | (refine' dr_seq (ds_asgG ?k1 ?k2) ?k3; (case k1 => walk_at "dv"); (case k2 => walk_at "dg"); (case k3 => walk_at "dr")))
local macro_rules | `(tactic| walk_at "dg") => `(tactic| first
  | exact dg_name
  | exact dg_tup (dgs_cons (dgs_cons dgs_nil))
  | exact dg_tup (dgs_cons (dgs_cons (dgs_cons dgs_nil)))
  | exact dg_tup (dgs_cons (dgs_cons (dgs_cons (dgs_cons dgs_nil))))
  | exact dg_tup (dgs_cons (dgs_cons (dgs_cons (dgs_cons (dgs_cons (dgs_cons (dgs_cons dgs_nil))))))))

theorem perm_end {α : Type} (x y : α) (M : List α) : (x :: (M ++ [y])).Perm (y :: x :: M) := by
  have h : ((x :: M) ++ [y]).Perm (y :: (x :: M)) := List.perm_append_singleton y (x :: M)
  exact h
theorem lay_ps : ∀ cs : List (Rat × Rat), PyData.canLayAll0 (cs.map encP) = true
  | [] => rfl
  | c :: cs => by
    show (PyData.canLay0 (encP c) && PyData.canLayAll0 (cs.map encP)) = true
    rw [lay_ps cs]
    rfl
theorem deep_ps : ∀ cs : List (Rat × Rat), PyData.depthAll (cs.map encP) ≤ 2
  | [] => Nat.zero_le _
  | c :: cs => by
    show max (PyData.depth (encP c)) (PyData.depthAll (cs.map encP)) ≤ 2
    have := deep_ps cs
    have e : PyData.depth (encP c) = 2 := rfl
    omega
theorem shaped_ps (cs : List (Rat × Rat)) : SeqAt.shaped (.list (cs.map encP)) = true := by
  show (PyData.canLayAll0 (cs.map encP) && decide (PyData.depthAll (cs.map encP) + 1 ≤ 64)) = true
  rw [lay_ps, decide_eq_true (by have := deep_ps cs; omega)]
  rfl
theorem shaped_P (q : Rat × Rat) : SeqAt.shaped (encP q) = true := rfl
theorem notIn_ps {cs : List (Rat × Rat)} {q : Rat × Rat} (h : (!(cs.map encP).any fun z => PyData.eqv z (encP q)) = true) : q ∉ cs := fun hq => by
  have h2 : (cs.map encP).any (fun z => PyData.eqv z (encP q)) = true := List.any_eq_true.mpr ⟨encP q, List.mem_map.mpr ⟨q, hq, rfl⟩, by rw [eqv_P]; exact decide_eq_true rfl⟩
  rw [h2] at h
  cases h
def sevenHalves : Rat := ⟨7, 2, by decide, by decide⟩
def cs0 : List (Rat × Rat) := [(0, 0), (40, sevenHalves)]
structure GoodCs (cs : List (Rat × Rat)) : Prop where
  two : 2 ≤ cs.length
  land : ∀ p ∈ cs, LandP p
  nd : cs.Nodup
theorem in64_0 : In64 0 := ⟨by decide, by decide, by decide, by decide⟩
theorem in64_40 : In64 40 := ⟨by decide, by decide, by decide, by decide⟩
theorem in64_7 : In64 sevenHalves := ⟨by decide, by decide, by decide, by decide⟩
theorem good_cs0 : GoodCs cs0 := by
  refine ⟨Nat.le_refl _, fun p hp => ?_, ?_⟩
  · unfold cs0 at hp
    simp only [List.mem_cons, List.mem_nil_iff, or_false] at hp
    rcases hp with rfl | rfl
    · exact ⟨in64_0, in64_0⟩
    · exact ⟨in64_40, in64_7⟩
  · unfold cs0
    rw [List.nodup_cons]
    refine ⟨fun h => ?_, by simp⟩
    have h := List.mem_singleton.mp h
    have h := congrArg (fun p : Rat × Rat => p.1.num) h
    exact absurd h (by decide)
theorem good_snoc {cs : List (Rat × Rat)} {q : Rat × Rat} (g : GoodCs cs) (hq : LandP q) (hn : q ∉ cs) : GoodCs (cs ++ [q]) := by
  refine ⟨by rw [List.length_append]; have := g.two; omega, fun p hp => ?_, ?_⟩
  · rcases List.mem_append.mp hp with h | h
    · exact g.land p h
    · rw [List.mem_singleton.mp h]
      exact hq
  · refine List.nodup_append.mpr ⟨g.nd, by simp, fun a ha b hb hab => ?_⟩
    have hb := List.mem_singleton.mp hb
    subst hb
    subst hab
    exact hn ha
def StepOk (L : List (Rat × Rat)) : Prop := ∀ (i : Nat) (p q : Rat × Rat), L[i]? = some p → L[i + 1]? = some q → p ≠ q
theorem step_snoc {L : List (Rat × Rat)} {l q z : Rat × Rat} (h : StepOk (L ++ [l] ++ [z])) (h1 : l ≠ q) (h2 : q ≠ z) : StepOk (L ++ [l] ++ [q] ++ [z]) := fun i a b ha hb => by
  have len : (L ++ [l]).length = L.length + 1 := by rw [List.length_append]; rfl
  have len2 : (L ++ [l] ++ [q]).length = L.length + 2 := by rw [List.length_append, len]; rfl
  by_cases c1 : i + 1 < L.length + 1
  · refine h i a b ?_ ?_
    · rw [List.getElem?_append_left (by rw [len2]; omega), List.getElem?_append_left (by rw [len]; omega)] at ha
      rw [List.getElem?_append_left (by rw [len]; omega)]
      exact ha
    · rw [List.getElem?_append_left (by rw [len2]; omega), List.getElem?_append_left (by rw [len]; omega)] at hb
      rw [List.getElem?_append_left (by rw [len]; omega)]
      exact hb
  · by_cases c2 : i = L.length
    · subst c2
      rw [List.getElem?_append_left (by rw [len2]; omega), List.getElem?_append_left (by rw [len]; omega), List.getElem?_append_right (Nat.le_refl _), Nat.sub_self] at ha
      rw [List.getElem?_append_left (by rw [len2]; omega), List.getElem?_append_right (by rw [len]; omega), len, Nat.sub_self] at hb
      have ha : l = a := Option.some.inj ha
      have hb : q = b := Option.some.inj hb
      subst ha
      subst hb
      exact h1
    · by_cases c3 : i = L.length + 1
      · subst c3
        rw [List.getElem?_append_left (by rw [len2]; omega), List.getElem?_append_right (by rw [len]; omega), len, Nat.sub_self] at ha
        rw [List.getElem?_append_right (by rw [len2]; omega), len2, Nat.sub_self] at hb
        have ha : q = a := Option.some.inj ha
        have hb : z = b := Option.some.inj hb
        subst ha
        subst hb
        exact h2
      · rw [List.getElem?_append_right (by rw [len2]; omega), len2, List.getElem?_eq_none (by simp; omega)] at hb
        cases hb
theorem step_two {a b : Rat × Rat} (h : a ≠ b) : StepOk ([] ++ [a] ++ [b]) := fun i p q hp hq => by
  cases i with
  | zero =>
    have hp : a = p := Option.some.inj hp
    have hq : b = q := Option.some.inj hq
    subst hp
    subst hq
    exact h
  | succ i =>
    rw [List.getElem?_eq_none (by simp)] at hq
    cases hq
theorem other_ok {n a r : Int} (h0 : 0 ≤ a) (h1 : a < n) (h2 : 0 ≤ r) (h3 : r < n - 1) : 0 ≤ (a + 1 + r) % n ∧ (a + 1 + r) % n < n ∧ (a + 1 + r) % n ≠ a := by
  refine ⟨Int.emod_nonneg _ (by omega), Int.emod_lt_of_pos _ (by omega), ?_⟩
  by_cases c : a + 1 + r < n
  · rw [Int.emod_eq_of_lt (by omega) c]
    omega
  · have e : a + 1 + r = (a + 1 + r - n) + n := by omega
    rw [e, Int.add_emod_right, Int.emod_eq_of_lt (by omega) (by omega)]
    omega
theorem nth0_inj {cs : List (Rat × Rat)} {i j : Nat} (h : cs.Nodup) (hi : i < cs.length) (hj : j < cs.length) (e : nth0 cs i = nth0 cs j) : i = j := by
  have a := nth0_get hi
  have b := nth0_get hj
  rw [List.getElem?_eq_getElem hi] at a
  rw [List.getElem?_eq_getElem hj] at b
  have a := Option.some.inj a
  have b := Option.some.inj b
  have key := List.pairwise_iff_getElem.mp h
  rcases Nat.lt_trichotomy i j with c | c | c
  · exact absurd (by rw [a, b, e]) (key i j hi hj c)
  · exact c
  · exact absurd (by rw [a, b, e]) (key j i hj hi c)
section
variable {P : Program} {w : World} {K : PySem.W.Frag} {mg : Str → Option Value} {base : Heap}
theorem sc_law_street_web : FnScope ["_law_state_here", "_law_crossings", "_law_again", "_law_point", "_law_roads", "_law_one", "_law_other", "_law_line", "_law_lap"] ["_law_state_here"] (defScope (top 75)) := ⟨rfl, rfl, rfl, by decide +kernel, rfl, by decide +kernel, by decide +kernel⟩
def poSW (st ds : List PyData) (d : PyData) (st' : List PyData) : Prop := OkS st' ∧ ∃ W : Web, GoodWeb W ∧ 1 ≤ W.roads.length ∧ d = encW W
theorem has_streetweb (T : Tx K mg) (F : Def K mg "_law_street_web" (top 75) []) (h_law_choice : Has P w K mg base "_law_choice" ["_law_state_here", "_law_many"] 1 (spCh K)) (h_law_land_point : Has P w K mg base "_law_land_point" ["_law_state_here"] 3 (spS K 1 preLN poLP)) : Has P w K mg base "_law_street_web" ["_law_state_here"] 4 (spS K 1 preLN poSW) := by
  refine has_state F sc_law_street_web (fun _ _ _ _ _ _ us hl => match us, hl with | [_], _ => rfl) fun f cdv A outer s H E hr => ⟨_, (pss_cons (ps_set (i := 1) sc_law_street_web.nd rfl (by first | exact Or.inl rfl | exact Or.inr rfl) (pe_lst (pa_cons (pe_tup (pa_cons (pe_tup (pa_cons pe_int (pa_cons pe_int pa_nil))) (pa_cons (pe_tup (pa_cons pe_int (pa_cons pe_int pa_nil))) pa_nil))) (pa_cons (pe_tup (pa_cons (pe_tup (pa_cons pe_int (pa_cons pe_int pa_nil))) (pa_cons (pe_tup (pa_cons pe_int (pa_cons pe_int pa_nil))) pa_nil))) pa_nil))))
    (pss_cons (ps_for PassesOwn.never rfl (pi_range1 (by rfl) T.f_range (pa_cons (pe_callH h_law_choice hr (by decide) (by rfl) (pa_cons (pv 0) (pa_cons pe_int pa_nil))) pa_nil)) (pg_name (i := 2) sc_law_street_web.nd rfl (by first | exact Or.inl rfl | exact Or.inr rfl)) (pss_cons (ps_set (i := 3) sc_law_street_web.nd rfl (by first | exact Or.inl rfl | exact Or.inr rfl) (pe_callH h_law_land_point hr (by decide) (by rfl) (pa_cons (pv 0) pa_nil)))
    (pss_one (ps_if (pt_cmpR (op_notInD (hu65 hr)) (pv 3) (pv 1) (by rfl)) (pss_one (ps_expr (pe_bm PySem.F.plainAttrs_list PySem.F.slot_list_append PySem.F.type_list_append mt_append (pv 1) (pa_cons (pv 3) pa_nil)))) pss_nil))))
    (pss_cons (ps_set (i := 4) sc_law_street_web.nd rfl (by first | exact Or.inl rfl | exact Or.inr rfl) (pe_lst pa_nil))
    (pss_cons (ps_for PassesOwn.never rfl (pi_range1 (by rfl) T.f_range (pa_cons (pe_op op_add pe_int (pe_callH h_law_choice hr (by decide) (by rfl) (pa_cons (pv 0) (pa_cons pe_int pa_nil)))) pa_nil)) (pg_name (i := 2) sc_law_street_web.nd rfl (by first | exact Or.inl rfl | exact Or.inr rfl)) (pss_cons (ps_set (i := 5) sc_law_street_web.nd rfl (by first | exact Or.inl rfl | exact Or.inr rfl) (pe_callH h_law_choice hr (by decide) (by rfl) (pa_cons (pv 0) (pa_cons (pe_callB call_len_seq (by rfl) T.f_len (by decide +kernel) (pa_cons (pv 1) pa_nil)) pa_nil))))
    (pss_cons (ps_set (i := 6) sc_law_street_web.nd rfl (by first | exact Or.inl rfl | exact Or.inr rfl) (pe_op op_mod (pe_op op_add (pe_op op_add (pv 5) pe_int) (pe_callH h_law_choice hr (by decide) (by rfl) (pa_cons (pv 0) (pa_cons (pe_op op_sub (pe_callB call_len_seq (by rfl) T.f_len (by decide +kernel) (pa_cons (pv 1) pa_nil)) pe_int) pa_nil)))) (pe_callB call_len_seq (by rfl) T.f_len (by decide +kernel) (pa_cons (pv 1) pa_nil))))
    (pss_cons (ps_set (i := 7) sc_law_street_web.nd rfl (by first | exact Or.inl rfl | exact Or.inr rfl) (pe_lst (pa_cons (pe_ix ix_list (pv 1) (pv 5) (fun _ _ => rfl)) pa_nil)))
    (pss_cons (ps_for PassesOwn.never rfl (pi_range1 (by rfl) T.f_range (pa_cons (pe_callH h_law_choice hr (by decide) (by rfl) (pa_cons (pv 0) (pa_cons pe_int pa_nil))) pa_nil)) (pg_name (i := 8) sc_law_street_web.nd rfl (by first | exact Or.inl rfl | exact Or.inr rfl)) (pss_cons (ps_set (i := 3) sc_law_street_web.nd rfl (by first | exact Or.inl rfl | exact Or.inr rfl) (pe_callH h_law_land_point hr (by decide) (by rfl) (pa_cons (pv 0) pa_nil)))
    (pss_one (ps_if (pt_cmpR (op_notInD (hu65 hr)) (pv 3) (pe_lst (pa_cons (pe_ix ix_list (pv 7) (pe_un un_neg pe_int) (fun _ _ => rfl)) (pa_cons (pe_ix ix_list (pv 1) (pv 6) (fun _ _ => rfl)) pa_nil))) (by rfl)) (pss_one (ps_expr (pe_bm PySem.F.plainAttrs_list PySem.F.slot_list_append PySem.F.type_list_append mt_append (pv 7) (pa_cons (pv 3) pa_nil)))) pss_nil))))
    (pss_one (ps_expr (pe_bm PySem.F.plainAttrs_list PySem.F.slot_list_append PySem.F.type_list_append mt_append (pv 4) (pa_cons (pe_tup (pa_cons (pv 5) (pa_cons (pv 6) (pa_cons (pe_callTy call_tuple_of (by rfl) T.f_tuple (by decide +kernel) (pa_cons (pe_slice sl_list (pv 7) (po_some pe_int) po_none) pa_nil)) (pa_cons (pe_op op_add pe_int (pe_callH h_law_choice hr (by decide) (by rfl) (pa_cons (pv 0) (pa_cons pe_int pa_nil)))) pa_nil))))) pa_nil)))))))))
    (pss_one (ps_ret (pe_tup (pa_cons (pe_callTy call_tuple_of (by rfl) T.f_tuple (by decide +kernel) (pa_cons (pv 1) pa_nil)) (pa_cons (pe_callTy call_tuple_of (by rfl) T.f_tuple (by decide +kernel) (pa_cons (pv 4) pa_nil)) pa_nil))))))))), fun p s0 ds M z _ => ?_⟩
  obtain ⟨ok, rfl⟩ := z
  refine er_seq (es_new (ea_pure (ds := cs0.map encP) ?_ ⟨Nat.le_of_ble_eq_true rfl, fun pc => ?_⟩))
  · exact da_cons (dv_tup (da_cons (dv_tup (da_cons dv_int (da_cons dv_int da_nil)) (Nat.le_of_ble_eq_true rfl)) (da_cons (dv_tup (da_cons dv_int (da_cons dv_int da_nil)) (Nat.le_of_ble_eq_true rfl)) da_nil)) (Nat.le_of_ble_eq_true rfl)) (da_cons (dv_tup (da_cons (dv_tup (da_cons dv_int (da_cons dv_int da_nil)) (Nat.le_of_ble_eq_true rfl)) (da_cons (dv_tup (da_cons dv_int (da_cons dv_int da_nil)) (Nat.le_of_ble_eq_true rfl)) da_nil)) (Nat.le_of_ble_eq_true rfl)) da_nil)
  refine er_seq (es_for (ew_rng1 (ea_cons (ev_st (p := p) (st := s0) rfl (ea_cons (ev_pure dv_int (ea_nil ⟨rfl, s0, _, rfl, ⟨ok, 4, rfl, by decide, by decide⟩, fun d st1 po => ?_⟩)))))))
  obtain ⟨ok1, n, r, hn, rfl, h0, h1⟩ := po
  have hn := one_int hn
  subst hn
  obtain ⟨n1, rfl⟩ := Int.eq_ofNat_of_zero_le h0
  refine ea_nil ⟨n1, rfl, by omega, fun i ρ' M' => ρ' = [some (.a p), some (.a pc), none, none, none, none, none, none, none] ∧ ∃ st cs, M' = (p, st) :: (M ++ [(pc, cs.map encP)]) ∧ OkS st ∧ GoodCs cs ∧ cs.length ≤ 2 + i, ⟨rfl, st1, cs0, rfl, ok1, good_cs0, Nat.le_refl _⟩, fun i x ρ' M' hx hI => ?_, fun ρ' M' hI => ?_⟩
  · obtain ⟨rfl, st, cs, rfl, ok2, g, hl⟩ := hI
    refine ⟨_, dg_name, es_weak [2] (es_forget [3] (es_seq (es_asg (ev_st (p := p) (st := st) rfl (ea_nil ⟨rfl, st, _, rfl, ⟨ok2, rfl⟩, fun d st2 po => ?_⟩)))))⟩
    obtain ⟨ok3, q, hq, rfl⟩ := po
    refine es_if (et_flat [(1, cs.map encP)] (look1 (p := pc) rfl (by simp)) (b := !(cs.map encP).any fun z => PyData.eqv z (encP q)) (dt_test (dv_op (dv_var rfl) (dv_var rfl) (d2_notIn (shaped_P q) (shaped_ps cs)))) ⟨fun h => ?_, fun h => ?_⟩)
    · refine es_append (p := pc) rfl (by simp) (ev_pure (d := encP q) (dv_var rfl) ⟨cs.map encP, (p, st2) :: M, perm_end _ _ _, ?_, (p, st2) :: (M ++ [(pc, (cs ++ [q]).map encP)]), ?_, ⟨rfl, st2, cs ++ [q], rfl, ok3, good_snoc g hq (notIn_ps h), ?_⟩⟩)
      · rw [List.length_map]
        have := (List.getElem?_eq_some_iff.mp hx).1
        rw [intsD_len] at this
        omega
      · rw [List.map_append]
        exact (perm_end _ _ _).symm
      · rw [List.length_append]
        show cs.length + 1 ≤ _
        omega
    · exact es_next ⟨rfl, st2, cs, rfl, ok3, g, by omega⟩
  obtain ⟨rfl, st2, cs, rfl, ok2, g, hlc⟩ := hI
  rw [intsD_len] at hlc
  have hc2 := g.two
  have lenE : (cs.map encP).length = cs.length := List.length_map ..
  refine er_seq (es_new (ea_nil ⟨Nat.zero_le _, fun pr => ?_⟩))
  refine er_seq (es_for (ew_rng1 (ea_cons (ev_op (ev_pure dv_int (ev_st (p := p) (st := st2) rfl (ea_cons (ev_pure dv_int (ea_nil ⟨rfl, st2, _, rfl, ⟨ok2, 5, rfl, by decide, by decide⟩, fun d st3 po => ?_⟩)))))))))
  obtain ⟨ok3, n, r, hn, rfl, h2, h3⟩ := po
  have hn := one_int hn
  subst hn
  obtain ⟨n2, rfl⟩ := Int.eq_ofNat_of_zero_le h2
  refine ⟨_, d2_add, ea_nil ⟨1 + n2, rfl, by omega, fun i ρ' M' => ρ' = [some (.a p), some (.a pc), none, none, some (.a pr), none, none, none, none] ∧ ∃ st rs, M' = (p, st) :: ((M ++ [(pc, cs.map encP)]) ++ [(pr, rs.map encRoad)]) ∧ OkS st ∧ (∀ r ∈ rs, GoodRoad cs r) ∧ rs.length = i, ⟨rfl, st3, [], rfl, ok3, fun r hr => (nomatch hr), rfl⟩, fun i x ρ' M' hx hI => ?_, fun ρ' M' hI => ?_⟩⟩
  · obtain ⟨rfl, st, rs, rfl, ok4, gr, hlr⟩ := hI
    have hi5 : i < 1 + n2 := by
      have := (List.getElem?_eq_some_iff.mp hx).1
      rw [intsD_len] at this
      exact this
    refine ⟨_, dg_name, es_weak [2] (es_forget [3, 5, 6, 7, 8] (es_seq (es_asg (ev_st (p := p) (st := st) rfl (ea_cons (ev_flat [(1, cs.map encP)] (look1 (p := pc) rfl (by simp)) (d := .int ((cs.map encP).length : Nat)) ?_ (.int _) (ea_nil ⟨rfl, st, _, rfl, ⟨ok4, _, rfl, by omega, by omega⟩, fun d st5 po => ?_⟩)))))))⟩
    · walk_at "dv"
    obtain ⟨ok5, n, a, hn, rfl, ha0, ha1⟩ := po
    have hn := one_int hn
    subst hn
    rw [lenE] at ha1
    refine es_seq (es_asg (ev_op (ev_op (ev_pure (d := .int (a + 1)) ?_ (ev_st (p := p) (st := st5) rfl (ea_cons (ev_flat [(1, cs.map encP)] (look1 (p := pc) rfl (by simp)) (d := .int (((cs.map encP).length : Nat) - 1)) ?_ (.int _) (ea_nil ⟨rfl, st5, _, rfl, ⟨ok5, _, rfl, by omega, by omega⟩, fun d st6 po => ?_⟩))))))))
    · walk_at "dv"
    · walk_at "dv"
    obtain ⟨ok6, n, b, hn, rfl, hb0, hb1⟩ := po
    have hn := one_int hn
    subst hn
    rw [lenE] at hb1
    have hpos : (0 : Int) < ((cs.map encP).length : Nat) := by omega
    refine ⟨_, d2_add, ev_flat [(1, cs.map encP)] (look1 (p := pc) rfl (by simp)) (d := .int ((cs.map encP).length : Nat)) ?_ (.int _) ⟨_, d2_mod hpos, ?_⟩⟩
    · walk_at "dv"
    have ho := other_ok ha0 ha1 hb0 hb1
    rw [← lenE] at ho
    generalize (a + 1 + b) % ((cs.map encP).length : Int) = o at ho ⊢
    rw [lenE] at ho
    obtain ⟨ho0, ho1, ho2⟩ := ho
    obtain ⟨k1, rfl⟩ := Int.eq_ofNat_of_zero_le ha0
    obtain ⟨k2, rfl⟩ := Int.eq_ofNat_of_zero_le ho0
    have hk1 : k1 < cs.length := by omega
    have hk2 : k2 < cs.length := by omega
    have hne : nth0 cs k1 ≠ nth0 cs k2 := fun e => ho2 (by rw [nth0_inj g.nd hk1 hk2 e])
    refine es_seq (es_new (ea_cons (ev_ixM (p := pc) (j := k1) rfl (by simp) (nth0_enc hk1) (dv_var rfl) (ea_nil ⟨Nat.le_of_ble_eq_true rfl, fun pl => ?_⟩))))
    refine es_seq (es_for (ew_rng1 (ea_cons (ev_st (p := p) (st := st6) rfl (ea_cons (ev_pure dv_int (ea_nil ⟨rfl, st6, _, rfl, ⟨ok6, 3, rfl, by decide, by decide⟩, fun d st7 po => ?_⟩)))))))
    obtain ⟨ok7, n, r, hn, rfl, h4, h5⟩ := po
    have hn := one_int hn
    subst hn
    obtain ⟨n3, rfl⟩ := Int.eq_ofNat_of_zero_le h4
    refine ea_nil ⟨n3, rfl, by omega, fun j ρ' M' => ρ' = [some (.a p), some (.a pc), none, none, some (.a pr), some (.d (.int (k1 : Nat))), some (.d (.int (k2 : Nat))), some (.a pl), none] ∧ ∃ st L l, M' = (p, st) :: (((M ++ [(pc, cs.map encP)]) ++ [(pr, rs.map encRoad)]) ++ [(pl, (L ++ [l]).map encP)]) ∧ OkS st ∧ L.length ≤ j ∧ (∃ mid, L ++ [l] = nth0 cs k1 :: mid ∧ ∀ q ∈ mid, LandP q) ∧ StepOk (L ++ [l] ++ [nth0 cs k2]), ⟨rfl, st7, [], nth0 cs k1, rfl, ok7, Nat.le_refl _, ⟨[], rfl, fun q hq => (nomatch hq)⟩, step_two hne⟩, fun j x ρ' M' hx hI => ?_, fun ρ' M' hI => ?_⟩
    · obtain ⟨rfl, st, L, l, rfl, ok8, hL, ⟨mid, hm1, hm2⟩, hs⟩ := hI
      have hj3 : j < n3 := by
        have := (List.getElem?_eq_some_iff.mp hx).1
        rw [intsD_len] at this
        exact this
      refine ⟨_, dg_name, es_weak [8] (es_forget [3] (es_seq (es_asg (ev_st (p := p) (st := st) rfl (ea_nil ⟨rfl, st, _, rfl, ⟨ok8, rfl⟩, fun d st9 po => ?_⟩)))))⟩
      obtain ⟨ok9, q, hq, rfl⟩ := po
      have hlast : ((L ++ [l]).map encP).getLast? = some (encP l) := by
        rw [List.map_append, List.map_cons, List.map_nil]
        exact List.getLast?_concat ..
      refine es_if (et_flat [(7, (L ++ [l]).map encP), (1, cs.map encP)] (look2 (p := pl) rfl (by simp) (q := pc) rfl (by simp)) (b := !([l, nth0 cs k2].map encP).any fun z => PyData.eqv z (encP q)) (dt_test (dv_op (dv_var rfl) (dv_lst (da_cons (dv_op (dv_var rfl) (dv_un dv_int d1_neg) (d2_ixLast hlast)) (da_cons (dv_op (dv_var rfl) (dv_var rfl) (d2_ixL k2 rfl (nth0_enc hk2))) da_nil)) (Nat.le_of_ble_eq_true rfl)) (d2_notIn (shaped_P q) (shaped_ps [l, nth0 cs k2])))) ⟨fun h => ?_, fun h => ?_⟩)
      · have hn := notIn_ps h
        have x1 : l ≠ q := fun e => hn (by rw [e]; exact List.mem_cons_self)
        have x2 : q ≠ nth0 cs k2 := fun e => hn (by rw [e]; exact List.mem_cons_of_mem _ List.mem_cons_self)
        refine es_append (p := pl) rfl (by simp) (ev_pure (d := encP q) (dv_var rfl) ⟨(L ++ [l]).map encP, _, perm_end _ _ _, ?_, (p, st9) :: (((M ++ [(pc, cs.map encP)]) ++ [(pr, rs.map encRoad)]) ++ [(pl, (L ++ [l] ++ [q]).map encP)]), ?_, ⟨rfl, st9, L ++ [l], q, rfl, ok9, ?_, ⟨mid ++ [q], ?_, fun y hy => ?_⟩, step_snoc hs x1 x2⟩⟩)
        · rw [List.length_map, List.length_append]
          show L.length + 1 < _
          omega
        · rw [List.map_append (l₁ := L ++ [l])]
          exact (perm_end _ _ _).symm
        · rw [List.length_append]
          show L.length + 1 ≤ _
          omega
        · rw [hm1]
          rfl
        · rcases List.mem_append.mp hy with hy | hy
          · exact hm2 y hy
          · rw [List.mem_singleton.mp hy]
            exact hq
      · exact es_next ⟨rfl, st9, L, l, rfl, ok9, by omega, ⟨mid, hm1, hm2⟩, hs⟩
    obtain ⟨rfl, st, L, l, rfl, ok8, hL, ⟨mid, hm1, hm2⟩, hs⟩ := hI
    rw [intsD_len] at hL
    have hml : mid.length ≤ 2 := by
      have := congrArg List.length hm1
      rw [List.length_append, List.length_cons] at this
      have : L.length + 1 = mid.length + 1 := this
      omega
    rw [hm1] at hs ⊢
    refine es_freeze (i := 7) (p := pl) (ds := (nth0 cs k1 :: mid).map encP) rfl ?_ (perm_end _ _ _)
    refine es_append (p := pr) rfl (by simp) (ev_tup (ea_cons (ev_pure (dv_var rfl) (ea_cons (ev_pure (dv_var rfl) (ea_cons (ev_pure (d := .tuple (mid.map encP)) (dv_cb (da_cons (dv_slL 1 rfl (dv_var rfl) dv_int) da_nil) dc_tuple) (ea_cons (ev_op (ev_pure dv_int (ev_st (p := p) (st := st) rfl (ea_cons (ev_pure dv_int (ea_nil ⟨rfl, st, _, rfl, ⟨ok8, 2, rfl, by decide, by decide⟩, fun d st9 po => ?_⟩))))))))))))))
    obtain ⟨ok9, n, r, hn, rfl, h6, h7⟩ := po
    have hn := one_int hn
    subst hn
    obtain ⟨n4, rfl⟩ := Int.eq_ofNat_of_zero_le h6
    have good : GoodRoad cs (Road.mk k1 k2 mid (1 + n4)) := ⟨hk1, hk2, fun e => ho2 (by have e : k1 = k2 := e; omega), ⟨by show 1 ≤ 1 + n4; omega, by show 1 + n4 ≤ 2; omega⟩, by show mid.length ≤ 4; omega, hm2, hs⟩
    refine ⟨_, d2_add, ea_nil ⟨Nat.le_of_ble_eq_true rfl, rs.map encRoad, _, perm_end _ _ _, ?_, (p, st9) :: ((M ++ [(pc, cs.map encP)]) ++ [(pr, (rs ++ [Road.mk k1 k2 mid (1 + n4)]).map encRoad)]), ?_, ⟨rfl, st9, rs ++ [Road.mk k1 k2 mid (1 + n4)], rfl, ok9, fun y hy => ?_, ?_⟩⟩⟩
    · rw [List.length_map]
      omega
    · rw [List.map_append]
      exact (perm_end _ _ _).symm
    · rcases List.mem_append.mp hy with hy | hy
      · exact gr y hy
      · rw [List.mem_singleton.mp hy]
        exact good
    · rw [List.length_append, hlr]
      rfl
  · obtain ⟨rfl, st, rs, rfl, ok4, gr, hlr⟩ := hI
    rw [intsD_len] at hlr
    refine er_freeze (i := 4) (p := pr) (ds := rs.map encRoad) rfl (er_freeze (i := 1) (p := pc) (ds := cs.map encP) rfl (er_ret (ev_pure (d := encW ⟨cs, rs⟩) (dv_tup (da_cons (dv_cb (da_cons (dv_var rfl) da_nil) dc_tuple) (da_cons (dv_cb (da_cons (dv_var rfl) da_nil) dc_tuple) da_nil)) (Nat.le_of_ble_eq_true rfl)) ⟨st, rfl, ok4, ⟨cs, rs⟩, ⟨?_, ?_, g.land, g.nd, ?_, gr⟩, ?_, rfl⟩)) (perm_end _ _ _)) (perm_end _ _ _)
    · show 1 ≤ cs.length
      omega
    · show cs.length ≤ 10
      omega
    · show rs.length ≤ 14
      omega
    · show 1 ≤ rs.length
      omega
end
end Ow
/-! ## part Ow19 -/
set_option Elab.async false
set_option linter.all false
set_option maxRecDepth 100000
set_option maxHeartbeats 4000000
namespace Ow
open PySem PySem.Spec PyProof.Rows L2
open Evl (Ex Ex.refl Ex.trans Ex.new ex_rd ex_l ex_t fresh_back)
local macro_rules | `(tactic| walk_at "pr") => `(tactic| assumption)
local macro_rules | `(tactic| walk_at "side") => `(tactic| first | assumption | rfl | decide)
local macro_rules | `(tactic| walk_at "d2") => `(tactic| first
  | exact d2_add | exact d2_sub | exact d2_lt | exact d2_le | exact d2_gt | exact d2_ge
  | exact d2_ixT 0 rfl rfl | exact d2_ixT 1 rfl rfl | exact d2_ixT 2 rfl rfl | exact d2_ixT 3 rfl rfl | exact d2_ixT 4 rfl rfl | exact d2_ixT 5 rfl rfl | exact d2_ixT 6 rfl rfl
  | exact d2_ixL 0 rfl rfl | exact d2_ixL 1 rfl rfl | exact d2_ixL 2 rfl rfl
  | exact d2_mul (by walk_at "side") | exact d2_div (by walk_at "side") | exact d2_mod (by walk_at "side")
  | exact d2_eq (by walk_at "side") (by walk_at "side") | exact d2_ne (by walk_at "side") (by walk_at "side") | walk_at "pr")
local macro_rules | `(tactic| walk_at "dc") => `(tactic| first
  | exact dc_len rfl | exact dc_lenL rfl | exact dc_abs | exact dc_max | exact dc_min | exact dc_all | exact dc_any | exact dc_list | exact dc_tuple | walk_at "pr")
local macro_rules | `(tactic| walk_at "da") => `(tactic| first
  | exact da_nil
  | (refine' da_cons ?k1 ?k2; (case k1 => walk_at "dv"); (case k2 => walk_at "da")))
local macro_rules | `(tactic| walk_at "dv") => `(tactic| first
  | exact dv_var rfl | exact dv_int | exact dv_str | exact dv_bl | exact dv_non
  | (refine' dv_call ?k1 ?k2 ?k3; (case k1 => walk_at "da"); (case k2 => walk_at "pr"); (case k3 => rfl))
  | (refine' dv_isi (b := true) ?k1 ?k2 ?k3; (case k1 => walk_at "dv"); (case k2 => first | exact .int _ | exact .tup _ | exact .str _ | exact .bl _); (case k3 => exact kit_ty (by decide +kernel)))
  | (refine' dv_isi (b := false) ?k1 ?k2 ?k3; (case k1 => walk_at "dv"); (case k2 => first | exact .int _ | exact .tup _ | exact .str _ | exact .bl _); (case k3 => exact kit_ty (by decide +kernel)))
  | (refine' dv_cb ?k1 ?k2; (case k1 => walk_at "da"); (case k2 => walk_at "dc"))
  | (refine' dv_op ?k1 ?k2 ?k3; (case k1 => walk_at "dv"); (case k2 => walk_at "dv"); (case k3 => walk_at "d2"))
  | (refine' dv_tup ?k1 ?k2; (case k1 => walk_at "da"); (case k2 => first | exact Nat.le_of_ble_eq_true rfl | walk_at "side"))
  | (refine' dv_lst ?k1 ?k2; (case k1 => walk_at "da"); (case k2 => first | exact Nat.le_of_ble_eq_true rfl | walk_at "side"))
  | (refine' dv_and ?k1 ?k2; (case k1 => walk_at "dv"); (case k2 => intro _; walk_at "dv"))
  | (refine' dv_notV ?k1; (case k1 => walk_at "dv"))
  | (refine' dv_chain ?k1 ?k2 ?k3 ?k4 ?k5; (case k1 => walk_at "dv"); (case k2 => walk_at "dv"); (case k3 => walk_at "d2"); (case k4 => intro _; walk_at "dv"); (case k5 => intro _; walk_at "d2"))
  | walk_at "pr")
local macro_rules | `(tactic| walk_at "dt") => `(tactic| first
  | (refine' dt_test ?k1; (case k1 => walk_at "dv"))
  | (refine' dt_B ?k1; (case k1 => walk_at "dv"))
  | (refine' dt_not ?k1; (case k1 => walk_at "dt"))
  | (refine' dt_or ?k1 ?k2; (case k1 => walk_at "dt"); (case k2 => intro _; walk_at "dt"))
  | (refine' dt_and ?k1 ?k2; (case k1 => walk_at "dt"); (case k2 => intro _; walk_at "dt"))
  | walk_at "pr")
local macro_rules | `(tactic| walk_at "no") => `(tactic| first | rfl | assumption | (simp [*]; done))
local macro_rules | `(tactic| walk_at "fin") => `(tactic| first | rfl | assumption | (simp [*]; done))
local macro_rules | `(tactic| walk_at "dr") => `(tactic| first
  | (refine' dr_retI ?k1 ?k2; (case k1 => walk_at "dv"); (case k2 => walk_at "fin"))
  | (refine' dr_unless ?k1 ?k2 ?k3; (case k1 => walk_at "dt"); (case k2 => walk_at "no"); (case k3 => walk_at "dr"))
  | (refine' dr_seq (ds_asg ?k1) ?k2; (case k1 => walk_at "dv"); (case k2 => walk_at "dr"))
  | (refine' dr_seq (ds_drop ?k1) ?k2; (case k1 => walk_at "dv"); (case k2 => walk_at "dr"))
  | (refine' dr_seq (ds_par ?k1 ?k2) ?k3; (case k1 => walk_at "dv"); (case k2 => walk_at "dv"); (case k3 => walk_at "dr"))
  | (refine' dr_seq (ds_asgG ?k1 ?k2) ?k3; (case k1 => walk_at "dv"); (case k2 => walk_at "dg"); (case k3 => walk_at "dr")))
local macro_rules | `(tactic| walk_at "dg") => `(tactic| first
  | exact dg_name
  | exact dg_tup (dgs_cons (dgs_cons dgs_nil))
  | exact dg_tup (dgs_cons (dgs_cons (dgs_cons dgs_nil)))
  | exact dg_tup (dgs_cons (dgs_cons (dgs_cons (dgs_cons dgs_nil))))
  | exact dg_tup (dgs_cons (dgs_cons (dgs_cons (dgs_cons (dgs_cons (dgs_cons (dgs_cons dgs_nil))))))))

/-! ### defs that give a new list -/
def spFr (K : PySem.W.Frag) (n : Nat) (Pr : List PyData → List PyData → Prop) : Sp := fun vs H Q _ => vs.length = n ∧ ∃ G ds M, Ex G H ∧ Mt K G H M ∧ DpAll K G vs ds ∧ (∃ st, Pr ds st) ∧ ∀ st p G2 H2, Pr ds st → Ex G G2 → Ex G2 H2 → Mt K G2 H2 (M ++ [(p, st)]) → Q (.ref p) H2
section
variable {K : PySem.W.Frag} {ρ ρ1 : Rho} {M : Store} {t : TA} {ds : List PyData} {Rs : Rho → Store → Prop}
theorem es_fresh {n i : Nat} {Pr : List PyData → List PyData → Prop} {E0 : XK} (h : Ea K t ρ M fun ds M1 => ds.length = n ∧ (∃ st, Pr ds st) ∧ ∀ st p, Pr ds st → Rs (ρ.set i (some (.a p))) (M1 ++ [(p, st)])) : Es K (tAsg (tCall (spFr K n Pr) [] E0 t) (gName i)) ρ M Rs := fun D G σ H x E m k =>
  h G σ H x E m _ fun ds M1 vs G1 H1 ⟨hn, hp, q⟩ e1 i1 m1 D1 => by
    show spFr K n Pr (vs ++ []) H1 _ E0
    rw [List.append_nil]
    exact ⟨by rw [DpAll.len D1]; exact hn, G1, ds, M1, i1, m1, D1, hp, fun st p G2 H2 hst e2 i2 m2 => k _ _ _ G2 H2 (q st p hst) (e1.trans e2) i2 m2 ((E.ex (e1.trans e2)).setA)⟩
theorem lst_new {G H : Hp} {σ : L2.St} (ha : Da K t ρ ds) (hl : ds.length ≤ 100000) (x : Ex G H) (E : Sls K G σ ρ) (m : Mt K G H M) (Q : VK) (k : ∀ p G2 H2, Ex G G2 → Ex G2 H2 → Mt K G2 H2 (M ++ [(p, ds)]) → Q (.ref p) H2) : tLst t σ H Q :=
  ha G σ H x E _ fun vs G1 H1 a D => ⟨small_sz (by rw [DpAll.len D]; exact hl), fun p hp => by
    obtain ⟨m2, i2⟩ := (m.gr a).new a.i hp D
    exact k p G1 _ a.g i2 m2⟩
theorem es_drop {ts : TS} (h : Es K ts ρ M fun ρ1 M1 => ∃ M2, M2.Sublist M1 ∧ Rs ρ1 M2) : Es K ts ρ M Rs := fun D G σ H x E m k =>
  h D G σ H x E m fun ρ1 M1 σ1 G1 H1 ⟨M2, hs, q⟩ e1 i1 m1 E1 => k ρ1 M2 σ1 G1 H1 q e1 i1 (m1.sub hs) E1
end
section
variable {P : Program} {w : World} {K : PySem.W.Frag} {mg : Str → Option Value} {base : Heap}
theorem sc_law_state : FnScope ["_law_script", "_law_k", "_law_cell"] ["_law_script", "_law_k"] (defScope (top 68)) := ⟨rfl, rfl, rfl, by decide +kernel, rfl, by decide +kernel, by decide +kernel⟩
def prState : List PyData → List PyData → Prop := fun ds st => (∃ (xs : List Int) (k : Nat), ds = [.list (xs.map PyData.int), .int (k : Nat)]) ∧ OkS st
local macro_rules | `(tactic| walk_at "d2") => `(tactic| exact d2_pow (by unfold CPow; decide))
local macro_rules | `(tactic| walk_at "pr") => `(tactic| exact pr_cell)
theorem has_lstate (T : Tx K mg) (F : Def K mg "_law_state" (top 68) []) (h_law_cell_at : Has P w K mg base "_law_cell_at" ["_law_script", "_law_k"] 1 (spD K 2 prCell)) : Has P w K mg base "_law_state" ["_law_script", "_law_k"] 2 (spFr K 2 prState) := by
  obtain ⟨f, fd, F, hm⟩ := F
  refine ⟨f, fd, FunD.ok F sc_law_state (fun vs H Q E z => z.1) fun cdv A outer s H vs Q E hr z => ?_, hm, F.kp, F.bindsN (fun _ _ _ _ _ _ us hl => match us, hl with | [_, _], _ => rfl)⟩
  refine ⟨_, PSs.nox (pss_cons (ps_set (i := 2) sc_law_state.nd rfl (by first | exact Or.inl rfl | exact Or.inr rfl) (pe_callH h_law_cell_at hr (by decide) (by rfl) (pa_cons (pv 0) (pa_cons (pv 1) pa_nil))))
    (pss_one (ps_ret (pe_lst (pa_cons (pe_callB (call_max2 rfl) (by rfl) T.f_max (by decide +kernel) (pa_cons pe_int (pa_cons (pe_op op_sub (pv 2) (pe_op op_pow pe_int pe_int)) pa_nil))) (pa_cons (pe_op op_add (pe_op op_mod (pv 2) pe_int) pe_int) (pa_cons pe_int pa_nil))))))), ?_⟩
  obtain ⟨hl, G, ds, M, e, m, a, ⟨st0, ⟨xs, k, rfl⟩, _⟩, q⟩ := z
  have body : Ds K (tAsg (tCall (spD K 2 prCell) [] E0 (tCons (tVar 0) (tCons (tVar 1) tNil))) (gName 2)) (startR ["_law_script", "_law_k", "_law_cell"] [.list (xs.map PyData.int), .int (k : Nat)]) [some (.d (.list (xs.map PyData.int))), some (.d (.int (k : Nat))), some (.d (.int (xs.getD k 0)))] := ds_asg (dv_call (ds := [.list (xs.map PyData.int), .int (k : Nat)]) (da_cons (dv_var rfl) (da_cons (dv_var rfl) da_nil)) pr_cell)
  refine body _ G _ H e (start_sls a) fun σ' G2 H2 g E2 => ?_
  generalize xs.getD k 0 = c at E2
  have last : Da K (tCons (tCB (fun xs H Q => ∃ i j, xs = [V.int i, V.int j] ∧ Q (.int (if j > i then j else i)) H) (tCons (tC (.int 0)) (tCons (tOp (rI0 fun i j => V.int (i - j)) (tVar 2) (tOp (rI CPow fun i j => V.int (i ^ j.toNat)) (tC (.int 10)) (tC (.int 18)))) tNil))) (tCons (tOp (rI0 fun i j => V.int (i + j)) (tOp (rI (fun _ j => 0 < j) fun i j => V.int (i % j)) (tVar 2) (tC (.int 2147483629))) (tC (.int 1))) (tCons (tC (.int 0)) tNil))) [some (.d (.list (xs.map PyData.int))), some (.d (.int (k : Nat))), some (.d (.int c))] [.int (if c - 10 ^ (18 : Int).toNat > 0 then c - 10 ^ (18 : Int).toNat else 0), .int (c % 2147483629 + 1), .int 0] := by walk_at "da"
  refine lst_new last (Nat.le_of_ble_eq_true rfl) g.i E2 (m.gr g) Q fun p G3 H3 e3 i3 m3 => ?_
  refine q _ p G3 _ ⟨⟨xs, k, rfl⟩, _, _, _, rfl, ?_, ?_, ?_, Int.le_refl _⟩ (g.g.trans e3) i3 m3
  · split <;> omega
  · have := Int.emod_nonneg c (show (2147483629 : Int) ≠ 0 by decide)
    omega
  · have := Int.emod_lt_of_pos c (show (0 : Int) < 2147483629 by decide)
    omega
theorem sc_law_numbers : FnScope ["_law_row"] ["_law_row"] (defScope (top 76)) := ⟨rfl, rfl, rfl, by decide +kernel, rfl, by decide +kernel, by decide +kernel⟩
def numsOf (r : Row) : List PyData := intsD r.first r.step (manyOf r).toNat
def prNumbers : List PyData → PyData → Prop := fun ds d => ∃ (W : Web) (r : Row), GoodRow W r ∧ ds = [encRow r] ∧ d = .list (numsOf r)
theorem pr_numbers {W : Web} {r : Row} (h : GoodRow W r) : prNumbers [encRow r] (.list (numsOf r)) := ⟨W, r, h, rfl, rfl⟩
theorem rgc_row {W : Web} {r : Row} (g : GoodRow W r) : RgC r.first (r.last + 1) r.step (manyOf r).toNat := by
  obtain ⟨a, b⟩ := g.step
  obtain ⟨c, d⟩ := g.last
  obtain ⟨e, f⟩ := g.first
  obtain ⟨m1, m2⟩ := many_bd g
  have hs : Builtin.Range.rangeSize r.first (r.last + 1) r.step = manyOf r := by
    unfold Builtin.Range.rangeSize manyOf
    rw [if_pos (by omega), if_pos (by omega)]
    congr 2
    omega
  refine ⟨by omega, by omega, ?_, by rw [hs]; omega⟩
  unfold Builtin.Range.small
  rw [hs]
  simp only [Builtin.Range.rangeFitsLong, Bool.and_eq_true, Bool.or_eq_true, decide_eq_true_eq, beq_iff_eq]
  rw [if_pos (show r.step > 0 by omega)]
  simp only [Bool.and_eq_true, decide_eq_true_eq]
  omega
theorem has_numbers (T : Tx K mg) (F : Def K mg "_law_numbers" (top 76) []) : Has P w K mg base "_law_numbers" ["_law_row"] 1 (spD K 1 prNumbers) := by
  refine has_data F sc_law_numbers (fun _ _ _ _ _ _ us hl => match us, hl with | [_], _ => rfl) fun f cdv A outer s H E hr => ⟨_, (pss_one (ps_ret (pe_list_range rfl (by rfl) T.f_list (by rfl) T.f_range (pe_ix ix_tup (pv 0) pe_int (fun _ _ => rfl)) (pe_op op_add (pe_ix ix_tup (pv 0) pe_int (fun _ _ => rfl)) pe_int) (pe_ix ix_tup (pv 0) pe_int (fun _ _ => rfl))))), fun ds d z _ => .inl ?_⟩
  obtain ⟨W, r, g, rfl, rfl⟩ := z
  obtain ⟨m1, m2⟩ := many_bd g
  refine dr_ret (dv_lrange (j := r.last + 1) ?_ ?_ ?_ (rgc_row g) (by omega))
  · walk_at "dv"
  · walk_at "dv"
  · walk_at "dv"
theorem sc_law_elm : FnScope ["_law_told", "_law_one"] ["_law_told"] (defScope (top 78)) := ⟨rfl, rfl, rfl, by decide +kernel, rfl, by decide +kernel, by decide +kernel⟩
def encT (x : Str × Int) : PyData := .tuple [.str x.1, .int x.2]
def elmsOf (L : List (Str × Int)) : List PyData := (L.filter fun x => decide (x.1 = ("elm" : Str))).map fun x => .int x.2
def prElm : List PyData → PyData → Prop := fun ds d => ∃ L : List (Str × Int), L.length ≤ 100000 ∧ (∀ x ∈ L, Word x.1) ∧ ds = [.list (L.map encT)] ∧ d = .list (elmsOf L)
theorem pr_elm {L : List (Str × Int)} (h0 : L.length ≤ 100000) (h : ∀ x ∈ L, Word x.1) : prElm [.list (L.map encT)] (.list (elmsOf L)) := ⟨L, h0, h, rfl, rfl⟩
theorem has_elm (T : Tx K mg) (F : Def K mg "_law_elm" (top 78) []) : Has P w K mg base "_law_elm" ["_law_told"] 1 (spD K 1 prElm) := by
  refine has_data F sc_law_elm (fun _ _ _ _ _ _ us hl => match us, hl with | [_], _ => rfl) fun f cdv A outer s H E hr => ⟨_, (pss_one (ps_ret (pe_lc (own := [("_law_one", 1)]) (g := (gName 1)) (tt := (tTest (tOp (rEqD K) (tOp (rIxT K) (tVar 1) (tC (V.int 0))) (tC (V.str "elm"))))) (te := (tOp (rIxT K) (tVar 1) (tC (V.int 1)))) rfl sc_law_elm.nd (pi_list (pv 0)) (blkOk_by (own := [("_law_one", 1)]) (N := ["_law_told", "_law_one"]) (sc := defScope (top 78)) (by decide +kernel)) (fun _ _ _ _ _ => (pg_name (i := 1) sc_law_elm.nd rfl (by first | exact Or.inl rfl | exact Or.inr rfl))) (fun _ _ _ _ _ => (pts_one (pt_cmpR (op_eqD hr.units) (pe_ix ix_tup (pv 1) pe_int (fun _ _ => rfl)) pe_str (nomark _)))) (fun _ _ _ _ _ => (pe_ix ix_tup (pv 1) pe_int (fun _ _ => rfl)))))), fun ds d z _ => .inl ?_⟩
  obtain ⟨L, h0, hw, rfl, rfl⟩ := z
  refine dr_ret (dv_lcM (enc := encT) (fun x => decide (x.1 = ("elm" : Str))) (fun x => .int x.2) L (dw_list (dv_var rfl)) (gw_name (by decide)) h0 fun x hx => ⟨_, dg_name, ?_, fun _ => ?_⟩)
  · have y1 := shaped_word (hw x hx)
    have y2 : SeqAt.shaped (.str "elm") = true := shaped_word (.inl rfl)
    show Dt _ _ _ (decide (x.1 = ("elm" : Str)))
    rw [← eqv_str]
    exact dt_test (dv_op (dv_op (dv_var rfl) dv_int (d2_ixT 0 rfl rfl)) dv_str (d2_eq y1 y2))
  · walk_at "dv"
theorem sc_law_leads_right : FnScope ["_law_web", "_law_rows", "_law_row", "_law_here", "_law_day", "_law_until", "_law_due", "_law_road", "_law_under", "_law_high", "_law_told", "_law_half"] ["_law_web", "_law_rows", "_law_row", "_law_here", "_law_day", "_law_until", "_law_due"] (defScope (top 79)) := ⟨rfl, rfl, rfl, by decide +kernel, rfl, by decide +kernel, by decide +kernel⟩
theorem lay_ts : ∀ {L : List (Str × Int)}, (∀ x ∈ L, Word x.1) → PyData.canLayAll0 (L.map encT) = true
  | [], _ => rfl
  | c :: cs, h => by
    show (PyData.canLay0 (encT c) && PyData.canLayAll0 (cs.map encT)) = true
    rw [lay_ts fun x hx => h x (List.mem_cons_of_mem _ hx)]
    have := SeqAt.canLay_of_shaped (shaped_word (h c List.mem_cons_self))
    have this : PyData.canLay0 (.str c.1) = true := this
    show ((PyData.canLay0 (.str c.1) && (PyData.canLay0 (.int c.2) && true)) && true) = true
    rw [this]
    rfl
theorem deep_ts : ∀ L : List (Str × Int), PyData.depthAll (L.map encT) ≤ 1
  | [] => Nat.zero_le _
  | c :: cs => by
    show max (PyData.depth (encT c)) (PyData.depthAll (cs.map encT)) ≤ 1
    have := deep_ts cs
    have e : PyData.depth (encT c) = 1 := rfl
    omega
theorem shaped_ts {L : List (Str × Int)} (h : ∀ x ∈ L, Word x.1) : SeqAt.shaped (.list (L.map encT)) = true := by
  show (PyData.canLayAll0 (L.map encT) && decide (PyData.depthAll (L.map encT) + 1 ≤ 64)) = true
  rw [lay_ts h, decide_eq_true (by have := deep_ts L; omega)]
  rfl
theorem eqv_ts : ∀ L : List (Str × Int), PyData.eqv (.list (L.map encT)) (.list (L.map encT)) = true
  | [] => rfl
  | c :: cs => by
    have e : PyData.eqv (.list ((c :: cs).map encT)) (.list ((c :: cs).map encT)) = ((PyData.eqv (.str c.1) (.str c.1) && (PyData.eqv (.int c.2) (.int c.2) && true)) && PyData.eqv (.list (cs.map encT)) (.list (cs.map encT))) := rfl
    rw [e, eqv_ts cs, eqv_str, eqv_int, decide_eq_true rfl, decide_eq_true rfl]
    rfl
/-- what is asked of a house that is to lead to one number alone -/
structure Leads (W : Web) (rows : List Row) (r : Row) (n day upto due : Int) : Prop where
  web : GoodWeb W
  rows_ : GoodRows W rows
  hit_ : ∃ k, Hit rows "elm" n day k r
  d0 : 0 ≤ day
  d1 : day ≤ upto
  pos : 0 ≤ (midOf W r n).num
  le : ¬ longAt W r.road < midOf W r n
  told : ∃ L : List (Str × Int), L.length ≤ 100000 ∧ (∀ x ∈ L, Word x.1) ∧ toldD W rows r.road (midOf W r n) upto = .list (L.map encT) ∧ elmsOf L = [.int due]
def prLeads : List PyData → PyData → Prop := fun ds d => ∃ (W : Web) (rows : List Row) (r : Row) (n day upto due : Int), Leads W rows r n day upto due ∧ ds = [encW W, encRows rows, encRow r, .int n, .int day, .int upto, .int due] ∧ d = .bool true
theorem pr_leads {W : Web} {rows : List Row} {r : Row} {n day upto due : Int} (h : Leads W rows r n day upto due) : prLeads [encW W, encRows rows, encRow r, .int n, .int day, .int upto, .int due] (.bool true) := ⟨W, rows, r, n, day, upto, due, h, rfl, rfl⟩
theorem half_mul (q : Rat) : q * unit1 2 = q / 2 := by
  unfold unit1
  rw [Rat.divInt_eq_div]
  have e : ((1 : Int) : Rat) / ((2 : Int) : Rat) = (1 : Rat) / 2 := by norm_cast
  rw [e, Rat.div_def, Rat.div_def, Rat.one_mul]
theorem has_leads (T : Tx K mg) (F : Def K mg "_law_leads_right" (top 79) []) (h_find : Has P w K mg base "find" ["web", "rows", "street", "number", "day"] 10 (spD K 5 prFind)) (h_later : Has P w K mg base "later" ["web", "rows", "street", "number", "day", "later_day"] 10 (spD K 6 prLater)) (h_law_times : Has P w K mg base "_law_times" ["_law_one", "_law_other"] 2 (spD K 2 prTimes)) (h_law_plus : Has P w K mg base "_law_plus" ["_law_one", "_law_other"] 2 (spD K 2 prPlus)) (h_law_elm : Has P w K mg base "_law_elm" ["_law_told"] 1 (spD K 1 prElm)) (h_numbers_at : Has P w K mg base "numbers_at" ["web", "rows", "spot", "day"] 9 (spD K 4 prNumbersAt)) : Has P w K mg base "_law_leads_right" ["_law_web", "_law_rows", "_law_row", "_law_here", "_law_day", "_law_until", "_law_due"] 11 (spD K 7 prLeads) := by
  refine has_data F sc_law_leads_right (fun _ _ _ _ _ _ us hl => match us, hl with | [_, _, _, _, _, _, _], _ => rfl) fun f cdv A outer s H E hr => ⟨_, (pss_cons (ps_asg (pe_callH h_find hr (by decide) (by rfl) (pa_cons (pv 0) (pa_cons (pv 1) (pa_cons pe_str (pa_cons (pv 3) (pa_cons (pv 4) pa_nil)))))) (pg_tup (by rfl) (pgs_cons (pg_name (i := 7) sc_law_leads_right.nd rfl (by first | exact Or.inl rfl | exact Or.inr rfl)) (pgs_cons (pg_name (i := 8) sc_law_leads_right.nd rfl (by first | exact Or.inl rfl | exact Or.inr rfl)) (pgs_cons (pg_name (i := 9) sc_law_leads_right.nd rfl (by first | exact Or.inl rfl | exact Or.inr rfl)) pgs_nil)))))
    (pss_cons (ps_set (i := 10) sc_law_leads_right.nd rfl (by first | exact Or.inl rfl | exact Or.inr rfl) (pe_callH h_later hr (by decide) (by rfl) (pa_cons (pv 0) (pa_cons (pv 1) (pa_cons pe_str (pa_cons (pv 3) (pa_cons (pv 4) (pa_cons (pv 5) pa_nil))))))))
    (pss_cons (ps_set (i := 11) sc_law_leads_right.nd rfl (by first | exact Or.inl rfl | exact Or.inr rfl) (pe_callH h_law_times hr (by decide) (by rfl) (pa_cons (pe_callH h_law_plus hr (by decide) (by rfl) (pa_cons (pv 8) (pa_cons (pv 9) pa_nil))) (pa_cons (pe_tup (pa_cons pe_int (pa_cons pe_int pa_nil))) pa_nil))))
    (pss_one (ps_ret (pe_and (pe_cmpR (op_eqD hr.units) (pe_callH h_law_elm hr (by decide) (by rfl) (pa_cons (pv 10) pa_nil)) (pe_lst (pa_cons (pv 6) pa_nil)) (nomark _)) (pe_one (pe_cmpR (op_eqD hr.units) (pv 10) (pe_callH h_numbers_at hr (by decide) (by rfl) (pa_cons (pv 0) (pa_cons (pv 1) (pa_cons (pe_tup (pa_cons (pv 7) (pa_cons (pv 11) pa_nil))) (pa_cons (pv 5) pa_nil))))) (nomark _))))))))), fun ds d z _ => .inl ?_⟩
  obtain ⟨W, rows, r, n, day, upto, due, g, rfl, rfl⟩ := z
  obtain ⟨k, hh⟩ := g.hit_
  have hm := List.mem_of_getElem? hh.at_
  have gr := g.rows_.good r hm
  obtain ⟨b1, b2⟩ := hasN_bd (hit_has hh.yes)
  obtain ⟨m1, m2, m3⟩ := sm_mid g.web gr b1 b2
  obtain ⟨L, l0, l1, l2, l3⟩ := g.told
  obtain ⟨rd, hrd, hlo⟩ := long_get gr.road
  have spot : GoodSpot W r.road rd (midOf W r n) := ⟨g.web, hrd, m3, g.pos, by rw [← hlo]; exact g.le⟩
  have wl : Word "elm" := .inl rfl
  have s1 := m1.mono (m := 2000) (by decide)
  have s2 := m2.mono (m := 2000) (by decide)
  have s3 : Sm 2000 ((placeOf r n : Int) * shareOf W r + ((placeOf r n + 1 : Int) : Rat) * shareOf W r) := (sm_add' m1 m2).mono (by decide)
  have s4 : Sm 2000 (unit1 2) := (sm_unit (by decide) (by decide)).mono (by decide)
  refine dr_seq (ds_asgG (d := strD W r n) (dv_call (ds := [encW W, encRows rows, .str "elm", .int n, .int day]) ?_ (pr_find g.web g.rows_ wl g.d0 hh)) (dg_tup (ds := [.int (r.road : Nat), encR ((placeOf r n : Int) * shareOf W r), encR (((placeOf r n + 1 : Int) : Rat) * shareOf W r)]) (dgs_cons (dgs_cons (dgs_cons dgs_nil))))) (dr_seq (ds_asg (d := .list (L.map encT)) (dv_is (dv_call (ds := [encW W, encRows rows, .str "elm", .int n, .int day, .int upto]) ?_ (pr_later g.web g.rows_ wl g.d0 g.d1 hh g.pos)) l2)) (dr_seq (ds_asg (d := encR (midOf W r n)) ?_) (dr_retI (d := .bool (PyData.eqv (.list [.int due]) (.list [.int due]) && PyData.eqv (.list (L.map encT)) (.list (L.map encT)))) (dv_and ?_ fun _ => ?_) ?_)))
  · walk_at "da"
  · walk_at "da"
  · have e : midOf W r n = ((placeOf r n : Int) * shareOf W r + ((placeOf r n + 1 : Int) : Rat) * shareOf W r) * unit1 2 := (half_mul _).symm
    rw [e]
    refine dv_call (ds := [encR ((placeOf r n : Int) * shareOf W r + ((placeOf r n + 1 : Int) : Rat) * shareOf W r), encR (unit1 2)]) (da_cons (dv_call (ds := [encR ((placeOf r n : Int) * shareOf W r), encR (((placeOf r n + 1 : Int) : Rat) * shareOf W r)]) (da_cons (dv_var rfl) (da_cons (dv_var rfl) da_nil)) (pr_two s1 s2 trivial)) (da_cons ?_ da_nil)) (pr_two s3 s4 trivial)
    rw [enc_unit (by decide)]
    walk_at "dv"
  · refine dv_op (d := .list [.int due]) (dv_is (dv_call (ds := [.list (L.map encT)]) (da_cons (dv_var rfl) da_nil) (pr_elm l0 l1)) (by rw [l3])) ?_ (d2_eq rfl rfl)
    walk_at "dv"
  · refine dv_op (dv_var rfl) (dv_is (f := .list (L.map encT)) (dv_call (ds := [encW W, encRows rows, encSpot r.road (midOf W r n), .int upto]) (da_cons (dv_var rfl) (da_cons (dv_var rfl) (da_cons (dv_tup (ds := [.int (r.road : Nat), encR (midOf W r n)]) (da_cons (dv_var rfl) (da_cons (dv_var rfl) da_nil)) (Nat.le_of_ble_eq_true rfl)) (da_cons (dv_var rfl) da_nil)))) (pr_numbersat g.rows_ spot (by have := g.d0; have := g.d1; omega))) l2) (d2_eq (shaped_ts l1) (shaped_ts l1))
  · rw [eqv_ts]
    have e : PyData.eqv (.list [.int due]) (.list [.int due]) = (PyData.eqv (.int due) (.int due) && true) := rfl
    rw [e, eqv_int, decide_eq_true rfl]
    rfl
end
end Ow
/-! ## part Ow20 -/
set_option Elab.async false
set_option linter.all false
set_option maxRecDepth 100000
set_option maxHeartbeats 4000000
namespace Ow
open PySem PySem.Spec PyProof.Rows L2
open Evl (Ex Ex.refl Ex.trans Ex.new ex_rd ex_l ex_t fresh_back)
local macro_rules | `(tactic| walk_at "pr") => `(tactic| assumption)
local macro_rules | `(tactic| walk_at "side") => `(tactic| first | assumption | rfl | decide)
local macro_rules | `(tactic| walk_at "d2") => `(tactic| first
  | exact d2_add | exact d2_sub | exact d2_lt | exact d2_le | exact d2_gt | exact d2_ge
  | exact d2_ixT 0 rfl rfl | exact d2_ixT 1 rfl rfl | exact d2_ixT 2 rfl rfl | exact d2_ixT 3 rfl rfl | exact d2_ixT 4 rfl rfl | exact d2_ixT 5 rfl rfl | exact d2_ixT 6 rfl rfl
  | exact d2_ixL 0 rfl rfl | exact d2_ixL 1 rfl rfl | exact d2_ixL 2 rfl rfl
  | exact d2_mul (by walk_at "side") | exact d2_div (by walk_at "side") | exact d2_mod (by walk_at "side")
  | exact d2_eq (by walk_at "side") (by walk_at "side") | exact d2_ne (by walk_at "side") (by walk_at "side") | walk_at "pr")
local macro_rules | `(tactic| walk_at "dc") => `(tactic| first
  | exact dc_len rfl | exact dc_lenL rfl | exact dc_abs | exact dc_max | exact dc_min | exact dc_all | exact dc_any | exact dc_list | exact dc_tuple | walk_at "pr")
local macro_rules | `(tactic| walk_at "da") => `(tactic| first
  | exact da_nil
  | (refine' da_cons ?k1 ?k2; (case k1 => walk_at "dv"); (case k2 => walk_at "da")))
local macro_rules | `(tactic| walk_at "dv") => `(tactic| first
  | exact dv_var rfl | exact dv_int | exact dv_str | exact dv_bl | exact dv_non
  | (refine' dv_call ?k1 ?k2 ?k3; (case k1 => walk_at "da"); (case k2 => walk_at "pr"); (case k3 => rfl))
  | (refine' dv_isi (b := true) ?k1 ?k2 ?k3; (case k1 => walk_at "dv"); (case k2 => first | exact .int _ | exact .tup _ | exact .str _ | exact .bl _); (case k3 => exact kit_ty (by decide +kernel)))
  | (refine' dv_isi (b := false) ?k1 ?k2 ?k3; (case k1 => walk_at "dv"); (case k2 => first | exact .int _ | exact .tup _ | exact .str _ | exact .bl _); (case k3 => exact kit_ty (by decide +kernel)))
  | (refine' dv_cb ?k1 ?k2; (case k1 => walk_at "da"); (case k2 => walk_at "dc"))
  | (refine' dv_op ?k1 ?k2 ?k3; (case k1 => walk_at "dv"); (case k2 => walk_at "dv"); (case k3 => walk_at "d2"))
  | (refine' dv_tup ?k1 ?k2; (case k1 => walk_at "da"); (case k2 => first | exact Nat.le_of_ble_eq_true rfl | walk_at "side"))
  | (refine' dv_lst ?k1 ?k2; (case k1 => walk_at "da"); (case k2 => first | exact Nat.le_of_ble_eq_true rfl | walk_at "side"))
  | (refine' dv_and ?k1 ?k2; (case k1 => walk_at "dv"); (case k2 => intro _; walk_at "dv"))
  | (refine' dv_notV ?k1; (case k1 => walk_at "dv"))
  | (refine' dv_chain ?k1 ?k2 ?k3 ?k4 ?k5; (case k1 => walk_at "dv"); (case k2 => walk_at "dv"); (case k3 => walk_at "d2"); (case k4 => intro _; walk_at "dv"); (case k5 => intro _; walk_at "d2"))
  | walk_at "pr")
local macro_rules | `(tactic| walk_at "dt") => `(tactic| first
  | (refine' dt_test ?k1; (case k1 => walk_at "dv"))
  | (refine' dt_B ?k1; (case k1 => walk_at "dv"))
  | (refine' dt_not ?k1; (case k1 => walk_at "dt"))
  | (refine' dt_or ?k1 ?k2; (case k1 => walk_at "dt"); (case k2 => intro _; walk_at "dt"))
  | (refine' dt_and ?k1 ?k2; (case k1 => walk_at "dt"); (case k2 => intro _; walk_at "dt"))
  | walk_at "pr")
local macro_rules | `(tactic| walk_at "no") => `(tactic| first | rfl | assumption | (simp [*]; done))
local macro_rules | `(tactic| walk_at "fin") => `(tactic| first | rfl | assumption | (simp [*]; done))
local macro_rules | `(tactic| walk_at "dr") => `(tactic| first
  | (refine' dr_retI ?k1 ?k2; (case k1 => walk_at "dv"); (case k2 => walk_at "fin"))
  | (refine' dr_unless ?k1 ?k2 ?k3; (case k1 => walk_at "dt"); (case k2 => walk_at "no"); (case k3 => walk_at "dr"))
  | (refine' dr_seq (ds_asg ?k1) ?k2; (case k1 => walk_at "dv"); (case k2 => walk_at "dr"))
  | (refine' dr_seq (ds_drop ?k1) ?k2; (case k1 => walk_at "dv"); (case k2 => walk_at "dr"))
  | (refine' dr_seq (ds_par ?k1 ?k2) ?k3; (case k1 => walk_at "dv"); (case k2 => walk_at "dv"); (case k3 => walk_at "dr"))
  | (refine' dr_seq (ds_asgG ?k1 ?k2) ?k3; (case k1 => walk_at "dv"); (case k2 => walk_at "dg"); (case k3 => walk_at "dr")))
local macro_rules | `(tactic| walk_at "dg") => `(tactic| first
  | exact dg_name
  | exact dg_tup (dgs_cons (dgs_cons dgs_nil))
  | exact dg_tup (dgs_cons (dgs_cons (dgs_cons dgs_nil)))
  | exact dg_tup (dgs_cons (dgs_cons (dgs_cons (dgs_cons dgs_nil))))
  | exact dg_tup (dgs_cons (dgs_cons (dgs_cons (dgs_cons (dgs_cons (dgs_cons (dgs_cons dgs_nil))))))))

section
variable {K : PySem.W.Frag} {ρ : Rho} {M : Store} {ts tv : TS}
/-- what is returned, as a value -/
def Erv (K : PySem.W.Frag) (ts : TS) (ρ : Rho) (M : Store) (R : V → Hp → Hp → Prop) : Prop := ∀ (D : Ends) (G : Hp) (σ : L2.St) (H : Hp), Ex G H → Sls K G σ ρ → Mt K G H M → (∀ v G2 H2, R v G2 H2 → Ex G G2 → Ex G2 H2 → D.rt v H2) → ts D σ H
theorem erv_seq {R : V → Hp → Hp → Prop} (h : Es K ts ρ M fun ρ1 M1 => Erv K tv ρ1 M1 R) : Erv K (tSeq ts tv) ρ M R := fun D G σ H x E m k =>
  h { D with nx := tv D } G σ H x E m fun ρ1 M1 σ1 G1 H1 hb e1 i1 m1 E1 => hb D G1 σ1 H1 i1 E1 m1 fun v G2 H2 q e2 i2 => k v G2 H2 q (e1.trans e2) i2
theorem erv_pair {R : V → Hp → Hp → Prop} {i j : Nat} {n : Int} {q : Addr} (hi : ρ[i]? = some (some (.d (.int n)))) (hj : ρ[j]? = some (some (.a q))) (h : ∀ t G2 H2, SqT K H2 t [.int n, .ref q] → Mt K G2 H2 M → R (.ref t) G2 H2) : Erv K (tRet (tTup (tCons (tVar i) (tCons (tVar j) tNil)))) ρ M R := fun D G σ H x E m k => by
  obtain ⟨v, h1, h2⟩ := E.dat hi
  cases h2
  refine ⟨.int n, h1, .ref q, E.adr hj, small_sz (Nat.le_of_ble_eq_true rfl), fun t ht => ?_⟩
  have nn := new_up (o := .tup [.int n, .ref q]) x ht
  exact k (.ref t) _ _ (h t _ _ (.inl (.inl upd_same)) (m.gr nn)) nn.g nn.i
end
def elmRow (k : Nat) (f s c a b : Int) : Row := ⟨"elm", k, f, f + s * (c - 1), s, a, b⟩
def Fs (f s : Int) : Prop := 1 ≤ f ∧ f ≤ 300 ∧ 1 ≤ s ∧ s ≤ 2
def Three (k : Nat) (more : Int) (rows : List Row) : Prop := ∃ m d1 d2 f0 s0 f1 s1 f2 s2 : Int, (1 ≤ m ∧ m ≤ 9) ∧ (1 ≤ more ∧ more ≤ 4) ∧ (1 ≤ d1 ∧ d1 ≤ 6) ∧ (d1 < d2 ∧ d2 ≤ 12) ∧ Fs f0 s0 ∧ Fs f1 s1 ∧ Fs f2 s2 ∧
  rows = [elmRow k f0 s0 m 0 d1, elmRow k f1 s1 (m * more) d1 d2, elmRow k f2 s2 m d2 30]
def spThree (K : PySem.W.Frag) : Sp := fun vs H Q _ => ∃ G p st k M, vs = [.ref p, .int (k : Nat)] ∧ Ex G H ∧ Mt K G H ((p, st) :: M) ∧ OkS st ∧ ∀ st' more rows q t G2 H2, OkS st' → Three k more rows → Ex G G2 → Ex G2 H2 → Mt K G2 H2 ((p, st') :: (M ++ [(q, rows.map encRow)])) → SqT K H2 t [.int more, .ref q] → Q (.ref t) H2
section
variable {P : Program} {w : World} {K : PySem.W.Frag} {mg : Str → Option Value} {base : Heap}
theorem es_three {ρ : Rho} {i j a b : Nat} {p : Addr} {st : List PyData} {k : Nat} {M : Store} {Rs : Rho → Store → Prop} {E0 : XK} (hi : ρ[i]? = some (some (.a p))) (hj : ρ[j]? = some (some (.d (.int (k : Nat))))) (ok : OkS st) (h : ∀ st' more rows q, OkS st' → Three k more rows → Rs ((ρ.set a (some (.d (.int more)))).set b (some (.a q))) ((p, st') :: (M ++ [(q, rows.map encRow)]))) :
    Es K (tAsg (tCall (spThree K) [] E0 (tCons (tVar i) (tCons (tVar j) tNil))) (gTup K 2 (gCons (gName a) (gCons (gName b) gNil)))) ρ ((p, st) :: M) Rs := fun D G σ H x E m kk => by
  obtain ⟨v, h1, h2⟩ := E.dat hj
  cases h2
  refine ⟨.ref p, E.adr hi, .int (k : Nat), h1, ?_⟩
  refine ⟨G, p, st, k, M, rfl, x, m, ok, fun st' more rows q t G2 H2 ok' th e2 i2 m2 ht => ?_⟩
  refine ⟨t, _, rfl, ht, rfl, _, _, rfl, _, _, rfl, rfl, ?_⟩
  exact kk _ _ _ G2 H2 (h st' more rows q ok' th) e2 i2 m2 (((E.ex e2).set (.int more)).setA)
theorem sc_law_three_rows : FnScope ["_law_state_here", "_law_road", "_law_many", "_law_more", "_law_days", "_law_found", "_law_at", "_law_count", "_law_first", "_law_step"] ["_law_state_here", "_law_road"] (defScope (top 77)) := ⟨rfl, rfl, rfl, by decide +kernel, rfl, by decide +kernel, by decide +kernel⟩
theorem has_three (T : Tx K mg) (F : Def K mg "_law_three_rows" (top 77) []) (h_law_choice : Has P w K mg base "_law_choice" ["_law_state_here", "_law_many"] 1 (spCh K)) : Has P w K mg base "_law_three_rows" ["_law_state_here", "_law_road"] 2 (spThree K) := by
  obtain ⟨f, fd, F, hm⟩ := F
  refine ⟨f, fd, FunD.ok F sc_law_three_rows (fun vs H Q E z => by obtain ⟨G, p, st, k, M, e, _⟩ := z; rw [e]; rfl) fun cdv A outer s H vs Q E hr z => ?_, hm, F.kp, F.bindsN (fun _ _ _ _ _ _ us hl => match us, hl with | [_, _], _ => rfl)⟩
  refine ⟨_, PSs.nox (pss_cons (ps_par (i := 2) (j := 3) (by rfl) sc_law_three_rows.nd rfl rfl (by decide) rfl rfl (pa_cons (pe_op op_add pe_int (pe_callH h_law_choice hr (by decide) (by rfl) (pa_cons (pv 0) (pa_cons pe_int pa_nil)))) (pa_cons (pe_op op_add pe_int (pe_callH h_law_choice hr (by decide) (by rfl) (pa_cons (pv 0) (pa_cons pe_int pa_nil)))) pa_nil)) (by rfl))
    (pss_cons (ps_par (i := 4) (j := 5) (by rfl) sc_law_three_rows.nd rfl rfl (by decide) rfl rfl (pa_cons (pe_lst (pa_cons pe_int (pa_cons (pe_op op_add pe_int (pe_callH h_law_choice hr (by decide) (by rfl) (pa_cons (pv 0) (pa_cons pe_int pa_nil)))) pa_nil))) (pa_cons (pe_lst pa_nil) pa_nil)) (by rfl))
    (pss_cons (ps_set (i := 4) sc_law_three_rows.nd rfl (by first | exact Or.inl rfl | exact Or.inr rfl) (pe_op op_cat (pv 4) (pe_lst (pa_cons (pe_op op_add (pe_op op_add (pe_ix ix_list (pv 4) pe_int (fun _ _ => rfl)) pe_int) (pe_callH h_law_choice hr (by decide) (by rfl) (pa_cons (pv 0) (pa_cons pe_int pa_nil)))) (pa_cons pe_int pa_nil)))))
    (pss_cons (ps_for PassesOwn.never rfl (pi_enum (by rfl) T.f_enumerate (pa_cons (pe_lst (pa_cons (pv 2) (pa_cons (pe_op op_mulW (pv 2) (pv 3)) (pa_cons (pv 2) pa_nil)))) pa_nil)) (pg_tup (by rfl) (pgs_cons (pg_name (i := 6) sc_law_three_rows.nd rfl (by first | exact Or.inl rfl | exact Or.inr rfl)) (pgs_cons (pg_name (i := 7) sc_law_three_rows.nd rfl (by first | exact Or.inl rfl | exact Or.inr rfl)) pgs_nil))) (pss_cons (ps_par (i := 8) (j := 9) (by rfl) sc_law_three_rows.nd rfl rfl (by decide) rfl rfl (pa_cons (pe_op op_add pe_int (pe_callH h_law_choice hr (by decide) (by rfl) (pa_cons (pv 0) (pa_cons pe_int pa_nil)))) (pa_cons (pe_op op_add pe_int (pe_callH h_law_choice hr (by decide) (by rfl) (pa_cons (pv 0) (pa_cons pe_int pa_nil)))) pa_nil)) (by rfl))
    (pss_one (ps_expr (pe_bm PySem.F.plainAttrs_list PySem.F.slot_list_append PySem.F.type_list_append mt_append (pv 5) (pa_cons (pe_tup (pa_cons pe_str (pa_cons (pv 1) (pa_cons (pv 8) (pa_cons (pe_op op_add (pv 8) (pe_op op_mulW (pv 9) (pe_op op_sub (pv 7) pe_int))) (pa_cons (pv 9) (pa_cons (pe_ix ix_list (pv 4) (pv 6) (fun _ _ => rfl)) (pa_cons (pe_ix ix_list (pv 4) (pe_op op_add (pv 6) pe_int) (fun _ _ => rfl)) pa_nil)))))))) pa_nil))))))
    (pss_one (ps_ret (pe_tup (pa_cons (pv 3) (pa_cons (pv 5) pa_nil))))))))), ?_⟩
  obtain ⟨G, p, st0, k, M, rfl, e, m0, ok0, q⟩ := z
  refine (?_ : Erv K _ (startS _ p [.int (k : Nat)]) ((p, st0) :: M) fun v G2 H2 => ∃ st' more rows q t, OkS st' ∧ Three k more rows ∧ Mt K G2 H2 ((p, st') :: (M ++ [(q, rows.map encRow)])) ∧ SqT K H2 t [.int more, .ref q] ∧ v = .ref t) _ G _ H e (start_slsS (N := ["_law_state_here", "_law_road", "_law_many", "_law_more", "_law_days", "_law_found", "_law_at", "_law_count", "_law_first", "_law_step"]) (.cons (.int (k : Nat)) .nil)) m0 (fun v G2 H2 ⟨st', more, rows, q', t, a1, a2, a3, a4, a5⟩ e2 i2 => by subst a5; exact q st' more rows q' t G2 H2 a1 a2 e2 i2 a3 a4)
  -- many, more
  refine erv_seq (es_par (ea_cons (ev_op (ev_pure dv_int (ev_st (p := p) (st := st0) rfl (ea_cons (ev_pure dv_int (ea_nil ⟨rfl, st0, _, rfl, ⟨ok0, 9, rfl, by decide, by decide⟩, fun d st1 po => ?_⟩))))))))
  obtain ⟨ok1, n, r1, hn, rfl, h0, h1⟩ := po
  have hn := one_int hn
  subst hn
  refine ⟨_, d2_add, ea_cons (ev_op (ev_pure dv_int (ev_st (p := p) (st := st1) rfl (ea_cons (ev_pure dv_int (ea_nil ⟨rfl, st1, _, rfl, ⟨ok1, 4, rfl, by decide, by decide⟩, fun d st2 po => ?_⟩))))))⟩
  obtain ⟨ok2, n, r2, hn, rfl, h2, h3⟩ := po
  have hn := one_int hn
  subst hn
  refine ⟨_, d2_add, ea_nil ⟨_, _, rfl, ?_⟩⟩
  have bm : 1 ≤ 1 + r1 ∧ 1 + r1 ≤ 9 := by omega
  have br : 1 ≤ 1 + r2 ∧ 1 + r2 ≤ 4 := by omega
  generalize 1 + r1 = m at bm ⊢
  generalize 1 + r2 = more at br ⊢
  clear h0 h1 h2 h3
  -- days, found
  refine erv_seq (es_new2 (ea_cons (ev_pure dv_int (ea_cons (ev_op (ev_pure dv_int (ev_st (p := p) (st := st2) rfl (ea_cons (ev_pure dv_int (ea_nil ⟨rfl, st2, _, rfl, ⟨ok2, 6, rfl, by decide, by decide⟩, fun d st3 po => ?_⟩))))))))))
  obtain ⟨ok3, n, r3, hn, rfl, h0, h1⟩ := po
  have hn := one_int hn
  subst hn
  refine ⟨_, d2_add, ea_nil ⟨Nat.le_of_ble_eq_true rfl, fun pd pf => ?_⟩⟩
  have bd1 : 1 ≤ 1 + r3 ∧ 1 + r3 ≤ 6 := by omega
  generalize 1 + r3 = d1 at bd1 ⊢
  clear h0 h1
  -- days = days + ..
  refine erv_seq (es_asg (ev_cat (i := 4) (p := pd) rfl (ea_cons (ev_op (ev_flat [(4, [.int 0, .int d1])] (look1 (p := pd) rfl (by simp)) (d := .int (d1 + 1)) ?_ (.int _) (ev_st (p := p) (st := st3) rfl (ea_cons (ev_pure dv_int (ea_nil ⟨rfl, st3, _, rfl, ⟨ok3, 6, rfl, by decide, by decide⟩, fun d st4 po => ?_⟩)))))))))
  · walk_at "dv"
  obtain ⟨ok4, n, r4, hn, rfl, h0, h1⟩ := po
  have hn := one_int hn
  subst hn
  refine ⟨_, d2_add, ea_cons (ev_pure dv_int (ea_nil ⟨[.int 0, .int d1], by simp, Nat.le_of_ble_eq_true rfl, Nat.le_of_ble_eq_true rfl, ?_⟩))⟩
  have bd2 : d1 < d1 + 1 + r4 ∧ d1 + 1 + r4 ≤ 12 := by omega
  generalize d1 + 1 + r4 = d2 at bd2 ⊢
  clear h0 h1
  -- the loop
  have c1 : CMulW m more := wide_mul (a := 4) (b := 4) (by have e : (2 : Nat) ^ 4 = 16 := rfl; omega) (by have e : (2 : Nat) ^ 4 = 16 := rfl; omega) (by decide) (by decide) (by decide)
  have hmm : 1 ≤ m * more ∧ m * more ≤ 36 := by
    obtain ⟨a, b⟩ := bm
    obtain ⟨c, d⟩ := br
    have h : more = 1 ∨ more = 2 ∨ more = 3 ∨ more = 4 := by omega
    rcases h with rfl | rfl | rfl | rfl <;> omega
  refine erv_seq (es_for (ew_pure (xs := nums [.int m, .int (m * more), .int m]) (dw_enum (da_cons ?_ da_nil)) ⟨fun i ρ' M' => ρ' = [some (.a p), some (.d (.int (k : Nat))), some (.d (.int m)), some (.d (.int more)), some (.d (.list [.int 0, .int d1, .int d2, .int 30])), some (.a pf), none, none, none, none] ∧ ∃ st rows, M' = (p, st) :: ((M ++ [(pd, [.int 0, .int d1])]) ++ [(pf, rows.map encRow)]) ∧ OkS st ∧ rows.length = i ∧ ∀ (j : Nat) (r : Row), rows[j]? = some r → ∃ f s, Fs f s ∧ r = elmRow k f s ([m, m * more, m].getD j 0) ([0, d1, d2, 30].getD j 0) ([0, d1, d2, 30].getD (j + 1) 0), ⟨rfl, st4, [], rfl, ok4, rfl, fun j r hj => by cases hj⟩, fun i x ρ' M' hx hI => ?_, fun ρ' M' hI => ?_⟩))
  · walk_at "dv"
  · obtain ⟨rfl, st, rows, rfl, ok, hlen, hrows⟩ := hI
    have hi : i < 3 := by
      have := (List.getElem?_eq_some_iff.mp hx).1
      rw [nums_len] at this
      exact this
    obtain ⟨c, hc, bc⟩ : ∃ c : Int, [m, m * more, m].getD i 0 = c ∧ 1 ≤ c ∧ c ≤ 36 := by
      have h : i = 0 ∨ i = 1 ∨ i = 2 := by omega
      rcases h with rfl | rfl | rfl
      · exact ⟨m, rfl, by omega⟩
      · exact ⟨m * more, rfl, by omega⟩
      · exact ⟨m, rfl, by omega⟩
    have hci : [PyData.int m, .int (m * more), .int m][i]? = some (.int c) := by
      rw [← hc]
      have h : i = 0 ∨ i = 1 ∨ i = 2 := by omega
      rcases h with rfl | rfl | rfl <;> rfl
    obtain ⟨a, ha⟩ : ∃ a : Int, [0, d1, d2, 30].getD i 0 = a := ⟨_, rfl⟩
    obtain ⟨b, hb⟩ : ∃ b : Int, [0, d1, d2, 30].getD (i + 1) 0 = b := ⟨_, rfl⟩
    have hai : [PyData.int 0, .int d1, .int d2, .int 30][i]? = some (.int a) := by
      rw [← ha]
      have h : i = 0 ∨ i = 1 ∨ i = 2 := by omega
      rcases h with rfl | rfl | rfl <;> rfl
    have hbi : [PyData.int 0, .int d1, .int d2, .int 30][i + 1]? = some (.int b) := by
      rw [← hb]
      have h : i = 0 ∨ i = 1 ∨ i = 2 := by omega
      rcases h with rfl | rfl | rfl <;> rfl
    have hx2 := nums_at hci
    rw [hx] at hx2
    have hx2 := Option.some.inj hx2
    subst hx2
    refine ⟨_, dg_tup (ds := [.int (i : Nat), .int c]) (dgs_cons (dgs_cons dgs_nil)), es_forget [6, 7, 8, 9] (es_seq (es_par (ea_cons (ev_op (ev_pure dv_int (ev_st (p := p) (st := st) rfl (ea_cons (ev_pure dv_int (ea_nil ⟨rfl, st, _, rfl, ⟨ok, 300, rfl, by decide, by decide⟩, fun d st5 po => ?_⟩)))))))))⟩
    obtain ⟨ok5, n, r5, hn, rfl, h0, h1⟩ := po
    have hn := one_int hn
    subst hn
    refine ⟨_, d2_add, ea_cons (ev_op (ev_pure dv_int (ev_st (p := p) (st := st5) rfl (ea_cons (ev_pure dv_int (ea_nil ⟨rfl, st5, _, rfl, ⟨ok5, 2, rfl, by decide, by decide⟩, fun d st6 po => ?_⟩))))))⟩
    obtain ⟨ok6, n, r6, hn, rfl, h2, h3⟩ := po
    have hn := one_int hn
    subst hn
    refine ⟨_, d2_add, ea_nil ⟨_, _, rfl, ?_⟩⟩
    have fs : Fs (1 + r5) (1 + r6) := ⟨by omega, by omega, by omega, by omega⟩
    generalize 1 + r5 = f at fs ⊢
    generalize 1 + r6 = s' at fs ⊢
    obtain ⟨f1, f2, f3, f4⟩ := id fs
    have c2 : CMulW s' (c - 1) := wide_mul (a := 4) (b := 6) (by have e : (2 : Nat) ^ 4 = 16 := rfl; omega) (by have e : (2 : Nat) ^ 6 = 64 := rfl; omega) (by decide) (by decide) (by decide)
    refine es_append (i := 5) (p := pf) rfl (by simp) (ev_pure (d := encRow (elmRow k f s' c a b)) ?_ ⟨rows.map encRow, _, perm_end _ _ _, by rw [List.length_map]; omega, (p, st6) :: ((M ++ [(pd, [.int 0, .int d1])]) ++ [(pf, (rows ++ [elmRow k f s' c a b]).map encRow)]), ?_, ⟨rfl, st6, rows ++ [elmRow k f s' c a b], rfl, ok6, by rw [List.length_append, hlen]; rfl, fun j r hj => ?_⟩⟩)
    · refine dv_tup (ds := [.str "elm", .int (k : Nat), .int f, .int (f + s' * (c - 1)), .int s', .int a, .int b]) (da_cons dv_str (da_cons (dv_var rfl) (da_cons (dv_var rfl) (da_cons ?_ (da_cons (dv_var rfl) (da_cons (dv_op (dv_var rfl) (dv_var rfl) (d2_ixL i rfl hai)) (da_cons (dv_op (dv_var rfl) (dv_op (dv_var rfl) dv_int d2_add) (d2_ixL (i + 1) rfl hbi)) da_nil))))))) (Nat.le_of_ble_eq_true rfl)
      walk_at "dv"
    · rw [List.map_append]
      exact (perm_end _ _ _).symm
    · by_cases hj2 : j < rows.length
      · rw [List.getElem?_append_left hj2] at hj
        exact hrows j r hj
      · have hj3 := (List.getElem?_eq_some_iff.mp hj).1
        rw [List.length_append, List.length_singleton] at hj3
        have ej : j = i := by omega
        subst ej
        rw [List.getElem?_append_right (by omega), hlen, Nat.sub_self] at hj
        have hj := Option.some.inj hj
        subst hj
        exact ⟨f, s', fs, by rw [hc, ha, hb]⟩
  · obtain ⟨rfl, st, rows, rfl, ok, hlen, hrows⟩ := hI
    rw [nums_len] at hlen
    refine erv_pair (i := 3) (j := 5) (n := more) (q := pf) rfl rfl fun t G2 H2 ht mm => ⟨st, more, rows, pf, t, ok, ?_, mm.sub ?_, ht, rfl⟩
    · match rows, hlen, hrows with
      | [x0, x1, x2], _, hrows =>
        obtain ⟨f0, s0, g0, e0⟩ := hrows 0 x0 rfl
        obtain ⟨f1, s1, g1, e1⟩ := hrows 1 x1 rfl
        obtain ⟨f2, s2, g2, e2⟩ := hrows 2 x2 rfl
        exact ⟨m, d1, d2, f0, s0, f1, s1, f2, s2, bm, br, bd1, bd2, g0, g1, g2, by rw [e0, e1, e2]; rfl⟩
    · refine List.Sublist.cons_cons _ ?_
      exact List.Sublist.append_right (List.sublist_append_left _ _) _
end
end Ow
/-! ## part OwP -/
set_option Elab.async false
set_option linter.all false
set_option maxRecDepth 100000
set_option maxHeartbeats 4000000
/-! OwP: the plain law. -/
namespace Ow
open PySem PySem.Spec PyProof.Rows L2
open PySem.W (alike dataLt dataLe)
/-! ### sorted rows -/
theorem perm_map_ex {α β : Type} {f : α → β} : ∀ {S T : List β}, S.Perm T → ∀ L0 : List α, T = L0.map f → ∃ L : List α, L.Perm L0 ∧ S = L.map f := by
  intro S T h
  induction h with
  | nil =>
    intro L0 e
    exact ⟨L0, .refl _, e⟩
  | @cons x l1 l2 h ih =>
    intro L0 e
    cases L0 with
    | nil => cases e
    | cons a L1 =>
      rw [List.map_cons] at e
      injection e with e1 e2
      obtain ⟨L, p, e3⟩ := ih L1 e2
      exact ⟨a :: L, p.cons a, by rw [List.map_cons, ← e1, ← e3]⟩
  | swap x y l =>
    intro L0 e
    cases L0 with
    | nil => cases e
    | cons a L1 =>
      rw [List.map_cons] at e
      injection e with e1 e2
      cases L1 with
      | nil => cases e2
      | cons b L2 =>
        rw [List.map_cons] at e2
        injection e2 with e2 e3
        exact ⟨b :: a :: L2, .swap _ _ _, by rw [List.map_cons, List.map_cons, ← e1, ← e2, ← e3]⟩
  | trans h1 h2 ih1 ih2 =>
    intro L0 e
    obtain ⟨L, p, e2⟩ := ih2 L0 e
    obtain ⟨L', p', e3⟩ := ih1 L e2
    exact ⟨L', p'.trans p, e3⟩
abbrev leD : PyData → PyData → Bool := dataLe false fun d => d
theorem sort_ex {α : Type} (f : α → PyData) (l : List α) : ∃ R : List α, R.Perm l ∧ (l.map f).mergeSort leD = R.map f := perm_map_ex (List.mergeSort_perm _ _) l rfl
theorem sort_pair (l : List PyData) : (l.mergeSort leD).Pairwise fun a b => leD a b = true := by
  have t := PySem.W.sortLe_total (PyProof.Rows.listOrd PyProof.Rows.itemOrd) false fun d => PySem.W.keyToks d
  exact List.pairwise_mergeSort t.trans (fun a b => by
    rw [Bool.or_eq_true]
    exact t.total a b) l
theorem lt_of_le {d e : PyData} (al : alike d e = true) (ne : PyData.eqv d e = false) (h : leD d e = true) : dataLt d e = true := by
  have h1 : (!PyProof.Rows.lexLt PyProof.Rows.itemOrd (PySem.W.keyToks e) (PySem.W.keyToks d)) = true := h
  cases hlt : dataLt d e with
  | true => rfl
  | false =>
    have h2 : PyProof.Rows.lexLt PyProof.Rows.itemOrd (PySem.W.keyToks d) (PySem.W.keyToks e) = false := hlt
    have h3 : PyProof.Rows.lexLt PyProof.Rows.itemOrd (PySem.W.keyToks e) (PySem.W.keyToks d) = false := by
      rw [Bool.not_eq_true'] at h1
      exact h1
    have heq : PySem.W.keyToks d = PySem.W.keyToks e := (PyProof.Rows.listOrd PyProof.Rows.itemOrd).total _ _ h2 h3
    have z := (PySem.W.toks_eqv d e al).2 ne [] [.inl 0]
    rw [heq] at h2
    rw [heq, PySem.W.lex_pre, h2] at z
    exact absurd z (by decide)
theorem eqv_row_ne {a b : Row} (h : a ≠ b) : PyData.eqv (encRow a) (encRow b) = false := by
  cases hq : PyData.eqv (encRow a) (encRow b) with
  | false => rfl
  | true =>
    refine absurd ?_ h
    have e : PyData.eqv (encRow a) (encRow b) = (PyData.eqv (.str a.street) (.str b.street) && (PyData.eqv (.int (a.road : Nat)) (.int (b.road : Nat)) && (PyData.eqv (.int a.first) (.int b.first) && (PyData.eqv (.int a.last) (.int b.last) && (PyData.eqv (.int a.step) (.int b.step) && (PyData.eqv (.int a.since) (.int b.since) && (PyData.eqv (.int a.upto) (.int b.upto) && true))))))) := rfl
    rw [e] at hq
    simp only [eqv_int, eqv_str, Bool.and_eq_true, decide_eq_true_iff] at hq
    obtain ⟨h1, h2, h3, h4, h5, h6, h7, _⟩ := hq
    cases a
    cases b
    simp only [Row.mk.injEq]
    simp only at h1 h2 h3 h4 h5 h6 h7
    exact ⟨h1, by omega, h3, h4, h5, h6, h7⟩
theorem apart_symm {a b : Row} (h : Apart a b) : Apart b a := by
  rcases h with h | h | h
  · exact .inl fun e => h e.symm
  · exact .inr (.inr h)
  · exact .inr (.inl h)
theorem good_rows {W : Web} {l R : List Row} (hg : ∀ r ∈ l, GoodRow W r) (ha : l.Pairwise Apart) (hn : l.Nodup) (h12 : l.length ≤ 12) (hp : R.Perm l) (hs : (l.map encRow).mergeSort leD = R.map encRow) : GoodRows W R := by
  refine ⟨by rw [hp.length_eq]; exact h12, fun r hr => hg r (hp.mem_iff.mp hr), fun i d e hd he => ?_, fun i j a b hij hi hj => ?_⟩
  · rw [List.getElem?_map] at hd he
    obtain ⟨a, ha1, rfl⟩ := Option.map_eq_some_iff.mp hd
    obtain ⟨b, hb1, rfl⟩ := Option.map_eq_some_iff.mp he
    have ne : a ≠ b := by
      have nd := hp.nodup_iff.mpr hn
      obtain ⟨x1, y1⟩ := List.getElem?_eq_some_iff.mp ha1
      obtain ⟨x2, y2⟩ := List.getElem?_eq_some_iff.mp hb1
      have := List.pairwise_iff_getElem.mp nd i (i + 1) x1 x2 (Nat.lt_succ_self i)
      rw [y1, y2] at this
      exact this
    refine ⟨rfl, (fun z => nomatch (show PyData.tuple _ = PyData.none from z)), (show 1 ≤ 32 by decide), lt_of_le rfl (eqv_row_ne ne) ?_⟩
    have pw := sort_pair (l.map encRow)
    rw [hs, List.pairwise_map] at pw
    obtain ⟨x1, y1⟩ := List.getElem?_eq_some_iff.mp ha1
    obtain ⟨x2, y2⟩ := List.getElem?_eq_some_iff.mp hb1
    have := List.pairwise_iff_getElem.mp pw i (i + 1) x1 x2 (Nat.lt_succ_self i)
    rw [y1, y2] at this
    exact this
  · have pw : R.Pairwise Apart := (hp.pairwise_iff fun h => apart_symm h).mpr ha
    obtain ⟨x1, y1⟩ := List.getElem?_eq_some_iff.mp hi
    obtain ⟨x2, y2⟩ := List.getElem?_eq_some_iff.mp hj
    have := List.pairwise_iff_getElem.mp pw i j x1 x2 hij
    rw [y1, y2] at this
    exact this
/-- one row alone has the number on the day -/
theorem hit_of {W : Web} {R : List Row} (g : GoodRows W R) {r : Row} (hr : r ∈ R) {n day : Int} (hs : r.street = ("elm" : Str)) (hd : ofDay r day = true) (hn : hasN r n = true) : ∃ k, Hit R "elm" n day k r := by
  obtain ⟨k, hk⟩ := List.getElem?_of_mem hr
  refine ⟨k, hk, ?_, fun i r' hi hr' => ?_⟩
  · unfold hit
    rw [hs, hd, hn, decide_eq_true rfl]
    rfl
  · have ap := g.apart i k r' r hi hr' hk
    unfold hit
    rcases ap with h | h | h
    · rw [hs] at h
      rw [decide_eq_false h]
      rfl
    · have : ofDay r' day = false := by
        unfold ofDay at hd ⊢
        rw [Bool.and_eq_true, decide_eq_true_iff, decide_eq_true_iff] at hd
        rw [decide_eq_false (p := r'.since ≤ day) (by omega)]
        rfl
      rw [this, Bool.false_and, Bool.and_false]
    · have : ofDay r' day = false := by
        unfold ofDay at hd ⊢
        rw [Bool.and_eq_true, decide_eq_true_iff, decide_eq_true_iff] at hd
        rw [decide_eq_false (p := day < r'.upto) (by omega), Bool.and_false]
      rw [this, Bool.false_and, Bool.and_false]
/-! ### how long a road is -/
theorem absR_nonneg (q : Rat) : 0 ≤ absR q := by
  unfold absR
  by_cases h : q.num < 0
  · rw [if_pos h]
    have : ¬ 0 ≤ q := fun z => by
      have := Rat.num_nonneg.mpr z
      omega
    grind
  · rw [if_neg h]
    exact Rat.num_nonneg.mp (by omega)
theorem absR_zero {q : Rat} (h : absR q = 0) : q = 0 := by
  unfold absR at h
  split at h
  · grind
  · exact h
theorem dist_pos {p q : Rat × Rat} (h : p ≠ q) : 0 < dist p q := by
  unfold dist
  have a := absR_nonneg (p.1 - q.1)
  have b := absR_nonneg (p.2 - q.2)
  by_cases c : absR (p.1 - q.1) = 0
  · by_cases d : absR (p.2 - q.2) = 0
    · have c := absR_zero c
      have d := absR_zero d
      exact absurd (Prod.ext (by grind) (by grind)) h
    · grind
  · grind
theorem lsum_pos {L : List (Rat × Rat)} (h : ∀ (i : Nat) (p q : Rat × Rat), L[i]? = some p → L[i + 1]? = some q → p ≠ q) : ∀ n, n + 1 < L.length → 0 < lsum L (n + 1)
  | 0, hn => by
    have := dist_pos (h 0 _ _ (nth0_get (cs := L) (i := 0) (by omega)) (nth0_get (cs := L) (i := 1) hn))
    show 0 < 0 + _
    grind
  | n + 1, hn => by
    have a := lsum_pos h n (by omega)
    have b := dist_pos (h (n + 1) _ _ (nth0_get (cs := L) (i := n + 1) (by omega)) (nth0_get (cs := L) (i := n + 2) hn))
    show 0 < lsum L (n + 1) + _
    grind
theorem long_pos {W : Web} {k : Nat} (g : GoodWeb W) (hk : k < W.roads.length) : 0 < longAt W k := by
  obtain ⟨r, h1, h2⟩ := long_get hk
  rw [h2]
  have gr := g.good r (List.mem_of_getElem? h1)
  exact lsum_pos gr.step r.mid.length (by rw [line_len]; omega)
/-! ### the number at the middle -/
theorem div_cross {x y a b : Int} (hy : 0 < y) (hb : 0 < b) (h : x * b = a * y) : x / y = a / b := by
  rw [← Int.mul_ediv_mul_of_pos_left x y hb, h, Int.mul_comm y b, Int.mul_ediv_mul_of_pos_left a b hy]
section
variable {L q : Rat} {t M : Int}
theorem mid_cross (hM : 0 < M) (h : q = ((t : Rat) * (L * unit1 M) + ((t + 1 : Int) : Rat) * (L * unit1 M)) / 2) : q.num * L.den * (2 * M) = (2 * t + 1) * (q.den * L.num) := by
  have hm : (M : Rat) ≠ 0 := by
    intro z
    have := Rat.intCast_eq_zero_iff.mp z
    omega
  have hu : unit1 M = 1 / (M : Rat) := by
    unfold unit1
    rw [Rat.divInt_eq_div]
    rfl
  have e1 : ((t + 1 : Int) : Rat) = (t : Rat) + 1 := by
    rw [Rat.intCast_add]
    rfl
  rw [hu, e1] at h
  have key : q * (2 * (M : Rat)) = (2 * (t : Rat) + 1) * L := by
    rw [h]
    grind
  have hq := rat_eq q
  have hL := rat_eq L
  have d1 := den_ne q
  have d2 := den_ne L
  have key2 : (q.num : Rat) * (L.den : Rat) * (2 * (M : Rat)) = (2 * (t : Rat) + 1) * ((q.den : Rat) * (L.num : Rat)) := by
    generalize (q.num : Rat) = a at *
    generalize (L.num : Rat) = b at *
    generalize (q.den : Rat) = c at *
    generalize (L.den : Rat) = d at *
    subst hq hL
    grind
  have key3 : ((q.num * L.den * (2 * M) : Int) : Rat) = (((2 * t + 1) * (q.den * L.num) : Int) : Rat) := by
    simp only [Rat.intCast_mul, Rat.intCast_add, Rat.intCast_natCast]
    exact key2
  exact Rat.intCast_inj.mp key3
end
theorem mid_facts {W : Web} {r a : Row} {n t : Int} (hW : GoodWeb W) (g : GoodRow W r) (ga : GoodRow W a) (hroad : a.road = r.road) (ht : placeOf r n = t) (h0 : 0 ≤ t) (h1 : t < manyOf r) : 0 ≤ (midOf W r n).num ∧ ¬ longAt W r.road < midOf W r n ∧ numBy W a (midOf W r n) = a.first + a.step * ((2 * t + 1) * manyOf a / (2 * manyOf r)) := by
  obtain ⟨m1, m2⟩ := many_bd g
  have hL := long_pos hW g.road
  have cross := mid_cross (L := longAt W r.road) (q := midOf W r n) (t := t) (M := manyOf r) (by omega) (by
    unfold midOf shareOf
    rw [ht])
  unfold numBy
  rw [hroad]
  generalize longAt W r.road = L at *
  generalize midOf W r n = q at *
  have hLn : 0 < L.num := by
    have := (Rat.lt_iff 0 L).mp hL
    have e1 : (0 : Rat).num = 0 := rfl
    have e2 : (0 : Rat).den = 1 := rfl
    rw [e1, e2] at this
    omega
  have dq := den_pos q
  have dL := den_pos L
  have y0 : 0 < (q.den : Int) * L.num := Int.mul_pos dq hLn
  have hqn : 0 ≤ q.num := by
    by_cases c : 0 ≤ q.num
    · exact c
    · exfalso
      have x1 : q.num * L.den < 0 := Int.mul_neg_of_neg_of_pos (by omega) dL
      have x2 : q.num * L.den * (2 * manyOf r) < 0 := Int.mul_neg_of_neg_of_pos x1 (by omega)
      have x3 : 0 < (2 * t + 1) * ((q.den : Int) * L.num) := Int.mul_pos (by omega) y0
      omega
  have hlt : q < L := by
    rw [Rat.lt_iff]
    have x1 : (2 * t + 1) * ((q.den : Int) * L.num) < (2 * manyOf r) * ((q.den : Int) * L.num) := Int.mul_lt_mul_of_pos_right (by omega) y0
    rw [← cross, Int.mul_comm (2 * manyOf r)] at x1
    have x2 := Int.lt_of_mul_lt_mul_right x1 (by omega)
    rw [Int.mul_comm L.num]
    exact x2
  refine ⟨hqn, fun z => absurd (Rat.le_of_lt z) (Rat.not_le.mpr hlt), ?_⟩
  rw [if_pos hlt]
  congr 2
  refine div_cross y0 (by omega) ?_
  have e1 : q.num * L.den * manyOf a * (2 * manyOf r) = (q.num * L.den * (2 * manyOf r)) * manyOf a := by
    rw [Int.mul_right_comm]
  rw [e1, cross, Int.mul_right_comm]
/-! ### the three rows and the fourth -/
def oakRow (k : Nat) (c : Int) : Row := ⟨"oak", k, 1, 1 + c, 1, 0, 30⟩
theorem many_elm {k : Nat} {f s c a b : Int} (h : 1 ≤ s ∧ s ≤ 2) : manyOf (elmRow k f s c a b) = c := by
  show (f + s * (c - 1) - f) / s + 1 = c
  have e : s = 1 ∨ s = 2 := by omega
  rcases e with rfl | rfl <;> omega
theorem good_elm {W : Web} {k : Nat} {f s c a b : Int} (hk : k < W.roads.length) (h : Fs f s) (hc : 1 ≤ c ∧ c ≤ 36) (ha : 0 ≤ a) (hb : a < b) : GoodRow W (elmRow k f s c a b) := by
  obtain ⟨h1, h2, h3, h4⟩ := h
  have e : s = 1 ∨ s = 2 := by omega
  refine ⟨.inl rfl, hk, ⟨h1, by show f ≤ 999; omega⟩, ⟨?_, ?_⟩, ⟨h3, h4⟩, ?_, ha, hb⟩
  · show f ≤ f + s * (c - 1)
    rcases e with rfl | rfl <;> omega
  · show f + s * (c - 1) ≤ 999
    rcases e with rfl | rfl <;> omega
  · show (f + s * (c - 1) - f) % s = 0
    rcases e with rfl | rfl <;> omega
theorem good_oak {W : Web} {k : Nat} {c : Int} (hk : k < W.roads.length) (h : 0 ≤ c) (h2 : c < 20) : GoodRow W (oakRow k c) := by
  refine ⟨.inr rfl, hk, ⟨by show (1 : Int) ≤ 1; decide, by show (1 : Int) ≤ 999; decide⟩, ⟨by show (1 : Int) ≤ 1 + c; omega, by show 1 + c ≤ 999; omega⟩, ⟨by show (1 : Int) ≤ 1; decide, by show (1 : Int) ≤ 2; decide⟩, ?_, by show (0 : Int) ≤ 0; decide, by show (0 : Int) < 30; decide⟩
  show (1 + c - 1) % 1 = 0
  omega
theorem elm_oak : ("elm" : Str) ≠ "oak" := by decide +kernel
theorem place_elm {k : Nat} {f s c a b t : Int} (h : 1 ≤ s ∧ s ≤ 2) : placeOf (elmRow k f s c a b) (f + s * t) = t := by
  show (f + s * t - f) / s = t
  have e : s = 1 ∨ s = 2 := by omega
  rcases e with rfl | rfl <;> omega
theorem has_elmrow {k : Nat} {f s c a b t : Int} (h : 1 ≤ s ∧ s ≤ 2) (h0 : 0 ≤ t) (h1 : t < c) : hasN (elmRow k f s c a b) (f + s * t) = true := by
  show (decide (f ≤ f + s * t) && decide (f + s * t ≤ f + s * (c - 1)) && decide ((f + s * t - f) % s = 0)) = true
  have e : s = 1 ∨ s = 2 := by omega
  rcases e with rfl | rfl
  · rw [decide_eq_true (by omega), decide_eq_true (by omega), decide_eq_true (by omega)]
    rfl
  · rw [decide_eq_true (by omega), decide_eq_true (by omega), decide_eq_true (by omega)]
    rfl
/-- what is told on a day of which one elm row and the oak are -/
theorem told_of {W : Web} {R l : List Row} {k : Nat} {q : Rat} {upto : Int} {a o : Row} (hp : R.Perm l) (hf : l.filter (mineB k upto) = [a, o]) (ha : a.street = ("elm" : Str)) (ho : o.street = ("oak" : Str)) : ∃ L : List (Str × Int), L.length ≤ 100000 ∧ (∀ x ∈ L, Word x.1) ∧ toldD W R k q upto = .list (L.map encT) ∧ elmsOf L = [.int (numBy W a q)] := by
  have hp2 : (R.filter (mineB k upto)).Perm [a, o] := by
    rw [← hf]
    exact hp.filter _
  have hp3 : (((R.filter (mineB k upto)).map (nbD W q)).mergeSort leD).Perm ([a, o].map (nbD W q)) := (List.mergeSort_perm _ _).trans (hp2.map _)
  obtain ⟨L, hL, hS⟩ := perm_map_ex hp3 [(("elm" : Str), numBy W a q), (("oak" : Str), numBy W o q)] (by
    show [nbD W q a, nbD W q o] = [encT _, encT _]
    unfold nbD encT
    rw [ha, ho])
  refine ⟨L, by rw [hL.length_eq]; exact Nat.le_of_ble_eq_true rfl, fun x hx => ?_, congrArg PyData.list hS, ?_⟩
  · have hx := hL.mem_iff.mp hx
    rcases List.mem_cons.mp hx with e | hx
    · rw [e]
      exact .inl rfl
    · rw [List.mem_singleton.mp hx]
      exact .inr rfl
  · have h1 : (elmsOf L).Perm (elmsOf [(("elm" : Str), numBy W a q), (("oak" : Str), numBy W o q)]) := (hL.filter _).map _
    have h2 : elmsOf [(("elm" : Str), numBy W a q), (("oak" : Str), numBy W o q)] = [.int (numBy W a q)] := by
      unfold elmsOf
      rw [List.filter_cons_of_pos (by exact decide_eq_true rfl), List.filter_cons_of_neg (by
        show ¬ decide (("oak" : Str) = "elm") = true
        rw [decide_eq_true_iff]
        exact fun e => elm_oak e.symm)]
      rfl
    rw [h2] at h1
    exact List.perm_singleton.mp h1
end Ow
/-! ## part OwQ -/
set_option Elab.async false
set_option linter.all false
set_option maxRecDepth 100000
set_option maxHeartbeats 4000000
/-! OwQ: the plain law, of the rows that the law makes. -/
namespace Ow
open PySem PySem.Spec PyProof.Rows L2
theorem leads_gen {W : Web} {R l : List Row} {e a o : Row} {k : Nat} {n t day upto due : Int} (hW : GoodWeb W) (hR : GoodRows W R) (hp : R.Perm l) (he : e ∈ l) (ha : a ∈ l) (es : e.street = ("elm" : Str)) (ek : e.road = k) (hf : l.filter (mineB k upto) = [a, o]) (as : a.street = ("elm" : Str)) (os : o.street = ("oak" : Str)) (ak : a.road = k)
    (hd : ofDay e day = true) (hn : hasN e n = true) (ht : placeOf e n = t) (h0 : 0 ≤ t) (h1 : t < manyOf e) (d0 : 0 ≤ day) (d1 : day ≤ upto) (hdue : a.first + a.step * ((2 * t + 1) * manyOf a / (2 * manyOf e)) = due) : Leads W R e n day upto due := by
  have ge := hR.good e (hp.mem_iff.mpr he)
  have ga := hR.good a (hp.mem_iff.mpr ha)
  obtain ⟨m1, m2, m3⟩ := mid_facts (n := n) hW ge ga (ak.trans ek.symm) ht h0 h1
  refine ⟨hW, hR, hit_of hR (hp.mem_iff.mpr he) es hd hn, d0, d1, m1, m2, ?_⟩
  have z := told_of (W := W) (q := midOf W e n) hp hf as os
  rw [m3, hdue, ← ek] at z
  exact z
theorem nodup_apart {l : List Row} (h : l.Pairwise Apart) (hg : ∀ r ∈ l, r.since < r.upto) : l.Nodup := by
  refine List.Pairwise.imp_of_mem (fun {a b} ha hb hab e => ?_) h
  subst e
  have := hg a ha
  rcases hab with h | h | h
  · exact h rfl
  · omega
  · omega
section
variable {W : Web} {k : Nat} {m more d1 d2 f0 s0 f1 s1 f2 s2 c : Int}
theorem four_apart (h1 : 1 ≤ d1) (h2 : d1 < d2) : [elmRow k f0 s0 m 0 d1, elmRow k f1 s1 (m * more) d1 d2, elmRow k f2 s2 m d2 30, oakRow k c].Pairwise Apart := by
  refine List.Pairwise.cons (fun b hb => ?_) (List.Pairwise.cons (fun b hb => ?_) (List.Pairwise.cons (fun b hb => ?_) (List.Pairwise.cons (fun b hb => nomatch hb) List.Pairwise.nil)))
  · simp only [List.mem_cons, List.mem_nil_iff, or_false] at hb
    rcases hb with rfl | rfl | rfl
    · exact .inr (.inr (Int.le_refl d1))
    · exact .inr (.inr (show d1 ≤ d2 by omega))
    · exact .inl elm_oak
  · simp only [List.mem_cons, List.mem_nil_iff, or_false] at hb
    rcases hb with rfl | rfl
    · exact .inr (.inr (Int.le_refl d2))
    · exact .inl elm_oak
  · rw [List.mem_singleton.mp hb]
    exact .inl elm_oak
theorem four_good (hk : k < W.roads.length) (hm : 1 ≤ m ∧ m ≤ 9) (hr : 1 ≤ more ∧ more ≤ 4) (h1 : 1 ≤ d1 ∧ d1 ≤ 6) (h2 : d1 < d2 ∧ d2 ≤ 12) (g0 : Fs f0 s0) (g1 : Fs f1 s1) (g2 : Fs f2 s2) (hc : 0 ≤ c ∧ c < 20) : ∀ r ∈ [elmRow k f0 s0 m 0 d1, elmRow k f1 s1 (m * more) d1 d2, elmRow k f2 s2 m d2 30, oakRow k c], GoodRow W r := by
  have hmm : 1 ≤ m * more ∧ m * more ≤ 36 := by
    have h : more = 1 ∨ more = 2 ∨ more = 3 ∨ more = 4 := by omega
    rcases h with rfl | rfl | rfl | rfl <;> omega
  intro r hr
  simp only [List.mem_cons, List.mem_nil_iff, or_false] at hr
  rcases hr with rfl | rfl | rfl | rfl
  · exact good_elm hk g0 (by omega) (Int.le_refl 0) (by omega)
  · exact good_elm hk g1 hmm (by omega) (by omega)
  · exact good_elm hk g2 (by omega) (by omega) (by omega)
  · exact good_oak hk hc.1 hc.2
theorem elm_mine {f s cc a b u : Int} (h : a ≤ u) (h2 : u < b) : mineB k u (elmRow k f s cc a b) = true := by
  show (decide (k = k) && (decide (a ≤ u) && decide (u < b))) = true
  rw [decide_eq_true rfl, decide_eq_true h, decide_eq_true h2]
  rfl
theorem elm_not {f s cc a b u : Int} (h : u < a ∨ b ≤ u) : mineB k u (elmRow k f s cc a b) = false := by
  show (decide (k = k) && (decide (a ≤ u) && decide (u < b))) = false
  rcases h with h | h
  · rw [decide_eq_false (p := a ≤ u) (by omega), Bool.false_and, Bool.and_false]
  · rw [decide_eq_false (p := u < b) (by omega), Bool.and_false, Bool.and_false]
theorem oak_mine {u : Int} (h : 0 ≤ u) (h2 : u < 30) : mineB k u (oakRow k c) = true := by
  show (decide (k = k) && (decide (0 ≤ u) && decide (u < 30))) = true
  rw [decide_eq_true rfl, decide_eq_true h, decide_eq_true h2]
  rfl
theorem elm_day {f s cc a b u : Int} (h : a ≤ u) (h2 : u < b) : ofDay (elmRow k f s cc a b) u = true := by
  show (decide (a ≤ u) && decide (u < b)) = true
  rw [decide_eq_true h, decide_eq_true h2]
  rfl
/-- all that the law asks of its houses -/
structure Four (W : Web) (k : Nat) (R : List Row) (m more f0 s0 f1 s1 f2 s2 y0 y1 y2 : Int) (e0 e1 : Row) : Prop where
  a : ∀ t : Int, 0 ≤ t → t < m → Leads W R e0 (f0 + t * s0) y0 y1 (f1 + (t * more + more / 2) * s1)
  b : ∀ t : Int, 0 ≤ t → t < m → Leads W R e0 (f0 + t * s0) y0 y2 (f2 + t * s2)
  c : ∀ t : Int, 0 ≤ t → t < m → Leads W R e0 (f0 + t * s0) y0 y0 (f0 + t * s0)
  d : ∀ t : Int, 0 ≤ t → t < m * more → Leads W R e1 (f1 + t * s1) y1 y2 (f2 + t / more * s2)
theorem four_of {R : List Row} {y0 y1 y2 : Int} (hW : GoodWeb W) (hk : k < W.roads.length) (hm : 1 ≤ m ∧ m ≤ 9) (hr : 1 ≤ more ∧ more ≤ 4) (h1 : 1 ≤ d1 ∧ d1 ≤ 6) (h2 : d1 < d2 ∧ d2 ≤ 12) (g0 : Fs f0 s0) (g1 : Fs f1 s1) (g2 : Fs f2 s2) (hc : 0 ≤ c ∧ c < 20)
    (hp : R.Perm [elmRow k f0 s0 m 0 d1, elmRow k f1 s1 (m * more) d1 d2, elmRow k f2 s2 m d2 30, oakRow k c]) (hR : GoodRows W R) (z0 : 0 ≤ y0 ∧ y0 < d1) (z1 : d1 ≤ y1 ∧ y1 < d2) (z2 : d2 ≤ y2 ∧ y2 < 30) :
    Four W k R m more f0 s0 f1 s1 f2 s2 y0 y1 y2 (elmRow k f0 s0 m 0 d1) (elmRow k f1 s1 (m * more) d1 d2) := by
  obtain ⟨q01, q02, q03, q04⟩ := g0
  obtain ⟨q11, q12, q13, q14⟩ := g1
  obtain ⟨q21, q22, q23, q24⟩ := g2
  have F0 : [elmRow k f0 s0 m 0 d1, elmRow k f1 s1 (m * more) d1 d2, elmRow k f2 s2 m d2 30, oakRow k c].filter (mineB k y0) = [elmRow k f0 s0 m 0 d1, oakRow k c] := by
    rw [List.filter_cons_of_pos (elm_mine z0.1 z0.2), List.filter_cons_of_neg (by rw [elm_not (.inl (by omega))]; decide), List.filter_cons_of_neg (by rw [elm_not (.inl (by omega))]; decide), List.filter_cons_of_pos (oak_mine (by omega) (by omega))]
    rfl
  have F1 : [elmRow k f0 s0 m 0 d1, elmRow k f1 s1 (m * more) d1 d2, elmRow k f2 s2 m d2 30, oakRow k c].filter (mineB k y1) = [elmRow k f1 s1 (m * more) d1 d2, oakRow k c] := by
    rw [List.filter_cons_of_neg (by rw [elm_not (.inr (by omega))]; decide), List.filter_cons_of_pos (elm_mine z1.1 z1.2), List.filter_cons_of_neg (by rw [elm_not (.inl (by omega))]; decide), List.filter_cons_of_pos (oak_mine (by omega) (by omega))]
    rfl
  have F2 : [elmRow k f0 s0 m 0 d1, elmRow k f1 s1 (m * more) d1 d2, elmRow k f2 s2 m d2 30, oakRow k c].filter (mineB k y2) = [elmRow k f2 s2 m d2 30, oakRow k c] := by
    rw [List.filter_cons_of_neg (by rw [elm_not (.inr (by omega))]; decide), List.filter_cons_of_neg (by rw [elm_not (.inr (by omega))]; decide), List.filter_cons_of_pos (elm_mine z2.1 z2.2), List.filter_cons_of_pos (oak_mine (by omega) (by omega))]
    rfl
  have M0 : manyOf (elmRow k f0 s0 m 0 d1) = m := many_elm ⟨q03, q04⟩
  have M1 : manyOf (elmRow k f1 s1 (m * more) d1 d2) = m * more := many_elm ⟨q13, q14⟩
  have M2 : manyOf (elmRow k f2 s2 m d2 30) = m := many_elm ⟨q23, q24⟩
  have i0 : elmRow k f0 s0 m 0 d1 ∈ [elmRow k f0 s0 m 0 d1, elmRow k f1 s1 (m * more) d1 d2, elmRow k f2 s2 m d2 30, oakRow k c] := by simp
  have i1 : elmRow k f1 s1 (m * more) d1 d2 ∈ [elmRow k f0 s0 m 0 d1, elmRow k f1 s1 (m * more) d1 d2, elmRow k f2 s2 m d2 30, oakRow k c] := by simp
  have i2 : elmRow k f2 s2 m d2 30 ∈ [elmRow k f0 s0 m 0 d1, elmRow k f1 s1 (m * more) d1 d2, elmRow k f2 s2 m d2 30, oakRow k c] := by simp
  have own : ∀ t : Int, (2 * t + 1) * m / (2 * m) = t := fun t => by
    rw [Int.mul_ediv_mul_of_pos_left _ _ (by omega)]
    omega
  refine ⟨fun t t0 t1 => ?_, fun t t0 t1 => ?_, fun t t0 t1 => ?_, fun t t0 t1 => ?_⟩
  · rw [Int.mul_comm t s0]
    refine leads_gen hW hR hp i0 i1 rfl rfl F1 rfl rfl rfl (elm_day z0.1 z0.2) (has_elmrow ⟨q03, q04⟩ t0 t1) (place_elm ⟨q03, q04⟩) t0 (by rw [M0]; exact t1) z0.1 (by omega) ?_
    rw [M0, M1]
    show f1 + s1 * ((2 * t + 1) * (m * more) / (2 * m)) = f1 + (t * more + more / 2) * s1
    have e : (2 * t + 1) * (m * more) = ((2 * t + 1) * more) * m := by
      rw [Int.mul_left_comm, Int.mul_comm m]
    rw [e, Int.mul_ediv_mul_of_pos_left _ _ (by omega)]
    have e2 : (2 * t + 1) * more = 2 * (t * more) + more := by
      rw [Int.add_mul, Int.mul_assoc, Int.one_mul]
    rw [e2]
    have e3 : (2 * (t * more) + more) / 2 = t * more + more / 2 := by omega
    rw [e3, Int.mul_comm s1]
  · rw [Int.mul_comm t s0]
    refine leads_gen hW hR hp i0 i2 rfl rfl F2 rfl rfl rfl (elm_day z0.1 z0.2) (has_elmrow ⟨q03, q04⟩ t0 t1) (place_elm ⟨q03, q04⟩) t0 (by rw [M0]; exact t1) z0.1 (by omega) ?_
    rw [M0, M2]
    show f2 + s2 * ((2 * t + 1) * m / (2 * m)) = f2 + t * s2
    rw [own, Int.mul_comm s2]
  · rw [Int.mul_comm t s0]
    refine leads_gen hW hR hp i0 i0 rfl rfl F0 rfl rfl rfl (elm_day z0.1 z0.2) (has_elmrow ⟨q03, q04⟩ t0 t1) (place_elm ⟨q03, q04⟩) t0 (by rw [M0]; exact t1) z0.1 (by omega) ?_
    rw [M0]
    show f0 + s0 * ((2 * t + 1) * m / (2 * m)) = f0 + s0 * t
    rw [own]
  · rw [Int.mul_comm t s1]
    refine leads_gen hW hR hp i1 i2 rfl rfl F2 rfl rfl rfl (elm_day z1.1 z1.2) (has_elmrow ⟨q13, q14⟩ t0 t1) (place_elm ⟨q13, q14⟩) t0 (by rw [M1]; exact t1) (by omega) (by omega) ?_
    rw [M1, M2]
    show f2 + s2 * ((2 * t + 1) * m / (2 * (m * more))) = f2 + t / more * s2
    have e : 2 * (m * more) = (2 * more) * m := by
      rw [Int.mul_assoc, Int.mul_comm m]
    rw [e, Int.mul_ediv_mul_of_pos_left _ _ (by omega), ← Int.ediv_ediv_of_nonneg (by decide)]
    have e3 : (2 * t + 1) / 2 = t := by omega
    rw [e3, Int.mul_comm s2]
end
end Ow
/-! ## part Ow21 -/
set_option Elab.async false
set_option linter.all false
set_option maxRecDepth 100000
set_option maxHeartbeats 4000000
namespace Ow
open PySem PySem.Spec PyProof.Rows L2
open Evl (Ex Ex.refl Ex.trans Ex.new ex_rd ex_l ex_t fresh_back)
local macro_rules | `(tactic| walk_at "pr") => `(tactic| assumption)
local macro_rules | `(tactic| walk_at "side") => `(tactic| first | assumption | rfl | decide)
local macro_rules | `(tactic| walk_at "d2") => `(tactic| first
  | exact d2_add | exact d2_sub | exact d2_lt | exact d2_le | exact d2_gt | exact d2_ge
  | exact d2_ixT 0 rfl rfl | exact d2_ixT 1 rfl rfl | exact d2_ixT 2 rfl rfl | exact d2_ixT 3 rfl rfl | exact d2_ixT 4 rfl rfl | exact d2_ixT 5 rfl rfl | exact d2_ixT 6 rfl rfl
  | exact d2_ixL 0 rfl rfl | exact d2_ixL 1 rfl rfl | exact d2_ixL 2 rfl rfl
  | exact d2_mul (by walk_at "side") | exact d2_div (by walk_at "side") | exact d2_mod (by walk_at "side")
  | exact d2_eq (by walk_at "side") (by walk_at "side") | exact d2_ne (by walk_at "side") (by walk_at "side") | walk_at "pr")
local macro_rules | `(tactic| walk_at "dc") => `(tactic| first
  | exact dc_len rfl | exact dc_lenL rfl | exact dc_abs | exact dc_max | exact dc_min | exact dc_all | exact dc_any | exact dc_list | exact dc_tuple | walk_at "pr")
local macro_rules | `(tactic| walk_at "da") => `(tactic| first
  | exact da_nil
  | (refine' da_cons ?k1 ?k2; (case k1 => walk_at "dv"); (case k2 => walk_at "da")))
local macro_rules | `(tactic| walk_at "dv") => `(tactic| first
  | exact dv_var rfl | exact dv_int | exact dv_str | exact dv_bl | exact dv_non
  | (refine' dv_call ?k1 ?k2 ?k3; (case k1 => walk_at "da"); (case k2 => walk_at "pr"); (case k3 => rfl))
  | (refine' dv_isi (b := true) ?k1 ?k2 ?k3; (case k1 => walk_at "dv"); (case k2 => first | exact .int _ | exact .tup _ | exact .str _ | exact .bl _); (case k3 => exact kit_ty (by decide +kernel)))
  | (refine' dv_isi (b := false) ?k1 ?k2 ?k3; (case k1 => walk_at "dv"); (case k2 => first | exact .int _ | exact .tup _ | exact .str _ | exact .bl _); (case k3 => exact kit_ty (by decide +kernel)))
  | (refine' dv_cb ?k1 ?k2; (case k1 => walk_at "da"); (case k2 => walk_at "dc"))
  | (refine' dv_op ?k1 ?k2 ?k3; (case k1 => walk_at "dv"); (case k2 => walk_at "dv"); (case k3 => walk_at "d2"))
  | (refine' dv_tup ?k1 ?k2; (case k1 => walk_at "da"); (case k2 => first | exact Nat.le_of_ble_eq_true rfl | walk_at "side"))
  | (refine' dv_lst ?k1 ?k2; (case k1 => walk_at "da"); (case k2 => first | exact Nat.le_of_ble_eq_true rfl | walk_at "side"))
  | (refine' dv_and ?k1 ?k2; (case k1 => walk_at "dv"); (case k2 => intro _; walk_at "dv"))
  | (refine' dv_notV ?k1; (case k1 => walk_at "dv"))
  | (refine' dv_chain ?k1 ?k2 ?k3 ?k4 ?k5; (case k1 => walk_at "dv"); (case k2 => walk_at "dv"); (case k3 => walk_at "d2"); (case k4 => intro _; walk_at "dv"); (case k5 => intro _; walk_at "d2"))
  | walk_at "pr")
local macro_rules | `(tactic| walk_at "dt") => `(tactic| first
  | (refine' dt_test ?k1; (case k1 => walk_at "dv"))
  | (refine' dt_B ?k1; (case k1 => walk_at "dv"))
  | (refine' dt_not ?k1; (case k1 => walk_at "dt"))
  | (refine' dt_or ?k1 ?k2; (case k1 => walk_at "dt"); (case k2 => intro _; walk_at "dt"))
  | (refine' dt_and ?k1 ?k2; (case k1 => walk_at "dt"); (case k2 => intro _; walk_at "dt"))
  | walk_at "pr")
local macro_rules | `(tactic| walk_at "no") => `(tactic| first | rfl | assumption | (simp [*]; done))
local macro_rules | `(tactic| walk_at "fin") => `(tactic| first | rfl | assumption | (simp [*]; done))
local macro_rules | `(tactic| walk_at "dr") => `(tactic| first
  | (refine' dr_retI ?k1 ?k2; (case k1 => walk_at "dv"); (case k2 => walk_at "fin"))
  | (refine' dr_unless ?k1 ?k2 ?k3; (case k1 => walk_at "dt"); (case k2 => walk_at "no"); (case k3 => walk_at "dr"))
  | (refine' dr_seq (ds_asg ?k1) ?k2; (case k1 => walk_at "dv"); (case k2 => walk_at "dr"))
  | (refine' dr_seq (ds_drop ?k1) ?k2; (case k1 => walk_at "dv"); (case k2 => walk_at "dr"))
  | (refine' dr_seq (ds_par ?k1 ?k2) ?k3; (case k1 => walk_at "dv"); (case k2 => walk_at "dv"); (case k3 => walk_at "dr"))
  | (refine' dr_seq (ds_asgG ?k1 ?k2) ?k3; (case k1 => walk_at "dv"); (case k2 => walk_at "dg"); (case k3 => walk_at "dr")))
local macro_rules | `(tactic| walk_at "dg") => `(tactic| first
  | exact dg_name
  | exact dg_tup (dgs_cons (dgs_cons dgs_nil))
  | exact dg_tup (dgs_cons (dgs_cons (dgs_cons dgs_nil)))
  | exact dg_tup (dgs_cons (dgs_cons (dgs_cons (dgs_cons dgs_nil))))
  | exact dg_tup (dgs_cons (dgs_cons (dgs_cons (dgs_cons (dgs_cons (dgs_cons (dgs_cons dgs_nil))))))))

section
variable {K : PySem.W.Frag} {ρ : Rho}
theorem d2_isnot {a b : Bool} : D2 K (fun x y H Q => ∃ a b, x = V.bl a ∧ y = V.bl b ∧ Q (.bl (!decide (a = b))) H) (.bool a) (.bool b) (.bool (!decide (a = b))) := fun G H x y e hx hy Q q => by
  cases hx
  cases hy
  exact ⟨a, b, rfl, rfl, q _ G H (.refl e) (.bl _)⟩
end
def spLaw (K : PySem.W.Frag) : Sp := fun vs H Q _ => ∃ (a : Addr) (ns : List Int), vs = [.ref a] ∧ SqL K H a (ns.map V.int) ∧ ns.length ≤ 63 ∧ ∀ H', Q (.bl true) H'
theorem ints_dp {K : PySem.W.Frag} {H : Hp} : ∀ ns : List Int, DpAll K H (ns.map V.int) (ns.map PyData.int)
  | [] => .nil
  | n :: ns => .cons (.int n) (ints_dp ns)
theorem nums_get {r : Row} {m : Int} {u : Nat} (hm : manyOf r = m) (h : (u : Int) < m) : (numsOf r)[u]? = some (.int (r.first + (u : Nat) * r.step)) := by
  unfold numsOf
  rw [hm]
  exact intsD_at (by omega)
section
variable {P : Program} {w : World} {K : PySem.W.Frag} {mg : Str → Option Value} {base : Heap} {f : Addr} {fd : FuncData}
theorem sc_law : FnScope ["_law_script", "_law_k", "_law_state_here", "_law_web", "_law_road", "_law_more", "_law_found", "_law_rows", "_law_some", "_law_days", "_law_at", "_law_here", "_law_row"] ["_law_script"] (defScope (top 80)) := ⟨rfl, rfl, rfl, by decide +kernel, rfl, by decide +kernel, by decide +kernel⟩
theorem ok_law (T : Tx K mg) (F : FunD K "law" "law" (defArgs (top 80)) (defBody (top 80)) (defScope (top 80)) [] [] f fd)
    (h_law_state : Has P w K mg base "_law_state" ["_law_script", "_law_k"] 2 (spFr K 2 prState)) (h_law_street_web : Has P w K mg base "_law_street_web" ["_law_state_here"] 4 (spS K 1 preLN poSW)) (h_law_choice : Has P w K mg base "_law_choice" ["_law_state_here", "_law_many"] 1 (spCh K)) (h_law_three_rows : Has P w K mg base "_law_three_rows" ["_law_state_here", "_law_road"] 2 (spThree K)) (h_are_rows : Has P w K mg base "are_rows" ["web", "thing"] 8 (spD K 2 prRows)) (h_law_numbers : Has P w K mg base "_law_numbers" ["_law_row"] 1 (spD K 1 prNumbers)) (h_law_leads_right : Has P w K mg base "_law_leads_right" ["_law_web", "_law_rows", "_law_row", "_law_here", "_law_day", "_law_until", "_law_due"] 11 (spD K 7 prLeads)) : FnOk P w K mg base CX0 12 f fd ["_law_script"] (spLaw K) := by
  refine FunD.ok F sc_law (fun vs H Q E z => by obtain ⟨a, ns, rfl, _⟩ := z; rfl) fun cdv A outer s H vs Q E hr z => ?_
  refine ⟨_, PSs.nox (pss_cons (ps_for PassesOwn.never rfl (pi_range1 (by rfl) T.f_range (pa_cons (pe_callB (call_max2 rfl) (by rfl) T.f_max (by decide +kernel) (pa_cons pe_int (pa_cons (pe_callB (call_min2 rfl) (by rfl) T.f_min (by decide +kernel) (pa_cons (pe_callB call_len_seq (by rfl) T.f_len (by decide +kernel) (pa_cons (pv 0) pa_nil)) (pa_cons pe_int pa_nil))) pa_nil))) pa_nil)) (pg_name (i := 1) sc_law.nd rfl (by first | exact Or.inl rfl | exact Or.inr rfl)) (pss_cons (ps_set (i := 2) sc_law.nd rfl (by first | exact Or.inl rfl | exact Or.inr rfl) (pe_callH h_law_state hr (by decide) (by rfl) (pa_cons (pv 0) (pa_cons (pv 1) pa_nil))))
    (pss_cons (ps_set (i := 3) sc_law.nd rfl (by first | exact Or.inl rfl | exact Or.inr rfl) (pe_callH h_law_street_web hr (by decide) (by rfl) (pa_cons (pv 2) pa_nil)))
    (pss_cons (ps_set (i := 4) sc_law.nd rfl (by first | exact Or.inl rfl | exact Or.inr rfl) (pe_callH h_law_choice hr (by decide) (by rfl) (pa_cons (pv 2) (pa_cons (pe_callB call_len_seq (by rfl) T.f_len (by decide +kernel) (pa_cons (pe_ix ix_tup (pv 3) pe_int (fun _ _ => rfl)) pa_nil)) pa_nil))))
    (pss_cons (ps_asg (pe_callH h_law_three_rows hr (by decide) (by rfl) (pa_cons (pv 2) (pa_cons (pv 4) pa_nil))) (pg_tup (by rfl) (pgs_cons (pg_name (i := 5) sc_law.nd rfl (by first | exact Or.inl rfl | exact Or.inr rfl)) (pgs_cons (pg_name (i := 6) sc_law.nd rfl (by first | exact Or.inl rfl | exact Or.inr rfl)) pgs_nil))))
    (pss_cons (ps_set (i := 7) sc_law.nd rfl (by first | exact Or.inl rfl | exact Or.inr rfl) (pe_callTy call_tuple_of (by rfl) T.f_tuple (by decide +kernel) (pa_cons (pe_callB (cr_sortedD hr) (by rfl) T.f_sorted (by decide +kernel) (pa_cons (pe_op op_cat (pv 6) (pe_lst (pa_cons (pe_tup (pa_cons pe_str (pa_cons (pv 4) (pa_cons pe_int (pa_cons (pe_op op_add pe_int (pe_callH h_law_choice hr (by decide) (by rfl) (pa_cons (pv 2) (pa_cons pe_int pa_nil)))) (pa_cons pe_int (pa_cons pe_int (pa_cons pe_int pa_nil)))))))) pa_nil))) pa_nil)) pa_nil)))
    (pss_cons (ps_if (pt_cmpR op_isnot_bl (pe_callH h_are_rows hr (by decide) (by rfl) (pa_cons (pv 3) (pa_cons (pv 7) pa_nil))) pe_bl (nomark _)) (pss_one (ps_ret pe_bl)) pss_nil)
    (pss_cons (ps_setLc (i := 8) (own := [("_law_row", 12)]) (g := (gName 12)) (tt := tYes) (te := (tCall (spD K 1 prNumbers) [] E0 (tCons (tVar 12) tNil))) rfl sc_law.nd rfl rfl (sw_true rfl rfl rfl (by decide +kernel)) (pi_list (pv 6)) (blkOk_by (own := [("_law_row", 12)]) (N := ["_law_script", "_law_k", "_law_state_here", "_law_web", "_law_road", "_law_more", "_law_found", "_law_rows", "_law_some", "_law_days", "_law_at", "_law_here", "_law_row"]) (sc := defScope (top 80)) (by decide +kernel)) (fun _ _ _ _ _ => (pg_name (i := 12) sc_law.nd rfl (by first | exact Or.inl rfl | exact Or.inr rfl))) (fun _ _ _ _ _ => pts_nil) (fun _ _ _ _ _ => (pe_callH h_law_numbers hr (by decide) (by rfl) (pa_cons (pv 12) pa_nil))))
    (pss_cons (ps_setLc (i := 9) (own := [("_law_row", 12)]) (g := (gName 12)) (tt := tYes) (te := (tOp (rI0 fun i j => V.int (i + j)) (tOp (rIxT K) (tVar 12) (tC (V.int 5))) (tCall (spCh K) [] E0 (tCons (tVar 2) (tCons (tOp (rI0 fun i j => V.int (i - j)) (tOp (rIxT K) (tVar 12) (tC (V.int 6))) (tOp (rIxT K) (tVar 12) (tC (V.int 5)))) tNil))))) rfl sc_law.nd rfl rfl (sw_true rfl rfl rfl (by decide +kernel)) (pi_list (pv 6)) (blkOk_by (own := [("_law_row", 12)]) (N := ["_law_script", "_law_k", "_law_state_here", "_law_web", "_law_road", "_law_more", "_law_found", "_law_rows", "_law_some", "_law_days", "_law_at", "_law_here", "_law_row"]) (sc := defScope (top 80)) (by decide +kernel)) (fun _ _ _ _ _ => (pg_name (i := 12) sc_law.nd rfl (by first | exact Or.inl rfl | exact Or.inr rfl))) (fun _ _ _ _ _ => pts_nil) (fun _ _ _ _ _ => (pe_op op_add (pe_ix ix_tup (pv 12) pe_int (fun _ _ => rfl)) (pe_callH h_law_choice hr (by decide) (by rfl) (pa_cons (pv 2) (pa_cons (pe_op op_sub (pe_ix ix_tup (pv 12) pe_int (fun _ _ => rfl)) (pe_ix ix_tup (pv 12) pe_int (fun _ _ => rfl))) pa_nil))))))
    (pss_cons (ps_for PassesOwn.never rfl (pi_enum (by rfl) T.f_enumerate (pa_cons (pe_ix ix_list (pv 8) pe_int (fun _ _ => rfl)) pa_nil)) (pg_tup (by rfl) (pgs_cons (pg_name (i := 10) sc_law.nd rfl (by first | exact Or.inl rfl | exact Or.inr rfl)) (pgs_cons (pg_name (i := 11) sc_law.nd rfl (by first | exact Or.inl rfl | exact Or.inr rfl)) pgs_nil))) (pss_cons (ps_if (pt_not (pt_val (pe_callH h_law_leads_right hr (by decide) (by rfl) (pa_cons (pv 3) (pa_cons (pv 7) (pa_cons (pe_ix ix_list (pv 6) pe_int (fun _ _ => rfl)) (pa_cons (pv 11) (pa_cons (pe_ix ix_list (pv 9) pe_int (fun _ _ => rfl)) (pa_cons (pe_ix ix_list (pv 9) pe_int (fun _ _ => rfl)) (pa_cons (pe_ix ix_list (pe_ix ix_list (pv 8) pe_int (fun _ _ => rfl)) (pe_op op_add (pe_op op_mulW (pv 10) (pv 5)) (pe_op op_fdivW (pv 5) pe_int)) (fun _ _ => rfl)) pa_nil)))))))))) (pss_one (ps_ret pe_bl)) pss_nil)
    (pss_cons (ps_if (pt_not (pt_val (pe_callH h_law_leads_right hr (by decide) (by rfl) (pa_cons (pv 3) (pa_cons (pv 7) (pa_cons (pe_ix ix_list (pv 6) pe_int (fun _ _ => rfl)) (pa_cons (pv 11) (pa_cons (pe_ix ix_list (pv 9) pe_int (fun _ _ => rfl)) (pa_cons (pe_ix ix_list (pv 9) pe_int (fun _ _ => rfl)) (pa_cons (pe_ix ix_list (pe_ix ix_list (pv 8) pe_int (fun _ _ => rfl)) (pv 10) (fun _ _ => rfl)) pa_nil)))))))))) (pss_one (ps_ret pe_bl)) pss_nil)
    (pss_one (ps_if (pt_not (pt_val (pe_callH h_law_leads_right hr (by decide) (by rfl) (pa_cons (pv 3) (pa_cons (pv 7) (pa_cons (pe_ix ix_list (pv 6) pe_int (fun _ _ => rfl)) (pa_cons (pv 11) (pa_cons (pe_ix ix_list (pv 9) pe_int (fun _ _ => rfl)) (pa_cons (pe_ix ix_list (pv 9) pe_int (fun _ _ => rfl)) (pa_cons (pv 11) pa_nil)))))))))) (pss_one (ps_ret pe_bl)) pss_nil)))))
    (pss_one (ps_for PassesOwn.never rfl (pi_enum (by rfl) T.f_enumerate (pa_cons (pe_ix ix_list (pv 8) pe_int (fun _ _ => rfl)) pa_nil)) (pg_tup (by rfl) (pgs_cons (pg_name (i := 10) sc_law.nd rfl (by first | exact Or.inl rfl | exact Or.inr rfl)) (pgs_cons (pg_name (i := 11) sc_law.nd rfl (by first | exact Or.inl rfl | exact Or.inr rfl)) pgs_nil))) (pss_one (ps_if (pt_not (pt_val (pe_callH h_law_leads_right hr (by decide) (by rfl) (pa_cons (pv 3) (pa_cons (pv 7) (pa_cons (pe_ix ix_list (pv 6) pe_int (fun _ _ => rfl)) (pa_cons (pv 11) (pa_cons (pe_ix ix_list (pv 9) pe_int (fun _ _ => rfl)) (pa_cons (pe_ix ix_list (pv 9) pe_int (fun _ _ => rfl)) (pa_cons (pe_ix ix_list (pe_ix ix_list (pv 8) pe_int (fun _ _ => rfl)) (pe_op op_fdivW (pv 10) (pv 5)) (fun _ _ => rfl)) pa_nil)))))))))) (pss_one (ps_ret pe_bl)) pss_nil))))))))))))))
    (pss_one (ps_ret pe_bl))), ?_⟩
  obtain ⟨a0, ns, rfl, hS, hl, q0⟩ := z
  refine (?_ : Er K _ (startR ["_law_script", "_law_k", "_law_state_here", "_law_web", "_law_road", "_law_more", "_law_found", "_law_rows", "_law_some", "_law_days", "_law_at", "_law_here", "_law_row"] [.list (ns.map PyData.int)]) [] fun d M => d = .bool true) _ H _ H (.refl H) (start_sls (.cons (.lst hS (ints_dp ns)) .nil)) .nil (fun d M2 v G2 H2 e _ _ _ D => by
    subst e
    cases D
    exact q0 H2)
  have lenN : (ns.map PyData.int).length = ns.length := List.length_map ..
  -- how many turns
  obtain ⟨cnt, hcnt, hc3⟩ : ∃ cnt : Nat, (if (if (3 : Int) < ((ns.map PyData.int).length : Nat) then (3 : Int) else ((ns.map PyData.int).length : Nat)) > 1 then (if (3 : Int) < ((ns.map PyData.int).length : Nat) then (3 : Int) else ((ns.map PyData.int).length : Nat)) else 1) = (cnt : Int) ∧ cnt ≤ 3 := by
    refine ⟨(if (if (3 : Int) < ((ns.map PyData.int).length : Nat) then (3 : Int) else ((ns.map PyData.int).length : Nat)) > 1 then (if (3 : Int) < ((ns.map PyData.int).length : Nat) then (3 : Int) else ((ns.map PyData.int).length : Nat)) else 1).toNat, ?_, ?_⟩
    · split <;> split <;> omega
    · split <;> split <;> omega
  refine er_seq (es_for (ew_rng1 (ea_pure (ds := [.int (cnt : Nat)]) ?_ ⟨cnt, rfl, by omega, fun i ρ' M' => ρ' = [some (.d (.list (ns.map PyData.int))), none, none, none, none, none, none, none, none, none, none, none, none] ∧ M' = [], ⟨rfl, rfl⟩, fun i x ρ' M' hx hI => ?_, fun ρ' M' hI => ?_⟩)))
  · rw [← hcnt]
    walk_at "da"
  · obtain ⟨rfl, rfl⟩ := hI
    have hi := (List.getElem?_eq_some_iff.mp hx).1
    rw [intsD_len] at hi
    have hx2 := intsD_at (lo := 0) (c := 1) hi
    rw [hx, Int.mul_one, Int.zero_add] at hx2
    have hx2 := Option.some.inj hx2
    subst hx2
    refine ⟨_, dg_name, es_forget [1, 2, 3, 4, 5, 6, 7, 8, 9, 10, 11, 12] (es_drop ?_)⟩
    -- the state
    refine es_seq (es_fresh (ea_pure (ds := [.list (ns.map PyData.int), .int (i : Nat)]) (da_cons (dv_var rfl) (da_cons (dv_var rfl) da_nil)) ⟨rfl, ⟨[.int 0, .int 0, .int 0], ⟨ns, i, rfl⟩, 0, 0, 0, rfl, by decide, by decide, by decide, by decide⟩, fun st s hst => ?_⟩))
    obtain ⟨_, ok⟩ := hst
    -- the web
    refine es_seq (es_asg (ev_st (i := 2) (p := s) (st := st) (M := []) rfl (ea_nil ⟨rfl, st, [], rfl, ⟨ok, rfl⟩, fun d st1 po => ?_⟩)))
    obtain ⟨ok1, W, hW, hroads, rfl⟩ := po
    have lenR : (W.roads.map encRoad).length = W.roads.length := List.length_map ..
    have hr14 := hW.roads
    -- the road
    refine es_seq (es_asg (ev_st (i := 2) (p := s) (st := st1) (M := []) rfl (ea_cons (ev_pure (d := .int ((W.roads.map encRoad).length : Nat)) ?_ (ea_nil ⟨rfl, st1, [], rfl, ⟨ok1, _, rfl, by omega, by omega⟩, fun d st2 po => ?_⟩)))))
    · walk_at "dv"
    obtain ⟨ok2, n, r, hn, rfl, h0, h1⟩ := po
    have hn := one_int hn
    subst hn
    obtain ⟨k, rfl⟩ := Int.eq_ofNat_of_zero_le h0
    have hk : k < W.roads.length := by omega
    -- the rows
    refine es_seq (es_three (i := 2) (j := 4) (p := s) (st := st2) (M := []) rfl rfl ok2 fun st3 more rows q ok3 th => ?_)
    refine es_seq (es_asg (ev_cb (ea_cons (ev_cb (ea_cons (ev_cat (i := 6) (p := q) rfl (ea_cons (ev_tup (ea_cons (ev_pure dv_str (ea_cons (ev_pure (dv_var rfl) (ea_cons (ev_pure dv_int (ea_cons (ev_op (ev_pure dv_int (ev_st (i := 2) (p := s) (st := st3) (M := [(q, rows.map encRow)]) rfl (ea_cons (ev_pure dv_int (ea_nil ⟨rfl, st3, _, rfl, ⟨ok3, 20, rfl, by decide, by decide⟩, fun d st4 po => ?_⟩)))))))))))))))))))))
    obtain ⟨ok4, n, c, hn, rfl, hc0, hc1⟩ := po
    have hn := one_int hn
    subst hn
    obtain ⟨m, d1, d2, f0, s0, f1, s1, f2, s2, hm, hmore, hd1, hd2, g0, g1, g2, rfl⟩ := th
    obtain ⟨R, hp, hsort⟩ := sort_ex encRow [elmRow k f0 s0 m 0 d1, elmRow k f1 s1 (m * more) d1 d2, elmRow k f2 s2 m d2 30, oakRow k c]
    have hgood := four_good (W := W) (c := c) hk hm hmore hd1 hd2 g0 g1 g2 ⟨hc0, hc1⟩
    have hap : [elmRow k f0 s0 m 0 d1, elmRow k f1 s1 (m * more) d1 d2, elmRow k f2 s2 m d2 30, oakRow k c].Pairwise Apart := four_apart hd1.1 hd2.1
    have hR : GoodRows W R := good_rows hgood hap (nodup_apart hap fun r hr => (hgood r hr).days) (Nat.le_of_ble_eq_true rfl) hp hsort
    have srt : ∀ d : PyData, d ∈ ([elmRow k f0 s0 m 0 d1, elmRow k f1 s1 (m * more) d1 d2, elmRow k f2 s2 m d2 30, oakRow k c].map encRow) → ∃ r : Row, d = encRow r := fun d hd => by
      obtain ⟨r, _, e⟩ := List.mem_map.mp hd
      exact ⟨r, e.symm⟩
    refine ⟨_, d2_add, ea_pure (ds := [.int 1, .int 0, .int 30]) (da_cons dv_int (da_cons dv_int (da_cons dv_int da_nil))) ⟨Nat.le_of_ble_eq_true rfl, ea_nil ⟨[elmRow k f0 s0 m 0 d1, elmRow k f1 s1 (m * more) d1 d2, elmRow k f2 s2 m d2 30].map encRow, by simp, Nat.le_of_ble_eq_true rfl, Nat.le_of_ble_eq_true rfl, ea_nil ⟨_, dc_sorted (ds := [elmRow k f0 s0 m 0 d1, elmRow k f1 s1 (m * more) d1 d2, elmRow k f2 s2 m d2 30, oakRow k c].map encRow) ?_ ?_ (Nat.le_of_ble_eq_true rfl) ?_, ea_nil ⟨_, dc_tuple, ?_⟩⟩⟩⟩⟩
    · intro x hx y hy
      obtain ⟨a, rfl⟩ := srt x hx
      obtain ⟨b, rfl⟩ := srt y hy
      rfl
    · refine .inl fun x hx => ?_
      obtain ⟨a, rfl⟩ := srt x hx
      exact ⟨_, _, rfl⟩
    · intro x hx
      obtain ⟨a, rfl⟩ := srt x hx
      show 1 ≤ 32
      decide
    have hsort2 : ([elmRow k f0 s0 m 0 d1, elmRow k f1 s1 (m * more) d1 d2, elmRow k f2 s2 m d2 30, oakRow k c].map encRow).mergeSort (PySem.W.dataLe false fun d => d) = R.map encRow := hsort
    rw [hsort2]
    -- found stands still
    refine es_freeze (i := 6) (p := q) (M := [(s, st4)]) (ds := [elmRow k f0 s0 m 0 d1, elmRow k f1 s1 (m * more) d1 d2, elmRow k f2 s2 m d2 30].map encRow) rfl ?_ (.swap _ _ _)
    refine es_seq (es_pure (ds_ifB (b := !decide (true = true)) (dt_test (dv_op (dv_call (ds := [encW W, encRows R]) (da_cons (dv_var rfl) (da_cons (dv_var rfl) da_nil)) (pr_rows hW hR)) dv_bl d2_isnot)) rfl) ?_)
    have G0 := hgood (elmRow k f0 s0 m 0 d1) (by simp)
    have G1 := hgood (elmRow k f1 s1 (m * more) d1 d2) (by simp)
    have G2 := hgood (elmRow k f2 s2 m d2 30) (by simp)
    have M0 : manyOf (elmRow k f0 s0 m 0 d1) = m := many_elm ⟨g0.2.2.1, g0.2.2.2⟩
    have M1 : manyOf (elmRow k f1 s1 (m * more) d1 d2) = m * more := many_elm ⟨g1.2.2.1, g1.2.2.2⟩
    have M2 : manyOf (elmRow k f2 s2 m d2 30) = m := many_elm ⟨g2.2.2.1, g2.2.2.2⟩
    -- some
    refine es_seq (es_pure (ds_asg (d := .list ([elmRow k f0 s0 m 0 d1, elmRow k f1 s1 (m * more) d1 d2, elmRow k f2 s2 m d2 30].map fun r => .list (numsOf r))) (dv_lcE (enc := encRow) (fun r => .list (numsOf r)) [elmRow k f0 s0 m 0 d1, elmRow k f1 s1 (m * more) d1 d2, elmRow k f2 s2 m d2 30] (dw_list (dv_var rfl)) (gw_name (by decide)) (Nat.le_of_ble_eq_true rfl) fun r hr => ⟨_, dg_name, dv_call (ds := [encRow r]) (da_cons (dv_var rfl) da_nil) (pr_numbers (W := W) (hgood r (by
      simp only [List.mem_cons, List.mem_nil_iff, or_false] at hr ⊢
      rcases hr with h | h | h
      · exact .inl h
      · exact .inr (.inl h)
      · exact .inr (.inr (.inl h)))))⟩)) ?_)
    -- days
    refine es_seq (es_asg (ev_lcS (xs := [elmRow k f0 s0 m 0 d1, elmRow k f1 s1 (m * more) d1 d2, elmRow k f2 s2 m d2 30].map encRow) (fun i acc M' => ∃ st ys, M' = [(s, st)] ∧ OkS st ∧ acc = ys.map PyData.int ∧ ys.length = i ∧ ∀ (j : Nat) (y : Int) (r : Row), ys[j]? = some y → [elmRow k f0 s0 m 0 d1, elmRow k f1 s1 (m * more) d1 d2, elmRow k f2 s2 m d2 30][j]? = some r → r.since ≤ y ∧ y < r.upto) (dw_list (dv_var rfl)) (gw_name (by decide)) (Nat.le_of_ble_eq_true rfl) ⟨st4, [], rfl, ok4, rfl, rfl, fun j y r hj => by cases hj⟩ (fun i acc M' ⟨st, ys, _, _, e, h, _⟩ => by rw [e, List.length_map]; exact h) (fun i x acc M' hx hI => ?_) fun acc M' hI => ?_))
    · obtain ⟨st5, ys, rfl, ok5, rfl, hlen, hys⟩ := hI
      rw [List.getElem?_map] at hx
      obtain ⟨r, hr, rfl⟩ := Option.map_eq_some_iff.mp hx
      have hmem : r ∈ [elmRow k f0 s0 m 0 d1, elmRow k f1 s1 (m * more) d1 d2, elmRow k f2 s2 m d2 30, oakRow k c] := by
        have h := List.mem_of_getElem? hr
        simp only [List.mem_cons, List.mem_nil_iff, or_false] at h ⊢
        rcases h with h | h | h
        · exact .inl h
        · exact .inr (.inl h)
        · exact .inr (.inr (.inl h))
      have gr := hgood r hmem
      have days := gr.days
      have up : r.upto ≤ 30 := by
        simp only [List.mem_cons, List.mem_nil_iff, or_false] at hmem
        rcases hmem with rfl | rfl | rfl | rfl
        · show d1 ≤ 30
          omega
        · show d2 ≤ 30
          omega
        · exact Int.le_refl 30
        · exact Int.le_refl 30
      have si := gr.since
      refine ⟨_, dg_name, fun Dl => ev_op (ev_pure (d := .int r.since) (dv_op (dv_var rfl) dv_int (d2_ixT 5 rfl rfl)) (ev_st (i := 2) (p := s) (st := st5) (M := [(Dl, ys.map PyData.int)]) rfl (ea_cons (ev_pure (d := .int (r.upto - r.since)) (dv_op (dv_op (dv_var rfl) dv_int (d2_ixT 6 rfl rfl)) (dv_op (dv_var rfl) dv_int (d2_ixT 5 rfl rfl)) d2_sub) (ea_nil ⟨rfl, st5, _, rfl, ⟨ok5, _, rfl, by omega, by omega⟩, fun d st6 po => ?_⟩)))))⟩
      obtain ⟨ok6, n, y, hn, rfl, hy0, hy1⟩ := po
      have hn := one_int hn
      subst hn
      refine ⟨_, d2_add, [(s, st6)], rfl, st6, ys ++ [r.since + y], rfl, ok6, by rw [List.map_append]; rfl, by rw [List.length_append, hlen]; rfl, fun j y' r' hj hr' => ?_⟩
      by_cases hj2 : j < ys.length
      · rw [List.getElem?_append_left hj2] at hj
        exact hys j y' r' hj hr'
      · have hj3 := (List.getElem?_eq_some_iff.mp hj).1
        rw [List.length_append, List.length_singleton] at hj3
        have ej : j = i := by omega
        subst ej
        rw [List.getElem?_append_right (by omega), hlen, Nat.sub_self] at hj
        have hj := Option.some.inj hj
        rw [hr] at hr'
        have hr' := Option.some.inj hr'
        subst hj
        subst hr'
        omega
    obtain ⟨st5, ys, rfl, ok5, rfl, hlen, hys⟩ := hI
    match ys, hlen, hys with
    | [y0, y1, y2], _, hys =>
      have z0 := hys 0 y0 _ rfl rfl
      have z1 := hys 1 y1 _ rfl rfl
      have z2 := hys 2 y2 _ rfl rfl
      have z0 : 0 ≤ y0 ∧ y0 < d1 := z0
      have z1 : d1 ≤ y1 ∧ y1 < d2 := z1
      have z2 : d2 ≤ y2 ∧ y2 < 30 := z2
      have four := four_of (c := c) hW hk hm hmore hd1 hd2 g0 g1 g2 ⟨hc0, hc1⟩ hp hR z0 z1 z2
      have hmm : 1 ≤ m * more ∧ m * more ≤ 36 := by
        have h : more = 1 ∨ more = 2 ∨ more = 3 ∨ more = 4 := by omega
        rcases h with rfl | rfl | rfl | rfl <;> omega
      have cd2 : ∀ v : Int, CDivW v more := fun v => wide_div (b := 4) (by omega) (by have e : (2 : Nat) ^ 4 = 16 := rfl; omega) (by decide) (by decide)
      have cd3 : CDivW more 2 := wide_div (b := 4) (by decide) (by decide) (by decide) (by decide)
      have N0 : ∀ u : Nat, (u : Int) < m → (numsOf (elmRow k f0 s0 m 0 d1))[u]? = some (.int (f0 + (u : Nat) * s0)) := fun u hu => nums_get M0 hu
      have N1 : ∀ u : Nat, (u : Int) < m * more → (numsOf (elmRow k f1 s1 (m * more) d1 d2))[u]? = some (.int (f1 + (u : Nat) * s1)) := fun u hu => nums_get M1 hu
      have N2 : ∀ u : Nat, (u : Int) < m → (numsOf (elmRow k f2 s2 m d2 30))[u]? = some (.int (f2 + (u : Nat) * s2)) := fun u hu => nums_get M2 hu
      have L0 : (numsOf (elmRow k f0 s0 m 0 d1)).length = m.toNat := by
        unfold numsOf
        rw [intsD_len, M0]
      have L1 : (numsOf (elmRow k f1 s1 (m * more) d1 d2)).length = (m * more).toNat := by
        unfold numsOf
        rw [intsD_len, M1]
      generalize hE0 : elmRow k f0 s0 m 0 d1 = E0 at *
      generalize hE1 : elmRow k f1 s1 (m * more) d1 d2 = E1 at *
      generalize hE2 : elmRow k f2 s2 m d2 30 = E2 at *
      refine es_pure (ds_seq (ds_for (fun _ => [some (.d (.list (ns.map PyData.int))), some (.d (.int (i : Nat))), some (.a s), some (.d (encW W)), some (.d (.int (k : Nat))), some (.d (.int more)), some (.d (.list ([E0, E1, E2].map encRow))), some (.d (encRows R)), some (.d (.list ([E0, E1, E2].map fun r => .list (numsOf r)))), some (.d (.list ([y0, y1, y2].map PyData.int))), none, none, none]) (dw_enum (xs := numsOf E0) (da_cons (dv_op (dv_var rfl) dv_int (d2_ixL 0 rfl rfl)) da_nil)) rfl rfl fun t x hx => ?_) (ds_for (fun _ => [some (.d (.list (ns.map PyData.int))), some (.d (.int (i : Nat))), some (.a s), some (.d (encW W)), some (.d (.int (k : Nat))), some (.d (.int more)), some (.d (.list ([E0, E1, E2].map encRow))), some (.d (encRows R)), some (.d (.list ([E0, E1, E2].map fun r => .list (numsOf r)))), some (.d (.list ([y0, y1, y2].map PyData.int))), none, none, none]) (dw_enum (xs := numsOf E1) (da_cons (dv_op (dv_var rfl) dv_int (d2_ixL 1 rfl rfl)) da_nil)) rfl rfl fun t x hx => ?_)) ⟨[], List.nil_sublist _, rfl, rfl⟩
      · have ht := (List.getElem?_eq_some_iff.mp hx).1
        rw [nums_len, L0] at ht
        have hx2 := nums_at (N0 t (by omega))
        rw [hx] at hx2
        have hx2 := Option.some.inj hx2
        subst hx2
        have cm : CMulW (t : Nat) more := wide_mul (a := 6) (b := 4) (by have e : (2 : Nat) ^ 6 = 64 := rfl; omega) (by have e : (2 : Nat) ^ 4 = 16 := rfl; omega) (by decide) (by decide) (by decide)
        obtain ⟨u, hu, hu2⟩ : ∃ u : Nat, (t : Int) * more + more / 2 = (u : Nat) ∧ (u : Int) < m * more := by
          have h : more = 1 ∨ more = 2 ∨ more = 3 ∨ more = 4 := by omega
          refine ⟨((t : Int) * more + more / 2).toNat, ?_, ?_⟩
          · rcases h with rfl | rfl | rfl | rfl <;> omega
          · rcases h with rfl | rfl | rfl | rfl <;> omega
        have A := four.a t (by omega) (by omega)
        have B := four.b t (by omega) (by omega)
        have C := four.c t (by omega) (by omega)
        rw [hu] at A
        refine ⟨_, dg_tup (ds := [.int (t : Nat), .int (f0 + (t : Nat) * s0)]) (dgs_cons (dgs_cons dgs_nil)), ds_forget [10, 11] (ds_seq (ds_ifB (b := !true) (dt_not (dt_B (dv_call (ds := [encW W, encRows R, encRow E0, .int (f0 + (t : Nat) * s0), .int y0, .int y1, .int (f1 + (u : Nat) * s1)]) (da_cons (dv_var rfl) (da_cons (dv_var rfl) (da_cons (dv_op (dv_var rfl) dv_int (d2_ixL 0 rfl rfl)) (da_cons (dv_var rfl) (da_cons (dv_op (dv_var rfl) dv_int (d2_ixL 0 rfl rfl)) (da_cons (dv_op (dv_var rfl) dv_int (d2_ixL 1 rfl rfl)) (da_cons (dv_op (dv_op (dv_var rfl) dv_int (d2_ixL 1 rfl rfl)) (dv_op (dv_op (dv_var rfl) (dv_var rfl) (d2_mul cm)) (dv_op (dv_var rfl) dv_int (d2_div cd3)) d2_add) (d2_ixL u hu (N1 u hu2))) da_nil))))))) (pr_leads A)))) rfl) (ds_seq (ds_ifB (b := !true) (dt_not (dt_B (dv_call (ds := [encW W, encRows R, encRow E0, .int (f0 + (t : Nat) * s0), .int y0, .int y2, .int (f2 + (t : Nat) * s2)]) (da_cons (dv_var rfl) (da_cons (dv_var rfl) (da_cons (dv_op (dv_var rfl) dv_int (d2_ixL 0 rfl rfl)) (da_cons (dv_var rfl) (da_cons (dv_op (dv_var rfl) dv_int (d2_ixL 0 rfl rfl)) (da_cons (dv_op (dv_var rfl) dv_int (d2_ixL 2 rfl rfl)) (da_cons (dv_op (dv_op (dv_var rfl) dv_int (d2_ixL 2 rfl rfl)) (dv_var rfl) (d2_ixL t rfl (N2 t (by omega)))) da_nil))))))) (pr_leads B)))) rfl) (ds_ifB (b := !true) (dt_not (dt_B (dv_call (ds := [encW W, encRows R, encRow E0, .int (f0 + (t : Nat) * s0), .int y0, .int y0, .int (f0 + (t : Nat) * s0)]) (da_cons (dv_var rfl) (da_cons (dv_var rfl) (da_cons (dv_op (dv_var rfl) dv_int (d2_ixL 0 rfl rfl)) (da_cons (dv_var rfl) (da_cons (dv_op (dv_var rfl) dv_int (d2_ixL 0 rfl rfl)) (da_cons (dv_op (dv_var rfl) dv_int (d2_ixL 0 rfl rfl)) (da_cons (dv_var rfl) da_nil))))))) (pr_leads C)))) rfl))) rfl⟩
      · have ht := (List.getElem?_eq_some_iff.mp hx).1
        rw [nums_len, L1] at ht
        have hx2 := nums_at (N1 t (by omega))
        rw [hx] at hx2
        have hx2 := Option.some.inj hx2
        subst hx2
        obtain ⟨u, hu, hu2⟩ : ∃ u : Nat, (t : Int) / more = (u : Nat) ∧ (u : Int) < m := by
          have h : more = 1 ∨ more = 2 ∨ more = 3 ∨ more = 4 := by omega
          refine ⟨((t : Int) / more).toNat, ?_, ?_⟩
          · rcases h with rfl | rfl | rfl | rfl <;> omega
          · rcases h with rfl | rfl | rfl | rfl <;> omega
        have Dd := four.d t (by omega) (by omega)
        rw [hu] at Dd
        exact ⟨_, dg_tup (ds := [.int (t : Nat), .int (f1 + (t : Nat) * s1)]) (dgs_cons (dgs_cons dgs_nil)), ds_forget [10, 11] (ds_ifB (b := !true) (dt_not (dt_B (dv_call (ds := [encW W, encRows R, encRow E1, .int (f1 + (t : Nat) * s1), .int y1, .int y2, .int (f2 + (u : Nat) * s2)]) (da_cons (dv_var rfl) (da_cons (dv_var rfl) (da_cons (dv_op (dv_var rfl) dv_int (d2_ixL 1 rfl rfl)) (da_cons (dv_var rfl) (da_cons (dv_op (dv_var rfl) dv_int (d2_ixL 1 rfl rfl)) (da_cons (dv_op (dv_var rfl) dv_int (d2_ixL 2 rfl rfl)) (da_cons (dv_op (dv_op (dv_var rfl) dv_int (d2_ixL 2 rfl rfl)) (dv_op (dv_var rfl) (dv_var rfl) (d2_div (cd2 _))) (d2_ixL u hu (N2 u hu2))) da_nil))))))) (pr_leads Dd)))) rfl) rfl⟩
  · exact er_ret (ev_pure dv_bl rfl)
end
end Ow
/-! ## part OwEnd -/
set_option Elab.async false
set_option linter.all false
set_option maxRecDepth 100000
set_option maxHeartbeats 0
/-! OwEnd: all joined. -/
namespace Ow
open PySem PySem.Spec PyProof.Rows L2
section
variable {P : Program} {w : World} {K : PySem.W.Frag} {h base : Heap} {mg : Str → Option Value}
theorem def_of {x : Str} {i j : Nat} {d : He.DefD} (X : K.In h) (G : h.Ns mainGlobals mg) (c : He.SaysD hfa hdefs K) (hd : hdefs[i]? = some d) (hf : hfa[j]? = some (.glo x)) {st : Stmt} {dvs : List V} (e : ∀ fd, FunD K d.name d.qual d.params d.body d.scope (d.dvs K) (d.kws K) (He.fAd K d.at_) fd → FunD K x x (defArgs st) (defBody st) (defScope st) dvs [] (He.ga K x) fd) : Def K mg x st dvs := by
  obtain ⟨fd, F⟩ := c.def_ i hd
  exact ⟨_, fd, e fd F, He.glo_ok X G (c.fact j hf)⟩
theorem tx_of (X : K.In h) (G : h.Ns mainGlobals mg) (c : He.SaysD hfa hdefs K) (t : He.tupB K "NOUGHT" [.int 0, .int 1] = true) : Nonempty (Tx K mg) := by
  obtain ⟨t0, e0⟩ := He.int_ok X G (c.fact 77 (f := .int "LAND" 64) rfl)
  obtain ⟨t1, e1⟩ := He.int_ok X G (c.fact 78 (f := .int "MOST_CROSSINGS" 10) rfl)
  obtain ⟨t2, e2⟩ := He.int_ok X G (c.fact 79 (f := .int "MOST_ROADS" 14) rfl)
  obtain ⟨t3, e3⟩ := He.int_ok X G (c.fact 80 (f := .int "MOST_MIDDLE" 4) rfl)
  obtain ⟨t4, e4⟩ := He.int_ok X G (c.fact 81 (f := .int "MOST_ROWS" 12) rfl)
  obtain ⟨t5, e5⟩ := He.int_ok X G (c.fact 82 (f := .int "MOST_NUMBER" 999) rfl)
  obtain ⟨ts, es⟩ := He.str_ok X G (c.fact 83 (f := .str "SMALL" SMALL) rfl)
  exact ⟨⟨He.free_ok X G (c.fact 61 (f := .free "len") rfl), He.free_ok X G (c.fact 62 (f := .free "isinstance") rfl), He.free_ok X G (c.fact 63 (f := .free "int") rfl), He.free_ok X G (c.fact 64 (f := .free "bool") rfl), He.free_ok X G (c.fact 65 (f := .free "str") rfl), He.free_ok X G (c.fact 66 (f := .free "tuple") rfl), He.free_ok X G (c.fact 67 (f := .free "list") rfl), He.free_ok X G (c.fact 68 (f := .free "abs") rfl), He.free_ok X G (c.fact 69 (f := .free "all") rfl), He.free_ok X G (c.fact 70 (f := .free "any") rfl), He.free_ok X G (c.fact 71 (f := .free "zip") rfl), He.free_ok X G (c.fact 72 (f := .free "range") rfl), He.free_ok X G (c.fact 73 (f := .free "enumerate") rfl), He.free_ok X G (c.fact 74 (f := .free "sorted") rfl), He.free_ok X G (c.fact 75 (f := .free "max") rfl), He.free_ok X G (c.fact 76 (f := .free "min") rfl), ts, es, t0, e0, t1, e1, t2, e2, t3, e3, t4, e4, t5, e5, He.ga K "NOUGHT", He.glo_ok X G (c.fact 84 (f := .glo "NOUGHT") rfl), fun H => He.tupB_ok t H⟩⟩
theorem d_is_whole (X : K.In h) (G : h.Ns mainGlobals mg) (c : He.SaysD hfa hdefs K) : Def K mg "is_whole" (top 12) [] := def_of (i := 0) (j := 0) X G c rfl rfl fun _ F => F
theorem d_is_within (X : K.In h) (G : h.Ns mainGlobals mg) (c : He.SaysD hfa hdefs K) : Def K mg "is_within" (top 13) [] := def_of (i := 1) (j := 1) X G c rfl rfl fun _ F => F
theorem d_is_word (X : K.In h) (G : h.Ns mainGlobals mg) (c : He.SaysD hfa hdefs K) : Def K mg "is_word" (top 14) [] := def_of (i := 2) (j := 2) X G c rfl rfl fun _ F => F
theorem d_rises (X : K.In h) (G : h.Ns mainGlobals mg) (c : He.SaysD hfa hdefs K) : Def K mg "rises" (top 15) [] := def_of (i := 3) (j := 3) X G c rfl rfl fun _ F => F
theorem d_is_row (X : K.In h) (G : h.Ns mainGlobals mg) (c : He.SaysD hfa hdefs K) : Def K mg "is_row" (top 16) [] := def_of (i := 4) (j := 4) X G c rfl rfl fun _ F => F
theorem d_common_of (X : K.In h) (G : h.Ns mainGlobals mg) (c : He.SaysD hfa hdefs K) : Def K mg "common_of" (top 17) [] := def_of (i := 5) (j := 5) X G c rfl rfl fun _ F => F
theorem d_low (X : K.In h) (G : h.Ns mainGlobals mg) (c : He.SaysD hfa hdefs K) : Def K mg "low" (top 18) [] := def_of (i := 6) (j := 6) X G c rfl rfl fun _ F => F
theorem d_is_fraction (X : K.In h) (G : h.Ns mainGlobals mg) (c : He.SaysD hfa hdefs K) : Def K mg "is_fraction" (top 19) [] := def_of (i := 7) (j := 7) X G c rfl rfl fun _ F => F
theorem d_plus (X : K.In h) (G : h.Ns mainGlobals mg) (c : He.SaysD hfa hdefs K) : Def K mg "plus" (top 20) [] := def_of (i := 8) (j := 8) X G c rfl rfl fun _ F => F
theorem d_minus (X : K.In h) (G : h.Ns mainGlobals mg) (c : He.SaysD hfa hdefs K) : Def K mg "minus" (top 21) [] := def_of (i := 9) (j := 9) X G c rfl rfl fun _ F => F
theorem d_times (X : K.In h) (G : h.Ns mainGlobals mg) (c : He.SaysD hfa hdefs K) : Def K mg "times" (top 22) [] := def_of (i := 10) (j := 10) X G c rfl rfl fun _ F => F
theorem d_over (X : K.In h) (G : h.Ns mainGlobals mg) (c : He.SaysD hfa hdefs K) : Def K mg "over" (top 23) [] := def_of (i := 11) (j := 11) X G c rfl rfl fun _ F => F
theorem d_less (X : K.In h) (G : h.Ns mainGlobals mg) (c : He.SaysD hfa hdefs K) : Def K mg "less" (top 24) [] := def_of (i := 12) (j := 12) X G c rfl rfl fun _ F => F
theorem d_amount (X : K.In h) (G : h.Ns mainGlobals mg) (c : He.SaysD hfa hdefs K) : Def K mg "amount" (top 25) [] := def_of (i := 13) (j := 13) X G c rfl rfl fun _ F => F
theorem d_middle (X : K.In h) (G : h.Ns mainGlobals mg) (c : He.SaysD hfa hdefs K) : Def K mg "middle" (top 26) [] := def_of (i := 14) (j := 14) X G c rfl rfl fun _ F => F
theorem d_is_point (X : K.In h) (G : h.Ns mainGlobals mg) (c : He.SaysD hfa hdefs K) : Def K mg "is_point" (top 27) [] := def_of (i := 15) (j := 15) X G c rfl rfl fun _ F => F
theorem d_is_in_land (X : K.In h) (G : h.Ns mainGlobals mg) (c : He.SaysD hfa hdefs K) : Def K mg "is_in_land" (top 28) [] := def_of (i := 16) (j := 16) X G c rfl rfl fun _ F => F
theorem d_is_day (X : K.In h) (G : h.Ns mainGlobals mg) (c : He.SaysD hfa hdefs K) : Def K mg "is_day" (top 29) [] := def_of (i := 17) (j := 17) X G c rfl rfl fun _ F => F
theorem d_need_day (X : K.In h) (G : h.Ns mainGlobals mg) (c : He.SaysD hfa hdefs K) : Def K mg "need_day" (top 30) [.int 0] := def_of (i := 18) (j := 18) X G c rfl rfl fun _ F => F
theorem d_steps (X : K.In h) (G : h.Ns mainGlobals mg) (c : He.SaysD hfa hdefs K) : Def K mg "steps" (top 31) [] := def_of (i := 19) (j := 19) X G c rfl rfl fun _ F => F
theorem d_streetwise_of (X : K.In h) (G : h.Ns mainGlobals mg) (c : He.SaysD hfa hdefs K) : Def K mg "streetwise_of" (top 32) [] := def_of (i := 20) (j := 20) X G c rfl rfl fun _ F => F
theorem d_are_land_points (X : K.In h) (G : h.Ns mainGlobals mg) (c : He.SaysD hfa hdefs K) : Def K mg "are_land_points" (top 37) [] := def_of (i := 21) (j := 21) X G c rfl rfl fun _ F => F
theorem d_is_road (X : K.In h) (G : h.Ns mainGlobals mg) (c : He.SaysD hfa hdefs K) : Def K mg "is_road" (top 38) [] := def_of (i := 22) (j := 22) X G c rfl rfl fun _ F => F
theorem d_is_web (X : K.In h) (G : h.Ns mainGlobals mg) (c : He.SaysD hfa hdefs K) : Def K mg "is_web" (top 39) [] := def_of (i := 23) (j := 23) X G c rfl rfl fun _ F => F
theorem d_need_web (X : K.In h) (G : h.Ns mainGlobals mg) (c : He.SaysD hfa hdefs K) : Def K mg "need_web" (top 40) [] := def_of (i := 24) (j := 24) X G c rfl rfl fun _ F => F
theorem d_corners_of (X : K.In h) (G : h.Ns mainGlobals mg) (c : He.SaysD hfa hdefs K) : Def K mg "corners_of" (top 41) [] := def_of (i := 25) (j := 25) X G c rfl rfl fun _ F => F
theorem d_pieces_of (X : K.In h) (G : h.Ns mainGlobals mg) (c : He.SaysD hfa hdefs K) : Def K mg "pieces_of" (top 42) [] := def_of (i := 26) (j := 26) X G c rfl rfl fun _ F => F
theorem d_long_by (X : K.In h) (G : h.Ns mainGlobals mg) (c : He.SaysD hfa hdefs K) : Def K mg "long_by" (top 43) [] := def_of (i := 27) (j := 27) X G c rfl rfl fun _ F => F
theorem d_is_road_number (X : K.In h) (G : h.Ns mainGlobals mg) (c : He.SaysD hfa hdefs K) : Def K mg "is_road_number" (top 44) [] := def_of (i := 28) (j := 28) X G c rfl rfl fun _ F => F
theorem d_is_spot (X : K.In h) (G : h.Ns mainGlobals mg) (c : He.SaysD hfa hdefs K) : Def K mg "is_spot" (top 45) [] := def_of (i := 29) (j := 29) X G c rfl rfl fun _ F => F
theorem d_need_spot (X : K.In h) (G : h.Ns mainGlobals mg) (c : He.SaysD hfa hdefs K) : Def K mg "need_spot" (top 46) [] := def_of (i := 30) (j := 30) X G c rfl rfl fun _ F => F
theorem d_is_number_row (X : K.In h) (G : h.Ns mainGlobals mg) (c : He.SaysD hfa hdefs K) : Def K mg "is_number_row" (top 50) [] := def_of (i := 31) (j := 31) X G c rfl rfl fun _ F => F
theorem d_has_number (X : K.In h) (G : h.Ns mainGlobals mg) (c : He.SaysD hfa hdefs K) : Def K mg "has_number" (top 51) [] := def_of (i := 32) (j := 32) X G c rfl rfl fun _ F => F
theorem d_is_of_day (X : K.In h) (G : h.Ns mainGlobals mg) (c : He.SaysD hfa hdefs K) : Def K mg "is_of_day" (top 52) [] := def_of (i := 33) (j := 33) X G c rfl rfl fun _ F => F
theorem d_are_at_odds (X : K.In h) (G : h.Ns mainGlobals mg) (c : He.SaysD hfa hdefs K) : Def K mg "are_at_odds" (top 53) [] := def_of (i := 34) (j := 34) X G c rfl rfl fun _ F => F
theorem d_are_rows_by (X : K.In h) (G : h.Ns mainGlobals mg) (c : He.SaysD hfa hdefs K) : Def K mg "are_rows_by" (top 54) [] := def_of (i := 35) (j := 35) X G c rfl rfl fun _ F => F
theorem d_need_rows (X : K.In h) (G : h.Ns mainGlobals mg) (c : He.SaysD hfa hdefs K) : Def K mg "need_rows" (top 55) [] := def_of (i := 36) (j := 36) X G c rfl rfl fun _ F => F
theorem d_are_rows (X : K.In h) (G : h.Ns mainGlobals mg) (c : He.SaysD hfa hdefs K) : Def K mg "are_rows" (top 56) [] := def_of (i := 37) (j := 37) X G c rfl rfl fun _ F => F
theorem d_many_of (X : K.In h) (G : h.Ns mainGlobals mg) (c : He.SaysD hfa hdefs K) : Def K mg "many_of" (top 57) [] := def_of (i := 38) (j := 38) X G c rfl rfl fun _ F => F
theorem d_stretch_of (X : K.In h) (G : h.Ns mainGlobals mg) (c : He.SaysD hfa hdefs K) : Def K mg "stretch_of" (top 58) [] := def_of (i := 39) (j := 39) X G c rfl rfl fun _ F => F
theorem d_find_by (X : K.In h) (G : h.Ns mainGlobals mg) (c : He.SaysD hfa hdefs K) : Def K mg "find_by" (top 59) [] := def_of (i := 40) (j := 40) X G c rfl rfl fun _ F => F
theorem d_number_by (X : K.In h) (G : h.Ns mainGlobals mg) (c : He.SaysD hfa hdefs K) : Def K mg "number_by" (top 60) [] := def_of (i := 41) (j := 41) X G c rfl rfl fun _ F => F
theorem d_numbers_by (X : K.In h) (G : h.Ns mainGlobals mg) (c : He.SaysD hfa hdefs K) : Def K mg "numbers_by" (top 61) [] := def_of (i := 42) (j := 42) X G c rfl rfl fun _ F => F
theorem d_need_address (X : K.In h) (G : h.Ns mainGlobals mg) (c : He.SaysD hfa hdefs K) : Def K mg "need_address" (top 62) [] := def_of (i := 43) (j := 43) X G c rfl rfl fun _ F => F
theorem d_find (X : K.In h) (G : h.Ns mainGlobals mg) (c : He.SaysD hfa hdefs K) : Def K mg "find" (top 63) [] := def_of (i := 44) (j := 44) X G c rfl rfl fun _ F => F
theorem d_numbers_at (X : K.In h) (G : h.Ns mainGlobals mg) (c : He.SaysD hfa hdefs K) : Def K mg "numbers_at" (top 64) [] := def_of (i := 45) (j := 45) X G c rfl rfl fun _ F => F
theorem d_later (X : K.In h) (G : h.Ns mainGlobals mg) (c : He.SaysD hfa hdefs K) : Def K mg "later" (top 65) [] := def_of (i := 46) (j := 46) X G c rfl rfl fun _ F => F
theorem d_law_cell_at (X : K.In h) (G : h.Ns mainGlobals mg) (c : He.SaysD hfa hdefs K) : Def K mg "_law_cell_at" (top 67) [] := def_of (i := 47) (j := 47) X G c rfl rfl fun _ F => F
theorem d_law_state (X : K.In h) (G : h.Ns mainGlobals mg) (c : He.SaysD hfa hdefs K) : Def K mg "_law_state" (top 68) [] := def_of (i := 48) (j := 48) X G c rfl rfl fun _ F => F
theorem d_law_choice (X : K.In h) (G : h.Ns mainGlobals mg) (c : He.SaysD hfa hdefs K) : Def K mg "_law_choice" (top 69) [] := def_of (i := 49) (j := 49) X G c rfl rfl fun _ F => F
theorem d_law_low (X : K.In h) (G : h.Ns mainGlobals mg) (c : He.SaysD hfa hdefs K) : Def K mg "_law_low" (top 70) [] := def_of (i := 50) (j := 50) X G c rfl rfl fun _ F => F
theorem d_law_plus (X : K.In h) (G : h.Ns mainGlobals mg) (c : He.SaysD hfa hdefs K) : Def K mg "_law_plus" (top 71) [] := def_of (i := 51) (j := 51) X G c rfl rfl fun _ F => F
theorem d_law_times (X : K.In h) (G : h.Ns mainGlobals mg) (c : He.SaysD hfa hdefs K) : Def K mg "_law_times" (top 72) [] := def_of (i := 52) (j := 52) X G c rfl rfl fun _ F => F
theorem d_law_land_number (X : K.In h) (G : h.Ns mainGlobals mg) (c : He.SaysD hfa hdefs K) : Def K mg "_law_land_number" (top 73) [] := def_of (i := 53) (j := 53) X G c rfl rfl fun _ F => F
theorem d_law_land_point (X : K.In h) (G : h.Ns mainGlobals mg) (c : He.SaysD hfa hdefs K) : Def K mg "_law_land_point" (top 74) [] := def_of (i := 54) (j := 54) X G c rfl rfl fun _ F => F
theorem d_law_street_web (X : K.In h) (G : h.Ns mainGlobals mg) (c : He.SaysD hfa hdefs K) : Def K mg "_law_street_web" (top 75) [] := def_of (i := 55) (j := 55) X G c rfl rfl fun _ F => F
theorem d_law_numbers (X : K.In h) (G : h.Ns mainGlobals mg) (c : He.SaysD hfa hdefs K) : Def K mg "_law_numbers" (top 76) [] := def_of (i := 56) (j := 56) X G c rfl rfl fun _ F => F
theorem d_law_three_rows (X : K.In h) (G : h.Ns mainGlobals mg) (c : He.SaysD hfa hdefs K) : Def K mg "_law_three_rows" (top 77) [] := def_of (i := 57) (j := 57) X G c rfl rfl fun _ F => F
theorem d_law_elm (X : K.In h) (G : h.Ns mainGlobals mg) (c : He.SaysD hfa hdefs K) : Def K mg "_law_elm" (top 78) [] := def_of (i := 58) (j := 58) X G c rfl rfl fun _ F => F
theorem d_law_leads_right (X : K.In h) (G : h.Ns mainGlobals mg) (c : He.SaysD hfa hdefs K) : Def K mg "_law_leads_right" (top 79) [] := def_of (i := 59) (j := 59) X G c rfl rfl fun _ F => F
theorem law_ok {f : Addr} {fd : FuncData} (X : K.In h) (G : h.Ns mainGlobals mg) (c : He.SaysD hfa hdefs K) (T : Tx K mg) (F : FunD K "law" "law" (defArgs (top 80)) (defBody (top 80)) (defScope (top 80)) [] [] f fd) : FnOk P w K mg base CX0 12 f fd ["_law_script"] (spLaw K) := by
  have g_whole := has_whole (P := P) (w := w) (base := base) T (d_is_whole X G c) 
  have g_within := has_within (P := P) (w := w) (base := base) T (d_is_within X G c) g_whole
  have g_word := has_word (P := P) (w := w) (base := base) T (d_is_word X G c) 
  have g_rises := has_rises (P := P) (w := w) (base := base) T (d_rises X G c) 
  have g_row := has_row (P := P) (w := w) (base := base) T (d_is_row X G c) 
  have g_common := has_common (P := P) (w := w) (base := base) T (d_common_of X G c) 
  have g_low := has_low (P := P) (w := w) (base := base) T (d_low X G c) g_common
  have g_frac := has_frac (P := P) (w := w) (base := base) T (d_is_fraction X G c) g_whole g_common
  have g_plus := has_plus (P := P) (w := w) (base := base) T (d_plus X G c) g_low
  have g_minus := has_minus (P := P) (w := w) (base := base) T (d_minus X G c) g_low
  have g_times := has_times (P := P) (w := w) (base := base) T (d_times X G c) g_low
  have g_over := has_over (P := P) (w := w) (base := base) T (d_over X G c) g_low
  have g_less := has_less (P := P) (w := w) (base := base) T (d_less X G c) 
  have g_amount := has_amount (P := P) (w := w) (base := base) T (d_amount X G c) 
  have g_middle := has_middle (P := P) (w := w) (base := base) T (d_middle X G c) g_plus g_over
  have g_point := has_point (P := P) (w := w) (base := base) T (d_is_point X G c) g_frac
  have g_land := has_land (P := P) (w := w) (base := base) T (d_is_in_land X G c) 
  have g_day := has_day (P := P) (w := w) (base := base) T (d_is_day X G c) g_whole
  have g_nday := has_nday (P := P) (w := w) (base := base) T (d_need_day X G c) g_day
  have g_steps := has_steps (P := P) (w := w) (base := base) T (d_steps X G c) g_amount g_minus
  have g_sw := has_streetwise (P := P) (w := w) (base := base) T (d_streetwise_of X G c) g_steps g_plus
  have g_lp := has_landpts (P := P) (w := w) (base := base) T (d_are_land_points X G c) g_point g_land
  have g_road := has_road (P := P) (w := w) (base := base) T (d_is_road X G c) g_within g_lp
  have g_web := has_web (P := P) (w := w) (base := base) T (d_is_web X G c) g_lp g_row g_road
  have g_nweb := has_nweb (P := P) (w := w) (base := base) T (d_need_web X G c) g_web
  have g_corners := has_corners (P := P) (w := w) (base := base) T (d_corners_of X G c) 
  have g_pieces := has_pieces (P := P) (w := w) (base := base) T (d_pieces_of X G c) g_corners
  have g_long := has_long (P := P) (w := w) (base := base) T (d_long_by X G c) g_pieces g_plus g_sw
  have g_rn := has_roadno (P := P) (w := w) (base := base) T (d_is_road_number X G c) g_within
  have g_spot := has_spot (P := P) (w := w) (base := base) T (d_is_spot X G c) g_rn g_frac g_less g_long
  have g_nspot := has_nspot (P := P) (w := w) (base := base) T (d_need_spot X G c) g_spot
  have g_nrow := has_nrow (P := P) (w := w) (base := base) T (d_is_number_row X G c) g_word g_rn g_within g_day
  have g_hasn := has_hasn (P := P) (w := w) (base := base) T (d_has_number X G c) 
  have g_ofday := has_ofday (P := P) (w := w) (base := base) T (d_is_of_day X G c) 
  have g_odds := has_odds (P := P) (w := w) (base := base) T (d_are_at_odds X G c) g_hasn
  have g_rowsby := has_rowsby (P := P) (w := w) (base := base) T (d_are_rows_by X G c) g_row g_nrow g_rises g_odds
  have g_nrows := has_nrows (P := P) (w := w) (base := base) T (d_need_rows X G c) g_nweb g_rowsby
  have g_rows := has_rows (P := P) (w := w) (base := base) T (d_are_rows X G c) g_nweb g_rowsby
  have g_many := has_many (P := P) (w := w) (base := base) T (d_many_of X G c) 
  have g_stretch := has_stretch (P := P) (w := w) (base := base) T (d_stretch_of X G c) g_times g_long g_many
  have g_findby := has_findby (P := P) (w := w) (base := base) T (d_find_by X G c) g_ofday g_hasn g_stretch
  have g_numberby := has_numberby (P := P) (w := w) (base := base) T (d_number_by X G c) g_long g_many g_less
  have g_numbersby := has_numbersby (P := P) (w := w) (base := base) T (d_numbers_by X G c) g_ofday g_numberby
  have g_naddr := has_naddr (P := P) (w := w) (base := base) T (d_need_address X G c) g_nrows g_word g_whole g_nday.2
  have g_find := has_find (P := P) (w := w) (base := base) T (d_find X G c) g_naddr g_findby
  have g_numbersat := has_numbersat (P := P) (w := w) (base := base) T (d_numbers_at X G c) g_nrows g_nspot g_nday.2 g_numbersby
  have g_later := has_later (P := P) (w := w) (base := base) T (d_later X G c) g_naddr g_nday.1 g_findby g_middle g_numbersby
  have g_cell := has_cell (P := P) (w := w) (base := base) T (d_law_cell_at X G c) 
  have g_lstate := has_lstate (P := P) (w := w) (base := base) T (d_law_state X G c) g_cell
  have g_choice := has_choice (P := P) (w := w) (base := base) T (d_law_choice X G c) 
  have g_llow := has_llow (P := P) (w := w) (base := base) T (d_law_low X G c) 
  have g_lplus := has_lplus (P := P) (w := w) (base := base) T (d_law_plus X G c) g_llow
  have g_ltimes := has_ltimes (P := P) (w := w) (base := base) T (d_law_times X G c) g_llow
  have g_landnumber := has_landnumber (P := P) (w := w) (base := base) T (d_law_land_number X G c) g_choice g_llow
  have g_landpoint := has_landpoint (P := P) (w := w) (base := base) T (d_law_land_point X G c) g_landnumber
  have g_streetweb := has_streetweb (P := P) (w := w) (base := base) T (d_law_street_web X G c) g_choice g_landpoint
  have g_numbers := has_numbers (P := P) (w := w) (base := base) T (d_law_numbers X G c) 
  have g_three := has_three (P := P) (w := w) (base := base) T (d_law_three_rows X G c) g_choice
  have g_elm := has_elm (P := P) (w := w) (base := base) T (d_law_elm X G c) 
  have g_leads := has_leads (P := P) (w := w) (base := base) T (d_law_leads_right X G c) g_find g_later g_ltimes g_lplus g_elm g_numbersat
  exact ok_law T F g_lstate g_streetweb g_choice g_three g_rows g_numbers g_leads
end
theorem facts {P : Program} {w : World} {K : PySem.W.Frag} {h : Heap} {mg : Str → Option Value} {f : Addr} (X : K.In h) (G : h.Ns mainGlobals mg) (hfa' : mg ("law" : Str) = some (.ref f)) (e : obsN K = valN) :
    ∃ fd : FuncData, (∀ (s : Shared) (v : Value), BindsTo s fd ⟨[v], []⟩ [("_law_script", v)]) ∧ ∀ base : Heap, K.In base → base.Ns mainGlobals mg → FnOk P w K mg base CX0 12 f fd ["_law_script"] (spLaw K) := by
  have c : He.SaysD hfa hdefs K := congrArg Prod.snd e
  have t : He.tupB K "NOUGHT" [.int 0, .int 1] = true := congrArg Prod.fst e
  obtain ⟨T⟩ := tx_of X G c t
  obtain ⟨fd, F⟩ := c.def_ 60 (d := hd60) rfl
  have q := hfa'.symm.trans (He.glo_ok X G (c.fact 60 (f := .glo "law") rfl))
  cases q
  have b := FunD.bindsA (ps := ["_law_script"]) F fun _ _ _ _ _ _ us hl => match us, hl with | [_], _ => rfl
  exact ⟨fd, fun s v => b s [v] rfl, fun base _ _ => law_ok X G c T F⟩
end Ow
open PySem PySem.W PySem.Calls PyProof.Rows
theorem PySem.Challenge.cw_onewhere_k41_whole_numbered_anew_holds : PySem.Challenge.rw_onewhere_k41_whole_numbered_anew.Holds := by
  w_on; o_law
  refine HandSHeadRun.head_any (r := OpenLaw.row PySem.Challenge.rw_onewhere_k41_whole_numbered_anew) (q := view (OpenLaw.row PySem.Challenge.rw_onewhere_k41_whole_numbered_anew).prog [80]) (H := Ow.hookN) (ob := Ow.obN) (M := 4000) (loose := Ow.hloose) (d := HandSHeadRun.topDef (OpenLaw.row PySem.Challenge.rw_onewhere_k41_whole_numbered_anew).prog 80) (kwd := []) Ow.obN_eq
    (by kernel_rfl) (fun s => by kernel_rfl) Ow.hrun (by kernel_rfl) (by kernel_rfl) (by kernel_rfl) (by rfl) (by first | assumption | decide +kernel) (by decide +kernel) ⟨rfl, rfl, rfl, rfl, rfl, by decide +kernel⟩ ?hw ?hc
  case hw => w_witness2
  case hc =>
    refine L2.walk_ofE (l := PySem.Challenge.rw_onewhere_k41_whole_numbered_anew) (n := 63) (k := 12) (x := "_law_script") (CX := L2.CX0) rfl (by decide) (by kernel_rfl) ⟨rfl, by decide, by decide⟩ ?F (fun _ _ _ _ z => z)
    intro w mg fa h Y G hmg0
    obtain ⟨K, KX, c⟩ := Y
    have hmg : mg ("law" : PySem.Str) = some (.ref fa) := by
      have e : (HandSHeadRun.topDef (OpenLaw.row PySem.Challenge.rw_onewhere_k41_whole_numbered_anew).prog 80).name = ("law" : PySem.Str) := by kernel_rfl
      rw [← e]
      exact hmg0
    obtain ⟨fd, hb, hF⟩ := Ow.facts (P := (PySem.Challenge.rw_onewhere_k41_whole_numbered_anew).prog) (w := w) KX G hmg c
    exact ⟨K, fd, Ow.spLaw K, KX, hb, fun H a ns hl _ hS => ⟨a, ns, rfl, hS, hl, fun _ => rfl⟩, hF⟩
