import PyProof.Rows.All
import Wide.All
import OpenK.AllK
import Wide.FinOn
import KE.KStateDown
import PyProof.ReprReads
import HandS.ForMost
import HandS.Defaults
import HandS.Exc
import HandS.Style
import HandS.TupAny
import HandS.IsInst
import HandS.Wide
import HandS.GenList
import HandS.Head0
import HandS.Head1
import HandS.Head2
import HandS.HeadEnd
import HandS.HeadHook1
import HandS.HeadHook2
import HandS.HeadHook3
import HandS.HeadHook4
import PySem.Challenge.RW_weandthey_k27_whole_turned_programs
set_option Elab.async false
set_option linter.all false
set_option maxRecDepth 100000
set_option maxHeartbeats 4000000
/-! ## A. The base: heaps that grow, data of tuples, what evaluates to what -/
namespace K27
open PySem PySem.Spec L2
open PyProof.Rows hiding St
def top (i : Nat) : Stmt := PySem.Challenge.pw_weandthey_k27_whole_turned_programs.main.body.getD i (.Pass ⟨0, 0, 0, 0⟩)

/-! ### heaps -/
/-- tuples stay -/
def Tx (H J : Hp) : Prop := ∀ a xs, H a = some (.tup xs) → J a = some (.tup xs)
theorem Tx.rfl {H : Hp} : Tx H H := fun _ _ h => h
theorem Tx.trans {H J L : Hp} (x : Tx H J) (y : Tx J L) : Tx H L := fun a xs h => y a xs (x a xs h)
/-- all but what stands in S stays; nothing is forgotten -/
structure Mv (S : List Addr) (H J : Hp) : Prop where
  keep : ∀ b o, b ∉ S → H b = some o → J b = some o
  tup : Tx H J
  low : ∀ b, J b = none → H b = none
abbrev Gr (H J : Hp) : Prop := Mv [] H J
section
variable {S U : List Addr} {H J L : Hp} {p : Addr} {o u : HO}
theorem Mv.rfl : Mv S H H := ⟨fun _ _ _ h => h, Tx.rfl, fun _ h => h⟩
theorem Mv.trans (x : Mv S H J) (y : Mv S J L) : Mv S H L := ⟨fun b o n h => y.keep b o n (x.keep b o n h), x.tup.trans y.tup, fun b h => x.low b (y.low b h)⟩
theorem Mv.wide (x : Mv S H J) (h : ∀ b ∈ S, b ∈ U) : Mv U H J := ⟨fun b o n => x.keep b o (fun z => n (h b z)), x.tup, x.low⟩
theorem Mv.up (x : Mv [] H J) : Mv U H J := Mv.wide x (fun _ h => nomatch h)
theorem Mv.get (x : Mv [] H J) (h : H p = some o) : J p = some o := x.keep p o (by simp) h
theorem Gr.new (h : H p = none) : Gr H (upd H p o) where
  keep := fun b u _ e => by rw [upd_ne (ne_of_none e h)]; exact e
  tup := fun b xs e => by rw [upd_ne (ne_of_none e h)]; exact e
  low := fun b e => by
    by_cases z : b = p
    · rw [z]; exact h
    · rw [upd_ne z] at e; exact e
/-- an object of S is changed, no tuple -/
theorem Mv.put (hp : H p = some o) (hs : p ∈ S) (ht : ∀ xs, o ≠ .tup xs) : Mv S H (upd H p u) where
  keep := fun b v n e => by rw [upd_ne (fun z => n (by rw [z]; exact hs))]; exact e
  tup := fun b xs e => by
    rw [upd_ne (fun z => ?_)]
    · exact e
    · rw [z, hp] at e
      exact ht xs (Option.some.inj e)
  low := fun b e => by
    by_cases z : b = p
    · rw [z, upd_same] at e; cases e
    · rw [upd_ne z] at e; exact e
theorem Mv.same (x : Mv S H J) (hs : ∀ b ∈ S, H b = none) : Same H J := fun b o e => x.keep b o (fun z => by rw [hs b z] at e; cases e) e
/-- what was made after H is of no weight for what H knows -/
theorem Mv.drop (x : Mv S H J) (hs : ∀ b ∈ S, b ∈ U ∨ H b = none) : Mv U H J where
  keep := fun b o n e => x.keep b o (fun z => (hs b z).elim n (fun q => by rw [q] at e; cases e)) e
  tup := x.tup
  low := x.low
theorem Mv.seqL {K : PySem.W.Frag} {a : Addr} {xs : List V} (x : Mv [] H J) (h : SqL K H a xs) : SqL K J a xs := by
  rcases h with (h | ⟨o, h⟩) | h
  · exact .inl (.inl (x.get h))
  · exact .inl (.inr ⟨o, x.get h⟩)
  · exact .inr h
end

/-! ### data: ints, texts, truth values, None, tuples of these -/
mutual
inductive Td (H : Hp) : V → PyData → Prop
  | non : Td H .non .none
  | bl (b : Bool) : Td H (.bl b) (.bool b)
  | int (i : Int) : Td H (.int i) (.int i)
  | str (x : Str) : Td H (.str x) (.str x)
  | tup {a : Addr} {xs : List V} {ds : List PyData} : H a = some (.tup xs) → TdA H xs ds → Td H (.ref a) (.tuple ds)
inductive TdA (H : Hp) : List V → List PyData → Prop
  | nil : TdA H [] []
  | cons {v : V} {vs : List V} {d : PyData} {ds : List PyData} : Td H v d → TdA H vs ds → TdA H (v :: vs) (d :: ds)
end
section
variable {H J : Hp}
mutual
theorem Td.mono (g : Tx H J) : ∀ {v : V} {d : PyData}, Td H v d → Td J v d
  | _, _, .non => .non
  | _, _, .bl b => .bl b
  | _, _, .int i => .int i
  | _, _, .str x => .str x
  | _, _, .tup h t => .tup (g _ _ h) (TdA.mono g t)
theorem TdA.mono (g : Tx H J) : ∀ {vs : List V} {ds : List PyData}, TdA H vs ds → TdA J vs ds
  | _, _, .nil => .nil
  | _, _, .cons h t => .cons (Td.mono g h) (TdA.mono g t)
end
mutual
theorem Td.dp {K : PySem.W.Frag} : ∀ {v : V} {d : PyData}, Td H v d → Dp K H v d
  | _, _, .non => .non
  | _, _, .bl b => .bl b
  | _, _, .int i => .int i
  | _, _, .str x => .str x
  | _, _, .tup h t => .tup (SqT.of h) (TdA.dp t)
theorem TdA.dp {K : PySem.W.Frag} : ∀ {vs : List V} {ds : List PyData}, TdA H vs ds → DpAll K H vs ds
  | _, _, .nil => .nil
  | _, _, .cons h t => .cons (Td.dp h) (TdA.dp t)
end
theorem Td.tup_inv {v : V} {ds : List PyData} (h : Td H v (.tuple ds)) : ∃ a xs, v = .ref a ∧ H a = some (.tup xs) ∧ TdA H xs ds := by
  cases h with
  | tup h t => exact ⟨_, _, rfl, h, t⟩
theorem Td.int_inv {v : V} {i : Int} (h : Td H v (.int i)) : v = .int i := by cases h; rfl
theorem Td.str_inv {v : V} {x : Str} (h : Td H v (.str x)) : v = .str x := by cases h; rfl
theorem Td.bl_inv {v : V} {x : Bool} (h : Td H v (.bool x)) : v = .bl x := by cases h; rfl
theorem Td.non_inv {v : V} (h : Td H v .none) : v = .non := by cases h; rfl
theorem TdA.length : ∀ {vs : List V} {ds : List PyData}, TdA H vs ds → vs.length = ds.length
  | _, _, .nil => rfl
  | _, _, .cons _ t => by rw [List.length_cons, List.length_cons, TdA.length t]
theorem TdA.get : ∀ {vs : List V} {ds : List PyData} {n : Nat} {d : PyData}, TdA H vs ds → ds[n]? = some d → ∃ v, vs[n]? = some v ∧ Td H v d
  | _, _, 0, _, .cons h _, e => by
    have e2 := Option.some.inj e
    subst e2
    exact ⟨_, rfl, h⟩
  | _, _, n + 1, _, .cons _ t, e => TdA.get (n := n) t e
theorem TdA.getV : ∀ {vs : List V} {ds : List PyData} {n : Nat} {v : V}, TdA H vs ds → vs[n]? = some v → ∃ d, ds[n]? = some d ∧ Td H v d
  | _, _, 0, _, .cons h _, e => by
    have e2 := Option.some.inj e
    subst e2
    exact ⟨_, rfl, h⟩
  | _, _, n + 1, _, .cons _ t, e => TdA.getV (n := n) t e
theorem TdA.append : ∀ {vs ws : List V} {ds es : List PyData}, TdA H vs ds → TdA H ws es → TdA H (vs ++ ws) (ds ++ es)
  | _, _, _, _, .nil, s => s
  | _, _, _, _, .cons h t, s => .cons h (TdA.append t s)
theorem TdA.take : ∀ {vs : List V} {ds : List PyData} (n : Nat), TdA H vs ds → TdA H (vs.take n) (ds.take n)
  | _, _, 0, _ => by rw [List.take_zero, List.take_zero]; exact .nil
  | _, _, _ + 1, .nil => .nil
  | _, _, n + 1, .cons h t => .cons h (TdA.take n t)
theorem TdA.drop : ∀ {vs : List V} {ds : List PyData} (n : Nat), TdA H vs ds → TdA H (vs.drop n) (ds.drop n)
  | _, _, 0, h => h
  | _, _, _ + 1, .nil => .nil
  | _, _, n + 1, .cons _ t => TdA.drop n t
theorem TdA.reverse : ∀ {vs : List V} {ds : List PyData}, TdA H vs ds → TdA H vs.reverse ds.reverse
  | _, _, .nil => .nil
  | _, _, .cons h t => by
    rw [List.reverse_cons, List.reverse_cons]
    exact TdA.append (TdA.reverse t) (.cons h .nil)
theorem TdA.one {v : V} {d : PyData} (h : Td H v d) : TdA H [v] [d] := .cons h .nil
theorem TdA.ints : ∀ {ns : List Int}, TdA H (ns.map V.int) (ns.map PyData.int)
  | [] => .nil
  | n :: r => .cons (.int n) (TdA.ints (ns := r))
theorem TdA.strs : ∀ {ns : List Str}, TdA H (ns.map V.str) (ns.map PyData.str)
  | [] => .nil
  | n :: r => .cons (.str n) (TdA.strs (ns := r))
end

/-! ### what evaluates to what: from any later heap, leaving a later one -/
def EvP (te : TE) (σ : St) (H : Hp) (P : PyData → Prop) : Prop := ∀ H1, Gr H H1 → ∀ Q : VK, (∀ v d H2, P d → Gr H1 H2 → Td H2 v d → Q v H2) → te σ H1 Q
abbrev EvD (te : TE) (σ : St) (H : Hp) (d : PyData) : Prop := EvP te σ H (fun z => z = d)
def EvB (t : TT) (σ : St) (H : Hp) (P : Bool → Prop) : Prop := ∀ H1, Gr H H1 → ∀ Q : Bool → Hp → Prop, (∀ b H2, P b → Gr H1 H2 → Q b H2) → t σ H1 Q
def EvA (ta : TA) (σ : St) (H : Hp) (ds : List PyData) : Prop := ∀ H1, Gr H H1 → ∀ Q : List V → Hp → Prop, (∀ vs H2, Gr H1 H2 → TdA H2 vs ds → Q vs H2) → ta σ H1 Q
/-- a new list -/
def EvL (te : TE) (σ : St) (H : Hp) (P : List PyData → Prop) : Prop := ∀ H1, Gr H H1 → ∀ Q : VK, (∀ p vs ds H2, P ds → H1 p = none → Gr H1 H2 → H2 p = some (.lst vs) → TdA H2 vs ds → Q (.ref p) H2) → te σ H1 Q
/-- a value as it is -/
def EvV (te : TE) (σ : St) (H : Hp) (v : V) : Prop := ∀ H1, Gr H H1 → ∀ Q : VK, (∀ H2, Gr H1 H2 → Q v H2) → te σ H1 Q
section
variable {K : PySem.W.Frag} {σ : St} {H J : Hp} {te ta tb tc : TE} {t u : TT} {P : PyData → Prop} {d e : PyData} {v w : V}
theorem EvP.mono (g : Gr H J) (h : EvP te σ H P) : EvP te σ J P := fun H1 e Q q => h H1 (g.trans e) Q q
theorem EvB.mono {P : Bool → Prop} (g : Gr H J) (h : EvB t σ H P) : EvB t σ J P := fun H1 e Q q => h H1 (g.trans e) Q q
theorem EvP.imp {R : PyData → Prop} (h : EvP te σ H P) (i : ∀ d, P d → R d) : EvP te σ H R := fun H1 e Q q => h H1 e Q fun v d H2 p => q v d H2 (i d p)
theorem EvB.imp {P R : Bool → Prop} (h : EvB t σ H P) (i : ∀ b, P b → R b) : EvB t σ H R := fun H1 e Q q => h H1 e Q fun b H2 p => q b H2 (i b p)
theorem ev_var {i : Nat} (h : σ[i]? = some (some v)) (hd : Td H v d) : EvD (tVar i) σ H d := fun H1 g Q q => ⟨v, h, q v d H1 rfl Mv.rfl (hd.mono g.tup)⟩
theorem evv_var {i : Nat} (h : σ[i]? = some (some v)) : EvV (tVar i) σ H v := fun H1 g Q q => ⟨v, h, q H1 Mv.rfl⟩
theorem evv_c : EvV (tC v) σ H v := fun H1 g Q q => q H1 Mv.rfl
theorem ev_int {i : Int} : EvD (tC (.int i)) σ H (.int i) := fun H1 g Q q => q _ _ H1 rfl Mv.rfl (.int i)
theorem ev_str {x : Str} : EvD (tC (.str x)) σ H (.str x) := fun H1 g Q q => q _ _ H1 rfl Mv.rfl (.str x)
theorem ev_bl {b : Bool} : EvD (tC (.bl b)) σ H (.bool b) := fun H1 g Q q => q _ _ H1 rfl Mv.rfl (.bl b)
theorem ev_non : EvD (tC .non) σ H .none := fun H1 g Q q => q _ _ H1 rfl Mv.rfl .non
theorem atI_get {α : Type} {xs : List α} {n : Nat} {v : α} (h : xs[n]? = some v) : atI xs (n : Int) = some v := atI_nat h
theorem ev_ixT {n : Nat} {ds : List PyData} (ha : EvD ta σ H (.tuple ds)) (hn : ds[n]? = some d) : EvD (tOp (rIxT K) ta (tC (.int (n : Int)))) σ H d := fun H1 g Q q =>
  ha H1 g _ fun v z H2 ez g2 tz => by
    subst ez
    obtain ⟨a, xs, rfl, h1, t⟩ := tz.tup_inv
    obtain ⟨v, hv, tv⟩ := t.get hn
    exact ⟨a, xs, _, v, rfl, rfl, SqT.of h1, atI_get hv, q v d H2 rfl g2 tv⟩
theorem ev_I0 {g : Int → Int → V} {i j : Int} {r : Int} (ha : EvD ta σ H (.int i)) (hb : EvD tb σ H (.int j)) (hr : g i j = .int r) : EvD (tOp (rI0 g) ta tb) σ H (.int r) := fun H1 g1 Q q =>
  ha H1 g1 _ fun v z H2 ez g2 tz => hb H2 (g1.trans g2) _ fun v' z' H3 ez' g3 tz' => by
    subst ez ez'
    have e1 := tz.int_inv
    have e2 := tz'.int_inv
    subst e1 e2
    exact ⟨i, j, rfl, rfl, by rw [hr]; exact q _ _ H3 rfl (g2.trans g3) (.int r)⟩
theorem ev_I {C : Int → Int → Prop} {g : Int → Int → V} {i j : Int} {r : Int} (ha : EvD ta σ H (.int i)) (hb : EvD tb σ H (.int j)) (hc : C i j) (hr : g i j = .int r) : EvD (tOp (rI C g) ta tb) σ H (.int r) := fun H1 g1 Q q =>
  ha H1 g1 _ fun v z H2 ez g2 tz => hb H2 (g1.trans g2) _ fun v' z' H3 ez' g3 tz' => by
    subst ez ez'
    have e1 := tz.int_inv
    have e2 := tz'.int_inv
    subst e1 e2
    exact ⟨i, j, rfl, rfl, hc, by rw [hr]; exact q _ _ H3 rfl (g2.trans g3) (.int r)⟩
/-- a comparison of two ints -/
theorem ev_cmpI {g : Int → Int → Bool} {i j : Int} {b : Bool} (ha : EvD ta σ H (.int i)) (hb : EvD tb σ H (.int j)) (hr : g i j = b) : EvD (tOp (rI0 fun i j => .bl (g i j)) ta tb) σ H (.bool b) := fun H1 g1 Q q =>
  ha H1 g1 _ fun v z H2 ez g2 tz => hb H2 (g1.trans g2) _ fun v' z' H3 ez' g3 tz' => by
    subst ez ez'
    have e1 := tz.int_inv
    have e2 := tz'.int_inv
    subst e1 e2 hr
    exact ⟨i, j, rfl, rfl, q _ _ H3 rfl (g2.trans g3) (.bl _)⟩
def scalD : PyData → Option V
  | .none => some .non
  | .bool b => some (.bl b)
  | .int i => some (.int i)
  | .str x => some (.str x)
  | _ => none
theorem scalD_eq {H : Hp} {v w : V} (h : Td H v d) (e : scalD d = some w) : v = w := by
  cases h <;> first | exact Option.some.inj e | cases e
theorem ev_eq {b : Bool} (ha : EvD ta σ H d) (hb : EvD tb σ H e) (h1 : scalD d = some v) (h2 : scalD e = some w) (hs : scal v w = true) (hd : decide (v = w) = b) : EvD (tOp rEq ta tb) σ H (.bool b) := fun H1 g1 Q q =>
  ha H1 g1 _ fun x z H2 ez g2 tz => hb H2 (g1.trans g2) _ fun y z' H3 ez' g3 tz' => by
    subst ez ez'
    have e1 := scalD_eq tz h1
    have e2 := scalD_eq tz' h2
    subst e1 e2
    exact ⟨hs, by rw [hd]; exact q _ _ H3 rfl (g2.trans g3) (.bl _)⟩
theorem ev_ne {b : Bool} (ha : EvD ta σ H d) (hb : EvD tb σ H e) (h1 : scalD d = some v) (h2 : scalD e = some w) (hs : scal v w = true) (hd : (!decide (v = w)) = b) : EvD (tOp rNe ta tb) σ H (.bool b) := fun H1 g1 Q q =>
  ha H1 g1 _ fun x z H2 ez g2 tz => hb H2 (g1.trans g2) _ fun y z' H3 ez' g3 tz' => by
    subst ez ez'
    have e1 := scalD_eq tz h1
    have e2 := scalD_eq tz' h2
    subst e1 e2
    exact ⟨hs, by rw [hd]; exact q _ _ H3 rfl (g2.trans g3) (.bl _)⟩
/-- texts -/
theorem ev_eqS {x y : Str} {b : Bool} (ha : EvD ta σ H (.str x)) (hb : EvD tb σ H (.str y)) (hd : decide (x = y) = b) : EvD (tOp rEq ta tb) σ H (.bool b) :=
  ev_eq ha hb rfl rfl rfl (by rw [← hd]; exact decide_eq_decide.mpr ⟨fun e => V.str.inj e, fun e => by rw [e]⟩)
theorem ev_eqI {x y : Int} {b : Bool} (ha : EvD ta σ H (.int x)) (hb : EvD tb σ H (.int y)) (hd : decide (x = y) = b) : EvD (tOp rEq ta tb) σ H (.bool b) :=
  ev_eq ha hb rfl rfl rfl (by rw [← hd]; exact decide_eq_decide.mpr ⟨fun e => V.int.inj e, fun e => by rw [e]⟩)
theorem ev_neI {x y : Int} {b : Bool} (ha : EvD ta σ H (.int x)) (hb : EvD tb σ H (.int y)) (hd : (!decide (x = y)) = b) : EvD (tOp rNe ta tb) σ H (.bool b) :=
  ev_ne ha hb rfl rfl rfl (by rw [← hd]; congr 1; exact decide_eq_decide.mpr ⟨fun e => V.int.inj e, fun e => by rw [e]⟩)
/-- == of any data -/
theorem ev_eqD {b : Bool} (ha : EvD ta σ H d) (hb : EvD tb σ H e) (h1 : SeqAt.shaped d = true) (h2 : SeqAt.shaped e = true) (hd : PyData.eqv d e = b) : EvD (tOp (rEqD K) ta tb) σ H (.bool b) := fun H1 g1 Q q =>
  ha H1 g1 _ fun x z H2 ez g2 tz => hb H2 (g1.trans g2) _ fun y z' H3 ez' g3 tz' => by
    subst ez ez'
    exact ⟨_, _, (tz.mono g3.tup).dp, tz'.dp, h1, h2, by rw [hd]; exact q _ _ H3 rfl (g2.trans g3) (.bl _)⟩
theorem ev_neD {b : Bool} (ha : EvD ta σ H d) (hb : EvD tb σ H e) (h1 : SeqAt.shaped d = true) (h2 : SeqAt.shaped e = true) (hd : (!PyData.eqv d e) = b) : EvD (tOp (rNeD K) ta tb) σ H (.bool b) := fun H1 g1 Q q =>
  ha H1 g1 _ fun x z H2 ez g2 tz => hb H2 (g1.trans g2) _ fun y z' H3 ez' g3 tz' => by
    subst ez ez'
    exact ⟨_, _, (tz.mono g3.tup).dp, tz'.dp, h1, h2, by rw [hd]; exact q _ _ H3 rfl (g2.trans g3) (.bl _)⟩

/-! ### arguments, displays, calls -/
theorem ea_nil : EvA tNil σ H [] := fun H1 _ _ q => q _ H1 Mv.rfl .nil
theorem ea_cons {tr : TA} {ds : List PyData} (h : EvD ta σ H d) (hr : EvA tr σ H ds) : EvA (tCons ta tr) σ H (d :: ds) := fun H1 g _ q =>
  h H1 g _ fun v z H2 ez g2 tz => hr H2 (g.trans g2) _ fun vs H3 g3 ts => by
    subst ez
    exact q _ H3 (g2.trans g3) (.cons (tz.mono g3.tup) ts)
theorem ev_tup {tr : TA} {ds : List PyData} (h : EvA tr σ H ds) (hl : ds.length ≤ 1000) : EvD (tTup tr) σ H (.tuple ds) := fun H1 g _ q =>
  h H1 g _ fun vs H2 g2 ts => ⟨by rw [ts.length]; exact Nat.le_of_lt (small1000 hl), fun p hp => q _ _ _ rfl (g2.trans (Gr.new hp)) (.tup upd_same (ts.mono (Gr.new hp).tup))⟩
theorem el_lst {tr : TA} {ds : List PyData} (h : EvA tr σ H ds) (hl : ds.length ≤ 1000) : EvL (tLst tr) σ H (fun z => z = ds) := fun H1 g _ q =>
  h H1 g _ fun vs H2 g2 ts => ⟨by rw [ts.length]; exact Nat.le_of_lt (small1000 hl), fun p hp => q p vs ds _ rfl (g2.low p hp) (g2.trans (Gr.new hp)) upd_same (ts.mono (Gr.new hp).tup)⟩
/-- a def that changes nothing: from data to data -/
def spF (A : List PyData → (PyData → Prop) → Prop) : Sp := fun vs H Q _ => ∃ ds P, A ds P ∧ TdA H vs ds ∧ ∀ v d J, P d → Gr H J → Td J v d → Q v J
theorem ev_call {A : List PyData → (PyData → Prop) → Prop} {E : XK} {tr : TA} {ds : List PyData} (h : EvA tr σ H ds) (hA : A ds P) : EvP (tCall (spF A) [] E tr) σ H P := fun H1 g Q q =>
  h H1 g _ fun vs H2 g2 ts => ⟨ds, P, hA, by rw [List.append_nil]; exact ts, fun v d J p g3 t => q v d J p (g2.trans g3) t⟩
/-- from data to a new list of data -/
def spFL (A : List PyData → (List PyData → Prop) → Prop) : Sp := fun vs H Q _ => ∃ ds P, A ds P ∧ TdA H vs ds ∧ ∀ p ws es J, P es → H p = none → Gr H J → J p = some (.lst ws) → TdA J ws es → Q (.ref p) J
theorem el_call {A : List PyData → (List PyData → Prop) → Prop} {E : XK} {tr : TA} {ds : List PyData} {P : List PyData → Prop} (h : EvA tr σ H ds) (hA : A ds P) : EvL (tCall (spFL A) [] E tr) σ H P := fun H1 g Q q =>
  h H1 g _ fun vs H2 g2 ts => ⟨ds, P, hA, by rw [List.append_nil]; exact ts, fun p ws es J pe hp g3 hj t => q p ws es J pe (g2.low p hp) (g2.trans g3) hj t⟩

/-! ### tests -/
theorem et_test {P : Bool → Prop} (h : EvP te σ H (fun z => ∃ b, z = .bool b ∧ P b)) : EvB (tTest te) σ H P := fun H1 g _ q => h H1 g _ fun v z H2 ez g2 tz => by
  obtain ⟨b, rfl, p⟩ := ez
  have e1 := tz.bl_inv
  subst e1
  exact ⟨b, rfl, q b H2 p g2⟩
theorem et_B {P : Bool → Prop} (h : EvP te σ H (fun z => ∃ b, z = .bool b ∧ P b)) : EvB (tB te) σ H P := fun H1 g _ q => h H1 g _ fun v z H2 ez g2 tz => by
  obtain ⟨b, rfl, p⟩ := ez
  have e1 := tz.bl_inv
  subst e1
  exact ⟨b, rfl, q b H2 p g2⟩
theorem evp_b {b : Bool} (h : EvD te σ H (.bool b)) : EvP te σ H (fun z => ∃ c, z = .bool c ∧ c = b) := h.imp fun d e => ⟨b, e, rfl⟩
theorem et_is {b : Bool} (h : EvD te σ H (.bool b)) : EvB (tTest te) σ H (fun c => c = b) := et_test (evp_b h)
theorem et_isB {b : Bool} (h : EvD te σ H (.bool b)) : EvB (tB te) σ H (fun c => c = b) := et_B (evp_b h)
theorem et_not {P : Bool → Prop} (h : EvB t σ H P) : EvB (tNot t) σ H (fun b => P (!b)) := fun H1 g _ q => h H1 g _ fun b H2 p g2 => q _ H2 (by show P (!!b); rw [Bool.not_not]; exact p) g2
theorem et_notI {a b : Bool} (h : EvB t σ H (fun c => c = a)) (hb : (!a) = b) : EvB (tNot t) σ H (fun c => c = b) := (et_not h).imp fun c e => by rw [← hb, ← e, Bool.not_not]
theorem et_and {a b : Bool} (h : EvB t σ H (fun c => c = a)) (k : a = true → EvB u σ H (fun c => c = b)) (kb : a = false → b = false) : EvB (tAnd t u) σ H (fun c => c = b) := fun H1 g Q q => h H1 g _ fun c H2 ec g2 => by
  subst ec
  cases c with
  | true =>
    show u σ H2 Q
    exact k rfl H2 (g.trans g2) Q fun b H3 p g3 => q b H3 p (g2.trans g3)
  | false =>
    show Q false H2
    exact q false H2 (kb rfl).symm g2
theorem et_or {a b : Bool} (h : EvB t σ H (fun c => c = a)) (k : a = false → EvB u σ H (fun c => c = b)) (kb : a = true → b = true) : EvB (tOr t u) σ H (fun c => c = b) := fun H1 g Q q => h H1 g _ fun c H2 ec g2 => by
  subst ec
  cases c with
  | true =>
    show Q true H2
    exact q true H2 (kb rfl).symm g2
  | false =>
    show u σ H2 Q
    exact k rfl H2 (g.trans g2) Q fun b H3 p g3 => q b H3 p (g2.trans g3)
/-- some answer -/
abbrev Any : Bool → Prop := fun _ => True
theorem et_orU {P : Bool → Prop} (h : EvB t σ H P) (k : P false → EvB u σ H Any) : EvB (tOr t u) σ H Any := fun H1 g Q q => h H1 g _ fun c H2 ec g2 => by
  cases c with
  | true =>
    show Q true H2
    exact q true H2 trivial g2
  | false =>
    show u σ H2 Q
    exact k ec H2 (g.trans g2) Q fun b H3 p g3 => q b H3 p (g2.trans g3)
theorem et_andU {P : Bool → Prop} (h : EvB t σ H P) (k : P true → EvB u σ H Any) : EvB (tAnd t u) σ H Any := fun H1 g Q q => h H1 g _ fun c H2 ec g2 => by
  cases c with
  | true =>
    show u σ H2 Q
    exact k ec H2 (g.trans g2) Q fun b H3 p g3 => q b H3 p (g2.trans g3)
  | false =>
    show Q false H2
    exact q false H2 trivial g2
theorem EvB.any {P : Bool → Prop} (h : EvB t σ H P) : EvB t σ H Any := h.imp fun _ _ => trivial
/-- some truth value -/
def SomeB : PyData → Prop := fun z => ∃ b, z = .bool b
theorem SomeB.test (h : EvP te σ H SomeB) : EvB (tTest te) σ H Any := et_test (h.imp fun d ⟨b, e⟩ => ⟨b, e, trivial⟩)
theorem SomeB.testB (h : EvP te σ H SomeB) : EvB (tB te) σ H Any := et_B (h.imp fun d ⟨b, e⟩ => ⟨b, e, trivial⟩)
theorem EvP.someB {b : Bool} (h : EvD te σ H (.bool b)) : EvP te σ H SomeB := h.imp fun d e => ⟨b, e⟩
theorem ev_andV {P : PyData → Prop} (h : EvP ta σ H (fun z => ∃ b, z = .bool b ∧ P (.bool b))) (k : P (.bool true) → EvP tb σ H SomeB) : EvP (tAndV ta tb) σ H SomeB := fun H1 g Q q => h H1 g _ fun v z H2 ez g2 tz => by
  obtain ⟨c, rfl, p⟩ := ez
  have e1 := tz.bl_inv
  subst e1
  refine ⟨c, rfl, ?_⟩
  cases c with
  | true =>
    show tb σ H2 Q
    exact k p H2 (g.trans g2) Q fun v d H3 p g3 => q v d H3 p (g2.trans g3)
  | false =>
    show Q (.bl false) H2
    exact q _ _ H2 ⟨false, rfl⟩ g2 (.bl false)
theorem ev_andU (h : EvP ta σ H SomeB) (k : EvP tb σ H SomeB) : EvP (tAndV ta tb) σ H SomeB := ev_andV (P := fun _ => True) (h.imp fun d ⟨b, e⟩ => ⟨b, e, trivial⟩) fun _ => k
theorem ev_andI {a : Bool} (h : EvD ta σ H (.bool a)) (k : a = true → EvP tb σ H SomeB) : EvP (tAndV ta tb) σ H SomeB := ev_andV (P := fun z => z = .bool a) (h.imp fun d e => ⟨a, e, rfl⟩) fun e => k (PyData.bool.inj e).symm
theorem ev_orV {P : PyData → Prop} (h : EvP ta σ H (fun z => ∃ b, z = .bool b ∧ P (.bool b))) (k : P (.bool false) → EvP tb σ H SomeB) : EvP (tOrV ta tb) σ H SomeB := fun H1 g Q q => h H1 g _ fun v z H2 ez g2 tz => by
  obtain ⟨c, rfl, p⟩ := ez
  have e1 := tz.bl_inv
  subst e1
  refine ⟨c, rfl, ?_⟩
  cases c with
  | true =>
    show Q (.bl true) H2
    exact q _ _ H2 ⟨true, rfl⟩ g2 (.bl true)
  | false =>
    show tb σ H2 Q
    exact k p H2 (g.trans g2) Q fun v d H3 p g3 => q v d H3 p (g2.trans g3)
theorem ev_orU (h : EvP ta σ H SomeB) (k : EvP tb σ H SomeB) : EvP (tOrV ta tb) σ H SomeB := ev_orV (P := fun _ => True) (h.imp fun d ⟨b, e⟩ => ⟨b, e, trivial⟩) fun _ => k
theorem ev_notV {a b : Bool} (h : EvD te σ H (.bool a)) (hb : (!a) = b) : EvD (tNotV te) σ H (.bool b) := fun H1 g _ q => h H1 g _ fun v z H2 ez g2 tz => by
  subst ez hb
  have e1 := tz.bl_inv
  subst e1
  exact ⟨a, rfl, q _ _ H2 rfl g2 (.bl _)⟩
theorem ev_ifE {b : Bool} (h : EvB t σ H (fun c => c = b)) (h1 : b = true → EvP ta σ H P) (h2 : b = false → EvP tb σ H P) : EvP (tIf t ta tb) σ H P := fun H1 g Q q => h H1 g _ fun c H2 ec g2 => by
  subst ec
  cases c with
  | true =>
    show ta σ H2 Q
    exact h1 rfl H2 (g.trans g2) Q fun v d H3 p g3 => q v d H3 p (g2.trans g3)
  | false =>
    show tb σ H2 Q
    exact h2 rfl H2 (g.trans g2) Q fun v d H3 p g3 => q v d H3 p (g2.trans g3)
theorem el_ifE {b : Bool} {P : List PyData → Prop} (h : EvB t σ H (fun c => c = b)) (h1 : b = true → EvL ta σ H P) (h2 : b = false → EvL tb σ H P) : EvL (tIf t ta tb) σ H P := fun H1 g Q q => h H1 g _ fun c H2 ec g2 => by
  subst ec
  cases c with
  | true =>
    show ta σ H2 Q
    exact h1 rfl H2 (g.trans g2) Q fun p vs ds H3 pp hp g3 => q p vs ds H3 pp (g2.low p hp) (g2.trans g3)
  | false =>
    show tb σ H2 Q
    exact h2 rfl H2 (g.trans g2) Q fun p vs ds H3 pp hp g3 => q p vs ds H3 pp (g2.low p hp) (g2.trans g3)

/-! ### statements: what is known at H0 holds at each later heap -/
variable {D : Ends} {tu tw : TS} {H0 : Hp}
theorem s_ifT (g : Gr H0 H) (h : EvB t σ H0 (fun c => c = true)) (k : ∀ J, Gr H0 J → tu D σ J) : tIfS t tu tw D σ H := h H g _ fun b J e g2 => by
  subst e
  exact k J (g.trans g2)
theorem s_ifF (g : Gr H0 H) (h : EvB t σ H0 (fun c => c = false)) (k : ∀ J, Gr H0 J → tw D σ J) : tIfS t tu tw D σ H := h H g _ fun b J e g2 => by
  subst e
  exact k J (g.trans g2)
theorem s_if (g : Gr H0 H) {P : Bool → Prop} (h : EvB t σ H0 P) (k1 : P true → ∀ J, Gr H0 J → tu D σ J) (k2 : P false → ∀ J, Gr H0 J → tw D σ J) : tIfS t tu tw D σ H := h H g _ fun b J e g2 => by
  cases b with
  | true => exact k1 e J (g.trans g2)
  | false => exact k2 e J (g.trans g2)
/-- a statement with more behind it -/
theorem q_ifT {tk : TS} (g : Gr H0 H) (h : EvB t σ H0 (fun c => c = true)) (k : ∀ J, Gr H0 J → tu { D with nx := tk D } σ J) : tSeq (tIfS t tu tw) tk D σ H := s_ifT g h k
theorem q_ifF {tk : TS} (g : Gr H0 H) (h : EvB t σ H0 (fun c => c = false)) (k : ∀ J, Gr H0 J → tk D σ J) : tSeq (tIfS t tu tNext) tk D σ H := s_ifF g h k
theorem q_if {tk : TS} (g : Gr H0 H) {P : Bool → Prop} (h : EvB t σ H0 P) (k1 : P true → ∀ J, Gr H0 J → tu { D with nx := tk D } σ J) (k2 : P false → ∀ J, Gr H0 J → tk D σ J) : tSeq (tIfS t tu tNext) tk D σ H := s_if g h k1 k2
theorem s_ret (g : Gr H0 H) (h : EvP te σ H0 P) (k : ∀ v d J, P d → Gr H0 J → Td J v d → D.rt v J) : tRet te D σ H := h H g _ fun v d J p g2 => k v d J p (g.trans g2)
theorem s_retL (g : Gr H0 H) {P : List PyData → Prop} (h : EvL te σ H0 P) (k : ∀ p vs ds J, P ds → H0 p = none → Gr H0 J → J p = some (.lst vs) → TdA J vs ds → D.rt (.ref p) J) : tRet te D σ H := h H g _ fun p vs ds J pd hp g2 => k p vs ds J pd (g.low p hp) (g.trans g2)
theorem s_set (g : Gr H0 H) {i : Nat} (h : EvP te σ H0 P) (k : ∀ v d J, P d → Gr H0 J → Td J v d → D.nx (σ.set i (some v)) J) : tAsg te (gName i) D σ H := h H g _ fun v d J p g2 => k v d J p (g.trans g2)
theorem s_setL (g : Gr H0 H) {i : Nat} {P : List PyData → Prop} (h : EvL te σ H0 P) (k : ∀ p vs ds J, P ds → H0 p = none → Gr H0 J → J p = some (.lst vs) → TdA J vs ds → D.nx (σ.set i (some (.ref p))) J) : tAsg te (gName i) D σ H := h H g _ fun p vs ds J pd hp g2 => k p vs ds J pd (g.low p hp) (g.trans g2)
theorem q_set {tk : TS} (g : Gr H0 H) {i : Nat} (h : EvP te σ H0 P) (k : ∀ v d J, P d → Gr H0 J → Td J v d → tk D (σ.set i (some v)) J) : tSeq (tAsg te (gName i)) tk D σ H := s_set g h k
theorem q_setL {tk : TS} (g : Gr H0 H) {i : Nat} {P : List PyData → Prop} (h : EvL te σ H0 P) (k : ∀ p vs ds J, P ds → H0 p = none → Gr H0 J → J p = some (.lst vs) → TdA J vs ds → tk D (σ.set i (some (.ref p))) J) : tSeq (tAsg te (gName i)) tk D σ H := s_setL g h k
end

/-! ### a def of the text under its name -/
structure Df (P : Program) (w : World) (K : PySem.W.Frag) (mg : Str → Option Value) (base : Heap) (k : Nat) (x : Str) (ps : List Str) (sp : Sp) : Prop where
  ex : ∃ (f : Addr) (fd : FuncData), FnOk P w K mg base CX0 k f fd ps sp ∧ mg x = some (.ref f) ∧ PySem.W.keepIn K (.ref f) = true ∧ Binds K fd ps []
theorem Df.imp {P : Program} {w : World} {K : PySem.W.Frag} {mg : Str → Option Value} {base : Heap} {k : Nat} {x : Str} {ps : List Str} {sp sp' : Sp} (G : Df P w K mg base k x ps sp) (h : ∀ vs H Q E, sp' vs H Q E → sp vs H Q E) : Df P w K mg base k x ps sp' := by
  obtain ⟨f, fd, F, r⟩ := G.ex
  exact ⟨f, fd, F.imp h, r⟩
theorem Df.mono {P : Program} {w : World} {K : PySem.W.Frag} {mg : Str → Option Value} {base : Heap} {j k : Nat} {x : Str} {ps : List Str} {sp : Sp} (G : Df P w K mg base j x ps sp) (h : j ≤ k) : Df P w K mg base k x ps sp := by
  obtain ⟨f, fd, F, r⟩ := G.ex
  exact ⟨f, fd, F.mono h, r⟩
section
variable {X : Cx} {k : Nat} {x : Str} {ps : List Str} {sp : Sp} {e : Expr} {es : List Expr} {t : TA} {p pos : Pos}
theorem pe_df (G : Df X.prog X.w X.K X.mg X.base k x ps sp) (hr : Room k X.A) (ha : PA X (e :: es) t) (hg : Gl X x := by rfl)
    (hdb : (x == ("__debug__" : Str)) = false := by decide) (he : starEach (e :: es) X.env = (false, eval e X.env) :: starEach es X.env := by rfl) (hpl : (backTo pos (starEach es X.env)).any (·.1) = false := by rfl) :
    PE X (.Call (.Name x p) (e :: es) [] pos) (tCall sp [] E0 t) := by
  obtain ⟨f, fd, F, hm, hk, hb⟩ := G.ex
  exact pe_call F hr hg hm hk hb .nil pass0 ha hdb he hpl
theorem pe_gi {i : Int} (h : ∃ t, X.mg x = some (.int i t)) (hg : Gl X x := by rfl) (hd : (x == ("__debug__" : Str)) = false := by decide) : PE X (.Name x pos) (tC (.int i)) := by
  obtain ⟨t, h⟩ := h
  exact pe_glob hg h ⟨t, rfl⟩ hd
theorem pe_gs {z : Str} (h : ∃ t, X.mg x = some (.str z t)) (hg : Gl X x := by rfl) (hd : (x == ("__debug__" : Str)) = false := by decide) : PE X (.Name x pos) (tC (.str z)) := by
  obtain ⟨t, h⟩ := h
  exact pe_glob hg h ⟨t, rfl⟩ hd
theorem pe_ty (T : String) (h : X.mg x = none) (hg : Gl X x := by rfl) (hv : bootBuiltins x = some (.type T) := by decide +kernel) (hn : x ≠ "__name__" := by decide) (hd : (x == ("__debug__" : Str)) = false := by decide) : PE X (.Name x pos) (tC (.ty T)) := pe_bltn hg h hv rfl hn hd
theorem pe_gr {a : Addr} (h : X.mg x = some (.ref a)) (hg : Gl X x := by rfl) (hd : (x == ("__debug__" : Str)) = false := by decide) : PE X (.Name x pos) (tC (.ref a)) := pe_glob hg h rfl hd
end
end K27
/-! ## B. The text's data as Lean types, the module's names, more evaluations -/
namespace K27
open PySem PySem.Spec L2
open PyProof.Rows hiding St
/-! ### expressions, tests, statements -/
inductive E where
  | name (x : Str) | int (i : Int) | plus (a b : E) | minus (a b : E) | times (f : Int) (a : E)
inductive Te where
  | less (a b : E) | rest (e : E) (m r : Int) | not (t : Te)
inductive S where
  | set (x : Str) (e : E) | pay (e : E) | stop | ite (t : Te) (y n : List S) | ch (h : Bool) (a b : List S) | rep (n : Int) (b : List S)
def E.d : E → PyData
  | .name x => .str x
  | .int i => .int i
  | .plus a b => .tuple [.str "plus", a.d, b.d]
  | .minus a b => .tuple [.str "minus", a.d, b.d]
  | .times f a => .tuple [.str "times", .int f, a.d]
def Te.d : Te → PyData
  | .less a b => .tuple [.str "less", a.d, b.d]
  | .rest e m r => .tuple [.str "rest", e.d, .int m, .int r]
  | .not t => .tuple [.str "not", t.d]
def hand (h : Bool) : Str := if h then "we" else "they"
mutual
def S.d : S → PyData
  | .set x e => .tuple [.str "set", .str x, e.d]
  | .pay e => .tuple [.str "pay", e.d]
  | .stop => .tuple [.str "stop"]
  | .ite t y n => .tuple [.str "if", t.d, .tuple (bds y), .tuple (bds n)]
  | .ch h a b => .tuple [.str (hand h), .tuple (bds a), .tuple (bds b)]
  | .rep n b => .tuple [.str "repeat", .int n, .tuple (bds b)]
def bds : List S → List PyData
  | [] => []
  | s :: r => s.d :: bds r
end
theorem bds_map : ∀ b : List S, bds b = b.map S.d
  | [] => by rw [bds]; rfl
  | s :: r => by rw [bds, bds_map r, List.map_cons]
theorem bds_len (b : List S) : (bds b).length = b.length := by rw [bds_map, List.length_map]
/-- a name as the law makes them -/
def NOk (x : Str) : Prop := x.length ≤ 16 ∧ ∀ c ∈ x.cps.toList, c < 128
def EOk : Nat → E → Prop
  | 0, _ => False
  | _ + 1, .name x => NOk x
  | _ + 1, .int i => -99 ≤ i ∧ i ≤ 99
  | k + 1, .plus a b => EOk k a ∧ EOk k b
  | k + 1, .minus a b => EOk k a ∧ EOk k b
  | k + 1, .times f a => (-9 ≤ f ∧ f ≤ 9) ∧ EOk k a
def TOk : Nat → Te → Prop
  | _, .less a b => EOk 3 a ∧ EOk 3 b
  | _, .rest e m r => EOk 3 e ∧ (2 ≤ m ∧ m ≤ 6) ∧ (0 ≤ r ∧ r < m)
  | 0, .not _ => False
  | k + 1, .not t => TOk k t
/-- a statement in which blocks lie at most n deep, amounts at most ke deep -/
def SOk (ke : Nat) : Nat → S → Prop
  | 0, _ => False
  | _ + 1, .set x e => NOk x ∧ EOk 3 e
  | _ + 1, .pay e => EOk ke e
  | _ + 1, .stop => True
  | n + 1, .ite t y z => TOk 2 t ∧ (y.length ≤ 20 ∧ ∀ s ∈ y, SOk ke n s) ∧ (z.length ≤ 20 ∧ ∀ s ∈ z, SOk ke n s)
  | n + 1, .ch _ a b => (a.length ≤ 20 ∧ ∀ s ∈ a, SOk ke n s) ∧ (b.length ≤ 20 ∧ ∀ s ∈ b, SOk ke n s)
  | n + 1, .rep m b => (1 ≤ m ∧ m ≤ 8) ∧ (b.length ≤ 20 ∧ ∀ s ∈ b, SOk ke n s)
def BOk (ke n : Nat) (b : List S) : Prop := b.length ≤ 20 ∧ ∀ s ∈ b, SOk ke n s
theorem EOk.up : ∀ {k : Nat} {e : E}, EOk k e → EOk (k + 1) e
  | 0, _, h => h.elim
  | k + 1, .name x, h => h
  | k + 1, .int i, h => h
  | k + 1, .plus a b, h => ⟨EOk.up h.1, EOk.up h.2⟩
  | k + 1, .minus a b, h => ⟨EOk.up h.1, EOk.up h.2⟩
  | k + 1, .times f a, h => ⟨h.1, EOk.up h.2⟩
/-! ### what the module's names stand for -/
structure Gb (K : PySem.W.Frag) (w : World) (mg : Str → Option Value) : Prop where
  len_ : mg "len" = none
  isinstance_ : mg "isinstance" = none
  int_ : mg "int" = none
  str_ : mg "str" = none
  tuple_ : mg "tuple" = none
  bool_ : mg "bool" = none
  list_ : mg "list" = none
  sum_ : mg "sum" = none
  abs_ : mg "abs" = none
  max_ : mg "max" = none
  range_ : mg "range" = none
  repr_ : mg "repr" = none
  MAX_NAME : ∃ t, mg "MAX_NAME" = some (.int 8 t)
  MAX_TIMES : ∃ t, mg "MAX_TIMES" = some (.int 8 t)
  MAX_DEEP : ∃ t, mg "MAX_DEEP" = some (.int 3 t)
  MAX_NOTS : ∃ t, mg "MAX_NOTS" = some (.int 2 t)
  MAX_BY : ∃ t, mg "MAX_BY" = some (.int 6 t)
  MAX_PLACES : ∃ t, mg "MAX_PLACES" = some (.int 24 t)
  MAX_WEIGHT : ∃ t, mg "MAX_WEIGHT" = some (.int 30 t)
  MAX_CHOICES : ∃ t, mg "MAX_CHOICES" = some (.int 4 t)
  MAX_RESTS : ∃ t, mg "MAX_RESTS" = some (.int 2 t)
  MAX_COMPARINGS : ∃ t, mg "MAX_COMPARINGS" = some (.int 2 t)
  MAX_NEST : ∃ t, mg "MAX_NEST" = some (.int 3 t)
  MOST_NUMBER : ∃ t, mg "MOST_NUMBER" = some (.int 99 t)
  MOST_FACTOR : ∃ t, mg "MOST_FACTOR" = some (.int 9 t)
  FIRST : ∃ t, mg "FIRST" = some (.int 0 t)
  INPUT : ∃ t, mg "INPUT" = some (.str "n" t)
  LETTERS : ∃ t, mg "LETTERS" = some (.str "abcdefghijklmnopqrstuvwxyz" t)
  SIGNS : ∃ t, mg "SIGNS" = some (.str "abcdefghijklmnopqrstuvwxyz0123456789" t)
  KEPT : mg "KEPT" = some (.ref (He.ga K "KEPT"))
  CHOICES : mg "CHOICES" = some (.ref (He.ga K "CHOICES"))
  OPPOSITES : mg "OPPOSITES" = some (.ref (He.ga K "OPPOSITES"))
  kept : ∀ H, SqT K H (He.ga K "KEPT") ([.str "set", .str "pay", .str "stop", .str "if", .str "else", .str "we", .str "they", .str "or", .str "repeat", .str "pass", .str "rest", .str "of", .str "not", .str "program"] : List V)
  choices : ∀ H, SqT K H (He.ga K "CHOICES") ([.str "we", .str "they"] : List V)
  oppD : ∃ es n, KDict K w (He.ga K "OPPOSITES") es n
  oppW : ∃ u, PySem.W.nsIn K (He.ga K "OPPOSITES") "we" = some (some u) ∧ RelV (.str "they") u
  oppT : ∃ u, PySem.W.nsIn K (He.ga K "OPPOSITES") "they" = some (some u) ∧ RelV (.str "we") u
  oppP : PySem.W.nsIn K (He.ga K "OPPOSITES") "set" = some none
  oppS : PySem.W.nsIn K (He.ga K "OPPOSITES") "stop" = some none
  oppI : PySem.W.nsIn K (He.ga K "OPPOSITES") "if" = some none
  oppR : PySem.W.nsIn K (He.ga K "OPPOSITES") "repeat" = some none
/-! ### a def of the text -/
def Fn (K : PySem.W.Frag) (mg : Str → Option Value) (x : Str) (st : Stmt) (ps : List Str) : Prop := ∃ f fd, Fun K x x st f fd ∧ mg x = some (.ref f) ∧ Binds K fd ps []
section
variable {P : Program} {w : World} {K : PySem.W.Frag} {mg : Str → Option Value} {base : Heap}
theorem df_of {x : Str} {st : Stmt} {N ps : List Str} {k : Nat} {sp : Sp} (F : Fn K mg x st ps) (sc : FnScope N ps (defScope st)) (len : ∀ vs H Q E, sp vs H Q E → vs.length = ps.length)
    (hbody : ∀ (f : Addr) (cdv : Value) (A : Around) (outer : List Env) (s : Shared) (H : Hp) (vs : List V) (Q : VK) (E : XK), Room k (A.deeper (envOfC x (defScope st) s.heap.objs.size f cdv)) → sp vs H Q E →
      ∃ t, PSs (cxOf CX0 P w K mg base N x (defScope st) f cdv A outer s H E).nox (defBody st) t ∧ t { nx := fun _ H' => Q .non H', rt := Q } (start N vs) H) : Df P w K mg base (k + 1) x ps sp := by
  obtain ⟨f, fd, F, hm, hb⟩ := F
  exact ⟨f, fd, F.ok sc len (fun cdv A outer s H vs Q E hr h => hbody f cdv A outer s H vs Q E hr h), hm, F.kp, hb⟩
end
theorem spF_len {A : List PyData → (PyData → Prop) → Prop} {n : Nat} (h : ∀ ds P, A ds P → ds.length = n) : ∀ vs H Q E, spF A vs H Q E → vs.length = n := fun vs H Q E ⟨ds, P, a, t, _⟩ => by rw [t.length]; exact h ds P a
theorem spFL_len {A : List PyData → (List PyData → Prop) → Prop} {n : Nat} (h : ∀ ds P, A ds P → ds.length = n) : ∀ vs H Q E, spFL A vs H Q E → vs.length = n := fun vs H Q E ⟨ds, P, a, t, _⟩ => by rw [t.length]; exact h ds P a
/-! ### more evaluations -/
section
variable {K : PySem.W.Frag} {σ : St} {H J : Hp} {te ta tb tc : TE} {t u : TT} {P : PyData → Prop} {d e : PyData} {v w : V}
theorem ev_ix {i : Int} {ds : List PyData} (ha : EvD ta σ H (.tuple ds)) (hn : ds[i.toNat]? = some d) (h0 : 0 ≤ i := by decide) : EvD (tOp (rIxT K) ta (tC (.int i))) σ H d := by
  obtain ⟨n, rfl⟩ := Int.eq_ofNat_of_zero_le h0
  exact ev_ixT ha hn
def tyD : PyData → String
  | .none => "NoneType"
  | .bool _ => "bool"
  | .int _ => "int"
  | .str _ => "str"
  | _ => "tuple"
theorem Td.ty {H : Hp} {v : V} {d : PyData} (h : Td H v d) : TyX K H v (.type (tyD d)) := by
  cases h with
  | non => exact .base .non
  | bl b => exact .base (.bl b)
  | int i => exact .base (.int i)
  | str x => exact .base (.str x)
  | tup h _ => exact .base (.tup h)
theorem ev_isi {T : String} {b : Bool} (h : EvD ta σ H d) (hk : kitB (tyD d) T = some b) : EvD (tCB (rIsi K) (tCons ta (tCons (tC (.ty T)) tNil))) σ H (.bool b) := fun H1 g _ q =>
  h H1 g _ fun v z H2 ez g2 tz => by
    subst ez
    exact ⟨v, _, _, _, b, rfl, .ty T, tz.ty, kit_ty hk, q _ _ H2 rfl g2 (.bl b)⟩
theorem kii : kitB "int" "int" = some true := by decide +kernel
theorem ksi : kitB "str" "int" = some false := by decide +kernel
theorem kti : kitB "tuple" "int" = some false := by decide +kernel
theorem kib : kitB "int" "bool" = some false := by decide +kernel
theorem kss : kitB "str" "str" = some true := by decide +kernel
theorem kis : kitB "int" "str" = some false := by decide +kernel
theorem kts : kitB "tuple" "str" = some false := by decide +kernel
theorem ktt : kitB "tuple" "tuple" = some true := by decide +kernel
theorem kst : kitB "str" "tuple" = some false := by decide +kernel
theorem kit : kitB "int" "tuple" = some false := by decide +kernel
abbrev rLenQ (K : PySem.W.Frag) : List V → Hp → VK → Prop := fun xs H Q => ∃ p ys, xs = [.ref p] ∧ (SqL K H p ys ∨ SqT K H p ys) ∧ Q (.int ys.length) H
theorem ev_len {ds : List PyData} {n : Int} (h : EvD ta σ H (.tuple ds)) (hn : (ds.length : Int) = n) : EvD (tCB (rLenQ K) (tCons ta tNil)) σ H (.int n) := fun H1 g _ q =>
  h H1 g _ fun v z H2 ez g2 tz => by
    subst ez
    obtain ⟨a, xs, rfl, h1, t⟩ := tz.tup_inv
    exact ⟨a, xs, rfl, .inr (SqT.of h1), q _ _ H2 (by rw [t.length, hn]) g2 (.int _)⟩
theorem ev_chain {g g' : Int → Int → Bool} {i j k : Int} {b : Bool} (ha : EvD ta σ H (.int i)) (hb : EvD tb σ H (.int j)) (hc : EvD tc σ H (.int k)) (hr : (g i j && g' j k) = b) :
    EvD (tChain (rI0 fun i j => .bl (g i j)) (rI0 fun i j => .bl (g' i j)) ta tb tc) σ H (.bool b) := fun H1 g1 Q q =>
  ha H1 g1 _ fun v z H2 ez g2 tz => hb H2 (g1.trans g2) _ fun v' z' H3 ez' g3 tz' => by
    subst ez ez'
    have e1 := tz.int_inv
    have e2 := tz'.int_inv
    subst e1 e2 hr
    refine ⟨i, j, rfl, rfl, g i j, rfl, ?_⟩
    cases e : g i j with
    | false =>
      rw [if_neg Bool.false_ne_true]
      rw [e, Bool.false_and] at q
      exact q _ _ H3 rfl (g2.trans g3) (.bl _)
    | true =>
      rw [if_pos rfl]
      rw [e, Bool.true_and] at q
      refine hc H3 ((g1.trans g2).trans g3) _ fun v4 z4 H4 ez4 g4 tz4 => ?_
      subst ez4
      have e3 := tz4.int_inv
      subst e3
      exact ⟨j, k, rfl, rfl, q _ _ H4 rfl ((g2.trans g3).trans g4) (.bl _)⟩
/-- in, not in a written tuple of texts -/
def flatD : PyData → Option V
  | .int i => some (.int i)
  | .str x => some (.str x)
  | _ => none
theorem ev_inT {neg : Bool} {p : Addr} {xs : List V} {b : Bool} (h : EvD ta σ H d) (hp : EvV tb σ H (.ref p)) (hs : ∀ J, SqT K J p xs) (hd : scalD d = some v) (hf : flatV v = true) (hx : xs.all flatV = true) (hb : (if neg then !inV v xs else inV v xs) = b) :
    EvD (tOp (rIn K neg) ta tb) σ H (.bool b) := fun H1 g _ q =>
  h H1 g _ fun x z H2 ez g2 tz => hp H2 (g.trans g2) _ fun H3 g3 => by
    subst ez
    have e := scalD_eq tz hd
    subst e
    exact ⟨p, xs, rfl, .inr (hs H3), hf, hx, by rw [hb]; exact q _ _ H3 rfl (g2.trans g3) (.bl b)⟩
theorem TdA.scal {H : Hp} : ∀ {vs xs : List V} {ds : List PyData}, TdA H vs ds → ds.map scalD = xs.map some → vs = xs
  | _, [], _, .nil, _ => rfl
  | _, _ :: _, _, .nil, h => by cases h
  | _, [], _, .cons _ _, h => by cases h
  | _, y :: ys, _, .cons h1 t1, h => by
    rw [List.map_cons, List.map_cons] at h
    injection h with h2 h3
    rw [scalD_eq h1 h2, TdA.scal t1 h3]
/-- in a tuple of texts made there -/
theorem ev_inU {neg : Bool} {tr : TA} {ds : List PyData} {xs : List V} {b : Bool} (h : EvD ta σ H d) (hb : EvA tr σ H ds) (hl : ds.length ≤ 1000) (hd : scalD d = some v) (hx : ds.map scalD = xs.map some) (hf : flatV v = true) (hxf : xs.all flatV = true) (he : (if neg then !inV v xs else inV v xs) = b) :
    EvD (tOp (rIn K neg) ta (tTup tr)) σ H (.bool b) := fun H1 g _ q =>
  h H1 g _ fun x z H2 ez g2 tz => hb H2 (g.trans g2) _ fun vs H3 g3 ts => by
    subst ez
    have e := scalD_eq tz hd
    subst e
    have ex : vs = xs := ts.scal hx
    subst ex
    refine ⟨by rw [ts.length]; exact Nat.le_of_lt (small1000 hl), fun p hp => ?_⟩
    refine ⟨p, vs, rfl, .inr (SqT.of upd_same), hf, hxf, ?_⟩
    rw [he]
    exact q _ _ _ rfl ((g2.trans g3).trans (Gr.new hp)) (.bl b)
end
end K27
/-! ## B2. List comprehensions over data -/
namespace K27
open PySem PySem.Spec L2
open PyProof.Rows hiding St
section
variable {K : PySem.W.Frag} {σ : St} {H H1 J L : Hp} {te ta tb tc : TE} {t u : TT} {D : Addr} {j n : Nat} {v : V}
theorem len_bound {n : Nat} (h : n ≤ 100000) : n < sizeLine := Nat.lt_of_le_of_lt h (by decide)
/-- a list of one's own is changed: what stood ahead of it stays -/
theorem Mv.own {o u : HO} (g : Mv [] H J) (hD : H D = none) (hJ : J D = some o) (ho : ∀ xs, o ≠ .tup xs) : Gr H (upd J D u) :=
  Mv.drop (U := []) (S := [D]) (g.up.trans (Mv.put hJ (List.mem_singleton.mpr (Eq.refl _)) ho)) fun b hb => .inr (by rw [List.mem_singleton.mp hb]; exact hD)
theorem Tx.put {p : Addr} {o u : HO} (hp : H p = some o) (ht : ∀ xs, o ≠ .tup xs) : Tx H (upd H p u) := (Mv.put (S := [p]) hp (List.mem_singleton.mpr (Eq.refl _)) ht).tup
theorem lst_tup {xs : List V} : ∀ ys, HO.lst xs ≠ .tup ys := fun _ h => by cases h
/-- what holds between two turns of a comprehension: D holds the data es -/
def CPv (H1 : Hp) (D : Addr) (Iv : Nat → List PyData → Prop) (n : Nat) (J : Hp) : Prop := Gr H1 J ∧ ∃ acc es, J D = some (.lst acc) ∧ TdA J acc es ∧ Iv n es ∧ es.length ≤ n
theorem wipe_set (σ : St) (j : Nat) (v : Option V) : (wipe σ [j]).set j v = σ.set j v := by
  show ((wipe σ []).set j none).set j v = σ.set j v
  rw [List.set_set]
  rfl
theorem wipe_set2 (σ : St) (j : Nat) (v : Option V) : wipe (σ.set j v) [j] = wipe σ [j] := by
  show (σ.set j v).set j none = σ.set j none
  rw [List.set_set]
theorem c_start {Iv : Nat → List PyData → Prop} (hD : H1 D = none) (h : Iv 0 []) : CPv H1 D Iv 0 (upd H1 D (.lst [])) := ⟨Gr.new hD, [], [], upd_same, .nil, h, Nat.le_refl _⟩
theorem c_turn {Iv : Nat → List PyData → Prop} {B : Bool → Prop} {R : PyData → Prop} (hD : H1 D = none) (p : CPv H1 D Iv n J) (hn : n < 100000) (hb : EvB t (σ.set j (some v)) J B) (he : B true → EvP te (σ.set j (some v)) J R)
    (ht : ∀ es e, Iv n es → B true → R e → Iv (n + 1) (es ++ [e])) (hf : ∀ es, Iv n es → B false → Iv (n + 1) es) :
    gName j v (wipe σ [j]) J fun σ2 H2 => wipe σ2 [j] = wipe σ [j] ∧ t σ2 H2 fun b H3 =>
      if b = true then te σ2 H3 fun y H4 => ∃ acc, H4 D = some (.lst acc) ∧ acc.length < sizeLine ∧ CPv H1 D Iv (n + 1) (upd H4 D (.lst (acc ++ [y]))) else CPv H1 D Iv (n + 1) H3 := by
  obtain ⟨g, acc, es, hJ, ts, iv, hl⟩ := p
  show wipe ((wipe σ [j]).set j (some v)) [j] = wipe σ [j] ∧ _
  rw [wipe_set]
  refine ⟨wipe_set2 σ j _, hb J Mv.rfl _ fun b H3 pb g3 => ?_⟩
  cases b with
  | true =>
    rw [if_pos rfl]
    refine he pb H3 g3 _ fun y e H4 pe g4 ty => ?_
    have hJ4 : H4 D = some (.lst acc) := (g3.trans g4).get hJ
    have g14 := (g.trans g3).trans g4
    have ts4 := ts.mono (g3.trans g4).tup
    refine ⟨acc, hJ4, len_bound (by rw [ts.length]; omega), g14.own hD hJ4 lst_tup, acc ++ [y], es ++ [e], upd_same, ?_, ht es e iv pb pe, by rw [List.length_append, List.length_singleton]; omega⟩
    have m := Tx.put (u := .lst (acc ++ [y])) hJ4 lst_tup
    exact (ts4.mono m).append (.one (ty.mono m))
  | false =>
    rw [if_neg Bool.false_ne_true]
    exact ⟨g.trans g3, acc, es, g3.get hJ, ts.mono g3.tup, hf es iv pb, by omega⟩
/-- over a tuple -/
theorem el_lcT {Iv : Nat → List PyData → Prop} {B : Nat → Bool → Prop} {R : Nat → PyData → Prop} {P : List PyData → Prop} {ds : List PyData} (ha : EvD ta σ H (.tuple ds)) (hl : ds.length ≤ 100000) (h0 : Iv 0 [])
    (hb : ∀ n d v J, ds[n]? = some d → Gr H J → Td J v d → EvB t (σ.set j (some v)) J (B n)) (he : ∀ n d v J, ds[n]? = some d → Gr H J → Td J v d → B n true → EvP te (σ.set j (some v)) J (R n))
    (ht : ∀ n es e, n < ds.length → Iv n es → B n true → R n e → Iv (n + 1) (es ++ [e])) (hf : ∀ n es, n < ds.length → Iv n es → B n false → Iv (n + 1) es) (hP : ∀ es, Iv ds.length es → P es) :
    EvL (tLc (iTup K ta) (gName j) t te [j]) σ H P := fun H1 g Q q =>
  ha H1 g _ fun v z H2 ez g2 tz => by
    subst ez
    obtain ⟨a, xs, rfl, hx, ts⟩ := tz.tup_inv
    refine ⟨a, rfl, ⟨xs, SqT.of hx⟩, fun D hD => ?_⟩
    have lx := ts.length
    refine lc_tup (K := K) (a := a) (xs := xs) (CPv H2 D Iv) (c_start hD h0) (fun i J _ p => SqT.of (p.1.get hx)) (fun i x J hi p => ?_) fun J p => ?_
    · obtain ⟨d, hd, td⟩ := ts.getV hi
      have il : i < ds.length := (List.getElem?_eq_some_iff.mp hd).1
      have gHJ := (g.trans g2).trans p.1
      exact c_turn hD p (by omega) (hb i d x J hd gHJ (td.mono p.1.tup)) (he i d x J hd gHJ (td.mono p.1.tup)) (fun es e => ht i es e il) fun es => hf i es il
    · obtain ⟨g3, acc, es, hJ, ts3, iv, _⟩ := p
      rw [lx] at iv
      exact q D acc es J (hP es iv) (g2.low D hD) (g2.trans g3) hJ ts3
/-- over a list -/
theorem el_lcL {Iv : Nat → List PyData → Prop} {B : Nat → Bool → Prop} {R : Nat → PyData → Prop} {P : List PyData → Prop} {PL : List PyData → Prop} (ha : EvL ta σ H PL) (hl : ∀ ds, PL ds → ds.length ≤ 100000) (h0 : Iv 0 [])
    (hb : ∀ ds n d v J, PL ds → ds[n]? = some d → Gr H J → Td J v d → EvB t (σ.set j (some v)) J (B n)) (he : ∀ ds n d v J, PL ds → ds[n]? = some d → Gr H J → Td J v d → B n true → EvP te (σ.set j (some v)) J (R n))
    (ht : ∀ ds n es e, PL ds → n < ds.length → Iv n es → B n true → R n e → Iv (n + 1) (es ++ [e])) (hf : ∀ ds n es, PL ds → n < ds.length → Iv n es → B n false → Iv (n + 1) es) (hP : ∀ ds es, PL ds → Iv ds.length es → P es) :
    EvL (tLc (iList K ta) (gName j) t te [j]) σ H P := fun H1 g Q q =>
  ha H1 g _ fun a xs ds H2 pl hp g2 hx ts => by
    have hl := hl ds pl
    refine ⟨a, rfl, ⟨xs, SqL.of hx⟩, fun D hD => ?_⟩
    have lx := ts.length
    refine lc_list (K := K) (a := a) (xs := xs) (CPv H2 D Iv) (c_start hD h0) (fun i J _ p => SqL.of (p.1.get hx)) (fun i x J hi p => ?_) fun J p => ?_
    · obtain ⟨d, hd, td⟩ := ts.getV hi
      have il : i < ds.length := (List.getElem?_eq_some_iff.mp hd).1
      have gHJ := (g.trans g2).trans p.1
      exact c_turn hD p (by omega) (hb ds i d x J pl hd gHJ (td.mono p.1.tup)) (he ds i d x J pl hd gHJ (td.mono p.1.tup)) (fun es e => ht ds i es e pl il) fun es => hf ds i es pl il
    · obtain ⟨g3, acc, es, hJ, ts3, iv, _⟩ := p
      rw [lx] at iv
      exact q D acc es J (hP ds es pl iv) (g2.low D hD) (g2.trans g3) hJ ts3
/-- over the signs of a text -/
theorem el_lcS {Iv : Nat → List PyData → Prop} {B : Nat → Bool → Prop} {R : Nat → PyData → Prop} {P : List PyData → Prop} {x : Str} (ha : EvD ta σ H (.str x)) (hl : x.cps.size ≤ 100000) (h0 : Iv 0 [])
    (hb : ∀ n c J, x.cps[n]? = some c → Gr H J → EvB t (σ.set j (some (.str ⟨#[c]⟩))) J (B n)) (he : ∀ n c J, x.cps[n]? = some c → Gr H J → B n true → EvP te (σ.set j (some (.str ⟨#[c]⟩))) J (R n))
    (ht : ∀ n es e, n < x.cps.size → Iv n es → B n true → R n e → Iv (n + 1) (es ++ [e])) (hf : ∀ n es, n < x.cps.size → Iv n es → B n false → Iv (n + 1) es) (hP : ∀ es, Iv x.cps.size es → P es) :
    EvL (tLc (iStr ta) (gName j) t te [j]) σ H P := fun H1 g Q q =>
  ha H1 g _ fun v z H2 ez g2 tz => by
    subst ez
    have e1 := tz.str_inv
    subst e1
    refine ⟨x, rfl, fun D hD => ?_⟩
    refine ⟨fun i m J => m = x.cps.size - i ∧ i ≤ x.cps.size ∧ CPv H2 D Iv i J, ⟨x.cps.size, by omega, Nat.zero_le _, c_start hD h0⟩, ?_⟩
    rintro i m J ⟨rfl, hi, p⟩
    by_cases hlt : i < x.cps.size
    · refine .inr ⟨hlt, CPv H2 D Iv (i + 1), fun H' p' => ⟨x.cps.size - (i + 1), by omega, rfl, hlt, p'⟩, fun y H' hy => ?_⟩
      obtain ⟨rfl, c, hc, rfl⟩ := hy
      have gHJ := (g.trans g2).trans p.1
      exact c_turn hD p (by omega) (hb i c _ hc gHJ) (he i c _ hc gHJ) (fun es e => ht i es e hlt) fun es => hf i es hlt
    · have e : i = x.cps.size := by omega
      subst e
      obtain ⟨g3, acc, es, hJ, ts3, iv, _⟩ := p
      exact .inl ⟨Nat.le_refl _, q D acc es J (hP es iv) (g2.low D hD) (g2.trans g3) hJ ts3⟩
/-- no test -/
theorem et_yes {B : Bool → Prop} (h : B true) : EvB tYes σ H B := fun H1 _ Q q => q true H1 h Mv.rfl
/-- [f(x) for x in t]: each item by a function -/
theorem el_mapT {f : PyData → PyData} {ds : List PyData} (ha : EvD ta σ H (.tuple ds)) (hl : ds.length ≤ 100000) (he : ∀ d v J, d ∈ ds → Gr H J → Td J v d → EvD te (σ.set j (some v)) J (f d)) :
    EvL (tLc (iTup K ta) (gName j) tYes te [j]) σ H (fun es => es = ds.map f) :=
  el_lcT (Iv := fun n es => es = (ds.take n).map f) (B := fun _ b => b = true) (R := fun n e => ∃ d, ds[n]? = some d ∧ e = f d) ha hl (by rw [List.take_zero]; rfl)
    (fun n d v J _ _ _ => et_yes rfl) (fun n d v J hd g td _ => (he d v J (List.mem_of_getElem? hd) g td).imp fun e ee => ⟨d, hd, ee⟩)
    (fun n es e hn iv _ re => by
      obtain ⟨d, hd, rfl⟩ := re
      rw [iv, List.take_add_one, hd, List.map_append]
      rfl)
    (fun n es _ _ hb => by cases hb) fun es iv => by rw [iv, List.take_length]
theorem el_mapL {f : PyData → PyData} {ds : List PyData} (ha : EvL ta σ H (fun z => z = ds)) (hl : ds.length ≤ 100000) (he : ∀ d v J, d ∈ ds → Gr H J → Td J v d → EvD te (σ.set j (some v)) J (f d)) :
    EvL (tLc (iList K ta) (gName j) tYes te [j]) σ H (fun es => es = ds.map f) :=
  el_lcL (Iv := fun n es => es = (ds.take n).map f) (B := fun _ b => b = true) (R := fun n e => ∃ d, ds[n]? = some d ∧ e = f d) (PL := fun z => z = ds) ha (fun ds' e => by subst e; exact hl) (by rw [List.take_zero]; rfl)
    (fun ds' n d v J _ _ _ _ => et_yes rfl) (fun ds' n d v J e hd g td _ => (he d v J (by subst e; exact List.mem_of_getElem? hd) g td).imp fun e' ee => ⟨d, by subst e; exact hd, ee⟩)
    (fun ds' n es e _ hn iv _ re => by
      obtain ⟨d, hd, rfl⟩ := re
      rw [iv, List.take_add_one, hd, List.map_append]
      rfl)
    (fun ds' n es _ _ _ hb => by cases hb) fun ds' es e iv => by subst e; rw [iv, List.take_length]
/-- == of two new lists of plain data: some answer -/
theorem ev_eqLL {P R : List PyData → Prop} (ha : EvL ta σ H P) (hb : EvL tb σ H R) (h1 : ∀ ds, P ds → SeqAt.shaped (.list ds) = true) (h2 : ∀ ds, R ds → SeqAt.shaped (.list ds) = true) : EvP (tOp (rEqD K) ta tb) σ H SomeB := fun H1 g1 Q q =>
  ha H1 g1 _ fun p xs ds H2 pd hp g2 hx ts => hb H2 (g1.trans g2) _ fun p' xs' ds' H3 pd' hp' g3 hx' ts' =>
    ⟨_, _, .lst (SqL.of (g3.get hx)) (ts.mono g3.tup).dp, .lst (SqL.of hx') ts'.dp, h1 ds pd, h2 ds' pd', q _ _ H3 ⟨_, rfl⟩ (g2.trans g3) (.bl _)⟩
/-- tuple(a new list) -/
abbrev rTupQ (K : PySem.W.Frag) : List V → Hp → VK → Prop := fun xs H Q => ∃ p ys, xs = [.ref p] ∧ ((SqL K H p ys ∧ ∀ l, H l = none → Q (.ref l) (upd H l (.tup ys))) ∨ (SqT K H p ys ∧ Q (.ref p) H))
theorem ev_tupL {P : List PyData → Prop} (ha : EvL ta σ H P) : EvP (tCB (rTupQ K) (tCons ta tNil)) σ H (fun z => ∃ ds, P ds ∧ z = .tuple ds) := fun H1 g1 Q q =>
  ha H1 g1 _ fun p xs ds H2 pd hp g2 hx ts => ⟨p, xs, rfl, .inl ⟨SqL.of hx, fun l hl => q _ _ _ ⟨ds, pd, rfl⟩ (g2.trans (Gr.new hl)) (.tup upd_same (ts.mono (Gr.new hl).tup))⟩⟩
end
end K27
namespace K27
open PySem PySem.Spec L2
open PyProof.Rows hiding St
section
variable {K : PySem.W.Frag} {σ : St} {H : Hp} {te ta tb tc : TE} {r r' : R2}
theorem et_chainI {b : Bool} (h : EvD (tChain r r' ta tb tc) σ H (.bool b)) : EvB (fun σ H Q => tChain r r' ta tb tc σ H fun x H1 => ∃ c, x = .bl c ∧ Q c H1) σ H (fun c => c = b) := fun H1 g _ q => h H1 g _ fun v z H2 ez g2 tz => by
  subst ez
  have e1 := tz.bl_inv
  subst e1
  exact ⟨b, rfl, q b H2 rfl g2⟩
theorem ev_lenS {x : Str} (h : EvD ta σ H (.str x)) (hL : x.length ≤ sizeLine) : EvD (tCB (fun xs H Q => ∃ y : Str, xs = [.str y] ∧ y.length ≤ sizeLine ∧ Q (.int y.length) H) (tCons ta tNil)) σ H (.int x.length) := fun H1 g _ q =>
  h H1 g _ fun v z H2 ez g2 tz => by
    subst ez
    have e1 := tz.str_inv
    subst e1
    exact ⟨x, rfl, hL, q _ _ H2 rfl g2 (.int _)⟩
theorem ev_ixS {x : Str} {i : Int} {c : Nat} (h : EvD ta σ H (.str x)) (hL : x.length ≤ sizeLine) (hc : x.cps.toList[i.toNat]? = some c) (h0 : 0 ≤ i := by decide) : EvD (tOp rIxS ta (tC (.int i))) σ H (.str ⟨#[c]⟩) := fun H1 g _ q =>
  h H1 g _ fun v z H2 ez g2 tz => by
    subst ez
    have e1 := tz.str_inv
    subst e1
    obtain ⟨n, rfl⟩ := Int.eq_ofNat_of_zero_le h0
    exact ⟨x, _, c, rfl, rfl, hL, atI_get hc, q _ _ H2 rfl g2 (.str _)⟩
theorem ev_signNot {c : Nat} {z : Str} (h : EvD ta σ H (.str ⟨#[c]⟩)) (h2 : EvD tb σ H (.str z)) : EvP (tOp (fun x y H Q => ∃ (c : Nat) (z : Str), x = .str ⟨#[c]⟩ ∧ y = .str z ∧ Q (.bl (!decide (c ∈ z.cps.toList))) H) ta tb) σ H SomeB := fun H1 g _ q =>
  h H1 g _ fun v z1 H2 ez g2 tz => h2 H2 (g.trans g2) _ fun v' z' H3 ez' g3 tz' => by
    subst ez ez'
    have e1 := tz.str_inv
    have e2 := tz'.str_inv
    subst e1 e2
    exact ⟨c, z, rfl, rfl, q _ _ H3 ⟨_, rfl⟩ (g2.trans g3) (.bl _)⟩
end
end K27
namespace K27
open PySem PySem.Spec L2
open PyProof.Rows hiding St
section
variable {K : PySem.W.Frag} {σ : St} {H : Hp} {te ta tb tc : TE} {tl th : TO} {P : PyData → Prop}
/-- slices -/
def cut {α : Type} (xs : List α) (lo hi : Option Int) : List α := (xs.drop (HT.sIx xs.length 0 lo)).take (HT.sIx xs.length xs.length hi - HT.sIx xs.length 0 lo)
theorem cut_V (xs : List V) (lo hi : Option Int) : cutV xs lo hi = cut xs lo hi := rfl
theorem TdA.cut {vs : List V} {ds : List PyData} (h : TdA H vs ds) (lo hi : Option Int) : TdA H (cutV vs lo hi) (cut ds lo hi) := by
  unfold cutV K27.cut
  rw [h.length]
  exact (h.drop _).take _
theorem cut_whole {α : Type} {xs : List α} {lo hi : Option Int} (h : HT.sIx xs.length 0 lo = 0 ∧ HT.sIx xs.length xs.length hi = xs.length) : cut xs lo hi = xs := by
  unfold K27.cut
  rw [h.1, h.2, List.drop_zero, Nat.sub_zero, List.take_length]
def EvO (to : TO) (σ : St) (H : Hp) (o : Option Int) : Prop := ∀ H1, Gr H H1 → ∀ Q : Option Int → Hp → Prop, (∀ H2, Gr H1 H2 → Q o H2) → to σ H1 Q
theorem eo_none : EvO tNoPart σ H none := fun H1 _ _ q => q H1 Mv.rfl
theorem eo_some {i : Int} (h : EvD te σ H (.int i)) : EvO (tPart te) σ H (some i) := fun H1 g _ q => h H1 g _ fun v z H2 ez g2 tz => by
  subst ez
  have e := tz.int_inv
  subst e
  exact ⟨i, rfl, q H2 g2⟩
theorem ev_slA {ds es : List PyData} {lo hi : Option Int} (ha : EvD ta σ H (.tuple ds)) (hl : EvO tl σ H lo) (hh : EvO th σ H hi) (he : cut ds lo hi = es) : EvD (tSl (rSlA K) ta tl th) σ H (.tuple es) := fun H1 g Q q =>
  ha H1 g _ fun v z H2 ez g2 tz => hl H2 (g.trans g2) _ fun H3 g3 => hh H3 ((g.trans g2).trans g3) _ fun H4 g4 => by
    subst ez he
    obtain ⟨a, xs, rfl, hx, ts⟩ := tz.tup_inv
    have g24 := g3.trans g4
    refine ⟨a, xs, rfl, SqT.of (g24.get hx), fun w => ?_, fun _ p hp => ?_⟩
    · rw [ts.length] at w
      rw [cut_whole w] at q
      exact q _ _ H4 rfl (g2.trans g24) (tz.mono g24.tup)
    · exact q _ _ _ rfl ((g2.trans g24).trans (Gr.new hp)) (.tup upd_same ((ts.cut lo hi).mono (g24.trans (Gr.new hp)).tup))
/-- t + u -/
theorem ev_catA {ds es : List PyData} (ha : EvD ta σ H (.tuple ds)) (hb : EvD tb σ H (.tuple es)) (hl : ds.length + es.length ≤ 1000) : EvD (tOp (rCatA K) ta tb) σ H (.tuple (ds ++ es)) := fun H1 g Q q =>
  ha H1 g _ fun v z H2 ez g2 tz => hb H2 (g.trans g2) _ fun v' z' H3 ez' g3 tz' => by
    subst ez ez'
    have tz3 := tz.mono g3.tup
    obtain ⟨a, xs, rfl, hx, ts⟩ := tz3.tup_inv
    obtain ⟨b, ys, rfl, hy, us⟩ := tz'.tup_inv
    have l1 := ts.length
    have l2 := us.length
    refine ⟨a, b, xs, ys, rfl, rfl, SqT.of hx, SqT.of hy, Nat.le_of_lt (small1000 (by omega)), fun e => ?_, fun _ e => ?_, fun _ _ p hp => ?_⟩
    · subst e
      have e2 : ds = [] := List.eq_nil_of_length_eq_zero l1.symm
      subst e2
      exact q _ _ H3 rfl (g2.trans g3) tz'
    · subst e
      have e2 : es = [] := List.eq_nil_of_length_eq_zero l2.symm
      subst e2
      rw [List.append_nil] at q
      exact q _ _ H3 rfl (g2.trans g3) tz3
    · exact q _ _ _ rfl ((g2.trans g3).trans (Gr.new hp)) (.tup upd_same ((ts.append us).mono (Gr.new hp).tup))
end
end K27
namespace K27
open PySem PySem.Spec L2
open PyProof.Rows hiding St
/-! ### the rules with the written part by its name (for comprehensions' blocks) -/
section
variable {X : Cx} (K : PySem.W.Frag) (h : X.K = K := by rfl)
include h
theorem k_isi : CallR X (.builtin "isinstance") (rIsi K) := by subst h; exact call_isi
theorem k_len : CallR X (.builtin "len") (rLenQ K) := by subst h; exact call_len_seq
theorem k_tup : CallR X (.type "tuple") (rTupQ K) := by subst h; exact call_tuple_of
theorem k_ixT : IxR X (rIxT K) := by subst h; exact ix_tup
theorem k_ixL : IxR X (rIxL K) := by subst h; exact ix_list
theorem k_slA : SlR X (rSlA K) := by subst h; exact sl_tupA
theorem k_slL : SlR X (rSlL K) := by subst h; exact sl_list
theorem k_catA : OpR X (binaryOp .Add) (rCatA K) := by subst h; exact op_catA
theorem k_eqD (hu : X.A.units + 64 < cLine) : OpR X (compareOp .Eq) (rEqD K) := by subst h; exact op_eqD hu
theorem k_neD (hu : X.A.units + 64 < cLine) : OpR X (compareOp .NotEq) (rNeD K) := by subst h; exact op_neD hu
theorem k_in : OpR X (compareOp .In) (rIn K false) := by subst h; exact op_in_seq
theorem k_notIn : OpR X (compareOp .NotIn) (rIn K true) := by subst h; exact op_notIn_seq
end
end K27
/-! ## B3. Written dicts, lists as arguments, while -/
namespace K27
open PySem PySem.Spec L2
open PyProof.Rows hiding St
section
variable {X : Cx} {K : PySem.W.Frag} {w : World} {σ : St} {H : Hp} {te ta tb tc tf : TE} {P : PyData → Prop} {d : PyData} {v : V}
/-- d.get(k, x), d a dict that the module's top wrote, its keys texts -/
def tKGet (K : PySem.W.Frag) (a : Addr) (te tf : TE) : TE := fun σ H Q => te σ H fun x H1 => tf σ H1 fun y H2 => ∃ (z : Str) (r : Option Value) (v : V), x = .str z ∧ PySem.W.nsIn K a z = some r ∧ (∀ u, r = some u → RelV v u) ∧ (r = none → v = y) ∧ Q v H2
theorem pe_kget {o e f : Expr} {apos cpos : Pos} {a : Addr} (hD : ∃ es n, KDict K w a es n) (ho : PE X o (tC (.ref a))) (he : PE X e te) (hf : PE X f tf) (m : M2 X o "get" apos e f cpos) (hK : X.K = K := by rfl) (hw : X.w = w := by rfl) : PE X (.Call (.Attribute o "get" apos) [e, f] [] cpos) (tKGet K a te tf) := by
  subst hK hw
  obtain ⟨es, n, D⟩ := hD
  refine ⟨fun pins s σ H Q I h => ?_⟩
  refine wpAny_Call_method m.base m.few m.line PySem.F.plainAttrs_dict PySem.F.slot_dict_get PySem.F.type_dict_get (thn (ho.run pins s σ H (fun x H1 => x = .ref a ∧ H1 = H) I ⟨rfl, rfl⟩) fun u s1 ⟨x, H1, I1, rx, ex, eH⟩ => ?_)
  subst ex eH
  obtain rfl : u = Value.ref a := rx
  have ty := kd_type D I1
  refine ⟨ty, fun b q => ?_, ?_⟩
  · cases q
    exact ⟨_, I1.kIn _ _ D.at_, rfl⟩
  rw [m.trees]
  refine Calls.callWith_builtin rfl (Calls.evalArgs_plain (Calls.spliced_cons (thn (he.run pins s1 σ H1 _ I1 h) fun iv s2 ⟨y, H2, I2, ry, q2⟩ =>
    Calls.spliced_cons (thn (hf.run pins s2 σ H2 _ I2 q2) fun fv s3 ⟨z, H3, I3, rz, q3⟩ => Calls.spliced_nil ?_))))
  obtain ⟨k, r, v, rfl, hn, h1, h2, q⟩ := q3
  obtain ⟨t, rfl⟩ := ry
  have hm := PySem.W.mapOf_K (prog := X.prog) (w := X.w) I3.kIn D.at_ D.lit
  refine call_meetsIn PySem.F.slot_dict_get hm.typeIs PySem.F.entry_dict_get (PySem.F.args_dict_get_3 _ _ _) (meets_dict_get_default (PySem.strKind X.prog X.w) a (PySem.strKind_is X.prog X.w k t) D.low fv) ⟨_, hm, ?_⟩
  rw [PySem.W.find_K D.at_ hn]
  refine ⟨v, H3, I3.tok _, ?_, q⟩
  cases r with
  | none => rw [h2 rfl]; exact rz
  | some u => exact h1 u rfl
end
end K27
namespace K27
open PySem PySem.Spec L2
open PyProof.Rows hiding St
section
variable {X : Cx} {K : PySem.W.Frag} {w : World} {mg : Str → Option Value} {σ : St} {H : Hp} {te ta tb tc tf : TE} {t : TT} {P : PyData → Prop} {d : PyData} {v : V}
/-- the other hand -/
def opp (x : Str) : Str := if x = "we" then "they" else if x = "they" then "we" else x
theorem ev_opp (T : Gb K w mg) {x : Str} (he : EvD te σ H (.str x)) (hf : EvD tf σ H (.str x)) (hx : x ∈ (["we", "they", "set", "stop", "if", "repeat"] : List Str)) : EvD (tKGet K (He.ga K "OPPOSITES") te tf) σ H (.str (opp x)) := fun H1 g Q q =>
  he H1 g _ fun v z H2 ez g2 tz => hf H2 (g.trans g2) _ fun v' z' H3 ez' g3 tz' => by
    subst ez ez'
    have e1 := tz.str_inv
    have e2 := tz'.str_inv
    subst e1 e2
    have none_ : ∀ y : Str, PySem.W.nsIn K (He.ga K "OPPOSITES") y = some none → opp y = y → x = y → ∃ (z : Str) (r : Option Value) (v : V), V.str x = .str z ∧ PySem.W.nsIn K (He.ga K "OPPOSITES") z = some r ∧ (∀ u, r = some u → RelV v u) ∧ (r = none → v = .str x) ∧ Q v H3 := fun y h1 h2 h3 => by
      subst h3
      exact ⟨x, _, .str x, rfl, h1, (fun u e => by cases e), (fun _ => rfl), q _ _ H3 (by rw [h2]) (g2.trans g3) (.str x)⟩
    simp only [List.mem_cons, List.not_mem_nil, or_false] at hx
    rcases hx with e | e | e | e | e | e
    · subst e
      obtain ⟨u, h1, h2⟩ := T.oppW
      exact ⟨_, _, .str "they", rfl, h1, (fun u' e => by cases e; exact h2), (fun e => by cases e), q _ _ H3 (congrArg PyData.str (show ("they" : Str) = opp "we" by decide +kernel)) (g2.trans g3) (.str _)⟩
    · subst e
      obtain ⟨u, h1, h2⟩ := T.oppT
      exact ⟨_, _, .str "we", rfl, h1, (fun u' e => by cases e; exact h2), (fun e => by cases e), q _ _ H3 (congrArg PyData.str (show ("we" : Str) = opp "they" by decide +kernel)) (g2.trans g3) (.str _)⟩
    · exact none_ _ T.oppP (by decide +kernel) e
    · exact none_ _ T.oppS (by decide +kernel) e
    · exact none_ _ T.oppI (by decide +kernel) e
    · exact none_ _ T.oppR (by decide +kernel) e
/-- an item of a list that stands still -/
theorem ev_ixL {p : Addr} {vs : List V} {ds : List PyData} {i : Int} (ha : EvV ta σ H (.ref p)) (hp : H p = some (.lst vs)) (ts : TdA H vs ds) (hn : ds[i.toNat]? = some d) (h0 : 0 ≤ i := by decide) : EvD (tOp (rIxL K) ta (tC (.int i))) σ H d := fun H1 g Q q =>
  ha H1 g _ fun H2 g2 => by
    obtain ⟨n, rfl⟩ := Int.eq_ofNat_of_zero_le h0
    obtain ⟨v, hv, tv⟩ := ts.get hn
    exact ⟨p, vs, _, v, rfl, rfl, SqL.of ((g.trans g2).get hp), atI_get hv, q v d H2 rfl g2 (tv.mono (g.trans g2).tup)⟩
/-- tuple(a list that stands still) -/
theorem ev_tupV {p : Addr} {vs : List V} {ds : List PyData} (ha : EvV ta σ H (.ref p)) (hp : H p = some (.lst vs)) (ts : TdA H vs ds) : EvD (tCB (rTupQ K) (tCons ta tNil)) σ H (.tuple ds) := fun H1 g Q q =>
  ha H1 g _ fun H2 g2 => ⟨p, vs, rfl, .inl ⟨SqL.of ((g.trans g2).get hp), fun l hl => q _ _ _ rfl (g2.trans (Gr.new hl)) (.tup upd_same (ts.mono ((g.trans g2).trans (Gr.new hl)).tup))⟩⟩
/-- in, not in a tuple of texts made there -/
theorem ev_inU2 {neg : Bool} {tr : TA} {ds : List PyData} {b : Bool} (h : EvD ta σ H d) (hb : EvA tr σ H ds) (hl : ds.length ≤ 1000) (hd : scalD d = some v) (hx : ds.all (fun z => (scalD z).isSome) = true) (hf : flatV v = true) (hxf : (ds.filterMap scalD).all flatV = true) (he : (if neg then !inV v (ds.filterMap scalD) else inV v (ds.filterMap scalD)) = b) :
    EvD (tOp (rIn K neg) ta (tTup tr)) σ H (.bool b) := by
  refine ev_inU (xs := ds.filterMap scalD) h hb hl hd ?_ hf hxf he
  clear he hxf hl hb
  induction ds with
  | nil => rfl
  | cons z r ih =>
    rw [List.all_cons, Bool.and_eq_true] at hx
    obtain ⟨y, hy⟩ := Option.isSome_iff_exists.mp hx.1
    rw [List.map_cons, List.filterMap_cons, hy, List.map_cons, ih hx.2]
/-- a while: the test's answer by B, W the word by its measure -/
theorem s_while {c : TT} {tb : TS} {D : Ends} {W : Nat → St → Hp → Prop} {m : Nat} (h0 : W m σ H)
    (hs : ∀ m σ H, W m σ H → ∃ B : Bool → Prop, EvB c σ H B ∧ (B true → ∀ J, Gr H J → tb { D with nx := fun σ' H' => ∃ m', m' < m ∧ W m' σ' H', ct := fun σ' H' => ∃ m', m' < m ∧ W m' σ' H', bk := D.nx } σ J) ∧ (B false → ∀ J, Gr H J → D.nx σ J)) : tWhile c tb D σ H := by
  refine ⟨W, ⟨m, h0⟩, fun m σ H w => ?_⟩
  obtain ⟨B, hb, h1, h2⟩ := hs m σ H w
  refine hb H Mv.rfl _ fun b J pb g => ?_
  cases b with
  | true => exact ⟨_, fun _ _ x => x, h1 pb J g⟩
  | false => exact h2 pb J g
end
end K27
/-! ## B4. Loops over data, lists of one's own; the shape of data -/
namespace K27
open PySem PySem.Spec L2
open PyProof.Rows hiding St
section
variable {K : PySem.W.Frag} {σ : St} {H H0 : Hp} {te ta tb tc : TE} {t : TT} {P : PyData → Prop} {d : PyData} {v : V} {D : Ends} {ts : TS} {j : Nat}
/-- for x in a new list -/
theorem s_forL {ds : List PyData} (g : Gr H0 H) (ha : EvL ta σ H0 (fun z => z = ds))
    (k : ∀ a xs H2, H0 a = none → Gr H0 H2 → H2 a = some (.lst xs) → TdA H2 xs ds → ∃ Pv : Nat → St → Hp → Prop, Pv 0 σ H2 ∧ (∀ i σ J, Pv i σ J → Tx H2 J ∧ J a = some (.lst xs)) ∧
      (∀ i d v σ J, ds[i]? = some d → Td J v d → Pv i σ J → ts { D with nx := Pv (i + 1), ct := Pv (i + 1), bk := D.nx } (σ.set j (some v)) J) ∧ (∀ σ J, Pv ds.length σ J → D.nx σ J)) :
    tFor (iList K ta) (gName j) ts D σ H := ha H g _ fun a xs ds' H2 ed ha0 g2 hx tx => by
  subst ed
  obtain ⟨Pv, p0, pk, ps, pe⟩ := k a xs H2 (g.low a ha0) (g.trans g2) hx tx
  refine ⟨a, rfl, ⟨xs, SqL.of hx⟩, for_list (K := K) (a := a) (xs := xs) Pv p0 (fun i σ J _ p => SqL.of (pk i σ J p).2) (fun i x σ J hi p => ?_) fun σ J p => ?_⟩
  · obtain ⟨d, hd, td⟩ := tx.getV hi
    exact ps i d x σ J hd (td.mono (pk i σ J p).1) p
  · rw [tx.length] at p
    exact pe σ J p
/-- for x in a tuple -/
theorem s_forT {ds : List PyData} (g : Gr H0 H) (ha : EvD ta σ H0 (.tuple ds))
    (k : ∀ H2, Gr H0 H2 → ∃ Pv : Nat → St → Hp → Prop, Pv 0 σ H2 ∧ (∀ i σ J, Pv i σ J → Tx H2 J) ∧
      (∀ i d v σ J, ds[i]? = some d → Td J v d → Pv i σ J → ts { D with nx := Pv (i + 1), ct := Pv (i + 1), bk := D.nx } (σ.set j (some v)) J) ∧ (∀ σ J, Pv ds.length σ J → D.nx σ J)) :
    tFor (iTup K ta) (gName j) ts D σ H := ha H g _ fun v z H2 ez g2 tz => by
  subst ez
  obtain ⟨a, xs, rfl, hx, tx⟩ := tz.tup_inv
  obtain ⟨Pv, p0, pk, ps, pe⟩ := k H2 (g.trans g2)
  refine ⟨a, rfl, ⟨xs, SqT.of hx⟩, for_tup (K := K) (a := a) (xs := xs) Pv p0 (fun i σ J _ p => SqT.of (pk i σ J p a xs hx)) (fun i x σ J hi p => ?_) fun σ J p => ?_⟩
  · obtain ⟨d, hd, td⟩ := tx.getV hi
    exact ps i d x σ J hd (td.mono (pk i σ J p)) p
  · rw [tx.length] at p
    exact pe σ J p
/-- xs.extend(a new list) -/
theorem s_extend {i : Nat} {p : Addr} {vs : List V} {P : List PyData → Prop} (hi : σ[i]? = some (some (.ref p))) (hp : H p = some (.lst vs)) (he : EvL te σ H P)
    (k : ∀ ws es J, P es → Gr H J → J p = some (.lst vs) → TdA J ws es → vs.length + ws.length ≤ sizeLine ∧ D.nx σ (upd J p (.lst (vs ++ ws)))) :
    tDrop (tBM K "list" rExtend (tVar i) (tCons te tNil)) D σ H :=
  ⟨_, hi, .inl ⟨rfl, _, SqL.of hp⟩, he H Mv.rfl _ fun q ws es J pe hq g hx tw => by
    obtain ⟨h1, h2⟩ := k ws es J pe g (g.get hp) tw
    exact ⟨p, q, vs, ws, rfl, rfl, g.get hp, hx, h1, h2⟩⟩
/-- xs.append(e) -/
theorem s_append {i : Nat} {p : Addr} {vs : List V} (hi : σ[i]? = some (some (.ref p))) (hp : H p = some (.lst vs)) (hl : vs.length < sizeLine) (he : EvP te σ H P)
    (k : ∀ v d J, P d → Gr H J → J p = some (.lst vs) → Td J v d → D.nx σ (upd J p (.lst (vs ++ [v])))) :
    tDrop (tBM K "list" rAppend (tVar i) (tCons te tNil)) D σ H :=
  ⟨_, hi, .inl ⟨rfl, _, SqL.of hp⟩, he H Mv.rfl _ fun v d J pd g tv => ⟨p, vs, v, rfl, rfl, g.get hp, hl, k v d J pd g (g.get hp) tv⟩⟩
/-- a new list by its value: xs[::-1] of a list in a name, of a new list -/
theorem el_revV {i : Nat} {p : Addr} {vs : List V} {ds : List PyData} (hi : σ[i]? = some (some (.ref p))) (hp : H p = some (.lst vs)) (tv : TdA H vs ds) : EvL (tRevL K (tVar i)) σ H (fun z => z = ds.reverse) := fun H1 g Q q =>
  ⟨_, hi, p, vs, rfl, SqL.of (g.get hp), fun l hl => q l _ _ _ rfl hl (Gr.new hl) upd_same ((tv.mono (g.trans (Gr.new hl)).tup).reverse)⟩
theorem el_rev {ds : List PyData} (ha : EvL ta σ H (fun z => z = ds)) : EvL (tRevL K ta) σ H (fun z => z = ds.reverse) := fun H1 g Q q =>
  ha H1 g _ fun p vs ds' H2 ed hp g2 hx tv => by
    subst ed
    exact ⟨p, vs, rfl, SqL.of hx, fun l hl => q l _ _ _ rfl (g2.low l hl) (g2.trans (Gr.new hl)) upd_same ((tv.mono (Gr.new hl).tup).reverse)⟩
/-- a list in a name is handed back as it is: what ends with it -/
theorem ev_neL {i : Nat} {p : Addr} {vs : List V} {ds : List PyData} (hi : σ[i]? = some (some (.ref p))) (hp : H p = some (.lst vs)) (tv : TdA H vs ds) (hs : SeqAt.shaped (.list ds) = true) :
    EvB (tTest (tOp (rNeD K) (tVar i) (tLst tNil))) σ H (fun b => b = !ds.isEmpty) := fun H1 g Q q =>
  ⟨_, hi, by show ([] : List V).length ≤ sizeLine; decide, fun l hl => by
    have gn : Gr H1 (upd H1 l (.lst [])) := Gr.new hl
    refine ⟨.list ds, .list [], .lst (SqL.of (gn.get (g.get hp))) (tv.mono (g.trans gn).tup).dp, .lst (SqL.of upd_same) .nil, hs, by decide +kernel, ?_⟩
    refine ⟨_, rfl, q _ _ ?_ gn⟩
    cases ds with
    | nil => decide +kernel
    | cons e r => rw [PyData.eqv, PyData.eqvAll]; rfl⟩
end
/-! ### the shape -/
def Sh (d : PyData) (n : Nat) : Prop := d.canLay0 = true ∧ d.depth ≤ n
theorem Sh.le {d : PyData} {n m : Nat} (h : Sh d n) (l : n ≤ m) : Sh d m := ⟨h.1, Nat.le_trans h.2 l⟩
theorem Sh.int (i : Int) (n : Nat) : Sh (.int i) n := ⟨by rw [PyData.canLay0], by rw [PyData.depth]; omega⟩
theorem Sh.str {x : Str} (h : PyData.strOk x = true) (n : Nat) : Sh (.str x) n := ⟨by rw [PyData.canLay0]; exact h, by rw [PyData.depth]; omega⟩
theorem sh_all {n : Nat} : ∀ {ds : List PyData}, (∀ d ∈ ds, Sh d n) → PyData.canLayAll0 ds = true ∧ PyData.depthAll ds ≤ n
  | [], _ => ⟨by rw [PyData.canLayAll0], by rw [PyData.depthAll]; omega⟩
  | d :: r, h => by
    obtain ⟨h1, h2⟩ := sh_all (ds := r) fun e he => h e (List.mem_cons_of_mem _ he)
    obtain ⟨h3, h4⟩ := h d List.mem_cons_self
    rw [PyData.canLayAll0, PyData.depthAll, h1, h3]
    exact ⟨rfl, by omega⟩
theorem Sh.tup {ds : List PyData} {n : Nat} (h : ∀ d ∈ ds, Sh d n) : Sh (.tuple ds) (n + 1) := by
  obtain ⟨h1, h2⟩ := sh_all h
  exact ⟨by rw [PyData.canLay0]; exact h1, by rw [PyData.depth]; omega⟩
theorem shaped_list {ds : List PyData} {n : Nat} (h : ∀ d ∈ ds, Sh d n) (hn : n ≤ 63) : SeqAt.shaped (.list ds) = true := by
  obtain ⟨h1, h2⟩ := sh_all h
  unfold SeqAt.shaped
  rw [PyData.canLay0, PyData.depth, h1, Bool.true_and]
  exact decide_eq_true (by omega)
theorem Sh.shaped {d : PyData} {n : Nat} (h : Sh d n) (hn : n ≤ 64) : SeqAt.shaped d = true := by
  unfold SeqAt.shaped
  rw [h.1, Bool.true_and]
  exact decide_eq_true (Nat.le_trans h.2 hn)
theorem NOk.ok {x : Str} (h : NOk x) : PyData.strOk x = true := by
  unfold PyData.strOk
  rw [Array.all_eq_true']
  intro c hc
  exact decide_eq_true (by have := h.2 c (Array.mem_toList_iff.mpr hc); omega)
theorem E.sh : ∀ {k : Nat} {e : E}, EOk k e → Sh e.d k
  | 0, _, h => h.elim
  | k + 1, .name x, h => Sh.str (NOk.ok h) _
  | k + 1, .int i, h => Sh.int i _
  | k + 1, .plus a b, h => Sh.tup fun d hd => by
    simp only [List.mem_cons, List.not_mem_nil, or_false] at hd
    rcases hd with e | e | e <;> subst e
    · exact Sh.str (by decide +kernel) _
    · exact E.sh h.1
    · exact E.sh h.2
  | k + 1, .minus a b, h => Sh.tup fun d hd => by
    simp only [List.mem_cons, List.not_mem_nil, or_false] at hd
    rcases hd with e | e | e <;> subst e
    · exact Sh.str (by decide +kernel) _
    · exact E.sh h.1
    · exact E.sh h.2
  | k + 1, .times f a, h => Sh.tup fun d hd => by
    simp only [List.mem_cons, List.not_mem_nil, or_false] at hd
    rcases hd with e | e | e <;> subst e
    · exact Sh.str (by decide +kernel) _
    · exact Sh.int _ _
    · exact E.sh h.2
theorem Te.sh : ∀ {k : Nat} {t : Te}, TOk k t → Sh t.d (k + 4)
  | k, .less a b, h => Sh.tup (n := k + 3) fun d hd => by
    have h : EOk 3 a ∧ EOk 3 b := by cases k <;> exact h
    simp only [List.mem_cons, List.not_mem_nil, or_false] at hd
    rcases hd with e | e | e <;> subst e
    · exact Sh.str (by decide +kernel) _
    · exact (E.sh h.1).le (by omega)
    · exact (E.sh h.2).le (by omega)
  | k, .rest e m r, h => Sh.tup (n := k + 3) fun d hd => by
    have h : EOk 3 e := by cases k <;> exact h.1
    simp only [List.mem_cons, List.not_mem_nil, or_false] at hd
    rcases hd with e | e | e | e <;> subst e
    · exact Sh.str (by decide +kernel) _
    · exact (E.sh h).le (by omega)
    · exact Sh.int _ _
    · exact Sh.int _ _
  | 0, .not t, h => h.elim
  | k + 1, .not t, h => Sh.tup (n := k + 4) fun d hd => by
    simp only [List.mem_cons, List.not_mem_nil, or_false] at hd
    rcases hd with e | e <;> subst e
    · exact Sh.str (by decide +kernel) _
    · exact Te.sh (k := k) h
theorem hand_ok (h : Bool) : PyData.strOk (hand h) = true := by cases h <;> decide +kernel
theorem S.sh (ke : Nat) : ∀ (n : Nat) (s : S), SOk ke n s → Sh s.d (2 * n + ke + 8)
  | 0, _, h => h.elim
  | n + 1, s, h => by
    have hb : ∀ b : List S, (b.length ≤ 20 ∧ ∀ s ∈ b, SOk ke n s) → Sh (.tuple (bds b)) (2 * n + ke + 9) := fun b hb => Sh.tup fun d hd => by
      rw [bds_map] at hd
      obtain ⟨s, hs, rfl⟩ := List.mem_map.mp hd
      exact S.sh ke n s (hb.2 s hs)
    cases s with
    | set x e =>
      rw [S.d]
      refine (Sh.tup (n := 3) fun d hd => ?_).le (by omega)
      simp only [List.mem_cons, List.not_mem_nil, or_false] at hd
      rcases hd with e | e | e <;> subst e
      · exact Sh.str (by decide +kernel) _
      · exact Sh.str (NOk.ok h.1) _
      · exact E.sh h.2
    | pay e =>
      rw [S.d]
      refine (Sh.tup (n := ke) fun d hd => ?_).le (by omega)
      simp only [List.mem_cons, List.not_mem_nil, or_false] at hd
      rcases hd with e | e <;> subst e
      · exact Sh.str (by decide +kernel) _
      · exact E.sh h
    | stop => exact ⟨by rw [S.d]; decide +kernel, by rw [S.d]; exact Nat.le_trans (show _ ≤ 1 by decide +kernel) (by omega)⟩
    | ite t y z =>
      rw [S.d]
      refine (Sh.tup (n := 2 * n + ke + 9) fun d hd => ?_).le (by omega)
      simp only [List.mem_cons, List.not_mem_nil, or_false] at hd
      rcases hd with e | e | e | e <;> subst e
      · exact Sh.str (by decide +kernel) _
      · exact (Te.sh h.1).le (by omega)
      · exact hb y h.2.1
      · exact hb z h.2.2
    | ch c a b =>
      rw [S.d]
      refine (Sh.tup (n := 2 * n + ke + 9) fun d hd => ?_).le (by omega)
      simp only [List.mem_cons, List.not_mem_nil, or_false] at hd
      rcases hd with e | e | e <;> subst e
      · exact Sh.str (hand_ok c) _
      · exact hb a h.1
      · exact hb b h.2
    | rep m b =>
      rw [S.d]
      refine (Sh.tup (n := 2 * n + ke + 9) fun d hd => ?_).le (by omega)
      simp only [List.mem_cons, List.not_mem_nil, or_false] at hd
      rcases hd with e | e | e <;> subst e
      · exact Sh.str (by decide +kernel) _
      · exact Sh.int _ _
      · exact hb b h.2
end K27
namespace K27
open PySem PySem.Spec L2
open PyProof.Rows hiding St
local macro_rules | `(tactic| walk_at "td") => `(tactic| first | assumption | exact Td.int _ | exact Td.str _ | exact Td.bl _ | exact Td.non)
local macro_rules | `(tactic| walk_at "bq") => `(tactic| first | exact rfl | assumption | decide)
local macro_rules | `(tactic| walk_at "kb") => `(tactic| first | exact kii | exact ksi | exact kti | exact kib | exact kss | exact kis | exact kts | exact ktt | exact kst | exact kit)
local macro_rules | `(tactic| walk_at "ev") => `(tactic| first
  | with_reducible exact ev_int
  | with_reducible exact ev_str
  | with_reducible exact ev_bl
  | with_reducible exact ev_non
  | ((with_reducible refine' ev_var ?e ?t); (case e => exact rfl); (case t => walk_at "td"))
  | ((with_reducible refine' ev_ix ?a ?n ?z); (case a => walk_at "ev"); (case z => decide); (case n => exact rfl))
  | ((with_reducible refine' ev_isi ?a ?k); (case a => walk_at "ev"); (case k => walk_at "kb"))
  | ((with_reducible refine' ev_len ?a ?k); (case a => walk_at "ev"); (case k => exact rfl))
  | ((with_reducible refine' ev_cmpI ?a ?b ?r); (case a => walk_at "ev"); (case b => walk_at "ev"); (case r => walk_at "bq"))
  | ((with_reducible refine' ev_I0 ?a ?b ?r); (case a => walk_at "ev"); (case b => walk_at "ev"); (case r => exact rfl))
  | ((with_reducible refine' ev_eqS ?a ?b ?r); (case a => walk_at "ev"); (case b => walk_at "ev"); (case r => walk_at "bq"))
  | ((with_reducible refine' ev_eqI ?a ?b ?r); (case a => walk_at "ev"); (case b => walk_at "ev"); (case r => walk_at "bq"))
  | ((with_reducible refine' ev_neI ?a ?b ?r); (case a => walk_at "ev"); (case b => walk_at "ev"); (case r => walk_at "bq"))
  | ((with_reducible refine' ev_notV ?a ?r); (case a => walk_at "ev"); (case r => walk_at "bq"))
  | ((with_reducible refine' ev_chain ?a ?b ?c ?r); (case a => walk_at "ev"); (case b => walk_at "ev"); (case c => walk_at "ev"); (case r => walk_at "bq"))
  | ((with_reducible refine' ev_tup ?a ?l); (case a => walk_at "ea"); (case l => (show _ ≤ _; decide))))
local macro_rules | `(tactic| walk_at "ea") => `(tactic| first
  | with_reducible exact ea_nil
  | ((with_reducible refine' ea_cons ?a ?b); (case a => walk_at "ev"); (case b => walk_at "ea")))
local macro_rules | `(tactic| walk_at "et") => `(tactic| first
  | ((with_reducible refine' et_notI ?a ?r); (case a => walk_at "et"); (case r => walk_at "bq"))
  | ((with_reducible refine' et_is ?a); (case a => walk_at "ev"))
  | ((with_reducible refine' et_isB ?a); (case a => walk_at "ev"))
  | ((with_reducible refine' et_and ?a ?b ?c); (case a => walk_at "et"); (case b => (intro _; walk_at "et")); (case c => (intro z; first | exact z | (cases z; done) | rfl)))
  | ((with_reducible refine' et_or ?a ?b ?c); (case a => walk_at "et"); (case b => (intro _; walk_at "et")); (case c => (intro z; first | exact z | (cases z; done) | rfl))))
local macro_rules | `(tactic| walk_at "ev2") => `(tactic| first
  | walk_at "ev"
  | ((with_reducible refine' ev_inT ?a ?p ?s ?d ?f ?x ?b); (case a => walk_at "ev"); (case p => exact evv_c); (case s => assumption); (case d => exact rfl); (case f => exact rfl); (case x => exact rfl); (case b => walk_at "bq"))
  | ((with_reducible refine' ev_inU2 ?a ?p ?l ?d ?x ?f ?y ?b); (case a => walk_at "ev"); (case p => walk_at "ea"); (case l => (show _ ≤ _; decide)); (case d => exact rfl); (case x => exact rfl); (case f => exact rfl); (case y => exact rfl); (case b => walk_at "bq"))
  | ((with_reducible refine' ev_slA ?a ?l ?h ?r); (case a => walk_at "ev"); (case l => walk_at "eo"); (case h => walk_at "eo"); (case r => exact rfl)))
local macro_rules | `(tactic| walk_at "et2") => `(tactic| first
  | walk_at "et"
  | ((with_reducible refine' et_is ?a); (case a => walk_at "ev2"))
  | ((with_reducible refine' et_isB ?a); (case a => walk_at "ev2")))
local macro_rules | `(tactic| walk_at "eo") => `(tactic| first
  | with_reducible exact eo_none
  | ((with_reducible refine' eo_some ?a); (case a => walk_at "ev")))
theorem TdA.i0 {H : Hp} {vs : List V} (h : TdA H vs []) : vs = [] := by cases h; rfl
theorem TdA.ic {H : Hp} {vs : List V} {d : PyData} {ds : List PyData} (h : TdA H vs (d :: ds)) : ∃ v ws, vs = v :: ws ∧ Td H v d ∧ TdA H ws ds := by cases h with | cons h t => exact ⟨_, _, rfl, h, t⟩
theorem TdA.i1 {H : Hp} {vs : List V} {d : PyData} (h : TdA H vs [d]) : ∃ v, vs = [v] ∧ Td H v d := by
  obtain ⟨v, ws, rfl, hv, t⟩ := h.ic
  rw [t.i0]
  exact ⟨v, rfl, hv⟩
theorem TdA.i2 {H : Hp} {vs : List V} {d e : PyData} (h : TdA H vs [d, e]) : ∃ v w, vs = [v, w] ∧ Td H v d ∧ Td H w e := by
  obtain ⟨v, ws, rfl, hv, t⟩ := h.ic
  obtain ⟨w, rfl, hw⟩ := t.i1
  exact ⟨v, w, rfl, hv, hw⟩
theorem TdA.i3 {H : Hp} {vs : List V} {d e f : PyData} (h : TdA H vs [d, e, f]) : ∃ v w u, vs = [v, w, u] ∧ Td H v d ∧ Td H w e ∧ Td H u f := by
  obtain ⟨v, ws, rfl, hv, t⟩ := h.ic
  obtain ⟨w, u, rfl, hw, hu⟩ := t.i2
  exact ⟨v, w, u, rfl, hv, hw, hu⟩
section
variable {P : Program} {w : World} {K : PySem.W.Frag} {mg : Str → Option Value} {base : Heap}
/-! ### is_whole -/
abbrev s_is_whole : Stmt := top 19
theorem sc_is_whole : FnScope ["value", "least", "most"] ["value", "least", "most"] (defScope s_is_whole) := ⟨rfl, rfl, rfl, by decide +kernel, rfl, by decide +kernel, by decide +kernel⟩
def A_is_whole (ds : List PyData) (P : PyData → Prop) : Prop := ∃ d l m, ds = [d, .int l, .int m] ∧ ((∃ i, d = .int i) ∨ (∃ x, d = .str x) ∨ ∃ es, d = .tuple es) ∧ P = SomeB
theorem df_is_whole (F : Fn K mg "is_whole" s_is_whole ["value", "least", "most"]) (T : Gb K w mg) : Df P w K mg base 1 "is_whole" ["value", "least", "most"] (spF A_is_whole) := by
  refine df_of F sc_is_whole (spF_len fun ds P h => ?_) (fun f cdv A outer s H vs Q E hr h => ?_)
  · obtain ⟨d, l, m, rfl, _⟩ := h
    rfl
  obtain ⟨ds, P', ⟨d, l, m, rfl, hd, rfl⟩, ts, q⟩ := h
  obtain ⟨v0, v1, v2, rfl, t0, t1, t2⟩ := ts.i3
  refine ⟨_, (pss_one (ps_ret (pe_and (pe_callB (id := "isinstance") (k_isi K) (by rfl) T.isinstance_ (by decide +kernel) (pa_cons (pv 0) (pa_cons (pe_ty "int" T.int_) pa_nil))) (pe_and (pe_not (pe_callB (id := "isinstance") (k_isi K) (by rfl) T.isinstance_ (by decide +kernel) (pa_cons (pv 0) (pa_cons (pe_ty "bool" T.bool_) pa_nil)))) (pe_one (pe_chain op_le op_le (pv 1) (pv 0) (pv 2))))))), ?_⟩
  refine s_ret Mv.rfl (P := SomeB) ?_ q
  rcases hd with ⟨i, rfl⟩ | ⟨x, rfl⟩ | ⟨es, rfl⟩
  · refine ev_andI (a := true) ?_ fun _ => ?_
    · walk_at "ev"
    refine ev_andI (a := true) ?_ fun _ => EvP.someB (b := decide (l ≤ i) && decide (i ≤ m)) ?_
    · walk_at "ev"
    · walk_at "ev"
  · refine ev_andI (a := false) ?_ fun z => by cases z
    walk_at "ev"
  · refine ev_andI (a := false) ?_ fun z => by cases z
    walk_at "ev"
end
section
variable {P : Program} {w : World} {K : PySem.W.Frag} {mg : Str → Option Value} {base : Heap}
/-- nothing can be asked -/
theorem df_void {x : Str} {st : Stmt} {ps : List Str} {k : Nat} {sp : Sp} (F : Fn K mg x st ps) (h : ∀ vs H Q E, ¬ sp vs H Q E) : Df P w K mg base k x ps sp := by
  obtain ⟨f, fd, F, hm, hb⟩ := F
  exact ⟨f, fd, ⟨fun vs H Q E q => absurd q (h vs H Q E), fun A outer s H args us vs Q E _ _ _ _ q => absurd q (h vs H Q E)⟩, hm, F.kp, hb⟩
/-! ### is_name -/
abbrev s_is_name : Stmt := top 20
theorem sc_is_name : FnScope ["value", "sign"] ["value"] (defScope s_is_name) := ⟨rfl, rfl, rfl, by decide +kernel, rfl, by decide +kernel, by decide +kernel⟩
def A_is_name (ds : List PyData) (P : PyData → Prop) : Prop := ∃ d, ds = [d] ∧ ((∃ i, d = .int i) ∨ ∃ x, d = .str x ∧ NOk x) ∧ P = SomeB
theorem shaped_signs : ∀ es : List PyData, (∀ e ∈ es, ∃ c, e = .str ⟨#[c]⟩ ∧ c < 128) → SeqAt.shaped (.list es) = true := fun es h => by
  have h1 : ∀ es : List PyData, (∀ e ∈ es, ∃ c, e = .str ⟨#[c]⟩ ∧ c < 128) → PyData.canLayAll0 es = true ∧ PyData.depthAll es = 0 := fun es => by
    induction es with
    | nil => intro _; exact ⟨by rw [PyData.canLayAll0], by rw [PyData.depthAll]⟩
    | cons e r ih =>
      intro h
      obtain ⟨c, rfl, hc⟩ := h e List.mem_cons_self
      obtain ⟨a, b⟩ := ih fun y hy => h y (List.mem_cons_of_mem _ hy)
      constructor
      · rw [PyData.canLayAll0, PyData.canLay0, a]
        unfold PyData.strOk
        simp
        omega
      · rw [PyData.depthAll, PyData.depth, b]; rfl
  obtain ⟨a, b⟩ := h1 es h
  unfold SeqAt.shaped
  rw [PyData.canLay0, PyData.depth, a, b]; rfl
theorem df_is_name (F : Fn K mg "is_name" s_is_name ["value"]) (T : Gb K w mg) : Df P w K mg base 1 "is_name" ["value"] (spF A_is_name) := by
  refine df_of F sc_is_name (spF_len fun ds P h => ?_) (fun f cdv A outer s H vs Q E hr h => ?_)
  · obtain ⟨d, rfl, _⟩ := h
    rfl
  obtain ⟨ds, P', ⟨d, rfl, hd, rfl⟩, ts, q⟩ := h
  obtain ⟨v0, rfl, t0⟩ := ts.i1
  refine ⟨_, (pss_cons (ps_if (PW.pt (pw_or (pt_not (pt_val (pe_callB (id := "isinstance") (k_isi K) (by rfl) T.isinstance_ (by decide +kernel) (pa_cons (pv 0) (pa_cons (pe_ty "str" T.str_) pa_nil))))) (pw_or (pt_not (pt_chain op_le op_le pe_int (pe_callB call_len_str (by rfl) T.len_ (by decide +kernel) (pa_cons (pv 0) pa_nil)) (pe_gi T.MAX_NAME))) (pw_or1 (pt_cmpR op_notIn_sign (pe_ix ix_str (pv 0) pe_int (fun _ _ => rfl)) (pe_gs T.LETTERS) (by rfl)))))) (pss_one (ps_ret pe_bl)) pss_nil) (pss_one (ps_ret (pe_and (pe_cmpR (k_eqD K rfl hr.units) (pe_lc (own := [("sign", 1)]) (by rfl) sc_is_name.nd (pi_str (pv 0)) (blkOk_by (own := [("sign", 1)]) (N := ["value", "sign"]) (sc := defScope s_is_name) (by decide +kernel)) (fun _ _ _ _ _ => pg_name (i := 1) sc_is_name.nd rfl (Or.inl rfl)) (fun _ _ _ _ _ => (pts_one (pt_cmpR op_notIn_sign (pv 1) (pe_gs T.SIGNS) (by rfl)))) (fun _ _ _ _ _ => (pv 1))) (pe_lst pa_nil) (nomark _)) (pe_one (pe_cmpR (k_notIn K) (pv 0) (pe_gr T.KEPT) (by rfl))))))), ?_⟩
  rcases hd with ⟨i, rfl⟩ | ⟨x, rfl, hx⟩
  · refine q_ifT Mv.rfl (et_or (a := true) (b := true) (by walk_at "et") (fun z => by cases z) fun _ => rfl) fun J g => s_ret g (EvP.someB (b := false) (by walk_at "ev")) q
  · have hL : x.length ≤ sizeLine := Nat.le_of_lt (small1000 (by have := hx.1; omega))
    refine q_if Mv.rfl (P := Any) ?_ (fun _ J g => s_ret g (EvP.someB (b := false) (by walk_at "ev")) q) fun _ J g => s_ret g ?_ q
    · refine et_orU (P := fun c => c = false) (by walk_at "et") fun _ => ?_
      refine et_orU (P := fun c => c = !(decide ((1 : Int) ≤ (x.length : Int)) && decide ((x.length : Int) ≤ 8))) ?_ fun z => ?_
      · refine et_notI (a := decide ((1 : Int) ≤ (x.length : Int)) && decide ((x.length : Int) ≤ 8)) (et_chainI (ev_chain ?_ ?_ ?_ rfl)) rfl
        · walk_at "ev"
        · exact ev_lenS (by walk_at "ev") hL
        · walk_at "ev"
      · have z1 : (decide ((1 : Int) ≤ (x.length : Int)) && decide ((x.length : Int) ≤ 8)) = true := by
          cases e : (decide ((1 : Int) ≤ (x.length : Int)) && decide ((x.length : Int) ≤ 8)) with
          | true => rfl
          | false => rw [e] at z; cases z
        have z2 : 0 < x.length := by
          have := of_decide_eq_true (Bool.and_eq_true_iff.mp z1).1
          omega
        obtain ⟨c, hc⟩ : ∃ c, x.cps.toList[0]? = some c := by
          have z3 : 0 < x.cps.toList.length := by rw [Array.length_toList]; exact z2
          exact ⟨_, List.getElem?_eq_getElem z3⟩
        refine SomeB.test ?_
        exact ev_signNot (ev_ixS (c := c) (by walk_at "ev") hL hc) (by walk_at "ev")
    · refine ev_andU ?_ ?_
      · refine ev_eqLL (P := fun es => ∀ e ∈ es, ∃ c, e = .str ⟨#[c]⟩ ∧ c < 128) (R := fun z => z = []) ?_ (el_lst (by walk_at "ea") (by show 0 ≤ 1000; decide)) (fun ds h => shaped_signs ds h) (fun ds e => by subst e; exact shaped_signs [] (fun _ h => by cases h))
        refine el_lcS (Iv := fun _ es => ∀ e ∈ es, ∃ c, e = .str ⟨#[c]⟩ ∧ c < 128) (B := fun _ => Any) (R := fun _ e => ∃ c, e = .str ⟨#[c]⟩ ∧ c < 128) (x := x) (by walk_at "ev") (by have := hx.1; show x.length ≤ _; omega) (fun _ h => by cases h) (fun n c J _ g => ?_) (fun n c J hc g _ => ?_)
          (fun n es e _ iv _ re y hy => ?_) (fun n es _ iv _ => iv) fun es iv => iv
        · exact SomeB.test (ev_signNot (ev_var rfl (.str _)) (by walk_at "ev"))
        · exact (ev_var rfl (.str _)).imp fun d e => ⟨_, e, hx.2 c (Array.mem_toList_iff.mpr (Array.mem_of_getElem? hc))⟩
        · rcases List.mem_append.mp hy with hy | hy
          · exact iv y hy
          · rw [List.mem_singleton.mp hy]; exact re
      · exact EvP.someB (ev_inT (neg := true) (v := .str x) (by walk_at "ev") evv_c T.kept rfl rfl rfl rfl)
/-! ### is_expression -/
abbrev s_is_expression : Stmt := top 21
theorem sc_is_expression : FnScope ["value", "left"] ["value", "left"] (defScope s_is_expression) := ⟨rfl, rfl, rfl, by decide +kernel, rfl, by decide +kernel, by decide +kernel⟩
def A_expr (k : Nat) (ds : List PyData) (P : PyData → Prop) : Prop := ∃ (e : E) (n : Int), ds = [e.d, .int n] ∧ EOk k e ∧ P = SomeB
theorem df_is_expression (F : Fn K mg "is_expression" s_is_expression ["value", "left"]) (T : Gb K w mg) (G_is_name : Df P w K mg base 1 "is_name" ["value"] (spF A_is_name)) (G_is_whole : Df P w K mg base 1 "is_whole" ["value", "least", "most"] (spF A_is_whole)) :
    ∀ k, Df P w K mg base (k + 2) "is_expression" ["value", "left"] (spF (A_expr k))
  | 0 => df_void F fun vs H Q E h => by
    obtain ⟨_, _, ⟨e, n, _, h, _⟩, _⟩ := h
    exact h.elim
  | k + 1 => by
    have G_is_expression := df_is_expression F T G_is_name G_is_whole k
    refine df_of F sc_is_expression (spF_len fun ds P h => ?_) (fun f cdv A outer s H vs Q E hr h => ?_)
    · obtain ⟨d, n, rfl, _⟩ := h
      rfl
    obtain ⟨ds, P', ⟨e, n, rfl, he, rfl⟩, ts, q⟩ := h
    obtain ⟨v0, v1, rfl, t0, t1⟩ := ts.i2
    refine ⟨_, (pss_cons (ps_if (pt_cmpR op_eq (pv 1) pe_int (nomark _)) (pss_one (ps_ret pe_bl)) pss_nil) (pss_cons (ps_if (pt_not (pt_val (pe_callB (id := "isinstance") (k_isi K) (by rfl) T.isinstance_ (by decide +kernel) (pa_cons (pv 0) (pa_cons (pe_ty "tuple" T.tuple_) pa_nil))))) (pss_one (ps_ret (pe_or (pe_df G_is_name (hr.mono (by first | decide | omega)) (pa_cons (pv 0) pa_nil)) (pe_one (pe_df G_is_whole (hr.mono (by first | decide | omega)) (pa_cons (pv 0) (pa_cons (pe_op op_sub pe_int (pe_gi T.MOST_NUMBER)) (pa_cons (pe_gi T.MOST_NUMBER) pa_nil)))))))) pss_nil) (pss_cons (ps_if (PW.pt (pw_or (pt_cmpR op_ne (pe_callB (id := "len") (k_len K) (by rfl) T.len_ (by decide +kernel) (pa_cons (pv 0) pa_nil)) pe_int (nomark _)) (pw_or (pt_not (pt_val (pe_callB (id := "isinstance") (k_isi K) (by rfl) T.isinstance_ (by decide +kernel) (pa_cons (pe_ix (k_ixT K) (pv 0) pe_int (fun _ _ => rfl)) (pa_cons (pe_ty "str" T.str_) pa_nil))))) (pw_or1 (pt_not (pt_val (pe_df G_is_expression (hr.mono (by first | decide | omega)) (pa_cons (pe_ix (k_ixT K) (pv 0) pe_int (fun _ _ => rfl)) (pa_cons (pe_op op_sub (pv 1) pe_int) pa_nil))))))))) (pss_one (ps_ret pe_bl)) pss_nil) (pss_cons (ps_if (pt_cmpR op_eq (pe_ix (k_ixT K) (pv 0) pe_int (fun _ _ => rfl)) pe_str (nomark _)) (pss_one (ps_ret (pe_df G_is_whole (hr.mono (by first | decide | omega)) (pa_cons (pe_ix (k_ixT K) (pv 0) pe_int (fun _ _ => rfl)) (pa_cons (pe_op op_sub pe_int (pe_gi T.MOST_FACTOR)) (pa_cons (pe_gi T.MOST_FACTOR) pa_nil)))))) pss_nil) (pss_one (ps_ret (pe_and (pe_cmpR (k_in K) (pe_ix (k_ixT K) (pv 0) pe_int (fun _ _ => rfl)) (pe_tup (pa_cons pe_str (pa_cons pe_str pa_nil))) (by rfl)) (pe_one (pe_df G_is_expression (hr.mono (by first | decide | omega)) (pa_cons (pe_ix (k_ixT K) (pv 0) pe_int (fun _ _ => rfl)) (pa_cons (pe_op op_sub (pv 1) pe_int) pa_nil))))))))))), ?_⟩
    have no : ∀ {J : Hp} {σ : St} {n : St → Hp → Prop}, Gr H J → tRet (tC (.bl false)) { nx := n, rt := Q } σ J := fun {J σ n} g => s_ret g (EvP.someB (b := false) ev_bl) q
    refine q_if Mv.rfl (P := Any) (EvB.any (P := fun c => c = decide (n = 0)) (by walk_at "et")) (fun _ J g => no g) fun _ J g => ?_
    cases e with
    | name x =>
      refine q_ifT g (by walk_at "et") fun J g => s_ret g (ev_orU (ev_call (A := A_is_name) (ds := [.str x]) (by walk_at "ea") ⟨_, rfl, .inr ⟨x, rfl, he⟩, rfl⟩) (ev_call (A := A_is_whole) (ds := [.str x, .int (0 - 99), .int 99]) (by walk_at "ea") ⟨_, _, _, rfl, .inr (.inl ⟨x, rfl⟩), rfl⟩)) q
    | int i =>
      refine q_ifT g (by walk_at "et") fun J g => s_ret g (ev_orU (ev_call (A := A_is_name) (ds := [.int i]) (by walk_at "ea") ⟨_, rfl, .inl ⟨i, rfl⟩, rfl⟩) (ev_call (A := A_is_whole) (ds := [.int i, .int (0 - 99), .int 99]) (by walk_at "ea") ⟨_, _, _, rfl, .inl ⟨i, rfl⟩, rfl⟩)) q
    | plus a b =>
      refine q_ifF g (by walk_at "et") fun J g => ?_
      refine q_if g (P := Any) (et_orU (P := fun c => c = false) (by walk_at "et") fun _ => et_orU (P := fun c => c = false) (by walk_at "et") fun _ => (et_not (SomeB.testB (ev_call (A := A_expr k) (ds := [b.d, .int (n - 1)]) (by walk_at "ea") ⟨b, _, rfl, he.2, rfl⟩))).any) (fun _ J g => no g) fun _ J g => ?_
      refine q_ifF g (by walk_at "et") fun J g => s_ret g (ev_andU (EvP.someB (ev_inU (v := .str "plus") (ds := [.str "plus", .str "minus"]) (xs := [.str "plus", .str "minus"]) (by walk_at "ev") (by walk_at "ea") (by show 2 ≤ 1000; decide) rfl rfl rfl rfl rfl)) (ev_call (A := A_expr k) (ds := [a.d, .int (n - 1)]) (by walk_at "ea") ⟨a, _, rfl, he.1, rfl⟩)) q
    | minus a b =>
      refine q_ifF g (by walk_at "et") fun J g => ?_
      refine q_if g (P := Any) (et_orU (P := fun c => c = false) (by walk_at "et") fun _ => et_orU (P := fun c => c = false) (by walk_at "et") fun _ => (et_not (SomeB.testB (ev_call (A := A_expr k) (ds := [b.d, .int (n - 1)]) (by walk_at "ea") ⟨b, _, rfl, he.2, rfl⟩))).any) (fun _ J g => no g) fun _ J g => ?_
      refine q_ifF g (by walk_at "et") fun J g => s_ret g (ev_andU (EvP.someB (ev_inU (v := .str "minus") (ds := [.str "plus", .str "minus"]) (xs := [.str "plus", .str "minus"]) (by walk_at "ev") (by walk_at "ea") (by show 2 ≤ 1000; decide) rfl rfl rfl rfl rfl)) (ev_call (A := A_expr k) (ds := [a.d, .int (n - 1)]) (by walk_at "ea") ⟨a, _, rfl, he.1, rfl⟩)) q
    | times f a =>
      refine q_ifF g (by walk_at "et") fun J g => ?_
      refine q_if g (P := Any) (et_orU (P := fun c => c = false) (by walk_at "et") fun _ => et_orU (P := fun c => c = false) (by walk_at "et") fun _ => (et_not (SomeB.testB (ev_call (A := A_expr k) (ds := [a.d, .int (n - 1)]) (by walk_at "ea") ⟨a, _, rfl, he.2, rfl⟩))).any) (fun _ J g => no g) fun _ J g => ?_
      exact q_ifT g (by walk_at "et") fun J g => s_ret g (ev_call (A := A_is_whole) (ds := [.int f, .int (0 - 9), .int 9]) (by walk_at "ea") ⟨_, _, _, rfl, .inl ⟨f, rfl⟩, rfl⟩) q
end
end K27
namespace K27
open PySem PySem.Spec L2
open PyProof.Rows hiding St
local macro_rules | `(tactic| walk_at "td") => `(tactic| first | assumption | exact Td.int _ | exact Td.str _ | exact Td.bl _ | exact Td.non)
local macro_rules | `(tactic| walk_at "bq") => `(tactic| first | exact rfl | assumption | decide)
local macro_rules | `(tactic| walk_at "kb") => `(tactic| first | exact kii | exact ksi | exact kti | exact kib | exact kss | exact kis | exact kts | exact ktt | exact kst | exact kit)
local macro_rules | `(tactic| walk_at "ev") => `(tactic| first
  | with_reducible exact ev_int
  | with_reducible exact ev_str
  | with_reducible exact ev_bl
  | with_reducible exact ev_non
  | ((with_reducible refine' ev_var ?e ?t); (case e => exact rfl); (case t => walk_at "td"))
  | ((with_reducible refine' ev_ix ?a ?n ?z); (case a => walk_at "ev"); (case z => decide); (case n => exact rfl))
  | ((with_reducible refine' ev_isi ?a ?k); (case a => walk_at "ev"); (case k => walk_at "kb"))
  | ((with_reducible refine' ev_len ?a ?k); (case a => walk_at "ev"); (case k => exact rfl))
  | ((with_reducible refine' ev_cmpI ?a ?b ?r); (case a => walk_at "ev"); (case b => walk_at "ev"); (case r => walk_at "bq"))
  | ((with_reducible refine' ev_I0 ?a ?b ?r); (case a => walk_at "ev"); (case b => walk_at "ev"); (case r => exact rfl))
  | ((with_reducible refine' ev_eqS ?a ?b ?r); (case a => walk_at "ev"); (case b => walk_at "ev"); (case r => walk_at "bq"))
  | ((with_reducible refine' ev_eqI ?a ?b ?r); (case a => walk_at "ev"); (case b => walk_at "ev"); (case r => walk_at "bq"))
  | ((with_reducible refine' ev_neI ?a ?b ?r); (case a => walk_at "ev"); (case b => walk_at "ev"); (case r => walk_at "bq"))
  | ((with_reducible refine' ev_notV ?a ?r); (case a => walk_at "ev"); (case r => walk_at "bq"))
  | ((with_reducible refine' ev_chain ?a ?b ?c ?r); (case a => walk_at "ev"); (case b => walk_at "ev"); (case c => walk_at "ev"); (case r => walk_at "bq"))
  | ((with_reducible refine' ev_tup ?a ?l); (case a => walk_at "ea"); (case l => (show _ ≤ _; decide))))
local macro_rules | `(tactic| walk_at "ea") => `(tactic| first
  | with_reducible exact ea_nil
  | ((with_reducible refine' ea_cons ?a ?b); (case a => walk_at "ev"); (case b => walk_at "ea")))
local macro_rules | `(tactic| walk_at "et") => `(tactic| first
  | ((with_reducible refine' et_notI ?a ?r); (case a => walk_at "et"); (case r => walk_at "bq"))
  | ((with_reducible refine' et_is ?a); (case a => walk_at "ev"))
  | ((with_reducible refine' et_isB ?a); (case a => walk_at "ev"))
  | ((with_reducible refine' et_and ?a ?b ?c); (case a => walk_at "et"); (case b => (intro _; walk_at "et")); (case c => (intro z; first | exact z | (cases z; done) | rfl)))
  | ((with_reducible refine' et_or ?a ?b ?c); (case a => walk_at "et"); (case b => (intro _; walk_at "et")); (case c => (intro z; first | exact z | (cases z; done) | rfl))))
local macro_rules | `(tactic| walk_at "ev2") => `(tactic| first
  | walk_at "ev"
  | ((with_reducible refine' ev_inT ?a ?p ?s ?d ?f ?x ?b); (case a => walk_at "ev"); (case p => exact evv_c); (case s => assumption); (case d => exact rfl); (case f => exact rfl); (case x => exact rfl); (case b => walk_at "bq"))
  | ((with_reducible refine' ev_inU2 ?a ?p ?l ?d ?x ?f ?y ?b); (case a => walk_at "ev"); (case p => walk_at "ea"); (case l => (show _ ≤ _; decide)); (case d => exact rfl); (case x => exact rfl); (case f => exact rfl); (case y => exact rfl); (case b => walk_at "bq"))
  | ((with_reducible refine' ev_slA ?a ?l ?h ?r); (case a => walk_at "ev"); (case l => walk_at "eo"); (case h => walk_at "eo"); (case r => exact rfl)))
local macro_rules | `(tactic| walk_at "et2") => `(tactic| first
  | walk_at "et"
  | ((with_reducible refine' et_is ?a); (case a => walk_at "ev2"))
  | ((with_reducible refine' et_isB ?a); (case a => walk_at "ev2")))
local macro_rules | `(tactic| walk_at "eo") => `(tactic| first
  | with_reducible exact eo_none
  | ((with_reducible refine' eo_some ?a); (case a => walk_at "ev")))
theorem EOk.le {k n : Nat} {e : E} (h : EOk k e) (l : k ≤ n) : EOk n e := by
  induction l with
  | refl => exact h
  | step _ ih => exact ih.up
section
variable {P : Program} {w : World} {K : PySem.W.Frag} {mg : Str → Option Value} {base : Heap}
/-! ### is_rest -/
abbrev s_is_rest : Stmt := top 22
theorem sc_is_rest : FnScope ["value"] ["value"] (defScope s_is_rest) := ⟨rfl, rfl, rfl, by decide +kernel, rfl, by decide +kernel, by decide +kernel⟩
def A_is_rest (ds : List PyData) (P : PyData → Prop) : Prop := ∃ (e : E) (m r : Int), ds = [(Te.rest e m r).d] ∧ EOk 3 e ∧ P = SomeB
theorem df_is_rest (F : Fn K mg "is_rest" s_is_rest ["value"]) (T : Gb K w mg) (G_is_expression : Df P w K mg base 8 "is_expression" ["value", "left"] (spF (A_expr 6))) (G_is_whole : Df P w K mg base 1 "is_whole" ["value", "least", "most"] (spF A_is_whole)) :
    Df P w K mg base 9 "is_rest" ["value"] (spF A_is_rest) := by
  refine df_of F sc_is_rest (spF_len fun ds P h => ?_) (fun f cdv A outer s H vs Q E hr h => ?_)
  · obtain ⟨e, m, r, rfl, _⟩ := h
    rfl
  obtain ⟨ds, P', ⟨e, m, r, rfl, he, rfl⟩, ts, q⟩ := h
  obtain ⟨v0, rfl, t0⟩ := ts.i1
  have t0 : Td H v0 (.tuple [.str "rest", e.d, .int m, .int r]) := t0
  refine ⟨_, (pss_cons (ps_if (PW.pt (pw_or (pt_cmpR op_ne (pe_callB (id := "len") (k_len K) (by rfl) T.len_ (by decide +kernel) (pa_cons (pv 0) pa_nil)) pe_int (nomark _)) (pw_or (pt_not (pt_val (pe_df G_is_expression (hr.mono (by first | decide | omega)) (pa_cons (pe_ix (k_ixT K) (pv 0) pe_int (fun _ _ => rfl)) (pa_cons (pe_gi T.MAX_DEEP) pa_nil))))) (pw_or1 (pt_not (pt_val (pe_df G_is_whole (hr.mono (by first | decide | omega)) (pa_cons (pe_ix (k_ixT K) (pv 0) pe_int (fun _ _ => rfl)) (pa_cons pe_int (pa_cons (pe_gi T.MAX_BY) pa_nil)))))))))) (pss_one (ps_ret pe_bl)) pss_nil) (pss_one (ps_ret (pe_df G_is_whole (hr.mono (by first | decide | omega)) (pa_cons (pe_ix (k_ixT K) (pv 0) pe_int (fun _ _ => rfl)) (pa_cons pe_int (pa_cons (pe_op op_sub (pe_ix (k_ixT K) (pv 0) pe_int (fun _ _ => rfl)) pe_int) pa_nil))))))), ?_⟩
  refine q_if Mv.rfl (P := Any) (et_orU (P := fun c => c = false) (by walk_at "et") fun _ => et_orU (P := Any) (et_not (SomeB.testB (ev_call (A := A_expr 6) (ds := [e.d, .int 3]) (by walk_at "ea") ⟨e, _, rfl, he.le (by decide), rfl⟩))).any fun _ =>
    (et_not (SomeB.testB (ev_call (A := A_is_whole) (ds := [.int m, .int 2, .int 6]) (by walk_at "ea") ⟨_, _, _, rfl, .inl ⟨m, rfl⟩, rfl⟩))).any) (fun _ J g => s_ret g (EvP.someB (b := false) ev_bl) q) fun _ J g => ?_
  exact s_ret g (ev_call (A := A_is_whole) (ds := [.int r, .int 0, .int (m - 1)]) (by walk_at "ea") ⟨_, _, _, rfl, .inl ⟨r, rfl⟩, rfl⟩) q
/-! ### is_test -/
abbrev s_is_test : Stmt := top 23
theorem sc_is_test : FnScope ["value", "nots"] ["value", "nots"] (defScope s_is_test) := ⟨rfl, rfl, rfl, by decide +kernel, rfl, by decide +kernel, by decide +kernel⟩
def T1Ok : Nat → Te → Prop
  | 0, _ => False
  | k + 1, t => TOk k t
def A_test (k : Nat) (ds : List PyData) (P : PyData → Prop) : Prop := ∃ (t : Te) (n : Int), ds = [t.d, .int n] ∧ T1Ok k t ∧ P = SomeB
theorem df_is_test (F : Fn K mg "is_test" s_is_test ["value", "nots"]) (T : Gb K w mg) (G_is_expression : Df P w K mg base 8 "is_expression" ["value", "left"] (spF (A_expr 6))) (G_is_rest : Df P w K mg base 9 "is_rest" ["value"] (spF A_is_rest)) :
    ∀ k, Df P w K mg base (k + 9) "is_test" ["value", "nots"] (spF (A_test k))
  | 0 => df_void F fun vs H Q E h => by
    obtain ⟨_, _, ⟨e, n, _, h, _⟩, _⟩ := h
    exact h.elim
  | k + 1 => by
    have G_is_test := df_is_test F T G_is_expression G_is_rest k
    refine df_of F sc_is_test (spF_len fun ds P h => ?_) (fun f cdv A outer s H vs Q E hr h => ?_)
    · obtain ⟨d, n, rfl, _⟩ := h
      rfl
    obtain ⟨ds, P', ⟨t, n, rfl, ht, rfl⟩, ts, q⟩ := h
    obtain ⟨v0, v1, rfl, t0, t1⟩ := ts.i2
    refine ⟨_, (pss_cons (ps_if (PW.pt (pw_or (pt_not (pt_val (pe_callB (id := "isinstance") (k_isi K) (by rfl) T.isinstance_ (by decide +kernel) (pa_cons (pv 0) (pa_cons (pe_ty "tuple" T.tuple_) pa_nil))))) (pw_or (pt_cmpR op_eq (pe_callB (id := "len") (k_len K) (by rfl) T.len_ (by decide +kernel) (pa_cons (pv 0) pa_nil)) pe_int (nomark _)) (pw_or1 (pt_not (pt_val (pe_callB (id := "isinstance") (k_isi K) (by rfl) T.isinstance_ (by decide +kernel) (pa_cons (pe_ix (k_ixT K) (pv 0) pe_int (fun _ _ => rfl)) (pa_cons (pe_ty "str" T.str_) pa_nil))))))))) (pss_one (ps_ret pe_bl)) pss_nil) (pss_cons (ps_if (pt_cmpR op_eq (pe_ix (k_ixT K) (pv 0) pe_int (fun _ _ => rfl)) pe_str (nomark _)) (pss_one (ps_ret (pe_and (pe_cmpR op_eq (pe_callB (id := "len") (k_len K) (by rfl) T.len_ (by decide +kernel) (pa_cons (pv 0) pa_nil)) pe_int (nomark _)) (pe_and (pe_df G_is_expression (hr.mono (by first | decide | omega)) (pa_cons (pe_ix (k_ixT K) (pv 0) pe_int (fun _ _ => rfl)) (pa_cons (pe_gi T.MAX_DEEP) pa_nil))) (pe_one (pe_df G_is_expression (hr.mono (by first | decide | omega)) (pa_cons (pe_ix (k_ixT K) (pv 0) pe_int (fun _ _ => rfl)) (pa_cons (pe_gi T.MAX_DEEP) pa_nil)))))))) pss_nil) (pss_cons (ps_if (pt_cmpR op_eq (pe_ix (k_ixT K) (pv 0) pe_int (fun _ _ => rfl)) pe_str (nomark _)) (pss_one (ps_ret (pe_df G_is_rest (hr.mono (by first | decide | omega)) (pa_cons (pv 0) pa_nil)))) pss_nil) (pss_one (ps_ret (pe_and (pe_cmpR op_eq (pe_ix (k_ixT K) (pv 0) pe_int (fun _ _ => rfl)) pe_str (nomark _)) (pe_and (pe_cmpR op_eq (pe_callB (id := "len") (k_len K) (by rfl) T.len_ (by decide +kernel) (pa_cons (pv 0) pa_nil)) pe_int (nomark _)) (pe_and (pe_cmpR op_gt (pv 1) pe_int (nomark _)) (pe_one (pe_df G_is_test (hr.mono (by first | decide | omega)) (pa_cons (pe_ix (k_ixT K) (pv 0) pe_int (fun _ _ => rfl)) (pa_cons (pe_op op_sub (pv 1) pe_int) pa_nil)))))))))))), ?_⟩
    have ht : TOk k t := ht
    cases t with
    | less a b =>
      have t0 : Td H v0 (.tuple [.str "less", a.d, b.d]) := t0
      have ht : EOk 3 a ∧ EOk 3 b := by cases k <;> exact ht
      refine q_ifF Mv.rfl (by walk_at "et") fun J g => ?_
      refine q_ifT g (by walk_at "et") fun J g => s_ret g (ev_andU (EvP.someB (b := true) (by walk_at "ev")) (ev_andU (ev_call (A := A_expr 6) (ds := [a.d, .int 3]) (by walk_at "ea") ⟨a, _, rfl, ht.1.le (by decide), rfl⟩) (ev_call (A := A_expr 6) (ds := [b.d, .int 3]) (by walk_at "ea") ⟨b, _, rfl, ht.2.le (by decide), rfl⟩))) q
    | rest e m r =>
      have t0 : Td H v0 (.tuple [.str "rest", e.d, .int m, .int r]) := t0
      have ht : EOk 3 e := by cases k <;> exact ht.1
      refine q_ifF Mv.rfl (by walk_at "et") fun J g => ?_
      refine q_ifF g (by walk_at "et") fun J g => ?_
      refine q_ifT g (by walk_at "et") fun J g => s_ret g (ev_call (A := A_is_rest) (ds := [(Te.rest e m r).d]) (by walk_at "ea") ⟨e, m, r, rfl, ht, rfl⟩) q
    | not t =>
      have t0 : Td H v0 (.tuple [.str "not", t.d]) := t0
      have ht : T1Ok k t := by cases k <;> exact ht
      refine q_ifF Mv.rfl (by walk_at "et") fun J g => ?_
      refine q_ifF g (by walk_at "et") fun J g => ?_
      refine q_ifF g (by walk_at "et") fun J g => s_ret g (ev_andU (EvP.someB (b := true) (by walk_at "ev")) (ev_andU (EvP.someB (b := true) (by walk_at "ev")) (ev_andU (EvP.someB (b := decide (n > 0)) (by walk_at "ev")) (ev_call (A := A_test k) (ds := [t.d, .int (n - 1)]) (by walk_at "ea") ⟨t, _, rfl, ht, rfl⟩)))) q
/-! ### are_blocks -/
abbrev s_are_blocks : Stmt := top 24
theorem sc_are_blocks : FnScope ["values", "value"] ["values"] (defScope s_are_blocks) := ⟨rfl, rfl, rfl, by decide +kernel, rfl, by decide +kernel, by decide +kernel⟩
def A_are_blocks (ds : List PyData) (P : PyData → Prop) : Prop := ∃ xs, ds = [.tuple xs] ∧ xs.length ≤ 3 ∧ (∀ x ∈ xs, ∃ ys, x = .tuple ys) ∧ P = SomeB
theorem df_are_blocks (F : Fn K mg "are_blocks" s_are_blocks ["values"]) (T : Gb K w mg) : Df P w K mg base 1 "are_blocks" ["values"] (spF A_are_blocks) := by
  refine df_of F sc_are_blocks (spF_len fun ds P h => ?_) (fun f cdv A outer s H vs Q E hr h => ?_)
  · obtain ⟨xs, rfl, _⟩ := h
    rfl
  obtain ⟨ds, P', ⟨xs, rfl, hl, hx, rfl⟩, ts, q⟩ := h
  obtain ⟨v0, rfl, t0⟩ := ts.i1
  refine ⟨_, (pss_one (ps_ret (pe_cmpR (k_eqD K rfl hr.units) (pe_lc (own := [("value", 1)]) (by rfl) sc_are_blocks.nd (pi_tup (pv 0)) (blkOk_by (own := [("value", 1)]) (N := ["values", "value"]) (sc := defScope s_are_blocks) (by decide +kernel)) (fun _ _ _ _ _ => pg_name (i := 1) sc_are_blocks.nd rfl (Or.inl rfl)) (fun _ _ _ _ _ => (pts_one (pt_not (pt_val (pe_callB (id := "isinstance") (k_isi K) (by rfl) T.isinstance_ (by decide +kernel) (pa_cons (pv 1) (pa_cons (pe_ty "tuple" T.tuple_) pa_nil))))))) (fun _ _ _ _ _ => (pv 1))) (pe_lst pa_nil) (nomark _)))), ?_⟩
  have sh : SeqAt.shaped (.list []) = true := shaped_signs [] (fun _ h => by cases h)
  refine s_ret Mv.rfl (ev_eqLL (P := fun es => es = []) (R := fun z => z = []) ?_ (el_lst (by walk_at "ea") (by show 0 ≤ 1000; decide)) (fun ds e => by subst e; exact sh) (fun ds e => by subst e; exact sh)) q
  refine el_lcT (Iv := fun _ es => es = []) (B := fun _ b => b = false) (R := fun _ _ => True) (ds := xs) (by walk_at "ev") (by omega) rfl (fun n d v J hd g td => ?_) (fun n d v J hd g td z => by cases z) (fun n es e _ iv z _ => by cases z) (fun n es _ iv _ => iv) fun es iv => iv
  obtain ⟨ys, rfl⟩ := hx d (List.mem_of_getElem? hd)
  refine et_notI (a := true) (et_isB (ev_isi (ev_var rfl td) ktt)) rfl
/-! ### is_statement -/
abbrev s_is_statement : Stmt := top 25
theorem sc_is_statement : FnScope ["value"] ["value"] (defScope s_is_statement) := ⟨rfl, rfl, rfl, by decide +kernel, rfl, by decide +kernel, by decide +kernel⟩
def A_is_statement (ds : List PyData) (P : PyData → Prop) : Prop := ∃ (st : S) (n ke : Nat), ds = [st.d] ∧ SOk ke n st ∧ ke ≤ 6 ∧ P = SomeB
theorem df_is_statement (F : Fn K mg "is_statement" s_is_statement ["value"]) (T : Gb K w mg) (G_is_expression : Df P w K mg base 8 "is_expression" ["value", "left"] (spF (A_expr 6))) (G_is_name : Df P w K mg base 1 "is_name" ["value"] (spF A_is_name))
    (G_is_whole : Df P w K mg base 1 "is_whole" ["value", "least", "most"] (spF A_is_whole)) (G_is_test : Df P w K mg base 12 "is_test" ["value", "nots"] (spF (A_test 3))) (G_are_blocks : Df P w K mg base 1 "are_blocks" ["values"] (spF A_are_blocks)) :
    Df P w K mg base 13 "is_statement" ["value"] (spF A_is_statement) := by
  refine df_of F sc_is_statement (spF_len fun ds P h => ?_) (fun f cdv A outer s H vs Q E hr h => ?_)
  · obtain ⟨st, n, ke, rfl, _⟩ := h
    rfl
  obtain ⟨ds, P', ⟨st, n, ke, rfl, hs, hk, rfl⟩, ts, q⟩ := h
  obtain ⟨v0, rfl, t0⟩ := ts.i1
  refine ⟨_, (pss_cons (ps_if (PW.pt (pw_or (pt_not (pt_val (pe_callB (id := "isinstance") (k_isi K) (by rfl) T.isinstance_ (by decide +kernel) (pa_cons (pv 0) (pa_cons (pe_ty "tuple" T.tuple_) pa_nil))))) (pw_or (pt_cmpR op_eq (pe_callB (id := "len") (k_len K) (by rfl) T.len_ (by decide +kernel) (pa_cons (pv 0) pa_nil)) pe_int (nomark _)) (pw_or1 (pt_not (pt_val (pe_callB (id := "isinstance") (k_isi K) (by rfl) T.isinstance_ (by decide +kernel) (pa_cons (pe_ix (k_ixT K) (pv 0) pe_int (fun _ _ => rfl)) (pa_cons (pe_ty "str" T.str_) pa_nil))))))))) (pss_one (ps_ret pe_bl)) pss_nil) (pss_cons (ps_if (pt_cmpR op_eq (pe_ix (k_ixT K) (pv 0) pe_int (fun _ _ => rfl)) pe_str (nomark _)) (pss_one (ps_ret (pe_and (pe_cmpR op_eq (pe_callB (id := "len") (k_len K) (by rfl) T.len_ (by decide +kernel) (pa_cons (pv 0) pa_nil)) pe_int (nomark _)) (pe_and (pe_df G_is_name (hr.mono (by first | decide | omega)) (pa_cons (pe_ix (k_ixT K) (pv 0) pe_int (fun _ _ => rfl)) pa_nil)) (pe_one (pe_df G_is_expression (hr.mono (by first | decide | omega)) (pa_cons (pe_ix (k_ixT K) (pv 0) pe_int (fun _ _ => rfl)) (pa_cons (pe_gi T.MAX_DEEP) pa_nil)))))))) pss_nil) (pss_cons (ps_if (pt_cmpR op_eq (pe_ix (k_ixT K) (pv 0) pe_int (fun _ _ => rfl)) pe_str (nomark _)) (pss_one (ps_ret (pe_and (pe_cmpR op_eq (pe_callB (id := "len") (k_len K) (by rfl) T.len_ (by decide +kernel) (pa_cons (pv 0) pa_nil)) pe_int (nomark _)) (pe_one (pe_df G_is_expression (hr.mono (by first | decide | omega)) (pa_cons (pe_ix (k_ixT K) (pv 0) pe_int (fun _ _ => rfl)) (pa_cons (pe_gi T.MAX_DEEP) pa_nil))))))) pss_nil) (pss_cons (ps_if (pt_cmpR op_eq (pe_ix (k_ixT K) (pv 0) pe_int (fun _ _ => rfl)) pe_str (nomark _)) (pss_one (ps_ret (pe_and (pe_cmpR op_eq (pe_callB (id := "len") (k_len K) (by rfl) T.len_ (by decide +kernel) (pa_cons (pv 0) pa_nil)) pe_int (nomark _)) (pe_and (pe_df G_is_test (hr.mono (by first | decide | omega)) (pa_cons (pe_ix (k_ixT K) (pv 0) pe_int (fun _ _ => rfl)) (pa_cons (pe_gi T.MAX_NOTS) pa_nil))) (pe_one (pe_df G_are_blocks (hr.mono (by first | decide | omega)) (pa_cons (pe_slice (k_slA K) (pv 0) (po_some pe_int) po_none) pa_nil))))))) pss_nil) (pss_cons (ps_if (pt_cmpR (k_in K) (pe_ix (k_ixT K) (pv 0) pe_int (fun _ _ => rfl)) (pe_gr T.CHOICES) (by rfl)) (pss_one (ps_ret (pe_and (pe_cmpR op_eq (pe_callB (id := "len") (k_len K) (by rfl) T.len_ (by decide +kernel) (pa_cons (pv 0) pa_nil)) pe_int (nomark _)) (pe_one (pe_df G_are_blocks (hr.mono (by first | decide | omega)) (pa_cons (pe_slice (k_slA K) (pv 0) (po_some pe_int) po_none) pa_nil)))))) pss_nil) (pss_cons (ps_if (pt_cmpR op_eq (pe_ix (k_ixT K) (pv 0) pe_int (fun _ _ => rfl)) pe_str (nomark _)) (pss_one (ps_ret (pe_and (pe_cmpR op_eq (pe_callB (id := "len") (k_len K) (by rfl) T.len_ (by decide +kernel) (pa_cons (pv 0) pa_nil)) pe_int (nomark _)) (pe_and (pe_df G_is_whole (hr.mono (by first | decide | omega)) (pa_cons (pe_ix (k_ixT K) (pv 0) pe_int (fun _ _ => rfl)) (pa_cons pe_int (pa_cons (pe_gi T.MAX_TIMES) pa_nil)))) (pe_one (pe_df G_are_blocks (hr.mono (by first | decide | omega)) (pa_cons (pe_slice (k_slA K) (pv 0) (po_some pe_int) po_none) pa_nil))))))) pss_nil) (pss_one (ps_ret (pe_cmpR (k_eqD K rfl hr.units) (pv 0) (pe_tup (pa_cons pe_str pa_nil)) (nomark _)))))))))), ?_⟩
  cases n with
  | zero => exact hs.elim
  | succ n =>
  cases st with
  | set x e =>
    have t0 : Td H v0 (.tuple [.str "set", .str x, e.d]) := by rw [S.d] at t0; exact t0
    refine q_ifF Mv.rfl (by walk_at "et") fun J g => ?_
    exact q_ifT g (by walk_at "et") fun J g => s_ret g (ev_andU (EvP.someB (b := true) (by walk_at "ev")) (ev_andU (ev_call (A := A_is_name) (ds := [.str x]) (by walk_at "ea") ⟨_, rfl, .inr ⟨x, rfl, hs.1⟩, rfl⟩) (ev_call (A := A_expr 6) (ds := [e.d, .int 3]) (by walk_at "ea") ⟨e, _, rfl, hs.2.le (by decide), rfl⟩))) q
  | pay e =>
    have t0 : Td H v0 (.tuple [.str "pay", e.d]) := by rw [S.d] at t0; exact t0
    refine q_ifF Mv.rfl (by walk_at "et") fun J g => ?_
    refine q_ifF g (by walk_at "et") fun J g => ?_
    exact q_ifT g (by walk_at "et") fun J g => s_ret g (ev_andU (EvP.someB (b := true) (by walk_at "ev")) (ev_call (A := A_expr 6) (ds := [e.d, .int 3]) (by walk_at "ea") ⟨e, _, rfl, EOk.le hs hk, rfl⟩)) q
  | stop =>
    have t0 : Td H v0 (.tuple [.str "stop"]) := by rw [S.d] at t0; exact t0
    refine q_ifF Mv.rfl (by walk_at "et") fun J g => ?_
    refine q_ifF g (by walk_at "et") fun J g => ?_
    refine q_ifF g (by walk_at "et") fun J g => ?_
    refine q_ifF g (by walk_at "et") fun J g => ?_
    refine q_ifF g (et_is (ev_inT (neg := false) (v := .str "stop") (by walk_at "ev") evv_c T.choices rfl rfl rfl rfl)) fun J g => ?_
    refine q_ifF g (by walk_at "et") fun J g => ?_
    refine s_ret g (EvP.someB (ev_eqD (e := .tuple [.str "stop"]) (by walk_at "ev") (by walk_at "ev") ?_ ?_ rfl)) q
    · decide +kernel
    · decide +kernel
  | ite t y z =>
    have t0 : Td H v0 (.tuple [.str "if", t.d, .tuple (bds y), .tuple (bds z)]) := by rw [S.d] at t0; exact t0
    refine q_ifF Mv.rfl (by walk_at "et") fun J g => ?_
    refine q_ifF g (by walk_at "et") fun J g => ?_
    refine q_ifF g (by walk_at "et") fun J g => ?_
    refine q_ifT g (by walk_at "et") fun J g => s_ret g (ev_andU (EvP.someB (b := true) (by walk_at "ev")) (ev_andU (ev_call (A := A_test 3) (ds := [t.d, .int 2]) (by walk_at "ea") ⟨t, _, rfl, hs.1, rfl⟩)
      (ev_call (A := A_are_blocks) (ds := [.tuple [.tuple (bds y), .tuple (bds z)]]) (ea_cons (by walk_at "ev2") ea_nil) ⟨_, rfl, (by show 2 ≤ 3; decide), fun x hx => ?_, rfl⟩))) q
    rcases List.mem_cons.mp hx with e | hx
    · exact ⟨_, e⟩
    · exact ⟨_, List.mem_singleton.mp hx⟩
  | ch c a b =>
    have t0 : Td H v0 (.tuple [.str (hand c), .tuple (bds a), .tuple (bds b)]) := by rw [S.d] at t0; exact t0
    have e1 : decide (hand c = "set") = false := by cases c <;> decide
    have e2 : decide (hand c = "pay") = false := by cases c <;> decide
    have e3 : decide (hand c = "if") = false := by cases c <;> decide
    refine q_ifF Mv.rfl (by walk_at "et") fun J g => ?_
    refine q_ifF g (by walk_at "et") fun J g => ?_
    refine q_ifF g (by walk_at "et") fun J g => ?_
    refine q_ifF g (by walk_at "et") fun J g => ?_
    refine q_ifT g (et_is (ev_inT (neg := false) (v := .str (hand c)) (by walk_at "ev") evv_c T.choices rfl rfl rfl (by cases c <;> rfl))) fun J g => s_ret g (ev_andU (EvP.someB (b := true) (by walk_at "ev"))
      (ev_call (A := A_are_blocks) (ds := [.tuple [.tuple (bds a), .tuple (bds b)]]) (ea_cons (by walk_at "ev2") ea_nil) ⟨_, rfl, (by show 2 ≤ 3; decide), fun x hx => ?_, rfl⟩)) q
    rcases List.mem_cons.mp hx with e | hx
    · exact ⟨_, e⟩
    · exact ⟨_, List.mem_singleton.mp hx⟩
  | rep m b =>
    have t0 : Td H v0 (.tuple [.str "repeat", .int m, .tuple (bds b)]) := by rw [S.d] at t0; exact t0
    refine q_ifF Mv.rfl (by walk_at "et") fun J g => ?_
    refine q_ifF g (by walk_at "et") fun J g => ?_
    refine q_ifF g (by walk_at "et") fun J g => ?_
    refine q_ifF g (by walk_at "et") fun J g => ?_
    refine q_ifF g (et_is (ev_inT (neg := false) (v := .str "repeat") (by walk_at "ev") evv_c T.choices rfl rfl rfl rfl)) fun J g => ?_
    refine q_ifT g (by walk_at "et") fun J g => s_ret g (ev_andU (EvP.someB (b := true) (by walk_at "ev")) (ev_andU (ev_call (A := A_is_whole) (ds := [.int m, .int 1, .int 8]) (by walk_at "ea") ⟨_, _, _, rfl, .inl ⟨m, rfl⟩, rfl⟩)
      (ev_call (A := A_are_blocks) (ds := [.tuple [.tuple (bds b)]]) (ea_cons (by walk_at "ev2") ea_nil) ⟨_, rfl, (by show 1 ≤ 3; decide), fun x hx => ?_, rfl⟩))) q
    exact ⟨_, List.mem_singleton.mp hx⟩
end
end K27
namespace K27
open PySem PySem.Spec L2
open PyProof.Rows hiding St
local macro_rules | `(tactic| walk_at "td") => `(tactic| first | assumption | exact Td.int _ | exact Td.str _ | exact Td.bl _ | exact Td.non)
local macro_rules | `(tactic| walk_at "bq") => `(tactic| first | exact rfl | assumption | decide)
local macro_rules | `(tactic| walk_at "kb") => `(tactic| first | exact kii | exact ksi | exact kti | exact kib | exact kss | exact kis | exact kts | exact ktt | exact kst | exact kit)
local macro_rules | `(tactic| walk_at "ev") => `(tactic| first
  | with_reducible exact ev_int
  | with_reducible exact ev_str
  | with_reducible exact ev_bl
  | with_reducible exact ev_non
  | ((with_reducible refine' ev_var ?e ?t); (case e => exact rfl); (case t => walk_at "td"))
  | ((with_reducible refine' ev_ix ?a ?n ?z); (case a => walk_at "ev"); (case z => decide); (case n => exact rfl))
  | ((with_reducible refine' ev_isi ?a ?k); (case a => walk_at "ev"); (case k => walk_at "kb"))
  | ((with_reducible refine' ev_len ?a ?k); (case a => walk_at "ev"); (case k => exact rfl))
  | ((with_reducible refine' ev_cmpI ?a ?b ?r); (case a => walk_at "ev"); (case b => walk_at "ev"); (case r => walk_at "bq"))
  | ((with_reducible refine' ev_I0 ?a ?b ?r); (case a => walk_at "ev"); (case b => walk_at "ev"); (case r => exact rfl))
  | ((with_reducible refine' ev_eqS ?a ?b ?r); (case a => walk_at "ev"); (case b => walk_at "ev"); (case r => walk_at "bq"))
  | ((with_reducible refine' ev_eqI ?a ?b ?r); (case a => walk_at "ev"); (case b => walk_at "ev"); (case r => walk_at "bq"))
  | ((with_reducible refine' ev_neI ?a ?b ?r); (case a => walk_at "ev"); (case b => walk_at "ev"); (case r => walk_at "bq"))
  | ((with_reducible refine' ev_notV ?a ?r); (case a => walk_at "ev"); (case r => walk_at "bq"))
  | ((with_reducible refine' ev_chain ?a ?b ?c ?r); (case a => walk_at "ev"); (case b => walk_at "ev"); (case c => walk_at "ev"); (case r => walk_at "bq"))
  | ((with_reducible refine' ev_tup ?a ?l); (case a => walk_at "ea"); (case l => (show _ ≤ _; decide))))
local macro_rules | `(tactic| walk_at "ea") => `(tactic| first
  | with_reducible exact ea_nil
  | ((with_reducible refine' ea_cons ?a ?b); (case a => walk_at "ev"); (case b => walk_at "ea")))
local macro_rules | `(tactic| walk_at "et") => `(tactic| first
  | ((with_reducible refine' et_notI ?a ?r); (case a => walk_at "et"); (case r => walk_at "bq"))
  | ((with_reducible refine' et_is ?a); (case a => walk_at "ev"))
  | ((with_reducible refine' et_isB ?a); (case a => walk_at "ev"))
  | ((with_reducible refine' et_and ?a ?b ?c); (case a => walk_at "et"); (case b => (intro _; walk_at "et")); (case c => (intro z; first | exact z | (cases z; done) | rfl)))
  | ((with_reducible refine' et_or ?a ?b ?c); (case a => walk_at "et"); (case b => (intro _; walk_at "et")); (case c => (intro z; first | exact z | (cases z; done) | rfl))))
local macro_rules | `(tactic| walk_at "ev2") => `(tactic| first
  | walk_at "ev"
  | ((with_reducible refine' ev_inT ?a ?p ?s ?d ?f ?x ?b); (case a => walk_at "ev"); (case p => exact evv_c); (case s => assumption); (case d => exact rfl); (case f => exact rfl); (case x => exact rfl); (case b => walk_at "bq"))
  | ((with_reducible refine' ev_inU2 ?a ?p ?l ?d ?x ?f ?y ?b); (case a => walk_at "ev"); (case p => walk_at "ea"); (case l => (show _ ≤ _; decide)); (case d => exact rfl); (case x => exact rfl); (case f => exact rfl); (case y => exact rfl); (case b => walk_at "bq"))
  | ((with_reducible refine' ev_slA ?a ?l ?h ?r); (case a => walk_at "ev"); (case l => walk_at "eo"); (case h => walk_at "eo"); (case r => exact rfl)))
local macro_rules | `(tactic| walk_at "et2") => `(tactic| first
  | walk_at "et"
  | ((with_reducible refine' et_is ?a); (case a => walk_at "ev2"))
  | ((with_reducible refine' et_isB ?a); (case a => walk_at "ev2")))
local macro_rules | `(tactic| walk_at "eo") => `(tactic| first
  | with_reducible exact eo_none
  | ((with_reducible refine' eo_some ?a); (case a => walk_at "ev")))
def S.blocks : S → List (List S)
  | .ite _ y n => [y, n]
  | .ch _ a b => [a, b]
  | .rep _ b => [b]
  | _ => []
def blk (b : List S) : PyData := .tuple (bds b)
mutual
def turnS : S → S
  | .set x e => .set x e
  | .pay e => .pay (.times (-1) e)
  | .stop => .stop
  | .ite t y n => .ite t (turnB y) (turnB n)
  | .ch h a b => .ch (!h) (turnB a) (turnB b)
  | .rep n b => .rep n (turnB b)
def turnB : List S → List S
  | [] => []
  | s :: r => turnS s :: turnB r
end
theorem turnB_map : ∀ b : List S, turnB b = b.map turnS
  | [] => by rw [turnB]; rfl
  | s :: r => by rw [turnB, turnB_map r, List.map_cons]
theorem turnB_len (b : List S) : (turnB b).length = b.length := by rw [turnB_map, List.length_map]
def S.withB : S → List PyData → PyData
  | .ite t _ _, [a, b] => .tuple [.str "if", t.d, a, b]
  | .ch h _ _, [a, b] => .tuple [.str (hand h), a, b]
  | .rep n _, [a] => .tuple [.str "repeat", .int n, a]
  | s, _ => s.d
section
variable {P : Program} {w : World} {K : PySem.W.Frag} {mg : Str → Option Value} {base : Heap}
/-! ### blocks_of -/
abbrev s_blocks_of : Stmt := top 26
theorem sc_blocks_of : FnScope ["statement"] ["statement"] (defScope s_blocks_of) := ⟨rfl, rfl, rfl, by decide +kernel, rfl, by decide +kernel, by decide +kernel⟩
def A_blocks_of (ds : List PyData) (P : List PyData → Prop) : Prop := ∃ st : S, ds = [st.d] ∧ P = fun es => es = st.blocks.map blk
theorem df_blocks_of (F : Fn K mg "blocks_of" s_blocks_of ["statement"]) (T : Gb K w mg) : Df P w K mg base 1 "blocks_of" ["statement"] (spFL A_blocks_of) := by
  refine df_of F sc_blocks_of (spFL_len fun ds P h => ?_) (fun f cdv A outer s H vs Q E hr h => ?_)
  · obtain ⟨d, rfl, _⟩ := h
    rfl
  obtain ⟨ds, P', ⟨st, rfl, rfl⟩, ts, q⟩ := h
  obtain ⟨v0, rfl, t0⟩ := ts.i1
  have hch := T.choices
  refine ⟨_, (pss_cons (ps_if (pt_cmpR (k_in K) (pe_ix (k_ixT K) (pv 0) pe_int (fun _ _ => rfl)) (pe_gr T.CHOICES) (by rfl)) (pss_one (ps_ret (pe_lst (pa_cons (pe_ix (k_ixT K) (pv 0) pe_int (fun _ _ => rfl)) (pa_cons (pe_ix (k_ixT K) (pv 0) pe_int (fun _ _ => rfl)) pa_nil))))) pss_nil) (pss_cons (ps_if (pt_cmpR op_eq (pe_ix (k_ixT K) (pv 0) pe_int (fun _ _ => rfl)) pe_str (nomark _)) (pss_one (ps_ret (pe_lst (pa_cons (pe_ix (k_ixT K) (pv 0) pe_int (fun _ _ => rfl)) (pa_cons (pe_ix (k_ixT K) (pv 0) pe_int (fun _ _ => rfl)) pa_nil))))) pss_nil) (pss_one (ps_ret (pe_ifExp (pt_cmpR op_eq (pe_ix (k_ixT K) (pv 0) pe_int (fun _ _ => rfl)) pe_str (nomark _)) (pe_lst (pa_cons (pe_ix (k_ixT K) (pv 0) pe_int (fun _ _ => rfl)) pa_nil)) (pe_lst pa_nil)))))), ?_⟩
  cases st with
  | set x e =>
    have t0 : Td H v0 (.tuple [.str "set", .str x, e.d]) := by rw [S.d] at t0; exact t0
    refine q_ifF Mv.rfl (by walk_at "et2") fun J g => ?_
    refine q_ifF g (by walk_at "et2") fun J g => ?_
    exact s_retL g (el_ifE (b := false) (by walk_at "et") (fun z => by cases z) fun _ => el_lst (ds := []) (by walk_at "ea") (by show 0 ≤ 1000; decide)) q
  | pay e =>
    have t0 : Td H v0 (.tuple [.str "pay", e.d]) := by rw [S.d] at t0; exact t0
    refine q_ifF Mv.rfl (by walk_at "et2") fun J g => ?_
    refine q_ifF g (by walk_at "et2") fun J g => ?_
    exact s_retL g (el_ifE (b := false) (by walk_at "et") (fun z => by cases z) fun _ => el_lst (ds := []) (by walk_at "ea") (by show 0 ≤ 1000; decide)) q
  | stop =>
    have t0 : Td H v0 (.tuple [.str "stop"]) := by rw [S.d] at t0; exact t0
    refine q_ifF Mv.rfl (by walk_at "et2") fun J g => ?_
    refine q_ifF g (by walk_at "et2") fun J g => ?_
    exact s_retL g (el_ifE (b := false) (by walk_at "et") (fun z => by cases z) fun _ => el_lst (ds := []) (by walk_at "ea") (by show 0 ≤ 1000; decide)) q
  | ite t y z =>
    have t0 : Td H v0 (.tuple [.str "if", t.d, .tuple (bds y), .tuple (bds z)]) := by rw [S.d] at t0; exact t0
    refine q_ifF Mv.rfl (by walk_at "et2") fun J g => ?_
    refine q_ifT g (by walk_at "et2") fun J g => ?_
    exact s_retL g (el_lst (ds := [.tuple (bds y), .tuple (bds z)]) (by walk_at "ea") (by show 2 ≤ 1000; decide)) q
  | ch c a b =>
    have t0 : Td H v0 (.tuple [.str (hand c), .tuple (bds a), .tuple (bds b)]) := by rw [S.d] at t0; exact t0
    refine q_ifT Mv.rfl (et_is (ev_inT (neg := false) (v := .str (hand c)) (by walk_at "ev") evv_c hch rfl rfl rfl (by cases c <;> rfl))) fun J g => ?_
    exact s_retL g (el_lst (ds := [.tuple (bds a), .tuple (bds b)]) (by walk_at "ea") (by show 2 ≤ 1000; decide)) q
  | rep m b =>
    have t0 : Td H v0 (.tuple [.str "repeat", .int m, .tuple (bds b)]) := by rw [S.d] at t0; exact t0
    refine q_ifF Mv.rfl (by walk_at "et2") fun J g => ?_
    refine q_ifF g (by walk_at "et2") fun J g => ?_
    exact s_retL g (el_ifE (b := true) (by walk_at "et") (fun _ => el_lst (ds := [.tuple (bds b)]) (by walk_at "ea") (by show 1 ≤ 1000; decide)) (fun z => by cases z)) q
/-! ### with_blocks -/
abbrev s_with_blocks : Stmt := top 27
theorem sc_with_blocks : FnScope ["statement", "blocks"] ["statement", "blocks"] (defScope s_with_blocks) := ⟨rfl, rfl, rfl, by decide +kernel, rfl, by decide +kernel, by decide +kernel⟩
def spWB : Sp := fun vs H Q _ => ∃ (st : S) (v : V) (p : Addr) (ws : List V) (es : List PyData), vs = [v, .ref p] ∧ Td H v st.d ∧ H p = some (.lst ws) ∧ TdA H ws es ∧ es.length = st.blocks.length ∧ ∀ u d J, d = st.withB es → Gr H J → Td J u d → Q u J
theorem df_with_blocks (F : Fn K mg "with_blocks" s_with_blocks ["statement", "blocks"]) (T : Gb K w mg) : Df P w K mg base 1 "with_blocks" ["statement", "blocks"] spWB := by
  refine df_of F sc_with_blocks (fun vs H Q E h => ?_) (fun f cdv A outer s H vs Q E hr h => ?_)
  · obtain ⟨st, v, p, ws, es, rfl, _⟩ := h
    rfl
  obtain ⟨st, v0, p, ws, es, rfl, t0, hp, tw, hl, q⟩ := h
  have hch := T.choices
  refine ⟨_, (pss_cons (ps_if (pt_cmpR (k_in K) (pe_ix (k_ixT K) (pv 0) pe_int (fun _ _ => rfl)) (pe_gr T.CHOICES) (by rfl)) (pss_one (ps_ret (pe_tup (pa_cons (pe_ix (k_ixT K) (pv 0) pe_int (fun _ _ => rfl)) (pa_cons (pe_ix (k_ixL K) (pv 1) pe_int (fun _ _ => rfl)) (pa_cons (pe_ix (k_ixL K) (pv 1) pe_int (fun _ _ => rfl)) pa_nil)))))) pss_nil) (pss_cons (ps_if (pt_cmpR (k_in K) (pe_ix (k_ixT K) (pv 0) pe_int (fun _ _ => rfl)) (pe_tup (pa_cons pe_str (pa_cons pe_str pa_nil))) (by rfl)) (pss_one (ps_ret (pe_op (k_catA K) (pe_slice (k_slA K) (pv 0) po_none (po_some pe_int)) (pe_callTy (T := "tuple") (k_tup K) (by rfl) T.tuple_ (by decide +kernel) (pa_cons (pv 1) pa_nil))))) pss_nil) (pss_one (ps_ret (pv 0))))), ?_⟩
  cases st with
  | set x e =>
    have t0' : Td H v0 (.tuple [.str "set", .str x, e.d]) := by rw [S.d] at t0; exact t0
    refine q_ifF Mv.rfl (by walk_at "et2") fun J g => ?_
    refine q_ifF g (by walk_at "et2") fun J g => ?_
    exact s_ret g (ev_var rfl t0) q
  | pay e =>
    have t0' : Td H v0 (.tuple [.str "pay", e.d]) := by rw [S.d] at t0; exact t0
    refine q_ifF Mv.rfl (by walk_at "et2") fun J g => ?_
    refine q_ifF g (by walk_at "et2") fun J g => ?_
    exact s_ret g (ev_var rfl t0) q
  | stop =>
    have t0' : Td H v0 (.tuple [.str "stop"]) := by rw [S.d] at t0; exact t0
    refine q_ifF Mv.rfl (by walk_at "et2") fun J g => ?_
    refine q_ifF g (by walk_at "et2") fun J g => ?_
    exact s_ret g (ev_var rfl t0) q
  | ite t y z =>
    have t0 : Td H v0 (.tuple [.str "if", t.d, .tuple (bds y), .tuple (bds z)]) := by rw [S.d] at t0; exact t0
    obtain ⟨d1, d2, rfl⟩ : ∃ d1 d2, es = [d1, d2] := by
      match es, hl with
      | [a, b], _ => exact ⟨a, b, rfl⟩
    refine q_ifF Mv.rfl (by walk_at "et2") fun J g => ?_
    refine q_ifT g (by walk_at "et2") fun J g => ?_
    exact s_ret g (ev_catA (ds := [.str "if", t.d]) (by walk_at "ev2") (ev_tupV (evv_var rfl) hp tw) (by show 4 ≤ 1000; decide)) q
  | ch c a b =>
    have t0 : Td H v0 (.tuple [.str (hand c), .tuple (bds a), .tuple (bds b)]) := by rw [S.d] at t0; exact t0
    obtain ⟨d1, d2, rfl⟩ : ∃ d1 d2, es = [d1, d2] := by
      match es, hl with
      | [a, b], _ => exact ⟨a, b, rfl⟩
    refine q_ifT Mv.rfl (et_is (ev_inT (neg := false) (v := .str (hand c)) (by walk_at "ev") evv_c hch rfl rfl rfl (by cases c <;> rfl))) fun J g => ?_
    exact s_ret g (ev_tup (ea_cons (by walk_at "ev") (ea_cons (ev_ixL (evv_var rfl) hp tw rfl) (ea_cons (ev_ixL (evv_var rfl) hp tw rfl) ea_nil))) (by show 3 ≤ 1000; decide)) q
  | rep m b =>
    have t0 : Td H v0 (.tuple [.str "repeat", .int m, .tuple (bds b)]) := by rw [S.d] at t0; exact t0
    obtain ⟨d1, rfl⟩ : ∃ d1, es = [d1] := by
      match es, hl with
      | [a], _ => exact ⟨a, rfl⟩
    refine q_ifF Mv.rfl (by walk_at "et2") fun J g => ?_
    refine q_ifT g (by walk_at "et2") fun J g => ?_
    exact s_ret g (ev_catA (ds := [.str "repeat", .int m]) (by walk_at "ev2") (ev_tupV (evv_var rfl) hp tw) (by show 3 ≤ 1000; decide)) q
/-! ### turned_statement, turned -/
abbrev s_turned_statement : Stmt := top 36
theorem sc_turned_statement : FnScope ["statement", "found", "block"] ["statement"] (defScope s_turned_statement) := ⟨rfl, rfl, rfl, by decide +kernel, rfl, by decide +kernel, by decide +kernel⟩
abbrev s_turned : Stmt := top 37
theorem sc_turned : FnScope ["program", "statement"] ["program"] (defScope s_turned) := ⟨rfl, rfl, rfl, by decide +kernel, rfl, by decide +kernel, by decide +kernel⟩
def A_turnedS (n : Nat) (ds : List PyData) (P : PyData → Prop) : Prop := ∃ (st : S) (ke : Nat), ds = [st.d] ∧ SOk ke n st ∧ P = fun z => z = (turnS st).d
def A_turned (n : Nat) (ds : List PyData) (P : PyData → Prop) : Prop := ∃ (b : List S) (ke : Nat), ds = [blk b] ∧ BOk ke n b ∧ P = fun z => z = blk (turnB b)
theorem ev_callWB {σ : St} {H : Hp} {ta tl : TE} {E : XK} {st : S} {es : List PyData} (ha : EvD ta σ H st.d) (hl : EvL tl σ H (fun z => z = es)) (h : es.length = st.blocks.length) : EvD (tCall spWB [] E (tCons ta (tCons tl tNil))) σ H (st.withB es) := fun H1 g Q q =>
  ha H1 g _ fun v z H2 ez g2 tz => hl H2 (g.trans g2) _ fun p ws ds H3 ed hp g3 hx tw => by
    subst ez ed
    exact ⟨st, v, p, ws, ds, rfl, tz.mono g3.tup, hx, tw, h, fun u d J e g4 t => q u d J e ((g2.trans g3).trans g4) t⟩
theorem turnS_withB : ∀ st : S, (∀ e, st ≠ .pay e) → ∃ (k : Str) (r : List PyData), st.withB (st.blocks.map fun b => blk (turnB b)) = .tuple (.str k :: r) ∧ (turnS st).d = .tuple (.str (opp k) :: r) ∧ k ∈ (["we", "they", "set", "stop", "if", "repeat"] : List Str) ∧ r.length ≤ 3
  | .set x e, _ => ⟨"set", [.str x, e.d], by rw [S.withB.eq_def]; simp only [S.d], by rw [turnS, S.d]; rfl, by simp, by show 2 ≤ 3; decide⟩
  | .pay e, h => absurd rfl (h e)
  | .stop, _ => ⟨"stop", [], by rw [S.withB.eq_def]; simp only [S.d], by rw [turnS, S.d]; rfl, by simp, by decide⟩
  | .ite t y n, _ => ⟨"if", [t.d, blk (turnB y), blk (turnB n)], rfl, by rw [turnS, S.d]; rfl, by simp, by show 3 ≤ 3; decide⟩
  | .ch c a b, _ => ⟨hand c, [blk (turnB a), blk (turnB b)], rfl, by rw [turnS, S.d]; cases c <;> rfl, by cases c <;> decide, by show 2 ≤ 3; decide⟩
  | .rep n b, _ => ⟨"repeat", [.int n, blk (turnB b)], rfl, by rw [turnS, S.d]; rfl, by simp, by show 2 ≤ 3; decide⟩
theorem SOk.blocks {ke n : Nat} {st : S} (h : SOk ke (n + 1) st) : ∀ b ∈ st.blocks, BOk ke n b := by
  intro b hb
  cases st with
  | set x e => cases hb
  | pay e => cases hb
  | stop => cases hb
  | ite t y z =>
    rcases List.mem_cons.mp hb with e | hb
    · subst e; exact h.2.1
    · rw [List.mem_singleton.mp hb]; exact h.2.2
  | ch c y z =>
    rcases List.mem_cons.mp hb with e | hb
    · subst e; exact h.1
    · rw [List.mem_singleton.mp hb]; exact h.2
  | rep m y => rw [List.mem_singleton.mp hb]; exact h.2
theorem S.kind : ∀ st : S, ∃ (k : Str) (r : List PyData), st.d = .tuple (.str k :: r) ∧ ((∀ e, st ≠ .pay e) → decide (k = "pay") = false)
  | .set x e => ⟨"set", _, by rw [S.d], fun _ => by decide⟩
  | .pay e => ⟨"pay", _, by rw [S.d], fun h => absurd rfl (h e)⟩
  | .stop => ⟨"stop", _, by rw [S.d], fun _ => by decide⟩
  | .ite t y n => ⟨"if", _, by rw [S.d], fun _ => by decide⟩
  | .ch c a b => ⟨hand c, _, by rw [S.d], fun _ => by cases c <;> decide⟩
  | .rep n b => ⟨"repeat", _, by rw [S.d], fun _ => by decide⟩
theorem ev_neg {σ : St} {H : Hp} {ta : TE} {i : Int} (ha : EvD ta σ H (.int i)) : EvD (tUn (rU fun i => .int (-i)) ta) σ H (.int (-i)) := fun H1 g Q q =>
  ha H1 g _ fun v z H2 ez g2 tz => by
    subst ez
    have e1 := tz.int_inv
    subst e1
    exact ⟨i, rfl, q _ _ H2 rfl g2 (.int _)⟩
theorem df_turned_statement {n : Nat} (F : Fn K mg "turned_statement" s_turned_statement ["statement"]) (T : Gb K w mg) (G_blocks_of : Df P w K mg base 1 "blocks_of" ["statement"] (spFL A_blocks_of)) (G_with_blocks : Df P w K mg base 1 "with_blocks" ["statement", "blocks"] spWB)
    (G_turned : Df P w K mg base (2 * n + 3) "turned" ["program"] (spF (A_turned n))) : Df P w K mg base (2 * n + 4) "turned_statement" ["statement"] (spF (A_turnedS (n + 1))) := by
  refine df_of F sc_turned_statement (spF_len fun ds P h => ?_) (fun f cdv A outer s H vs Q E hr h => ?_)
  · obtain ⟨d, k, rfl, _⟩ := h
    rfl
  obtain ⟨ds, P', ⟨st, ke, rfl, hs, rfl⟩, ts, q⟩ := h
  obtain ⟨v0, rfl, t0⟩ := ts.i1
  refine ⟨_, (pss_cons (ps_if (pt_cmpR op_eq (pe_ix (k_ixT K) (pv 0) pe_int (fun _ _ => rfl)) pe_str (nomark _)) (pss_one (ps_ret (pe_tup (pa_cons pe_str (pa_cons (pe_tup (pa_cons pe_str (pa_cons (pe_un un_neg pe_int) (pa_cons (pe_ix (k_ixT K) (pv 0) pe_int (fun _ _ => rfl)) pa_nil)))) pa_nil))))) pss_nil) (pss_cons (ps_set (i := 1) sc_turned_statement.nd rfl (Or.inl rfl) (pe_df G_with_blocks (hr.mono (by first | decide | omega)) (pa_cons (pv 0) (pa_cons (pe_lc (own := [("block", 2)]) (by rfl) sc_turned_statement.nd (pi_list (pe_df G_blocks_of (hr.mono (by first | decide | omega)) (pa_cons (pv 0) pa_nil))) (blkOk_by (own := [("block", 2)]) (N := ["statement", "found", "block"]) (sc := defScope s_turned_statement) (by decide +kernel)) (fun _ _ _ _ _ => pg_name (i := 2) sc_turned_statement.nd rfl (Or.inl rfl)) (fun _ _ _ _ _ => pts_nil) (fun _ _ _ _ _ => (pe_df G_turned (hr.mono (by first | decide | omega)) (pa_cons (pv 2) pa_nil)))) pa_nil)))) (pss_one (ps_ret (pe_op (k_catA K) (pe_tup (pa_cons (pe_kget T.oppD (pe_gr T.OPPOSITES) (pe_ix (k_ixT K) (pv 1) pe_int (fun _ _ => rfl)) (pe_ix (k_ixT K) (pv 1) pe_int (fun _ _ => rfl)) (by constructor <;> first | rfl | (intros; rfl))) pa_nil)) (pe_slice (k_slA K) (pv 1) (po_some pe_int) po_none)))))), ?_⟩
  by_cases hp : ∃ e, st = .pay e
  · obtain ⟨e, rfl⟩ := hp
    have t0 : Td H v0 (.tuple [.str "pay", e.d]) := by rw [S.d] at t0; exact t0
    refine q_ifT Mv.rfl (by walk_at "et2") fun J g => s_ret g (ev_tup (ds := [.str "pay", (K27.E.times (-1) e).d]) (ea_cons (by walk_at "ev") (ea_cons (ev_tup (ds := [.str "times", .int (-1), e.d]) (ea_cons (by walk_at "ev") (ea_cons (ev_neg (by walk_at "ev")) (ea_cons (by walk_at "ev") ea_nil))) (by show 3 ≤ 1000; decide)) ea_nil)) (by show 2 ≤ 1000; decide)) ?_
    intro v d J ed g t
    exact q v d J (by rw [ed, turnS, S.d]) g t
  · obtain ⟨k, r, e1, e2, hk, hr3⟩ := turnS_withB st fun e z => hp ⟨e, z⟩
    obtain ⟨k0, r0, e3, hk0⟩ := S.kind st
    have t0' : Td H v0 (.tuple (.str k0 :: r0)) := e3 ▸ t0
    have hk1 : decide (k0 = "pay") = false := hk0 fun e z => hp ⟨e, z⟩
    refine q_ifF Mv.rfl (et_is (ev_eqS (ev_ix (ev_var rfl t0') rfl) ev_str hk1)) fun J g => ?_
    refine q_set g (ev_callWB (st := st) (es := st.blocks.map fun b => blk (turnB b)) (ev_var rfl t0) ?_ (List.length_map _)) fun v d J ed g tv => ?_
    · refine el_lcL (Iv := fun n es => es = (st.blocks.take n).map fun b => blk (turnB b)) (B := fun _ b => b = true) (R := fun n e => ∃ b, st.blocks[n]? = some b ∧ e = blk (turnB b)) (PL := fun z => z = st.blocks.map blk) (el_call (A := A_blocks_of) (ds := [st.d]) (ea_cons (ev_var rfl t0) ea_nil) ⟨st, rfl, rfl⟩)
        (fun ds e => ?_) rfl (fun ds n d v J _ _ _ _ => et_yes rfl) (fun ds i d v J e hd g td _ => ?_) (fun ds i es e _ hn iv _ re => ?_) (fun ds n es _ _ _ hb => by cases hb) fun ds es e iv => ?_
      · subst e
        rw [List.length_map]
        cases st <;> (first | (show 0 ≤ 100000; decide) | (show 1 ≤ 100000; decide) | (show 2 ≤ 100000; decide))
      · subst e
        rw [List.getElem?_map] at hd
        cases hb : st.blocks[i]? with
        | none => rw [hb] at hd; cases hd
        | some b =>
          rw [hb] at hd
          have e4 : d = blk b := (Option.some.inj hd).symm
          subst e4
          exact (ev_call (A := A_turned n) (ds := [blk b]) (ea_cons (ev_var rfl td) ea_nil) ⟨b, ke, rfl, hs.blocks b (List.mem_of_getElem? hb), rfl⟩).imp fun d e => ⟨b, rfl, e⟩
      · obtain ⟨b, hb, rfl⟩ := re
        rw [iv, List.take_add_one, hb, List.map_append]
        rfl
      · subst e
        rw [List.length_map] at iv
        rw [iv, List.take_length]
    · subst ed
      rw [e1] at tv
      refine s_ret Mv.rfl (ev_catA (ds := [.str (opp k)]) (es := r) (ev_tup (ea_cons (ev_opp T (ev_ix (ev_var rfl tv) rfl) (ev_ix (ev_var rfl tv) rfl) hk) ea_nil) (by show 1 ≤ 1000; decide)) (ev_slA (ev_var rfl tv) (eo_some ev_int) eo_none ?_) (by show 1 + r.length ≤ 1000; omega)) ?_
      · unfold cut
        rw [show HT.sIx (PyData.str k :: r).length 0 (some 1) = 1 from rfl, show HT.sIx (PyData.str k :: r).length (PyData.str k :: r).length none = r.length + 1 from rfl]
        show r.take r.length = r
        exact List.take_length
      · intro v d J2 ed g2 t
        exact q v d J2 (by rw [ed, e2]; rfl) (g.trans g2) t
theorem df_turned {n : Nat} (F : Fn K mg "turned" s_turned ["program"]) (T : Gb K w mg) (G_turned_statement : Df P w K mg base (2 * n + 2) "turned_statement" ["statement"] (spF (A_turnedS n))) : Df P w K mg base (2 * n + 3) "turned" ["program"] (spF (A_turned n)) := by
  refine df_of F sc_turned (spF_len fun ds P h => ?_) (fun f cdv A outer s H vs Q E hr h => ?_)
  · obtain ⟨d, k, rfl, _⟩ := h
    rfl
  obtain ⟨ds, P', ⟨b, ke, rfl, hb, rfl⟩, ts, q⟩ := h
  obtain ⟨v0, rfl, t0⟩ := ts.i1
  have t0 : Td H v0 (.tuple (bds b)) := t0
  refine ⟨_, (pss_one (ps_ret (pe_callTy (T := "tuple") (k_tup K) (by rfl) T.tuple_ (by decide +kernel) (pa_cons (pe_lc (own := [("statement", 1)]) (by rfl) sc_turned.nd (pi_tup (pv 0)) (blkOk_by (own := [("statement", 1)]) (N := ["program", "statement"]) (sc := defScope s_turned) (by decide +kernel)) (fun _ _ _ _ _ => pg_name (i := 1) sc_turned.nd rfl (Or.inl rfl)) (fun _ _ _ _ _ => pts_nil) (fun _ _ _ _ _ => (pe_df G_turned_statement (hr.mono (by first | decide | omega)) (pa_cons (pv 1) pa_nil)))) pa_nil)))), ?_⟩
  refine s_ret Mv.rfl (ev_tupL (P := fun es => es = bds (turnB b)) ?_) ?_
  · refine el_lcT (Iv := fun n es => es = bds (turnB (b.take n))) (B := fun _ b => b = true) (R := fun n e => ∃ st, b[n]? = some st ∧ e = (turnS st).d) (ds := bds b) (by walk_at "ev") (by rw [bds_len]; have := hb.1; omega) (by rw [List.take_zero, turnB, bds])
      (fun n d v J _ _ _ => et_yes rfl) (fun i d v J hd g td _ => ?_) (fun i es e hn iv _ re => ?_) (fun i es _ _ hb => by cases hb) fun es iv => ?_
    · rw [bds_map, List.getElem?_map] at hd
      cases hs : b[i]? with
      | none => rw [hs] at hd; cases hd
      | some st =>
        rw [hs] at hd
        have e4 : d = st.d := (Option.some.inj hd).symm
        subst e4
        exact (ev_call (A := A_turnedS n) (ds := [st.d]) (ea_cons (ev_var rfl td) ea_nil) ⟨st, ke, rfl, hb.2 st (List.mem_of_getElem? hs), rfl⟩).imp fun d e => ⟨st, rfl, e⟩
    · obtain ⟨st, hst, rfl⟩ := re
      rw [iv, List.take_add_one, hst, turnB_map, turnB_map, bds_map, bds_map, List.map_append, List.map_append]
      rfl
    · rw [iv, bds_len, List.take_length]
  · rintro v d J ⟨es, rfl, rfl⟩ g t
    exact q v _ J rfl g t
theorem df_turned_all (FS : Fn K mg "turned_statement" s_turned_statement ["statement"]) (F : Fn K mg "turned" s_turned ["program"]) (T : Gb K w mg) (G1 : Df P w K mg base 1 "blocks_of" ["statement"] (spFL A_blocks_of)) (G2 : Df P w K mg base 1 "with_blocks" ["statement", "blocks"] spWB) :
    ∀ n, Df P w K mg base (2 * n + 3) "turned" ["program"] (spF (A_turned n))
  | 0 => df_turned (n := 0) F T (df_void FS fun vs H Q E h => by
    obtain ⟨_, _, ⟨st, ke, _, h, _⟩, _⟩ := h
    exact h.elim)
  | n + 1 => df_turned (n := n + 1) F T (df_turned_statement FS T G1 G2 (df_turned_all FS F T G1 G2 n))
end
end K27
namespace K27
open PySem PySem.Spec L2
open PyProof.Rows hiding St
local macro_rules | `(tactic| walk_at "td") => `(tactic| first | assumption | exact Td.int _ | exact Td.str _ | exact Td.bl _ | exact Td.non)
local macro_rules | `(tactic| walk_at "bq") => `(tactic| first | exact rfl | assumption | decide)
local macro_rules | `(tactic| walk_at "kb") => `(tactic| first | exact kii | exact ksi | exact kti | exact kib | exact kss | exact kis | exact kts | exact ktt | exact kst | exact kit)
local macro_rules | `(tactic| walk_at "ev") => `(tactic| first
  | with_reducible exact ev_int
  | with_reducible exact ev_str
  | with_reducible exact ev_bl
  | with_reducible exact ev_non
  | ((with_reducible refine' ev_var ?e ?t); (case e => exact rfl); (case t => walk_at "td"))
  | ((with_reducible refine' ev_ix ?a ?n ?z); (case a => walk_at "ev"); (case z => decide); (case n => exact rfl))
  | ((with_reducible refine' ev_isi ?a ?k); (case a => walk_at "ev"); (case k => walk_at "kb"))
  | ((with_reducible refine' ev_len ?a ?k); (case a => walk_at "ev"); (case k => exact rfl))
  | ((with_reducible refine' ev_cmpI ?a ?b ?r); (case a => walk_at "ev"); (case b => walk_at "ev"); (case r => walk_at "bq"))
  | ((with_reducible refine' ev_I0 ?a ?b ?r); (case a => walk_at "ev"); (case b => walk_at "ev"); (case r => exact rfl))
  | ((with_reducible refine' ev_eqS ?a ?b ?r); (case a => walk_at "ev"); (case b => walk_at "ev"); (case r => walk_at "bq"))
  | ((with_reducible refine' ev_eqI ?a ?b ?r); (case a => walk_at "ev"); (case b => walk_at "ev"); (case r => walk_at "bq"))
  | ((with_reducible refine' ev_neI ?a ?b ?r); (case a => walk_at "ev"); (case b => walk_at "ev"); (case r => walk_at "bq"))
  | ((with_reducible refine' ev_notV ?a ?r); (case a => walk_at "ev"); (case r => walk_at "bq"))
  | ((with_reducible refine' ev_chain ?a ?b ?c ?r); (case a => walk_at "ev"); (case b => walk_at "ev"); (case c => walk_at "ev"); (case r => walk_at "bq"))
  | ((with_reducible refine' ev_tup ?a ?l); (case a => walk_at "ea"); (case l => (show _ ≤ _; decide))))
local macro_rules | `(tactic| walk_at "ea") => `(tactic| first
  | with_reducible exact ea_nil
  | ((with_reducible refine' ea_cons ?a ?b); (case a => walk_at "ev"); (case b => walk_at "ea")))
local macro_rules | `(tactic| walk_at "et") => `(tactic| first
  | ((with_reducible refine' et_notI ?a ?r); (case a => walk_at "et"); (case r => walk_at "bq"))
  | ((with_reducible refine' et_is ?a); (case a => walk_at "ev"))
  | ((with_reducible refine' et_isB ?a); (case a => walk_at "ev"))
  | ((with_reducible refine' et_and ?a ?b ?c); (case a => walk_at "et"); (case b => (intro _; walk_at "et")); (case c => (intro z; first | exact z | (cases z; done) | rfl)))
  | ((with_reducible refine' et_or ?a ?b ?c); (case a => walk_at "et"); (case b => (intro _; walk_at "et")); (case c => (intro z; first | exact z | (cases z; done) | rfl))))
local macro_rules | `(tactic| walk_at "ev2") => `(tactic| first
  | walk_at "ev"
  | ((with_reducible refine' ev_inT ?a ?p ?s ?d ?f ?x ?b); (case a => walk_at "ev"); (case p => exact evv_c); (case s => assumption); (case d => exact rfl); (case f => exact rfl); (case x => exact rfl); (case b => walk_at "bq"))
  | ((with_reducible refine' ev_inU2 ?a ?p ?l ?d ?x ?f ?y ?b); (case a => walk_at "ev"); (case p => walk_at "ea"); (case l => (show _ ≤ _; decide)); (case d => exact rfl); (case x => exact rfl); (case f => exact rfl); (case y => exact rfl); (case b => walk_at "bq"))
  | ((with_reducible refine' ev_slA ?a ?l ?h ?r); (case a => walk_at "ev"); (case l => walk_at "eo"); (case h => walk_at "eo"); (case r => exact rfl)))
local macro_rules | `(tactic| walk_at "et2") => `(tactic| first
  | walk_at "et"
  | ((with_reducible refine' et_is ?a); (case a => walk_at "ev2"))
  | ((with_reducible refine' et_isB ?a); (case a => walk_at "ev2")))
local macro_rules | `(tactic| walk_at "eo") => `(tactic| first
  | with_reducible exact eo_none
  | ((with_reducible refine' eo_some ?a); (case a => walk_at "ev")))
mutual
def S.cnt : S → Nat
  | .ite _ y n => 1 + cntB y + cntB n
  | .ch _ a b => 1 + cntB a + cntB b
  | .rep _ b => 1 + cntB b
  | _ => 1
def cntB : List S → Nat
  | [] => 0
  | s :: r => s.cnt + cntB r
end
theorem cntB_sum : ∀ b : List S, cntB b = (b.map S.cnt).sum
  | [] => by rw [cntB]; rfl
  | s :: r => by rw [cntB, cntB_sum r, List.map_cons, List.sum_cons]
theorem cntB_append (a b : List S) : cntB (a ++ b) = cntB a + cntB b := by rw [cntB_sum, cntB_sum, cntB_sum, List.map_append, List.sum_append]
theorem cnt_blocks (st : S) : st.cnt = 1 + cntB st.blocks.flatten := by
  cases st with
  | set x e => rw [S.cnt.eq_def]; rfl
  | pay e => rw [S.cnt.eq_def]; rfl
  | stop => rw [S.cnt.eq_def]; rfl
  | ite t y n => rw [S.cnt, show (S.ite t y n).blocks.flatten = y ++ (n ++ []) from rfl, cntB_append, List.append_nil]; omega
  | ch c y n => rw [S.cnt, show (S.ch c y n).blocks.flatten = y ++ (n ++ []) from rfl, cntB_append, List.append_nil]; omega
  | rep m y => rw [S.cnt, show (S.rep m y).blocks.flatten = y ++ [] from rfl, List.append_nil]
def cmax : Nat → Nat
  | 0 => 0
  | n + 1 => 1 + 40 * cmax n
theorem cntB_le {n : Nat} (ih : ∀ s : S, ∀ ke, SOk ke n s → s.cnt ≤ cmax n) {ke : Nat} : ∀ {b : List S}, (∀ s ∈ b, SOk ke n s) → cntB b ≤ b.length * cmax n
  | [], _ => by rw [cntB]; omega
  | s :: r, h => by
    have h1 := ih s ke (h s List.mem_cons_self)
    have h2 := cntB_le ih (b := r) fun x hx => h x (List.mem_cons_of_mem _ hx)
    rw [cntB, List.length_cons, Nat.add_mul, Nat.one_mul]
    omega
theorem cnt_le : ∀ (n : Nat) (s : S) (ke : Nat), SOk ke n s → s.cnt ≤ cmax n
  | 0, _, _, h => h.elim
  | n + 1, s, ke, h => by
    have hb : ∀ b : List S, (b.length ≤ 20 ∧ ∀ s ∈ b, SOk ke n s) → cntB b ≤ 20 * cmax n := fun b hb => Nat.le_trans (cntB_le (cnt_le n) hb.2) (Nat.mul_le_mul_right _ hb.1)
    show s.cnt ≤ 1 + 40 * cmax n
    cases s with
    | set x e => rw [S.cnt.eq_def]; show 1 ≤ _; omega
    | pay e => rw [S.cnt.eq_def]; show 1 ≤ _; omega
    | stop => rw [S.cnt.eq_def]; show 1 ≤ _; omega
    | ite t y z =>
      have h1 := hb y h.2.1
      have h2 := hb z h.2.2
      rw [S.cnt]; omega
    | ch c y z =>
      have h1 := hb y h.1
      have h2 := hb z h.2
      rw [S.cnt]; omega
    | rep m y =>
      have h1 := hb y h.2
      rw [S.cnt]; omega
theorem SOk.len {ke n : Nat} {st : S} (h : SOk ke (n + 1) st) : st.blocks.flatten.length ≤ 40 := by
  cases st with
  | set x e => show 0 ≤ 40; decide
  | pay e => show 0 ≤ 40; decide
  | stop => show 0 ≤ 40; decide
  | ite t y z =>
    have h1 := h.2.1.1
    have h2 := h.2.2.1
    rw [show (S.ite t y z).blocks.flatten = y ++ (z ++ []) from rfl, List.length_append, List.append_nil]; omega
  | ch c y z =>
    have h1 := h.1.1
    have h2 := h.2.1
    rw [show (S.ch c y z).blocks.flatten = y ++ (z ++ []) from rfl, List.length_append, List.append_nil]; omega
  | rep m y =>
    have h1 := h.2.1
    rw [show (S.rep m y).blocks.flatten = y ++ [] from rfl, List.append_nil]; omega
/-- pairs of a depth and a statement -/
def pairD (k : Int) (s : S) : PyData := .tuple [.int k, s.d]
def wd (L : List (Int × S)) : List PyData := L.map fun x => pairD x.1 x.2
def items (st : S) (k : Int) : List (Int × S) := (st.blocks.flatten.map fun s => (k + 1, s)).reverse
theorem wd_sh {L : List (Int × S)} (h : ∀ x ∈ L, ∃ ke n, SOk ke n x.2 ∧ ke ≤ 6 ∧ n ≤ 5) : SeqAt.shaped (.list (wd L)) = true := shaped_list (n := 25) (fun d hd => by
  obtain ⟨x, hx, rfl⟩ := List.mem_map.mp hd
  obtain ⟨ke, n, hs, h1, h2⟩ := h x hx
  refine Sh.tup (n := 24) fun d hd => ?_
  simp only [List.mem_cons, List.not_mem_nil, or_false] at hd
  rcases hd with e | e <;> subst e
  · exact Sh.int _ _
  · exact (S.sh ke n x.2 hs).le (by omega)) (by decide)
section
variable {P : Program} {w : World} {K : PySem.W.Frag} {mg : Str → Option Value} {base : Heap}
/-! ### items_within -/
abbrev s_items_within : Stmt := top 28
theorem sc_items_within : FnScope ["statement", "depth", "found", "block", "item"] ["statement", "depth"] (defScope s_items_within) := ⟨rfl, rfl, rfl, by decide +kernel, rfl, by decide +kernel, by decide +kernel⟩
def A_items (ds : List PyData) (P : List PyData → Prop) : Prop := ∃ (st : S) (k : Int) (ke n : Nat), ds = [st.d, .int k] ∧ SOk ke (n + 1) st ∧ P = fun es => es = wd (items st k)
theorem df_items_within (F : Fn K mg "items_within" s_items_within ["statement", "depth"]) (T : Gb K w mg) (G_blocks_of : Df P w K mg base 1 "blocks_of" ["statement"] (spFL A_blocks_of)) : Df P w K mg base 2 "items_within" ["statement", "depth"] (spFL A_items) := by
  refine df_of F sc_items_within (spFL_len fun ds P h => ?_) (fun f cdv A outer s H vs Q E hr h => ?_)
  · obtain ⟨d, k, ke, n, rfl, _⟩ := h
    rfl
  obtain ⟨ds, P', ⟨st, k, ke, n, rfl, hs, rfl⟩, ts, q⟩ := h
  obtain ⟨v0, v1, rfl, t0, t1⟩ := ts.i2
  have e1 := t1.int_inv
  subst e1
  refine ⟨_, (pss_cons (ps_set (i := 2) sc_items_within.nd rfl (Or.inl rfl) (pe_lst pa_nil)) (pss_cons (ps_for PassesOwn.never rfl (pi_list (pe_df G_blocks_of (hr.mono (by first | decide | omega)) (pa_cons (pv 0) pa_nil))) (pg_name (i := 3) sc_items_within.nd rfl (Or.inl rfl)) (pss_one (ps_expr (pe_bm PySem.F.plainAttrs_list PySem.F.slot_list_extend PySem.F.type_list_extend mt_extend (pv 2) (pa_cons (pe_lc (own := [("item", 4)]) (by rfl) sc_items_within.nd (pi_tup (pv 3)) (blkOk_by (own := [("item", 4)]) (N := ["statement", "depth", "found", "block", "item"]) (sc := defScope s_items_within) (by decide +kernel)) (fun _ _ _ _ _ => pg_name (i := 4) sc_items_within.nd rfl (Or.inl rfl)) (fun _ _ _ _ _ => pts_nil) (fun _ _ _ _ _ => (pe_tup (pa_cons (pe_op op_add (pv 1) pe_int) (pa_cons (pv 4) pa_nil))))) pa_nil))))) (pss_one (ps_ret (pe_revL (pv 2)))))), ?_⟩
  refine q_setL Mv.rfl (el_lst (ds := []) ea_nil (by show 0 ≤ 1000; decide)) fun p vs0 ds0 J0 e0 hp0 g0 hx0 t00 => ?_
  subst e0
  have e1 := t00
  cases e1
  refine s_forL (ds := st.blocks.map blk) Mv.rfl (el_call (A := A_blocks_of) (ds := [st.d]) (ea_cons (ev_var rfl (t0.mono g0.tup)) ea_nil) ⟨st, rfl, rfl⟩) fun a xs H2 ha g2 hxs txs => ?_
  have npa : p ≠ a := ne_of_none hx0 ha
  refine ⟨fun i σ J => ∃ (ob : Option V) (vs : List V), σ = [some v0, some (.int k), some (.ref p), ob, none] ∧ Gr H J ∧ Tx H2 J ∧ J a = some (.lst xs) ∧ J p = some (.lst vs) ∧ TdA J vs ((st.blocks.take i).flatten.map fun s => pairD (k + 1) s),
    ⟨none, [], rfl, g0.trans g2, Tx.rfl, hxs, g2.get hx0, .nil⟩, fun i σ J ⟨_, _, _, _, h1, h2, _⟩ => ⟨h1, h2⟩, ?_, ?_⟩
  · rintro i d v σ J hd td ⟨ob, vs, rfl, gJ, tJ, haJ, hpJ, tvs⟩
    rw [List.getElem?_map] at hd
    cases hb : st.blocks[i]? with
    | none => rw [hb] at hd; cases hd
    | some b =>
      rw [hb] at hd
      have e4 : d = .tuple (bds b) := (Option.some.inj hd).symm
      subst e4
      have hbl := hs.blocks b (List.mem_of_getElem? hb)
      refine s_extend (i := 2) (p := p) rfl hpJ (P := fun es => es = b.map fun s => pairD (k + 1) s) ?_ fun ws es J2 ee g3 hp2 tw => ?_
      · refine el_lcT (Iv := fun n es => es = (b.take n).map fun s => pairD (k + 1) s) (B := fun _ b => b = true) (R := fun n e => ∃ s, b[n]? = some s ∧ e = pairD (k + 1) s) (ds := bds b) (ev_var rfl td) (by rw [bds_len]; have := hbl.1; omega) rfl
          (fun n d v J _ _ _ => et_yes rfl) (fun j d v J hd g td _ => ?_) (fun j es e hn iv _ re => ?_) (fun j es _ _ hb => by cases hb) fun es iv => ?_
        · rw [bds_map, List.getElem?_map] at hd
          cases hs : b[j]? with
          | none => rw [hs] at hd; cases hd
          | some st =>
            rw [hs] at hd
            have e4 : d = st.d := (Option.some.inj hd).symm
            subst e4
            exact (ev_tup (ds := [.int (k + 1), st.d]) (ea_cons (ev_I0 (ev_var rfl (.int k)) ev_int rfl) (ea_cons (ev_var rfl td) ea_nil)) (by show 2 ≤ 1000; decide)).imp fun d e => ⟨st, rfl, e⟩
        · obtain ⟨st, hst, rfl⟩ := re
          rw [iv, List.take_add_one, hst, List.map_append]
          rfl
        · rw [iv, bds_len, List.take_length]
      · subst ee
        have hl1 : (st.blocks.take i).flatten.length ≤ 40 := by
          have h1 := hs.len
          have h2 : (st.blocks.take i).flatten.length + (st.blocks.drop i).flatten.length = st.blocks.flatten.length := by
            rw [← List.length_append, ← List.flatten_append, List.take_append_drop]
          omega
        have hl2 := hbl.1
        have lv := tvs.length
        have lw := tw.length
        rw [List.length_map] at lv lw
        refine ⟨Nat.le_of_lt (small1000 (by omega)), _, _, rfl, (gJ.trans g3).own hp0 hp2 lst_tup, ?_, ?_, upd_same, ?_⟩
        · exact (tJ.trans g3.tup).trans (Tx.put hp2 lst_tup)
        · rw [upd_ne npa.symm]; exact g3.get haJ
        · have m := Tx.put (u := .lst (vs ++ ws)) hp2 lst_tup
          rw [List.take_add_one, hb, Option.toList_some, List.flatten_append, List.flatten_singleton, List.map_append]
          exact ((tvs.mono g3.tup).mono m).append (tw.mono m)
  · rintro σ J ⟨ob, vs, rfl, gJ, tJ, haJ, hpJ, tvs⟩
    rw [List.length_map, List.take_length] at tvs
    refine s_retL Mv.rfl (el_revV (i := 2) rfl hpJ tvs) fun l ws es J2 ee hl g3 hx tw => ?_
    refine q l ws es J2 ?_ (gJ.low l hl) (gJ.trans g3) hx tw
    rw [ee]
    unfold wd items
    rw [List.map_reverse, List.map_map]
    rfl
end
end K27
namespace K27
open PySem PySem.Spec L2
open PyProof.Rows hiding St
local macro_rules | `(tactic| walk_at "td") => `(tactic| first | assumption | exact Td.int _ | exact Td.str _ | exact Td.bl _ | exact Td.non)
local macro_rules | `(tactic| walk_at "bq") => `(tactic| first | exact rfl | assumption | decide)
local macro_rules | `(tactic| walk_at "kb") => `(tactic| first | exact kii | exact ksi | exact kti | exact kib | exact kss | exact kis | exact kts | exact ktt | exact kst | exact kit)
local macro_rules | `(tactic| walk_at "ev") => `(tactic| first
  | with_reducible exact ev_int
  | with_reducible exact ev_str
  | with_reducible exact ev_bl
  | with_reducible exact ev_non
  | ((with_reducible refine' ev_var ?e ?t); (case e => exact rfl); (case t => walk_at "td"))
  | ((with_reducible refine' ev_ix ?a ?n ?z); (case a => walk_at "ev"); (case z => decide); (case n => exact rfl))
  | ((with_reducible refine' ev_isi ?a ?k); (case a => walk_at "ev"); (case k => walk_at "kb"))
  | ((with_reducible refine' ev_len ?a ?k); (case a => walk_at "ev"); (case k => exact rfl))
  | ((with_reducible refine' ev_cmpI ?a ?b ?r); (case a => walk_at "ev"); (case b => walk_at "ev"); (case r => walk_at "bq"))
  | ((with_reducible refine' ev_I0 ?a ?b ?r); (case a => walk_at "ev"); (case b => walk_at "ev"); (case r => exact rfl))
  | ((with_reducible refine' ev_eqS ?a ?b ?r); (case a => walk_at "ev"); (case b => walk_at "ev"); (case r => walk_at "bq"))
  | ((with_reducible refine' ev_eqI ?a ?b ?r); (case a => walk_at "ev"); (case b => walk_at "ev"); (case r => walk_at "bq"))
  | ((with_reducible refine' ev_neI ?a ?b ?r); (case a => walk_at "ev"); (case b => walk_at "ev"); (case r => walk_at "bq"))
  | ((with_reducible refine' ev_notV ?a ?r); (case a => walk_at "ev"); (case r => walk_at "bq"))
  | ((with_reducible refine' ev_chain ?a ?b ?c ?r); (case a => walk_at "ev"); (case b => walk_at "ev"); (case c => walk_at "ev"); (case r => walk_at "bq"))
  | ((with_reducible refine' ev_tup ?a ?l); (case a => walk_at "ea"); (case l => (show _ ≤ _; decide))))
local macro_rules | `(tactic| walk_at "ea") => `(tactic| first
  | with_reducible exact ea_nil
  | ((with_reducible refine' ea_cons ?a ?b); (case a => walk_at "ev"); (case b => walk_at "ea")))
local macro_rules | `(tactic| walk_at "et") => `(tactic| first
  | ((with_reducible refine' et_notI ?a ?r); (case a => walk_at "et"); (case r => walk_at "bq"))
  | ((with_reducible refine' et_is ?a); (case a => walk_at "ev"))
  | ((with_reducible refine' et_isB ?a); (case a => walk_at "ev"))
  | ((with_reducible refine' et_and ?a ?b ?c); (case a => walk_at "et"); (case b => (intro _; walk_at "et")); (case c => (intro z; first | exact z | (cases z; done) | rfl)))
  | ((with_reducible refine' et_or ?a ?b ?c); (case a => walk_at "et"); (case b => (intro _; walk_at "et")); (case c => (intro z; first | exact z | (cases z; done) | rfl))))
local macro_rules | `(tactic| walk_at "ev2") => `(tactic| first
  | walk_at "ev"
  | ((with_reducible refine' ev_inT ?a ?p ?s ?d ?f ?x ?b); (case a => walk_at "ev"); (case p => exact evv_c); (case s => assumption); (case d => exact rfl); (case f => exact rfl); (case x => exact rfl); (case b => walk_at "bq"))
  | ((with_reducible refine' ev_inU2 ?a ?p ?l ?d ?x ?f ?y ?b); (case a => walk_at "ev"); (case p => walk_at "ea"); (case l => (show _ ≤ _; decide)); (case d => exact rfl); (case x => exact rfl); (case f => exact rfl); (case y => exact rfl); (case b => walk_at "bq"))
  | ((with_reducible refine' ev_slA ?a ?l ?h ?r); (case a => walk_at "ev"); (case l => walk_at "eo"); (case h => walk_at "eo"); (case r => exact rfl)))
local macro_rules | `(tactic| walk_at "et2") => `(tactic| first
  | walk_at "et"
  | ((with_reducible refine' et_is ?a); (case a => walk_at "ev2"))
  | ((with_reducible refine' et_isB ?a); (case a => walk_at "ev2")))
local macro_rules | `(tactic| walk_at "eo") => `(tactic| first
  | with_reducible exact eo_none
  | ((with_reducible refine' eo_some ?a); (case a => walk_at "ev")))
theorem cnt_pos (st : S) : 1 ≤ st.cnt := by rw [cnt_blocks]; omega
def cntL (L : List (Int × S)) : Nat := (L.map fun x => x.2.cnt).sum
theorem cntL_append (a b : List (Int × S)) : cntL (a ++ b) = cntL a + cntL b := by unfold cntL; rw [List.map_append, List.sum_append]
theorem sum_reverse_nat : ∀ l : List Nat, l.reverse.sum = l.sum
  | [] => rfl
  | a :: r => by rw [List.reverse_cons, List.sum_append, sum_reverse_nat r, List.sum_cons, List.sum_cons]; simp; omega
theorem cntL_items (st : S) (k : Int) : cntL (items st k) + 1 = st.cnt := by
  unfold cntL items
  rw [List.map_reverse, List.map_map, sum_reverse_nat, cnt_blocks, cntB_sum]
  have e : ((fun x : Int × S => x.2.cnt) ∘ fun s => (k + 1, s)) = S.cnt := rfl
  rw [e]; omega
theorem cntL_len : ∀ L : List (Int × S), L.length ≤ cntL L
  | [] => Nat.le_refl _
  | x :: r => by
    have h1 := cntL_len r
    have h2 := cnt_pos x.2
    have e : cntL (x :: r) = x.2.cnt + cntL r := rfl
    rw [e, List.length_cons]; omega
def LOk (L : List (Int × S)) : Prop := ∀ x ∈ L, ∃ ke n, SOk ke n x.2 ∧ ke ≤ 6 ∧ n ≤ 5
theorem LOk.items {st : S} {ke n : Nat} (h : SOk ke n st) (h1 : ke ≤ 6) (h2 : n ≤ 5) (k : Int) : LOk (items st k) := fun x hx => by
  unfold K27.items at hx
  obtain ⟨s, hs, rfl⟩ := List.mem_map.mp (List.mem_reverse.mp hx)
  obtain ⟨b, hb, hsb⟩ := List.mem_flatten.mp hs
  cases n with
  | zero => exact h.elim
  | succ n => exact ⟨ke, n, (h.blocks b hb).2 s hsb, h1, by omega⟩
def start0 (b : List S) : List (Int × S) := (b.map fun s => ((0 : Int), s)).reverse
theorem cntL_start (b : List S) : cntL (start0 b) = cntB b := by
  unfold cntL start0
  rw [List.map_reverse, List.map_map, sum_reverse_nat, cntB_sum]
  rfl
theorem LOk.start {b : List S} {ke n : Nat} (h : BOk ke n b) (h1 : ke ≤ 6) (h2 : n ≤ 5) : LOk (start0 b) := fun x hx => by
  unfold start0 at hx
  obtain ⟨s, hs, rfl⟩ := List.mem_map.mp (List.mem_reverse.mp hx)
  exact ⟨ke, n, h.2 s hs, h1, h2⟩
theorem wd_append (a b : List (Int × S)) : wd (a ++ b) = wd a ++ wd b := by unfold wd; rw [List.map_append]
theorem wd_len (L : List (Int × S)) : (wd L).length = L.length := by unfold wd; rw [List.length_map]
section
variable {K : PySem.W.Frag} {σ : St} {H H0 : Hp} {te ta tb tc : TE} {D : Ends} {ts : TS}
theorem TdA.last {vs : List V} {ds : List PyData} {d : PyData} (h : TdA H vs (ds ++ [d])) : ∃ v, vs[vs.length - 1]? = some v ∧ Td H v d ∧ TdA H vs.dropLast ds := by
  have hl := h.length
  rw [List.length_append, List.length_singleton] at hl
  obtain ⟨v, hv, tv⟩ := h.get (n := ds.length) (d := d) (by rw [List.getElem?_append_right (Nat.le_refl _), Nat.sub_self]; rfl)
  refine ⟨v, by rw [hl]; exact hv, tv, ?_⟩
  have h2 := h.take ds.length
  rw [List.take_left] at h2
  rw [List.dropLast_eq_take, hl]
  exact h2
/-- a, b = xs.pop() -/
theorem s_pop2 {i a b : Nat} {p : Addr} {vs : List V} {ds : List PyData} {d e : PyData} (hi : σ[i]? = some (some (.ref p))) (hp : H p = some (.lst vs)) (tv : TdA H vs (ds ++ [.tuple [d, e]]))
    (k : ∀ x y, Td (upd H p (.lst vs.dropLast)) x d → Td (upd H p (.lst vs.dropLast)) y e → TdA (upd H p (.lst vs.dropLast)) vs.dropLast ds → D.nx ((σ.set a (some x)).set b (some y)) (upd H p (.lst vs.dropLast))) :
    tAsg (tBM0 K "list" rPop (tVar i)) (gTup K 2 (gCons (gName a) (gCons (gName b) gNil))) D σ H := by
  obtain ⟨v, hv, t, tr⟩ := tv.last
  have m := Tx.put (u := .lst vs.dropLast) hp lst_tup
  obtain ⟨q, zs, rfl, hq, tz⟩ := (t.mono m).tup_inv
  obtain ⟨x, y, rfl, tx, ty⟩ := tz.i2
  exact ⟨_, hi, .inl ⟨rfl, _, SqL.of hp⟩, p, vs, _, rfl, rfl, hp, hv, q, [x, y], rfl, SqT.of hq, rfl, x, [y], rfl, y, [], rfl, rfl, k x y tx ty (tr.mono m)⟩
theorem q_pop2 {tk : TS} {i a b : Nat} {p : Addr} {vs : List V} {ds : List PyData} {d e : PyData} (hi : σ[i]? = some (some (.ref p))) (hp : H p = some (.lst vs)) (tv : TdA H vs (ds ++ [.tuple [d, e]]))
    (k : ∀ x y, Td (upd H p (.lst vs.dropLast)) x d → Td (upd H p (.lst vs.dropLast)) y e → TdA (upd H p (.lst vs.dropLast)) vs.dropLast ds → tk D ((σ.set a (some x)).set b (some y)) (upd H p (.lst vs.dropLast))) :
    tSeq (tAsg (tBM0 K "list" rPop (tVar i)) (gTup K 2 (gCons (gName a) (gCons (gName b) gNil)))) tk D σ H := s_pop2 (D := { D with nx := tk D }) hi hp tv k
theorem q_extend {tk : TS} {i : Nat} {p : Addr} {vs : List V} {P : List PyData → Prop} (hi : σ[i]? = some (some (.ref p))) (hp : H p = some (.lst vs)) (he : EvL te σ H P)
    (k : ∀ ws es J, P es → Gr H J → J p = some (.lst vs) → TdA J ws es → vs.length + ws.length ≤ sizeLine ∧ tk D σ (upd J p (.lst (vs ++ ws)))) :
    tSeq (tDrop (tBM K "list" rExtend (tVar i) (tCons te tNil))) tk D σ H := s_extend (D := { D with nx := tk D }) hi hp he k
theorem q_append {tk : TS} {i : Nat} {p : Addr} {vs : List V} {P : PyData → Prop} (hi : σ[i]? = some (some (.ref p))) (hp : H p = some (.lst vs)) (hl : vs.length < sizeLine) (he : EvP te σ H P)
    (k : ∀ v d J, P d → Gr H J → J p = some (.lst vs) → Td J v d → tk D σ (upd J p (.lst (vs ++ [v])))) :
    tSeq (tDrop (tBM K "list" rAppend (tVar i) (tCons te tNil))) tk D σ H := s_append (D := { D with nx := tk D }) hi hp hl he k
/-- a, b = (a new list), (what tb gives) -/
theorem q_parL {i j : Nat} {tk : TS} {P : List PyData → Prop} (ha : EvL ta σ H P) (k : ∀ p vs ds J, P ds → H p = none → Gr H J → J p = some (.lst vs) → TdA J vs ds → tb σ J fun y J2 => ∃ v w, [V.ref p, y] = [v, w] ∧ tk D ((σ.set i (some v)).set j (some w)) J2) :
    tSeq (tPar i j (tCons ta (tCons tb tNil))) tk D σ H := ha H Mv.rfl _ fun p vs ds J pd hp g hx tv => k p vs ds J pd hp g hx tv
/-- the first list -/
theorem el_start {b : List S} {j : Nat} (hl : b.length ≤ 100000) (ha : EvD ta σ H (blk b)) (he : ∀ v d J, Td J v d → EvD te (σ.set j (some v)) J (.tuple [.int 0, d])) :
    EvL (tRevL K (tLc (iTup K ta) (gName j) tYes te [j])) σ H (fun z => z = wd (start0 b)) := by
  have e1 : wd (start0 b) = ((bds b).map fun d => PyData.tuple [.int 0, d]).reverse := by
    unfold wd start0
    rw [List.map_reverse, List.map_map, bds_map, List.map_map]; rfl
  rw [e1]
  exact el_rev (el_mapT (f := fun d => .tuple [.int 0, d]) ha (by rw [bds_len]; exact hl) fun d v J _ g t => he v d J t)
end
section
variable {P : Program} {w : World} {K : PySem.W.Frag} {mg : Str → Option Value} {base : Heap}
/-! ### rows_of -/
abbrev s_rows_of : Stmt := top 29
theorem sc_rows_of : FnScope ["program", "left", "found", "item", "depth", "statement"] ["program"] (defScope s_rows_of) := ⟨rfl, rfl, rfl, by decide +kernel, rfl, by decide +kernel, by decide +kernel⟩
def A_rows_of (ds : List PyData) (P : List PyData → Prop) : Prop := ∃ (b : List S) (ke n : Nat), ds = [blk b] ∧ BOk ke n b ∧ ke ≤ 6 ∧ n ≤ 4 ∧ P = fun _ => True
theorem cap4 : 20 * cmax 4 ≤ sizeLine - 1 := by decide +kernel
theorem cmax_mono {n m : Nat} (h : n ≤ m) : cmax n ≤ cmax m := by
  induction h with
  | refl => exact Nat.le_refl _
  | step _ ih => exact Nat.le_trans ih (by show cmax _ ≤ 1 + 40 * cmax _; omega)
theorem BOk.cap {ke n : Nat} {b : List S} (h : BOk ke n b) (hn : n ≤ 4) : cntB b ≤ sizeLine - 1 :=
  Nat.le_trans (cntB_le (fun s ke hs => cnt_le n s ke hs) h.2) (Nat.le_trans (Nat.mul_le_mul h.1 (cmax_mono hn)) cap4)
theorem df_rows_of (F : Fn K mg "rows_of" s_rows_of ["program"]) (T : Gb K w mg) (G_items_within : Df P w K mg base 2 "items_within" ["statement", "depth"] (spFL A_items)) : Df P w K mg base 3 "rows_of" ["program"] (spFL A_rows_of) := by
  refine df_of F sc_rows_of (spFL_len fun ds P h => ?_) (fun f cdv A outer s H vs Q E hr h => ?_)
  · obtain ⟨b, _, _, rfl, _⟩ := h
    rfl
  obtain ⟨ds, P', ⟨b, ke, n, rfl, hb, hke, hn, rfl⟩, ts, q⟩ := h
  obtain ⟨v0, rfl, t0⟩ := ts.i1
  have hcap := hb.cap hn
  refine ⟨_, (pss_cons (ps_par (i := 1) (j := 2) (by rfl) sc_rows_of.nd rfl rfl (by decide) rfl rfl (pa_cons (pe_revL (pe_lc (own := [("item", 3)]) (by rfl) sc_rows_of.nd (pi_tup (pv 0)) (blkOk_by (own := [("item", 3)]) (N := ["program", "left", "found", "item", "depth", "statement"]) (sc := defScope s_rows_of) (by decide +kernel)) (fun _ _ _ _ _ => pg_name (i := 3) sc_rows_of.nd rfl (Or.inl rfl)) (fun _ _ _ _ _ => pts_nil) (fun _ _ _ _ _ => (pe_tup (pa_cons pe_int (pa_cons (pv 3) pa_nil)))))) (pa_cons (pe_lst pa_nil) pa_nil)) (by rfl)) (pss_cons (ps_while PassesOwn.never (pt_cmpR (k_neD K rfl hr.units) (pv 1) (pe_lst pa_nil) (nomark _)) (pss_cons (ps_asg (pe_bm0 PySem.F.plainAttrs_list PySem.F.slot_list_pop PySem.F.type_list_pop mt_pop (pv 1)) (pg_tup (by rfl) (pgs_cons (pg_name (i := 4) sc_rows_of.nd rfl (Or.inl rfl)) (pgs_cons (pg_name (i := 5) sc_rows_of.nd rfl (Or.inl rfl)) pgs_nil)))) (pss_cons (ps_expr (pe_bm PySem.F.plainAttrs_list PySem.F.slot_list_append PySem.F.type_list_append mt_append (pv 2) (pa_cons (pe_tup (pa_cons (pv 4) (pa_cons (pv 5) pa_nil))) pa_nil))) (pss_one (ps_expr (pe_bm PySem.F.plainAttrs_list PySem.F.slot_list_extend PySem.F.type_list_extend mt_extend (pv 1) (pa_cons (pe_df G_items_within (hr.mono (by first | decide | omega)) (pa_cons (pv 5) (pa_cons (pv 4) pa_nil))) pa_nil))))))) (pss_one (ps_ret (pv 2))))), ?_⟩
  refine q_parL (el_start (b := b) (by have := hb.1; omega) (ev_var rfl t0) (fun v d J t => ev_tup (ea_cons ev_int (ea_cons (ev_var rfl t) ea_nil)) (by show 2 ≤ 1000; decide))) fun pl vs ds1 H1 e1 hpl g1 hx1 tv1 => ?_
  subst e1
  refine el_lst (ds := []) ea_nil (by show 0 ≤ 1000; decide) H1 Mv.rfl _ fun pf fs ds2 H2 e2 hpf g2 hx2 tv2 => ?_
  subst e2
  have e3 := tv2
  cases e3
  have nlf : pl ≠ pf := ne_of_none hx1 hpf
  refine ⟨_, _, rfl, ?_⟩
  refine s_while (W := fun m σ J => ∃ (L : List (Int × S)) (vs fs : List V) (fds : List PyData) (oi od os : Option V), σ = [some v0, some (.ref pl), some (.ref pf), oi, od, os] ∧ Gr H J ∧ J pl = some (.lst vs) ∧ J pf = some (.lst fs) ∧ TdA J vs (wd L) ∧ TdA J fs fds ∧ LOk L ∧ m = cntL L ∧ fs.length + m ≤ sizeLine - 1)
    (m := cntL (start0 b)) ⟨start0 b, vs, [], [], none, none, none, rfl, g1.trans g2, g2.get hx1, hx2, tv1.mono g2.tup, .nil, LOk.start hb hke (by omega), rfl, by rw [cntL_start]; show 0 + _ ≤ _; omega⟩ ?_
  rintro m σ J ⟨L, vs, fs, fds, oi, od, os, rfl, g, hl, hf, tvs, tfs, lok, rfl, hc⟩
  refine ⟨_, ev_neL (i := 1) rfl hl tvs (wd_sh lok), fun hne J2 g2' => ?_, fun _ J2 g2' => ?_⟩
  · have hl2 := g2'.get hl
    have hf2 := g2'.get hf
    have tvs2 := tvs.mono g2'.tup
    have tfs2 := tfs.mono g2'.tup
    have gH2 := g.trans g2'
    rcases List.eq_nil_or_concat L with e | ⟨L', x, e⟩
    · subst e; cases hne
    rw [List.concat_eq_append] at e
    subst e
    obtain ⟨k, st⟩ := x
    rw [wd_append] at tvs2
    obtain ⟨ke', n', hst, hke', hn'⟩ := lok (k, st) (List.mem_append_right _ (List.mem_singleton.mpr rfl))
    have hn0 : ∃ n'', n' = n'' + 1 := by
      cases n' with
      | zero => exact hst.elim
      | succ n => exact ⟨n, rfl⟩
    obtain ⟨n'', rfl⟩ := hn0
    have hcL : cntL (L' ++ [(k, st)]) = cntL L' + st.cnt := by rw [cntL_append]; rfl
    have hci := cntL_items st k
    rw [hcL] at hc
    refine s_pop2 (i := 1) (ds := wd L') (d := .int k) (e := st.d) rfl hl2 tvs2 fun x y tx ty tr => ?_
    have e5 := tx.int_inv
    subst e5
    have gJ3 : Gr H (upd J2 pl (.lst vs.dropLast)) := gH2.own hpl hl2 lst_tup
    have hf3 : upd J2 pl (.lst vs.dropLast) pf = some (.lst fs) := by rw [upd_ne nlf.symm]; exact hf2
    have tfs3 := tfs2.mono (Tx.put (u := .lst vs.dropLast) hl2 lst_tup)
    have hpfH : H pf = none := g1.low pf hpf
    refine s_append (i := 2) rfl hf3 (by have := sizeLine_eq; omega) (ev_tup (ea_cons (ev_var rfl (.int k)) (ea_cons (ev_var rfl ty) ea_nil)) (by show 2 ≤ 1000; decide)) fun z dz J4 ez g4 hf4 tz => ?_
    have hl4 : J4 pl = some (.lst vs.dropLast) := g4.get upd_same
    have gJ5 : Gr H (upd J4 pf (.lst (fs ++ [z]))) := (gJ3.trans g4).own hpfH hf4 lst_tup
    have m5 := Tx.put (u := .lst (fs ++ [z])) hf4 lst_tup
    have hl5 : upd J4 pf (.lst (fs ++ [z])) pl = some (.lst vs.dropLast) := by rw [upd_ne nlf]; exact hl4
    have ty5 := (ty.mono g4.tup).mono m5
    have tr5 := (tr.mono g4.tup).mono m5
    have tf5 := (((tfs3.mono g4.tup).append (.one tz))).mono m5
    refine s_extend (i := 1) rfl hl5 (el_call (A := A_items) (ds := [st.d, .int k]) (ea_cons (ev_var rfl ty5) (ea_cons (ev_var rfl (.int k)) ea_nil)) ⟨st, k, ke', n'', rfl, hst, rfl⟩) fun ws es J6 ee g6 hl6 tw => ?_
    subst ee
    have lw := tw.length
    have lv := tr5.length
    rw [wd_len] at lw lv
    have c1 := cntL_len L'
    have c2 := cntL_len (items st k)
    have m7 := Tx.put (u := .lst (vs.dropLast ++ ws)) hl6 lst_tup
    refine ⟨by omega, cntL (L' ++ items st k), by rw [hcL, cntL_append]; omega, L' ++ items st k, vs.dropLast ++ ws, fs ++ [z], fds ++ [dz], oi, some (.int k), some y, rfl, (gJ5.trans g6).own hpl hl6 lst_tup, upd_same, ?_, ?_, ?_, ?_, rfl, ?_⟩
    · rw [upd_ne nlf.symm]; exact g6.get upd_same
    · rw [wd_append]; exact ((tr5.mono g6.tup).append tw).mono m7
    · exact (tf5.mono g6.tup).mono m7
    · intro x hx
      rcases List.mem_append.mp hx with hx | hx
      · exact lok x (List.mem_append_left _ hx)
      · exact LOk.items hst hke' hn' k x hx
    · rw [List.length_append, List.length_singleton, cntL_append]; omega
  · exact ⟨_, rfl, q pf fs fds J2 trivial (g1.low pf hpf) (g.trans g2') (g2'.get hf) (tfs.mono g2'.tup)⟩
/-! ### order_error -/
abbrev s_order_error : Stmt := top 30
theorem sc_order_error : FnScope ["value", "left", "place", "item", "depth"] ["value"] (defScope s_order_error) := ⟨rfl, rfl, rfl, by decide +kernel, rfl, by decide +kernel, by decide +kernel⟩
/-- None or a pair -/
def NonePair : PyData → Prop := fun z => z = .none ∨ ∃ ds, z = .tuple ds
def A_order_error (ds : List PyData) (P : PyData → Prop) : Prop := ∃ (b : List S) (ke n : Nat), ds = [blk b] ∧ BOk ke n b ∧ ke ≤ 6 ∧ n ≤ 4 ∧ P = NonePair
theorem df_order_error (F : Fn K mg "order_error" s_order_error ["value"]) (T : Gb K w mg) (G_items_within : Df P w K mg base 2 "items_within" ["statement", "depth"] (spFL A_items)) (G_is_statement : Df P w K mg base 13 "is_statement" ["value"] (spF A_is_statement)) : Df P w K mg base 14 "order_error" ["value"] (spF A_order_error) := by
  refine df_of F sc_order_error (spF_len fun ds P h => ?_) (fun f cdv A outer s H vs Q E hr h => ?_)
  · obtain ⟨b, _, _, rfl, _⟩ := h
    rfl
  obtain ⟨ds, P', ⟨b, ke, n, rfl, hb, hke, hn, rfl⟩, ts, q⟩ := h
  obtain ⟨v0, rfl, t0⟩ := ts.i1
  have hcap := hb.cap hn
  refine ⟨_, (pss_cons (ps_par (i := 1) (j := 2) (by rfl) sc_order_error.nd rfl rfl (by decide) rfl rfl (pa_cons (pe_revL (pe_lc (own := [("item", 3)]) (by rfl) sc_order_error.nd (pi_tup (pv 0)) (blkOk_by (own := [("item", 3)]) (N := ["value", "left", "place", "item", "depth"]) (sc := defScope s_order_error) (by decide +kernel)) (fun _ _ _ _ _ => pg_name (i := 3) sc_order_error.nd rfl (Or.inl rfl)) (fun _ _ _ _ _ => pts_nil) (fun _ _ _ _ _ => (pe_tup (pa_cons pe_int (pa_cons (pv 3) pa_nil)))))) (pa_cons pe_int pa_nil)) (by rfl)) (pss_cons (ps_while PassesOwn.never (pt_cmpR (k_neD K rfl hr.units) (pv 1) (pe_lst pa_nil) (nomark _)) (pss_cons (ps_asg (pe_bm0 PySem.F.plainAttrs_list PySem.F.slot_list_pop PySem.F.type_list_pop mt_pop (pv 1)) (pg_tup (by rfl) (pgs_cons (pg_name (i := 4) sc_order_error.nd rfl (Or.inl rfl)) (pgs_cons (pg_name (i := 3) sc_order_error.nd rfl (Or.inl rfl)) pgs_nil)))) (pss_cons (ps_if (pt_cmpR op_gt (pv 4) (pe_gi T.MAX_NEST) (nomark _)) (pss_one (ps_ret (pe_tup (pa_cons (pv 2) (pa_cons pe_str pa_nil))))) pss_nil) (pss_cons (ps_if (pt_not (pt_val (pe_df G_is_statement (hr.mono (by first | decide | omega)) (pa_cons (pv 3) pa_nil)))) (pss_one (ps_ret (pe_tup (pa_cons (pv 2) (pa_cons pe_str pa_nil))))) pss_nil) (pss_cons (ps_expr (pe_bm PySem.F.plainAttrs_list PySem.F.slot_list_extend PySem.F.type_list_extend mt_extend (pv 1) (pa_cons (pe_df G_items_within (hr.mono (by first | decide | omega)) (pa_cons (pv 3) (pa_cons (pv 4) pa_nil))) pa_nil))) (pss_one (ps_aug (i := 2) sc_order_error.nd rfl (.inl rfl) pe_int ip_add))))))) (pss_one (ps_ret pe_non)))), ?_⟩
  refine q_parL (el_start (b := b) (by have := hb.1; omega) (ev_var rfl t0) (fun v d J t => ev_tup (ea_cons ev_int (ea_cons (ev_var rfl t) ea_nil)) (by show 2 ≤ 1000; decide))) fun pl vs ds1 H1 e1 hpl g1 hx1 tv1 => ?_
  subst e1
  refine ⟨_, _, rfl, ?_⟩
  refine s_while (W := fun m σ J => ∃ (L : List (Int × S)) (vs : List V) (pc : Int) (oi od : Option V), σ = [some v0, some (.ref pl), some (.int pc), oi, od] ∧ Gr H J ∧ J pl = some (.lst vs) ∧ TdA J vs (wd L) ∧ LOk L ∧ m = cntL L ∧ m ≤ sizeLine - 1)
    (m := cntL (start0 b)) ⟨start0 b, vs, 0, none, none, rfl, g1, hx1, tv1, LOk.start hb hke (by omega), rfl, by rw [cntL_start]; omega⟩ ?_
  rintro m σ J ⟨L, vs, pc, oi, od, rfl, g, hl, tvs, lok, rfl, hc⟩
  refine ⟨_, ev_neL (i := 1) rfl hl tvs (wd_sh lok), fun hne J2 g2' => ?_, fun _ J2 g2' => ?_⟩
  · have hl2 := g2'.get hl
    have tvs2 := tvs.mono g2'.tup
    have gH2 := g.trans g2'
    rcases List.eq_nil_or_concat L with e | ⟨L', x, e⟩
    · subst e; cases hne
    rw [List.concat_eq_append] at e
    subst e
    obtain ⟨k, st⟩ := x
    rw [wd_append] at tvs2
    obtain ⟨ke', n', hst, hke', hn'⟩ := lok (k, st) (List.mem_append_right _ (List.mem_singleton.mpr rfl))
    have hn0 : ∃ n'', n' = n'' + 1 := by
      cases n' with
      | zero => exact hst.elim
      | succ n => exact ⟨n, rfl⟩
    obtain ⟨n'', rfl⟩ := hn0
    have hcL : cntL (L' ++ [(k, st)]) = cntL L' + st.cnt := by rw [cntL_append]; rfl
    have hci := cntL_items st k
    rw [hcL] at hc
    refine q_pop2 (i := 1) (ds := wd L') (d := .int k) (e := st.d) rfl hl2 tvs2 fun x y tx ty tr => ?_
    have e5 := tx.int_inv
    subst e5
    have gJ3 : Gr H (upd J2 pl (.lst vs.dropLast)) := gH2.own hpl hl2 lst_tup
    refine q_if Mv.rfl (P := Any) (EvB.any (P := fun c => c = decide (k > 3)) (by walk_at "et")) (fun _ J4 g4 => s_ret g4 ((ev_tup (ds := [.int pc, .str "nest"]) (by walk_at "ea") (by show 2 ≤ 1000; decide)).imp fun d e => .inr ⟨_, e⟩) fun v d J5 p5 g5 => q v d J5 p5 (gJ3.trans g5)) fun _ J4 g4 => ?_
    refine q_if g4 (P := Any) ((et_not (SomeB.testB (ev_call (A := A_is_statement) (ds := [st.d]) (ea_cons (ev_var rfl ty) ea_nil) ⟨st, n'' + 1, ke', rfl, hst, hke', rfl⟩))).any) (fun _ J5 g5 => s_ret g5 ((ev_tup (ds := [.int pc, .str "statement"]) (by walk_at "ea") (by show 2 ≤ 1000; decide)).imp fun d e => .inr ⟨_, e⟩) fun v d J6 p6 g6 => q v d J6 p6 (gJ3.trans g6)) fun _ J5 g5 => ?_
    have hl5 : J5 pl = some (.lst vs.dropLast) := g5.get upd_same
    have ty5 := ty.mono g5.tup
    have tr5 := tr.mono g5.tup
    have gJ5 := gJ3.trans g5
    refine q_extend (i := 1) rfl hl5 (el_call (A := A_items) (ds := [st.d, .int k]) (ea_cons (ev_var rfl ty5) (ea_cons (ev_var rfl (.int k)) ea_nil)) ⟨st, k, ke', n'', rfl, hst, rfl⟩) fun ws es J6 ee g6 hl6 tw => ?_
    subst ee
    have lw := tw.length
    have lv := tr5.length
    rw [wd_len] at lw lv
    have c1 := cntL_len L'
    have c2 := cntL_len (items st k)
    have m7 := Tx.put (u := .lst (vs.dropLast ++ ws)) hl6 lst_tup
    refine ⟨by omega, ?_⟩
    refine ⟨_, rfl, pc, 1, rfl, rfl, cntL (L' ++ items st k), by rw [hcL, cntL_append]; omega, L' ++ items st k, vs.dropLast ++ ws, pc + 1, some y, some (.int k), rfl, (gJ5.trans g6).own hpl hl6 lst_tup, upd_same, ?_, ?_, rfl, ?_⟩
    · rw [wd_append]; exact ((tr5.mono g6.tup).append tw).mono m7
    · intro x hx
      rcases List.mem_append.mp hx with hx | hx
      · exact lok x (List.mem_append_left _ hx)
      · exact LOk.items hst hke' hn' k x hx
    · rw [cntL_append]; omega
  · exact q _ _ J2 (.inl rfl) (g.trans g2') .non
end
end K27
namespace K27
open PySem PySem.Spec L2
open PyProof.Rows hiding St
local macro_rules | `(tactic| walk_at "td") => `(tactic| first | assumption | exact Td.int _ | exact Td.str _ | exact Td.bl _ | exact Td.non)
local macro_rules | `(tactic| walk_at "bq") => `(tactic| first | exact rfl | assumption | decide)
local macro_rules | `(tactic| walk_at "kb") => `(tactic| first | exact kii | exact ksi | exact kti | exact kib | exact kss | exact kis | exact kts | exact ktt | exact kst | exact kit)
local macro_rules | `(tactic| walk_at "ev") => `(tactic| first
  | with_reducible exact ev_int
  | with_reducible exact ev_str
  | with_reducible exact ev_bl
  | with_reducible exact ev_non
  | ((with_reducible refine' ev_var ?e ?t); (case e => exact rfl); (case t => walk_at "td"))
  | ((with_reducible refine' ev_ix ?a ?n ?z); (case a => walk_at "ev"); (case z => decide); (case n => exact rfl))
  | ((with_reducible refine' ev_isi ?a ?k); (case a => walk_at "ev"); (case k => walk_at "kb"))
  | ((with_reducible refine' ev_len ?a ?k); (case a => walk_at "ev"); (case k => exact rfl))
  | ((with_reducible refine' ev_cmpI ?a ?b ?r); (case a => walk_at "ev"); (case b => walk_at "ev"); (case r => walk_at "bq"))
  | ((with_reducible refine' ev_I0 ?a ?b ?r); (case a => walk_at "ev"); (case b => walk_at "ev"); (case r => exact rfl))
  | ((with_reducible refine' ev_eqS ?a ?b ?r); (case a => walk_at "ev"); (case b => walk_at "ev"); (case r => walk_at "bq"))
  | ((with_reducible refine' ev_eqI ?a ?b ?r); (case a => walk_at "ev"); (case b => walk_at "ev"); (case r => walk_at "bq"))
  | ((with_reducible refine' ev_neI ?a ?b ?r); (case a => walk_at "ev"); (case b => walk_at "ev"); (case r => walk_at "bq"))
  | ((with_reducible refine' ev_notV ?a ?r); (case a => walk_at "ev"); (case r => walk_at "bq"))
  | ((with_reducible refine' ev_chain ?a ?b ?c ?r); (case a => walk_at "ev"); (case b => walk_at "ev"); (case c => walk_at "ev"); (case r => walk_at "bq"))
  | ((with_reducible refine' ev_tup ?a ?l); (case a => walk_at "ea"); (case l => (show _ ≤ _; decide))))
local macro_rules | `(tactic| walk_at "ea") => `(tactic| first
  | with_reducible exact ea_nil
  | ((with_reducible refine' ea_cons ?a ?b); (case a => walk_at "ev"); (case b => walk_at "ea")))
local macro_rules | `(tactic| walk_at "et") => `(tactic| first
  | ((with_reducible refine' et_notI ?a ?r); (case a => walk_at "et"); (case r => walk_at "bq"))
  | ((with_reducible refine' et_is ?a); (case a => walk_at "ev"))
  | ((with_reducible refine' et_isB ?a); (case a => walk_at "ev"))
  | ((with_reducible refine' et_and ?a ?b ?c); (case a => walk_at "et"); (case b => (intro _; walk_at "et")); (case c => (intro z; first | exact z | (cases z; done) | rfl)))
  | ((with_reducible refine' et_or ?a ?b ?c); (case a => walk_at "et"); (case b => (intro _; walk_at "et")); (case c => (intro z; first | exact z | (cases z; done) | rfl))))
local macro_rules | `(tactic| walk_at "ev2") => `(tactic| first
  | walk_at "ev"
  | ((with_reducible refine' ev_inT ?a ?p ?s ?d ?f ?x ?b); (case a => walk_at "ev"); (case p => exact evv_c); (case s => assumption); (case d => exact rfl); (case f => exact rfl); (case x => exact rfl); (case b => walk_at "bq"))
  | ((with_reducible refine' ev_inU2 ?a ?p ?l ?d ?x ?f ?y ?b); (case a => walk_at "ev"); (case p => walk_at "ea"); (case l => (show _ ≤ _; decide)); (case d => exact rfl); (case x => exact rfl); (case f => exact rfl); (case y => exact rfl); (case b => walk_at "bq"))
  | ((with_reducible refine' ev_slA ?a ?l ?h ?r); (case a => walk_at "ev"); (case l => walk_at "eo"); (case h => walk_at "eo"); (case r => exact rfl)))
local macro_rules | `(tactic| walk_at "et2") => `(tactic| first
  | walk_at "et"
  | ((with_reducible refine' et_is ?a); (case a => walk_at "ev2"))
  | ((with_reducible refine' et_isB ?a); (case a => walk_at "ev2")))
local macro_rules | `(tactic| walk_at "eo") => `(tactic| first
  | with_reducible exact eo_none
  | ((with_reducible refine' eo_some ?a); (case a => walk_at "ev")))
section
variable {K : PySem.W.Frag} {σ : St} {H : Hp} {te ta tb tc : TE}
theorem k_sum {X : Cx} (K : PySem.W.Frag) (h : X.K = K := by rfl) (hc : X.calm = true := by rfl) : CallR X (.builtin "sum") (rSum K) := by subst h; exact cr_sum hc
theorem ev_sum {ns : List Int} (h : EvL te σ H (fun z => z = ns.map PyData.int)) : EvD (tCB (rSum K) (tCons te tNil)) σ H (.int ns.sum) := fun H1 g _ q =>
  h H1 g _ fun p vs ds H2 pd hp g2 hx ts => by
    subst pd
    have e : vs = ns.map V.int := ts.scal (by rw [List.map_map, List.map_map]; rfl)
    subst e
    exact ⟨p, ns, rfl, SqL.of hx, q _ _ H2 rfl g2 (.int _)⟩
abbrev rInt1 : List V → Hp → VK → Prop := fun xs H Q => (∃ i, xs = [.int i] ∧ Q (.int i) H) ∨ ∃ k, xs = [.bl k] ∧ Q (.int (if k then 1 else 0)) H
theorem ev_intB {b : Bool} (h : EvD te σ H (.bool b)) : EvD (tCB rInt1 (tCons te tNil)) σ H (.int (if b then 1 else 0)) := fun H1 g _ q =>
  h H1 g _ fun v z H2 ez g2 tz => by
    subst ez
    have e := tz.bl_inv
    subst e
    exact .inr ⟨b, rfl, q _ _ H2 rfl g2 (.int _)⟩
theorem ev_intI {i : Int} (h : EvD te σ H (.int i)) : EvD (tCB rInt1 (tCons te tNil)) σ H (.int i) := fun H1 g _ q =>
  h H1 g _ fun v z H2 ez g2 tz => by
    subst ez
    have e := tz.int_inv
    subst e
    exact .inl ⟨i, rfl, q _ _ H2 rfl g2 (.int _)⟩
theorem ev_andE {a b : Bool} (h : EvD ta σ H (.bool a)) (k : a = true → EvD tb σ H (.bool b)) : EvD (tAndV ta tb) σ H (.bool (a && b)) := fun H1 g Q q => h H1 g _ fun v z H2 ez g2 tz => by
  subst ez
  have e1 := tz.bl_inv
  subst e1
  refine ⟨a, rfl, ?_⟩
  cases a with
  | true =>
    show tb σ H2 Q
    exact k rfl H2 (g.trans g2) Q fun v d H3 p g3 => q v d H3 p (g2.trans g3)
  | false =>
    show Q (.bl false) H2
    exact q _ _ H2 rfl g2 (.bl false)
end
/-- [g(x) for x in a list of f(x)] -/
theorem el_mapLa {K : PySem.W.Frag} {σ : St} {H : Hp} {ta te : TE} {j : Nat} {α : Type} {l : List α} {f g : α → PyData} (ha : EvL ta σ H (fun z => z = l.map f)) (hl : l.length ≤ 100000) (he : ∀ x v J, x ∈ l → Gr H J → Td J v (f x) → EvD te (σ.set j (some v)) J (g x)) :
    EvL (tLc (iList K ta) (gName j) tYes te [j]) σ H (fun es => es = l.map g) :=
  el_lcL (Iv := fun n es => es = (l.take n).map g) (B := fun _ b => b = true) (R := fun n e => ∃ x, l[n]? = some x ∧ e = g x) (PL := fun z => z = l.map f) ha (fun ds' e => by subst e; rw [List.length_map]; exact hl) (by rw [List.take_zero]; rfl)
    (fun ds' n d v J _ _ _ _ => et_yes rfl) (fun ds' n d v J e hd gr td _ => by
      subst e
      rw [List.getElem?_map] at hd
      cases hx : l[n]? with
      | none => rw [hx] at hd; cases hd
      | some x =>
        rw [hx] at hd
        have e4 : d = f x := (Option.some.inj hd).symm
        subst e4
        exact (he x v J (List.mem_of_getElem? hx) gr td).imp fun e' ee => ⟨x, rfl, ee⟩)
    (fun ds' n es e _ hn iv _ re => by
      obtain ⟨d, hd, rfl⟩ := re
      rw [iv, List.take_add_one, hd, List.map_append]
      rfl)
    (fun ds' n es _ _ _ hb => by cases hb) fun ds' es e iv => by subst e; rw [iv, List.length_map, List.take_length]
theorem el_mapTa {K : PySem.W.Frag} {σ : St} {H : Hp} {ta te : TE} {j : Nat} {α : Type} {l : List α} {f g : α → PyData} (ha : EvD ta σ H (.tuple (l.map f))) (hl : l.length ≤ 100000) (he : ∀ x v J, x ∈ l → Gr H J → Td J v (f x) → EvD te (σ.set j (some v)) J (g x)) :
    EvL (tLc (iTup K ta) (gName j) tYes te [j]) σ H (fun es => es = l.map g) :=
  el_lcT (Iv := fun n es => es = (l.take n).map g) (B := fun _ b => b = true) (R := fun n e => ∃ x, l[n]? = some x ∧ e = g x) ha (by rw [List.length_map]; exact hl) (by rw [List.take_zero]; rfl)
    (fun n d v J _ _ _ => et_yes rfl) (fun n d v J hd gr td _ => by
      rw [List.getElem?_map] at hd
      cases hx : l[n]? with
      | none => rw [hx] at hd; cases hd
      | some x =>
        rw [hx] at hd
        have e4 : d = f x := (Option.some.inj hd).symm
        subst e4
        exact (he x v J (List.mem_of_getElem? hx) gr td).imp fun e' ee => ⟨x, rfl, ee⟩)
    (fun n es e hn iv _ re => by
      obtain ⟨d, hd, rfl⟩ := re
      rw [iv, List.take_add_one, hd, List.map_append]
      rfl)
    (fun n es _ _ hb => by cases hb) fun es iv => by rw [iv, List.length_map, List.take_length]
def Te.kind : Te → Str
  | .less _ _ => "less"
  | .rest _ _ _ => "rest"
  | .not t => t.kind
def Te.strip : Te → Te
  | .not t => t.strip
  | t => t
def Te.nots : Te → Nat
  | .not t => t.nots + 1
  | _ => 0
def own (z : Str) : S → Int := fun st =>
  if z = "weight" then 1 else if z = "choice" then (match st with | .ch _ _ _ => 1 | _ => 0) else (match st with | .ite t _ _ => if t.kind = z then 1 else 0 | _ => 0)
mutual
def S.num (o : S → Int) : S → Int
  | .ite t y n => o (.ite t y n) + (numB o y + (numB o n + 0))
  | .ch h a b => o (.ch h a b) + (numB o a + (numB o b + 0))
  | .rep m b => o (.rep m b) + (numB o b + 0) * m
  | s => o s
def numB (o : S → Int) : List S → Int
  | [] => 0
  | s :: r => s.num o + numB o r
end
theorem numB_sum (o : S → Int) : ∀ b : List S, numB o b = (b.map (S.num o)).sum
  | [] => by rw [numB]; rfl
  | s :: r => by rw [numB, numB_sum o r, List.map_cons, List.sum_cons]
def S.times : S → Int
  | .rep m _ => m
  | _ => 1
theorem S.blocks_len (st : S) : st.blocks.length ≤ 2 := by
  cases st <;> (show _ ≤ 2; simp [S.blocks])
theorem num_eq (o : S → Int) (st : S) : st.num o = o st + (st.blocks.map (numB o)).sum * st.times := by
  cases st with
  | set x e => rw [S.num.eq_def]; show o _ = o _ + 0 * 1; omega
  | pay e => rw [S.num.eq_def]; show o _ = o _ + 0 * 1; omega
  | stop => rw [S.num.eq_def]; show o _ = o _ + 0 * 1; omega
  | ite t y n => rw [S.num]; show _ = o _ + (numB o y + (numB o n + 0)) * 1; omega
  | ch c y n => rw [S.num]; show _ = o _ + (numB o y + (numB o n + 0)) * 1; omega
  | rep m y => rw [S.num]; rfl
section
variable {P : Program} {w : World} {K : PySem.W.Frag} {mg : Str → Option Value} {base : Heap}
/-! ### bare -/
abbrev s_bare : Stmt := top 31
theorem sc_bare : FnScope ["test"] ["test"] (defScope s_bare) := ⟨rfl, rfl, rfl, by decide +kernel, rfl, by decide +kernel, by decide +kernel⟩
def A_bare (ds : List PyData) (P : PyData → Prop) : Prop := ∃ t : Te, ds = [t.d] ∧ P = fun z => z = t.strip.d
theorem df_bare (F : Fn K mg "bare" s_bare ["test"]) : Df P w K mg base 1 "bare" ["test"] (spF A_bare) := by
  refine df_of F sc_bare (spF_len fun ds P h => ?_) (fun f cdv A outer s H vs Q E hr h => ?_)
  · obtain ⟨t, rfl, _⟩ := h
    rfl
  obtain ⟨ds, P', ⟨t, rfl, rfl⟩, ts, q⟩ := h
  obtain ⟨v0, rfl, t0⟩ := ts.i1
  refine ⟨_, (pss_cons (ps_while PassesOwn.never (pt_cmpR op_eq (pe_ix (k_ixT K) (pv 0) pe_int (fun _ _ => rfl)) pe_str (nomark _)) (pss_one (ps_set (i := 0) sc_bare.nd rfl (Or.inl rfl) (pe_ix (k_ixT K) (pv 0) pe_int (fun _ _ => rfl))))) (pss_one (ps_ret (pv 0)))), ?_⟩
  refine s_while (W := fun m σ J => ∃ (u : Te) (v : V), σ = [some v] ∧ Gr H J ∧ Td J v u.d ∧ m = u.nots ∧ u.strip = t.strip) (m := t.nots) ⟨t, v0, rfl, Mv.rfl, t0, rfl, rfl⟩ ?_
  rintro m σ J ⟨u, v, rfl, g, tu, rfl, es⟩
  cases u with
  | less a b =>
    have tu' : Td J v (.tuple [.str "less", a.d, b.d]) := tu
    refine ⟨fun c => c = false, ?_, ?_, ?_⟩
    · walk_at "et"
    · intro z; cases z
    · intro _ J2 g2
      refine s_ret Mv.rfl (ev_var rfl (tu.mono g2.tup)) ?_
      intro v d J3 p g3 t3
      refine q v d J3 ?_ ((g.trans g2).trans g3) t3
      rw [p, ← es]; rfl
  | rest a b c =>
    have tu' : Td J v (.tuple [.str "rest", a.d, .int b, .int c]) := tu
    refine ⟨fun c => c = false, ?_, ?_, ?_⟩
    · walk_at "et"
    · intro z; cases z
    · intro _ J2 g2
      refine s_ret Mv.rfl (ev_var rfl (tu.mono g2.tup)) ?_
      intro v d J3 p g3 t3
      refine q v d J3 ?_ ((g.trans g2).trans g3) t3
      rw [p, ← es]; rfl
  | not u =>
    have tu' : Td J v (.tuple [.str "not", u.d]) := tu
    refine ⟨fun c => c = true, by walk_at "et", ?_, ?_⟩
    rotate_left
    · intro z; cases z
    intro _ J2 g2
    exact s_set g2 (by walk_at "ev") fun v d J3 e g3 t3 => ⟨u.nots, Nat.lt_succ_self _, u, v, rfl, g.trans g3, by rw [← e]; exact t3, rfl, es⟩
/-! ### own_count -/
abbrev s_own_count : Stmt := top 32
theorem sc_own_count : FnScope ["statement", "sort"] ["statement", "sort"] (defScope s_own_count) := ⟨rfl, rfl, rfl, by decide +kernel, rfl, by decide +kernel, by decide +kernel⟩
def A_own (ds : List PyData) (P : PyData → Prop) : Prop := ∃ (st : S) (z : Str), ds = [st.d, .str z] ∧ P = fun d => d = .int (own z st)
theorem df_own_count (F : Fn K mg "own_count" s_own_count ["statement", "sort"]) (T : Gb K w mg) (G_bare : Df P w K mg base 1 "bare" ["test"] (spF A_bare)) : Df P w K mg base 2 "own_count" ["statement", "sort"] (spF A_own) := by
  refine df_of F sc_own_count (spF_len fun ds P h => ?_) (fun f cdv A outer s H vs Q E hr h => ?_)
  · obtain ⟨t, z, rfl, _⟩ := h
    rfl
  obtain ⟨ds, P', ⟨st, z, rfl, rfl⟩, ts, q⟩ := h
  obtain ⟨v0, v1, rfl, t0, t1⟩ := ts.i2
  have hch := T.choices
  refine ⟨_, (pss_cons (ps_if (pt_cmpR op_eq (pv 1) pe_str (nomark _)) (pss_one (ps_ret pe_int)) pss_nil) (pss_cons (ps_if (pt_cmpR op_eq (pv 1) pe_str (nomark _)) (pss_one (ps_ret (pe_callTy (T := "int") call_int1 (by rfl) T.int_ (by decide +kernel) (pa_cons (pe_cmpR (k_in K) (pe_ix (k_ixT K) (pv 0) pe_int (fun _ _ => rfl)) (pe_gr T.CHOICES) (by rfl)) pa_nil)))) pss_nil) (pss_one (ps_ret (pe_callTy (T := "int") call_int1 (by rfl) T.int_ (by decide +kernel) (pa_cons (pe_and (pe_cmpR op_eq (pe_ix (k_ixT K) (pv 0) pe_int (fun _ _ => rfl)) pe_str (nomark _)) (pe_one (pe_cmpR op_eq (pe_ix (k_ixT K) (pe_df G_bare (hr.mono (by first | decide | omega)) (pa_cons (pe_ix (k_ixT K) (pv 0) pe_int (fun _ _ => rfl)) pa_nil)) pe_int (fun _ _ => rfl)) (pv 1) (nomark _)))) pa_nil)))))), ?_⟩
  refine q_if Mv.rfl (P := fun c => c = decide (z = "weight")) (by walk_at "et") (fun e J g => ?_) fun e J g => ?_
  · have e := of_decide_eq_true e.symm
    exact s_ret g ev_int fun v d J2 p => q v d J2 (by rw [p]; unfold own; rw [if_pos e])
  have ew := of_decide_eq_false e.symm
  refine q_if g (P := fun c => c = decide (z = "choice")) (by walk_at "et") (fun e J2 g2 => ?_) fun e J2 g2 => ?_
  · have ec := of_decide_eq_true e.symm
    refine s_ret g2 (P := fun d => d = .int (own z st)) ?_ q
    unfold own
    rw [if_neg ew, if_pos ec]
    cases st with
    | set x e =>
      have t0 : Td H v0 (.tuple [.str "set", .str x, e.d]) := by rw [S.d] at t0; exact t0
      exact ev_intB (b := false) (ev_inT (neg := false) (v := .str "set") (by walk_at "ev") evv_c hch rfl rfl rfl (by decide +kernel))
    | pay e =>
      have t0 : Td H v0 (.tuple [.str "pay", e.d]) := by rw [S.d] at t0; exact t0
      exact ev_intB (b := false) (ev_inT (neg := false) (v := .str "pay") (by walk_at "ev") evv_c hch rfl rfl rfl (by decide +kernel))
    | stop =>
      have t0 : Td H v0 (.tuple [.str "stop"]) := by rw [S.d] at t0; exact t0
      exact ev_intB (b := false) (ev_inT (neg := false) (v := .str "stop") (by walk_at "ev") evv_c hch rfl rfl rfl (by decide +kernel))
    | ite t y n =>
      have t0 : Td H v0 (.tuple [.str "if", t.d, .tuple (bds y), .tuple (bds n)]) := by rw [S.d] at t0; exact t0
      exact ev_intB (b := false) (ev_inT (neg := false) (v := .str "if") (by walk_at "ev") evv_c hch rfl rfl rfl (by decide +kernel))
    | ch c a b =>
      have t0 : Td H v0 (.tuple [.str (hand c), .tuple (bds a), .tuple (bds b)]) := by rw [S.d] at t0; exact t0
      exact ev_intB (b := true) (ev_inT (neg := false) (v := .str (hand c)) (by walk_at "ev") evv_c hch rfl rfl rfl (by cases c <;> decide +kernel))
    | rep m b =>
      have t0 : Td H v0 (.tuple [.str "repeat", .int m, .tuple (bds b)]) := by rw [S.d] at t0; exact t0
      exact ev_intB (b := false) (ev_inT (neg := false) (v := .str "repeat") (by walk_at "ev") evv_c hch rfl rfl rfl (by decide +kernel))
  have ec := of_decide_eq_false e.symm
  refine s_ret g2 (P := fun d => d = .int (own z st)) ?_ q
  unfold own
  rw [if_neg ew, if_neg ec]
  have t0' := t0
  rw [S.d.eq_def] at t0'
  cases st with
  | ite t y n =>
    have ek : (if t.kind = z then (1 : Int) else 0) = if (true && decide (t.kind = z)) then 1 else 0 := by
      by_cases h : t.kind = z
      · rw [if_pos h, decide_eq_true h]; rfl
      · rw [if_neg h, decide_eq_false h]; rfl
    show EvD _ _ _ (.int (if t.kind = z then 1 else 0))
    rw [ek]
    refine ev_intB (ev_andE (a := true) (by walk_at "ev") fun _ => ?_)
    have hb : EvD (tCall (spF A_bare) [] E0 (tCons (tOp (rIxT K) (tVar 0) (tC (.int 1))) tNil)) [some v0, some v1] H t.strip.d := ev_call (A := A_bare) (ds := [t.d]) (by walk_at "ea") ⟨t, rfl, rfl⟩
    have hk : ∃ r, t.strip.d = .tuple (.str t.kind :: r) := by
      have : ∀ t : Te, ∃ r, t.strip.d = .tuple (.str t.kind :: r) := fun t => by
        induction t with
        | less a b => exact ⟨_, rfl⟩
        | rest a b c => exact ⟨_, rfl⟩
        | not t ih => exact ih
      exact this t
    obtain ⟨r, hk⟩ := hk
    rw [hk] at hb
    exact ev_eqS (ev_ix hb rfl) (by walk_at "ev") rfl
  | set x e => exact ev_intB (ev_andE (a := false) (b := false) (by walk_at "ev") (fun z => by cases z))
  | pay e => exact ev_intB (ev_andE (a := false) (b := false) (by walk_at "ev") (fun z => by cases z))
  | stop => exact ev_intB (ev_andE (a := false) (b := false) (by walk_at "ev") (fun z => by cases z))
  | ch c a b => exact ev_intB (ev_andE (a := false) (b := false) (ev_eqS (ev_ix (ev_var rfl t0') rfl) ev_str (by cases c <;> decide +kernel)) (fun z => by cases z))
  | rep m b => exact ev_intB (ev_andE (a := false) (b := false) (by walk_at "ev") (fun z => by cases z))
/-! ### counted -/
abbrev s_counted : Stmt := top 33
theorem sc_counted : FnScope ["block", "sort", "found", "statement", "inner", "part"] ["block", "sort"] (defScope s_counted) := ⟨rfl, rfl, rfl, by decide +kernel, rfl, by decide +kernel, by decide +kernel⟩
def A_counted (n : Nat) (ds : List PyData) (P : PyData → Prop) : Prop := ∃ (b : List S) (z : Str) (ke : Nat), ds = [blk b, .str z] ∧ BOk ke n b ∧ P = fun d => d = .int (numB (own z) b)
theorem hand_rep (st : S) : ∃ x r, st.d = .tuple (.str x :: r) ∧ (decide (x = "repeat") = true → ∃ m b, st = .rep m b) ∧ (decide (x = "repeat") = false → st.times = 1) := by
  cases st with
  | set x e => exact ⟨_, _, by rw [S.d], fun z => absurd z (by decide +kernel), fun _ => rfl⟩
  | pay e => exact ⟨_, _, by rw [S.d], fun z => absurd z (by decide +kernel), fun _ => rfl⟩
  | stop => exact ⟨_, _, by rw [S.d], fun z => absurd z (by decide +kernel), fun _ => rfl⟩
  | ite t y n => exact ⟨_, _, by rw [S.d], fun z => absurd z (by decide +kernel), fun _ => rfl⟩
  | ch c y n => exact ⟨_, _, by rw [S.d], fun z => absurd z (by cases c <;> decide +kernel), fun _ => rfl⟩
  | rep m y => exact ⟨_, _, by rw [S.d], fun z => ⟨m, y, rfl⟩, fun z => absurd z (by decide +kernel)⟩
/-- the call is made for a block of a statement only -/
theorem df_counted (F : Fn K mg "counted" s_counted ["block", "sort"]) (T : Gb K w mg) (G_blocks_of : Df P w K mg base 1 "blocks_of" ["statement"] (spFL A_blocks_of)) (G_own_count : Df P w K mg base 2 "own_count" ["statement", "sort"] (spF A_own)) {n : Nat}
    (G_counted : Df P w K mg base (n + 2) "counted" ["block", "sort"] (spF fun ds P => ∃ m, m + 1 = n ∧ A_counted m ds P)) : Df P w K mg base (n + 3) "counted" ["block", "sort"] (spF (A_counted n)) := by
  refine df_of F sc_counted (spF_len fun ds P h => ?_) (fun f cdv A outer s H vs Q E hr h => ?_)
  · obtain ⟨b, z, _, rfl, _⟩ := h
    rfl
  obtain ⟨ds, P', ⟨b, z, ke, rfl, hb, rfl⟩, ts, q⟩ := h
  obtain ⟨v0, v1, rfl, t0, t1⟩ := ts.i2
  have e1 := t1.str_inv
  subst e1
  refine ⟨_, (pss_cons (ps_set (i := 2) sc_counted.nd rfl (Or.inl rfl) pe_int) (pss_cons (ps_for PassesOwn.never rfl (pi_tup (pv 0)) (pg_name (i := 3) sc_counted.nd rfl (Or.inl rfl)) (pss_cons (ps_set (i := 4) sc_counted.nd rfl (Or.inl rfl) (pe_callB (id := "sum") (k_sum K) (by rfl) T.sum_ (by decide +kernel) (pa_cons (pe_lc (own := [("part", 5)]) (by rfl) sc_counted.nd (pi_list (pe_df G_blocks_of (hr.mono (by first | decide | omega)) (pa_cons (pv 3) pa_nil))) (blkOk_by (own := [("part", 5)]) (N := ["block", "sort", "found", "statement", "inner", "part"]) (sc := defScope s_counted) (by decide +kernel)) (fun _ _ _ _ _ => pg_name (i := 5) sc_counted.nd rfl (Or.inl rfl)) (fun _ _ _ _ _ => pts_nil) (fun _ _ _ _ _ => (pe_df G_counted (hr.mono (by first | decide | omega)) (pa_cons (pv 5) (pa_cons (pv 1) pa_nil))))) pa_nil))) (pss_one (ps_aug (i := 2) sc_counted.nd rfl (.inl rfl) (pe_op op_add (pe_df G_own_count (hr.mono (by first | decide | omega)) (pa_cons (pv 3) (pa_cons (pv 1) pa_nil))) (pe_op op_mul (pv 4) (pe_ifExp (pt_cmpR op_eq (pe_ix (k_ixT K) (pv 3) pe_int (fun _ _ => rfl)) pe_str (nomark _)) (pe_ix (k_ixT K) (pv 3) pe_int (fun _ _ => rfl)) pe_int))) ip_add)))) (pss_one (ps_ret (pv 2))))), ?_⟩
  refine q_set Mv.rfl ev_int fun v2 d2 J e2 g t2 => ?_
  subst e2
  have e2 := t2.int_inv
  subst e2
  refine s_forT (ds := bds b) Mv.rfl (ev_var rfl (t0.mono g.tup)) fun H2 g2 => ?_
  have gH2 := g.trans g2
  refine ⟨fun i σ J => ∃ (o3 o4 : Option V), σ = [some v0, some (.str z), some (.int (numB (own z) (b.take i))), o3, o4, none] ∧ Gr H2 J, ⟨none, none, by rw [List.take_zero, numB]; rfl, Mv.rfl⟩, fun i σ J ⟨_, _, _, h⟩ => h.tup, ?_, ?_⟩
  · rintro i d v σ J hd td ⟨o3, o4, rfl, gJ⟩
    rw [bds_map, List.getElem?_map] at hd
    cases hs : b[i]? with
    | none => rw [hs] at hd; cases hd
    | some st =>
      rw [hs] at hd
      have e4 : d = st.d := (Option.some.inj hd).symm
      subst e4
      have hst := hb.2 st (List.mem_of_getElem? hs)
      have hn0 : ∃ n', n = n' + 1 := by
        cases n with
        | zero => exact hst.elim
        | succ n => exact ⟨n, rfl⟩
      obtain ⟨n', rfl⟩ := hn0
      have tv : Td J v st.d := td
      refine q_set (P := fun d => d = .int (st.blocks.map (numB (own z))).sum) Mv.rfl ?_ fun v4 d4 J4 e4 g4 t4 => ?_
      · refine ev_sum ?_
        rw [List.map_map]
        refine el_mapLa (l := st.blocks) (f := blk) (el_call (A := A_blocks_of) (ds := [st.d]) (ea_cons (ev_var rfl tv) ea_nil) ⟨st, rfl, rfl⟩) (by have := st.blocks_len; omega) fun x v J hx _ t => ?_
        exact ev_call (A := fun ds P => ∃ m, m + 1 = n' + 1 ∧ A_counted m ds P) (ds := [blk x, .str z]) (ea_cons (ev_var rfl t) (ea_cons (ev_var rfl (.str z)) ea_nil)) ⟨n', rfl, x, z, ke, rfl, hst.blocks x hx, rfl⟩
      · subst e4
        have e4 := t4.int_inv
        subst e4
        obtain ⟨y, r, hd, hy1, hy2⟩ := hand_rep st
        have tv4 := tv.mono g4.tup
        rw [hd] at tv4
        have hm : -(2 ^ 64) < st.times ∧ st.times < 2 ^ 64 := by
          cases st with
          | rep m b' => have := hst.1; show -(2 ^ 64) < m ∧ m < 2 ^ 64; omega
          | _ => show -(2 ^ 64) < (1 : Int) ∧ (1 : Int) < 2 ^ 64; decide
        refine ⟨_, rfl, ?_⟩
        refine ev_I0 (r := own z st + (st.blocks.map (numB (own z))).sum * st.times) (ev_call (A := A_own) (ds := [st.d, .str z]) (ea_cons (ev_var rfl (tv.mono g4.tup)) (ea_cons (ev_var rfl (.str z)) ea_nil)) ⟨st, z, rfl, rfl⟩) (ev_I (i := (st.blocks.map (numB (own z))).sum) (j := st.times) (ev_var rfl (.int _)) (ev_ifE (b := decide (y = "repeat")) (et_is (ev_eqS (ev_ix (ev_var rfl tv4) rfl) ev_str rfl)) (fun e => ?_) (fun e => ?_)) (.inr hm) rfl) rfl J4 Mv.rfl _ fun v5 d5 J5 e5 g5 t5 => ?_
        · obtain ⟨m, b', rfl⟩ := hy1 e
          have tv4 : Td J4 v (.tuple [.str "repeat", .int m, .tuple (bds b')]) := by have := tv.mono g4.tup; rw [S.d] at this; exact this
          exact ev_ix (ev_var rfl tv4) rfl
        · rw [hy2 e]; exact ev_int
        · subst e5
          have e5 := t5.int_inv
          subst e5
          refine ⟨_, _, rfl, rfl, some v, some (.int (st.blocks.map (numB (own z))).sum), ?_, (gJ.trans g4).trans g5⟩
          have e6 : numB (own z) (b.take (i + 1)) = numB (own z) (b.take i) + (own z st + (st.blocks.map (numB (own z))).sum * st.times) := by
            rw [List.take_add_one, hs, numB_sum, numB_sum, List.map_append, List.sum_append, ← num_eq]
            show _ + (st.num (own z) + 0) = _
            rw [Int.add_zero]
          rw [e6]; rfl
  · rintro σ J ⟨o3, o4, rfl, gJ⟩
    rw [bds_len, List.take_length]
    exact s_ret Mv.rfl (ev_var rfl (.int _)) fun v d J2 p g3 => q v d J2 p ((gH2.trans gJ).trans g3)
theorem df_counted_all (F : Fn K mg "counted" s_counted ["block", "sort"]) (T : Gb K w mg) (G_blocks_of : Df P w K mg base 1 "blocks_of" ["statement"] (spFL A_blocks_of)) (G_own_count : Df P w K mg base 2 "own_count" ["statement", "sort"] (spF A_own)) :
    ∀ n, Df P w K mg base (n + 3) "counted" ["block", "sort"] (spF (A_counted n))
  | 0 => df_counted F T G_blocks_of G_own_count (df_void F fun vs H Q E h => by
    obtain ⟨_, _, ⟨m, h, _⟩, _⟩ := h
    omega)
  | n + 1 => df_counted F T G_blocks_of G_own_count ((df_counted_all F T G_blocks_of G_own_count n).imp fun vs H Q E h => by
    obtain ⟨ds, P, ⟨m, hm, a⟩, r⟩ := h
    have e : m = n := by omega
    subst e
    exact ⟨ds, P, a, r⟩)
end
end K27
namespace K27
open PySem PySem.Spec L2
open PyProof.Rows hiding St
local macro_rules | `(tactic| walk_at "td") => `(tactic| first | assumption | exact Td.int _ | exact Td.str _ | exact Td.bl _ | exact Td.non)
local macro_rules | `(tactic| walk_at "bq") => `(tactic| first | exact rfl | assumption | decide)
local macro_rules | `(tactic| walk_at "kb") => `(tactic| first | exact kii | exact ksi | exact kti | exact kib | exact kss | exact kis | exact kts | exact ktt | exact kst | exact kit)
local macro_rules | `(tactic| walk_at "ev") => `(tactic| first
  | with_reducible exact ev_int
  | with_reducible exact ev_str
  | with_reducible exact ev_bl
  | with_reducible exact ev_non
  | ((with_reducible refine' ev_var ?e ?t); (case e => exact rfl); (case t => walk_at "td"))
  | ((with_reducible refine' ev_ix ?a ?n ?z); (case a => walk_at "ev"); (case z => decide); (case n => exact rfl))
  | ((with_reducible refine' ev_isi ?a ?k); (case a => walk_at "ev"); (case k => walk_at "kb"))
  | ((with_reducible refine' ev_len ?a ?k); (case a => walk_at "ev"); (case k => exact rfl))
  | ((with_reducible refine' ev_cmpI ?a ?b ?r); (case a => walk_at "ev"); (case b => walk_at "ev"); (case r => walk_at "bq"))
  | ((with_reducible refine' ev_I0 ?a ?b ?r); (case a => walk_at "ev"); (case b => walk_at "ev"); (case r => exact rfl))
  | ((with_reducible refine' ev_eqS ?a ?b ?r); (case a => walk_at "ev"); (case b => walk_at "ev"); (case r => walk_at "bq"))
  | ((with_reducible refine' ev_eqI ?a ?b ?r); (case a => walk_at "ev"); (case b => walk_at "ev"); (case r => walk_at "bq"))
  | ((with_reducible refine' ev_neI ?a ?b ?r); (case a => walk_at "ev"); (case b => walk_at "ev"); (case r => walk_at "bq"))
  | ((with_reducible refine' ev_notV ?a ?r); (case a => walk_at "ev"); (case r => walk_at "bq"))
  | ((with_reducible refine' ev_chain ?a ?b ?c ?r); (case a => walk_at "ev"); (case b => walk_at "ev"); (case c => walk_at "ev"); (case r => walk_at "bq"))
  | ((with_reducible refine' ev_tup ?a ?l); (case a => walk_at "ea"); (case l => (show _ ≤ _; decide))))
local macro_rules | `(tactic| walk_at "ea") => `(tactic| first
  | with_reducible exact ea_nil
  | ((with_reducible refine' ea_cons ?a ?b); (case a => walk_at "ev"); (case b => walk_at "ea")))
local macro_rules | `(tactic| walk_at "et") => `(tactic| first
  | ((with_reducible refine' et_notI ?a ?r); (case a => walk_at "et"); (case r => walk_at "bq"))
  | ((with_reducible refine' et_is ?a); (case a => walk_at "ev"))
  | ((with_reducible refine' et_isB ?a); (case a => walk_at "ev"))
  | ((with_reducible refine' et_and ?a ?b ?c); (case a => walk_at "et"); (case b => (intro _; walk_at "et")); (case c => (intro z; first | exact z | (cases z; done) | rfl)))
  | ((with_reducible refine' et_or ?a ?b ?c); (case a => walk_at "et"); (case b => (intro _; walk_at "et")); (case c => (intro z; first | exact z | (cases z; done) | rfl))))
local macro_rules | `(tactic| walk_at "ev2") => `(tactic| first
  | walk_at "ev"
  | ((with_reducible refine' ev_inT ?a ?p ?s ?d ?f ?x ?b); (case a => walk_at "ev"); (case p => exact evv_c); (case s => assumption); (case d => exact rfl); (case f => exact rfl); (case x => exact rfl); (case b => walk_at "bq"))
  | ((with_reducible refine' ev_inU2 ?a ?p ?l ?d ?x ?f ?y ?b); (case a => walk_at "ev"); (case p => walk_at "ea"); (case l => (show _ ≤ _; decide)); (case d => exact rfl); (case x => exact rfl); (case f => exact rfl); (case y => exact rfl); (case b => walk_at "bq"))
  | ((with_reducible refine' ev_slA ?a ?l ?h ?r); (case a => walk_at "ev"); (case l => walk_at "eo"); (case h => walk_at "eo"); (case r => exact rfl)))
local macro_rules | `(tactic| walk_at "et2") => `(tactic| first
  | walk_at "et"
  | ((with_reducible refine' et_is ?a); (case a => walk_at "ev2"))
  | ((with_reducible refine' et_isB ?a); (case a => walk_at "ev2")))
local macro_rules | `(tactic| walk_at "eo") => `(tactic| first
  | with_reducible exact eo_none
  | ((with_reducible refine' eo_some ?a); (case a => walk_at "ev")))
abbrev rNotN : R2 := fun x y H Q => y = .non ∧ Q (.bl (!decide (x = .non))) H
abbrev rIsN : R2 := fun x y H Q => y = .non ∧ Q (.bl (decide (x = .non))) H
section
variable {K : PySem.W.Frag} {σ : St} {H : Hp} {te ta tb tc : TE} {t : TT}
theorem ev_notN {d : PyData} {b : Bool} (h : EvD ta σ H d) (hd : (d = .none ∧ b = false) ∨ ((∃ ds, d = .tuple ds) ∧ b = true)) : EvD (tOp rNotN ta (tC .non)) σ H (.bool b) := fun H1 g _ q => h H1 g _ fun v z H2 ez g2 tz => by
  subst ez
  refine ⟨rfl, ?_⟩
  rcases hd with ⟨e, eb⟩ | ⟨⟨ds, e⟩, eb⟩
  · subst e eb
    have e1 := tz.non_inv
    subst e1
    exact q _ _ H2 rfl g2 (.bl false)
  · subst e eb
    obtain ⟨a, xs, rfl, _⟩ := tz.tup_inv
    exact q _ _ H2 rfl g2 (.bl true)
theorem ev_isN {d : PyData} {b : Bool} (h : EvD ta σ H d) (hd : (d = .none ∧ b = true) ∨ ((∃ ds, d = .tuple ds) ∧ b = false)) : EvD (tOp rIsN ta (tC .non)) σ H (.bool b) := fun H1 g _ q => h H1 g _ fun v z H2 ez g2 tz => by
  subst ez
  refine ⟨rfl, ?_⟩
  rcases hd with ⟨e, eb⟩ | ⟨⟨ds, e⟩, eb⟩
  · subst e eb
    have e1 := tz.non_inv
    subst e1
    exact q _ _ H2 rfl g2 (.bl true)
  · subst e eb
    obtain ⟨a, xs, rfl, _⟩ := tz.tup_inv
    exact q _ _ H2 rfl g2 (.bl false)
theorem ev_lenL {P : List PyData → Prop} (h : EvL ta σ H P) : EvP (tCB (rLenQ K) (tCons ta tNil)) σ H (fun z => ∃ i : Int, z = .int i ∧ True) := fun H1 g _ q =>
  h H1 g _ fun p vs ds H2 pd hp g2 hx ts => ⟨p, vs, rfl, .inl (SqL.of hx), q _ _ H2 ⟨_, rfl, trivial⟩ g2 (.int _)⟩
theorem et_cmpU {P : Int → Prop} {g : Int → Int → Bool} {j : Int} (ha : EvP ta σ H (fun z => ∃ i, z = .int i ∧ P i)) (hb : EvD tb σ H (.int j)) : EvB (tTest (tOp (rI0 fun i j => .bl (g i j)) ta tb)) σ H (fun c => ∃ i, P i ∧ c = g i j) := fun H1 g1 Q q =>
  ha H1 g1 _ fun v z H2 ez g2 tz => hb H2 (g1.trans g2) _ fun v' z' H3 ez' g3 tz' => by
    obtain ⟨i, rfl, p⟩ := ez
    subst ez'
    have e1 := tz.int_inv
    have e2 := tz'.int_inv
    subst e1 e2
    exact ⟨i, j, rfl, rfl, _, rfl, q _ H3 ⟨i, p, rfl⟩ (g2.trans g3)⟩
theorem ev_ifU {R : Bool → Prop} {P : PyData → Prop} (h : EvB t σ H R) (h1 : EvP ta σ H P) (h2 : EvP tb σ H P) : EvP (tIf t ta tb) σ H P := fun H1 g Q q => h H1 g _ fun c H2 ec g2 => by
  cases c with
  | true =>
    show ta σ H2 Q
    exact h1 H2 (g.trans g2) Q fun v d H3 p g3 => q v d H3 p (g2.trans g3)
  | false =>
    show tb σ H2 Q
    exact h2 H2 (g.trans g2) Q fun v d H3 p g3 => q v d H3 p (g2.trans g3)
end
section
variable {P : Program} {w : World} {K : PySem.W.Frag} {mg : Str → Option Value} {base : Heap}
/-! ### weight -/
abbrev s_weight : Stmt := top 34
theorem sc_weight : FnScope ["program"] ["program"] (defScope s_weight) := ⟨rfl, rfl, rfl, by decide +kernel, rfl, by decide +kernel, by decide +kernel⟩
def A_weight (ds : List PyData) (P : PyData → Prop) : Prop := ∃ (b : List S) (ke : Nat), ds = [blk b] ∧ BOk ke 4 b ∧ P = fun d => d = .int (numB (own "weight") b)
theorem df_weight (F : Fn K mg "weight" s_weight ["program"]) (G_counted : Df P w K mg base 7 "counted" ["block", "sort"] (spF (A_counted 4))) : Df P w K mg base 8 "weight" ["program"] (spF A_weight) := by
  refine df_of F sc_weight (spF_len fun ds P h => ?_) (fun f cdv A outer s H vs Q E hr h => ?_)
  · obtain ⟨t, z, rfl, _⟩ := h
    rfl
  obtain ⟨ds, P', ⟨b, ke, rfl, hb, rfl⟩, ts, q⟩ := h
  obtain ⟨v0, rfl, t0⟩ := ts.i1
  refine ⟨_, (pss_one (ps_ret (pe_df G_counted (hr.mono (by first | decide | omega)) (pa_cons (pv 0) (pa_cons pe_str pa_nil))))), ?_⟩
  exact s_ret Mv.rfl (ev_call (A := A_counted 4) (ds := [blk b, .str "weight"]) (by walk_at "ea") ⟨b, _, ke, rfl, hb, rfl⟩) q
/-! ### program_error -/
abbrev s_program_error : Stmt := top 35
theorem sc_program_error : FnScope ["value", "found"] ["value"] (defScope s_program_error) := ⟨rfl, rfl, rfl, by decide +kernel, rfl, by decide +kernel, by decide +kernel⟩
def Verdict (b : List S) : PyData → Prop := fun z => (∃ ds, z = .tuple ds) ∨ (z = .none ∧ numB (own "weight") b ≤ 30 ∧ numB (own "choice") b ≤ 4)
def A_program_error (ds : List PyData) (P : PyData → Prop) : Prop := ∃ (b : List S) (ke : Nat), ds = [blk b] ∧ BOk ke 4 b ∧ ke ≤ 6 ∧ P = Verdict b
theorem df_program_error (F : Fn K mg "program_error" s_program_error ["value"]) (T : Gb K w mg) (G_order_error : Df P w K mg base 14 "order_error" ["value"] (spF A_order_error)) (G_rows_of : Df P w K mg base 3 "rows_of" ["program"] (spFL A_rows_of))
    (G_weight : Df P w K mg base 8 "weight" ["program"] (spF A_weight)) (G_counted : Df P w K mg base 7 "counted" ["block", "sort"] (spF (A_counted 4))) : Df P w K mg base 15 "program_error" ["value"] (spF A_program_error) := by
  refine df_of F sc_program_error (spF_len fun ds P h => ?_) (fun f cdv A outer s H vs Q E hr h => ?_)
  · obtain ⟨t, z, rfl, _⟩ := h
    rfl
  obtain ⟨ds, P', ⟨b, ke, rfl, hb, hke, rfl⟩, ts, q⟩ := h
  obtain ⟨v0, rfl, t0⟩ := ts.i1
  refine ⟨_, (pss_cons (ps_if (pt_not (pt_val (pe_callB (id := "isinstance") (k_isi K) (by rfl) T.isinstance_ (by decide +kernel) (pa_cons (pv 0) (pa_cons (pe_ty "tuple" T.tuple_) pa_nil))))) (pss_one (ps_ret (pe_tup (pa_cons pe_non (pa_cons pe_str pa_nil))))) pss_nil) (pss_cons (ps_set (i := 1) sc_program_error.nd rfl (Or.inl rfl) (pe_df G_order_error (hr.mono (by first | decide | omega)) (pa_cons (pv 0) pa_nil))) (pss_cons (ps_if (pt_cmpR op_notN (pv 1) pe_non (nomark _)) (pss_one (ps_ret (pv 1))) pss_nil) (pss_cons (ps_if (pt_cmpR op_gt (pe_callB (id := "len") (k_len K) (by rfl) T.len_ (by decide +kernel) (pa_cons (pe_df G_rows_of (hr.mono (by first | decide | omega)) (pa_cons (pv 0) pa_nil)) pa_nil)) (pe_gi T.MAX_PLACES) (nomark _)) (pss_one (ps_ret (pe_tup (pa_cons pe_non (pa_cons pe_str pa_nil))))) pss_nil) (pss_cons (ps_if (pt_cmpR op_gt (pe_df G_weight (hr.mono (by first | decide | omega)) (pa_cons (pv 0) pa_nil)) (pe_gi T.MAX_WEIGHT) (nomark _)) (pss_one (ps_ret (pe_tup (pa_cons pe_non (pa_cons pe_str pa_nil))))) pss_nil) (pss_cons (ps_if (pt_cmpR op_gt (pe_df G_counted (hr.mono (by first | decide | omega)) (pa_cons (pv 0) (pa_cons pe_str pa_nil))) (pe_gi T.MAX_CHOICES) (nomark _)) (pss_one (ps_ret (pe_tup (pa_cons pe_non (pa_cons pe_str pa_nil))))) pss_nil) (pss_cons (ps_if (pt_cmpR op_gt (pe_df G_counted (hr.mono (by first | decide | omega)) (pa_cons (pv 0) (pa_cons pe_str pa_nil))) (pe_gi T.MAX_RESTS) (nomark _)) (pss_one (ps_ret (pe_tup (pa_cons pe_non (pa_cons pe_str pa_nil))))) pss_nil) (pss_one (ps_ret (pe_ifExp (pt_cmpR op_gt (pe_df G_counted (hr.mono (by first | decide | omega)) (pa_cons (pv 0) (pa_cons pe_str pa_nil))) (pe_gi T.MAX_COMPARINGS) (nomark _)) (pe_tup (pa_cons pe_non (pa_cons pe_str pa_nil))) pe_non)))))))))), ?_⟩
  have t0' : Td H v0 (.tuple (bds b)) := t0
  refine q_ifF Mv.rfl (by walk_at "et") fun J g => ?_
  refine q_set g (ev_call (A := A_order_error) (ds := [blk b]) (ea_cons (ev_var rfl t0) ea_nil) ⟨b, ke, 4, rfl, hb, hke, Nat.le_refl _, rfl⟩) fun v1 d1 J1 p1 g1 t1 => ?_
  have pair : ∀ {J : Hp} {σ : St} {n : St → Hp → Prop} {x : Str}, Gr H J → tRet (tTup (tCons (tC .non) (tCons (tC (.str x)) tNil))) { nx := n, rt := Q } σ J := fun {J σ n x} g => s_ret g ((ev_tup (ds := [.none, .str x]) (by walk_at "ea") (by show 2 ≤ 1000; decide)).imp fun d e => .inl ⟨_, e⟩) q
  have hcnt : ∀ {v1 : V} {J J1 : Hp} {x : Str}, Gr H J → EvD (tCall (spF (A_counted 4)) [] E0 (tCons (tVar 0) (tCons (tC (.str x)) tNil))) [some v0, some v1] J (.int (numB (own x) b)) := fun {v1 J J1 x} g => ev_call (A := A_counted 4) (ds := [blk b, .str x]) (ea_cons (ev_var rfl (t0.mono g.tup)) (ea_cons ev_str ea_nil)) ⟨b, x, ke, rfl, hb, rfl⟩
  rcases p1 with e | ⟨ds, e⟩
  · subst e
    refine q_ifF Mv.rfl (et_is (ev_notN (ev_var rfl t1) (.inl ⟨rfl, rfl⟩))) fun J2 g2 => ?_
    have gH := g1.trans g2
    refine q_if Mv.rfl (P := Any) (EvB.any (et_cmpU (P := fun _ => True) (ev_lenL (el_call (A := A_rows_of) (ds := [blk b]) (ea_cons (ev_var rfl (t0.mono gH.tup)) ea_nil) ⟨b, ke, 4, rfl, hb, hke, Nat.le_refl _, rfl⟩)) (by walk_at "ev"))) (fun _ J3 g3 => pair (gH.trans g3)) fun _ J3 g3 => ?_
    have gH3 := gH.trans g3
    refine q_if Mv.rfl (P := fun c => ∃ i, i = numB (own "weight") b ∧ c = decide (i > 30)) (et_cmpU ((ev_call (A := A_weight) (ds := [blk b]) (ea_cons (ev_var rfl (t0.mono gH3.tup)) ea_nil) ⟨b, ke, rfl, hb, rfl⟩).imp fun d e => ⟨_, e, rfl⟩) (by walk_at "ev")) (fun _ J4 g4 => pair (gH3.trans g4)) fun ⟨_, e1, e2⟩ J4 g4 => ?_
    have hw := of_decide_eq_false e2.symm
    have gH4 := gH3.trans g4
    refine q_if Mv.rfl (P := fun c => ∃ i, i = numB (own "choice") b ∧ c = decide (i > 4)) (et_cmpU ((hcnt (J1 := J4) gH4).imp fun d e => ⟨_, e, rfl⟩) (by walk_at "ev")) (fun _ J5 g5 => pair (gH4.trans g5)) fun ⟨_, e3, e4⟩ J5 g5 => ?_
    have hc := of_decide_eq_false e4.symm
    have gH5 := gH4.trans g5
    refine q_if Mv.rfl (P := Any) (EvB.any (et_cmpU (P := fun _ => True) ((hcnt (J1 := J4) gH5).imp fun d e => ⟨_, e, trivial⟩) (by walk_at "ev"))) (fun _ J6 g6 => pair (gH5.trans g6)) fun _ J6 g6 => ?_
    have gH6 := gH5.trans g6
    refine s_ret Mv.rfl (P := Verdict b) ?_ fun v d J p g => q v d J p (gH6.trans g)
    refine ev_ifU (et_cmpU (P := fun _ => True) ((hcnt (J1 := J4) gH6).imp fun d e => ⟨_, e, trivial⟩) (by walk_at "ev")) ((ev_tup (ds := [.none, .str "comparings"]) (by walk_at "ea") (by show 2 ≤ 1000; decide)).imp fun d e => .inl ⟨_, e⟩) (ev_non.imp fun d e => .inr ⟨e, by omega, by omega⟩)
  · subst e
    refine q_ifT Mv.rfl (et_is (ev_notN (ev_var rfl t1) (.inr ⟨⟨_, rfl⟩, rfl⟩))) fun J2 g2 => ?_
    exact s_ret g2 ((ev_var rfl t1).imp fun d e => .inl ⟨_, e⟩) fun v d J p g3 => q v d J p (g1.trans g3)
end
end K27
namespace K27
open PySem PySem.Spec L2
open PyProof.Rows hiding St
local macro_rules | `(tactic| walk_at "td") => `(tactic| first | assumption | exact Td.int _ | exact Td.str _ | exact Td.bl _ | exact Td.non)
local macro_rules | `(tactic| walk_at "bq") => `(tactic| first | exact rfl | assumption | decide)
local macro_rules | `(tactic| walk_at "kb") => `(tactic| first | exact kii | exact ksi | exact kti | exact kib | exact kss | exact kis | exact kts | exact ktt | exact kst | exact kit)
local macro_rules | `(tactic| walk_at "ev") => `(tactic| first
  | with_reducible exact ev_int
  | with_reducible exact ev_str
  | with_reducible exact ev_bl
  | with_reducible exact ev_non
  | ((with_reducible refine' ev_var ?e ?t); (case e => exact rfl); (case t => walk_at "td"))
  | ((with_reducible refine' ev_ix ?a ?n ?z); (case a => walk_at "ev"); (case z => decide); (case n => exact rfl))
  | ((with_reducible refine' ev_isi ?a ?k); (case a => walk_at "ev"); (case k => walk_at "kb"))
  | ((with_reducible refine' ev_len ?a ?k); (case a => walk_at "ev"); (case k => exact rfl))
  | ((with_reducible refine' ev_cmpI ?a ?b ?r); (case a => walk_at "ev"); (case b => walk_at "ev"); (case r => walk_at "bq"))
  | ((with_reducible refine' ev_I0 ?a ?b ?r); (case a => walk_at "ev"); (case b => walk_at "ev"); (case r => exact rfl))
  | ((with_reducible refine' ev_eqS ?a ?b ?r); (case a => walk_at "ev"); (case b => walk_at "ev"); (case r => walk_at "bq"))
  | ((with_reducible refine' ev_eqI ?a ?b ?r); (case a => walk_at "ev"); (case b => walk_at "ev"); (case r => walk_at "bq"))
  | ((with_reducible refine' ev_neI ?a ?b ?r); (case a => walk_at "ev"); (case b => walk_at "ev"); (case r => walk_at "bq"))
  | ((with_reducible refine' ev_notV ?a ?r); (case a => walk_at "ev"); (case r => walk_at "bq"))
  | ((with_reducible refine' ev_chain ?a ?b ?c ?r); (case a => walk_at "ev"); (case b => walk_at "ev"); (case c => walk_at "ev"); (case r => walk_at "bq"))
  | ((with_reducible refine' ev_tup ?a ?l); (case a => walk_at "ea"); (case l => (show _ ≤ _; decide))))
local macro_rules | `(tactic| walk_at "ea") => `(tactic| first
  | with_reducible exact ea_nil
  | ((with_reducible refine' ea_cons ?a ?b); (case a => walk_at "ev"); (case b => walk_at "ea")))
local macro_rules | `(tactic| walk_at "et") => `(tactic| first
  | ((with_reducible refine' et_notI ?a ?r); (case a => walk_at "et"); (case r => walk_at "bq"))
  | ((with_reducible refine' et_is ?a); (case a => walk_at "ev"))
  | ((with_reducible refine' et_isB ?a); (case a => walk_at "ev"))
  | ((with_reducible refine' et_and ?a ?b ?c); (case a => walk_at "et"); (case b => (intro _; walk_at "et")); (case c => (intro z; first | exact z | (cases z; done) | rfl)))
  | ((with_reducible refine' et_or ?a ?b ?c); (case a => walk_at "et"); (case b => (intro _; walk_at "et")); (case c => (intro z; first | exact z | (cases z; done) | rfl))))
local macro_rules | `(tactic| walk_at "ev2") => `(tactic| first
  | walk_at "ev"
  | ((with_reducible refine' ev_inT ?a ?p ?s ?d ?f ?x ?b); (case a => walk_at "ev"); (case p => exact evv_c); (case s => assumption); (case d => exact rfl); (case f => exact rfl); (case x => exact rfl); (case b => walk_at "bq"))
  | ((with_reducible refine' ev_inU2 ?a ?p ?l ?d ?x ?f ?y ?b); (case a => walk_at "ev"); (case p => walk_at "ea"); (case l => (show _ ≤ _; decide)); (case d => exact rfl); (case x => exact rfl); (case f => exact rfl); (case y => exact rfl); (case b => walk_at "bq"))
  | ((with_reducible refine' ev_slA ?a ?l ?h ?r); (case a => walk_at "ev"); (case l => walk_at "eo"); (case h => walk_at "eo"); (case r => exact rfl)))
local macro_rules | `(tactic| walk_at "et2") => `(tactic| first
  | walk_at "et"
  | ((with_reducible refine' et_is ?a); (case a => walk_at "ev2"))
  | ((with_reducible refine' et_isB ?a); (case a => walk_at "ev2")))
local macro_rules | `(tactic| walk_at "eo") => `(tactic| first
  | with_reducible exact eo_none
  | ((with_reducible refine' eo_some ?a); (case a => walk_at "ev")))
theorem hu1 {A : Around} (h : A.units + 64 < cLine) : A.units + 1 < cLine := by omega
/-! ### the names' values -/
abbrev Nm := Str → Option Int
def NmOk (kvs : List (L2.Key × V)) (ρ : Nm) : Prop := ∀ x : Str, valV kvs (.inr x) = (ρ x).map V.int
def evE (ρ : Nm) : E → Int
  | .name x => (ρ x).getD 0
  | .int i => i
  | .plus a b => evE ρ a + evE ρ b
  | .minus a b => evE ρ a - evE ρ b
  | .times f a => f * evE ρ a
def evT (ρ : Nm) : Te → Bool
  | .less a b => decide (evE ρ a < evE ρ b)
  | .rest e m r => decide (evE ρ e % m = r)
  | .not t => !evT ρ t
section
variable {K : PySem.W.Frag} {σ : St} {H : Hp} {te ta tb tc : TE} {D : Ends} {v : V} {pn : Addr} {kvs : List (L2.Key × V)} {ρ : Nm}
theorem ev_getN {x : Str} (hn : EvV ta σ H (.ref pn)) (hp : H pn = some (.dK kvs)) (hk : NmOk kvs ρ) (hx : EvD tb σ H (.str x)) : EvD (tDGet2 ta tb (tC (.int 0))) σ H (.int ((ρ x).getD 0)) := fun H1 g Q q =>
  hn H1 g _ fun H2 g2 => ⟨pn, rfl, .inl ⟨kvs, .inl ((g.trans g2).get hp)⟩, hx H2 (g.trans g2) _ fun w z H3 ez g3 tz => by
    subst ez
    have e := tz.str_inv
    subst e
    refine ⟨_, DGet.k (k := .inr x) (((g.trans g2).trans g3).get hp), ?_⟩
    rw [hk x]
    have e2 : (((ρ x).map V.int).getD (V.int 0)) = V.int ((ρ x).getD 0) := by cases ρ x <;> rfl
    rw [e2]
    exact q _ _ H3 rfl (g2.trans g3) (.int _)⟩
/-- a, b, c = a triple -/
theorem q_unp3 {tk : TS} {i a b c : Nat} {d1 d2 d3 : PyData} (hi : σ[i]? = some (some v)) (tv : Td H v (.tuple [d1, d2, d3]))
    (k : ∀ x y z, Td H x d1 → Td H y d2 → Td H z d3 → tk D (((σ.set a (some x)).set b (some y)).set c (some z)) H) : tSeq (tAsg (tVar i) (gTup K 3 (gCons (gName a) (gCons (gName b) (gCons (gName c) gNil))))) tk D σ H := by
  obtain ⟨p, xs, rfl, hp, ts⟩ := tv.tup_inv
  obtain ⟨x, y, z, rfl, tx, ty, tz⟩ := ts.i3
  exact ⟨_, hi, p, _, rfl, SqT.of hp, rfl, x, _, rfl, y, _, rfl, z, _, rfl, rfl, k x y z tx ty tz⟩
def spVal (k : Nat) : Sp := fun vs H Q _ => ∃ (e : E) (v : V) (pn : Addr) (kvs : List (L2.Key × V)) (ρ : Nm), vs = [v, .ref pn] ∧ Td H v e.d ∧ EOk k e ∧ H pn = some (.dK kvs) ∧ NmOk kvs ρ ∧ ∀ J, Gr H J → Q (.int (evE ρ e)) J
theorem ev_val {k : Nat} {E : XK} {e : K27.E} (ha : EvD ta σ H e.d) (hb : EvV tb σ H (.ref pn)) (he : EOk k e) (hp : H pn = some (.dK kvs)) (hk : NmOk kvs ρ) : EvD (tCall (spVal k) [] E (tCons ta (tCons tb tNil))) σ H (.int (evE ρ e)) := fun H1 g Q q =>
  ha H1 g _ fun v z H2 ez g2 tz => hb H2 (g.trans g2) _ fun H3 g3 => by
    subst ez
    exact ⟨e, v, pn, kvs, ρ, rfl, tz.mono g3.tup, he, ((g.trans g2).trans g3).get hp, hk, fun J g4 => q _ _ J rfl ((g2.trans g3).trans g4) (.int _)⟩
def spTrue (k : Nat) : Sp := fun vs H Q _ => ∃ (t : Te) (v : V) (pn : Addr) (kvs : List (L2.Key × V)) (ρ : Nm), vs = [v, .ref pn] ∧ Td H v t.d ∧ TOk k t ∧ H pn = some (.dK kvs) ∧ NmOk kvs ρ ∧ ∀ J, Gr H J → Q (.bl (evT ρ t)) J
theorem ev_true {k : Nat} {E : XK} {t : Te} {sp : Sp} (ha : EvD ta σ H t.d) (hb : EvV tb σ H (.ref pn)) (he : TOk k t) (hp : H pn = some (.dK kvs)) (hk : NmOk kvs ρ) (hsp : ∀ vs H Q E, spTrue k vs H Q E → sp vs H Q E) : EvD (tCall sp [] E (tCons ta (tCons tb tNil))) σ H (.bool (evT ρ t)) := fun H1 g Q q =>
  ha H1 g _ fun v z H2 ez g2 tz => hb H2 (g.trans g2) _ fun H3 g3 => by
    subst ez
    exact hsp _ _ _ _ ⟨t, v, pn, kvs, ρ, rfl, tz.mono g3.tup, he, ((g.trans g2).trans g3).get hp, hk, fun J g4 => q _ _ J rfl ((g2.trans g3).trans g4) (.bl _)⟩
end
section
variable {P : Program} {w : World} {K : PySem.W.Frag} {mg : Str → Option Value} {base : Heap}
/-! ### value_of -/
abbrev s_value_of : Stmt := top 41
theorem sc_value_of : FnScope ["expression", "names", "sort", "first", "second"] ["expression", "names"] (defScope s_value_of) := ⟨rfl, rfl, rfl, by decide +kernel, rfl, by decide +kernel, by decide +kernel⟩
theorem df_value_of (F : Fn K mg "value_of" s_value_of ["expression", "names"]) (T : Gb K w mg) : ∀ k, Df P w K mg base (k + 1) "value_of" ["expression", "names"] (spVal k)
  | 0 => df_void F fun vs H Q E h => by
    obtain ⟨_, _, _, _, _, _, _, h, _⟩ := h
    exact h.elim
  | k + 1 => by
    have G_value_of := df_value_of F T k
    refine df_of F sc_value_of (fun vs H Q E h => ?_) (fun f cdv A outer s H vs Q E hr h => ?_)
    · obtain ⟨_, _, _, _, _, rfl, _⟩ := h
      rfl
    obtain ⟨e, v0, pn, kvs, ρ, rfl, t0, he, hp, hk, q⟩ := h
    refine ⟨_, (pss_cons (ps_if (pt_val (pe_callB (id := "isinstance") (k_isi K) (by rfl) T.isinstance_ (by decide +kernel) (pa_cons (pv 0) (pa_cons (pe_ty "str" T.str_) pa_nil)))) (pss_one (ps_ret (pe_dget2 (hu1 hr.units) (pv 1) (pv 0) pe_int (by constructor <;> first | rfl | (intros; rfl))))) pss_nil) (pss_cons (ps_if (pt_val (pe_callB (id := "isinstance") (k_isi K) (by rfl) T.isinstance_ (by decide +kernel) (pa_cons (pv 0) (pa_cons (pe_ty "int" T.int_) pa_nil)))) (pss_one (ps_ret (pv 0))) pss_nil) (pss_cons (ps_asg (pv 0) (pg_tup (by rfl) (pgs_cons (pg_name (i := 2) sc_value_of.nd rfl (Or.inl rfl)) (pgs_cons (pg_name (i := 3) sc_value_of.nd rfl (Or.inl rfl)) (pgs_cons (pg_name (i := 4) sc_value_of.nd rfl (Or.inl rfl)) pgs_nil))))) (pss_cons (ps_if (pt_cmpR op_eq (pv 2) pe_str (nomark _)) (pss_one (ps_ret (pe_op op_mul (pv 3) (pe_df G_value_of (hr.mono (by first | decide | omega)) (pa_cons (pv 4) (pa_cons (pv 1) pa_nil)))))) pss_nil) (pss_cons (ps_if (pt_cmpR op_eq (pv 2) pe_str (nomark _)) (pss_one (ps_ret (pe_op op_add (pe_df G_value_of (hr.mono (by first | decide | omega)) (pa_cons (pv 3) (pa_cons (pv 1) pa_nil))) (pe_df G_value_of (hr.mono (by first | decide | omega)) (pa_cons (pv 4) (pa_cons (pv 1) pa_nil)))))) pss_nil) (pss_one (ps_ret (pe_op op_sub (pe_df G_value_of (hr.mono (by first | decide | omega)) (pa_cons (pv 3) (pa_cons (pv 1) pa_nil))) (pe_df G_value_of (hr.mono (by first | decide | omega)) (pa_cons (pv 4) (pa_cons (pv 1) pa_nil))))))))))), ?_⟩
    cases e with
    | name x =>
      have t0' : Td H v0 (.str x) := t0
      refine q_ifT Mv.rfl (by walk_at "et") fun J g => ?_
      exact s_ret g (P := fun d => d = .int ((ρ x).getD 0)) (ev_getN (evv_var rfl) hp hk (by walk_at "ev")) fun v d J p g t => by
        subst p
        have e := t.int_inv
        subst e
        exact q J g
    | int i =>
      have t0' : Td H v0 (.int i) := t0
      refine q_ifF Mv.rfl (by walk_at "et") fun J g => ?_
      refine q_ifT g (by walk_at "et") fun J g => ?_
      exact s_ret g (P := fun d => d = .int i) (by walk_at "ev") fun v d J p g t => by
        subst p
        have e := t.int_inv
        subst e
        exact q J g
    | plus a b =>
      have t0' : Td H v0 (.tuple [.str "plus", a.d, b.d]) := t0
      refine q_ifF Mv.rfl (by walk_at "et") fun J g => ?_
      refine q_ifF g (by walk_at "et") fun J g => ?_
      refine q_unp3 (i := 0) rfl (t0'.mono g.tup) fun x y z tx ty tz => ?_
      have e := tx.str_inv
      subst e
      have hp2 := g.get hp
      refine q_ifF (g := Mv.rfl) (by walk_at "et") fun J2 g2 => ?_
      refine q_ifT g2 (by walk_at "et") fun J2 g2 => ?_
      exact s_ret g2 (P := fun d => d = .int (evE ρ a + evE ρ b)) (ev_I0 (ev_val (ev_var rfl ty) (evv_var rfl) he.1 hp2 hk) (ev_val (ev_var rfl tz) (evv_var rfl) he.2 hp2 hk) rfl) fun v d J3 p g3 t => by
        subst p
        have e := t.int_inv
        subst e
        exact q J3 (g.trans g3)
    | minus a b =>
      have t0' : Td H v0 (.tuple [.str "minus", a.d, b.d]) := t0
      refine q_ifF Mv.rfl (by walk_at "et") fun J g => ?_
      refine q_ifF g (by walk_at "et") fun J g => ?_
      refine q_unp3 (i := 0) rfl (t0'.mono g.tup) fun x y z tx ty tz => ?_
      have e := tx.str_inv
      subst e
      have hp2 := g.get hp
      refine q_ifF (g := Mv.rfl) (by walk_at "et") fun J2 g2 => ?_
      refine q_ifF g2 (by walk_at "et") fun J2 g2 => ?_
      exact s_ret g2 (P := fun d => d = .int (evE ρ a - evE ρ b)) (ev_I0 (ev_val (ev_var rfl ty) (evv_var rfl) he.1 hp2 hk) (ev_val (ev_var rfl tz) (evv_var rfl) he.2 hp2 hk) rfl) fun v d J3 p g3 t => by
        subst p
        have e := t.int_inv
        subst e
        exact q J3 (g.trans g3)
    | times f a =>
      have t0' : Td H v0 (.tuple [.str "times", .int f, a.d]) := t0
      refine q_ifF Mv.rfl (by walk_at "et") fun J g => ?_
      refine q_ifF g (by walk_at "et") fun J g => ?_
      refine q_unp3 (i := 0) rfl (t0'.mono g.tup) fun x y z tx ty tz => ?_
      have e := tx.str_inv
      subst e
      have hp2 := g.get hp
      refine q_ifT (g := Mv.rfl) (by walk_at "et") fun J2 g2 => ?_
      have hf : CMul f (evE ρ a) := .inl (by have := he.1; omega)
      exact s_ret g2 (P := fun d => d = .int (f * evE ρ a)) (ev_I (ev_var rfl ty) (ev_val (ev_var rfl tz) (evv_var rfl) he.2 hp2 hk) hf rfl) fun v d J3 p g3 t => by
        subst p
        have e := t.int_inv
        subst e
        exact q J3 (g.trans g3)
/-! ### is_true -/
abbrev s_is_true : Stmt := top 42
theorem sc_is_true : FnScope ["test", "names"] ["test", "names"] (defScope s_is_true) := ⟨rfl, rfl, rfl, by decide +kernel, rfl, by decide +kernel, by decide +kernel⟩
theorem df_is_true (F : Fn K mg "is_true" s_is_true ["test", "names"]) (T : Gb K w mg) (G_value_of : Df P w K mg base 4 "value_of" ["expression", "names"] (spVal 3)) {k : Nat}
    (G_is_true : Df P w K mg base (k + 4) "is_true" ["test", "names"] (fun vs H Q E => ∃ m, m + 1 = k ∧ spTrue m vs H Q E)) : Df P w K mg base (k + 5) "is_true" ["test", "names"] (spTrue k) := by
  refine df_of F sc_is_true (fun vs H Q E h => ?_) (fun f cdv A outer s H vs Q E hr h => ?_)
  · obtain ⟨_, _, _, _, _, rfl, _⟩ := h
    rfl
  obtain ⟨t, v0, pn, kvs, ρ, rfl, t0, he, hp, hk, q⟩ := h
  refine ⟨_, (pss_cons (ps_if (pt_cmpR op_eq (pe_ix (k_ixT K) (pv 0) pe_int (fun _ _ => rfl)) pe_str (nomark _)) (pss_one (ps_ret (pe_not (pe_df G_is_true (hr.mono (by first | decide | omega)) (pa_cons (pe_ix (k_ixT K) (pv 0) pe_int (fun _ _ => rfl)) (pa_cons (pv 1) pa_nil)))))) pss_nil) (pss_cons (ps_if (pt_cmpR op_eq (pe_ix (k_ixT K) (pv 0) pe_int (fun _ _ => rfl)) pe_str (nomark _)) (pss_one (ps_ret (pe_cmpR op_eq (pe_op op_mod (pe_df G_value_of (hr.mono (by first | decide | omega)) (pa_cons (pe_ix (k_ixT K) (pv 0) pe_int (fun _ _ => rfl)) (pa_cons (pv 1) pa_nil))) (pe_ix (k_ixT K) (pv 0) pe_int (fun _ _ => rfl))) (pe_ix (k_ixT K) (pv 0) pe_int (fun _ _ => rfl)) (nomark _)))) pss_nil) (pss_one (ps_ret (pe_cmpR op_lt (pe_df G_value_of (hr.mono (by first | decide | omega)) (pa_cons (pe_ix (k_ixT K) (pv 0) pe_int (fun _ _ => rfl)) (pa_cons (pv 1) pa_nil))) (pe_df G_value_of (hr.mono (by first | decide | omega)) (pa_cons (pe_ix (k_ixT K) (pv 0) pe_int (fun _ _ => rfl)) (pa_cons (pv 1) pa_nil))) (nomark _)))))), ?_⟩
  have fin : ∀ {b : Bool}, evT ρ t = b → ∀ (v : V) (d : PyData) (J : Hp), d = .bool b → Gr H J → Td J v d → Q v J := fun {b} eb v d J p g t => by
    subst p eb
    have e := t.bl_inv
    subst e
    exact q J g
  cases t with
  | less a b =>
    have t0' : Td H v0 (.tuple [.str "less", a.d, b.d]) := t0
    have he' : EOk 3 a ∧ EOk 3 b := by cases k <;> exact he
    refine q_ifF Mv.rfl (by walk_at "et") fun J g => ?_
    refine q_ifF g (by walk_at "et") fun J g => ?_
    exact s_ret g (ev_cmpI (ev_val (k := 3) (by walk_at "ev") (evv_var rfl) he'.1 hp hk) (ev_val (k := 3) (by walk_at "ev") (evv_var rfl) he'.2 hp hk) rfl) (fin rfl)
  | rest a m r =>
    have t0' : Td H v0 (.tuple [.str "rest", a.d, .int m, .int r]) := t0
    have he' : EOk 3 a ∧ (2 ≤ m ∧ m ≤ 6) ∧ (0 ≤ r ∧ r < m) := by cases k <;> exact he
    refine q_ifF Mv.rfl (by walk_at "et") fun J g => ?_
    refine q_ifT g (by walk_at "et") fun J g => ?_
    exact s_ret g (ev_eqI (ev_I (i := evE ρ a) (j := m) (ev_val (k := 3) (by walk_at "ev") (evv_var rfl) he'.1 hp hk) (by walk_at "ev") (by have := he'.2.1; omega) rfl) (by walk_at "ev") rfl) (fin rfl)
  | not u =>
    have t0' : Td H v0 (.tuple [.str "not", u.d]) := t0
    cases k with
    | zero => exact he.elim
    | succ k =>
    refine q_ifT Mv.rfl (by walk_at "et") fun J g => ?_
    exact s_ret g (ev_notV (a := evT ρ u) (ev_true (by walk_at "ev") (evv_var rfl) he hp hk fun vs H Q E h => ⟨k, rfl, h⟩) rfl) (fin rfl)
theorem df_is_true_all (F : Fn K mg "is_true" s_is_true ["test", "names"]) (T : Gb K w mg) (G_value_of : Df P w K mg base 4 "value_of" ["expression", "names"] (spVal 3)) : ∀ k, Df P w K mg base (k + 5) "is_true" ["test", "names"] (spTrue k)
  | 0 => df_is_true F T G_value_of (df_void F fun vs H Q E h => by
    obtain ⟨m, h, _⟩ := h
    omega)
  | k + 1 => df_is_true F T G_value_of ((df_is_true_all F T G_value_of k).imp fun vs H Q E h => by
    obtain ⟨m, hm, h⟩ := h
    have e : m = k := by omega
    subst e
    exact h)
end
end K27
namespace K27
open PySem PySem.Spec L2
open PyProof.Rows hiding St
local macro_rules | `(tactic| walk_at "td") => `(tactic| first | assumption | exact Td.int _ | exact Td.str _ | exact Td.bl _ | exact Td.non)
local macro_rules | `(tactic| walk_at "bq") => `(tactic| first | exact rfl | assumption | decide)
local macro_rules | `(tactic| walk_at "kb") => `(tactic| first | exact kii | exact ksi | exact kti | exact kib | exact kss | exact kis | exact kts | exact ktt | exact kst | exact kit)
local macro_rules | `(tactic| walk_at "ev") => `(tactic| first
  | with_reducible exact ev_int
  | with_reducible exact ev_str
  | with_reducible exact ev_bl
  | with_reducible exact ev_non
  | ((with_reducible refine' ev_var ?e ?t); (case e => exact rfl); (case t => walk_at "td"))
  | ((with_reducible refine' ev_ix ?a ?n ?z); (case a => walk_at "ev"); (case z => decide); (case n => exact rfl))
  | ((with_reducible refine' ev_isi ?a ?k); (case a => walk_at "ev"); (case k => walk_at "kb"))
  | ((with_reducible refine' ev_len ?a ?k); (case a => walk_at "ev"); (case k => exact rfl))
  | ((with_reducible refine' ev_cmpI ?a ?b ?r); (case a => walk_at "ev"); (case b => walk_at "ev"); (case r => walk_at "bq"))
  | ((with_reducible refine' ev_I0 ?a ?b ?r); (case a => walk_at "ev"); (case b => walk_at "ev"); (case r => exact rfl))
  | ((with_reducible refine' ev_eqS ?a ?b ?r); (case a => walk_at "ev"); (case b => walk_at "ev"); (case r => walk_at "bq"))
  | ((with_reducible refine' ev_eqI ?a ?b ?r); (case a => walk_at "ev"); (case b => walk_at "ev"); (case r => walk_at "bq"))
  | ((with_reducible refine' ev_neI ?a ?b ?r); (case a => walk_at "ev"); (case b => walk_at "ev"); (case r => walk_at "bq"))
  | ((with_reducible refine' ev_notV ?a ?r); (case a => walk_at "ev"); (case r => walk_at "bq"))
  | ((with_reducible refine' ev_chain ?a ?b ?c ?r); (case a => walk_at "ev"); (case b => walk_at "ev"); (case c => walk_at "ev"); (case r => walk_at "bq"))
  | ((with_reducible refine' ev_tup ?a ?l); (case a => walk_at "ea"); (case l => (show _ ≤ _; decide))))
local macro_rules | `(tactic| walk_at "ea") => `(tactic| first
  | with_reducible exact ea_nil
  | ((with_reducible refine' ea_cons ?a ?b); (case a => walk_at "ev"); (case b => walk_at "ea")))
local macro_rules | `(tactic| walk_at "et") => `(tactic| first
  | ((with_reducible refine' et_notI ?a ?r); (case a => walk_at "et"); (case r => walk_at "bq"))
  | ((with_reducible refine' et_is ?a); (case a => walk_at "ev"))
  | ((with_reducible refine' et_isB ?a); (case a => walk_at "ev"))
  | ((with_reducible refine' et_and ?a ?b ?c); (case a => walk_at "et"); (case b => (intro _; walk_at "et")); (case c => (intro z; first | exact z | (cases z; done) | rfl)))
  | ((with_reducible refine' et_or ?a ?b ?c); (case a => walk_at "et"); (case b => (intro _; walk_at "et")); (case c => (intro z; first | exact z | (cases z; done) | rfl))))
local macro_rules | `(tactic| walk_at "ev2") => `(tactic| first
  | walk_at "ev"
  | ((with_reducible refine' ev_inT ?a ?p ?s ?d ?f ?x ?b); (case a => walk_at "ev"); (case p => exact evv_c); (case s => assumption); (case d => exact rfl); (case f => exact rfl); (case x => exact rfl); (case b => walk_at "bq"))
  | ((with_reducible refine' ev_inU2 ?a ?p ?l ?d ?x ?f ?y ?b); (case a => walk_at "ev"); (case p => walk_at "ea"); (case l => (show _ ≤ _; decide)); (case d => exact rfl); (case x => exact rfl); (case f => exact rfl); (case y => exact rfl); (case b => walk_at "bq"))
  | ((with_reducible refine' ev_slA ?a ?l ?h ?r); (case a => walk_at "ev"); (case l => walk_at "eo"); (case h => walk_at "eo"); (case r => exact rfl)))
local macro_rules | `(tactic| walk_at "et2") => `(tactic| first
  | walk_at "et"
  | ((with_reducible refine' et_is ?a); (case a => walk_at "ev2"))
  | ((with_reducible refine' et_isB ?a); (case a => walk_at "ev2")))
local macro_rules | `(tactic| walk_at "eo") => `(tactic| first
  | with_reducible exact eo_none
  | ((with_reducible refine' eo_some ?a); (case a => walk_at "ev")))
/-! ### the course, as a Lean function -/
structure C where
  ρ : Nm
  tot : Int
  m : Nat
  hs : List Bool
  st : Bool
  n : Nat
def pick (a : List Int) (i : Nat) : Int := (a[i]?).getD 0
def turnsOf (a : List Int) (m : Nat) : List Int := (List.range m).map (pick a)
def C.tick (c : C) : C := { c with n := c.n + 1 }
def C.chosen (c : C) (h : Bool) : C := { c with m := c.m + 1, hs := c.hs ++ [h], n := c.n + 1 }
def rpt : Nat → (C → C) → C → C
  | 0, _, c => c
  | k + 1, f, c => f (rpt k f c)
mutual
def doS (a : List Int) : S → C → C
  | .set x e, c => { c with ρ := fun y => if y = x then some (evE c.ρ e) else c.ρ y, n := c.n + 1 }
  | .pay e, c => { c with tot := c.tot + evE c.ρ e, n := c.n + 1 }
  | .stop, c => { c with st := true, n := c.n + 1 }
  | .ite t y z, c => if evT c.ρ t then goB a y c.tick else goB a z c.tick
  | .ch h x y, c => if pick a c.m = 0 then goB a x (c.chosen h) else goB a y (c.chosen h)
  | .rep k b, c => rpt k.toNat (goB a b) c.tick
def goB (a : List Int) : List S → C → C
  | [], c => c
  | s :: r, c => goB a r (if c.st then c else doS a s c)
end
theorem goB_append (a : List Int) : ∀ (x y : List S) (c : C), goB a (x ++ y) c = goB a y (goB a x c)
  | [], y, c => by rw [List.nil_append, goB]
  | s :: r, y, c => by rw [List.cons_append, goB, goB, goB_append a r y]
/-- a bound that each statement pays into -/
structure Pays (a : List Int) (o : S → Int) (μ : C → Int) : Prop where
  o0 : ∀ s, 0 ≤ o s
  set : ∀ x e c, μ (doS a (.set x e) c) ≤ μ c + o (.set x e)
  pay : ∀ e c, μ (doS a (.pay e) c) ≤ μ c + o (.pay e)
  stop : ∀ c, μ (doS a .stop c) ≤ μ c + o .stop
  ite : ∀ t y z c, μ c.tick ≤ μ c + o (.ite t y z)
  ch : ∀ h y z c, μ (c.chosen h) ≤ μ c + o (.ch h y z)
  rep : ∀ k y c, μ c.tick ≤ μ c + o (.rep k y)
theorem num_nonneg {o : S → Int} (h0 : ∀ s, 0 ≤ o s) : ∀ (n : Nat) (s : S) (ke : Nat), SOk ke n s → 0 ≤ s.num o
  | 0, _, _, h => h.elim
  | n + 1, s, ke, h => by
    have hb : ∀ b : List S, (∀ s ∈ b, SOk ke n s) → 0 ≤ numB o b := fun b => by
      induction b with
      | nil => intro _; rw [numB]; exact Int.le_refl _
      | cons x r ih =>
        intro hb
        have h1 := num_nonneg h0 n x ke (hb x List.mem_cons_self)
        have h2 := ih fun y hy => hb y (List.mem_cons_of_mem _ hy)
        rw [numB]; omega
    have h1 := h0 s
    cases s with
    | set x e => rw [S.num.eq_def]; exact h1
    | pay e => rw [S.num.eq_def]; exact h1
    | stop => rw [S.num.eq_def]; exact h1
    | ite t y z =>
      have h2 := hb y h.2.1.2
      have h3 := hb z h.2.2.2
      rw [S.num]; omega
    | ch c y z =>
      have h2 := hb y h.1.2
      have h3 := hb z h.2.2
      rw [S.num]; omega
    | rep m y =>
      have h2 := hb y h.2.2
      have h3 : 0 ≤ (numB o y + 0) * m := Int.mul_nonneg (by omega) (by have := h.1.1; omega)
      rw [S.num]; omega
theorem numB_nonneg {o : S → Int} (h0 : ∀ s, 0 ≤ o s) {n ke : Nat} : ∀ {b : List S}, (∀ s ∈ b, SOk ke n s) → 0 ≤ numB o b
  | [], _ => by rw [numB]; exact Int.le_refl _
  | x :: r, hb => by
    have h1 := num_nonneg h0 n x ke (hb x List.mem_cons_self)
    have h2 := numB_nonneg h0 (b := r) fun y hy => hb y (List.mem_cons_of_mem _ hy)
    rw [numB]; omega
theorem goB_pays {a : List Int} {o : S → Int} {μ : C → Int} (h0 : ∀ s, 0 ≤ o s) {n ke : Nat} (hd : ∀ s, SOk ke n s → ∀ c, μ (doS a s c) ≤ μ c + s.num o) : ∀ (b : List S), (∀ s ∈ b, SOk ke n s) → ∀ c, μ (goB a b c) ≤ μ c + numB o b
  | [], _, c => by rw [goB, numB]; omega
  | s :: r, hb, c => by
    have h1 := goB_pays h0 hd r (fun y hy => hb y (List.mem_cons_of_mem _ hy)) (if c.st then c else doS a s c)
    have h2 := hd s (hb s List.mem_cons_self) c
    have h3 := num_nonneg h0 n s ke (hb s List.mem_cons_self)
    rw [goB, numB]
    cases e : c.st with
    | true =>
      rw [e, if_pos rfl] at h1
      rw [if_pos rfl]; omega
    | false =>
      rw [e, if_neg Bool.false_ne_true] at h1
      rw [if_neg Bool.false_ne_true]; omega
theorem rpt_pays {μ : C → Int} {f : C → C} {z : Int} (hf : ∀ c, μ (f c) ≤ μ c + z) : ∀ (k : Nat) (c : C), μ (rpt k f c) ≤ μ c + k * z
  | 0, c => by rw [rpt]; simp
  | k + 1, c => by
    have h1 := rpt_pays hf k c
    have h2 := hf (rpt k f c)
    rw [rpt, Int.natCast_add, Int.add_mul, Int.natCast_one, Int.one_mul]; omega
theorem doS_pays {a : List Int} {o : S → Int} {μ : C → Int} (p : Pays a o μ) : ∀ (n : Nat) (s : S) (ke : Nat), SOk ke n s → ∀ c, μ (doS a s c) ≤ μ c + s.num o
  | 0, _, _, h, _ => h.elim
  | n + 1, s, ke, h, c => by
    have hb : ∀ b : List S, (∀ s ∈ b, SOk ke n s) → ∀ c, μ (goB a b c) ≤ μ c + numB o b := goB_pays p.o0 fun s hs c => doS_pays p n s ke hs c
    cases s with
    | set x e => rw [S.num.eq_def]; exact p.set x e c
    | pay e => rw [S.num.eq_def]; exact p.pay e c
    | stop => rw [S.num.eq_def]; exact p.stop c
    | ite t y z =>
      have h1 := p.ite t y z c
      have h2 := hb y h.2.1.2 c.tick
      have h3 := hb z h.2.2.2 c.tick
      have h4 := numB_nonneg p.o0 h.2.1.2
      have h5 := numB_nonneg p.o0 h.2.2.2
      rw [doS, S.num]
      split <;> omega
    | ch b y z =>
      have h1 := p.ch b y z c
      have h2 := hb y h.1.2 (c.chosen b)
      have h3 := hb z h.2.2 (c.chosen b)
      have h4 := numB_nonneg p.o0 h.1.2
      have h5 := numB_nonneg p.o0 h.2.2
      rw [doS, S.num]
      split <;> omega
    | rep k y =>
      have h1 := p.rep k y c
      have h2 := rpt_pays (μ := μ) (f := goB a y) (z := numB o y) (hb y h.2.2) k.toNat c.tick
      have h3 : ((k.toNat : Nat) : Int) = k := Int.toNat_of_nonneg (by have := h.1.1; omega)
      rw [h3, Int.mul_comm] at h2
      rw [doS, S.num, Int.add_zero]; omega
theorem paysN (a : List Int) : Pays a (own "weight") (fun c => (c.n : Int)) := by
  constructor <;> intros <;> simp [own, doS, C.tick, C.chosen]
theorem paysM (a : List Int) : Pays a (own "choice") (fun c => (c.m : Int)) where
  o0 := fun s => by
    show 0 ≤ (if ("choice" : Str) = "weight" then (1 : Int) else if ("choice" : Str) = "choice" then _ else _)
    rw [if_neg (by decide +kernel), if_pos rfl]
    cases s <;> first | exact Int.le_refl _ | exact (by decide : (0 : Int) ≤ 1)
  set := fun x e c => by rw [doS]; show (c.m : Int) ≤ c.m + 0; omega
  pay := fun e c => by rw [doS]; show (c.m : Int) ≤ c.m + 0; omega
  stop := fun c => by rw [doS]; show (c.m : Int) ≤ c.m + 0; omega
  ite := fun t y z c => by show (c.m : Int) ≤ c.m + 0; omega
  ch := fun h y z c => by show ((c.m + 1 : Nat) : Int) ≤ c.m + 1; omega
  rep := fun k y c => by show (c.m : Int) ≤ c.m + 0; omega
theorem goB_n {a : List Int} {b : List S} {ke n : Nat} (h : ∀ s ∈ b, SOk ke n s) (c : C) : ((goB a b c).n : Int) ≤ c.n + numB (own "weight") b := goB_pays (μ := fun c => (c.n : Int)) (paysN a).o0 (fun s hs c => doS_pays (paysN a) n s ke hs c) b h c
theorem goB_m {a : List Int} {b : List S} {ke n : Nat} (h : ∀ s ∈ b, SOk ke n s) (c : C) : ((goB a b c).m : Int) ≤ c.m + numB (own "choice") b := goB_pays (μ := fun c => (c.m : Int)) (paysM a).o0 (fun s hs c => doS_pays (paysM a) n s ke hs c) b h c
theorem doS_n {a : List Int} {s : S} {ke n : Nat} (h : SOk ke n s) (c : C) : ((doS a s c).n : Int) ≤ c.n + s.num (own "weight") := doS_pays (paysN a) n s ke h c
/-! ### the course, as an object -/
theorem turnsOf_len (a : List Int) (m : Nat) : (turnsOf a m).length = m := by unfold turnsOf; rw [List.length_map, List.length_range]
theorem turnsOf_succ (a : List Int) (m : Nat) : turnsOf a (m + 1) = turnsOf a m ++ [pick a m] := by unfold turnsOf; rw [List.range_succ, List.map_append]; rfl
abbrev CoA (K : PySem.W.Frag) : Addr := He.ga K "Course"
structure Co (K : PySem.W.Frag) (mg : Str → Option Value) : Prop where
  cls : Cls K (CoA K)
  names : NoAttr K (CoA K) "names"
  total : NoAttr K (CoA K) "total"
  turns : NoAttr K (CoA K) "turns"
  hands : NoAttr K (CoA K) "hands"
  asked : NoAttr K (CoA K) "asked"
  stopped : NoAttr K (CoA K) "is_stopped"
  glo : mg "Course" = some (.ref (CoA K))
  mkr : Mk K (CoA K) (He.ma K (CoA K) "__init__")
abbrev flds (pn pt ph : Addr) (va : V) (tot : Int) (st : Bool) : List (Str × V) := [("names", .ref pn), ("total", .int tot), ("turns", .ref pt), ("hands", .ref ph), ("asked", va), ("is_stopped", .bl st)]
def handsV (hs : List Bool) : List V := hs.map fun h => V.str (hand h)
structure Ob (K : PySem.W.Frag) (H : Hp) (a : List Int) (po pn pt ph : Addr) (va : V) (c : C) : Prop where
  ob : ∃ dx, H po = some (.ins (CoA K) dx (flds pn pt ph va c.tot c.st))
  nm : ∃ kvs, H pn = some (.dK kvs) ∧ NmOk kvs c.ρ ∧ kvs.length ≤ c.n + 1
  tn : H pt = some (.lst ((turnsOf a c.m).map V.int))
  hs : H ph = some (.lst (handsV c.hs))
  asked : Td H va (.tuple (a.map .int))
  ne : pt ≠ ph
  len : c.hs.length = c.m ∧ c.m ≤ c.n
  bits : ∀ x ∈ a, x = 0 ∨ x = 1
section
variable {K : PySem.W.Frag} {σ : St} {H J : Hp} {te ta tb tc : TE} {D : Ends} {v va : V} {a : List Int} {po pn pt ph : Addr} {c : C}
theorem Ob.mono (g : Gr H J) (h : Ob K H a po pn pt ph va c) : Ob K J a po pn pt ph va c := by
  obtain ⟨⟨dx, h1⟩, ⟨kvs, h2, h3, h4⟩, h5, h6, h7, h8, h9, h10⟩ := h
  exact ⟨⟨dx, g.get h1⟩, ⟨kvs, g.get h2, h3, h4⟩, g.get h5, g.get h6, h7.mono g.tup, h8, h9, h10⟩
theorem Ob.tick (h : Ob K H a po pn pt ph va c) : Ob K H a po pn pt ph va c.tick := by
  obtain ⟨h1, ⟨kvs, h2, h3, h4⟩, h5, h6, h7, h8, h9, h10⟩ := h
  exact ⟨h1, ⟨kvs, h2, h3, by show _ ≤ c.n + 1 + 1; omega⟩, h5, h6, h7, h8, ⟨h9.1, by show c.m ≤ c.n + 1; have := h9.2; omega⟩, h10⟩
theorem pick_bit (h : ∀ x ∈ a, x = 0 ∨ x = 1) (i : Nat) : pick a i = 0 ∨ pick a i = 1 := by
  unfold pick
  cases e : a[i]? with
  | none => exact .inl rfl
  | some x => exact h x (List.mem_of_getElem? e)
theorem evv_fld {f : Str} {dx : Addr} {fs : List (Str × V)} (ha : EvV ta σ H (.ref po)) (hp : H po = some (.ins (CoA K) dx fs)) (hc : Cls K (CoA K)) (hn : NoAttr K (CoA K) f) (hl : fs.lookup f = some v) : EvV (tFld K ta f) σ H v := fun H1 g Q q =>
  ha H1 g _ fun H2 g2 => ⟨po, CoA K, dx, fs, v, rfl, (g.trans g2).get hp, hc, hn, hl, q H2 g2⟩
theorem EvV.d {d : PyData} (h : EvV te σ H v) (t : Td H v d) : EvD te σ H d := fun H1 g Q q => h H1 g _ fun H2 g2 => q v d H2 rfl g2 (t.mono (g.trans g2).tup)
theorem ev_lenV {p : Addr} {xs : List V} (ha : EvV ta σ H (.ref p)) (hp : H p = some (.lst xs)) : EvD (tCB (rLenQ K) (tCons ta tNil)) σ H (.int xs.length) := fun H1 g Q q =>
  ha H1 g _ fun H2 g2 => ⟨p, xs, rfl, .inl (SqL.of ((g.trans g2).get hp)), q _ _ H2 rfl g2 (.int _)⟩
theorem ev_ixTv {n : Nat} {ds : List PyData} {d : PyData} (ha : EvD ta σ H (.tuple ds)) (hb : EvD tb σ H (.int (n : Int))) (hn : ds[n]? = some d) : EvD (tOp (rIxT K) ta tb) σ H d := fun H1 g Q q =>
  ha H1 g _ fun v z H2 ez g2 tz => hb H2 (g.trans g2) _ fun v' z' H3 ez' g3 tz' => by
    subst ez ez'
    have e := tz'.int_inv
    subst e
    obtain ⟨a, xs, rfl, h1, t⟩ := tz.tup_inv
    obtain ⟨v, hv, tv⟩ := t.get hn
    exact ⟨a, xs, _, v, rfl, rfl, SqT.of (g3.get h1), atI_get hv, q v d H3 rfl (g2.trans g3) (tv.mono g3.tup)⟩
/-- e.append(v), e a list by its place -/
theorem q_appV {tk : TS} {p : Addr} {vs : List V} (hi : EvV ta σ H (.ref p)) (hp : H p = some (.lst vs)) (hl : vs.length < sizeLine) (he : EvV te σ H v) (k : ∀ J, Gr H J → tk D σ (upd J p (.lst (vs ++ [v])))) :
    tSeq (tDrop (tBM K "list" rAppend ta (tCons te tNil))) tk D σ H :=
  hi H Mv.rfl _ fun H2 g2 => ⟨.inl ⟨rfl, _, SqL.of (g2.get hp)⟩, he H2 g2 _ fun H3 g3 => ⟨p, vs, v, rfl, rfl, (g2.trans g3).get hp, hl, k H3 (g2.trans g3)⟩⟩
end
section
variable {P : Program} {w : World} {K : PySem.W.Frag} {mg : Str → Option Value} {base : Heap}
/-! ### methods -/
def Fm (K : PySem.W.Frag) (m qual : Str) (st : Stmt) (ps : List Str) : Prop := ∃ f fd, Fun K m qual st f fd ∧ Meth K (CoA K) m f ∧ Binds K fd ps []
structure Mt (P : Program) (w : World) (K : PySem.W.Frag) (mg : Str → Option Value) (base : Heap) (k : Nat) (m : Str) (ps : List Str) (sp : Sp) : Prop where
  ex : ∃ (f : Addr) (fd : FuncData), FnOk P w K mg base CX0 k f fd ps sp ∧ Meth K (CoA K) m f ∧ Binds K fd ps []
  cls : Cls K (CoA K)
theorem Mt.mono {j k : Nat} {x : Str} {ps : List Str} {sp : Sp} (G : Mt P w K mg base j x ps sp) (h : j ≤ k) : Mt P w K mg base k x ps sp := by
  obtain ⟨f, fd, F, r⟩ := G.ex
  exact ⟨⟨f, fd, F.mono h, r⟩, G.cls⟩
theorem Mt.imp {k : Nat} {x : Str} {ps : List Str} {sp sp' : Sp} (G : Mt P w K mg base k x ps sp) (h : ∀ vs H Q E, sp' vs H Q E → sp vs H Q E) : Mt P w K mg base k x ps sp' := by
  obtain ⟨f, fd, F, r⟩ := G.ex
  exact ⟨⟨f, fd, F.imp h, r⟩, G.cls⟩
theorem mt_of {m qual : Str} {st : Stmt} {N ps : List Str} {k : Nat} {sp : Sp} (F : Fm K m qual st ps) (hc : Cls K (CoA K)) (sc : FnScope N ps (defScope st)) (len : ∀ vs H Q E, sp vs H Q E → vs.length = ps.length)
    (hbody : ∀ (f : Addr) (cdv : Value) (A : Around) (outer : List Env) (s : Shared) (H : Hp) (vs : List V) (Q : VK) (E : XK), Room k (A.deeper (envOfC qual (defScope st) s.heap.objs.size f cdv)) → sp vs H Q E →
      ∃ t, PSs (cxOf CX0 P w K mg base N qual (defScope st) f cdv A outer s H E).nox (defBody st) t ∧ t { nx := fun _ H' => Q .non H', rt := Q } (start N vs) H) : Mt P w K mg base (k + 1) m ps sp := by
  obtain ⟨f, fd, F, hm, hb⟩ := F
  exact ⟨⟨f, fd, F.ok sc len (fun cdv A outer s H vs Q E hr h => hbody f cdv A outer s H vs Q E hr h), hm, hb⟩, hc⟩
theorem mt_void {m qual : Str} {st : Stmt} {ps : List Str} {k : Nat} {sp : Sp} (F : Fm K m qual st ps) (hc : Cls K (CoA K)) (h : ∀ vs H Q E, ¬ sp vs H Q E) : Mt P w K mg base k m ps sp := by
  obtain ⟨f, fd, F, hm, hb⟩ := F
  exact ⟨⟨f, fd, ⟨fun vs H Q E q => absurd q (h vs H Q E), fun A outer s H args us vs Q E _ _ _ _ q => absurd q (h vs H Q E)⟩, hm, hb⟩, hc⟩
theorem pe_mt {X : Cx} {k : Nat} {m : Str} {ps : List Str} {sp : Sp} {o e : Expr} {es : List Expr} {ta : TE} {t : TA} {pos apos : Pos} {pl : Sem Bool} (G : Mt X.prog X.w X.K X.mg X.base k m ps sp) (hr : Room k X.A) (he : PE X o ta) (ha : PA X (e :: es) t)
    (hst : starEach (e :: es) X.env = (false, eval e X.env) :: starEach es X.env := by rfl) (hpl : (backTo pos (starEach es X.env)).any (·.1) = false := by rfl)
    (ht : eval (.Call (.Attribute o m apos) (e :: es) [] pos) X.env = (do
      let ov ← eval o X.env
      standAt apos.atName
      let (f, first) ← holding [ov] (getMethod ov m pl)
      callWith pos f first (backTo pos (starEach (e :: es) X.env)) (backToKw pos (keywordEach [] X.env))) := by rfl) :
    PE X (.Call (.Attribute o m apos) (e :: es) [] pos) (tMeth (CoA X.K) m sp [] E0 ta t) := by
  obtain ⟨f, fd, F, hm, hb⟩ := G.ex
  exact pe_meth he G.cls hm F hr hb .nil pass0 ha hst hpl ht
/-! ### choice -/
abbrev s_Course_choice : Stmt := inClass (top 43) 1
theorem sc_Course_choice : FnScope ["self", "hand", "many", "found"] ["self", "hand"] (defScope s_Course_choice) := ⟨rfl, rfl, rfl, by decide +kernel, rfl, by decide +kernel, by decide +kernel⟩
def spChoice (K : PySem.W.Frag) : Sp := fun vs H Q _ => ∃ (a : List Int) (po pn pt ph : Addr) (va : V) (c : C) (h : Bool), vs = [.ref po, .str (hand h)] ∧ Ob K H a po pn pt ph va c ∧ c.n ≤ 1000 ∧
  ∀ J, Ob K J a po pn pt ph va (c.chosen h) → Mv [po, pn, pt, ph] H J → Q (.int (pick a c.m)) J
theorem mt_choice (F : Fm K "choice" "Course.choice" s_Course_choice ["self", "hand"]) (T : Gb K w mg) (B : Co K mg) : Mt P w K mg base 1 "choice" ["self", "hand"] (spChoice K) := by
  refine mt_of F B.cls sc_Course_choice (fun vs H Q E h => ?_) (fun f cdv A outer s H vs Q E hr h => ?_)
  · obtain ⟨_, _, _, _, _, _, _, _, rfl, _⟩ := h
    rfl
  obtain ⟨a, po, pn, pt, ph, va, c, h, rfl, o, hn, q⟩ := h
  refine ⟨_, (pss_cons (ps_set (i := 2) sc_Course_choice.nd rfl (Or.inl rfl) (pe_callB (id := "len") (k_len K) (by rfl) T.len_ (by decide +kernel) (pa_cons (pe_fld (pv 0) rfl) pa_nil))) (pss_cons (ps_set (i := 3) sc_Course_choice.nd rfl (Or.inl rfl) (pe_ifExp (pt_cmpR op_lt (pv 2) (pe_callB (id := "len") (k_len K) (by rfl) T.len_ (by decide +kernel) (pa_cons (pe_fld (pv 0) rfl) pa_nil)) (nomark _)) (pe_ix (k_ixT K) (pe_fld (pv 0) rfl) (pv 2) (fun _ _ => rfl)) (pe_gi T.FIRST))) (pss_cons (ps_expr (pe_bm PySem.F.plainAttrs_list PySem.F.slot_list_append PySem.F.type_list_append mt_append (pe_fld (pv 0) rfl) (pa_cons (pv 3) pa_nil))) (pss_cons (ps_expr (pe_bm PySem.F.plainAttrs_list PySem.F.slot_list_append PySem.F.type_list_append mt_append (pe_fld (pv 0) rfl) (pa_cons (pv 1) pa_nil))) (pss_one (ps_ret (pv 3))))))), ?_⟩
  obtain ⟨⟨dx, ob⟩, ⟨kvs, hk1, hk2, hk3⟩, tn, hs, as, ne, len, bits⟩ := o
  refine q_set (P := fun d => d = .int c.m) Mv.rfl (by
    have := ev_lenV (K := K) (σ := [some (.ref po), some (.str (hand h)), none, none]) (evv_fld (evv_var (i := 0) rfl) ob B.cls B.turns rfl) tn
    rw [List.length_map, turnsOf_len] at this
    exact this) fun v2 d2 J2 e2 g2 t2 => ?_
  subst e2
  have e2 := t2.int_inv
  subst e2
  have ob2 := g2.get ob
  have as2 := as.mono g2.tup
  have ea : ∀ {σ : St}, σ[0]? = some (some (.ref po)) → EvD (tFld K (tVar 0) "asked") σ J2 (.tuple (a.map .int)) := fun h0 => (evv_fld (evv_var h0) ob2 B.cls B.asked rfl).d as2
  refine q_set (P := fun d => d = .int (pick a c.m)) Mv.rfl (ev_ifE (b := decide ((c.m : Int) < (a.length : Int))) (et_is (ev_cmpI (ev_var rfl (.int _)) (ev_len (ea rfl) (by rw [List.length_map])) rfl)) (fun e => ?_) fun e => ?_) fun v3 d3 J3 e3 g3 t3 => ?_
  · have e := of_decide_eq_true e
    have hlt : c.m < a.length := by omega
    refine ev_ixTv (n := c.m) (ea rfl) (ev_var rfl (.int _)) ?_
    unfold pick
    rw [List.getElem?_map, List.getElem?_eq_getElem hlt]; rfl
  · have e := of_decide_eq_false e
    have hlt : ¬ c.m < a.length := by omega
    unfold pick
    rw [List.getElem?_eq_none (by omega)]
    exact ev_int
  subst e3
  have e3 := t3.int_inv
  subst e3
  have g23 := g2.trans g3
  refine q_appV (evv_fld (evv_var rfl) (g23.get ob) B.cls B.turns rfl) (g23.get tn) (by rw [List.length_map, turnsOf_len]; exact small1000 (by have := len.2; omega)) (evv_var rfl) fun J4 g4 => ?_
  have g24 := g23.trans g4
  have npo1 : po ≠ pt := ne_of ob tn (fun z => nomatch z)
  have npo2 : po ≠ ph := ne_of ob hs (fun z => nomatch z)
  have npn1 : pn ≠ pt := ne_of hk1 tn (fun z => nomatch z)
  have npn2 : pn ≠ ph := ne_of hk1 hs (fun z => nomatch z)
  refine q_appV (v := .str (hand h)) (vs := handsV c.hs) (p := ph) (evv_fld (evv_var rfl) (dx := dx) (fs := flds pn pt ph va c.tot c.st) (by rw [upd_ne npo1]; exact g24.get ob) B.cls B.hands rfl) (by rw [upd_ne ne.symm]; exact g24.get hs) (by unfold handsV; rw [List.length_map]; exact small1000 (by have := len; omega)) (evv_var rfl) fun J5 g5 => ?_
  have m1 : Mv [po, pn, pt, ph] H (upd J4 pt (.lst ((turnsOf a c.m).map V.int ++ [.int (pick a c.m)]))) := g24.up.trans (Mv.put (g24.get tn) (by simp) lst_tup)
  have hph : J5 ph = some (.lst (handsV c.hs)) := g5.get (by rw [upd_ne ne.symm]; exact g24.get hs)
  have m2 : Mv [po, pn, pt, ph] H (upd J5 ph (.lst (handsV c.hs ++ [.str (hand h)]))) := (m1.trans g5.up).trans (Mv.put hph (by simp) lst_tup)
  refine ⟨_, rfl, q _ ⟨⟨dx, ?_⟩, ⟨kvs, ?_, hk2, ?_⟩, ?_, ?_, as.mono m2.tup, ne, ⟨?_, ?_⟩, bits⟩ m2⟩
  · rw [upd_ne npo2]; exact g5.get (by rw [upd_ne npo1]; exact g24.get ob)
  · rw [upd_ne npn2]; exact g5.get (by rw [upd_ne npn1]; exact g24.get hk1)
  · show _ ≤ c.n + 1 + 1; omega
  · rw [upd_ne ne]
    refine (g5.get upd_same).trans ?_
    show _ = some (HO.lst ((turnsOf a (c.m + 1)).map V.int))
    rw [turnsOf_succ, List.map_append]; rfl
  · rw [upd_same]
    show _ = some (HO.lst (handsV (c.hs ++ [h])))
    unfold handsV
    rw [List.map_append]; rfl
  · show (c.hs ++ [h]).length = c.m + 1
    rw [List.length_append, len.1]; rfl
  · show c.m + 1 ≤ c.n + 1
    have := len.2; omega
end
end K27
namespace K27
open PySem PySem.Spec L2
open PyProof.Rows hiding St
local macro_rules | `(tactic| walk_at "td") => `(tactic| first | assumption | exact Td.int _ | exact Td.str _ | exact Td.bl _ | exact Td.non)
local macro_rules | `(tactic| walk_at "bq") => `(tactic| first | exact rfl | assumption | decide)
local macro_rules | `(tactic| walk_at "kb") => `(tactic| first | exact kii | exact ksi | exact kti | exact kib | exact kss | exact kis | exact kts | exact ktt | exact kst | exact kit)
local macro_rules | `(tactic| walk_at "ev") => `(tactic| first
  | with_reducible exact ev_int
  | with_reducible exact ev_str
  | with_reducible exact ev_bl
  | with_reducible exact ev_non
  | ((with_reducible refine' ev_var ?e ?t); (case e => exact rfl); (case t => walk_at "td"))
  | ((with_reducible refine' ev_ix ?a ?n ?z); (case a => walk_at "ev"); (case z => decide); (case n => exact rfl))
  | ((with_reducible refine' ev_isi ?a ?k); (case a => walk_at "ev"); (case k => walk_at "kb"))
  | ((with_reducible refine' ev_len ?a ?k); (case a => walk_at "ev"); (case k => exact rfl))
  | ((with_reducible refine' ev_cmpI ?a ?b ?r); (case a => walk_at "ev"); (case b => walk_at "ev"); (case r => walk_at "bq"))
  | ((with_reducible refine' ev_I0 ?a ?b ?r); (case a => walk_at "ev"); (case b => walk_at "ev"); (case r => exact rfl))
  | ((with_reducible refine' ev_eqS ?a ?b ?r); (case a => walk_at "ev"); (case b => walk_at "ev"); (case r => walk_at "bq"))
  | ((with_reducible refine' ev_eqI ?a ?b ?r); (case a => walk_at "ev"); (case b => walk_at "ev"); (case r => walk_at "bq"))
  | ((with_reducible refine' ev_neI ?a ?b ?r); (case a => walk_at "ev"); (case b => walk_at "ev"); (case r => walk_at "bq"))
  | ((with_reducible refine' ev_notV ?a ?r); (case a => walk_at "ev"); (case r => walk_at "bq"))
  | ((with_reducible refine' ev_chain ?a ?b ?c ?r); (case a => walk_at "ev"); (case b => walk_at "ev"); (case c => walk_at "ev"); (case r => walk_at "bq"))
  | ((with_reducible refine' ev_tup ?a ?l); (case a => walk_at "ea"); (case l => (show _ ≤ _; decide))))
local macro_rules | `(tactic| walk_at "ea") => `(tactic| first
  | with_reducible exact ea_nil
  | ((with_reducible refine' ea_cons ?a ?b); (case a => walk_at "ev"); (case b => walk_at "ea")))
local macro_rules | `(tactic| walk_at "et") => `(tactic| first
  | ((with_reducible refine' et_notI ?a ?r); (case a => walk_at "et"); (case r => walk_at "bq"))
  | ((with_reducible refine' et_is ?a); (case a => walk_at "ev"))
  | ((with_reducible refine' et_isB ?a); (case a => walk_at "ev"))
  | ((with_reducible refine' et_and ?a ?b ?c); (case a => walk_at "et"); (case b => (intro _; walk_at "et")); (case c => (intro z; first | exact z | (cases z; done) | rfl)))
  | ((with_reducible refine' et_or ?a ?b ?c); (case a => walk_at "et"); (case b => (intro _; walk_at "et")); (case c => (intro z; first | exact z | (cases z; done) | rfl))))
local macro_rules | `(tactic| walk_at "ev2") => `(tactic| first
  | walk_at "ev"
  | ((with_reducible refine' ev_inT ?a ?p ?s ?d ?f ?x ?b); (case a => walk_at "ev"); (case p => exact evv_c); (case s => assumption); (case d => exact rfl); (case f => exact rfl); (case x => exact rfl); (case b => walk_at "bq"))
  | ((with_reducible refine' ev_inU2 ?a ?p ?l ?d ?x ?f ?y ?b); (case a => walk_at "ev"); (case p => walk_at "ea"); (case l => (show _ ≤ _; decide)); (case d => exact rfl); (case x => exact rfl); (case f => exact rfl); (case y => exact rfl); (case b => walk_at "bq"))
  | ((with_reducible refine' ev_slA ?a ?l ?h ?r); (case a => walk_at "ev"); (case l => walk_at "eo"); (case h => walk_at "eo"); (case r => exact rfl)))
local macro_rules | `(tactic| walk_at "et2") => `(tactic| first
  | walk_at "et"
  | ((with_reducible refine' et_is ?a); (case a => walk_at "ev2"))
  | ((with_reducible refine' et_isB ?a); (case a => walk_at "ev2")))
local macro_rules | `(tactic| walk_at "eo") => `(tactic| first
  | with_reducible exact eo_none
  | ((with_reducible refine' eo_some ?a); (case a => walk_at "ev")))
/-! ### the blocks that a statement runs -/
def partsB (a : List Int) : S → C → List (List S)
  | .ch _ x y, c => [if pick a c.m = 0 then x else y]
  | .ite t y z, c => [if evT c.ρ t then y else z]
  | .rep k b, _ => List.replicate k.toNat b
  | _, _ => []
def partsC : S → C → C
  | .ch h _ _, c => c.chosen h
  | _, c => c.tick
def goL (a : List Int) (bl : List (List S)) (c : C) : C := bl.foldl (fun c b => goB a b c) c
def S.nested : S → Prop
  | .ch _ _ _ => True
  | .ite _ _ _ => True
  | .rep _ _ => True
  | _ => False
theorem rpt_comm (f : C → C) : ∀ (k : Nat) (c : C), rpt k f (f c) = f (rpt k f c)
  | 0, c => rfl
  | k + 1, c => by rw [rpt, rpt, rpt_comm f k c]
theorem goL_rep (a : List Int) (b : List S) : ∀ (k : Nat) (c : C), goL a (List.replicate k b) c = rpt k (goB a b) c
  | 0, c => rfl
  | k + 1, c => by
    rw [List.replicate_succ]
    show goL a (List.replicate k b) (goB a b c) = _
    rw [goL_rep a b k, rpt_comm, rpt]
theorem doS_parts (a : List Int) {st : S} (h : st.nested) (c : C) : doS a st c = goL a (partsB a st c) (partsC st c) := by
  cases st with
  | set x e => exact h.elim
  | pay e => exact h.elim
  | stop => exact h.elim
  | ite t y z =>
    rw [doS]
    show _ = goB a (if evT c.ρ t then y else z) c.tick
    cases evT c.ρ t <;> rfl
  | ch b y z =>
    rw [doS]
    show _ = goB a (if pick a c.m = 0 then y else z) (c.chosen b)
    by_cases h : pick a c.m = 0
    · rw [if_pos h, if_pos h]
    · rw [if_neg h, if_neg h]
  | rep k b =>
    rw [doS]
    exact (goL_rep a b _ _).symm
theorem partsB_ok {a : List Int} {st : S} {ke n : Nat} (hs : SOk ke (n + 1) st) (c : C) : ∀ b ∈ partsB a st c, BOk ke n b := fun b hb => by
  cases st with
  | set x e => exact absurd hb (by simp [partsB])
  | pay e => exact absurd hb (by simp [partsB])
  | stop => exact absurd hb (by simp [partsB])
  | ite t y z =>
    have e : b = if evT c.ρ t then y else z := List.mem_singleton.mp hb
    rw [e]
    cases evT c.ρ t
    · exact hs.2.2
    · exact hs.2.1
  | ch h y z =>
    have e : b = if pick a c.m = 0 then y else z := List.mem_singleton.mp hb
    rw [e]
    by_cases h : pick a c.m = 0
    · rw [if_pos h]; exact hs.1
    · rw [if_neg h]; exact hs.2
  | rep k y =>
    have e : b = y := (List.mem_replicate.mp hb).2
    rw [e]; exact hs.2
def cost (b : List S) : Int := numB (own "weight") b
theorem own_w0 : ∀ s, 0 ≤ own "weight" s := (paysN []).o0
theorem cost_nn {ke n : Nat} {b : List S} (h : BOk ke n b) : 0 ≤ cost b := numB_nonneg own_w0 h.2
theorem partsB_cost {a : List Int} {st : S} {ke n : Nat} (hs : SOk ke (n + 1) st) (hn : st.nested) (c : C) : ((partsC st c).n : Int) + ((partsB a st c).map cost).sum ≤ c.n + st.num (own "weight") := by
  have ow : ∀ s, own "weight" s = 1 := fun s => by unfold own; rw [if_pos rfl]
  cases st with
  | set x e => exact hn.elim
  | pay e => exact hn.elim
  | stop => exact hn.elim
  | ite t y z =>
    have h1 := cost_nn hs.2.1
    have h2 := cost_nn hs.2.2
    unfold cost at h1 h2
    rw [S.num, ow]
    show ((c.n + 1 : Nat) : Int) + (cost (if evT c.ρ t then y else z) + 0) ≤ _
    unfold cost
    cases evT c.ρ t
    · rw [if_neg Bool.false_ne_true]; omega
    · rw [if_pos rfl]; omega
  | ch h y z =>
    have h1 := cost_nn hs.1
    have h2 := cost_nn hs.2
    unfold cost at h1 h2
    rw [S.num, ow]
    show ((c.n + 1 : Nat) : Int) + (cost (if pick a c.m = 0 then y else z) + 0) ≤ _
    unfold cost
    split <;> omega
  | rep k b =>
    rw [S.num, ow]
    show ((c.n + 1 : Nat) : Int) + ((List.replicate k.toNat b).map cost).sum ≤ _
    have e : ∀ j : Nat, ((List.replicate j b).map cost).sum = j * cost b := fun j => by
      induction j with
      | zero => simp
      | succ j ih => rw [List.replicate_succ, List.map_cons, List.sum_cons, ih, Int.natCast_add, Int.add_mul, Int.natCast_one, Int.one_mul, Int.add_comm]
    have h3 : ((k.toNat : Nat) : Int) = k := Int.toNat_of_nonneg (by have := hs.1.1; omega)
    rw [e, h3, Int.mul_comm, Int.add_zero]
    unfold cost
    omega
theorem goL_n {a : List Int} {ke n : Nat} : ∀ {bl : List (List S)}, (∀ b ∈ bl, BOk ke n b) → ∀ c : C, ((goL a bl c).n : Int) ≤ c.n + (bl.map cost).sum
  | [], _, c => by show (c.n : Int) ≤ c.n + 0; omega
  | b :: r, h, c => by
    have h1 := goL_n (a := a) (bl := r) (fun x hx => h x (List.mem_cons_of_mem _ hx)) (goB a b c)
    have h2 := goB_n (a := a) (h b List.mem_cons_self).2 c
    rw [List.map_cons, List.sum_cons]
    show ((goL a r (goB a b c)).n : Int) ≤ _
    unfold cost at h1 ⊢
    omega
theorem sum_nn : ∀ l : List Int, (∀ x ∈ l, 0 ≤ x) → 0 ≤ l.sum
  | [], _ => Int.le_refl _
  | a :: r, h => by
    have h1 := h a List.mem_cons_self
    have h2 := sum_nn r fun x hx => h x (List.mem_cons_of_mem _ hx)
    rw [List.sum_cons]; omega
theorem cost_take {ke n : Nat} {bl : List (List S)} (h : ∀ b ∈ bl, BOk ke n b) {i : Nat} {b : List S} (hb : bl[i]? = some b) : ((bl.take i).map cost).sum + cost b ≤ (bl.map cost).sum := by
  have e : bl = bl.take (i + 1) ++ bl.drop (i + 1) := (List.take_append_drop _ _).symm
  have h2 : 0 ≤ ((bl.drop (i + 1)).map cost).sum := sum_nn _ fun x hx => by
    obtain ⟨y, hy, rfl⟩ := List.mem_map.mp hx
    exact cost_nn (h y (List.mem_of_mem_drop hy))
  have h3 : (bl.map cost).sum = ((bl.take (i + 1)).map cost).sum + ((bl.drop (i + 1)).map cost).sum := by
    rw [← List.sum_append, ← List.map_append, List.take_append_drop]
  rw [h3, List.take_add_one, hb, List.map_append, List.sum_append]
  show _ ≤ _ + (cost b + 0) + _
  omega
theorem goL_take {a : List Int} {bl : List (List S)} {i : Nat} {b : List S} (hb : bl[i]? = some b) (c : C) : goL a (bl.take (i + 1)) c = goB a b (goL a (bl.take i) c) := by
  unfold goL
  rw [List.take_add_one, hb, List.foldl_append]; rfl
section
variable {K : PySem.W.Frag} {σ : St} {H : Hp} {te ta tb tc : TE} {D : Ends} {po : Addr}
/-- o.m(..): the reading, from what o and the arguments give -/
theorem mt_call {m : Str} {sp : Sp} {E : XK} {ds : List PyData} {dx : Addr} {fs : List (Str × V)} {t : TA} {Q : VK} (h0 : EvV ta σ H (.ref po)) (ho : H po = some (.ins (CoA K) dx fs)) (hl : fs.lookup m = none) (ea : EvA t σ H ds)
    (k : ∀ vs J, Gr H J → TdA J vs ds → sp (.ref po :: vs) J Q E) : tMeth (CoA K) m sp [] E ta t σ H Q :=
  h0 H Mv.rfl _ fun H2 g2 => ⟨po, dx, fs, rfl, g2.get ho, hl, ea H2 g2 _ fun vs H3 g3 ts => by
    rw [List.append_nil]
    exact k vs H3 (g2.trans g3) ts⟩
theorem sizeOk {n : Nat} (h : n ≤ 1000) : n ≤ sizeLine := Nat.le_of_lt (small1000 h)
end
section
variable {P : Program} {w : World} {K : PySem.W.Frag} {mg : Str → Option Value} {base : Heap}
/-! ### parts -/
abbrev s_Course_parts : Stmt := inClass (top 43) 2
theorem sc_Course_parts : FnScope ["self", "statement"] ["self", "statement"] (defScope s_Course_parts) := ⟨rfl, rfl, rfl, by decide +kernel, rfl, by decide +kernel, by decide +kernel⟩
def spParts (K : PySem.W.Frag) : Sp := fun vs H Q _ => ∃ (a : List Int) (po pn pt ph : Addr) (va v : V) (c : C) (st : S) (ke n : Nat), vs = [.ref po, v] ∧ Ob K H a po pn pt ph va c ∧ Td H v st.d ∧ SOk ke (n + 1) st ∧ st.nested ∧ c.n ≤ 1000 ∧
  ∀ p ws J, H p = none → J p = some (.lst ws) → TdA J ws ((partsB a st c).map blk) → Ob K J a po pn pt ph va (partsC st c) → Mv [po, pn, pt, ph] H J → Q (.ref p) J
theorem mt_parts (F : Fm K "parts" "Course.parts" s_Course_parts ["self", "statement"]) (T : Gb K w mg) (B : Co K mg) (M_choice : Mt P w K mg base 1 "choice" ["self", "hand"] (spChoice K)) (G_is_true : Df P w K mg base 7 "is_true" ["test", "names"] (spTrue 2)) :
    Mt P w K mg base 8 "parts" ["self", "statement"] (spParts K) := by
  refine mt_of F B.cls sc_Course_parts (fun vs H Q E h => ?_) (fun f cdv A outer s H vs Q E hr h => ?_)
  · obtain ⟨_, _, _, _, _, _, _, _, _, _, _, rfl, _⟩ := h
    rfl
  obtain ⟨a, po, pn, pt, ph, va, v0, c, st, ke, n, rfl, o, t0, hs, hnest, hn, q⟩ := h
  have hch := T.choices
  refine ⟨_, (pss_cons (ps_if (pt_cmpR (k_in K) (pe_ix (k_ixT K) (pv 1) pe_int (fun _ _ => rfl)) (pe_gr T.CHOICES) (by rfl)) (pss_one (ps_ret (pe_lst (pa_cons (pe_ix (k_ixT K) (pv 1) (pe_op op_add pe_int (pe_mt M_choice (hr.mono (by first | decide | omega)) (pv 0) (pa_cons (pe_ix (k_ixT K) (pv 1) pe_int (fun _ _ => rfl)) pa_nil))) (fun _ _ => rfl)) pa_nil)))) pss_nil) (pss_cons (ps_if (pt_cmpR op_eq (pe_ix (k_ixT K) (pv 1) pe_int (fun _ _ => rfl)) pe_str (nomark _)) (pss_one (ps_ret (pe_lst (pa_cons (pe_ifExp (pt_val (pe_df G_is_true (hr.mono (by first | decide | omega)) (pa_cons (pe_ix (k_ixT K) (pv 1) pe_int (fun _ _ => rfl)) (pa_cons (pe_fld (pv 0) rfl) pa_nil)))) (pe_ix (k_ixT K) (pv 1) pe_int (fun _ _ => rfl)) (pe_ix (k_ixT K) (pv 1) pe_int (fun _ _ => rfl))) pa_nil)))) pss_nil) (pss_one (ps_ret (pe_op op_rep (pe_lst (pa_cons (pe_ix (k_ixT K) (pv 1) pe_int (fun _ _ => rfl)) pa_nil)) (pe_ix (k_ixT K) (pv 1) pe_int (fun _ _ => rfl))))))), ?_⟩
  cases st with
  | set x e => exact hnest.elim
  | pay e => exact hnest.elim
  | stop => exact hnest.elim
  | ch b x y =>
    have t0 : Td H v0 (.tuple [.str (hand b), blk x, blk y]) := by rw [S.d] at t0; exact t0
    refine q_ifT Mv.rfl (et_is (ev_inT (neg := false) (v := .str (hand b)) (by walk_at "ev") evv_c hch rfl rfl rfl (by cases b <;> rfl))) fun J g => ?_
    have o2 := o.mono g
    have t2 := t0.mono g.tup
    obtain ⟨dx, ob⟩ := o2.ob
    refine ⟨_, rfl, ?_⟩
    refine mt_call (ds := [.str (hand b)]) (evv_var rfl) ob rfl (ea_cons (ev_ix (ev_var rfl t2) rfl) ea_nil) fun vs J3 g3 ts => ?_
    obtain ⟨u, rfl, tu⟩ := ts.i1
    have e := tu.str_inv
    subst e
    refine ⟨a, po, pn, pt, ph, va, c, b, rfl, o2.mono g3, hn, fun J4 o4 m4 => ?_⟩
    have t4 := (t2.mono g3.tup).mono m4.tup
    obtain ⟨z, xs, ez, hz, tz⟩ := t4.tup_inv
    subst ez
    have hx : ∃ u, atI xs (1 + pick a c.m) = some u ∧ Td J4 u (blk (if pick a c.m = 0 then x else y)) := by
      obtain ⟨x0, x1, x2, rfl, _, h1, h2⟩ := tz.i3
      rcases pick_bit o.bits c.m with e | e
      · rw [e]; exact ⟨x1, rfl, h1⟩
      · rw [e]; exact ⟨x2, rfl, h2⟩
    obtain ⟨u, hu, tu⟩ := hx
    refine ⟨1, pick a c.m, rfl, rfl, z, xs, _, u, rfl, rfl, SqT.of hz, hu, ?_⟩
    refine ⟨sizeOk (by show 1 ≤ 1000; decide), fun p hp => ?_⟩
    have gN := Gr.new (o := .lst [u]) hp
    have m := ((g.trans g3).up.trans m4).trans gN.up
    exact q p [u] _ ((g.trans g3).low p (m4.low p hp)) upd_same (.one (tu.mono gN.tup)) (o4.mono gN) m
  | ite t y z =>
    have t0 : Td H v0 (.tuple [.str "if", t.d, blk y, blk z]) := by rw [S.d] at t0; exact t0
    refine q_ifF Mv.rfl (by walk_at "et2") fun J g => ?_
    refine q_ifT g (by walk_at "et2") fun J2 g2 => ?_
    have o' := o
    obtain ⟨⟨dx, ob⟩, ⟨kvs, hk1, hk2, hk3⟩, _⟩ := o'
    have hb : EvD (tIf (tB (tCall (spTrue 2) [] E0 (tCons (tOp (rIxT K) (tVar 1) (tC (.int 1))) (tCons (tFld K (tVar 0) "names") tNil)))) (tOp (rIxT K) (tVar 1) (tC (.int 2))) (tOp (rIxT K) (tVar 1) (tC (.int 3)))) [some (.ref po), some v0] H (blk (if evT c.ρ t then y else z)) := by
      refine ev_ifE (b := evT c.ρ t) (et_isB (ev_true (by walk_at "ev") (evv_fld (evv_var rfl) ob B.cls B.names rfl) hs.1 hk1 hk2 fun _ _ _ _ h => h)) (fun e => ?_) fun e => ?_
      · rw [e]; exact ev_ix (ev_var rfl t0) rfl
      · rw [e]; exact ev_ix (ev_var rfl t0) rfl
    exact s_retL g2 (el_lst (ea_cons hb ea_nil) (by show 1 ≤ 1000; decide)) fun p ws ds J3 e hp g3 hx tw => by
      subst e
      exact q p ws J3 hp hx tw ((o.mono g3).tick) g3.up
  | rep k b =>
    have t0 : Td H v0 (.tuple [.str "repeat", .int k, blk b]) := by rw [S.d] at t0; exact t0
    refine q_ifF Mv.rfl (by walk_at "et2") fun J g => ?_
    refine q_ifF g (by walk_at "et2") fun J2 g2 => ?_
    show tLst (tCons (tOp (rIxT K) (tVar 1) (tC (.int 2))) tNil) [some (.ref po), some v0] J2 (fun x H1 => tOp (rIxT K) (tVar 1) (tC (.int 1)) [some (.ref po), some v0] H1 fun y H2 => rRep x y H2 Q)
    refine el_lst (σ := [some (.ref po), some v0]) (ds := [blk b]) (ea_cons (ev_ix (i := 2) (ev_var (i := 1) rfl t0) rfl) ea_nil) (by show 1 ≤ 1000; decide) J2 g2 _ fun p ws ds J3 e hp g3 hx tw => ?_
    subst e
    have g23 := g2.trans g3
    refine (ev_ix (ev_var rfl t0) rfl : EvD (tOp (rIxT K) (tVar 1) (tC (.int 1))) [some (.ref po), some v0] H (.int k)) J3 g23 _ fun v5 d5 J5 e5 g5 t5 => ?_
    subst e5
    have e5 := t5.int_inv
    subst e5
    obtain ⟨u, rfl, tu⟩ := tw.i1
    have hk := hs.1
    have hkn : k.toNat ≤ 8 := by omega
    refine ⟨p, k, _, rfl, rfl, g5.get hx, by omega, by omega, sizeOk (by show 1 * k.toNat ≤ 1000; omega), fun p2 hp2 => ?_⟩
    have gN := Gr.new (o := .lst (List.replicate k.toNat [u]).flatten) hp2
    have gA := (g23.trans g5).trans gN
    refine q p2 _ _ ((g23.trans g5).low p2 hp2) upd_same ?_ (o.mono gA).tick gA.up
    have tu2 := (tu.mono g5.tup).mono gN.tup
    show TdA _ _ ((List.replicate k.toNat b).map blk)
    have : ∀ j : Nat, TdA (upd J5 p2 (.lst (List.replicate k.toNat [u]).flatten)) (List.replicate j [u]).flatten ((List.replicate j b).map blk) := fun j => by
      induction j with
      | zero => exact .nil
      | succ j ih => rw [List.replicate_succ, List.replicate_succ, List.flatten_cons, List.map_cons]; exact .cons tu2 ih
    exact this _
end
end K27
namespace K27
open PySem PySem.Spec L2
open PyProof.Rows hiding St
local macro_rules | `(tactic| walk_at "td") => `(tactic| first | assumption | exact Td.int _ | exact Td.str _ | exact Td.bl _ | exact Td.non)
local macro_rules | `(tactic| walk_at "bq") => `(tactic| first | exact rfl | assumption | decide)
local macro_rules | `(tactic| walk_at "kb") => `(tactic| first | exact kii | exact ksi | exact kti | exact kib | exact kss | exact kis | exact kts | exact ktt | exact kst | exact kit)
local macro_rules | `(tactic| walk_at "ev") => `(tactic| first
  | with_reducible exact ev_int
  | with_reducible exact ev_str
  | with_reducible exact ev_bl
  | with_reducible exact ev_non
  | ((with_reducible refine' ev_var ?e ?t); (case e => exact rfl); (case t => walk_at "td"))
  | ((with_reducible refine' ev_ix ?a ?n ?z); (case a => walk_at "ev"); (case z => decide); (case n => exact rfl))
  | ((with_reducible refine' ev_isi ?a ?k); (case a => walk_at "ev"); (case k => walk_at "kb"))
  | ((with_reducible refine' ev_len ?a ?k); (case a => walk_at "ev"); (case k => exact rfl))
  | ((with_reducible refine' ev_cmpI ?a ?b ?r); (case a => walk_at "ev"); (case b => walk_at "ev"); (case r => walk_at "bq"))
  | ((with_reducible refine' ev_I0 ?a ?b ?r); (case a => walk_at "ev"); (case b => walk_at "ev"); (case r => exact rfl))
  | ((with_reducible refine' ev_eqS ?a ?b ?r); (case a => walk_at "ev"); (case b => walk_at "ev"); (case r => walk_at "bq"))
  | ((with_reducible refine' ev_eqI ?a ?b ?r); (case a => walk_at "ev"); (case b => walk_at "ev"); (case r => walk_at "bq"))
  | ((with_reducible refine' ev_neI ?a ?b ?r); (case a => walk_at "ev"); (case b => walk_at "ev"); (case r => walk_at "bq"))
  | ((with_reducible refine' ev_notV ?a ?r); (case a => walk_at "ev"); (case r => walk_at "bq"))
  | ((with_reducible refine' ev_chain ?a ?b ?c ?r); (case a => walk_at "ev"); (case b => walk_at "ev"); (case c => walk_at "ev"); (case r => walk_at "bq"))
  | ((with_reducible refine' ev_tup ?a ?l); (case a => walk_at "ea"); (case l => (show _ ≤ _; decide))))
local macro_rules | `(tactic| walk_at "ea") => `(tactic| first
  | with_reducible exact ea_nil
  | ((with_reducible refine' ea_cons ?a ?b); (case a => walk_at "ev"); (case b => walk_at "ea")))
local macro_rules | `(tactic| walk_at "et") => `(tactic| first
  | ((with_reducible refine' et_notI ?a ?r); (case a => walk_at "et"); (case r => walk_at "bq"))
  | ((with_reducible refine' et_is ?a); (case a => walk_at "ev"))
  | ((with_reducible refine' et_isB ?a); (case a => walk_at "ev"))
  | ((with_reducible refine' et_and ?a ?b ?c); (case a => walk_at "et"); (case b => (intro _; walk_at "et")); (case c => (intro z; first | exact z | (cases z; done) | rfl)))
  | ((with_reducible refine' et_or ?a ?b ?c); (case a => walk_at "et"); (case b => (intro _; walk_at "et")); (case c => (intro z; first | exact z | (cases z; done) | rfl))))
local macro_rules | `(tactic| walk_at "ev2") => `(tactic| first
  | walk_at "ev"
  | ((with_reducible refine' ev_inT ?a ?p ?s ?d ?f ?x ?b); (case a => walk_at "ev"); (case p => exact evv_c); (case s => assumption); (case d => exact rfl); (case f => exact rfl); (case x => exact rfl); (case b => walk_at "bq"))
  | ((with_reducible refine' ev_inU2 ?a ?p ?l ?d ?x ?f ?y ?b); (case a => walk_at "ev"); (case p => walk_at "ea"); (case l => (show _ ≤ _; decide)); (case d => exact rfl); (case x => exact rfl); (case f => exact rfl); (case y => exact rfl); (case b => walk_at "bq"))
  | ((with_reducible refine' ev_slA ?a ?l ?h ?r); (case a => walk_at "ev"); (case l => walk_at "eo"); (case h => walk_at "eo"); (case r => exact rfl)))
local macro_rules | `(tactic| walk_at "et2") => `(tactic| first
  | walk_at "et"
  | ((with_reducible refine' et_is ?a); (case a => walk_at "ev2"))
  | ((with_reducible refine' et_isB ?a); (case a => walk_at "ev2")))
local macro_rules | `(tactic| walk_at "eo") => `(tactic| first
  | with_reducible exact eo_none
  | ((with_reducible refine' eo_some ?a); (case a => walk_at "ev")))
theorem EOk.mono : ∀ {k j : Nat} {e : E}, EOk k e → k ≤ j → EOk j e
  | k, 0, e, h, l => by
    have e0 : k = 0 := by omega
    subst e0
    exact h
  | k, j + 1, e, h, l => by
    by_cases z : k = j + 1
    · rw [← z]; exact h
    · exact EOk.up (EOk.mono (j := j) h (by omega))
section
variable {P : Program} {w : World} {K : PySem.W.Frag} {mg : Str → Option Value} {base : Heap}
/-! ### do, go -/
abbrev s_Course_do : Stmt := inClass (top 43) 3
theorem sc_Course_do : FnScope ["self", "statement", "block"] ["self", "statement"] (defScope s_Course_do) := ⟨rfl, rfl, rfl, by decide +kernel, rfl, by decide +kernel, by decide +kernel⟩
abbrev s_Course_go : Stmt := inClass (top 43) 4
theorem sc_Course_go : FnScope ["self", "block", "statement"] ["self", "block"] (defScope s_Course_go) := ⟨rfl, rfl, rfl, by decide +kernel, rfl, by decide +kernel, by decide +kernel⟩
def spDo (K : PySem.W.Frag) (n : Nat) : Sp := fun vs H Q _ => ∃ (a : List Int) (po pn pt ph : Addr) (va v : V) (c : C) (st : S) (ke : Nat), vs = [.ref po, v] ∧ Ob K H a po pn pt ph va c ∧ Td H v st.d ∧ SOk ke n st ∧ ke ≤ 4 ∧ (c.n : Int) + st.num (own "weight") ≤ 1000 ∧
  ∀ J, Ob K J a po pn pt ph va (doS a st c) → Mv [po, pn, pt, ph] H J → Q .non J
def spGo (K : PySem.W.Frag) (n : Nat) : Sp := fun vs H Q _ => ∃ (a : List Int) (po pn pt ph : Addr) (va v : V) (c : C) (b : List S) (ke : Nat), vs = [.ref po, v] ∧ Ob K H a po pn pt ph va c ∧ Td H v (blk b) ∧ BOk ke n b ∧ ke ≤ 4 ∧ (c.n : Int) + cost b ≤ 1000 ∧
  ∀ J, Ob K J a po pn pt ph va (goB a b c) → Mv [po, pn, pt, ph] H J → Q .non J
theorem not_in4 {H : Hp} {a : List Int} {po pn pt ph p : Addr} {va : V} {c : C} (o : Ob K H a po pn pt ph va c) (hp : H p = none) : p ∉ [po, pn, pt, ph] := by
  obtain ⟨⟨dx, h1⟩, ⟨kvs, h2, _⟩, h3, h4, _⟩ := o
  intro h
  simp only [List.mem_cons, List.not_mem_nil, or_false] at h
  rcases h with e | e | e | e
  · subst e; rw [hp] at h1; cases h1
  · subst e; rw [hp] at h2; cases h2
  · subst e; rw [hp] at h3; cases h3
  · subst e; rw [hp] at h4; cases h4
theorem goB_take {a : List Int} {b : List S} {i : Nat} {s : S} (hs : b[i]? = some s) (c : C) : goB a (b.take (i + 1)) c = if (goB a (b.take i) c).st then goB a (b.take i) c else doS a s (goB a (b.take i) c) := by
  rw [List.take_add_one, hs, goB_append]
  show goB a [s] _ = _
  rw [goB, goB]
theorem cost_takeS {ke n : Nat} {b : List S} (h : ∀ s ∈ b, SOk ke n s) {i : Nat} {s : S} (hs : b[i]? = some s) : cost (b.take i) + s.num (own "weight") ≤ cost b := by
  unfold cost
  have e : b = b.take (i + 1) ++ b.drop (i + 1) := (List.take_append_drop _ _).symm
  have h2 : 0 ≤ numB (own "weight") (b.drop (i + 1)) := numB_nonneg own_w0 fun x hx => h x (List.mem_of_mem_drop hx)
  have h3 : numB (own "weight") b = numB (own "weight") (b.take (i + 1)) + numB (own "weight") (b.drop (i + 1)) := by
    rw [numB_sum, numB_sum, numB_sum, ← List.sum_append, ← List.map_append, List.take_append_drop]
  have h4 : numB (own "weight") (b.take (i + 1)) = numB (own "weight") (b.take i) + s.num (own "weight") := by
    rw [List.take_add_one, hs, numB_sum, numB_sum, List.map_append, List.sum_append]
    show _ + (s.num (own "weight") + 0) = _
    omega
  omega
theorem mt_go (F : Fm K "go" "Course.go" s_Course_go ["self", "block"]) (B : Co K mg) {n : Nat} (M_do : Mt P w K mg base (2 * n + 8) "do" ["self", "statement"] (spDo K n)) : Mt P w K mg base (2 * n + 9) "go" ["self", "block"] (spGo K n) := by
  refine mt_of F B.cls sc_Course_go (fun vs H Q E h => ?_) (fun f cdv A outer s H vs Q E hr h => ?_)
  · obtain ⟨_, _, _, _, _, _, _, _, _, _, rfl, _⟩ := h
    rfl
  obtain ⟨a, po, pn, pt, ph, va, v0, c, b, ke, rfl, o, t0, hb, hke, hcost, q⟩ := h
  refine ⟨_, (pss_one (ps_for PassesOwn.never rfl (pi_tup (pv 1)) (pg_name (i := 2) sc_Course_go.nd rfl (Or.inl rfl)) (pss_one (ps_if (pt_not (pt_val (pe_fld (pv 0) rfl))) (pss_one (ps_expr (pe_mt M_do (hr.mono (by first | decide | omega)) (pv 0) (pa_cons (pv 2) pa_nil)))) pss_nil)))), ?_⟩
  obtain ⟨z, xs, ez, hz, tz⟩ := t0.tup_inv
  subst ez
  refine ⟨_, rfl, z, rfl, ⟨xs, SqT.of hz⟩, for_tup (K := K) (a := z) (xs := xs) (fun i σ J => ∃ o2 : Option V, σ = [some (.ref po), some (.ref z), o2] ∧ Mv [po, pn, pt, ph] H J ∧ Ob K J a po pn pt ph va (goB a (b.take i) c)) ⟨none, rfl, Mv.rfl, by rw [List.take_zero, goB]; exact o⟩ (fun i σ J _ p => ?_) (fun i x σ J hi p => ?_) fun σ J p => ?_⟩
  · obtain ⟨_, _, m, _⟩ := p
    exact SqT.of (m.tup z xs hz)
  · obtain ⟨o2, rfl, m, oJ⟩ := p
    obtain ⟨d, hd, td⟩ := tz.getV hi
    rw [bds_map, List.getElem?_map] at hd
    cases hs : b[i]? with
    | none => rw [hs] at hd; cases hd
    | some st =>
      rw [hs] at hd
      have e4 : d = st.d := (Option.some.inj hd).symm
      subst e4
      have hst := hb.2 st (List.mem_of_getElem? hs)
      have hn1 := goB_n (a := a) (b := b.take i) (fun s hs => hb.2 s (List.mem_of_mem_take hs)) c
      have hn2 := cost_takeS hb.2 hs
      obtain ⟨dx, ob⟩ := oJ.ob
      have hfld : EvD (tFld K (tVar 0) "is_stopped") [some (.ref po), some (.ref z), some x] J (.bool (goB a (b.take i) c).st) := (evv_fld (evv_var rfl) ob B.cls B.stopped rfl).d (.bl _)
      refine s_if Mv.rfl (et_notI (et_isB hfld) rfl) (fun e J2 g2 => ?_) fun e J2 g2 => ?_
      · have e : (goB a (b.take i) c).st = false := by
          cases z : (goB a (b.take i) c).st with
          | false => rfl
          | true => rw [z] at e; cases e
        have o2 := oJ.mono g2
        obtain ⟨dx2, ob2⟩ := o2.ob
        have td2 := (td.mono m.tup).mono g2.tup
        refine mt_call (ds := [st.d]) (evv_var rfl) ob2 rfl (ea_cons (ev_var rfl td2) ea_nil) fun vs J3 g3 ts => ?_
        obtain ⟨u, rfl, tu⟩ := ts.i1
        refine ⟨a, po, pn, pt, ph, va, u, goB a (b.take i) c, st, ke, rfl, o2.mono g3, tu, hst, hke, ?_, fun J4 o4 m4 => ⟨some x, rfl, (m.trans (g2.trans g3).up).trans m4, ?_⟩⟩
        · unfold cost at hn2 hcost; omega
        · rw [goB_take hs, e, if_neg Bool.false_ne_true]
          exact o4
      · have e : (goB a (b.take i) c).st = true := by
          cases z : (goB a (b.take i) c).st with
          | true => rfl
          | false => rw [z] at e; cases e
        refine ⟨some x, rfl, m.trans g2.up, ?_⟩
        rw [goB_take hs, e, if_pos rfl]
        exact oJ.mono g2
  · obtain ⟨o2, rfl, m, oJ⟩ := p
    rw [tz.length, bds_len, List.take_length] at oJ
    exact q J oJ m
theorem mt_do (F : Fm K "do" "Course.do" s_Course_do ["self", "statement"]) (B : Co K mg) {n : Nat} (M_go : Mt P w K mg base (2 * n + 9) "go" ["self", "block"] (spGo K n)) (M_parts : Mt P w K mg base 8 "parts" ["self", "statement"] (spParts K))
    (G_value_of : Df P w K mg base 5 "value_of" ["expression", "names"] (spVal 4)) : Mt P w K mg base (2 * n + 10) "do" ["self", "statement"] (spDo K (n + 1)) := by
  refine mt_of F B.cls sc_Course_do (fun vs H Q E h => ?_) (fun f cdv A outer s H vs Q E hr h => ?_)
  · obtain ⟨_, _, _, _, _, _, _, _, _, _, rfl, _⟩ := h
    rfl
  obtain ⟨a, po, pn, pt, ph, va, v0, c, st, ke, rfl, o, t0, hs, hke, hcost, q⟩ := h
  refine ⟨_, (pss_one (ps_if (pt_cmpR op_eq (pe_ix (k_ixT K) (pv 1) pe_int (fun _ _ => rfl)) pe_str (nomark _)) (pss_one (ps_dput (hu1 hr.units) (pe_fld (pv 0) rfl) (pe_ix (k_ixT K) (pv 1) pe_int (fun _ _ => rfl)) (pe_df G_value_of (hr.mono (by first | decide | omega)) (pa_cons (pe_ix (k_ixT K) (pv 1) pe_int (fun _ _ => rfl)) (pa_cons (pe_fld (pv 0) rfl) pa_nil))) (by rfl))) (pss_one (ps_if (pt_cmpR op_eq (pe_ix (k_ixT K) (pv 1) pe_int (fun _ _ => rfl)) pe_str (nomark _)) (pss_one (ps_fldaug (pv 0) (pe_df G_value_of (hr.mono (by first | decide | omega)) (pa_cons (pe_ix (k_ixT K) (pv 1) pe_int (fun _ _ => rfl)) (pa_cons (pe_fld (pv 0) rfl) pa_nil))) in_add)) (pss_one (ps_if (pt_cmpR op_eq (pe_ix (k_ixT K) (pv 1) pe_int (fun _ _ => rfl)) pe_str (nomark _)) (pss_one (ps_fld (pv 0) pe_bl rfl)) (pss_one (ps_for PassesOwn.never rfl (pi_list (pe_mt M_parts (hr.mono (by first | decide | omega)) (pv 0) (pa_cons (pv 1) pa_nil))) (pg_name (i := 2) sc_Course_do.nd rfl (Or.inl rfl)) (pss_one (ps_expr (pe_mt M_go (hr.mono (by first | decide | omega)) (pv 0) (pa_cons (pv 2) pa_nil)))))))))))), ?_⟩
  have nest : st.nested → SOk ke (n + 1) st → Td H v0 st.d → ∀ J, Gr H J → tFor (iList K (tMeth (CoA K) "parts" (spParts K) [] E0 (tVar 0) (tCons (tVar 1) tNil))) (gName 2) (tDrop (tMeth (CoA K) "go" (spGo K n) [] E0 (tVar 0) (tCons (tVar 2) tNil)))
      { nx := fun _ H' => Q .non H', rt := Q } [some (.ref po), some v0, none] J := fun hnest hs t0 J g => by
    have oJ := o.mono g
    obtain ⟨dx, ob⟩ := oJ.ob
    have hnn := num_nonneg own_w0 (n + 1) st ke hs
    refine mt_call (ds := [st.d]) (evv_var rfl) ob rfl (ea_cons (ev_var rfl (t0.mono g.tup)) ea_nil) fun vs J1 g1 ts => ?_
    obtain ⟨u, rfl, tu⟩ := ts.i1
    have o1 := oJ.mono g1
    refine ⟨a, po, pn, pt, ph, va, u, c, st, ke, n, rfl, o1, tu, hs, hnest, by omega, fun p ws J2 hp hx tw o2 m2 => ?_⟩
    have np := not_in4 o1 hp
    have hok := partsB_ok (a := a) hs c
    have hc := partsB_cost (a := a) hs hnest c
    refine ⟨p, rfl, ⟨ws, SqL.of hx⟩, for_list (K := K) (a := p) (xs := ws) (fun i σ L => ∃ o2 : Option V, σ = [some (.ref po), some v0, o2] ∧ Mv [po, pn, pt, ph] J2 L ∧ Ob K L a po pn pt ph va (goL a ((partsB a st c).take i) (partsC st c))) ⟨none, rfl, Mv.rfl, by rw [List.take_zero]; exact o2⟩ (fun i σ L _ p => ?_) (fun i x σ L hi p => ?_) fun σ L p => ?_⟩
    · obtain ⟨_, _, m, _⟩ := p
      exact SqL.of (m.keep _ _ np hx)
    · obtain ⟨o3, rfl, m, oL⟩ := p
      obtain ⟨d, hd, td⟩ := tw.getV hi
      rw [List.getElem?_map] at hd
      cases hb : (partsB a st c)[i]? with
      | none => rw [hb] at hd; cases hd
      | some b =>
        rw [hb] at hd
        have e4 : d = blk b := (Option.some.inj hd).symm
        subst e4
        obtain ⟨dx3, ob3⟩ := oL.ob
        have hn1 := goL_n (a := a) (bl := (partsB a st c).take i) (fun b hb => hok b (List.mem_of_mem_take hb)) (partsC st c)
        have hn2 := cost_take hok hb
        refine mt_call (ds := [blk b]) (evv_var rfl) ob3 rfl (ea_cons (ev_var rfl (td.mono m.tup)) ea_nil) fun vs L2 g2 ts => ?_
        obtain ⟨u2, rfl, tu2⟩ := ts.i1
        refine ⟨a, po, pn, pt, ph, va, u2, _, b, ke, rfl, oL.mono g2, tu2, hok b (List.mem_of_getElem? hb), hke, by omega, fun L3 o3 m3 => ⟨some x, rfl, (m.trans g2.up).trans m3, ?_⟩⟩
        rw [goL_take hb]; exact o3
    · obtain ⟨o3, rfl, m, oL⟩ := p
      have lw := tw.length
      rw [List.length_map] at lw
      rw [lw, List.take_length] at oL
      exact q L (by rw [doS_parts a hnest]; exact oL) (((g.trans g1).up.trans m2).trans m)
  have hcn : st.num (own "weight") ≥ 0 := num_nonneg own_w0 (n + 1) st ke hs
  cases st with
  | set x e =>
    have t0' : Td H v0 (.tuple [.str "set", .str x, e.d]) := by rw [S.d] at t0; exact t0
    refine s_ifT Mv.rfl (by walk_at "et") fun J g => ?_
    have oJ := o.mono g
    have oJ' := oJ
    have t1 := t0'.mono g.tup
    obtain ⟨⟨dx, ob⟩, ⟨kvs, hk1, hk2, hk3⟩, tn, hhs, as, ne, len, bits⟩ := oJ'
    refine (ev_val (k := 4) (ev_ix (i := 2) (ev_var (i := 1) rfl t1) rfl) (evv_fld (evv_var (i := 0) rfl) ob B.cls B.names rfl) (hs.2.mono (by omega)) hk1 hk2 : EvD _ [some (.ref po), some v0, none] J _) J Mv.rfl _ fun v5 d5 J5 e5 g5 t5 => ?_
    subst e5
    have e5 := t5.int_inv
    subst e5
    refine (evv_fld (evv_var (i := 0) rfl) (g5.get ob) B.cls B.names rfl : EvV (tFld K (tVar 0) "names") [some (.ref po), some v0, none] J5 (.ref pn)) J5 Mv.rfl _ fun J6 g6 => ?_
    have g56 := g5.trans g6
    refine (ev_ix (i := 1) (ev_var (i := 1) rfl (t1.mono g56.tup)) rfl : EvD (tOp (rIxT K) (tVar 1) (tC (.int 1))) [some (.ref po), some v0, none] J6 (.str x)) J6 Mv.rfl _ fun v7 d7 J7 e7 g7 t7 => ?_
    subst e7
    have e7 := t7.str_inv
    subst e7
    have g57 := g56.trans g7
    have hk7 := g57.get hk1
    refine ⟨pn, _, rfl, DPut.k (k := .inr x) hk7 (len_bound (by omega)), ?_⟩
    have npo : po ≠ pn := ne_of ob hk1 (fun z => nomatch z)
    have npt : pt ≠ pn := ne_of tn hk1 (fun z => nomatch z)
    have nph : ph ≠ pn := ne_of hhs hk1 (fun z => nomatch z)
    have m : Mv [po, pn, pt, ph] H (upd J7 pn (.dK (putK kvs (.inr x) (.int (evE c.ρ e))))) := (g.trans g57).up.trans (Mv.put hk7 (by simp) (fun xs z => by cases z))
    refine q _ ⟨⟨dx, ?_⟩, ⟨_, upd_same, fun y => ?_, ?_⟩, ?_, ?_, (as.mono g57.tup).mono (Tx.put hk7 (fun xs z => by cases z)), ne, ⟨?_, ?_⟩, bits⟩ m
    · rw [doS, upd_ne npo]; exact g57.get ob
    · rw [valV_put, doS]
      by_cases h : y = x
      · subst h
        rw [if_pos rfl]
        show _ = Option.map V.int (if y = y then _ else _)
        rw [if_pos rfl]; rfl
      · rw [if_neg (fun z => h (Sum.inr.inj z))]
        show _ = Option.map V.int (if y = x then _ else _)
        rw [if_neg h]; exact hk2 y
    · rw [doS]
      show _ ≤ c.n + 1 + 1
      have := length_putK kvs (.inr x) (V.int (evE c.ρ e)); omega
    · rw [doS, upd_ne npt]; exact g57.get tn
    · rw [doS, upd_ne nph]; exact g57.get hhs
    · rw [doS]; exact len.1
    · rw [doS]; show c.m ≤ c.n + 1; have := len.2; omega
  | pay e =>
    have t0' : Td H v0 (.tuple [.str "pay", e.d]) := by rw [S.d] at t0; exact t0
    refine s_ifF Mv.rfl (by walk_at "et") fun J g => ?_
    refine s_ifT g (by walk_at "et") fun J g => ?_
    have oJ := o.mono g
    have oJ' := oJ
    have t1 := t0'.mono g.tup
    obtain ⟨⟨dx, ob⟩, ⟨kvs, hk1, hk2, hk3⟩, tn, hhs, as, ne, len, bits⟩ := oJ'
    refine ⟨_, rfl, po, CoA K, dx, _, .int c.tot, rfl, ob, B.cls, B.total, rfl, ?_⟩
    refine (ev_val (k := 4) (ev_ix (i := 1) (ev_var (i := 1) rfl t1) rfl) (evv_fld (evv_var (i := 0) rfl) ob B.cls B.names rfl) (hs.mono (by omega)) hk1 hk2 : EvD _ [some (.ref po), some v0, none] J _) J Mv.rfl _ fun v5 d5 J5 e5 g5 t5 => ?_
    subst e5
    have e5 := t5.int_inv
    subst e5
    have ob5 := g5.get ob
    refine ⟨c.tot, evE c.ρ e, rfl, rfl, dx, _, ob5, (by show (6 : Nat) < 1000; decide), ?_⟩
    have npo : pn ≠ po := ne_of hk1 ob (fun z => nomatch z)
    have npt : pt ≠ po := ne_of tn ob (fun z => nomatch z)
    have nph : ph ≠ po := ne_of hhs ob (fun z => nomatch z)
    have hm : Tx J5 (upd J5 po (.ins (CoA K) dx (putF "total" (.int (c.tot + evE c.ρ e)) (flds pn pt ph va c.tot c.st)))) := Tx.put ob5 (fun xs z => by cases z)
    have m : Mv [po, pn, pt, ph] H (upd J5 po (.ins (CoA K) dx (putF "total" (.int (c.tot + evE c.ρ e)) (flds pn pt ph va c.tot c.st)))) := (g.trans g5).up.trans (Mv.put ob5 (by simp) (fun xs z => by cases z))
    refine q _ ⟨⟨dx, ?_⟩, ⟨kvs, ?_, ?_, ?_⟩, ?_, ?_, (as.mono g5.tup).mono hm, ne, ⟨?_, ?_⟩, bits⟩ m
    · rw [doS, upd_same]; rfl
    · rw [upd_ne npo]; exact g5.get hk1
    · rw [doS]; exact hk2
    · rw [doS]; show _ ≤ c.n + 1 + 1; omega
    · rw [doS, upd_ne npt]; exact g5.get tn
    · rw [doS, upd_ne nph]; exact g5.get hhs
    · rw [doS]; exact len.1
    · rw [doS]; show c.m ≤ c.n + 1; have := len.2; omega
  | stop =>
    have t0' : Td H v0 (.tuple [.str "stop"]) := by rw [S.d] at t0; exact t0
    refine s_ifF Mv.rfl (by walk_at "et") fun J g => ?_
    refine s_ifF g (by walk_at "et") fun J g => ?_
    refine s_ifT g (by walk_at "et") fun J g => ?_
    obtain ⟨⟨dx, ob⟩, ⟨kvs, hk1, hk2, hk3⟩, tn, hhs, as, ne, len, bits⟩ := o.mono g
    refine ⟨_, rfl, po, CoA K, dx, _, rfl, ob, B.cls, B.stopped, (by show (6 : Nat) < 1000; decide), ?_⟩
    have npo : pn ≠ po := ne_of hk1 ob (fun z => nomatch z)
    have npt : pt ≠ po := ne_of tn ob (fun z => nomatch z)
    have nph : ph ≠ po := ne_of hhs ob (fun z => nomatch z)
    have hm : Tx J (upd J po (.ins (CoA K) dx (putF "is_stopped" (.bl true) (flds pn pt ph va c.tot c.st)))) := Tx.put ob (fun xs z => by cases z)
    have m : Mv [po, pn, pt, ph] H (upd J po (.ins (CoA K) dx (putF "is_stopped" (.bl true) (flds pn pt ph va c.tot c.st)))) := g.up.trans (Mv.put ob (by simp) (fun xs z => by cases z))
    refine q _ ⟨⟨dx, ?_⟩, ⟨kvs, ?_, ?_, ?_⟩, ?_, ?_, as.mono hm, ne, ⟨?_, ?_⟩, bits⟩ m
    · rw [doS, upd_same]; rfl
    · rw [upd_ne npo]; exact hk1
    · rw [doS]; exact hk2
    · rw [doS]; show _ ≤ c.n + 1 + 1; omega
    · rw [doS, upd_ne npt]; exact tn
    · rw [doS, upd_ne nph]; exact hhs
    · rw [doS]; exact len.1
    · rw [doS]; show c.m ≤ c.n + 1; have := len.2; omega
  | ite t y z =>
    have t0' : Td H v0 (.tuple [.str "if", t.d, blk y, blk z]) := by rw [S.d] at t0; exact t0
    refine s_ifF Mv.rfl (by walk_at "et") fun J g => ?_
    refine s_ifF g (by walk_at "et") fun J g => ?_
    refine s_ifF g (by walk_at "et") fun J g => ?_
    exact nest trivial hs t0 J g
  | ch b y z =>
    have t0' : Td H v0 (.tuple [.str (hand b), blk y, blk z]) := by rw [S.d] at t0; exact t0
    refine s_ifF Mv.rfl (et_is (ev_eqS (ev_ix (ev_var rfl t0') rfl) ev_str (by cases b <;> decide +kernel))) fun J g => ?_
    refine s_ifF g (et_is (ev_eqS (ev_ix (ev_var rfl t0') rfl) ev_str (by cases b <;> decide +kernel))) fun J g => ?_
    refine s_ifF g (et_is (ev_eqS (ev_ix (ev_var rfl t0') rfl) ev_str (by cases b <;> decide +kernel))) fun J g => ?_
    exact nest trivial hs t0 J g
  | rep k b =>
    have t0' : Td H v0 (.tuple [.str "repeat", .int k, blk b]) := by rw [S.d] at t0; exact t0
    refine s_ifF Mv.rfl (by walk_at "et") fun J g => ?_
    refine s_ifF g (by walk_at "et") fun J g => ?_
    refine s_ifF g (by walk_at "et") fun J g => ?_
    exact nest trivial hs t0 J g
theorem mt_go_all (FD : Fm K "do" "Course.do" s_Course_do ["self", "statement"]) (FG : Fm K "go" "Course.go" s_Course_go ["self", "block"]) (B : Co K mg) (M_parts : Mt P w K mg base 8 "parts" ["self", "statement"] (spParts K))
    (G_value_of : Df P w K mg base 5 "value_of" ["expression", "names"] (spVal 4)) : ∀ n, Mt P w K mg base (2 * n + 9) "go" ["self", "block"] (spGo K n)
  | 0 => mt_go (n := 0) FG B (mt_void FD B.cls fun vs H Q E h => by
    obtain ⟨_, _, _, _, _, _, _, _, _, _, _, _, _, h, _⟩ := h
    exact h.elim)
  | n + 1 => mt_go (n := n + 1) FG B (mt_do (n := n) FD B (mt_go_all FD FG B M_parts G_value_of n) M_parts G_value_of)
end
end K27
namespace K27
open PySem PySem.Spec L2
open PyProof.Rows hiding St
local macro_rules | `(tactic| walk_at "td") => `(tactic| first | assumption | exact Td.int _ | exact Td.str _ | exact Td.bl _ | exact Td.non)
local macro_rules | `(tactic| walk_at "bq") => `(tactic| first | exact rfl | assumption | decide)
local macro_rules | `(tactic| walk_at "kb") => `(tactic| first | exact kii | exact ksi | exact kti | exact kib | exact kss | exact kis | exact kts | exact ktt | exact kst | exact kit)
local macro_rules | `(tactic| walk_at "ev") => `(tactic| first
  | with_reducible exact ev_int
  | with_reducible exact ev_str
  | with_reducible exact ev_bl
  | with_reducible exact ev_non
  | ((with_reducible refine' ev_var ?e ?t); (case e => exact rfl); (case t => walk_at "td"))
  | ((with_reducible refine' ev_ix ?a ?n ?z); (case a => walk_at "ev"); (case z => decide); (case n => exact rfl))
  | ((with_reducible refine' ev_isi ?a ?k); (case a => walk_at "ev"); (case k => walk_at "kb"))
  | ((with_reducible refine' ev_len ?a ?k); (case a => walk_at "ev"); (case k => exact rfl))
  | ((with_reducible refine' ev_cmpI ?a ?b ?r); (case a => walk_at "ev"); (case b => walk_at "ev"); (case r => walk_at "bq"))
  | ((with_reducible refine' ev_I0 ?a ?b ?r); (case a => walk_at "ev"); (case b => walk_at "ev"); (case r => exact rfl))
  | ((with_reducible refine' ev_eqS ?a ?b ?r); (case a => walk_at "ev"); (case b => walk_at "ev"); (case r => walk_at "bq"))
  | ((with_reducible refine' ev_eqI ?a ?b ?r); (case a => walk_at "ev"); (case b => walk_at "ev"); (case r => walk_at "bq"))
  | ((with_reducible refine' ev_neI ?a ?b ?r); (case a => walk_at "ev"); (case b => walk_at "ev"); (case r => walk_at "bq"))
  | ((with_reducible refine' ev_notV ?a ?r); (case a => walk_at "ev"); (case r => walk_at "bq"))
  | ((with_reducible refine' ev_chain ?a ?b ?c ?r); (case a => walk_at "ev"); (case b => walk_at "ev"); (case c => walk_at "ev"); (case r => walk_at "bq"))
  | ((with_reducible refine' ev_tup ?a ?l); (case a => walk_at "ea"); (case l => (show _ ≤ _; decide))))
local macro_rules | `(tactic| walk_at "ea") => `(tactic| first
  | with_reducible exact ea_nil
  | ((with_reducible refine' ea_cons ?a ?b); (case a => walk_at "ev"); (case b => walk_at "ea")))
local macro_rules | `(tactic| walk_at "et") => `(tactic| first
  | ((with_reducible refine' et_notI ?a ?r); (case a => walk_at "et"); (case r => walk_at "bq"))
  | ((with_reducible refine' et_is ?a); (case a => walk_at "ev"))
  | ((with_reducible refine' et_isB ?a); (case a => walk_at "ev"))
  | ((with_reducible refine' et_and ?a ?b ?c); (case a => walk_at "et"); (case b => (intro _; walk_at "et")); (case c => (intro z; first | exact z | (cases z; done) | rfl)))
  | ((with_reducible refine' et_or ?a ?b ?c); (case a => walk_at "et"); (case b => (intro _; walk_at "et")); (case c => (intro z; first | exact z | (cases z; done) | rfl))))
local macro_rules | `(tactic| walk_at "ev2") => `(tactic| first
  | walk_at "ev"
  | ((with_reducible refine' ev_inT ?a ?p ?s ?d ?f ?x ?b); (case a => walk_at "ev"); (case p => exact evv_c); (case s => assumption); (case d => exact rfl); (case f => exact rfl); (case x => exact rfl); (case b => walk_at "bq"))
  | ((with_reducible refine' ev_inU2 ?a ?p ?l ?d ?x ?f ?y ?b); (case a => walk_at "ev"); (case p => walk_at "ea"); (case l => (show _ ≤ _; decide)); (case d => exact rfl); (case x => exact rfl); (case f => exact rfl); (case y => exact rfl); (case b => walk_at "bq"))
  | ((with_reducible refine' ev_slA ?a ?l ?h ?r); (case a => walk_at "ev"); (case l => walk_at "eo"); (case h => walk_at "eo"); (case r => exact rfl)))
local macro_rules | `(tactic| walk_at "et2") => `(tactic| first
  | walk_at "et"
  | ((with_reducible refine' et_is ?a); (case a => walk_at "ev2"))
  | ((with_reducible refine' et_isB ?a); (case a => walk_at "ev2")))
local macro_rules | `(tactic| walk_at "eo") => `(tactic| first
  | with_reducible exact eo_none
  | ((with_reducible refine' eo_some ?a); (case a => walk_at "ev")))
def C0 (n : Int) : C := { ρ := fun y => if y = "n" then some n else none, tot := 0, m := 0, hs := [], st := false, n := 0 }
def handsD (hs : List Bool) : List PyData := hs.map fun h => .str (hand h)
def rowD (a : List Int) (c : C) : PyData := .tuple [.int c.tot, .tuple ((turnsOf a c.m).map .int), .tuple (handsD c.hs)]
section
variable {P : Program} {w : World} {K : PySem.W.Frag} {mg : Str → Option Value} {base : Heap}
/-! ### the constructor -/
abbrev s_Course___init__ : Stmt := inClass (top 43) 0
theorem sc_Course___init__ : FnScope ["self", "number", "asked"] ["self", "number", "asked"] (defScope s_Course___init__) := ⟨rfl, rfl, rfl, by decide +kernel, rfl, by decide +kernel, by decide +kernel⟩
def spInit (K : PySem.W.Frag) : Sp := fun vs H Q _ => ∃ (a : List Int) (po dx : Addr) (va : V) (n : Int), vs = [.ref po, .int n, va] ∧ H po = some (.ins (CoA K) dx []) ∧ Td H va (.tuple (a.map .int)) ∧ (∀ x ∈ a, x = 0 ∨ x = 1) ∧
  ∀ pn pt ph J, Ob K J a po pn pt ph va (C0 n) → Mv [po] H J → H pn = none → H pt = none → H ph = none → Q .non J
def Fi (K : PySem.W.Frag) (st : Stmt) (ps : List Str) : Prop := ∃ fd, Fun K "__init__" "Course.__init__" st (He.ma K (CoA K) "__init__") fd ∧ Binds K fd ps []
structure Mi (P : Program) (w : World) (K : PySem.W.Frag) (mg : Str → Option Value) (base : Heap) (k : Nat) (ps : List Str) (sp : Sp) : Prop where
  ex : ∃ fd : FuncData, FnOk P w K mg base CX0 k (He.ma K (CoA K) "__init__") fd ps sp ∧ Binds K fd ps []
theorem Mi.mono {j k : Nat} {ps : List Str} {sp : Sp} (G : Mi P w K mg base j ps sp) (h : j ≤ k) : Mi P w K mg base k ps sp := by
  obtain ⟨fd, F, r⟩ := G.ex
  exact ⟨fd, F.mono h, r⟩
theorem pe_mkr {X : Cx} {k : Nat} {ps : List Str} {sp : Sp} {e : Expr} {es : List Expr} {t : TA} {p pos : Pos} (G : Mi X.prog X.w X.K X.mg X.base k ps sp) (hr : Room (k + 1) X.A) (B : Co X.K X.mg) (ha : PA X (e :: es) t)
    (hg : Gl X "Course" := by rfl) (hdb : (("Course" : Str) == ("__debug__" : Str)) = false := by decide) (he : starEach (e :: es) X.env = (false, eval e X.env) :: starEach es X.env := by rfl) (hpl : (backTo pos (starEach es X.env)).any (·.1) = false := by rfl) :
    PE X (.Call (.Name "Course" p) (e :: es) [] pos) (tMake (CoA X.K) sp [] E0 t) := by
  obtain ⟨fd, F, hb⟩ := G.ex
  exact pe_make B.mkr F hr hg B.glo hb .nil pass0 ha hdb he hpl
theorem s_fld {σ : St} {H : Hp} {f : Str} {dx po : Addr} {fs : List (Str × V)} {ta : TE} {D : Ends} {v : V} (ha : EvV ta σ H (.ref po)) (hp : H po = some (.ins (CoA K) dx fs)) (hc : Cls K (CoA K)) (hn : NoAttr K (CoA K) f) (hl : fs.length < 1000)
    (k : ∀ J, Gr H J → D.nx σ (upd J po (.ins (CoA K) dx (putF f v fs)))) : ta σ H fun x H2 => ∃ a C dx fs, x = .ref a ∧ H2 a = some (.ins C dx fs) ∧ Cls K C ∧ NoAttr K C f ∧ fs.length < 1000 ∧ D.nx σ (upd H2 a (.ins C dx (putF f v fs))) :=
  ha H Mv.rfl _ fun H2 g2 => ⟨po, CoA K, dx, fs, rfl, g2.get hp, hc, hn, hl, k H2 g2⟩
theorem q_fld {tk : TS} {σ : St} {H : Hp} {f : Str} {dx po : Addr} {fs : List (Str × V)} {ta te : TE} {D : Ends} {v : V} (he : EvV te σ H v) (ha : EvV ta σ H (.ref po)) (hp : H po = some (.ins (CoA K) dx fs)) (hc : Cls K (CoA K)) (hn : NoAttr K (CoA K) f) (hl : fs.length < 1000)
    (k : ∀ J, Gr H J → tk D σ (upd J po (.ins (CoA K) dx (putF f v fs)))) : tSeq (sFld K ta te f) tk D σ H :=
  he H Mv.rfl _ fun H1 g1 => ha H1 g1 _ fun H2 g2 => ⟨po, CoA K, dx, fs, rfl, (g1.trans g2).get hp, hc, hn, hl, k H2 (g1.trans g2)⟩
theorem q_fldL {tk : TS} {σ : St} {H : Hp} {f : Str} {dx po : Addr} {fs : List (Str × V)} {ta te : TE} {D : Ends} {P : List PyData → Prop} (he : EvL te σ H P) (ha : ∀ J, Gr H J → EvV ta σ J (.ref po)) (hp : H po = some (.ins (CoA K) dx fs)) (hc : Cls K (CoA K)) (hn : NoAttr K (CoA K) f) (hl : fs.length < 1000)
    (k : ∀ p vs ds J, P ds → H p = none → J p = some (.lst vs) → TdA J vs ds → Gr H J → tk D σ (upd J po (.ins (CoA K) dx (putF f (.ref p) fs)))) : tSeq (sFld K ta te f) tk D σ H :=
  he H Mv.rfl _ fun p vs ds H1 pd hn0 g1 hx ts => ha H1 g1 H1 Mv.rfl _ fun H2 g2 => ⟨po, CoA K, dx, fs, rfl, (g1.trans g2).get hp, hc, hn, hl, k p vs ds H2 pd hn0 (g2.get hx) (ts.mono g2.tup) (g1.trans g2)⟩
theorem mi_init (F : Fi K s_Course___init__ ["self", "number", "asked"]) (T : Gb K w mg) (B : Co K mg) : Mi P w K mg base 1 ["self", "number", "asked"] (spInit K) := by
  obtain ⟨fd, F, hb⟩ := F
  refine ⟨fd, F.ok sc_Course___init__ (fun vs H Q E h => ?_) (fun cdv A outer s H vs Q E hr h => ?_), hb⟩
  · obtain ⟨_, _, _, _, _, rfl, _⟩ := h
    rfl
  obtain ⟨a, po, dx, va, n, rfl, ob, as, bits, q⟩ := h
  have f := He.ma K (CoA K) "__init__"
  refine ⟨_, (pss_cons (ps_fld (pv 0) (pe_disp (pps_cons (pe_gs T.INPUT) (pv 1) pps_nil) (by rfl) (by rfl) (fun z => by cases z) (by decide)) rfl) (pss_cons (ps_fld (pv 0) pe_int rfl) (pss_cons (ps_fld (pv 0) (pe_lst pa_nil) rfl) (pss_cons (ps_fld (pv 0) (pe_lst pa_nil) rfl) (pss_cons (ps_fld (pv 0) (pv 2) rfl) (pss_one (ps_fld (pv 0) pe_bl rfl))))))), ?_⟩
  intro pn hpn
  refine ⟨_, rfl, upd_same, [(.inr "n", .int n)], rfl, (by show (1 : Nat) ≤ 15; decide), ?_⟩
  have gn : Gr H (upd (upd H pn (.dK [])) pn (.dK (mergeK [] [(.inr "n", .int n)]))) := (Gr.new hpn).own hpn upd_same (fun xs z => by cases z)
  have hn1 : (upd (upd H pn (.dK [])) pn (.dK (mergeK [] [(.inr "n", .int n)]))) pn = some (.dK (mergeK [] [(.inr "n", .int n)])) := upd_same
  generalize upd (upd H pn (.dK [])) pn (.dK (mergeK [] [(.inr "n", .int n)])) = H1 at gn hn1
  refine (evv_var (i := 0) rfl : EvV (tVar 0) [some (.ref po), some (.int n), some va] H1 (.ref po)) H1 Mv.rfl _ fun H2 g2 => ⟨po, CoA K, dx, [], rfl, (gn.trans g2).get ob, B.cls, B.names, by decide, ?_⟩
  have w1 : ∀ {J : Hp} {fs ys : List (Str × V)}, J po = some (.ins (CoA K) dx fs) → Mv [po] J (upd J po (.ins (CoA K) dx ys)) := fun {J fs ys} h => Mv.put h (List.mem_singleton.mpr rfl) (fun xs z => by cases z)
  have m2 := (gn.trans g2).up.trans (w1 (ys := [("names", .ref pn)]) ((gn.trans g2).get ob))
  have npn : pn ≠ po := ne_of_none ob hpn |>.symm
  have hn2 : upd H2 po (.ins (CoA K) dx [("names", .ref pn)]) pn = some (.dK (mergeK [] [(.inr "n", .int n)])) := by rw [upd_ne npn]; exact g2.get hn1
  have ho2 : upd H2 po (.ins (CoA K) dx [("names", .ref pn)]) po = some (.ins (CoA K) dx [("names", .ref pn)]) := upd_same
  show tSeq _ _ _ _ (upd H2 po (.ins (CoA K) dx [("names", .ref pn)]))
  generalize upd H2 po (.ins (CoA K) dx [("names", .ref pn)]) = J2 at m2 hn2 ho2
  refine q_fld (v := .int 0) evv_c (evv_var rfl) ho2 B.cls B.total (by show (1 : Nat) < 1000; decide) fun J3 g3 => ?_
  have m3 := (m2.trans g3.up).trans (w1 (ys := [("names", .ref pn), ("total", .int 0)]) (g3.get ho2))
  have hn3 : upd J3 po (.ins (CoA K) dx [("names", .ref pn), ("total", .int 0)]) pn = some (.dK (mergeK [] [(.inr "n", .int n)])) := by rw [upd_ne npn]; exact g3.get hn2
  have ho3 : upd J3 po (.ins (CoA K) dx [("names", .ref pn), ("total", .int 0)]) po = some (.ins (CoA K) dx [("names", .ref pn), ("total", .int 0)]) := upd_same
  show tSeq _ _ _ _ (upd J3 po (.ins (CoA K) dx [("names", .ref pn), ("total", .int 0)]))
  generalize upd J3 po (.ins (CoA K) dx [("names", .ref pn), ("total", .int 0)]) = J4 at m3 hn3 ho3
  refine q_fldL (el_lst (ds := []) ea_nil (by show 0 ≤ 1000; decide)) (fun J g => evv_var rfl) ho3 B.cls B.turns (by show (2 : Nat) < 1000; decide) fun pt vs ds J5 e hpt hx ts g5 => ?_
  subst e
  have ex := ts
  cases ex
  have npt : pt ≠ po := ne_of_none ho3 hpt |>.symm
  have m5 := (m3.trans g5.up).trans (w1 (ys := [("names", .ref pn), ("total", .int 0), ("turns", .ref pt)]) (g5.get ho3))
  have hn5 : upd J5 po (.ins (CoA K) dx [("names", .ref pn), ("total", .int 0), ("turns", .ref pt)]) pn = some (.dK (mergeK [] [(.inr "n", .int n)])) := by rw [upd_ne npn]; exact g5.get hn3
  have ht5 : upd J5 po (.ins (CoA K) dx [("names", .ref pn), ("total", .int 0), ("turns", .ref pt)]) pt = some (.lst []) := by rw [upd_ne npt]; exact hx
  have ho5 : upd J5 po (.ins (CoA K) dx [("names", .ref pn), ("total", .int 0), ("turns", .ref pt)]) po = some (.ins (CoA K) dx [("names", .ref pn), ("total", .int 0), ("turns", .ref pt)]) := upd_same
  show tSeq _ _ _ _ (upd J5 po (.ins (CoA K) dx [("names", .ref pn), ("total", .int 0), ("turns", .ref pt)]))
  generalize upd J5 po (.ins (CoA K) dx [("names", .ref pn), ("total", .int 0), ("turns", .ref pt)]) = J6 at m5 hn5 ht5 ho5
  refine q_fldL (el_lst (ds := []) ea_nil (by show 0 ≤ 1000; decide)) (fun J g => evv_var rfl) ho5 B.cls B.hands (by show (3 : Nat) < 1000; decide) fun ph vs ds J7 e hph hx ts g7 => ?_
  subst e
  have ex := ts
  cases ex
  have nph : ph ≠ po := ne_of_none ho5 hph |>.symm
  have ntp : pt ≠ ph := ne_of_none ht5 hph
  have m7 := (m5.trans g7.up).trans (w1 (ys := [("names", .ref pn), ("total", .int 0), ("turns", .ref pt), ("hands", .ref ph)]) (g7.get ho5))
  have hn7 : upd J7 po (.ins (CoA K) dx [("names", .ref pn), ("total", .int 0), ("turns", .ref pt), ("hands", .ref ph)]) pn = some (.dK (mergeK [] [(.inr "n", .int n)])) := by rw [upd_ne npn]; exact g7.get hn5
  have ht7 : upd J7 po (.ins (CoA K) dx [("names", .ref pn), ("total", .int 0), ("turns", .ref pt), ("hands", .ref ph)]) pt = some (.lst []) := by rw [upd_ne npt]; exact g7.get ht5
  have hh7 : upd J7 po (.ins (CoA K) dx [("names", .ref pn), ("total", .int 0), ("turns", .ref pt), ("hands", .ref ph)]) ph = some (.lst []) := by rw [upd_ne nph]; exact hx
  have ho7 : upd J7 po (.ins (CoA K) dx [("names", .ref pn), ("total", .int 0), ("turns", .ref pt), ("hands", .ref ph)]) po = some (.ins (CoA K) dx [("names", .ref pn), ("total", .int 0), ("turns", .ref pt), ("hands", .ref ph)]) := upd_same
  show tSeq _ _ _ _ (upd J7 po (.ins (CoA K) dx [("names", .ref pn), ("total", .int 0), ("turns", .ref pt), ("hands", .ref ph)]))
  generalize upd J7 po (.ins (CoA K) dx [("names", .ref pn), ("total", .int 0), ("turns", .ref pt), ("hands", .ref ph)]) = J8 at m7 hn7 ht7 hh7 ho7
  refine q_fld (v := va) (evv_var rfl) (evv_var rfl) ho7 B.cls B.asked (by show (4 : Nat) < 1000; decide) fun J9 g9 => ?_
  have m9 := (m7.trans g9.up).trans (w1 (ys := [("names", .ref pn), ("total", .int 0), ("turns", .ref pt), ("hands", .ref ph), ("asked", va)]) (g9.get ho7))
  have hn9 : upd J9 po (.ins (CoA K) dx [("names", .ref pn), ("total", .int 0), ("turns", .ref pt), ("hands", .ref ph), ("asked", va)]) pn = some (.dK (mergeK [] [(.inr "n", .int n)])) := by rw [upd_ne npn]; exact g9.get hn7
  have ht9 : upd J9 po (.ins (CoA K) dx [("names", .ref pn), ("total", .int 0), ("turns", .ref pt), ("hands", .ref ph), ("asked", va)]) pt = some (.lst []) := by rw [upd_ne npt]; exact g9.get ht7
  have hh9 : upd J9 po (.ins (CoA K) dx [("names", .ref pn), ("total", .int 0), ("turns", .ref pt), ("hands", .ref ph), ("asked", va)]) ph = some (.lst []) := by rw [upd_ne nph]; exact g9.get hh7
  have ho9 : upd J9 po (.ins (CoA K) dx [("names", .ref pn), ("total", .int 0), ("turns", .ref pt), ("hands", .ref ph), ("asked", va)]) po = some (.ins (CoA K) dx [("names", .ref pn), ("total", .int 0), ("turns", .ref pt), ("hands", .ref ph), ("asked", va)]) := upd_same
  show sFld _ _ _ _ _ _ (upd J9 po (.ins (CoA K) dx [("names", .ref pn), ("total", .int 0), ("turns", .ref pt), ("hands", .ref ph), ("asked", va)]))
  generalize upd J9 po (.ins (CoA K) dx [("names", .ref pn), ("total", .int 0), ("turns", .ref pt), ("hands", .ref ph), ("asked", va)]) = L0 at m9 hn9 ht9 hh9 ho9
  refine ⟨_, rfl, po, CoA K, dx, _, rfl, ho9, B.cls, B.stopped, (by show (5 : Nat) < 1000; decide), ?_⟩
  have mE := m9.trans (w1 (ys := flds pn pt ph va 0 false) ho9)
  refine q pn pt ph _ ⟨⟨dx, upd_same⟩, ⟨_, (by rw [upd_ne npn]; exact hn9), fun y => ?_, (by show (1 : Nat) ≤ 0 + 1; decide)⟩, (by rw [upd_ne npt]; exact ht9), (by rw [upd_ne nph]; exact hh9), as.mono mE.tup, ntp, ⟨rfl, Nat.le_refl _⟩, bits⟩ mE hpn (m3.low pt hpt) (m5.low ph hph)
  show valV (putK ([] : List (L2.Key × V)) (Sum.inr "n") (.int n)) (Sum.inr y) = Option.map V.int (if y = "n" then some n else none)
  rw [valV_put]
  by_cases h : y = "n"
  · subst h
    rw [if_pos rfl, if_pos rfl]; rfl
  · rw [if_neg h, if_neg (fun z => h (Sum.inr.inj z))]; rfl
end
end K27
namespace K27
open PySem PySem.Spec L2
open PyProof.Rows hiding St
local macro_rules | `(tactic| walk_at "td") => `(tactic| first | assumption | exact Td.int _ | exact Td.str _ | exact Td.bl _ | exact Td.non)
local macro_rules | `(tactic| walk_at "bq") => `(tactic| first | exact rfl | assumption | decide)
local macro_rules | `(tactic| walk_at "kb") => `(tactic| first | exact kii | exact ksi | exact kti | exact kib | exact kss | exact kis | exact kts | exact ktt | exact kst | exact kit)
local macro_rules | `(tactic| walk_at "ev") => `(tactic| first
  | with_reducible exact ev_int
  | with_reducible exact ev_str
  | with_reducible exact ev_bl
  | with_reducible exact ev_non
  | ((with_reducible refine' ev_var ?e ?t); (case e => exact rfl); (case t => walk_at "td"))
  | ((with_reducible refine' ev_ix ?a ?n ?z); (case a => walk_at "ev"); (case z => decide); (case n => exact rfl))
  | ((with_reducible refine' ev_isi ?a ?k); (case a => walk_at "ev"); (case k => walk_at "kb"))
  | ((with_reducible refine' ev_len ?a ?k); (case a => walk_at "ev"); (case k => exact rfl))
  | ((with_reducible refine' ev_cmpI ?a ?b ?r); (case a => walk_at "ev"); (case b => walk_at "ev"); (case r => walk_at "bq"))
  | ((with_reducible refine' ev_I0 ?a ?b ?r); (case a => walk_at "ev"); (case b => walk_at "ev"); (case r => exact rfl))
  | ((with_reducible refine' ev_eqS ?a ?b ?r); (case a => walk_at "ev"); (case b => walk_at "ev"); (case r => walk_at "bq"))
  | ((with_reducible refine' ev_eqI ?a ?b ?r); (case a => walk_at "ev"); (case b => walk_at "ev"); (case r => walk_at "bq"))
  | ((with_reducible refine' ev_neI ?a ?b ?r); (case a => walk_at "ev"); (case b => walk_at "ev"); (case r => walk_at "bq"))
  | ((with_reducible refine' ev_notV ?a ?r); (case a => walk_at "ev"); (case r => walk_at "bq"))
  | ((with_reducible refine' ev_chain ?a ?b ?c ?r); (case a => walk_at "ev"); (case b => walk_at "ev"); (case c => walk_at "ev"); (case r => walk_at "bq"))
  | ((with_reducible refine' ev_tup ?a ?l); (case a => walk_at "ea"); (case l => (show _ ≤ _; decide))))
local macro_rules | `(tactic| walk_at "ea") => `(tactic| first
  | with_reducible exact ea_nil
  | ((with_reducible refine' ea_cons ?a ?b); (case a => walk_at "ev"); (case b => walk_at "ea")))
local macro_rules | `(tactic| walk_at "et") => `(tactic| first
  | ((with_reducible refine' et_notI ?a ?r); (case a => walk_at "et"); (case r => walk_at "bq"))
  | ((with_reducible refine' et_is ?a); (case a => walk_at "ev"))
  | ((with_reducible refine' et_isB ?a); (case a => walk_at "ev"))
  | ((with_reducible refine' et_and ?a ?b ?c); (case a => walk_at "et"); (case b => (intro _; walk_at "et")); (case c => (intro z; first | exact z | (cases z; done) | rfl)))
  | ((with_reducible refine' et_or ?a ?b ?c); (case a => walk_at "et"); (case b => (intro _; walk_at "et")); (case c => (intro z; first | exact z | (cases z; done) | rfl))))
local macro_rules | `(tactic| walk_at "ev2") => `(tactic| first
  | walk_at "ev"
  | ((with_reducible refine' ev_inT ?a ?p ?s ?d ?f ?x ?b); (case a => walk_at "ev"); (case p => exact evv_c); (case s => assumption); (case d => exact rfl); (case f => exact rfl); (case x => exact rfl); (case b => walk_at "bq"))
  | ((with_reducible refine' ev_inU2 ?a ?p ?l ?d ?x ?f ?y ?b); (case a => walk_at "ev"); (case p => walk_at "ea"); (case l => (show _ ≤ _; decide)); (case d => exact rfl); (case x => exact rfl); (case f => exact rfl); (case y => exact rfl); (case b => walk_at "bq"))
  | ((with_reducible refine' ev_slA ?a ?l ?h ?r); (case a => walk_at "ev"); (case l => walk_at "eo"); (case h => walk_at "eo"); (case r => exact rfl)))
local macro_rules | `(tactic| walk_at "et2") => `(tactic| first
  | walk_at "et"
  | ((with_reducible refine' et_is ?a); (case a => walk_at "ev2"))
  | ((with_reducible refine' et_isB ?a); (case a => walk_at "ev2")))
local macro_rules | `(tactic| walk_at "eo") => `(tactic| first
  | with_reducible exact eo_none
  | ((with_reducible refine' eo_some ?a); (case a => walk_at "ev")))
section
variable {P : Program} {w : World} {K : PySem.W.Frag} {mg : Str → Option Value} {base : Heap}
/-! ### run -/
abbrev s_run : Stmt := top 44
theorem sc_run : FnScope ["program", "number", "turns", "course"] ["program", "number", "turns"] (defScope s_run) := ⟨rfl, rfl, rfl, by decide +kernel, rfl, by decide +kernel, by decide +kernel⟩
theorem ints_len (l : List Int) : (l.map PyData.int).length = l.length := List.length_map _
theorem TdA.hands {H : Hp} : ∀ hs : List Bool, TdA H (handsV hs) (handsD hs)
  | [] => .nil
  | h :: r => .cons (.str _) (TdA.hands r)
theorem q_make {σ : St} {H : Hp} {D : Ends} {tk : TS} {i : Nat} {C : Addr} {sp : Sp} {E : XK} {t : TA} {ds : List PyData} (ea : EvA t σ H ds)
    (k : ∀ vs J x dx, Gr H J → TdA J vs ds → J x = none → J dx = none → dx ≠ x → sp (.ref x :: vs) (upd (upd J dx (.own x)) x (.ins C dx [])) (fun v H2 => v = .non ∧ tk D (σ.set i (some (.ref x))) H2) E) : tSeq (tAsg (tMake C sp [] E t) (gName i)) tk D σ H :=
  ea H Mv.rfl _ fun vs J g ts => fun x dx h1 h2 h3 => by
    rw [List.append_nil]
    exact k vs J x dx g ts h1 h2 h3
theorem q_drop {σ : St} {H : Hp} {D : Ends} {tk : TS} {te : TE} (h : te σ H fun _ J => tk D σ J) : tSeq (tDrop te) tk D σ H := h
def A_run (ds : List PyData) (P : PyData → Prop) : Prop := ∃ (b : List S) (ke : Nat) (n : Int) (a : List Int), ds = [blk b, .int n, .tuple (a.map .int)] ∧ BOk ke 4 b ∧ ke ≤ 4 ∧ cost b ≤ 1000 ∧ (∀ x ∈ a, x = 0 ∨ x = 1) ∧ P = fun z => z = rowD a (goB a b (C0 n))
theorem df_run (F : Fn K mg "run" s_run ["program", "number", "turns"]) (T : Gb K w mg) (B : Co K mg) (M_init : Mi P w K mg base 1 ["self", "number", "asked"] (spInit K)) (M_go : Mt P w K mg base 17 "go" ["self", "block"] (spGo K 4)) : Df P w K mg base 18 "run" ["program", "number", "turns"] (spF A_run) := by
  refine df_of F sc_run (spF_len fun ds P h => ?_) (fun f cdv A outer s H vs Q E hr h => ?_)
  · obtain ⟨_, _, _, _, rfl, _⟩ := h
    rfl
  obtain ⟨ds, P', ⟨b, ke, n, a, rfl, hb, hke, hc, bits, rfl⟩, ts, q⟩ := h
  obtain ⟨v0, v1, v2, rfl, t0, t1, t2⟩ := ts.i3
  have e1 := t1.int_inv
  subst e1
  refine ⟨_, (pss_cons (ps_set (i := 3) sc_run.nd rfl (Or.inl rfl) (pe_mkr M_init (hr.mono (by first | decide | omega)) B (pa_cons (pv 1) (pa_cons (pv 2) pa_nil)))) (pss_cons (ps_expr (pe_mt M_go (hr.mono (by first | decide | omega)) (pv 3) (pa_cons (pv 0) pa_nil))) (pss_one (ps_ret (pe_tup (pa_cons (pe_fld (pv 3) rfl) (pa_cons (pe_callTy (T := "tuple") (k_tup K) (by rfl) T.tuple_ (by decide +kernel) (pa_cons (pe_fld (pv 3) rfl) pa_nil)) (pa_cons (pe_callTy (T := "tuple") (k_tup K) (by rfl) T.tuple_ (by decide +kernel) (pa_cons (pe_fld (pv 3) rfl) pa_nil)) pa_nil)))))))), ?_⟩
  refine q_make (ds := [.int n, .tuple (a.map .int)]) (ea_cons (ev_var rfl (.int n)) (ea_cons (ev_var rfl t2) ea_nil)) fun vs J po dx g ts hpo hdx hne => ?_
  obtain ⟨u1, u2, rfl, tu1, tu2⟩ := ts.i2
  have e2 := tu1.int_inv
  subst e2
  have g1 : Gr J (upd J dx (.own po)) := Gr.new hdx
  have hpo1 : upd J dx (.own po) po = none := by rw [upd_ne hne.symm]; exact hpo
  have g2 : Gr (upd J dx (.own po)) (upd (upd J dx (.own po)) po (.ins (CoA K) dx [])) := Gr.new hpo1
  have gI := (g.trans g1).trans g2
  refine ⟨a, po, dx, u2, n, rfl, upd_same, (tu2.mono g1.tup).mono g2.tup, bits, fun pn pt ph J3 o m3 hpn hpt hph => ⟨rfl, ?_⟩⟩
  have hH : H po = none := (g.trans g1).low po hpo1
  have low : ∀ {p : Addr}, upd (upd J dx (.own po)) po (.ins (CoA K) dx []) p = none → H p = none := fun h => gI.low _ h
  have g3 : Gr H J3 := (gI.up.trans m3).drop (U := []) fun x hx => .inr (by rw [List.mem_singleton.mp hx]; exact hH)
  obtain ⟨dx2, ob⟩ := o.ob
  refine q_drop ?_
  refine mt_call (ds := [blk b]) (evv_var rfl) ob rfl (ea_cons (ev_var rfl (t0.mono g3.tup)) ea_nil) fun vs J4 g4 ts => ?_
  obtain ⟨u3, rfl, tu3⟩ := ts.i1
  refine ⟨a, po, pn, pt, ph, u2, u3, C0 n, b, ke, rfl, o.mono g4, tu3, hb, hke, by show ((0 : Nat) : Int) + cost b ≤ 1000; omega, fun J5 o5 m5 => ?_⟩
  have g5 : Gr H J5 := ((g3.trans g4).up.trans m5).drop (U := []) fun x hx => .inr (by
    simp only [List.mem_cons, List.not_mem_nil, or_false] at hx
    rcases hx with e | e | e | e <;> subst e
    · exact hH
    · exact low hpn
    · exact low hpt
    · exact low hph)
  obtain ⟨⟨dx5, ob5⟩, _, tn5, hs5, _⟩ := o5
  refine s_ret Mv.rfl (P := fun z => z = rowD a (goB a b (C0 n))) ?_ fun v d J6 p g6 t => q v d J6 p (g5.trans g6) t
  refine ev_tup (ea_cons ((evv_fld (evv_var rfl) ob5 B.cls B.total rfl).d (.int _)) (ea_cons (ev_tupV (evv_fld (evv_var rfl) ob5 B.cls B.turns rfl) tn5 TdA.ints) (ea_cons (ev_tupV (evv_fld (evv_var rfl) ob5 B.cls B.hands rfl) hs5 (TdA.hands _)) ea_nil))) (by show 3 ≤ 1000; decide)
/-! ### next_turns -/
def cutOnes (t : List Int) : Nat → Nat
  | 0 => 0
  | n + 1 => if t[n]? = some 1 then cutOnes t n else n + 1
def nextT (t : List Int) : Option (List Int) := match cutOnes t t.length with
  | 0 => none
  | j + 1 => some (t.take j ++ [1])
abbrev s_next_turns : Stmt := top 45
theorem sc_next_turns : FnScope ["turns", "at"] ["turns"] (defScope s_next_turns) := ⟨rfl, rfl, rfl, by decide +kernel, rfl, by decide +kernel, by decide +kernel⟩
def intsD (t : List Int) : PyData := .tuple (t.map .int)
def A_next (ds : List PyData) (P : List PyData → Prop) : Prop := ∃ t : List Int, ds = [intsD t] ∧ t.length ≤ 100 ∧ P = fun es => es = (nextT t).toList.map intsD
theorem df_next_turns (F : Fn K mg "next_turns" s_next_turns ["turns"]) (T : Gb K w mg) : Df P w K mg base 1 "next_turns" ["turns"] (spFL A_next) := by
  refine df_of F sc_next_turns (spFL_len fun ds P h => ?_) (fun f cdv A outer s H vs Q E hr h => ?_)
  · obtain ⟨_, rfl, _⟩ := h
    rfl
  obtain ⟨ds, P', ⟨t, rfl, hl, rfl⟩, ts, q⟩ := h
  obtain ⟨v0, rfl, t0⟩ := ts.i1
  have t0' : Td H v0 (.tuple (t.map .int)) := t0
  refine ⟨_, (pss_cons (ps_set (i := 1) sc_next_turns.nd rfl (Or.inl rfl) (pe_op op_sub (pe_callB (id := "len") (k_len K) (by rfl) T.len_ (by decide +kernel) (pa_cons (pv 0) pa_nil)) pe_int)) (pss_cons (ps_while PassesOwn.never (PW.pt (pw_and (pt_cmpR op_ge (pv 1) pe_int (nomark _)) (pw_and1 (pt_cmpR op_eq (pe_ix (k_ixT K) (pv 0) (pv 1) (fun _ _ => rfl)) pe_int (nomark _))))) (pss_one (ps_aug (i := 1) sc_next_turns.nd rfl (.inl rfl) pe_int ip_sub))) (pss_one (ps_ret (pe_ifExp (pt_cmpR op_ge (pv 1) pe_int (nomark _)) (pe_lst (pa_cons (pe_op (k_catA K) (pe_slice (k_slA K) (pv 0) po_none (po_some (pv 1))) (pe_tup (pa_cons pe_int pa_nil))) pa_nil)) (pe_lst pa_nil)))))), ?_⟩
  refine q_set (P := fun d => d = .int ((t.length : Int) - 1)) Mv.rfl (ev_I0 (ev_len (ev_var rfl t0') (by rw [List.length_map])) ev_int rfl) fun v1 d1 J e1 g t1 => ?_
  subst e1
  have e1 := t1.int_inv
  subst e1
  refine s_while (W := fun m σ J => σ = [some v0, some (.int ((m : Int) - 1))] ∧ Gr H J ∧ m ≤ t.length ∧ cutOnes t m = cutOnes t t.length) (m := t.length) ⟨rfl, g, Nat.le_refl _, rfl⟩ ?_
  rintro m σ J ⟨rfl, gJ, hm, hcut⟩
  have tJ := t0'.mono gJ.tup
  have fin : ∀ {σ : St}, cutOnes t m = m → ∀ J2, Gr J J2 → σ = [some v0, some (.int ((m : Int) - 1))] → tRet (tIf (tTest (tOp (rI0 fun i j => .bl (decide (i ≥ j))) (tVar 1) (tC (.int 0)))) (tLst (tCons (tOp (rCatA K) (tSl (rSlA K) (tVar 0) tNoPart (tPart (tVar 1))) (tTup (tCons (tC (.int 1)) tNil))) tNil)) (tLst tNil)) { nx := fun _ H' => Q .non H', rt := Q } σ J2 := fun {σ} hcm J2 g2 eσ => by
    subst eσ
    refine s_retL g2 (P := fun es => es = (nextT t).toList.map intsD) ?_ fun p ws es J3 pe hp g3 hx tw => q p ws es J3 pe (gJ.low p hp) (gJ.trans g3) hx tw
    have hct : cutOnes t t.length = m := by rw [← hcut]; exact hcm
    cases m with
    | zero =>
      have e : nextT t = none := by unfold nextT; rw [hct]
      rw [e]
      refine el_ifE (b := false) (et_is (ev_cmpI (ev_var rfl (.int _)) ev_int (by decide))) (fun z => by cases z) fun _ => el_lst ea_nil (by show 0 ≤ 1000; decide)
    | succ j =>
      have e : nextT t = some (t.take j ++ [1]) := by unfold nextT; rw [hct]
      rw [e]
      refine el_ifE (b := true) (et_is (ev_cmpI (ev_var rfl (.int _)) ev_int (decide_eq_true (by omega)))) (fun _ => ?_) (fun z => by cases z)
      have e2 : ((j + 1 : Nat) : Int) - 1 = (j : Int) := by omega
      rw [e2]
      refine el_lst (ds := [intsD (t.take j ++ [1])]) (ea_cons ?_ ea_nil) (by show 1 ≤ 1000; decide)
      have e3 : intsD (t.take j ++ [1]) = .tuple ((t.map .int).take j ++ [.int 1]) := by unfold intsD; rw [List.map_append, List.map_take]; rfl
      rw [e3]
      refine ev_catA (ev_slA (ev_var rfl tJ) eo_none (eo_some (ev_var rfl (.int _))) ?_) (ev_tup (ea_cons ev_int ea_nil) (by show 1 ≤ 1000; decide)) (by rw [List.length_take, List.length_map]; show _ + 1 ≤ 1000; omega)
      unfold K27.cut
      rw [HT.sIx_none, HT.sIx_nat, List.drop_zero, Nat.sub_zero, List.length_map, Nat.min_eq_left (by omega)]
  cases m with
  | zero =>
    refine ⟨fun c => c = false, et_and (a := false) (et_is (ev_cmpI (ev_var rfl (.int _)) ev_int (by decide))) (fun z => by cases z) (fun _ => rfl), ?_, fun _ J2 g2 => fin rfl J2 g2 rfl⟩
    intro z; cases z
  | succ j =>
    have e2 : ((j + 1 : Nat) : Int) - 1 = (j : Int) := by omega
    have hj : j < t.length := by omega
    obtain ⟨x, hx⟩ : ∃ x, t[j]? = some x := ⟨_, List.getElem?_eq_getElem hj⟩
    have hcj : cutOnes t (j + 1) = if x = 1 then cutOnes t j else j + 1 := by
      rw [cutOnes, hx]
      by_cases h : x = 1
      · rw [if_pos h, if_pos (by rw [h])]
      · rw [if_neg h, if_neg (fun z => h (Option.some.inj z))]
    refine ⟨fun c => c = decide (x = 1), et_and (a := true) (et_is (ev_cmpI (ev_var rfl (.int _)) ev_int (decide_eq_true (by omega)))) (fun _ => et_is (ev_eqI (x := x) (y := 1) (ev_ixTv (n := j) (ev_var rfl tJ) ?_ ?_) ev_int rfl)) (fun z => by cases z), fun h J2 g2 => ?_, fun h J2 g2 => ?_⟩
    · rw [e2]; exact ev_var rfl (.int _)
    · rw [List.getElem?_map, hx]; rfl
    · have hx1 : x = 1 := of_decide_eq_true h.symm
      refine ⟨_, rfl, _, _, rfl, rfl, j, Nat.lt_succ_self _, ?_, gJ.trans g2, by omega, ?_⟩
      · rw [e2]; rfl
      · rw [← hcut, hcj, if_pos hx1]
    · have hx1 : ¬ x = 1 := of_decide_eq_false h.symm
      exact fin (by rw [hcj, if_neg hx1]) J2 g2 rfl
end
end K27
namespace K27
open PySem PySem.Spec L2
open PyProof.Rows hiding St
local macro_rules | `(tactic| walk_at "td") => `(tactic| first | assumption | exact Td.int _ | exact Td.str _ | exact Td.bl _ | exact Td.non)
local macro_rules | `(tactic| walk_at "bq") => `(tactic| first | exact rfl | assumption | decide)
local macro_rules | `(tactic| walk_at "kb") => `(tactic| first | exact kii | exact ksi | exact kti | exact kib | exact kss | exact kis | exact kts | exact ktt | exact kst | exact kit)
local macro_rules | `(tactic| walk_at "ev") => `(tactic| first
  | with_reducible exact ev_int
  | with_reducible exact ev_str
  | with_reducible exact ev_bl
  | with_reducible exact ev_non
  | ((with_reducible refine' ev_var ?e ?t); (case e => exact rfl); (case t => walk_at "td"))
  | ((with_reducible refine' ev_ix ?a ?n ?z); (case a => walk_at "ev"); (case z => decide); (case n => exact rfl))
  | ((with_reducible refine' ev_isi ?a ?k); (case a => walk_at "ev"); (case k => walk_at "kb"))
  | ((with_reducible refine' ev_len ?a ?k); (case a => walk_at "ev"); (case k => exact rfl))
  | ((with_reducible refine' ev_cmpI ?a ?b ?r); (case a => walk_at "ev"); (case b => walk_at "ev"); (case r => walk_at "bq"))
  | ((with_reducible refine' ev_I0 ?a ?b ?r); (case a => walk_at "ev"); (case b => walk_at "ev"); (case r => exact rfl))
  | ((with_reducible refine' ev_eqS ?a ?b ?r); (case a => walk_at "ev"); (case b => walk_at "ev"); (case r => walk_at "bq"))
  | ((with_reducible refine' ev_eqI ?a ?b ?r); (case a => walk_at "ev"); (case b => walk_at "ev"); (case r => walk_at "bq"))
  | ((with_reducible refine' ev_neI ?a ?b ?r); (case a => walk_at "ev"); (case b => walk_at "ev"); (case r => walk_at "bq"))
  | ((with_reducible refine' ev_notV ?a ?r); (case a => walk_at "ev"); (case r => walk_at "bq"))
  | ((with_reducible refine' ev_chain ?a ?b ?c ?r); (case a => walk_at "ev"); (case b => walk_at "ev"); (case c => walk_at "ev"); (case r => walk_at "bq"))
  | ((with_reducible refine' ev_tup ?a ?l); (case a => walk_at "ea"); (case l => (show _ ≤ _; decide))))
local macro_rules | `(tactic| walk_at "ea") => `(tactic| first
  | with_reducible exact ea_nil
  | ((with_reducible refine' ea_cons ?a ?b); (case a => walk_at "ev"); (case b => walk_at "ea")))
local macro_rules | `(tactic| walk_at "et") => `(tactic| first
  | ((with_reducible refine' et_notI ?a ?r); (case a => walk_at "et"); (case r => walk_at "bq"))
  | ((with_reducible refine' et_is ?a); (case a => walk_at "ev"))
  | ((with_reducible refine' et_isB ?a); (case a => walk_at "ev"))
  | ((with_reducible refine' et_and ?a ?b ?c); (case a => walk_at "et"); (case b => (intro _; walk_at "et")); (case c => (intro z; first | exact z | (cases z; done) | rfl)))
  | ((with_reducible refine' et_or ?a ?b ?c); (case a => walk_at "et"); (case b => (intro _; walk_at "et")); (case c => (intro z; first | exact z | (cases z; done) | rfl))))
local macro_rules | `(tactic| walk_at "ev2") => `(tactic| first
  | walk_at "ev"
  | ((with_reducible refine' ev_inT ?a ?p ?s ?d ?f ?x ?b); (case a => walk_at "ev"); (case p => exact evv_c); (case s => assumption); (case d => exact rfl); (case f => exact rfl); (case x => exact rfl); (case b => walk_at "bq"))
  | ((with_reducible refine' ev_inU2 ?a ?p ?l ?d ?x ?f ?y ?b); (case a => walk_at "ev"); (case p => walk_at "ea"); (case l => (show _ ≤ _; decide)); (case d => exact rfl); (case x => exact rfl); (case f => exact rfl); (case y => exact rfl); (case b => walk_at "bq"))
  | ((with_reducible refine' ev_slA ?a ?l ?h ?r); (case a => walk_at "ev"); (case l => walk_at "eo"); (case h => walk_at "eo"); (case r => exact rfl)))
local macro_rules | `(tactic| walk_at "et2") => `(tactic| first
  | walk_at "et"
  | ((with_reducible refine' et_is ?a); (case a => walk_at "ev2"))
  | ((with_reducible refine' et_isB ?a); (case a => walk_at "ev2")))
local macro_rules | `(tactic| walk_at "eo") => `(tactic| first
  | with_reducible exact eo_none
  | ((with_reducible refine' eo_some ?a); (case a => walk_at "ev")))
/-! ### the runs, as a Lean function -/
def Bits (a : List Int) : Prop := ∀ x ∈ a, x = 0 ∨ x = 1
def val (a : List Int) : Int := pick a 0 * 16 + pick a 1 * 8 + pick a 2 * 4 + pick a 3 * 2 + pick a 4
theorem val_lt {a : List Int} (h : Bits a) : val a < 32 := by
  have h0 := pick_bit h 0
  have h1 := pick_bit h 1
  have h2 := pick_bit h 2
  have h3 := pick_bit h 3
  have h4 := pick_bit h 4
  unfold val; omega
theorem turnsOf_bits {a : List Int} (h : Bits a) (m : Nat) : Bits (turnsOf a m) := fun x hx => by
  unfold turnsOf at hx
  obtain ⟨i, _, rfl⟩ := List.mem_map.mp hx
  exact pick_bit h i
theorem cutOnes_le (t : List Int) : ∀ n, cutOnes t n ≤ n
  | 0 => Nat.le_refl _
  | n + 1 => by
    have := cutOnes_le t n
    rw [cutOnes]; split <;> omega
theorem cutOnes_not (t : List Int) {j : Nat} : ∀ n, cutOnes t n = j + 1 → t[j]? ≠ some 1
  | 0, h => by rw [cutOnes] at h; cases h
  | n + 1, h => by
    rw [cutOnes] at h
    by_cases e : t[n]? = some 1
    · rw [if_pos e] at h; exact cutOnes_not t n h
    · rw [if_neg e] at h
      have e2 : n = j := by omega
      rw [← e2]; exact e
theorem next_val {a a' : List Int} {m : Nat} (hb : Bits a) (hm : m ≤ 4) (h : nextT (turnsOf a m) = some a') : val a < val a' ∧ Bits a' := by
  unfold nextT at h
  cases e : cutOnes (turnsOf a m) (turnsOf a m).length with
  | zero => rw [e] at h; cases h
  | succ j =>
    rw [e] at h
    have e2 : a' = (turnsOf a m).take j ++ [1] := (Option.some.inj h).symm
    have h1 := cutOnes_not _ _ e
    have h2 := cutOnes_le (turnsOf a m) (turnsOf a m).length
    rw [e, turnsOf_len] at h2
    have hj : j < m := by omega
    have hget : ∀ i, i < m → (turnsOf a m)[i]? = some (pick a i) := fun i hi => by
      unfold turnsOf
      rw [List.getElem?_map, List.getElem?_range hi]; rfl
    have h0 : pick a j = 0 := by
      rcases pick_bit hb j with z | z
      · exact z
      · rw [hget j hj, z] at h1; exact absurd rfl h1
    have hlen : ((turnsOf a m).take j).length = j := by rw [List.length_take, turnsOf_len]; omega
    have p1 : ∀ i, i < j → pick a' i = pick a i := fun i hi => by
      subst e2
      have : ((turnsOf a m).take j ++ [1])[i]? = some (pick a i) := by
        rw [List.getElem?_append_left (by omega), List.getElem?_take_of_lt hi, hget i (by omega)]
      show ((((turnsOf a m).take j ++ [1])[i]?).getD 0) = _
      rw [this]; rfl
    have p2 : pick a' j = 1 := by
      subst e2
      show ((((turnsOf a m).take j ++ [1])[j]?).getD 0) = 1
      rw [List.getElem?_append_right (by omega), hlen, Nat.sub_self]; rfl
    have p3 : ∀ i, j < i → pick a' i = 0 := fun i hi => by
      subst e2
      show ((((turnsOf a m).take j ++ [1])[i]?).getD 0) = 0
      rw [List.getElem?_eq_none (by rw [List.length_append, hlen, List.length_singleton]; omega)]; rfl
    constructor
    · have b0 := pick_bit hb 0
      have b1 := pick_bit hb 1
      have b2 := pick_bit hb 2
      have b3 := pick_bit hb 3
      have b4 := pick_bit hb 4
      have hj4 : j = 0 ∨ j = 1 ∨ j = 2 ∨ j = 3 := by omega
      unfold val
      rcases hj4 with z | z | z | z <;> subst z
      · rw [p2, p3 1 (by omega), p3 2 (by omega), p3 3 (by omega), p3 4 (by omega), h0]; omega
      · rw [p1 0 (by omega), p2, p3 2 (by omega), p3 3 (by omega), p3 4 (by omega), h0]; omega
      · rw [p1 0 (by omega), p1 1 (by omega), p2, p3 3 (by omega), p3 4 (by omega), h0]; omega
      · rw [p1 0 (by omega), p1 1 (by omega), p1 2 (by omega), p2, p3 4 (by omega), h0]; omega
    · intro x hx
      rw [e2] at hx
      rcases List.mem_append.mp hx with hx | hx
      · exact turnsOf_bits hb m x (List.mem_of_mem_take hx)
      · rw [List.mem_singleton.mp hx]; exact .inr rfl
def runsF (f : List Int → C) : Nat → Option (List Int) → List PyData
  | 0, _ => []
  | _, none => []
  | n + 1, some a => rowD a (f a) :: runsF f n (nextT (turnsOf a (f a).m))
def allRuns (b : List S) (n : Int) : List PyData := runsF (fun a => goB a b (C0 n)) 33 (some [])
theorem runsF_len (f : List Int → C) : ∀ n o, (runsF f n o).length ≤ n
  | 0, _ => by rw [runsF]; exact Nat.le_refl _
  | n + 1, none => by rw [runsF]; exact Nat.zero_le _; intro h; cases h
  | n + 1, some a => by
    have := runsF_len f n (nextT (turnsOf a (f a).m))
    rw [runsF, List.length_cons]; omega
section
variable {P : Program} {w : World} {K : PySem.W.Frag} {mg : Str → Option Value} {base : Heap}
/-! ### runs_on -/
abbrev s_runs_on : Stmt := top 46
theorem sc_runs_on : FnScope ["program", "number", "left", "found", "row"] ["program", "number"] (defScope s_runs_on) := ⟨rfl, rfl, rfl, by decide +kernel, rfl, by decide +kernel, by decide +kernel⟩
def A_runs_on (ds : List PyData) (P : List PyData → Prop) : Prop := ∃ (b : List S) (ke : Nat) (n : Int), ds = [blk b, .int n] ∧ BOk ke 4 b ∧ ke ≤ 4 ∧ cost b ≤ 1000 ∧ numB (own "choice") b ≤ 4 ∧ P = fun es => es = allRuns b n
theorem shaped_ints {o : Option (List Int)} : SeqAt.shaped (.list (o.toList.map intsD)) = true := shaped_list (n := 1) (fun d hd => by
  obtain ⟨x, _, rfl⟩ := List.mem_map.mp hd
  exact Sh.tup (n := 0) fun d hd => by
    obtain ⟨y, _, rfl⟩ := List.mem_map.mp hd
    exact Sh.int _ _) (by decide)
theorem df_runs_on (F : Fn K mg "runs_on" s_runs_on ["program", "number"]) (T : Gb K w mg) (G_run : Df P w K mg base 18 "run" ["program", "number", "turns"] (spF A_run)) (G_next_turns : Df P w K mg base 1 "next_turns" ["turns"] (spFL A_next)) : Df P w K mg base 19 "runs_on" ["program", "number"] (spFL A_runs_on) := by
  refine df_of F sc_runs_on (spFL_len fun ds P h => ?_) (fun f cdv A outer s H vs Q E hr h => ?_)
  · obtain ⟨_, _, _, rfl, _⟩ := h
    rfl
  obtain ⟨ds, P', ⟨b, ke, n, rfl, hb, hke, hc, hch, rfl⟩, ts, q⟩ := h
  obtain ⟨v0, v1, rfl, t0, t1⟩ := ts.i2
  have e1 := t1.int_inv
  subst e1
  refine ⟨_, (pss_cons (ps_par (i := 2) (j := 3) (by rfl) sc_runs_on.nd rfl rfl (by decide) rfl rfl (pa_cons (pe_lst (pa_cons (pe_tup pa_nil) pa_nil)) (pa_cons (pe_lst pa_nil) pa_nil)) (by rfl)) (pss_cons (ps_while PassesOwn.never (pt_cmpR (k_neD K rfl hr.units) (pv 2) (pe_lst pa_nil) (nomark _)) (pss_cons (ps_set (i := 4) sc_runs_on.nd rfl (Or.inl rfl) (pe_df G_run (hr.mono (by first | decide | omega)) (pa_cons (pv 0) (pa_cons (pv 1) (pa_cons (pe_ix (k_ixL K) (pv 2) pe_int (fun _ _ => rfl)) pa_nil))))) (pss_cons (ps_expr (pe_bm PySem.F.plainAttrs_list PySem.F.slot_list_append PySem.F.type_list_append mt_append (pv 3) (pa_cons (pv 4) pa_nil))) (pss_one (ps_set (i := 2) sc_runs_on.nd rfl (Or.inl rfl) (pe_df G_next_turns (hr.mono (by first | decide | omega)) (pa_cons (pe_ix (k_ixT K) (pv 4) pe_int (fun _ _ => rfl)) pa_nil))))))) (pss_one (ps_ret (pv 3))))), ?_⟩
  refine q_parL (el_lst (ds := [.tuple []]) (ea_cons (ev_tup ea_nil (by show 0 ≤ 1000; decide)) ea_nil) (by show 1 ≤ 1000; decide)) fun pl vs ds1 H1 e1 hpl g1 hx1 tv1 => ?_
  subst e1
  refine el_lst (ds := []) ea_nil (by show 0 ≤ 1000; decide) H1 Mv.rfl _ fun pf fs ds2 H2 e2 hpf g2 hx2 tv2 => ?_
  subst e2
  have e3 := tv2
  cases e3
  have nlf : pl ≠ pf := ne_of_none hx1 hpf
  refine ⟨_, _, rfl, ?_⟩
  have hpfH : H pf = none := g1.low pf hpf
  refine s_while (W := fun m σ J => ∃ (o : Option (List Int)) (pl : Addr) (ls fs : List V) (fds : List PyData) (ow : Option V), σ = [some v0, some (.int n), some (.ref pl), some (.ref pf), ow] ∧ Gr H J ∧ pl ≠ pf ∧ J pl = some (.lst ls) ∧ TdA J ls (o.toList.map intsD) ∧ J pf = some (.lst fs) ∧ TdA J fs fds ∧
      allRuns b n = fds ++ runsF (fun a => goB a b (C0 n)) m o ∧ fds.length + m ≤ 33 ∧ ∀ a, o = some a → Bits a ∧ 33 ≤ val a + m)
    (m := 33) ⟨some [], pl, vs, [], [], none, rfl, g1.trans g2, nlf, g2.get hx1, tv1.mono g2.tup, hx2, .nil, rfl, Nat.le_refl _, fun a e => by cases e; exact ⟨(fun x hx => nomatch hx), (by decide)⟩⟩ ?_
  rintro m σ J ⟨o, pl, ls, fs, fds, ow, rfl, g, hne, hl, tl, hf, tf, hr1, hr2, ho⟩
  refine ⟨_, ev_neL (i := 2) rfl hl tl shaped_ints, fun hc2 J2 g2' => ?_, fun hc2 J2 g2' => ?_⟩
  · cases o with
    | none => cases hc2
    | some a =>
    obtain ⟨hba, hva⟩ := ho a rfl
    have hvl := val_lt hba
    have hm0 : ∃ m', m = m' + 1 := ⟨m - 1, by omega⟩
    obtain ⟨m', rfl⟩ := hm0
    have hl2 := g2'.get hl
    have tl2 : TdA J2 ls [intsD a] := tl.mono g2'.tup
    have hf2 := g2'.get hf
    have tf2 := tf.mono g2'.tup
    have gH2 := g.trans g2'
    refine q_set (P := fun z => z = rowD a (goB a b (C0 n))) Mv.rfl (ev_call (A := A_run) (ds := [blk b, .int n, intsD a]) (ea_cons (ev_var rfl (t0.mono gH2.tup)) (ea_cons (ev_var rfl (.int n)) (ea_cons (ev_ixL (i := 0) (evv_var rfl) hl2 tl2 rfl) ea_nil))) ⟨b, ke, n, a, rfl, hb, hke, hc, hba, rfl⟩) fun v4 d4 J4 e4 g4 t4 => ?_
    subst e4
    have hf4 := g4.get hf2
    have gH4 := gH2.trans g4
    have lf := tf.length
    refine q_append (i := 3) rfl hf4 (small1000 (by omega)) (ev_var rfl t4) fun v5 d5 J5 e5 g5 hf5 t5 => ?_
    subst e5
    have gJ6 : Gr H (upd J5 pf (.lst (fs ++ [v5]))) := (gH4.trans g5).own hpfH hf5 lst_tup
    have m6 := Tx.put (u := .lst (fs ++ [v5])) hf5 lst_tup
    have t6 := (t4.mono g5.tup).mono m6
    have tf6 := (((tf2.mono g4.tup).mono g5.tup).append (.one t5)).mono m6
    have hmle : (goB a b (C0 n)).m ≤ 4 := by
      have := goB_m (a := a) hb.2 (C0 n)
      have e0 : (C0 n).m = 0 := rfl
      rw [e0] at this
      omega
    refine s_setL Mv.rfl (el_call (A := A_next) (ds := [intsD (turnsOf a (goB a b (C0 n)).m)]) (ea_cons (ev_ix (i := 1) (ev_var rfl t6) rfl) ea_nil) ⟨_, rfl, by rw [turnsOf_len]; omega, rfl⟩) fun p7 ws es J7 e7 hp7 g7 hx7 tw => ?_
    subst e7
    have hf7 : J7 pf = some (.lst (fs ++ [v5])) := g7.get upd_same
    refine ⟨m', Nat.lt_succ_self _, nextT (turnsOf a (goB a b (C0 n)).m), p7, ws, fs ++ [v5], fds ++ [rowD a (goB a b (C0 n))], some v4, rfl, gJ6.trans g7, ?_, hx7, tw, hf7, tf6.mono g7.tup, ?_, ?_, fun a' e' => ?_⟩
    · exact (ne_of_none (o := .lst (fs ++ [v5])) upd_same hp7).symm
    · rw [hr1, runsF, List.append_assoc]; rfl
    · rw [List.length_append, List.length_singleton]; omega
    · obtain ⟨h1, h2⟩ := next_val hba hmle e'
      exact ⟨h2, by omega⟩
  · cases o with
    | some a => cases hc2
    | none =>
    refine ⟨_, rfl, q pf fs fds J2 ?_ hpfH (g.trans g2') (g2'.get hf) (tf.mono g2'.tup)⟩
    rw [hr1]
    cases m with
    | zero => rw [runsF, List.append_nil]
    | succ m => rw [runsF, List.append_nil]; intro h; cases h
end
end K27
namespace K27
open PySem
/-! ## S. The shadow: a run that wakes no generator of those that sleep leaves them as they are -/
section
open PySem
def GenState.susp : GenState → Bool
  | .suspended .. => true
  | _ => false
/-- its copy that cannot be woken -/
def blockG : GenState → GenState
  | .suspended _ l c p fs cl => .suspended (fun _ => .unsupported "shadow") l c p fs cl
  | x => x
theorem blockG_seen (x : GenState) : (blockG x).seen = x.seen := by cases x <;> rfl
theorem blockG_bare (x : GenState) : (blockG x).bare = x.bare := by cases x <;> rfl
/-- no frame of a generator within -/
def cleanG : GenState → Prop
  | .suspended _ _ _ _ fs _ => splitAtGen fs = none
  | _ => True
/-- what stands at i: the sleeper of the start, else x -/
def pr (G0 : Array GenState) (i : Nat) (x : GenState) : GenState := match G0[i]? with
  | some y => if GenState.susp y = true then y else x
  | none => x
def Pt (G0 : Array GenState) (i : Nat) : Prop := ∃ y, G0[i]? = some y ∧ GenState.susp y = true
theorem pr_pt {G0 : Array GenState} {i : Nat} {x y : GenState} (h : G0[i]? = some y) (hs : GenState.susp y = true) : pr G0 i x = y := by unfold pr; rw [h]; exact if_pos hs
theorem pr_not {G0 : Array GenState} {i : Nat} {x : GenState} (h : ¬ Pt G0 i) : pr G0 i x = x := by
  unfold pr
  cases e : G0[i]? with
  | none => rfl
  | some y => exact if_neg fun z => h ⟨y, e, z⟩
structure OkG (G0 : Array GenState) (s : Shared) : Prop where
  sz : G0.size ≤ s.gens.size
  pt : ∀ (i : Nat) (x y : GenState), s.gens[i]? = some x → G0[i]? = some y → GenState.susp y = true → x = blockG y
  cl : ∀ (i : Nat) (x : GenState), s.gens[i]? = some x → ¬ Pt G0 i → cleanG x
/-- the real store -/
def sw (G0 : Array GenState) (s : Shared) : Shared := { s with gens := s.gens.mapIdx (pr G0) }
section
variable {G0 : Array GenState} {s : Shared}
theorem sw_get (i : Nat) : (sw G0 s).gens[i]? = (s.gens[i]?).map (pr G0 i) := by
  show (s.gens.mapIdx (pr G0))[i]? = _
  rw [Array.getElem?_mapIdx]
theorem sw_at {i : Nat} {x : GenState} (h : s.gens[i]? = some x) (hn : ¬ Pt G0 i) : (sw G0 s).gens[i]? = some x := by
  rw [sw_get, h]
  show some (pr G0 i x) = some x
  rw [pr_not hn]
theorem sw_size : (sw G0 s).gens.size = s.gens.size := by
  show (s.gens.mapIdx (pr G0)).size = _
  rw [Array.size_mapIdx]
theorem sw_set {g : Nat} {x : GenState} (hn : ¬ Pt G0 g) : sw G0 (s.setGen g x) = (sw G0 s).setGen g x := by
  have e : (s.setGen g x).gens.mapIdx (pr G0) = (s.gens.mapIdx (pr G0)).setIfInBounds g x := by
    apply Array.ext_getElem?
    intro i
    rw [Array.getElem?_mapIdx]
    show ((s.gens.setIfInBounds g x)[i]?).map _ = _
    rw [Array.getElem?_setIfInBounds, Array.getElem?_setIfInBounds]
    by_cases h : g = i
    · subst h
      rw [if_pos rfl, if_pos rfl]
      by_cases hl : g < s.gens.size
      · rw [if_pos hl, if_pos (by rw [Array.size_mapIdx]; exact hl)]
        show some (pr G0 g x) = some x
        rw [pr_not hn]
      · rw [if_neg hl, if_neg (by rw [Array.size_mapIdx]; exact hl)]
        rfl
    · rw [if_neg h, if_neg h, Array.getElem?_mapIdx]
  show ({ s.setGen g x with gens := (s.setGen g x).gens.mapIdx (pr G0) } : Shared) = { sw G0 s with gens := (s.gens.mapIdx (pr G0)).setIfInBounds g x }
  rw [e]
  rfl
theorem sw_push {x : GenState} (hz : G0.size ≤ s.gens.size) : sw G0 { s with gens := s.gens.push x } = { sw G0 s with gens := (sw G0 s).gens.push x } := by
  have e : (s.gens.push x).mapIdx (pr G0) = (s.gens.mapIdx (pr G0)).push x := by
    rw [Array.mapIdx_push, pr_not]
    rintro ⟨y, h, _⟩
    have := (Array.getElem?_eq_some_iff.mp h).1
    omega
  show ({ s with gens := (s.gens.push x).mapIdx (pr G0) } : Shared) = { s with gens := (s.gens.mapIdx (pr G0)).push x }
  rw [e]
theorem OkG.set {g : Nat} {x : GenState} (h : OkG G0 s) (hn : ¬ Pt G0 g) (hc : cleanG x) : OkG G0 (s.setGen g x) := by
  have key : ∀ i z, (s.setGen g x).gens[i]? = some z → (i = g ∧ z = x) ∨ s.gens[i]? = some z := fun i z e => by
    have e : (s.gens.setIfInBounds g x)[i]? = some z := e
    rw [Array.getElem?_setIfInBounds] at e
    by_cases hi : g = i
    · rw [if_pos hi] at e
      by_cases hl : g < s.gens.size
      · rw [if_pos hl] at e; exact .inl ⟨hi.symm, (Option.some.inj e).symm⟩
      · rw [if_neg hl] at e; cases e
    · rw [if_neg hi] at e; exact .inr e
  refine ⟨by show _ ≤ (s.gens.setIfInBounds g x).size; rw [Array.size_setIfInBounds]; exact h.sz, fun i z y e ey hs => ?_, fun i z e hp => ?_⟩
  · rcases key i z e with ⟨rfl, _⟩ | e
    · exact absurd ⟨y, ey, hs⟩ hn
    · exact h.pt i z y e ey hs
  · rcases key i z e with ⟨_, rfl⟩ | e
    · exact hc
    · exact h.cl i z e hp
theorem OkG.push {c : Code} (h : OkG G0 s) : OkG G0 { s with gens := s.gens.push (.fresh c) } := by
  have key : ∀ i z, (s.gens.push (GenState.fresh c))[i]? = some z → (i = s.gens.size ∧ z = .fresh c) ∨ s.gens[i]? = some z := fun i z e => by
    rw [Array.getElem?_push] at e
    by_cases hi : i = s.gens.size
    · rw [if_pos hi] at e; exact .inl ⟨hi, (Option.some.inj e).symm⟩
    · rw [if_neg hi] at e; exact .inr e
  refine ⟨by show _ ≤ (s.gens.push _).size; rw [Array.size_push]; have := h.sz; omega, fun i z y e ey hs => ?_, fun i z e hp => ?_⟩
  · rcases key i z e with ⟨rfl, _⟩ | e
    · have := (Array.getElem?_eq_some_iff.mp ey).1
      have := h.sz; omega
    · exact h.pt i z y e ey hs
  · rcases key i z e with ⟨_, rfl⟩ | e
    · trivial
    · exact h.cl i z e hp
theorem OkG.notPt {g : Nat} {x : GenState} (h : OkG G0 s) (e : s.gens[g]? = some x) (hx : GenState.susp x = false) : ¬ Pt G0 g := fun ⟨y, ey, hs⟩ => by
  have := h.pt g x y e ey hs
  subst this
  cases y <;> first | (cases hs; done) | (cases hx; done)
theorem sw_some {g : Nat} {x : GenState} (h : s.gens[g]? = some x) : (sw G0 s).gens[g]? = some (pr G0 g x) := by rw [sw_get, h]; rfl
theorem seen_pr {g : Nat} {st : GenState} (o : OkG G0 s) (hg : s.gens[g]? = some st) : (pr G0 g st).seen = st.seen := by
  by_cases hp : Pt G0 g
  · obtain ⟨y, ey, hs⟩ := hp
    rw [pr_pt ey hs, o.pt g st y hg ey hs, blockG_seen]
  · rw [pr_not hp]
end
/-- nothing wakes the blocked -/
theorem ru0 {M : Model} {Γ : Ctx} {p : Pos} {w : String} {s s' : Shared} {e : End} : ¬ Runs M Γ p (.unsupported w) [] s e s' := fun h => by cases h
theorem ru {M : Model} {Γ : Ctx} {p : Pos} {w : String} {fs : List Frame} {s s' : Shared} {e : End} : ¬ Runs M Γ p (.unsupported w) fs s e s' := fun h => by
  cases h with
  | segRet h _ => exact ru0 h
  | segGen h _ => exact ru0 h
  | segSuspOut _ h => exact ru0 h
  | segSuspGen _ h _ _ => exact ru0 h
/-- no generator's frame -/
theorem split_cons {F : Frame} {fs : List Frame} (h : splitAtGen (F :: fs) = none) : splitAtGen fs = none ∧ ∀ g k l c p, F ≠ .gen g k l c p := by
  cases F with
  | gen g k l c p => cases h
  | ret k h' g l c p kp =>
    refine ⟨?_, fun _ _ _ _ _ e => by cases e⟩
    have h : (splitAtGen fs).map _ = none := h
    cases e : splitAtGen fs with
    | none => rfl
    | some x => rw [e] at h; cases h
theorem split_append : ∀ {a b : List Frame}, splitAtGen a = none → splitAtGen b = none → splitAtGen (a ++ b) = none
  | [], _, _, h => h
  | F :: a, b, h1, h2 => by
    obtain ⟨h3, h4⟩ := split_cons h1
    have ih := split_append h3 h2
    cases F with
    | gen g k l c p => exact absurd rfl (h4 g k l c p)
    | ret k h' g l c p kp =>
      show (splitAtGen (a ++ b)).map _ = none
      rw [ih]; rfl
def cleanE : End → Prop
  | .susp _ _ _ _ _ _ fs => splitAtGen fs = none
  | _ => True
theorem cleanE_gen {e : End} (h : cleanE e) : cleanG e.genState := by
  cases e with
  | ret r => trivial
  | susp v g l k c p fs => exact h
/-- THE SHADOW: a run in the store where the sleepers are blocked is a run in the real one, and they sleep on -/
theorem runs_shadow {M : Model} {G0 : Array GenState} {Γ : Ctx} {p : Pos} {t : Sem PySem.Fin} {fs : List Frame} {s s' : Shared} {e : End} (h : Runs M Γ p t fs s e s') :
    splitAtGen fs = none → OkG G0 s → OkG G0 s' ∧ cleanE e ∧ Runs M Γ p t fs (sw G0 s) e (sw G0 s') := by
  induction h with
  | done => exact fun _ o => ⟨o, trivial, .done⟩
  | raise => exact fun _ o => ⟨o, trivial, .raise⟩
  | again hq _ ih => exact fun hf o => let ⟨a, b, c⟩ := ih hf o; ⟨a, b, .again hq c⟩
  | rule _ ih => exact fun hf o => let ⟨a, b, c⟩ := ih hf o; ⟨a, b, .rule c⟩
  | «at» _ ih => exact fun hf o => let ⟨a, b, c⟩ := ih hf o; ⟨a, b, .at c⟩
  | load hl _ ih => exact fun hf o => let ⟨a, b, c⟩ := ih hf o; ⟨a, b, .load hl c⟩
  | update hl _ ih => exact fun hf o => let ⟨a, b, c⟩ := ih hf ⟨o.sz, o.pt, o.cl⟩; ⟨a, b, .update hl c⟩
  | loadIfAlive _ ih => exact fun hf o => let ⟨a, b, c⟩ := ih hf o; ⟨a, b, .loadIfAlive c⟩
  | point _ ih => exact fun hf o => let ⟨a, b, c⟩ := ih hf o; ⟨a, b, .point c⟩
  | alloc _ ih => exact fun hf o => let ⟨a, b, c⟩ := ih hf ⟨o.sz, o.pt, o.cl⟩; ⟨a, b, .alloc c⟩
  | fresh _ ih => exact fun hf o => let ⟨a, b, c⟩ := ih hf ⟨o.sz, o.pt, o.cl⟩; ⟨a, b, .fresh c⟩
  | ask _ ih => exact fun hf o => let ⟨a, b, c⟩ := ih hf o; ⟨a, b, .ask c⟩
  | choose hn _ ih => exact fun hf o => let ⟨a, b, c⟩ := ih hf ⟨o.sz, o.pt, o.cl⟩; ⟨a, b, .choose hn c⟩
  | os _ ih => exact fun hf o => let ⟨a, b, c⟩ := ih hf ⟨o.sz, o.pt, o.cl⟩; ⟨a, b, .os c⟩
  | handled _ ih => exact fun hf o => let ⟨a, b, c⟩ := ih hf o; ⟨a, b, .handled c⟩
  | genState hg _ ih =>
    intro hf o
    obtain ⟨a, b, c⟩ := ih hf o
    exact ⟨a, b, .genState (sw_some hg) (by rw [seen_pr o hg]; exact c)⟩
  | stack _ ih => exact fun hf o => let ⟨a, b, c⟩ := ih hf o; ⟨a, b, .stack c⟩
  | thread _ ih => exact fun hf o => let ⟨a, b, c⟩ := ih hf o; ⟨a, b, .thread c⟩
  | newGen _ ih =>
    intro hf o
    obtain ⟨a, b, c⟩ := ih hf o.push
    refine ⟨a, b, .newGen ?_⟩
    rw [sw_push o.sz] at c
    rw [sw_size]; exact c
  | call _ _ ih1 ih2 =>
    intro hf o
    obtain ⟨a, _, c⟩ := ih1 rfl o
    obtain ⟨a2, b2, c2⟩ := ih2 hf a
    exact ⟨a2, b2, .call c c2⟩
  | callSusp _ ih =>
    intro hf o
    obtain ⟨a, b, c⟩ := ih rfl o
    exact ⟨a, split_append b rfl, .callSusp c⟩
  | yield => exact fun _ o => ⟨o, rfl, .yield⟩
  | resumeFresh hg _ hq _ ih1 ih2 =>
    intro hf o
    have hn := o.notPt hg rfl
    obtain ⟨a, b, c⟩ := ih1 rfl (o.set hn trivial)
    obtain ⟨a2, b2, c2⟩ := ih2 hf (a.set hn (cleanE_gen b))
    rw [sw_set hn] at c c2
    exact ⟨a2, b2, .resumeFresh (sw_at hg hn) c hq c2⟩
  | @resumeSuspended Γ p g r l k s k₀ l₀ c₀ p₀ fs cl e₁ s₁ e s' hg h1 hq _ ih1 ih2 =>
    intro hf o
    by_cases hn : Pt G0 g
    · obtain ⟨y, ey, hs⟩ := hn
      have := o.pt g _ y hg ey hs
      cases y with
      | suspended k l c p fs cl =>
        cases this
        exact (ru h1).elim
      | _ => cases hs
    · have hc : splitAtGen fs = none := o.cl g _ hg hn
      obtain ⟨a, b, c⟩ := ih1 hc (o.set hn trivial)
      obtain ⟨a2, b2, c2⟩ := ih2 hf (a.set hn (cleanE_gen b))
      rw [sw_set hn] at c c2
      exact ⟨a2, b2, .resumeSuspended (sw_at hg hn) c hq c2⟩
  | resumeJustStarted hg hv _ ih => exact fun hf o => let ⟨a, b, c⟩ := ih hf o; ⟨a, b, .resumeJustStarted (sw_at hg (o.notPt hg rfl)) hv c⟩
  | resumeThrowFresh hg _ ih =>
    intro hf o
    have hn := o.notPt hg rfl
    obtain ⟨a, b, c⟩ := ih hf (o.set hn trivial)
    rw [sw_set hn] at c
    exact ⟨a, b, .resumeThrowFresh (sw_at hg hn) c⟩
  | resumeRunning hg _ ih => exact fun hf o => let ⟨a, b, c⟩ := ih hf o; ⟨a, b, .resumeRunning (sw_at hg (o.notPt hg rfl)) c⟩
  | resumeFinished hg _ ih => exact fun hf o => let ⟨a, b, c⟩ := ih hf o; ⟨a, b, .resumeFinished (sw_at hg (o.notPt hg rfl)) c⟩
  | segRet _ _ ih1 ih2 =>
    intro hf o
    obtain ⟨a, _, c⟩ := ih1 rfl o
    obtain ⟨a2, b2, c2⟩ := ih2 (split_cons hf).1 a
    exact ⟨a2, b2, .segRet c c2⟩
  | segGen _ _ _ _ => exact fun hf => absurd hf (by intro z; cases z)
  | segSuspOut hs _ ih =>
    intro hf o
    obtain ⟨a, b, c⟩ := ih rfl o
    exact ⟨a, split_append b hf, .segSuspOut hs c⟩
  | segSuspGen hs _ _ _ _ _ => exact fun hf => absurd (hf.symm.trans hs) (by intro z; cases z)
section
variable {G0 : Array GenState} {M : Model}
theorem wakes_shadow {Γ : Ctx} {p : Pos} {g : Nat} {r : Resume} {s s' : Shared} {res : GenResult} (h : Wakes M Γ p g r s res s') (o : OkG G0 s) : OkG G0 s' ∧ Wakes M Γ p g r (sw G0 s) res (sw G0 s') := by
  unfold Wakes at h
  cases hg : s.gens[g]? with
  | none => rw [hg] at h; exact h.elim
  | some st =>
    rw [hg] at h
    cases st with
    | fresh c =>
      have hn := o.notPt hg rfl
      have hg' := sw_at hg hn
      have fr : ∀ {e₁ : End} {s₁ : Shared}, Runs M (Γ.wake c p) p (M.den c) [] (s.setGen g .running) e₁ s₁ → OkG G0 (s₁.setGen g e₁.genState) ∧ Runs M (Γ.wake c p) p (M.den c) [] ((sw G0 s).setGen g .running) e₁ (sw G0 s₁) ∧ sw G0 (s₁.setGen g e₁.genState) = (sw G0 s₁).setGen g e₁.genState := fun hr => by
        obtain ⟨a, b, c⟩ := runs_shadow hr rfl (o.set hn trivial)
        rw [sw_set hn] at c
        exact ⟨a.set hn (cleanE_gen b), c, sw_set hn⟩
      cases r with
      | send v =>
        cases v with
        | none =>
          obtain ⟨e₁, s₁, hr, hq, hres, rfl⟩ := h
          obtain ⟨a, b, c⟩ := fr hr
          exact ⟨a, by unfold Wakes; rw [hg']; exact ⟨e₁, sw G0 s₁, b, hq, hres, c⟩⟩
        | _ =>
          obtain ⟨h1, rfl⟩ := h
          exact ⟨o, by unfold Wakes; rw [hg']; exact ⟨h1, rfl⟩⟩
      | throw x =>
        obtain ⟨h1, rfl⟩ := h
        exact ⟨o.set hn trivial, by unfold Wakes; rw [hg']; exact ⟨h1, sw_set hn⟩⟩
    | suspended k l c p₀ fs cl =>
      obtain ⟨e₁, s₁, hr, hq, hres, rfl⟩ := h
      by_cases hn : Pt G0 g
      · obtain ⟨y, ey, hs⟩ := hn
        have := o.pt g _ y hg ey hs
        cases y with
        | suspended k l c p fs cl =>
          cases this
          exact (ru hr).elim
        | _ => cases hs
      · have hc : splitAtGen fs = none := o.cl g _ hg hn
        obtain ⟨a, b, c⟩ := runs_shadow hr hc (o.set hn trivial)
        rw [sw_set hn] at c
        exact ⟨a.set hn (cleanE_gen b), by unfold Wakes; rw [sw_at hg hn]; exact ⟨e₁, sw G0 s₁, c, hq, hres, sw_set hn⟩⟩
    | running =>
      obtain ⟨h1, rfl⟩ := h
      exact ⟨o, by unfold Wakes; rw [sw_at hg (o.notPt hg rfl)]; exact ⟨h1, rfl⟩⟩
    | finished =>
      obtain ⟨h1, rfl⟩ := h
      exact ⟨o, by unfold Wakes; rw [sw_at hg (o.notPt hg rfl)]; exact ⟨h1, rfl⟩⟩
/-- what is asked of the shadow, of the real store -/
abbrev Shd {α : Type} (G0 : Array GenState) (Q : α → Shared → Prop) : α → Shared → Prop := fun a s' => ∃ u, s' = sw G0 u ∧ OkG G0 u ∧ Q a u
theorem wp_shadow {α : Type} (Γ : Ctx) (t : Sem α) : ∀ (Q : α → Pos → Shared → Prop) (E : Value → Pos → Shared → Prop) (p : Pos) (s : Shared), OkG G0 s → Sem.wp M Γ t Q E p s →
    Sem.wp M Γ t (fun a p' s' => ∃ u, s' = sw G0 u ∧ OkG G0 u ∧ Q a p' u) (fun e p' s' => ∃ u, s' = sw G0 u ∧ OkG G0 u ∧ E e p' u) p (sw G0 s) := by
  induction t with
  | pure a => intro Q E p s o h; exact ⟨s, rfl, o, h⟩
  | raise e => intro Q E p s o h; exact ⟨s, rfl, o, h⟩
  | unsupported _ => intro Q E p s _ h; exact h
  | finish _ => intro Q E p s _ h; exact h
  | rule _ k ih => intro Q E p s o h; exact ih () Q E p s o h
  | «at» p' k ih => intro Q E p s o h; exact ih () Q E p' s o h
  | load a _ k ih => intro Q E p s o h; obtain ⟨ob, ho, h⟩ := h; exact ⟨ob, ho, ih ob Q E p s o h⟩
  | update a _ f k ih => intro Q E p s o h; exact ⟨h.1, ih () Q E p { s with heap := s.heap.update a f } ⟨o.sz, o.pt, o.cl⟩ h.2⟩
  | loadIfAlive a k ih => intro Q E p s o h; exact ih _ Q E p s o h
  | point _ k ih => intro Q E p s o h; exact ih () Q E p s o h
  | register _ _ => intro Q E p s _ h; exact h
  | alloc ob k ih => intro Q E p s o h; exact ih _ Q E p { s with heap := s.heap.push ob } ⟨o.sz, o.pt, o.cl⟩ h
  | fresh k ih => intro Q E p s o h; exact ih _ Q E p { s with toks := s.toks + 1 } ⟨o.sz, o.pt, o.cl⟩ h
  | ask k ih => intro Q E p s o h; exact ih _ Q E p s o h
  | choose src m k ih => intro Q E p s o h; exact ⟨h.1, ih _ Q E p { s with drawn := s.drawn.bump src } ⟨o.sz, o.pt, o.cl⟩ h.2⟩
  | os q _ k ih => intro Q E p s o h; exact ih _ Q E p { s with os := (Os.step s.os q).1 } ⟨o.sz, o.pt, o.cl⟩ h
  | call c hd _ _ k ih =>
    intro Q E p s o h
    obtain ⟨r, s', hr, h⟩ := h
    obtain ⟨a, _, c⟩ := runs_shadow hr rfl o
    exact ⟨r, sw G0 s', c, ih r Q E p s' a h⟩
  | handled own k ih => intro Q E p s o h; exact ih _ Q E p s o h
  | genState g k ih =>
    intro Q E p s o h
    obtain ⟨st, hs, h⟩ := h
    exact ⟨_, sw_some hs, by rw [seen_pr o hs]; exact ih _ Q E p s o h⟩
  | newGen c k ih =>
    intro Q E p s o h
    have z := ih _ Q E p { s with gens := s.gens.push (.fresh c) } o.push h
    rw [sw_push o.sz] at z
    show Sem.wp M Γ (k (sw G0 s).gens.size) _ _ p { sw G0 s with gens := (sw G0 s).gens.push (.fresh c) }
    rw [sw_size]; exact z
  | resume g r _ k ih =>
    intro Q E p s o h
    obtain ⟨res, s', hw, h⟩ := h
    obtain ⟨a, b⟩ := wakes_shadow hw o
    exact ⟨res, sw G0 s', b, ih res Q E p s' a h⟩
  | yield _ _ _ _ => intro Q E p s _ h; exact h
  | stack k ih => intro Q E p s o h; exact ih _ Q E p s o h
  | fork _ _ => intro Q E p s _ h; exact h
  | thread k ih => intro Q E p s o h; exact ih _ Q E p s o h
  | await _ _ _ _ _ => intro Q E p s _ h; exact h
theorem wpAny_shadow {α : Type} {A : Around} {t : Sem α} {Q : α → Shared → Prop} {E : Value → Shared → Prop} {s : Shared} (o : OkG G0 s) (h : wpAny M A t Q E s) : wpAny M A t (Shd G0 Q) (Shd G0 E) (sw G0 s) :=
  fun Γ p hΓ => wp_shadow Γ t _ _ p s o (h Γ p hΓ)
/-- the shadow of a store -/
def shadow (s : Shared) : Shared := { s with gens := s.gens.map blockG }
theorem shadow_ok (s : Shared) : OkG s.gens (shadow s) := by
  have hget : ∀ i : Nat, (shadow s).gens[i]? = (s.gens[i]?).map blockG := fun i => Array.getElem?_map
  refine ⟨by show _ ≤ (s.gens.map blockG).size; rw [Array.size_map]; exact Nat.le_refl _, fun i x y e ey _ => ?_, fun i x e hp => ?_⟩
  · rw [hget, ey] at e
    exact (Option.some.inj e).symm
  · rw [hget] at e
    cases ey : s.gens[i]? with
    | none => rw [ey] at e; cases e
    | some y =>
      rw [ey] at e
      have e2 : x = blockG y := (Option.some.inj e).symm
      subst e2
      cases y with
      | suspended k l c p fs cl => exact absurd ⟨_, ey, rfl⟩ hp
      | _ => trivial
theorem sw_shadow (s : Shared) : sw s.gens (shadow s) = s := by
  have e : (s.gens.map blockG).mapIdx (pr s.gens) = s.gens := by
    apply Array.ext_getElem?
    intro i
    rw [Array.getElem?_mapIdx, Array.getElem?_map]
    cases ey : s.gens[i]? with
    | none => rfl
    | some y =>
      show some (pr s.gens i (blockG y)) = some y
      by_cases hs : GenState.susp y = true
      · rw [pr_pt ey hs]
      · rw [pr_not (fun ⟨z, ez, hz⟩ => by rw [ey] at ez; cases ez; exact hs hz)]
        cases y <;> first | rfl | exact absurd rfl hs
  show ({ s with gens := (s.gens.map blockG).mapIdx (pr s.gens) } : Shared) = s
  rw [e]
theorem shadow_bare {s : Shared} (h : ∀ y ∈ s.gens, y.bare = true) : ∀ y ∈ (shadow s).gens, y.bare = true := fun y hy => by
  obtain ⟨x, hx, rfl⟩ := Array.mem_map.mp hy
  rw [blockG_bare]; exact h x hx
theorem sw_bare {u : Shared} (h0 : ∀ y ∈ G0, y.bare = true) (h : ∀ y ∈ u.gens, y.bare = true) : ∀ y ∈ (sw G0 u).gens, y.bare = true := fun y hy => by
  obtain ⟨i, hi, e⟩ := Array.mem_iff_getElem.mp hy
  have e2 : (sw G0 u).gens[i]? = some y := by rw [Array.getElem?_eq_getElem hi, e]
  rw [sw_get] at e2
  cases ex : u.gens[i]? with
  | none => rw [ex] at e2; cases e2
  | some x =>
    rw [ex] at e2
    have e3 : y = pr G0 i x := (Option.some.inj e2).symm
    subst e3
    by_cases hp : Pt G0 i
    · obtain ⟨z, ez, hz⟩ := hp
      rw [pr_pt ez hz]
      exact h0 z (Array.mem_of_getElem? ez)
    · rw [pr_not hp]
      exact h x (Array.mem_of_getElem? ex)
/-- a sleeper is still there -/
theorem sw_sleeps {u : Shared} {g : Nat} {y : GenState} (o : OkG G0 u) (h : G0[g]? = some y) (hs : GenState.susp y = true) : (sw G0 u).gens[g]? = some y := by
  have hlt := (Array.getElem?_eq_some_iff.mp h).1
  have hl2 : g < u.gens.size := Nat.lt_of_lt_of_le hlt o.sz
  rw [sw_get, Array.getElem?_eq_getElem hl2]
  show some (pr G0 g _) = some y
  rw [pr_pt h hs]
end
end
end K27
namespace K27
open PySem
/-! ### a for loop whose body hands one thing out -/
section
open PySem
abbrev NoX : Value → Shared → Prop := fun _ _ => False
variable {prog : Program} {w : World} {A : Around} {R : GenEnd} {Y : Protocol} {c : Code} {fs : List Frame} {env : Env}
/-- for's own activation, seen from outside -/
abbrev ownK (env : Env) (K : Flow → Sem PySem.Fin) (H : Value → Sem PySem.Fin) (gd : Bool → Bool) (lv : List Value → List Value) : Result → Sem PySem.Fin := fun r =>
  ((match r with | .ok f => (.pure f : Sem Flow) | .error e => .raise e).onRaise fun (x : Value) => do
    if (← field x 1) == Value.none then unsupported "frame.own-activation:exception-without-traceback"
    setFlight x env.frame).wrap K H gd lv
theorem seg_ForN {tg iter : Expr} {body : List Stmt} {pos : Pos} {n : Nat} {s₀ s : Shared} {K : Flow → Sem PySem.Fin} {H : Value → Sem PySem.Fin} {gd : Bool → Bool} {lv : List Value → List Value}
    (h : wpAny (model prog w) (A.over c fs) (eval iter env) (fun x s1 => wpAny (model prog w) (A.over c fs) (pyIter x) (fun it s2 => ∀ p,
      Seg (model prog w) A R Y n s₀ (.forLoop tg it body [] env) ((model prog w).den (.forLoop tg it body [] env)) (.ret (ownK env K H gd lv) none (gd false) (lv []) c p [] :: fs) s2) NoX s1) NoX s)
    (hs : ∀ x, foldedSetIterable iter env x = pure x) :
    Seg (model prog w) A R Y n s₀ c ((exec (.For tg iter body [] pos) env).wrap K H gd lv) fs s := by
  rw [exec_For]
  refine seg_bind_wrap (wpAny_standAt ?_)
  refine seg_bind_wrap (wpAny_mono h (fun x s1 h1 => ?_) fun _ _ z => z.elim)
  refine seg_bind_wrap (wpAny_of_eq (hs x) ?_)
  refine seg_bind_wrap (wpAny_standAt ?_)
  refine seg_bind_wrap (wpAny_holding (wpAny_mono h1 (fun it s2 h2 => ?_) fun _ _ z => z.elim))
  exact seg_call h2
theorem seg_forLoopY {tg e : Expr} {it : Value} {yp pos : Pos} {K : Flow → Sem PySem.Fin} {H : Value → Sem PySem.Fin} {gd : Bool → Bool} {lv : List Value → List Value} {l : List Value} {p0 : Pos} (P : Nat → Nat → Shared → Shared → Prop)
    (hco : env.scope.isCoroutine = false) (hi : interactive env = false) (hsp : splitAtGen fs = none) (hgd : gd false = false) (hfg : fs.any Frame.guarded = false)
    (turn : ∀ (i n : Nat) (s₀ s : Shared), P i n s₀ s → wpAny (model prog w) (A.over (.forLoop tg it [.Expr (.Yield (some e) yp) pos] [] env) (.ret (ownK env K H gd lv) none (gd false) l c p0 [] :: fs)) (pyNext it) (fun r s1 => match r with
      | none => Seg (model prog w) A R Y n s₀ c (K .next) fs s1
      | some v => ∃ m, n = m + 1 ∧ wpAny (model prog w) (A.over (.forLoop tg it [.Expr (.Yield (some e) yp) pos] [] env) (.ret (ownK env K H gd lv) none (gd false) l c p0 [] :: fs)) (letOwnedTupleGo tg it v) (fun _ s2 =>
          wpAny (model prog w) (A.over (.forLoop tg it [.Expr (.Yield (some e) yp) pos] [] env) (.ret (ownK env K H gd lv) none (gd false) l c p0 [] :: fs)) (assign tg env v) (fun _ s3 =>
            wpAny (model prog w) (A.over (.forLoop tg it [.Expr (.Yield (some e) yp) pos] [] env) (.ret (ownK env K H gd lv) none (gd false) l c p0 [] :: fs)) (eval e env) (fun u s4 =>
              ∀ kap : Resume → Shared → Prop, (∀ z s'', (∀ b, z ≠ Value.ref b) → P (i + 1) m s'' s'' → kap (.send z) s'') → Y m s₀ u s4 kap) NoX s3) NoX s2) NoX s1) NoX s) :
    ∀ (n i : Nat) (s₀ s : Shared), P i n s₀ s → Seg (model prog w) A R Y n s₀ (.forLoop tg it [.Expr (.Yield (some e) yp) pos] [] env) ((model prog w).den (.forLoop tg it [.Expr (.Yield (some e) yp) pos] [] env)) (.ret (ownK env K H gd lv) none (gd false) l c p0 [] :: fs) s := by
  have step : ∀ (n i : Nat) (s₀ s : Shared), P i n s₀ s → (∀ (m j : Nat) (s₀ s : Shared), n = m + 1 → P j m s₀ s → Seg (model prog w) A R Y m s₀ (.forLoop tg it [.Expr (.Yield (some e) yp) pos] [] env) ((model prog w).den (.forLoop tg it [.Expr (.Yield (some e) yp) pos] [] env)) (.ret (ownK env K H gd lv) none (gd false) l c p0 [] :: fs) s) →
      Seg (model prog w) A R Y n s₀ (.forLoop tg it [.Expr (.Yield (some e) yp) pos] [] env) ((model prog w).den (.forLoop tg it [.Expr (.Yield (some e) yp) pos] [] env)) (.ret (ownK env K H gd lv) none (gd false) l c p0 [] :: fs) s := by
    intro n i s₀ s hP ih
    have split' : splitAtGen (.ret (ownK env K H gd lv) none (gd false) l c p0 [] :: fs) = none := by
      show (splitAtGen fs).map _ = none
      rw [hsp]; rfl
    have guard' : (Frame.ret (ownK env K H gd lv) none (gd false) l c p0 [] :: fs).any Frame.guarded = false := by
      show (gd false || fs.any Frame.guarded) = false
      rw [hgd, hfg]; rfl
    show Seg _ A R Y n s₀ _ ((forTurn tg it [.Expr (.Yield (some e) yp) pos] [] env).onRaise (fun x => do noteFrame x env; theTreesLotGoes x)) _ s
    rw [Sem.onRaise_eq_wrap]
    unfold forTurn
    refine seg_bind_wrap (wpAny_standAt ?_)
    refine seg_bind_wrap (wpAny_onRaise (wpAny_mono (turn i n s₀ s hP) (fun r s1 h1 => ?_) fun _ _ z => z.elim))
    cases r with
    | none =>
      refine seg_again rfl ?_
      exact seg_leaf (.ok .next) h1
    | some v =>
      obtain ⟨m, hm, h1⟩ := h1
      subst hm
      refine seg_bind_wrap (wpAny_mono h1 (fun _ s2 h2 => ?_) fun _ _ z => z.elim)
      refine seg_bind_wrap (wpAny_mono h2 (fun _ s3 h3 => ?_) fun _ _ z => z.elim)
      rw [Sem.bind_eq_wrap', Sem.wrap_wrap]
      refine seg_execs_cons ?_
      refine seg_Expr_Yield split' rfl guard' (wpAny_mono h3 (fun u s4 h4 => ?_) fun _ _ z => z.elim) hco hi
      intro kap hk
      refine h4 kap fun z s'' hz hP'' => hk z s'' ?_
      cases z with
      | ref b => exact (hz b rfl).elim
      | _ => exact seg_again rfl (ih m (i + 1) s'' s'' rfl hP'')
  intro n
  induction n with
  | zero => exact fun i s₀ s hP => step 0 i s₀ s hP fun m j s₀ s h => by omega
  | succ n ih =>
    intro i s₀ s hP
    refine step (n + 1) i s₀ s hP ?_
    intro m j s₀ s h hp
    have e1 : n = m := by omega
    subst e1
    exact ih j s₀ s hp
end
end K27
namespace K27
open PySem PySem.Spec L2
open PyProof.Rows hiding St
local macro_rules | `(tactic| walk_at "td") => `(tactic| first | assumption | exact Td.int _ | exact Td.str _ | exact Td.bl _ | exact Td.non)
local macro_rules | `(tactic| walk_at "bq") => `(tactic| first | exact rfl | assumption | decide)
local macro_rules | `(tactic| walk_at "kb") => `(tactic| first | exact kii | exact ksi | exact kti | exact kib | exact kss | exact kis | exact kts | exact ktt | exact kst | exact kit)
local macro_rules | `(tactic| walk_at "ev") => `(tactic| first
  | with_reducible exact ev_int
  | with_reducible exact ev_str
  | with_reducible exact ev_bl
  | with_reducible exact ev_non
  | ((with_reducible refine' ev_var ?e ?t); (case e => exact rfl); (case t => walk_at "td"))
  | ((with_reducible refine' ev_ix ?a ?n ?z); (case a => walk_at "ev"); (case z => decide); (case n => exact rfl))
  | ((with_reducible refine' ev_isi ?a ?k); (case a => walk_at "ev"); (case k => walk_at "kb"))
  | ((with_reducible refine' ev_len ?a ?k); (case a => walk_at "ev"); (case k => exact rfl))
  | ((with_reducible refine' ev_cmpI ?a ?b ?r); (case a => walk_at "ev"); (case b => walk_at "ev"); (case r => walk_at "bq"))
  | ((with_reducible refine' ev_I0 ?a ?b ?r); (case a => walk_at "ev"); (case b => walk_at "ev"); (case r => exact rfl))
  | ((with_reducible refine' ev_eqS ?a ?b ?r); (case a => walk_at "ev"); (case b => walk_at "ev"); (case r => walk_at "bq"))
  | ((with_reducible refine' ev_eqI ?a ?b ?r); (case a => walk_at "ev"); (case b => walk_at "ev"); (case r => walk_at "bq"))
  | ((with_reducible refine' ev_neI ?a ?b ?r); (case a => walk_at "ev"); (case b => walk_at "ev"); (case r => walk_at "bq"))
  | ((with_reducible refine' ev_notV ?a ?r); (case a => walk_at "ev"); (case r => walk_at "bq"))
  | ((with_reducible refine' ev_chain ?a ?b ?c ?r); (case a => walk_at "ev"); (case b => walk_at "ev"); (case c => walk_at "ev"); (case r => walk_at "bq"))
  | ((with_reducible refine' ev_tup ?a ?l); (case a => walk_at "ea"); (case l => (show _ ≤ _; decide))))
local macro_rules | `(tactic| walk_at "ea") => `(tactic| first
  | with_reducible exact ea_nil
  | ((with_reducible refine' ea_cons ?a ?b); (case a => walk_at "ev"); (case b => walk_at "ea")))
local macro_rules | `(tactic| walk_at "et") => `(tactic| first
  | ((with_reducible refine' et_notI ?a ?r); (case a => walk_at "et"); (case r => walk_at "bq"))
  | ((with_reducible refine' et_is ?a); (case a => walk_at "ev"))
  | ((with_reducible refine' et_isB ?a); (case a => walk_at "ev"))
  | ((with_reducible refine' et_and ?a ?b ?c); (case a => walk_at "et"); (case b => (intro _; walk_at "et")); (case c => (intro z; first | exact z | (cases z; done) | rfl)))
  | ((with_reducible refine' et_or ?a ?b ?c); (case a => walk_at "et"); (case b => (intro _; walk_at "et")); (case c => (intro z; first | exact z | (cases z; done) | rfl))))
local macro_rules | `(tactic| walk_at "ev2") => `(tactic| first
  | walk_at "ev"
  | ((with_reducible refine' ev_inT ?a ?p ?s ?d ?f ?x ?b); (case a => walk_at "ev"); (case p => exact evv_c); (case s => assumption); (case d => exact rfl); (case f => exact rfl); (case x => exact rfl); (case b => walk_at "bq"))
  | ((with_reducible refine' ev_inU2 ?a ?p ?l ?d ?x ?f ?y ?b); (case a => walk_at "ev"); (case p => walk_at "ea"); (case l => (show _ ≤ _; decide)); (case d => exact rfl); (case x => exact rfl); (case f => exact rfl); (case y => exact rfl); (case b => walk_at "bq"))
  | ((with_reducible refine' ev_slA ?a ?l ?h ?r); (case a => walk_at "ev"); (case l => walk_at "eo"); (case h => walk_at "eo"); (case r => exact rfl)))
local macro_rules | `(tactic| walk_at "et2") => `(tactic| first
  | walk_at "et"
  | ((with_reducible refine' et_is ?a); (case a => walk_at "ev2"))
  | ((with_reducible refine' et_isB ?a); (case a => walk_at "ev2")))
local macro_rules | `(tactic| walk_at "eo") => `(tactic| first
  | with_reducible exact eo_none
  | ((with_reducible refine' eo_some ?a); (case a => walk_at "ev")))
/-! ## V. Generators: a loop over a list, one item handed out a turn -/
section
variable {X : Cx} {tg e : Expr} {a it : Addr} {fp : List Addr} {tn : Nat → Heap → Prop} {j : Nat} {pins : List (Addr × Obj)} {σ : St} {H : Hp} {s : Shared}
abbrev noX : Value → Shared → Prop := fun _ _ => False
theorem pin_mem {pl : List (Addr × Obj)} (I : Inv X (pins ++ pl) σ H s) {b : Addr} {o : Obj} (h : (b, o) ∈ pl) : s.heap.get? b = some o ∧ H b = none :=
  let z := I.pin (b, o) (List.mem_append_right _ (List.mem_append_right _ h))
  ⟨z.1, z.2.1⟩
theorem for_turnN (T : Turn X.prog X.w X.K tg (Itl X.K a) fp it tn) (hc : X.calm = true) (hg : PG X.nox tg (gName j)) (he : PE X.nox e (tVar j)) {i : Nat} {xs : List V} {x : V} {Q : Value → Shared → Prop}
    (I : Inv X.nox pins σ H s) (st : tn i s.heap) (hf : ∀ b ∈ fp, FpOk X.nox pins H b) (hq : SqL X.K H a xs) (hx : xs[i]? = some x) (hj : j < σ.length)
    (k : ∀ u s4 pl, (∀ p ∈ pl, p.1 ∈ fp) → (∀ b ∈ fp, ∃ o, (b, o) ∈ pl) → Inv X.nox (pins ++ pl) (σ.set j (some x)) H s4 → (∀ h' : Heap, (∀ p ∈ pl, h'.get? p.1 = some p.2) → tn (i + 1) h') → RelV x u → Q u s4) :
    wpAny (model X.prog X.w) X.A (pyNext (.ref it)) (fun r s1 => ∃ v, r = some v ∧ wpAny (model X.prog X.w) X.A (letOwnedTupleGo tg (.ref it) v) (fun _ s2 =>
      wpAny (model X.prog X.w) X.A (assign tg X.env v) (fun _ s3 => wpAny (model X.prog X.w) X.A (eval e X.env) Q noX s3) noX s2) noX s1) noX s := by
  have z := T.item X.nox rfl rfl rfl hc i pins s σ H noX I hf st ⟨xs, x, hq, hx⟩
  refine wpAny_mono z (fun r s1 ⟨u, hr, h1⟩ => ⟨u, hr, wpAny_mono h1 (fun _ s2 h2 => ?_) fun _ _ q => q⟩) fun _ _ q => q
  obtain ⟨y, H2, I2, ry, hy, st2, n2⟩ := h2
  obtain ⟨eH, hyx⟩ := hy
  subst eH
  have ey : y = x := Option.some.inj ((hyx xs hq).symm.trans hx)
  subst ey
  have I3 := I2.pinned hf (T.obj _ _ st2)
  refine wpAny_mono (hg.run _ s2 σ H2 y u (fun σ' H' => σ' = σ.set j (some y) ∧ H' = H2) I3 ry ⟨rfl, rfl⟩) (fun _ s3 h3 => ?_) fun _ _ q => q
  obtain ⟨σ3, H3, I4, eσ, eH⟩ := h3
  subst eσ eH
  refine wpAny_mono (he.run _ s3 _ H3 (fun v H' => v = y ∧ H' = H3) I4 ⟨y, by rw [List.getElem?_set_self hj], rfl, rfl⟩) (fun w4 s4 h4 => ?_) fun _ _ q => q
  obtain ⟨v, H4, I5, rv, ev, eH⟩ := h4
  subst ev eH
  refine k w4 s4 (pinsAt fp s2.heap) (fun p hp => (of_pinsAt hp).1) (fun b hb => let ⟨o, eo, _⟩ := T.obj _ _ st2 b hb; ⟨o, mem_pinsAt hb eo⟩) I5 (fun h' hk => T.keep _ _ _ st2 fun b hb o eo => hk (b, o) (mem_pinsAt hb eo)) rv
end
section
variable {X : Cx}
open GenW
/-- the reading of a loop that hands out the items of a list -/
def tGForL (K : PySem.W.Frag) (tl : TE) : TGn := fun D ys σ H => iList K tl σ H fun J H1 => ∃ a xs, J = Itl K a ∧ SqL K H1 a xs ∧ ys.length + xs.length ≤ sizeLine ∧ ∀ σ', D.nx (ys ++ xs) σ' H1
theorem gs_forL {tg e iter : Expr} {yp pos fpos : Pos} {tl : TE} {j : Nat} (hl : PE X.nox iter tl) (hc : X.calm = true) (hg : PG X.nox tg (gName j)) (he : PE X.nox e (tVar j)) (hj : j < X.N.length)
    (hco : X.env.scope.isCoroutine = false := by rfl) (hi : interactive X.env = false := by rfl) (hs : ∀ x, foldedSetIterable iter X.env x = pure x := by intro _; rfl) :
    GS X (.For tg iter [.Expr (.Yield (some e) yp) pos] [] fpos) (tGForL X.K tl) := by
  refine ⟨fun A S ip R n ys s₀ c fs K J gd lv s σ H D g hn k hI ht => ?_⟩
  obtain ⟨acc, cc, r, I⟩ := hI
  refine seg_ForN ?_ hs
  rw [g.over]
  refine wpAny_mono ((pi_list hl : PI X.nox tg iter (iList X.K tl)).run _ s σ H _ (I.wish _) ht) (fun v s1 h1 => wpAny_mono h1 (fun itv s2 h2 => ?_) fun _ _ q => q) fun _ _ q => q
  obtain ⟨it, fp, tn, JI, H2, e1, I2, T, st2, f2, a, xs, eJ, hq, hlen, hnx⟩ := h2
  subst e1 eJ
  intro p0
  have over' : A.over (.forLoop tg (.ref it) [.Expr (.Yield (some e) yp) pos] [] X.env) (.ret (ownK X.env K J gd lv) none (gd false) (lv []) c p0 [] :: fs) = X.A := (over_loop rfl rfl).trans g.over
  have fOk : ∀ {acc : Array Value} {cc : Nat}, ∀ b ∈ fp, FpOk X.nox ((S, lstObj acc cc) :: ip) H2 b := fun {acc' cc'} b hb => by
    obtain ⟨h1, h2, h3, h4, h5, h6⟩ := f2 b hb
    refine ⟨h1, h2, h3, h4, h5, fun p hp => ?_⟩
    rcases List.mem_append.mp hp with hp | hp
    · exact h6 p (List.mem_append_left _ hp)
    · rcases List.mem_cons.mp hp with hp | hp
      · rw [hp]
        exact h6 (S, lstObj acc cc) (List.mem_append_right _ List.mem_cons_self)
      · exact h6 p (List.mem_append_right _ (List.mem_cons_of_mem _ hp))
  refine seg_forLoopY (fun i n _ s => ∃ σ' acc' cc', i ≤ xs.length ∧ n + (ys.length + i) = sizeLine ∧ Vals (ys ++ xs.take i) acc'.toList ∧ Inv X.nox ((S, lstObj acc' cc') :: ip) σ' H2 s ∧ tn i s.heap) hco hi g.split g.gd g.guard ?_ n 0 s₀ s2
    ⟨σ, acc, cc, Nat.zero_le _, by omega, by rw [List.take_zero, List.append_nil]; exact r, I2, st2⟩
  rintro i n s₀ s3 ⟨σ3, acc3, cc3, hi3, hn3, r3, I3, st3⟩
  rw [over']
  by_cases hlt : i < xs.length
  · obtain ⟨x, hx⟩ : ∃ x, xs[i]? = some x := ⟨_, List.getElem?_eq_getElem hlt⟩
    have hn0 : ∃ m, n = m + 1 := ⟨n - 1, by omega⟩
    obtain ⟨m, rfl⟩ := hn0
    have hjl : j < σ3.length := by rw [I3.len]; exact hj
    have htake : xs.take (i + 1) = xs.take i ++ [x] := by rw [List.take_add_one, hx]; rfl
    refine wpAny_mono (for_turnN T hc hg he I3 st3 fOk hq hx hjl (Q := fun u s4 => ∀ kap : Resume → Shared → Prop, (∀ z s'', (∀ b, z ≠ Value.ref b) → (∃ σ' acc' cc', i + 1 ≤ xs.length ∧ m + (ys.length + (i + 1)) = sizeLine ∧ Vals (ys ++ xs.take (i + 1)) acc'.toList ∧ Inv X.nox ((S, lstObj acc' cc') :: ip) σ' H2 s'' ∧ tn (i + 1) s''.heap) → kap (.send z) s'') → GY X S m s₀ u s4 kap) ?_) (fun r s4 ⟨v, hr, h4⟩ => ?_) fun _ _ q => q
    · intro u s4 pl hpl _ I4 htn ru kap hk
      have I5 : Inv X ((S, lstObj acc3 cc3) :: (ip ++ pl)) (σ3.set j (some x)) H2 s4 := Inv.unwish (X := X) (E := noX) I4
      refine ⟨ys ++ xs.take i, x, ip ++ pl, σ3.set j (some x), H2, ?_, ru, ⟨acc3, cc3, r3, I5⟩, fun s5 sl => hk .none s5 (fun b z => by cases z) ?_⟩
      · rw [List.length_append, List.length_take]; omega
      · have hipl : ∀ p ∈ ip ++ pl, p.1 ≠ S := fun p hp => by
          rcases List.mem_append.mp hp with hp | hp
          · exact g.ip p hp
          · exact fun z => (f2 p.1 (hpl p hp)).2.2.2.2.2 (S, lstObj acc cc) (List.mem_append_right _ List.mem_cons_self) z.symm
        obtain ⟨acc5, cc5, r5, I6⟩ := GI.woken (X := X) g.pn hipl g.apart (⟨acc3, cc3, r3, I5⟩ : GI X S (ip ++ pl) (ys ++ xs.take i) _ H2 s4) ru sl
        refine ⟨σ3.set j (some x), acc5, cc5, hlt, by omega, by rw [htake, ← List.append_assoc]; exact r5, ?_, ?_⟩
        · exact (I6.pins_of fun p hp => I6.pin p (List.mem_append_right _ (by
            rcases List.mem_cons.mp hp with hp | hp
            · rw [hp]; exact List.mem_cons_self
            · exact List.mem_cons_of_mem _ (List.mem_append_left _ hp)))).wish _
        · exact htn _ fun p hp => (I6.pin p (List.mem_append_right _ (List.mem_cons_of_mem _ (List.mem_append_right _ hp)))).1
    · subst hr
      exact ⟨m, rfl, h4⟩
  · have hi4 : i = xs.length := by omega
    subst hi4
    have td := T.done X.nox rfl rfl rfl hc xs.length ((S, lstObj acc3 cc3) :: ip) s3 σ3 H2 noX I3 fOk st3 ⟨xs, hq, Nat.le_refl _⟩
    refine wpAny_mono td (fun r s4 ⟨hr, I4⟩ => ?_) fun _ _ q => q
    subst hr
    rw [List.take_length] at r3
    exact k.ok n (ys ++ xs) s₀ s4 .next (by rw [List.length_append]; omega) ⟨σ3, H2, ⟨acc3, cc3, r3, I4.unwish⟩, hnx σ3⟩
end
end K27
namespace K27
open PySem PySem.Spec L2
open PyProof.Rows hiding St
local macro_rules | `(tactic| walk_at "td") => `(tactic| first | assumption | exact Td.int _ | exact Td.str _ | exact Td.bl _ | exact Td.non)
local macro_rules | `(tactic| walk_at "bq") => `(tactic| first | exact rfl | assumption | decide)
local macro_rules | `(tactic| walk_at "kb") => `(tactic| first | exact kii | exact ksi | exact kti | exact kib | exact kss | exact kis | exact kts | exact ktt | exact kst | exact kit)
local macro_rules | `(tactic| walk_at "ev") => `(tactic| first
  | with_reducible exact ev_int
  | with_reducible exact ev_str
  | with_reducible exact ev_bl
  | with_reducible exact ev_non
  | ((with_reducible refine' ev_var ?e ?t); (case e => exact rfl); (case t => walk_at "td"))
  | ((with_reducible refine' ev_ix ?a ?n ?z); (case a => walk_at "ev"); (case z => decide); (case n => exact rfl))
  | ((with_reducible refine' ev_isi ?a ?k); (case a => walk_at "ev"); (case k => walk_at "kb"))
  | ((with_reducible refine' ev_len ?a ?k); (case a => walk_at "ev"); (case k => exact rfl))
  | ((with_reducible refine' ev_cmpI ?a ?b ?r); (case a => walk_at "ev"); (case b => walk_at "ev"); (case r => walk_at "bq"))
  | ((with_reducible refine' ev_I0 ?a ?b ?r); (case a => walk_at "ev"); (case b => walk_at "ev"); (case r => exact rfl))
  | ((with_reducible refine' ev_eqS ?a ?b ?r); (case a => walk_at "ev"); (case b => walk_at "ev"); (case r => walk_at "bq"))
  | ((with_reducible refine' ev_eqI ?a ?b ?r); (case a => walk_at "ev"); (case b => walk_at "ev"); (case r => walk_at "bq"))
  | ((with_reducible refine' ev_neI ?a ?b ?r); (case a => walk_at "ev"); (case b => walk_at "ev"); (case r => walk_at "bq"))
  | ((with_reducible refine' ev_notV ?a ?r); (case a => walk_at "ev"); (case r => walk_at "bq"))
  | ((with_reducible refine' ev_chain ?a ?b ?c ?r); (case a => walk_at "ev"); (case b => walk_at "ev"); (case c => walk_at "ev"); (case r => walk_at "bq"))
  | ((with_reducible refine' ev_tup ?a ?l); (case a => walk_at "ea"); (case l => (show _ ≤ _; decide))))
local macro_rules | `(tactic| walk_at "ea") => `(tactic| first
  | with_reducible exact ea_nil
  | ((with_reducible refine' ea_cons ?a ?b); (case a => walk_at "ev"); (case b => walk_at "ea")))
local macro_rules | `(tactic| walk_at "et") => `(tactic| first
  | ((with_reducible refine' et_notI ?a ?r); (case a => walk_at "et"); (case r => walk_at "bq"))
  | ((with_reducible refine' et_is ?a); (case a => walk_at "ev"))
  | ((with_reducible refine' et_isB ?a); (case a => walk_at "ev"))
  | ((with_reducible refine' et_and ?a ?b ?c); (case a => walk_at "et"); (case b => (intro _; walk_at "et")); (case c => (intro z; first | exact z | (cases z; done) | rfl)))
  | ((with_reducible refine' et_or ?a ?b ?c); (case a => walk_at "et"); (case b => (intro _; walk_at "et")); (case c => (intro z; first | exact z | (cases z; done) | rfl))))
local macro_rules | `(tactic| walk_at "ev2") => `(tactic| first
  | walk_at "ev"
  | ((with_reducible refine' ev_inT ?a ?p ?s ?d ?f ?x ?b); (case a => walk_at "ev"); (case p => exact evv_c); (case s => assumption); (case d => exact rfl); (case f => exact rfl); (case x => exact rfl); (case b => walk_at "bq"))
  | ((with_reducible refine' ev_inU2 ?a ?p ?l ?d ?x ?f ?y ?b); (case a => walk_at "ev"); (case p => walk_at "ea"); (case l => (show _ ≤ _; decide)); (case d => exact rfl); (case x => exact rfl); (case f => exact rfl); (case y => exact rfl); (case b => walk_at "bq"))
  | ((with_reducible refine' ev_slA ?a ?l ?h ?r); (case a => walk_at "ev"); (case l => walk_at "eo"); (case h => walk_at "eo"); (case r => exact rfl)))
local macro_rules | `(tactic| walk_at "et2") => `(tactic| first
  | walk_at "et"
  | ((with_reducible refine' et_is ?a); (case a => walk_at "ev2"))
  | ((with_reducible refine' et_isB ?a); (case a => walk_at "ev2")))
local macro_rules | `(tactic| walk_at "eo") => `(tactic| first
  | with_reducible exact eo_none
  | ((with_reducible refine' eo_some ?a); (case a => walk_at "ev")))
section
variable {P : Program} {w : World} {K : PySem.W.Frag} {mg : Str → Option Value} {base : Heap}
structure GDf (P : Program) (w : World) (K : PySem.W.Frag) (mg : Str → Option Value) (base : Heap) (k : Nat) (x : Str) (ps : List Str) (sp : SpG) : Prop where
  ex : ∃ (f : Addr) (fd : FuncData), GFn P w K mg base k f fd ps sp ∧ mg x = some (.ref f) ∧ PySem.W.keepIn K (.ref f) = true ∧ Binds K fd ps []
abbrev s_each_run : Stmt := top 47
theorem sc_each_run : GScope ["program", "number", "row"] ["program", "number"] (defScope s_each_run) := ⟨rfl, rfl, rfl, by decide +kernel, rfl, by decide +kernel, by decide +kernel⟩
def spEach : SpG := fun vs H Q _ => ∃ (b : List S) (ke : Nat) (n : Int) (v : V), vs = [v, .int n] ∧ Td H v (blk b) ∧ BOk ke 4 b ∧ ke ≤ 4 ∧ cost b ≤ 1000 ∧ numB (own "choice") b ≤ 4 ∧ ∀ ys J, Gr H J → TdA J ys (allRuns b n) → Q ys J
theorem gdf_each_run (F : Fn K mg "each_run" s_each_run ["program", "number"]) (G_runs_on : Df P w K mg base 19 "runs_on" ["program", "number"] (spFL A_runs_on)) : GDf P w K mg base 20 "each_run" ["program", "number"] spEach := by
  obtain ⟨f, fd, F, hm, hb⟩ := F
  refine ⟨f, fd, ?_, hm, F.kp, hb⟩
  obtain ⟨oc, od, kV, doc, pm, an, cdv, ct, osl, efd, lk, hcd⟩ := F.ex
  subst efd
  refine gfn_of lk hcd sc_each_run (fun vs H Q E h => ?_) (fun A outer s H vs Q E pn hr h => ?_)
  · obtain ⟨_, _, _, _, rfl, _⟩ := h
    rfl
  obtain ⟨b, ke, n, v0, rfl, t0, hbo, hke, hc, hch, q⟩ := h
  refine ⟨_, gss_cons (gs_forL (j := 2) (pe_df G_runs_on hr (pa_cons (pv 0) (pa_cons (pv 1) pa_nil))) rfl (pg_name (i := 2) sc_each_run.nd rfl (Or.inl rfl)) (pv 2) (by show 2 < 3; decide)) gss_nil, ?_⟩
  refine el_call (A := A_runs_on) (ds := [blk b, .int n]) (ea_cons (ev_var (i := 0) rfl t0) (ea_cons (ev_var (i := 1) rfl (.int n)) ea_nil)) ⟨b, ke, n, rfl, hbo, hke, hc, hch, rfl⟩ H Mv.rfl _ fun p ws ds J e hp g hx tw => ?_
  subst e
  have hlen := tw.length
  have hl2 : (allRuns b n).length ≤ 33 := runsF_len _ _ _
  exact ⟨p, rfl, ⟨ws, SqL.of hx⟩, p, ws, rfl, SqL.of hx, by rw [List.length_nil, Nat.zero_add]; exact sizeOk (by omega), fun σ' => by rw [List.nil_append]; exact q ws J g tw⟩
theorem passG {X : Cx} : Passes (CX X.prog X.w) X E0 := fun pins σ H s e s' I c => by
  obtain ⟨a, B, H', cls, d, _, _, _, _, _, _, _, h⟩ := c
  exact h.elim
theorem noStop0 : NoStop K E0 := fun cls d H h => h.elim
theorem pe_lrun {X : Cx} {k : Nat} {sp : SpG} {e : Expr} {es : List Expr} {t : TA} {p pos p2 pos2 : Pos} {ps : List Str} (G : GDf X.prog X.w X.K X.mg X.base k "each_run" ps sp) (hr : Room (k + 3) X.A) (hl : X.mg "list" = none) (ha : PA X (e :: es) t)
    (hg : Gl X "each_run" := by rfl) (hg2 : Gl X "list" := by rfl) (he : starEach (e :: es) X.env = (false, eval e X.env) :: starEach es X.env := by rfl) (hpl : (backTo pos (starEach es X.env)).any (·.1) = false := by rfl)
    (he2 : starEach [.Call (.Name "each_run" p) (e :: es) [] pos] X.env = (false, eval (.Call (.Name "each_run" p) (e :: es) [] pos) X.env) :: starEach [] X.env := by rfl) :
    PE X (.Call (.Name "list" p2) [.Call (.Name "each_run" p) (e :: es) [] pos] [] pos2) (tListG (tCallG sp [] E0 t)) := by
  obtain ⟨f, fd, F, hm, hk, hb⟩ := G.ex
  exact pe_listG (pgen_call (E := E0) F (hr.mono (by omega)) hg hm hk hb .nil ha (by decide) he hpl) passG noStop0 hr hg2 hl (by decide +kernel) (by decide) (by decide) he2
theorem el_lrun {σ : St} {H : Hp} {ta tb : TE} {b : List S} {ke : Nat} {n : Int} (h1 : EvD ta σ H (blk b)) (h2 : EvD tb σ H (.int n)) (hb : BOk ke 4 b) (hke : ke ≤ 4) (hc : cost b ≤ 1000) (hch : numB (own "choice") b ≤ 4) :
    EvL (tListG (tCallG spEach [] E0 (tCons ta (tCons tb tNil)))) σ H (fun z => z = allRuns b n) := fun H1 g Q q =>
  by
    show tCons ta (tCons tb tNil) σ H1 (fun vs H2 => spEach (vs ++ []) H2 (fun out H3 => ∀ p, H3 p = none → Q (.ref p) (upd H3 p (.lst out))) E0)
    refine (ea_cons h1 (ea_cons h2 ea_nil)) H1 g _ fun vs H2 g2 ts => ?_
    obtain ⟨u, v, rfl, t1, t2⟩ := ts.i2
    have e := t2.int_inv
    subst e
    exact ⟨b, ke, n, u, rfl, t1, hb, hke, hc, hch, fun ys J g3 ty p hp => q p ys _ _ rfl ((g2.trans g3).low p hp) ((g2.trans g3).trans (Gr.new hp)) upd_same (ty.mono (Gr.new hp).tup)⟩
end
end K27
namespace K27
open PySem PySem.Spec L2
open PyProof.Rows hiding St
local macro_rules | `(tactic| walk_at "td") => `(tactic| first | assumption | exact Td.int _ | exact Td.str _ | exact Td.bl _ | exact Td.non)
local macro_rules | `(tactic| walk_at "bq") => `(tactic| first | exact rfl | assumption | decide)
local macro_rules | `(tactic| walk_at "kb") => `(tactic| first | exact kii | exact ksi | exact kti | exact kib | exact kss | exact kis | exact kts | exact ktt | exact kst | exact kit)
local macro_rules | `(tactic| walk_at "ev") => `(tactic| first
  | with_reducible exact ev_int
  | with_reducible exact ev_str
  | with_reducible exact ev_bl
  | with_reducible exact ev_non
  | ((with_reducible refine' ev_var ?e ?t); (case e => exact rfl); (case t => walk_at "td"))
  | ((with_reducible refine' ev_ix ?a ?n ?z); (case a => walk_at "ev"); (case z => decide); (case n => exact rfl))
  | ((with_reducible refine' ev_isi ?a ?k); (case a => walk_at "ev"); (case k => walk_at "kb"))
  | ((with_reducible refine' ev_len ?a ?k); (case a => walk_at "ev"); (case k => exact rfl))
  | ((with_reducible refine' ev_cmpI ?a ?b ?r); (case a => walk_at "ev"); (case b => walk_at "ev"); (case r => walk_at "bq"))
  | ((with_reducible refine' ev_I0 ?a ?b ?r); (case a => walk_at "ev"); (case b => walk_at "ev"); (case r => exact rfl))
  | ((with_reducible refine' ev_eqS ?a ?b ?r); (case a => walk_at "ev"); (case b => walk_at "ev"); (case r => walk_at "bq"))
  | ((with_reducible refine' ev_eqI ?a ?b ?r); (case a => walk_at "ev"); (case b => walk_at "ev"); (case r => walk_at "bq"))
  | ((with_reducible refine' ev_neI ?a ?b ?r); (case a => walk_at "ev"); (case b => walk_at "ev"); (case r => walk_at "bq"))
  | ((with_reducible refine' ev_notV ?a ?r); (case a => walk_at "ev"); (case r => walk_at "bq"))
  | ((with_reducible refine' ev_chain ?a ?b ?c ?r); (case a => walk_at "ev"); (case b => walk_at "ev"); (case c => walk_at "ev"); (case r => walk_at "bq"))
  | ((with_reducible refine' ev_tup ?a ?l); (case a => walk_at "ea"); (case l => (show _ ≤ _; decide))))
local macro_rules | `(tactic| walk_at "ea") => `(tactic| first
  | with_reducible exact ea_nil
  | ((with_reducible refine' ea_cons ?a ?b); (case a => walk_at "ev"); (case b => walk_at "ea")))
local macro_rules | `(tactic| walk_at "et") => `(tactic| first
  | ((with_reducible refine' et_notI ?a ?r); (case a => walk_at "et"); (case r => walk_at "bq"))
  | ((with_reducible refine' et_is ?a); (case a => walk_at "ev"))
  | ((with_reducible refine' et_isB ?a); (case a => walk_at "ev"))
  | ((with_reducible refine' et_and ?a ?b ?c); (case a => walk_at "et"); (case b => (intro _; walk_at "et")); (case c => (intro z; first | exact z | (cases z; done) | rfl)))
  | ((with_reducible refine' et_or ?a ?b ?c); (case a => walk_at "et"); (case b => (intro _; walk_at "et")); (case c => (intro z; first | exact z | (cases z; done) | rfl))))
local macro_rules | `(tactic| walk_at "ev2") => `(tactic| first
  | walk_at "ev"
  | ((with_reducible refine' ev_inT ?a ?p ?s ?d ?f ?x ?b); (case a => walk_at "ev"); (case p => exact evv_c); (case s => assumption); (case d => exact rfl); (case f => exact rfl); (case x => exact rfl); (case b => walk_at "bq"))
  | ((with_reducible refine' ev_inU2 ?a ?p ?l ?d ?x ?f ?y ?b); (case a => walk_at "ev"); (case p => walk_at "ea"); (case l => (show _ ≤ _; decide)); (case d => exact rfl); (case x => exact rfl); (case f => exact rfl); (case y => exact rfl); (case b => walk_at "bq"))
  | ((with_reducible refine' ev_slA ?a ?l ?h ?r); (case a => walk_at "ev"); (case l => walk_at "eo"); (case h => walk_at "eo"); (case r => exact rfl)))
local macro_rules | `(tactic| walk_at "et2") => `(tactic| first
  | walk_at "et"
  | ((with_reducible refine' et_is ?a); (case a => walk_at "ev2"))
  | ((with_reducible refine' et_isB ?a); (case a => walk_at "ev2")))
local macro_rules | `(tactic| walk_at "eo") => `(tactic| first
  | with_reducible exact eo_none
  | ((with_reducible refine' eo_some ?a); (case a => walk_at "ev")))
/-! ## X. A comprehension over a generator -/
section
open GenW
theorem wp_ex {α : Type} {M : Model} {Γ : PySem.Ctx} (t : Sem α) : ∀ {Q : α → Pos → Shared → Prop} {E : Value → Pos → Shared → Prop} {p : Pos} {s : Shared}, Sem.wp M Γ t Q E p s → (∃ a p' s', Q a p' s') ∨ ∃ e p' s', E e p' s' := by
  induction t with
  | pure a => intro Q E p s h; exact .inl ⟨_, _, _, h⟩
  | raise e => intro Q E p s h; exact .inr ⟨_, _, _, h⟩
  | unsupported _ => intro Q E p s h; exact h.elim
  | finish _ => intro Q E p s h; exact h.elim
  | register _ _ => intro Q E p s h; exact h.elim
  | yield _ _ _ _ => intro Q E p s h; exact h.elim
  | fork _ _ => intro Q E p s h; exact h.elim
  | await _ _ _ _ _ => intro Q E p s h; exact h.elim
  | rule _ k ih => intro Q E p s h; exact ih () h
  | «at» p' k ih => intro Q E p s h; exact ih () h
  | load a _ k ih => intro Q E p s h; obtain ⟨o, _, h⟩ := h; exact ih o h
  | update a _ f k ih => intro Q E p s h; exact ih () h.2
  | loadIfAlive a k ih => intro Q E p s h; exact ih _ h
  | point _ k ih => intro Q E p s h; exact ih () h
  | alloc ob k ih => intro Q E p s h; exact ih _ h
  | fresh k ih => intro Q E p s h; exact ih _ h
  | ask k ih => intro Q E p s h; exact ih _ h
  | choose src m k ih => intro Q E p s h; exact ih _ h.2
  | os q _ k ih => intro Q E p s h; exact ih _ h
  | call c hd _ _ k ih => intro Q E p s h; obtain ⟨r, s', _, h⟩ := h; exact ih r h
  | handled own k ih => intro Q E p s h; exact ih _ h
  | genState g k ih => intro Q E p s h; obtain ⟨st, _, h⟩ := h; exact ih _ h
  | newGen c k ih => intro Q E p s h; exact ih _ h
  | resume g r _ k ih => intro Q E p s h; obtain ⟨res, s', _, h⟩ := h; exact ih res h
  | stack k ih => intro Q E p s h; exact ih _ h
  | thread k ih => intro Q E p s h; exact ih _ h
/-- what can be asked, holds somewhere -/
theorem wpAny_ex {α : Type} {M : Model} {A : Around} {t : Sem α} {Q : α → Shared → Prop} {s : Shared} {Γ : PySem.Ctx} (p : Pos) (hΓ : Γ.In A) (h : wpAny M A t Q noX s) : ∃ a s', Q a s' := by
  rcases wp_ex t (h Γ p hΓ) with ⟨a, _, s', h⟩ | ⟨_, _, _, h⟩
  · exact ⟨a, s', h⟩
  · exact h.elim
section
variable {X : Cx} {pins : List (Addr × Obj)} {σ : St} {H : Hp} {s : Shared}
/-- the table of generators is of no weight -/
theorem Inv.tabled {g' : Array GenState} (I : L2.Inv X pins σ H s) (hg : AllBare g') : L2.Inv X pins σ H { s with gens := g' } :=
  ⟨I.ok, I.os, hg, I.base, I.loc, I.cell, I.free, I.freeC, I.pin, I.hok, I.len⟩
/-- from one context's word to another's: both began at the same store, under the same frames; the other's frame stands as it stood -/
theorem Inv.swap {X2 : Cx} {pins2 pins3 : List (Addr × Obj)} {σ2 : St} {H2 : Hp} {s2 : Shared} (I : L2.Inv X pins σ H s) (I2 : L2.Inv X2 pins3 σ2 H2 s2) (hp : X2.prog = X.prog) (hw : X2.w = X.w) (h0 : X2.s_0 = X.s_0) (hH : X2.H_0 = X.H_0) (ho : X2.outer = X.outer)
    (hx1 : X.ex = []) (hx2 : X2.ex = []) (hc : ∀ x c, X2.env.cells.lookup x = some c → False) (hL : ∀ o, s2.heap.get? X2.env.locals = some o → s.heap.get? X2.env.locals = some o) (hf : H X2.env.locals = none)
    (hpin : ∀ p ∈ X2.pn ++ pins2, s.heap.get? p.1 = some p.2 ∧ H p.1 = none ∧ p.1 ≠ X2.env.locals ∧ p.1 ∉ X2.fs ∧ ∀ v, p.2.data ≠ .cell v) : L2.Inv X2 pins2 σ2 H s := by
  refine ⟨I2.ok, by rw [h0]; exact I.os, I.bare, ?_, ?_, fun x c e => (hc x c e).elim, hf, fun x c e => (hc x c e).elim, hpin, by rw [hp, hw]; exact I.hok, I2.len⟩
  · show Un (frs X2.outer) X2.ex X2.H_0 H X2.s_0.heap s.heap
    rw [ho, hx2, hH, h0, ← hx1]
    exact I.base
  · obtain ⟨m, ⟨o, es, ep, ho', r⟩, hl⟩ := I2.loc
    refine ⟨m, ⟨o, es, ep, hL o ho', r⟩, fun i x v e1 e2 e3 => ?_⟩
    obtain ⟨u, ru, q⟩ := hl i x v e1 e2 e3
    refine ⟨u, ru, ?_⟩
    rcases q with q | ⟨_, c, e, _⟩
    · exact .inl q
    · exact (hc x c e).elim
end
/-- a call of a generator def: what stands behind it -/
structure GMk (X : Cx) (sc : Shared) (ps : List Str) (qual : Str) (body : List Stmt) (scope : Scope) (f : Addr) (cdv : Value) (us : List Value) (a : Addr) (go : Obj) (s1 s' : Shared) : Prop where
  at_ : a = s1.heap.objs.size
  fr : InCallC sc sc.heap.objs.size (bindL (envOfC qual scope sc.heap.objs.size f cdv).kindOf (ps.zip us) fun _ => none) (cellsFrom (sc.heap.objs.size + 1) scope.names []) (bindC (envOfC qual scope sc.heap.objs.size f cdv).kindOf (ps.zip us) fun _ => none) s1
  here : s'.heap.get? a = some go
  kept : ∀ b o, s1.heap.get? b = some o → s'.heap.get? b = some o
  os : s'.os = s1.os
  gen : s'.heap.IsGen a s1.gens.size ∧ ∀ h : Heap, h.get? a = some go → h.IsGen a s1.gens.size
  cell : ∀ v, go.data ≠ .cell v
  tab : s'.gens = s1.gens.push (.fresh (.func body (envOfC qual scope sc.heap.objs.size f cdv)))
theorem gen_call {X : Cx} {pins : List (Addr × Obj)} {σ : St} {H : Hp} {s : Shared} {us : List Value} {f : Addr} {name qual : Str} {params : Arguments} {body : List Stmt} {scope : Scope} {dV kV doc pm cdv ct oc : Value} {an od : Option Addr} {osl : Array (Option Value)} {N ps : List Str} {k : Nat}
    (lk : X.K.lookup f = some ⟨oc, od, .func (PySem.W.fnOf name qual params body scope dV kV doc pm an cdv ct), osl⟩) (hcd : PySem.W.codeIn X.K cdv qual = true) (S : GScope N ps scope) (hb : Binds X.K (PySem.W.fnOf name qual params body scope dV kV doc pm an cdv ct) ps [])
    (hr : Room k X.A) (I : L2.Inv X pins σ H s) (hl : us.length = ps.length) : wpAny (model X.prog X.w) X.A (call (.ref f) us) (fun u s' => ∃ a go s1, u = .ref a ∧ GMk X s ps qual body scope f cdv us a go s1 s') noX s := by
  have hz : (us ++ []).length = ps.length := by rw [List.append_nil]; exact hl
  have hb2 := hb s us I.kIn hz
  rw [List.append_nil] at hb2
  refine wpAny_call (codeAny_mono (codeAny_call_generator (R := fun r s' => ∃ u, r = .ok (.ret u) ∧ ∃ a go s1, u = .ref a ∧ GMk X s ps qual body scope f cdv us a go s1 s') hr.depth (I.kIn _ _ lk) rfl S.co S.gen rfl (PySem.W.codeRec_of I.kIn hcd) (hb2 _ _ _ _ ?_)) fun r s' hq => ?_)
  · refine wpAny_newFunctionEnv_cells S.kind (fun y hy => ?_) fun env he s1 x => ?_
    · rcases S.par y.1 (List.of_mem_zip (a := y.1) (b := y.2) hy).1 with q | q
      · exact .inl q
      · exact .inr ⟨q, PySem.W.cellsFrom_some _ _ _ (.inl q)⟩
    · subst he
      refine ⟨I.nolimit.keeps x.toInCall.keep, _, rfl, _, _, s1, rfl, rfl, x, Heap.get?_push_size _ rfl, fun b o e => Heap.get?_push_of_some _ e, rfl, ⟨⟨_, _, _, Heap.get?_push_size _ rfl, rfl, rfl, rfl⟩, fun h e => ⟨_, _, _, e, rfl, rfl, rfl⟩⟩, (fun v z => by cases z), rfl⟩
  · obtain ⟨u, rfl, h⟩ := hq
    exact h
end
end K27
namespace K27
open PySem PySem.Spec L2
open PyProof.Rows hiding St
local macro_rules | `(tactic| walk_at "td") => `(tactic| first | assumption | exact Td.int _ | exact Td.str _ | exact Td.bl _ | exact Td.non)
local macro_rules | `(tactic| walk_at "bq") => `(tactic| first | exact rfl | assumption | decide)
local macro_rules | `(tactic| walk_at "kb") => `(tactic| first | exact kii | exact ksi | exact kti | exact kib | exact kss | exact kis | exact kts | exact ktt | exact kst | exact kit)
local macro_rules | `(tactic| walk_at "ev") => `(tactic| first
  | with_reducible exact ev_int
  | with_reducible exact ev_str
  | with_reducible exact ev_bl
  | with_reducible exact ev_non
  | ((with_reducible refine' ev_var ?e ?t); (case e => exact rfl); (case t => walk_at "td"))
  | ((with_reducible refine' ev_ix ?a ?n ?z); (case a => walk_at "ev"); (case z => decide); (case n => exact rfl))
  | ((with_reducible refine' ev_isi ?a ?k); (case a => walk_at "ev"); (case k => walk_at "kb"))
  | ((with_reducible refine' ev_len ?a ?k); (case a => walk_at "ev"); (case k => exact rfl))
  | ((with_reducible refine' ev_cmpI ?a ?b ?r); (case a => walk_at "ev"); (case b => walk_at "ev"); (case r => walk_at "bq"))
  | ((with_reducible refine' ev_I0 ?a ?b ?r); (case a => walk_at "ev"); (case b => walk_at "ev"); (case r => exact rfl))
  | ((with_reducible refine' ev_eqS ?a ?b ?r); (case a => walk_at "ev"); (case b => walk_at "ev"); (case r => walk_at "bq"))
  | ((with_reducible refine' ev_eqI ?a ?b ?r); (case a => walk_at "ev"); (case b => walk_at "ev"); (case r => walk_at "bq"))
  | ((with_reducible refine' ev_neI ?a ?b ?r); (case a => walk_at "ev"); (case b => walk_at "ev"); (case r => walk_at "bq"))
  | ((with_reducible refine' ev_notV ?a ?r); (case a => walk_at "ev"); (case r => walk_at "bq"))
  | ((with_reducible refine' ev_chain ?a ?b ?c ?r); (case a => walk_at "ev"); (case b => walk_at "ev"); (case c => walk_at "ev"); (case r => walk_at "bq"))
  | ((with_reducible refine' ev_tup ?a ?l); (case a => walk_at "ea"); (case l => (show _ ≤ _; decide))))
local macro_rules | `(tactic| walk_at "ea") => `(tactic| first
  | with_reducible exact ea_nil
  | ((with_reducible refine' ea_cons ?a ?b); (case a => walk_at "ev"); (case b => walk_at "ea")))
local macro_rules | `(tactic| walk_at "et") => `(tactic| first
  | ((with_reducible refine' et_notI ?a ?r); (case a => walk_at "et"); (case r => walk_at "bq"))
  | ((with_reducible refine' et_is ?a); (case a => walk_at "ev"))
  | ((with_reducible refine' et_isB ?a); (case a => walk_at "ev"))
  | ((with_reducible refine' et_and ?a ?b ?c); (case a => walk_at "et"); (case b => (intro _; walk_at "et")); (case c => (intro z; first | exact z | (cases z; done) | rfl)))
  | ((with_reducible refine' et_or ?a ?b ?c); (case a => walk_at "et"); (case b => (intro _; walk_at "et")); (case c => (intro z; first | exact z | (cases z; done) | rfl))))
local macro_rules | `(tactic| walk_at "ev2") => `(tactic| first
  | walk_at "ev"
  | ((with_reducible refine' ev_inT ?a ?p ?s ?d ?f ?x ?b); (case a => walk_at "ev"); (case p => exact evv_c); (case s => assumption); (case d => exact rfl); (case f => exact rfl); (case x => exact rfl); (case b => walk_at "bq"))
  | ((with_reducible refine' ev_inU2 ?a ?p ?l ?d ?x ?f ?y ?b); (case a => walk_at "ev"); (case p => walk_at "ea"); (case l => (show _ ≤ _; decide)); (case d => exact rfl); (case x => exact rfl); (case f => exact rfl); (case y => exact rfl); (case b => walk_at "bq"))
  | ((with_reducible refine' ev_slA ?a ?l ?h ?r); (case a => walk_at "ev"); (case l => walk_at "eo"); (case h => walk_at "eo"); (case r => exact rfl)))
local macro_rules | `(tactic| walk_at "et2") => `(tactic| first
  | walk_at "et"
  | ((with_reducible refine' et_is ?a); (case a => walk_at "ev2"))
  | ((with_reducible refine' et_isB ?a); (case a => walk_at "ev2")))
local macro_rules | `(tactic| walk_at "eo") => `(tactic| first
  | with_reducible exact eo_none
  | ((with_reducible refine' eo_some ?a); (case a => walk_at "ev")))
section
open GenW
/-- the generator's context at a wake around A -/
abbrev GX (X : Cx) (N2 : List Str) (qual : Str) (scope : Scope) (f : Addr) (cdv : Value) (sc : Shared) (H1 : Hp) (A : Around) : Cx := (gcxOf X.prog X.w X.K X.mg X.base N2 qual scope f cdv A X.stack sc H1 E0 []).nox
/-- what the consumer may pin -/
def Pinb (Xc : Cx) (H : Hp) (s : Shared) (p : Addr × Obj) : Prop := s.heap.get? p.1 = some p.2 ∧ H p.1 = none ∧ p.1 ≠ Xc.env.locals ∧ p.1 ∉ Xc.fs ∧ ∀ v, p.2.data ≠ .cell v
/-- an item is handed out -/
def YC (Xg Xc : Cx) (D a : Addr) (go : Obj) (ds : List PyData) (Pv : Nat → Hp → Prop) : Protocol := fun n s₀ v s1 kap =>
  ∃ i x σg H1, i + n + 1 = ds.length ∧ RelV x v ∧ (∃ d, ds[i]? = some d ∧ Td H1 x d) ∧ Pv i H1 ∧ (∃ oc, s₀.heap.get? Xc.env.locals = some oc ∧ L2.Inv Xg [(Xc.env.locals, oc), (a, go)] σg H1 s1) ∧
    ∃ pl, (∀ p ∈ pl, Pinb Xc H1 s1 p) ∧ ∀ z s' H' σc, (∀ b, z ≠ Value.ref b) → L2.Inv Xc ((a, go) :: pl) σc H' s' → Mv [D] H1 H' → Pv (i + 1) H' → kap (.send z) s'
/-- it is over -/
def RC (Xg Xc : Cx) (a : Addr) (go : Obj) (ds : List PyData) (Pv : Nat → Hp → Prop) : Nat → Shared → Shared → Prop := fun _ s₀ s1 =>
  ∃ σg H1, Pv ds.length H1 ∧ ∃ oc, s₀.heap.get? Xc.env.locals = some oc ∧ L2.Inv Xg [(Xc.env.locals, oc), (a, go)] σg H1 s1
abbrev RCe (Xg Xc : Cx) (a : Addr) (go : Obj) (ds : List PyData) (Pv : Nat → Hp → Prop) : GenEnd := fun n s₀ r s1 => ((r = .ok (.ret .none) ∨ r = .ok .next) ∧ RC Xg Xc a go ds Pv n s₀ s1) ∨ ∃ e, r = .error e ∧ False
/-- both contexts, one start -/
structure Pair (Xg Xc : Cx) : Prop where
  prog : Xg.prog = Xc.prog
  w : Xg.w = Xc.w
  K : Xg.K = Xc.K
  s0 : Xg.s_0 = Xc.s_0
  H0 : Xg.H_0 = Xc.H_0
  outer : Xg.outer = Xc.outer
  exg : Xg.ex = []
  exc : Xc.ex = []
  cg : ∀ x c, Xg.env.cells.lookup x = some c → False
  cc : ∀ x c, Xc.env.cells.lookup x = some c → False
  png : Xg.pn = []
  pnc : Xc.pn = []
  ne : Xg.env.locals ≠ Xc.env.locals
/-- the generator's first turn, and all that follow -/
theorem seg_each {X0 Xc : Cx} {Aw : Around} {D a : Addr} {go : Obj} {ds : List PyData} {Pv : Nat → Hp → Prop} {tg e iter : Expr} {yp pos fpos : Pos} {tl : TE} {j : Nat} {σg : St} {H : Hp} {s : Shared} {oc : Obj}
    (pr : Pair X0.nox Xc) (hcalm : X0.calm = true) (hov : ∀ body, Aw.over (.func body X0.env) [] = X0.A) (hl : PE X0.nox iter tl) (hg : PG X0.nox tg (gName j)) (he : PE X0.nox e (tVar j)) (hj : j < X0.N.length)
    (hco : X0.env.scope.isCoroutine = false) (hi : interactive X0.env = false) (hs : ∀ x, foldedSetIterable iter X0.env x = pure x)
    (I : L2.Inv X0.nox [(Xc.env.locals, oc), (a, go)] σg H s) (hoc : s.heap.get? Xc.env.locals = some oc)
    (ht : iList X0.K tl σg H fun J H2 => ∃ L xs, J = Itl X0.K L ∧ H2 L = some (.lst xs) ∧ L ≠ D ∧ TdA H2 xs ds ∧ Pv 0 H2) :
    Seg (model X0.prog X0.w) Aw (RCe X0.nox Xc a go ds Pv) (YC X0.nox Xc D a go ds Pv) ds.length s
      (.func [.For tg iter [.Expr (.Yield (some e) yp) pos] [] fpos] X0.env) ((model X0.prog X0.w).den (.func [.For tg iter [.Expr (.Yield (some e) yp) pos] [] fpos] X0.env)) [] s := by
  refine seg_func (seg_execs_cons (seg_ForN ?_ hs))
  rw [hov]
  refine wpAny_mono ((pi_list hl : PI X0.nox tg iter (iList X0.K tl)).run _ s σg H _ I ht) (fun v s1 h1 => wpAny_mono h1 (fun itv s2 h2 => ?_) fun _ _ q => q) fun _ _ q => q
  obtain ⟨it, fp, tn, JI, H2, e1, I2, T, st2, f2, L, xs, eJ, hL, hLD, txs, hpv⟩ := h2
  subst e1 eJ
  intro p0
  have hlen := txs.length
  have fpc : ∀ b ∈ fp, b ≠ Xc.env.locals ∧ b ≠ a := fun b hb => by
    obtain ⟨_, _, _, _, _, h6⟩ := f2 b hb
    exact ⟨fun z => h6 (Xc.env.locals, oc) (List.mem_append_right _ List.mem_cons_self) z.symm, fun z => h6 (a, go) (List.mem_append_right _ (List.mem_cons_of_mem _ List.mem_cons_self)) z.symm⟩
  have fOk : ∀ {oc : Obj} {H' : Hp}, (∀ b ∈ fp, H' b = none) → ∀ b ∈ fp, FpOk X0.nox [(Xc.env.locals, oc), (a, go)] H' b := fun {oc' H'} hn b hb => by
    obtain ⟨h1, h2, h3, h4, h5, h6⟩ := f2 b hb
    refine ⟨hn b hb, h2, h3, h4, h5, fun p hp => ?_⟩
    rcases List.mem_append.mp hp with hp | hp
    · exact h6 p (List.mem_append_left _ hp)
    · rcases List.mem_cons.mp hp with hp | hp
      · rw [hp]; exact (fpc b hb).1.symm
      · rw [List.mem_singleton.mp hp]; exact (fpc b hb).2.symm
  refine seg_forLoopY (fun i n s₀ s => ∃ σ' H' oc, i + n = ds.length ∧ s₀.heap.get? Xc.env.locals = some oc ∧ L2.Inv X0.nox [(Xc.env.locals, oc), (a, go)] σ' H' s ∧ tn i s.heap ∧ (∀ b ∈ fp, H' b = none) ∧ H' L = some (.lst xs) ∧ TdA H' xs ds ∧ Pv i H') hco hi rfl rfl rfl ?_ ds.length 0 s s2
    ⟨σg, H2, oc, Nat.zero_add _, hoc, I2, st2, fun b hb => (f2 b hb).1, hL, txs, hpv⟩
  rintro i n s₀ s3 ⟨σ3, H3, oc3, hin, hoc3, I3, st3, hn3, hL3, tx3, pv3⟩
  have over' : ∀ {body : List Stmt} {kf : Result → Sem PySem.Fin} {g0 : Bool} {l0 : List Value}, Aw.over (.forLoop tg (.ref it) [.Expr (.Yield (some e) yp) pos] [] X0.env) (.ret kf none g0 l0 (.func body X0.env) p0 [] :: []) = X0.A := fun {body kf g0 l0} => (over_loop rfl rfl).trans (hov body)
  rw [over']
  by_cases hlt : i < xs.length
  · obtain ⟨x, hx⟩ : ∃ x, xs[i]? = some x := ⟨_, List.getElem?_eq_getElem hlt⟩
    obtain ⟨d, hd, td⟩ := tx3.getV hx
    obtain ⟨m, rfl⟩ : ∃ m, n = m + 1 := ⟨n - 1, by omega⟩
    have hjl : j < σ3.length := by rw [I3.len]; exact hj
    refine wpAny_mono (for_turnN T hcalm hg he I3 st3 (fOk hn3) (SqL.of hL3) hx hjl (Q := fun u s4 => ∀ kap : Resume → Shared → Prop, (∀ z s'', (∀ b, z ≠ Value.ref b) → (∃ σ' H' oc, i + 1 + m = ds.length ∧ s''.heap.get? Xc.env.locals = some oc ∧ L2.Inv X0.nox [(Xc.env.locals, oc), (a, go)] σ' H' s'' ∧ tn (i + 1) s''.heap ∧ (∀ b ∈ fp, H' b = none) ∧ H' L = some (.lst xs) ∧ TdA H' xs ds ∧ Pv (i + 1) H') → kap (.send z) s'') → YC X0.nox Xc D a go ds Pv m s₀ u s4 kap) ?_) (fun r s4 ⟨v, hr, h4⟩ => ?_) fun _ _ q => q
    · intro u s4 pl hpl hpl2 I4 htn ru kap hk
      have I5 : L2.Inv X0.nox [(Xc.env.locals, oc3), (a, go)] (σ3.set j (some x)) H3 s4 := I4.unpinned
      obtain ⟨mg, ⟨og, es, ep, hog, rg⟩, hlg⟩ := I4.loc
      have nocell : ∀ v, og.data ≠ .cell v := fun v z => by rw [rg.1] at z; cases z
      refine ⟨i, x, σ3.set j (some x), H3, by omega, ru, ⟨d, hd, td⟩, pv3, ⟨oc3, hoc3, I5⟩, (X0.env.locals, og) :: pl, fun p hp => ?_, fun z s' H' σc hz Ic hmv hpv' => hk z s' hz ?_⟩
      · rcases List.mem_cons.mp hp with hp | hp
        · rw [hp]
          refine ⟨hog, I4.free, pr.ne, fun hm => ?_, nocell⟩
          have hm : X0.env.locals ∈ frs Xc.outer := hm
          rw [← pr.outer] at hm
          have h1 := I4.ok.above
          obtain ⟨_, o0, ho0, _⟩ := I4.ok.funs.mem hm
          exact absurd (Nat.lt_of_lt_of_le (Heap.lt_size ho0) h1) (Nat.lt_irrefl _)
        · obtain ⟨h1, h2, h3, h4, h5⟩ := I4.pin p (List.mem_append_right _ (List.mem_append_right _ hp))
          refine ⟨h1, h2, (fpc p.1 (hpl p hp)).1, fun hm => h4 ?_, h5⟩
          show p.1 ∈ frs X0.outer
          rw [show X0.outer = Xc.outer from pr.outer]; exact hm
      · obtain ⟨mc, ⟨oc', esc, epc, hoc', rc⟩, _⟩ := Ic.loc
        have pinned : ∀ p ∈ (X0.env.locals, og) :: pl, s'.heap.get? p.1 = some p.2 ∧ H' p.1 = none := fun p hp =>
          let q := Ic.pin p (List.mem_append_right _ (List.mem_cons_of_mem _ hp))
          ⟨q.1, q.2.1⟩
        have hgo := Ic.pin (a, go) (List.mem_append_right _ List.mem_cons_self)
        have nocellc : ∀ v, oc'.data ≠ .cell v := fun v z => by rw [rc.1] at z; cases z
        refine ⟨σ3.set j (some x), H', oc', by omega, hoc', ?_, htn _ fun p hp => (pinned p (List.mem_cons_of_mem _ hp)).1, fun b hb => ?_, ?_, tx3.mono hmv.tup, hpv'⟩
        · refine Inv.swap Ic I4 pr.prog pr.w pr.s0 pr.H0 pr.outer pr.exc pr.exg pr.cg (fun o ho => ?_) (pinned (X0.env.locals, og) List.mem_cons_self).2 (fun p hp => ?_)
          · have ho : s4.heap.get? X0.env.locals = some o := ho
            rw [hog] at ho
            cases ho
            exact (pinned (X0.env.locals, og) List.mem_cons_self).1
          · have hp : p ∈ ([] : List (Addr × Obj)) ++ [(Xc.env.locals, oc'), (a, go)] := by
              have e0 : X0.nox.pn = [] := pr.png
              rw [e0] at hp
              exact hp
            rcases List.mem_cons.mp hp with hp | hp
            · rw [hp]
              refine ⟨hoc', Ic.free, pr.ne.symm, fun hm => ?_, nocellc⟩
              have hm : Xc.env.locals ∈ frs X0.outer := hm
              have eo : X0.outer = Xc.outer := pr.outer
              rw [eo] at hm
              obtain ⟨_, o0, ho0, _⟩ := Ic.ok.funs.mem hm
              exact absurd (Nat.lt_of_lt_of_le (Heap.lt_size ho0) Ic.ok.above) (Nat.lt_irrefl _)
            · rw [List.mem_singleton.mp hp]
              have q4 := I4.pin (a, go) (List.mem_append_right _ (List.mem_append_left _ (List.mem_cons_of_mem _ List.mem_cons_self)))
              exact ⟨hgo.1, hgo.2.1, q4.2.2.1, q4.2.2.2.1, hgo.2.2.2.2⟩
        · obtain ⟨o, ho⟩ := hpl2 b hb
          exact (pinned (b, o) (List.mem_cons_of_mem _ ho)).2
        · exact hmv.keep L _ (fun z => hLD (List.mem_singleton.mp z)) hL3
    · subst hr
      exact ⟨m, rfl, h4⟩
  · have hi4 : i = xs.length := by omega
    have hn0 : n = 0 := by omega
    subst hi4 hn0
    refine wpAny_mono (T.done X0.nox rfl rfl rfl hcalm xs.length _ s3 σ3 H3 noX I3 (fOk hn3) st3 ⟨xs, SqL.of hL3, Nat.le_refl _⟩) (fun r s4 ⟨hr, I4⟩ => ?_) fun _ _ q => q
    subst hr
    exact seg_end (.ok (.ret .none)) (.inl ⟨.inl rfl, σ3, H3, by rw [← hlen]; exact pv3, oc3, hoc3, I4⟩)
end
end K27
namespace K27
open PySem PySem.Spec L2
open PyProof.Rows hiding St
local macro_rules | `(tactic| walk_at "td") => `(tactic| first | assumption | exact Td.int _ | exact Td.str _ | exact Td.bl _ | exact Td.non)
local macro_rules | `(tactic| walk_at "bq") => `(tactic| first | exact rfl | assumption | decide)
local macro_rules | `(tactic| walk_at "kb") => `(tactic| first | exact kii | exact ksi | exact kti | exact kib | exact kss | exact kis | exact kts | exact ktt | exact kst | exact kit)
local macro_rules | `(tactic| walk_at "ev") => `(tactic| first
  | with_reducible exact ev_int
  | with_reducible exact ev_str
  | with_reducible exact ev_bl
  | with_reducible exact ev_non
  | ((with_reducible refine' ev_var ?e ?t); (case e => exact rfl); (case t => walk_at "td"))
  | ((with_reducible refine' ev_ix ?a ?n ?z); (case a => walk_at "ev"); (case z => decide); (case n => exact rfl))
  | ((with_reducible refine' ev_isi ?a ?k); (case a => walk_at "ev"); (case k => walk_at "kb"))
  | ((with_reducible refine' ev_len ?a ?k); (case a => walk_at "ev"); (case k => exact rfl))
  | ((with_reducible refine' ev_cmpI ?a ?b ?r); (case a => walk_at "ev"); (case b => walk_at "ev"); (case r => walk_at "bq"))
  | ((with_reducible refine' ev_I0 ?a ?b ?r); (case a => walk_at "ev"); (case b => walk_at "ev"); (case r => exact rfl))
  | ((with_reducible refine' ev_eqS ?a ?b ?r); (case a => walk_at "ev"); (case b => walk_at "ev"); (case r => walk_at "bq"))
  | ((with_reducible refine' ev_eqI ?a ?b ?r); (case a => walk_at "ev"); (case b => walk_at "ev"); (case r => walk_at "bq"))
  | ((with_reducible refine' ev_neI ?a ?b ?r); (case a => walk_at "ev"); (case b => walk_at "ev"); (case r => walk_at "bq"))
  | ((with_reducible refine' ev_notV ?a ?r); (case a => walk_at "ev"); (case r => walk_at "bq"))
  | ((with_reducible refine' ev_chain ?a ?b ?c ?r); (case a => walk_at "ev"); (case b => walk_at "ev"); (case c => walk_at "ev"); (case r => walk_at "bq"))
  | ((with_reducible refine' ev_tup ?a ?l); (case a => walk_at "ea"); (case l => (show _ ≤ _; decide))))
local macro_rules | `(tactic| walk_at "ea") => `(tactic| first
  | with_reducible exact ea_nil
  | ((with_reducible refine' ea_cons ?a ?b); (case a => walk_at "ev"); (case b => walk_at "ea")))
local macro_rules | `(tactic| walk_at "et") => `(tactic| first
  | ((with_reducible refine' et_notI ?a ?r); (case a => walk_at "et"); (case r => walk_at "bq"))
  | ((with_reducible refine' et_is ?a); (case a => walk_at "ev"))
  | ((with_reducible refine' et_isB ?a); (case a => walk_at "ev"))
  | ((with_reducible refine' et_and ?a ?b ?c); (case a => walk_at "et"); (case b => (intro _; walk_at "et")); (case c => (intro z; first | exact z | (cases z; done) | rfl)))
  | ((with_reducible refine' et_or ?a ?b ?c); (case a => walk_at "et"); (case b => (intro _; walk_at "et")); (case c => (intro z; first | exact z | (cases z; done) | rfl))))
local macro_rules | `(tactic| walk_at "ev2") => `(tactic| first
  | walk_at "ev"
  | ((with_reducible refine' ev_inT ?a ?p ?s ?d ?f ?x ?b); (case a => walk_at "ev"); (case p => exact evv_c); (case s => assumption); (case d => exact rfl); (case f => exact rfl); (case x => exact rfl); (case b => walk_at "bq"))
  | ((with_reducible refine' ev_inU2 ?a ?p ?l ?d ?x ?f ?y ?b); (case a => walk_at "ev"); (case p => walk_at "ea"); (case l => (show _ ≤ _; decide)); (case d => exact rfl); (case x => exact rfl); (case f => exact rfl); (case y => exact rfl); (case b => walk_at "bq"))
  | ((with_reducible refine' ev_slA ?a ?l ?h ?r); (case a => walk_at "ev"); (case l => walk_at "eo"); (case h => walk_at "eo"); (case r => exact rfl)))
local macro_rules | `(tactic| walk_at "et2") => `(tactic| first
  | walk_at "et"
  | ((with_reducible refine' et_is ?a); (case a => walk_at "ev2"))
  | ((with_reducible refine' et_isB ?a); (case a => walk_at "ev2")))
local macro_rules | `(tactic| walk_at "eo") => `(tactic| first
  | with_reducible exact eo_none
  | ((with_reducible refine' eo_some ?a); (case a => walk_at "ev")))
section
open GenW
def tLcG (K : PySem.W.Frag) (ta : TA) (np : Nat) (N2 : List Str) (tl te : TE) (j : Nat) : TE := fun σ H Q => ta σ H fun vs H1 => vs.length = np ∧ ∀ D, H1 D = none → ∃ (ds : List PyData) (Pv : Nat → Hp → Prop),
  (iList K tl (start N2 vs) (upd H1 D (.lst [])) fun J H2 => ∃ L xs, J = Itl K L ∧ H2 L = some (.lst xs) ∧ L ≠ D ∧ TdA H2 xs ds ∧ Pv 0 H2) ∧
  (∀ i x d H2, ds[i]? = some d → Td H2 x d → Pv i H2 → te ((wipe σ [j]).set j (some x)) H2 fun y H4 => ∃ acc, H4 D = some (.lst acc) ∧ acc.length < sizeLine ∧ Mv [D] H2 (upd H4 D (.lst (acc ++ [y]))) ∧ Pv (i + 1) (upd H4 D (.lst (acc ++ [y])))) ∧
  ∀ H2, Pv ds.length H2 → Q (.ref D) H2
/-- a block's context by the store that stood ahead of what was made for it -/
theorem Inv.rebase {X : Cx} {pins pins2 : List (Addr × Obj)} {σ σ2 : St} {H1 H3 H : Hp} {sc s3 s : Shared} {scope : Scope} {ce : Env} (I : L2.Inv (X.blk s3 H3 scope ce []) pins2 σ2 H s) (I1 : L2.Inv X pins σ H1 sc) (hu : Un (frs X.stack) [] H1 H3 sc.heap s3.heap) (hos : s3.os = sc.os)
    (hz : sc.heap.objs.size ≤ s3.heap.objs.size) : L2.Inv (X.blk sc H1 scope ce []) pins2 σ2 H s :=
  ⟨⟨I.ok.mod, I.ok.kind, I.ok.glob, I.ok.blt, Nat.le_trans hz I.ok.above, I.ok.inj, I.ok.has, fun x c h1 h2 => Nat.le_trans hz (I.ok.cab x c h1 h2), I.ok.hd, I.ok.frames, I.ok.stk, fun b z => (nomatch z), I1.bs, Nat.le_trans I1.ok.bsz I1.sz,
    fun b o _ z => (nomatch z), fun b z => (nomatch z), I1.stack, I1.stkFree⟩, I.os.trans hos, I.bare, hu.trans I.base, I.loc, I.cell, I.free, I.freeC, I.pin, I.hok, I.len⟩
theorem noCells {names : List (Str × NameKind)} {n : Nat} {h : Heap} {acc : List (Str × Addr)} (hn : ∀ y ∈ names, y.2 ≠ .cell) (hz : n = h.objs.size) (ha : acc = []) : ∀ x c, (cellsFrom n names acc).lookup x = some c → False := fun x c e => by
  subst hz ha
  rcases cells_mem (PySem.mem_of_lookup e) with z | ⟨z, _⟩
  · cases z
  · exact hn _ z rfl
theorem noClo {cells : List (Str × Addr)} {names : List (Str × NameKind)} (hn : ∀ y ∈ names, y.2 ≠ .free) : cloFrom cells names [] = [] := by
  cases e : cloFrom cells names [] with
  | nil => rfl
  | cons p r =>
    have hm : (p.1, p.2) ∈ cloFrom cells names [] := by rw [e]; exact List.mem_cons_self
    rcases cloFrom_mem hm with z | ⟨z, _⟩
    · cases z
    · exact absurd rfl (hn _ z)
theorem wpAny_with {α : Type} {M : Model} {A : Around} {t : Sem α} {Q : α → Shared → Prop} {E : Value → Shared → Prop} {s : Shared} (h : ∀ (Γ : PySem.Ctx) (p : Pos), Γ.In A → wpAny M A t Q E s) : wpAny M A t Q E s := fun Γ p hΓ => h Γ p hΓ Γ p hΓ
theorem lcG_core {X : Cx} {pins : List (Addr × Obj)} {s : Shared} {σ : St} {H : Hp} {Q : VK} {elt tg e0 : Expr} {es : List Expr} {scope : Scope} {y0 : Str} {j : Nat} {pos pos' gp ipos : Pos} {ta : TA} {te tl : TE} {use : Option (Value → Sem Unit)} {Qf : Value → Shared → Prop}
    {gx : Str} {f : Addr} {name qual : Str} {params : Arguments} {scope2 : Scope} {dV kV doc pm cdv ct oc : Value} {an od : Option Addr} {osl : Array (Option Value)} {N2 ps : List Str} {k : Nat} {tg2 iter2 e2 : Expr} {yp ypos fpos : Pos} {j2 : Nat}
    (hc : X.calm = true) (hN : X.N.Nodup) (I : L2.Inv X pins σ H s) (ok : BlkOk X.N X.env.scope scope [(y0, j)]) (hnf : ∀ y ∈ scope.names, y.2 ≠ .free ∧ y.2 ≠ .cell)
    (lk : X.K.lookup f = some ⟨oc, od, .func (PySem.W.fnOf name qual params [.For tg2 iter2 [.Expr (.Yield (some e2) yp) ypos] [] fpos] scope2 dV kV doc pm an cdv ct), osl⟩) (hcd : PySem.W.codeIn X.K cdv qual = true) (S : GScope N2 ps scope2) (hnc2 : ∀ y ∈ scope2.names, y.2 ≠ .cell)
    (hb : Binds X.K (PySem.W.fnOf name qual params [.For tg2 iter2 [.Expr (.Yield (some e2) yp) ypos] [] fpos] scope2 dV kV doc pm an cdv ct) ps []) (hr : Room (k + 2) X.A) (hgl : Gl X gx) (hm : X.mg gx = some (.ref f)) (hk : PySem.W.keepIn X.K (.ref f) = true) (ha : PA X (e0 :: es) ta)
    (hl : ∀ sc H1, PE (GX X N2 qual scope2 f cdv sc H1 X.A.in1) iter2 tl) (hg2 : ∀ sc H1, PG (GX X N2 qual scope2 f cdv sc H1 X.A.in1) tg2 (gName j2)) (he2 : ∀ sc H1, PE (GX X N2 qual scope2 f cdv sc H1 X.A.in1) e2 (tVar j2)) (hj2 : j2 < N2.length)
    (hint : ∀ sc, interactive (envOfC qual scope2 sc f cdv) = false) (hs2 : ∀ sc x, foldedSetIterable iter2 (envOfC qual scope2 sc f cdv) x = pure x)
    (hg : ∀ (s : Shared) (H : Hp) (C : Addr) (cl : List (Str × Addr)) (fp : List Addr), PG (X.blk s H scope (compEnvC scope cl C X.env) fp) tg (gName j)) (he : ∀ (s : Shared) (H : Hp) (C : Addr) (cl : List (Str × Addr)) (fp : List Addr), PE (X.blk s H scope (compEnvC scope cl C X.env) fp) elt te)
    (hgo : ∀ (a : Addr) (go : Obj) (s : Shared) (v : Value) (Q : Unit → Shared → Prop), s.heap.get? a = some go → go.cls = .type "generator" → Q () s → wpAny (model X.prog X.w) X.A (letOwnedTupleGo tg (.ref a) v) Q noX s)
    (hs : ∀ x, foldedSetIterable (.Call (.Name gx gp) (e0 :: es) [] ipos) X.env x = pure x) (hdb : (gx == ("__debug__" : Str)) = false) (hst : starEach (e0 :: es) X.env = (false, eval e0 X.env) :: starEach es X.env) (hpl : (backTo ipos (starEach es X.env)).any (·.1) = false)
    (h : tLcG X.K ta ps.length N2 tl te j σ H Q)
    (hRR : ∀ D C s' m H', L2.Inv X pins σ H' s' → Q (.ref D) H' → s'.heap.Ns C m → FpOk X pins H' C → compPost (model X.prog X.w) X.A X.xe use Qf (.ref D) C (.ok .next) s') :
    wpAny (model X.prog X.w) X.A (comprehension (.ListComp elt [⟨tg, .Call (.Name gx gp) (e0 :: es) [] ipos, [], 0⟩] scope pos) scope X.env pos' (newList []) false (eval (.Call (.Name gx gp) (e0 :: es) [] ipos) X.env) use) Qf X.xe s := by
  refine wpAny_comprehension_free (use := use) rfl hs (closure_ok fun y hy e => absurd e (hnf y hy).1) ok.kind (fun y hy e => by rw [ok.uniq y hy, e]) ?_
  refine wpAny_Call_Name_kw (ld_glob I hgl hm ?_ hdb)
  refine PySem.W.callWith_K (h₀ := X.base) I.ok.mod.kin hk (thn (ha.run ipos pins s σ H _ I h) fun us sc ⟨vs, H1, I1, r, hvl, hD⟩ => ⟨I1.kIn, ?_⟩) hst hpl
  refine thnF (gen_call lk hcd S hb hr I1 (by show us.length = _; rw [← r.length]; exact hvl)) fun u s' ⟨a, go, s1, eu, G⟩ => ?_
  subst eu
  refine wpAny_pyIter_gen G.gen.1 ?_
  refine wpAny_newObj_type (newEnv_comp ?_) (by show 0 ≤ sizeLine; decide)
  obtain ⟨hh1, tk1, es1, hk1⟩ := G.fr.done
  have kp1 : ∀ b o, sc.heap.get? b = some o → s1.heap.get? b = some o := G.fr.toInCall.keep
  have kp2 : ∀ b o, sc.heap.get? b = some o → s'.heap.get? b = some o := fun b o e => G.kept b o (kp1 b o e)
  have lt1 : sc.heap.objs.size < s1.heap.objs.size := G.fr.toInCall.ns.lt
  have alt : a < s'.heap.objs.size := Heap.lt_size G.here
  have bare' : AllBare s'.gens := by
    rw [G.tab, show s1.gens = sc.gens by rw [es1]]
    exact AllBare.push I1.bare rfl
  have os' : s'.os = sc.os := G.os.trans (by rw [es1])
  have I2 : L2.Inv X pins σ H1 s' := I1.call' (ch := []) os' (Un.kept kp2) (I1.hok.kept kp2) bare' fun b z => nomatch z
  obtain ⟨D, hDe⟩ : ∃ D, s'.heap.objs.size = D := ⟨_, rfl⟩
  have hDn : H1 D = none := I2.hok.fresh (Nat.le_of_eq hDe)
  obtain ⟨ds, Pv, hiter, hturn, hend⟩ := hD D hDn
  obtain ⟨s3, hs3⟩ : ∃ s3 : Shared, ({ s' with heap := s'.heap.push { cls := .type "list", data := .seq ([] : List Value).toArray } } : Shared) = s3 := ⟨_, rfl⟩
  have h3 : s3.heap = s'.heap.push { cls := .type "list", data := .seq ([] : List Value).toArray } := by rw [← hs3]
  have kp3 : ∀ b o, s'.heap.get? b = some o → s3.heap.get? b = some o := fun b o e => by rw [h3]; exact Heap.get?_push_of_some _ e
  have I3 : L2.Inv X pins σ (upd H1 D (.lst [])) s3 := by
    rw [← hs3]
    refine I2.laid (t' := s'.toks) (fun b o e => Heap.get?_push_of_some _ e) (Nat.le_of_eq hDe) ⟨Nat.zero_le _, [], 0, .nil, ?_⟩
    rw [← hDe]
    exact Heap.get?_push_size _ rfl
  have I4 := block_start (fp := []) I3 ok hN fun b z => nomatch z
  rw [hDe, hs3]
  obtain ⟨ce, hce⟩ : ∃ ce, compEnvC scope (cellsFrom (s3.heap.objs.size + 1) scope.names (cloFrom X.env.cells scope.names [])) s3.heap.objs.size X.env = ce := ⟨_, rfl⟩
  obtain ⟨s4, hs4⟩ : ∃ s4 : Shared, ({ s3 with heap := pushCells (s3.heap.push { cls := .type "dict", data := .dict #[] }) scope.names } : Shared) = s4 := ⟨_, rfl⟩
  rw [hce, hs4] at I4
  show codeAny _ _ (.compStart (.ListComp elt [⟨tg, .Call (.Name gx gp) (e0 :: es) [] ipos, [], 0⟩] scope pos) 0 (.ref a) (.ref D) (compEnvC scope (cellsFrom (s3.heap.objs.size + 1) scope.names (cloFrom X.env.cells scope.names [])) s3.heap.objs.size X.env)) (compPost (model X.prog X.w) X.A X.xe use Qf (.ref D) s3.heap.objs.size) { s3 with heap := pushCells (s3.heap.push { cls := .type "dict", data := .dict #[] }) scope.names }
  rw [hce, hs4]
  have cL : ce.locals = s3.heap.objs.size := by rw [← hce]; rfl
  have cC : ∀ x c, ce.cells.lookup x = some c → False := fun x c e => by
    have e : ce.cells.lookup x = some c := e
    rw [← hce] at e
    exact noCells (names := scope.names) (h := s3.heap.push { cls := .type "dict", data := .dict #[] }) (fun y hy => (hnf y hy).2) (Heap.size_push ..).symm (noClo fun y hy => (hnf y hy).1) x c e
  have kp4 : ∀ b o, s3.heap.get? b = some o → s4.heap.get? b = some o := fun b o e => by rw [← hs4]; exact pushCells_keeps _ _ _ _ (Heap.get?_push_of_some _ e)
  have hat : a = s1.heap.objs.size := G.at_
  have alt2 : s1.heap.objs.size < s'.heap.objs.size := by
    have z := alt
    rw [hat] at z
    exact z
  have szc : sc.heap.objs.size ≤ s3.heap.objs.size := by
    have e5 : s3.heap.objs.size = s'.heap.objs.size + 1 := by rw [h3]; exact Heap.size_push ..
    rw [e5]
    omega
  have hu : Un (frs X.stack) [] H1 (upd H1 D (.lst [])) sc.heap s3.heap := (Un.kept kp2).trans (Un.laid kp3 (Nat.le_of_eq hDe) hDn)
  have Ic0 : L2.Inv (X.blk sc H1 scope ce []) [] (wipe σ [j]) (upd H1 D (.lst [])) s4 := Inv.rebase I4 I1 hu (by rw [← hs3]; exact os') szc
  -- the generator's side
  have e0w := I1.env0.in1
  have Ig1 := (inv_startG (E := E0) S (show X.A.in1.handled = none from hr.hd) e0w hvl r G.fr).wish noX
  obtain ⟨Xc, hXc⟩ : ∃ Xc, X.blk sc H1 scope ce [] = Xc := ⟨_, rfl⟩
  obtain ⟨X0, hX0⟩ : ∃ X0, gcxOf X.prog X.w X.K X.mg X.base N2 qual scope2 f cdv X.A.in1 X.stack sc H1 E0 [] = X0 := ⟨_, rfl⟩
  have hlg : PE (gcxOf X.prog X.w X.K X.mg X.base N2 qual scope2 f cdv X.A.in1 X.stack sc H1 E0 []).nox iter2 tl := hl sc H1
  have hgg : PG (gcxOf X.prog X.w X.K X.mg X.base N2 qual scope2 f cdv X.A.in1 X.stack sc H1 E0 []).nox tg2 (gName j2) := hg2 sc H1
  have heg : PE (gcxOf X.prog X.w X.K X.mg X.base N2 qual scope2 f cdv X.A.in1 X.stack sc H1 E0 []).nox e2 (tVar j2) := he2 sc H1
  have gL : X0.env.locals = sc.heap.objs.size := by rw [← hX0]; rfl
  have xL : Xc.env.locals = s3.heap.objs.size := by rw [← hXc]; exact cL
  have pr : Pair X0.nox Xc := by
    refine ⟨?_, ?_, ?_, ?_, ?_, ?_, ?_, ?_, ?_, ?_, ?_, ?_, ?_⟩
    · rw [← hX0, ← hXc]; rfl
    · rw [← hX0, ← hXc]; rfl
    · rw [← hX0, ← hXc]; rfl
    · rw [← hX0, ← hXc]; rfl
    · rw [← hX0, ← hXc]; rfl
    · rw [← hX0, ← hXc]; rfl
    · rw [← hX0]; rfl
    · rw [← hXc]
    · rw [← hX0]
      exact noCells (names := scope2.names) (h := sc.heap.push { cls := .type "dict", data := .dict #[] }) hnc2 (Heap.size_push ..).symm rfl
    · rw [← hXc]; exact cC
    · rw [← hX0]; rfl
    · rw [← hXc]
    · show X0.env.locals ≠ Xc.env.locals
      rw [gL, xL]
      have e5 : s3.heap.objs.size = s'.heap.objs.size + 1 := by rw [h3]; exact Heap.size_push ..
      rw [e5]
      exact Nat.ne_of_lt (by omega)
  rw [hXc] at Ic0
  rw [hX0] at Ig1 hlg hgg heg
  have pg := hg sc H1 s3.heap.objs.size (cellsFrom (s3.heap.objs.size + 1) scope.names (cloFrom X.env.cells scope.names [])) []
  have pe := he sc H1 s3.heap.objs.size (cellsFrom (s3.heap.objs.size + 1) scope.names (cloFrom X.env.cells scope.names [])) []
  rw [hce, hXc] at pg pe
  have xA : Xc.A = X.A := by rw [← hXc]
  have xP : Xc.prog = X.prog := by rw [← hXc]
  have xw : Xc.w = X.w := by rw [← hXc]
  have xE : Xc.env = ce := by rw [← hXc]
  have xe : Xc.xe = noX := by rw [← hXc]
  have x0 : Xc.s_0 = sc := by rw [← hXc]
  have xH : Xc.H_0 = H1 := by rw [← hXc]
  have xo : Xc.outer = X.stack := by rw [← hXc]
  have g0 : X0.outer = X.stack := by rw [← hX0]; rfl
  have e5 : s3.heap.objs.size = s'.heap.objs.size + 1 := by rw [h3]; exact Heap.size_push ..
  have aD : a ≠ D := by rw [hat, ← hDe]; exact Nat.ne_of_lt alt2
  have H3a : upd H1 D (.lst []) a = none := by rw [upd_ne aD]; exact I1.hok.fresh (by rw [hat]; exact Nat.le_of_lt lt1)
  have s4a : s4.heap.get? a = some go := kp4 _ _ (kp3 _ _ G.here)
  have afs : a ∉ frs X.stack := fun z => by
    have q := Ig1.nofs (a := a) (by rw [hat]; exact Nat.le_refl _)
    exact q (by show a ∈ frs X0.outer; rw [g0]; exact z)
  have oLfs : Xc.env.locals ∉ frs X.stack := fun z => by
    have q := Ig1.nofs (a := Xc.env.locals) (by rw [xL]; omega)
    exact q (by show _ ∈ frs X0.outer; rw [g0]; exact z)
  have aX : a ≠ Xc.env.locals := by rw [xL, hat]; exact Nat.ne_of_lt (by omega)
  have Ic1 : L2.Inv Xc [(a, go)] (wipe σ [j]) (upd H1 D (.lst [])) s4 := Ic0.pins_of fun p hp => by
    rw [List.mem_singleton.mp hp]
    exact ⟨s4a, H3a, aX, by show a ∉ frs Xc.outer; rw [xo]; exact afs, G.cell⟩
  obtain ⟨oc0, hoc0, ncell0⟩ : ∃ oc0, s4.heap.get? Xc.env.locals = some oc0 ∧ ∀ v, oc0.data ≠ .cell v := by
    obtain ⟨m, ⟨o, es, ep, ho, r⟩, _⟩ := Ic0.loc
    exact ⟨o, ho, fun v z => by rw [r.1] at z; cases z⟩
  have Ig0 : L2.Inv X0.nox [(Xc.env.locals, oc0), (a, go)] (start N2 vs) (upd H1 D (.lst [])) s4 := by
    refine Inv.swap Ic0 Ig1 pr.prog pr.w pr.s0 pr.H0 pr.outer pr.exc pr.exg pr.cg (fun o ho => kp4 _ _ (kp3 _ _ (G.kept _ _ ho))) ?_ fun p hp => ?_
    · show upd H1 D (.lst []) X0.env.locals = none
      rw [gL, upd_ne (by rw [← hDe]; exact Nat.ne_of_lt (by omega))]
      exact I1.hok.fresh (Nat.le_refl _)
    · have e0 : X0.nox.pn = [] := pr.png
      rw [e0] at hp
      rcases List.mem_cons.mp hp with hp | hp
      · rw [hp]
        exact ⟨hoc0, Ic0.free, pr.ne.symm, by show _ ∉ frs X0.outer; rw [g0]; exact oLfs, ncell0⟩
      · rw [List.mem_singleton.mp hp]
        exact ⟨s4a, H3a, by show a ≠ X0.env.locals; rw [gL, hat]; exact Nat.ne_of_gt lt1, by show a ∉ frs X0.outer; rw [g0]; exact afs, G.cell⟩
  obtain ⟨g, hgn⟩ : ∃ g, s1.gens.size = g := ⟨_, rfl⟩
  have hgen : ∀ h : Heap, h.get? a = some go → h.IsGen a g := by rw [← hgn]; exact G.gen.2
  have gocls : go.cls = .type "generator" := by
    obtain ⟨o, nm, qn, ho, hcl, _⟩ := G.gen.1
    rw [G.here] at ho
    cases ho
    exact hcl
  have s4g : s4.gens[g]? = some (.fresh (.func [.For tg2 iter2 [.Expr (.Yield (some e2) yp) ypos] [] fpos] X0.env)) := by
    have e6 : s4.gens = s'.gens := by rw [← hs4, ← hs3]
    rw [e6, G.tab, ← hgn, ← hX0]
    exact Array.getElem?_push_size ..
  have ov : ∀ body, X.A.in1.over (.func body X0.env) [] = X0.A := fun body => by rw [← hX0]; exact over_func
  have gP : X0.prog = X.prog := by rw [← hX0]; rfl
  have gw : X0.w = X.w := by rw [← hX0]; rfl
  have gK : X0.K = X.K := by rw [← hX0]; rfl
  have gcalm : X0.calm = true := by rw [← hX0]; rfl
  have sg := seg_each (Xc := Xc) (Aw := X.A.in1) (D := D) (a := a) (go := go) (ds := ds) (Pv := Pv) (yp := yp) (pos := ypos) (fpos := fpos) (s := s4.setGen g .running) (oc := oc0) pr gcalm ov hlg hgg heg (by rw [← hX0]; exact hj2) (by rw [← hX0]; exact S.co) (by rw [← hX0]; exact hint _)
    (fun x => by rw [← hX0]; exact hs2 _ x) (Inv.tabled Ig0 (allBare_setGen (s := s4) Ic0.bare rfl)) hoc0 (by rw [gK]; exact hiter)
  rw [gP, gw] at sg
  have loop : codeAny (model X.prog X.w) X.A (.compLoop (.ListComp elt [⟨tg, .Call (.Name gx gp) (e0 :: es) [] ipos, [], 0⟩] scope pos) 0 (.ref a) (.ref D) ce) (compPost (model X.prog X.w) X.A X.xe use Qf (.ref D) s3.heap.objs.size) s4 := by
    refine compLoop_any (fun n s5 => ∃ i H5 gs pl, n = ds.length - i ∧ i ≤ ds.length ∧ L2.Inv Xc ((a, go) :: pl) (wipe σ [j]) H5 s5 ∧ s5.gens[g]? = some gs ∧ gs.Goes (model X.prog X.w) X.A.in1 (RCe X0.nox Xc a go ds Pv) (YC X0.nox Xc D a go ds Pv) (ds.length - i) (.send .none) (s5.setGen g .running)) ?_ ds.length
      ⟨0, _, _, [], rfl, Nat.zero_le _, Ic1, s4g, rfl, sg⟩
    rintro n s5 ⟨i, H5, gs, pl, rfl, hi5, I5, hgs, hgoes⟩
    have h5a := (I5.pin (a, go) (List.mem_append_right _ List.mem_cons_self)).1
    have back : ∀ {σg : St} {H6 : Hp} {s6 : Shared} {oc : Obj} {pl6 : List (Addr × Obj)}, (s5.setGen g .running).heap.get? Xc.env.locals = some oc → L2.Inv X0.nox [(Xc.env.locals, oc), (a, go)] σg H6 s6 → (∀ p ∈ pl6, Pinb Xc H6 s6 p) → L2.Inv Xc ((a, go) :: pl6) (wipe σ [j]) H6 s6 := fun {σg H6 s6 oc pl6} hoc Ig6 hpl6 => by
      have hoL := Ig6.pin (Xc.env.locals, oc) (List.mem_append_right _ List.mem_cons_self)
      have hga := Ig6.pin (a, go) (List.mem_append_right _ (List.mem_cons_of_mem _ List.mem_cons_self))
      refine Inv.swap (X := X0.nox) Ig6 I5 pr.prog.symm pr.w.symm pr.s0.symm pr.H0.symm pr.outer.symm pr.exg pr.exc pr.cc (fun o ho => ?_) hoL.2.1 fun p hp => ?_
      · have hoc : s5.heap.get? Xc.env.locals = some oc := hoc
        rw [hoc] at ho
        cases ho
        exact hoL.1
      · rw [pr.pnc] at hp
        rcases List.mem_cons.mp hp with hp | hp
        · rw [hp]
          exact ⟨hga.1, hga.2.1, aX, by show a ∉ frs Xc.outer; rw [xo]; exact afs, G.cell⟩
        · exact hpl6 p hp
    have hg5 : g < s5.gens.size := (Array.getElem?_eq_some_iff.mp hgs).1
    refine wpAny_gsz (n := g + 1) hg5 (next_genG (A := X.A) (g := g) (gs := gs) (n := ds.length - i) (F := RC X0.nox Xc a go ds Pv) (Er := fun _ _ => False) (Y := YC X0.nox Xc D a go ds Pv) hr.hd I5.nolimit hr.depth (hgen _ h5a) hgs hgoes ?_ ?_ fun e s1 z => z.elim)
    · intro v s6 gs' hbare hy hsz
      have hsz : g + 1 ≤ (s6.setGen g gs').gens.size := hsz
      obtain ⟨i', x, σg, H6, hin, rx, ⟨d, hd, td⟩, hpv, ⟨oc, hoc, Ig6⟩, pl6, hpl6, hkap⟩ := hy
      have bare6 : AllBare (s6.setGen g gs').gens := allBare_setGen Ig6.bare hbare
      have Ic6 : L2.Inv Xc ((a, go) :: pl6) (wipe σ [j]) H6 (s6.setGen g gs') := Inv.tabled (back hoc Ig6 hpl6) bare6
      have h6a := (Ic6.pin (a, go) (List.mem_append_right _ List.mem_cons_self)).1
      have pgr : ∀ {s : Shared} {H : Hp}, L2.Inv Xc ((a, go) :: pl6) (wipe σ [j]) H s → wpAny (model X.prog X.w) X.A (assign tg ce v) (fun _ s' => L2.Inv Xc ((a, go) :: pl6) ((wipe σ [j]).set j (some x)) H s') noX s := fun {s H} I' => by
        have z := pg.run ((a, go) :: pl6) s (wipe σ [j]) H x v (fun σ' H' => σ' = (wipe σ [j]).set j (some x) ∧ H' = H) I' rx ⟨rfl, rfl⟩
        rw [xP, xw, xA, xE, xe] at z
        refine wpAny_mono z (fun _ s' ⟨σ', H', I2, e1, e2⟩ => ?_) fun _ _ q => q
        rw [← e1, ← e2]; exact I2
      have per : ∀ {s : Shared}, L2.Inv Xc ((a, go) :: pl6) ((wipe σ [j]).set j (some x)) H6 s → wpAny (model X.prog X.w) X.A (eval elt ce) (fun u s' => ∃ y H4 acc, L2.Inv Xc ((a, go) :: pl6) ((wipe σ [j]).set j (some x)) H4 s' ∧ RelV y u ∧ H4 D = some (.lst acc) ∧ acc.length < sizeLine ∧ Mv [D] H6 (upd H4 D (.lst (acc ++ [y]))) ∧ Pv (i' + 1) (upd H4 D (.lst (acc ++ [y])))) noX s := fun {s} I' => by
        have z := pe.run ((a, go) :: pl6) s _ H6 _ I' (hturn i' x d H6 hd td hpv)
        rw [xP, xw, xA, xE, xe] at z
        exact wpAny_mono z (fun u s' ⟨y, H4, I2, ry, acc, q1, q2, q3, q4⟩ => ⟨y, H4, acc, I2, ry, q1, q2, q3, q4⟩) fun _ _ q => q
      have apr : ∀ {s : Shared} {H4 : Hp} {acc : List V} {y : V} {u : Value}, L2.Inv Xc ((a, go) :: pl6) ((wipe σ [j]).set j (some x)) H4 s → H4 D = some (.lst acc) → acc.length < sizeLine → RelV y u →
          wpAny (model X.prog X.w) X.A (call (.builtin "list.append") [.ref D, u]) (fun _ s' => L2.Inv Xc ((a, go) :: pl6) ((wipe σ [j]).set j (some x)) (upd H4 D (.lst (acc ++ [y]))) s') noX s := fun {s H4 acc y u} I' h1 h2 ry => by
        have z := app_ok (E := noX) (Q := fun _ s' => L2.Inv Xc ((a, go) :: pl6) ((wipe σ [j]).set j (some x)) (upd H4 D (.lst (acc ++ [y]))) s') I' h1 h2 ry fun s' I2 => I2
        rw [xP, xw, xA] at z
        exact z
      refine wpAny_with fun Γ p hΓ => ?_
      have hT : wpAny (model X.prog X.w) X.A (assign tg ce v >>= fun _ => eval elt ce >>= fun y => call (.builtin "list.append") [.ref D, y]) (fun _ u => ∃ H7, L2.Inv Xc ((a, go) :: pl6) ((wipe σ [j]).set j (some x)) H7 u ∧ Mv [D] H6 H7 ∧ Pv (i' + 1) H7) noX (s6.setGen g gs') :=
        wpAny_bind (wpAny_mono (pgr Ic6) (fun _ s7 I7 => wpAny_bind (wpAny_mono (per I7) (fun u s8 ⟨y, H4, acc, I8, ry, q1, q2, q3, q4⟩ => wpAny_mono (apr I8 q1 q2 ry) (fun _ s9 I9 => ⟨_, I9, q3, q4⟩) fun _ _ q => q) fun _ _ q => q)) fun _ _ q => q)
      obtain ⟨_, u, H7, Iu, hmv, hpv7⟩ := wpAny_ex p hΓ hT
      have k1 := hkap (.bool true) u H7 _ (fun b z => by cases z) Iu hmv hpv7
      obtain ⟨m, hm⟩ : ∃ m, ds.length - i = m + 1 := by
        cases hn : ds.length - i with
        | zero => rw [hn] at k1; exact k1.elim
        | succ m => exact ⟨m, rfl⟩
      have ei : i' = i := by omega
      subst ei
      rw [hm] at k1 hkap
      have k1 : gs'.Goes (model X.prog X.w) X.A.in1 (RCe X0.nox Xc a go ds Pv) (YC X0.nox Xc D a go ds Pv) m (.send (.bool true)) u := k1
      have hsusp : GenState.susp gs' = true := by
        cases gs' with
        | suspended k l c p fs cl => rfl
        | fresh c => exact absurd k1.1 (by intro z; cases z)
        | running => exact k1.elim
        | finished => exact k1.elim
      have hgl : g < s6.gens.size := by
        rw [setGen_size] at hsz
        exact hsz
      have o0 := shadow_ok (s6.setGen g gs')
      have e0 := sw_shadow (s6.setGen g gs')
      have hG0 : (s6.setGen g gs').gens[g]? = some gs' := setGen_at hgl
      have Iu0 : L2.Inv Xc ((a, go) :: pl6) (wipe σ [j]) H6 (shadow (s6.setGen g gs')) := Inv.tabled Ic6 (shadow_bare Ic6.bare)
      have main : wpAny (model X.prog X.w) X.A (letOwnedTupleGo tg (.ref a) v) (fun _ s₁' => wpAny (model X.prog X.w) X.A (assign tg ce v) (fun _ s₂ =>
          wpAny (model X.prog X.w) X.A (forIn ([] : List Expr) true fun c r => if r = true then do let ok ← isTrue c ce (eval c ce); pure (ForInStep.yield ok) else pure (ForInStep.yield r)) (fun ok s₃ =>
            if ok = true then wpAny (model X.prog X.w) X.A (eval elt ce) (fun x s₄ =>
              wpAny (model X.prog X.w) X.A (call (.builtin "list.append") [.ref D, x]) (fun _ s₅ => ∃ m', m' < ds.length - i' ∧ ∃ i H5 gs pl, m' = ds.length - i ∧ i ≤ ds.length ∧ L2.Inv Xc ((a, go) :: pl) (wipe σ [j]) H5 s₅ ∧ s₅.gens[g]? = some gs ∧ gs.Goes (model X.prog X.w) X.A.in1 (RCe X0.nox Xc a go ds Pv) (YC X0.nox Xc D a go ds Pv) (ds.length - i) (.send .none) (s₅.setGen g .running)) noX s₄) noX s₃
            else False) noX s₂) noX s₁') noX (s6.setGen g gs') := by
        refine hgo a go _ v _ h6a gocls ?_
        have st1 := wpAny_shadow o0 (pgr Iu0)
        rw [e0] at st1
        refine wpAny_mono st1 (fun _ s7 ⟨u7, e7, o7, I7⟩ => ?_) fun _ _ ⟨_, _, _, q⟩ => q
        subst e7
        refine wpAny_tests_nil ?_
        rw [if_pos rfl]
        refine wpAny_mono (wpAny_shadow o7 (per I7)) (fun w8 s8 ⟨u8, e8, o8, y, H4, acc, I8, ry, q1, q2, q3, q4⟩ => ?_) fun _ _ ⟨_, _, _, q⟩ => q
        subst e8
        refine wpAny_mono (wpAny_shadow o8 (apr I8 q1 q2 ry)) (fun _ s9 ⟨u9, e9, o9, I9⟩ => ?_) fun _ _ ⟨_, _, _, q⟩ => q
        subst e9
        have Is9 := Inv.tabled I9 (sw_bare bare6 I9.bare)
        have hm2 : ds.length - (i' + 1) = m := by omega
        refine ⟨m, by omega, i' + 1, _, gs', pl6, hm2.symm, by omega, Is9.weak (by rw [List.length_set]) (fun k w hk => ?_), sw_sleeps o9 hG0 hsusp, ?_⟩
        · have hk2 : ((wipe σ []).set j none)[k]? = some (some w) := hk
          by_cases hkj : j = k
          · subst hkj
            rw [List.getElem?_set, if_pos rfl] at hk2
            split at hk2 <;> cases hk2
          · rw [List.getElem?_set_ne hkj]; exact hk
        · rw [hm2]
          exact hkap .none _ _ _ (fun b z => by cases z) (Inv.tabled Is9 (allBare_setGen (s := sw (s6.setGen g gs').gens u9) Is9.bare rfl)) q3 q4
      refine wpAny_mono main (fun _ s7 h7 => wpAny_mono h7 (fun _ s8 h8 => wpAny_mono h8 (fun ok s9 h9 => ?_) fun _ _ q => q.elim) fun _ _ q => q.elim) fun _ _ q => q.elim
      cases ok with
      | true =>
        rw [if_pos rfl] at h9 ⊢
        exact wpAny_mono h9 (fun x s10 h10 => wpAny_mono h10 (fun _ _ q => q) fun _ _ q => q.elim) fun _ _ q => q.elim
      | false => rw [if_neg Bool.false_ne_true] at h9; exact h9.elim
    · rintro s6 ⟨σg, H6, hpv, oc, hoc, Ig6⟩ h' hk _
      have Ic6 := back (pl6 := []) hoc Ig6 fun p hp => nomatch hp
      have Ic7 := (Inv.tabled Ic6 (allBare_setGen (s := s6) (g := g) (x := .finished) Ic6.bare rfl)).kept (h' := h') (t' := s6.toks) hk
      have hbase := Ic7.base
      have hex : Xc.ex = [] := pr.exc
      have hfs : Xc.fs = frs X.stack := by show frs Xc.outer = _; rw [xo]
      rw [hfs, hex, xH, x0] at hbase
      have hok := Ic7.hok
      rw [xP, xw] at hok
      have hos7 := Ic7.os
      rw [x0] at hos7
      have I7 := I1.call' (ch := []) hos7 hbase hok Ic7.bare fun b z => nomatch z
      obtain ⟨m, hn, _⟩ := Ic7.loc
      rw [xL] at hn
      have nC : H6 s3.heap.objs.size = none := by rw [← xL]; exact Ic6.free
      exact hRR D s3.heap.objs.size _ m H6 I7 (hend H6 hpv) hn (I3.fpOk (Nat.le_refl _) nC)
  exact codeAny_compStart_list loop (wpAny_pyIter_gen (hgen _ s4a) loop)
end
end K27
namespace K27
open PySem PySem.Spec L2
open PyProof.Rows hiding St
local macro_rules | `(tactic| walk_at "td") => `(tactic| first | assumption | exact Td.int _ | exact Td.str _ | exact Td.bl _ | exact Td.non)
local macro_rules | `(tactic| walk_at "bq") => `(tactic| first | exact rfl | assumption | decide)
local macro_rules | `(tactic| walk_at "kb") => `(tactic| first | exact kii | exact ksi | exact kti | exact kib | exact kss | exact kis | exact kts | exact ktt | exact kst | exact kit)
local macro_rules | `(tactic| walk_at "ev") => `(tactic| first
  | with_reducible exact ev_int
  | with_reducible exact ev_str
  | with_reducible exact ev_bl
  | with_reducible exact ev_non
  | ((with_reducible refine' ev_var ?e ?t); (case e => exact rfl); (case t => walk_at "td"))
  | ((with_reducible refine' ev_ix ?a ?n ?z); (case a => walk_at "ev"); (case z => decide); (case n => exact rfl))
  | ((with_reducible refine' ev_isi ?a ?k); (case a => walk_at "ev"); (case k => walk_at "kb"))
  | ((with_reducible refine' ev_len ?a ?k); (case a => walk_at "ev"); (case k => exact rfl))
  | ((with_reducible refine' ev_cmpI ?a ?b ?r); (case a => walk_at "ev"); (case b => walk_at "ev"); (case r => walk_at "bq"))
  | ((with_reducible refine' ev_I0 ?a ?b ?r); (case a => walk_at "ev"); (case b => walk_at "ev"); (case r => exact rfl))
  | ((with_reducible refine' ev_eqS ?a ?b ?r); (case a => walk_at "ev"); (case b => walk_at "ev"); (case r => walk_at "bq"))
  | ((with_reducible refine' ev_eqI ?a ?b ?r); (case a => walk_at "ev"); (case b => walk_at "ev"); (case r => walk_at "bq"))
  | ((with_reducible refine' ev_neI ?a ?b ?r); (case a => walk_at "ev"); (case b => walk_at "ev"); (case r => walk_at "bq"))
  | ((with_reducible refine' ev_notV ?a ?r); (case a => walk_at "ev"); (case r => walk_at "bq"))
  | ((with_reducible refine' ev_chain ?a ?b ?c ?r); (case a => walk_at "ev"); (case b => walk_at "ev"); (case c => walk_at "ev"); (case r => walk_at "bq"))
  | ((with_reducible refine' ev_tup ?a ?l); (case a => walk_at "ea"); (case l => (show _ ≤ _; decide))))
local macro_rules | `(tactic| walk_at "ea") => `(tactic| first
  | with_reducible exact ea_nil
  | ((with_reducible refine' ea_cons ?a ?b); (case a => walk_at "ev"); (case b => walk_at "ea")))
local macro_rules | `(tactic| walk_at "et") => `(tactic| first
  | ((with_reducible refine' et_notI ?a ?r); (case a => walk_at "et"); (case r => walk_at "bq"))
  | ((with_reducible refine' et_is ?a); (case a => walk_at "ev"))
  | ((with_reducible refine' et_isB ?a); (case a => walk_at "ev"))
  | ((with_reducible refine' et_and ?a ?b ?c); (case a => walk_at "et"); (case b => (intro _; walk_at "et")); (case c => (intro z; first | exact z | (cases z; done) | rfl)))
  | ((with_reducible refine' et_or ?a ?b ?c); (case a => walk_at "et"); (case b => (intro _; walk_at "et")); (case c => (intro z; first | exact z | (cases z; done) | rfl))))
local macro_rules | `(tactic| walk_at "ev2") => `(tactic| first
  | walk_at "ev"
  | ((with_reducible refine' ev_inT ?a ?p ?s ?d ?f ?x ?b); (case a => walk_at "ev"); (case p => exact evv_c); (case s => assumption); (case d => exact rfl); (case f => exact rfl); (case x => exact rfl); (case b => walk_at "bq"))
  | ((with_reducible refine' ev_inU2 ?a ?p ?l ?d ?x ?f ?y ?b); (case a => walk_at "ev"); (case p => walk_at "ea"); (case l => (show _ ≤ _; decide)); (case d => exact rfl); (case x => exact rfl); (case f => exact rfl); (case y => exact rfl); (case b => walk_at "bq"))
  | ((with_reducible refine' ev_slA ?a ?l ?h ?r); (case a => walk_at "ev"); (case l => walk_at "eo"); (case h => walk_at "eo"); (case r => exact rfl)))
local macro_rules | `(tactic| walk_at "et2") => `(tactic| first
  | walk_at "et"
  | ((with_reducible refine' et_is ?a); (case a => walk_at "ev2"))
  | ((with_reducible refine' et_isB ?a); (case a => walk_at "ev2")))
local macro_rules | `(tactic| walk_at "eo") => `(tactic| first
  | with_reducible exact eo_none
  | ((with_reducible refine' eo_some ?a); (case a => walk_at "ev")))
section
open GenW
/-- y = [f(x) for x in g(..)] on one line, y a local; g hands the items of a list out -/
theorem ps_setLcG {X : Cx} {i : Nat} {y : Str} {py : Pos} {elt tg e0 : Expr} {es : List Expr} {scope : Scope} {y0 : Str} {j : Nat} {pos spos gp ipos : Pos} {ta : TA} {te tl : TE}
    {gx : Str} {f : Addr} {fd : FuncData} {st2 : Stmt} {N2 ps : List Str} {k : Nat} {tg2 iter2 e2 : Expr} {yp ypos fpos : Pos} {j2 : Nat}
    (hc : X.calm = true) (hN : X.N.Nodup) (hy : X.N[i]? = some y) (hyl : X.env.scope.names.lookup y = some .local) (hsw : swapsWith (.ListComp elt [⟨tg, .Call (.Name gx gp) (e0 :: es) [] ipos, [], 0⟩] scope pos) (some (.Name y py)) spos.line X.env = pure true)
    (ok : BlkOk X.N X.env.scope scope [(y0, j)]) (hnf : (scope.names.all fun y => decide (y.2 ≠ .free) && decide (y.2 ≠ .cell)) = true)
    (F : Fun X.K gx gx st2 f fd) (hbody : defBody st2 = [.For tg2 iter2 [.Expr (.Yield (some e2) yp) ypos] [] fpos]) (S : GScope N2 ps (defScope st2)) (hnc2 : ((defScope st2).names.all fun y => decide (y.2 ≠ .cell)) = true)
    (hb : Binds X.K fd ps []) (hr : Room (k + 2) X.A) (hgl : Gl X gx) (hm : X.mg gx = some (.ref f)) (ha : PA X (e0 :: es) ta)
    (hl : ∀ sc H1 cdv, PE (GX X N2 gx (defScope st2) f cdv sc H1 X.A.in1) iter2 tl) (hg2 : ∀ sc H1 cdv, PG (GX X N2 gx (defScope st2) f cdv sc H1 X.A.in1) tg2 (gName j2)) (he2 : ∀ sc H1 cdv, PE (GX X N2 gx (defScope st2) f cdv sc H1 X.A.in1) e2 (tVar j2)) (hj2 : j2 < N2.length)
    (hint : ∀ sc cdv, interactive (envOfC gx (defScope st2) sc f cdv) = false) (hs2 : ∀ sc cdv x, foldedSetIterable iter2 (envOfC gx (defScope st2) sc f cdv) x = pure x)
    (hg : ∀ (s : Shared) (H : Hp) (C : Addr) (cl : List (Str × Addr)) (fp : List Addr), PG (X.blk s H scope (compEnvC scope cl C X.env) fp) tg (gName j)) (he : ∀ (s : Shared) (H : Hp) (C : Addr) (cl : List (Str × Addr)) (fp : List Addr), PE (X.blk s H scope (compEnvC scope cl C X.env) fp) elt te)
    (hgo : ∀ (a : Addr) (go : Obj) (s : Shared) (v : Value) (Q : Unit → Shared → Prop), s.heap.get? a = some go → go.cls = .type "generator" → Q () s → wpAny (model X.prog X.w) X.A (letOwnedTupleGo tg (.ref a) v) Q noX s)
    (hs : ∀ x, foldedSetIterable (.Call (.Name gx gp) (e0 :: es) [] ipos) X.env x = pure x := by intro _; rfl) (hdb : (gx == ("__debug__" : Str)) = false := by decide) (hst : starEach (e0 :: es) X.env = (false, eval e0 X.env) :: starEach es X.env := by rfl) (hpl : (backTo ipos (starEach es X.env)).any (·.1) = false := by rfl) :
    PS X (.Assign [.Name y py] (.ListComp elt [⟨tg, .Call (.Name gx gp) (e0 :: es) [] ipos, [], 0⟩] scope pos) spos) (tAsg (tLcG X.K ta ps.length N2 tl te j) (gName i)) := by
  constructor
  intro pins s σ H D I h
  obtain ⟨oc, od, kV, doc, pm, an, cdv, ct, osl, efd, lk, hcd⟩ := F.ex
  subst efd
  rw [hbody] at lk hb
  have hnf' : ∀ y ∈ scope.names, y.2 ≠ .free ∧ y.2 ≠ .cell := fun z hz => by
    have q := List.all_eq_true.mp hnf z hz
    rw [Bool.and_eq_true] at q
    exact ⟨of_decide_eq_true q.1, of_decide_eq_true q.2⟩
  have hnc' : ∀ y ∈ (defScope st2).names, y.2 ≠ .cell := fun z hz => of_decide_eq_true (List.all_eq_true.mp hnc2 z hz)
  have core := lcG_core (pos := pos) (use := some (assign (.Name y py) X.env)) (Qf := fun _ s' => SP X pins D .next s') (pos' := firstIterPos [⟨tg, .Call (.Name gx gp) (e0 :: es) [] ipos, [], 0⟩] pos) hc hN I ok hnf' lk hcd S hnc' hb hr hgl hm F.kp ha
    (fun sc H1 => hl sc H1 cdv) (fun sc H1 => hg2 sc H1 cdv) (fun sc H1 => he2 sc H1 cdv) hj2 (fun sc => hint sc cdv) (fun sc x => hs2 sc cdv x) hg he hgo hs hdb hst hpl (Q := fun x H1 => gName i x σ H1 D.nx) h
    (fun L C s' m H' I' q hn fpk => by
      show wpAny _ _ (assign (.Name y py) X.env (.ref L)) _ _ _
      refine wpAny_assign_Name (store_ok2 (v := V.ref L) I' hN hy (.inl hyl) rfl (fun s2 I2 ⟨b, sb, hb2⟩ => ?_) (.inr hyl))
      have hbC : C ≠ b := hb2.elim (fun z => by rw [z]; exact fpk.2.1) (fun z e => fpk.2.2.2.2.1 y b z e.symm)
      refine ⟨m, hn.sameBut sb hbC, fun h3 sb3 => ⟨_, H', ?_, q⟩⟩
      exact I2.turned (it := C) (t' := s2.toks) (fun c o hcb e => (sb3.2 c hcb).trans e) fpk.1 fpk.2.1 fpk.2.2.2.1 fpk.2.2.2.2.1 fpk.2.2.2.2.2)
  rw [exec_Assign_Name_used _ _ _ _ hsw]
  refine wpAny_bind (wpAny_standAt (wpAny_bind (wpAny_bind (wpAny_mono core (fun _ s' hq => ?_) fun _ _ z => z))))
  exact wpAny_pure (wpAny_pure hq)
end
end K27
namespace K27
open PySem PySem.Spec L2
open PyProof.Rows hiding St
local macro_rules | `(tactic| walk_at "td") => `(tactic| first | assumption | exact Td.int _ | exact Td.str _ | exact Td.bl _ | exact Td.non)
local macro_rules | `(tactic| walk_at "bq") => `(tactic| first | exact rfl | assumption | decide)
local macro_rules | `(tactic| walk_at "kb") => `(tactic| first | exact kii | exact ksi | exact kti | exact kib | exact kss | exact kis | exact kts | exact ktt | exact kst | exact kit)
local macro_rules | `(tactic| walk_at "ev") => `(tactic| first
  | with_reducible exact ev_int
  | with_reducible exact ev_str
  | with_reducible exact ev_bl
  | with_reducible exact ev_non
  | ((with_reducible refine' ev_var ?e ?t); (case e => exact rfl); (case t => walk_at "td"))
  | ((with_reducible refine' ev_ix ?a ?n ?z); (case a => walk_at "ev"); (case z => decide); (case n => exact rfl))
  | ((with_reducible refine' ev_isi ?a ?k); (case a => walk_at "ev"); (case k => walk_at "kb"))
  | ((with_reducible refine' ev_len ?a ?k); (case a => walk_at "ev"); (case k => exact rfl))
  | ((with_reducible refine' ev_cmpI ?a ?b ?r); (case a => walk_at "ev"); (case b => walk_at "ev"); (case r => walk_at "bq"))
  | ((with_reducible refine' ev_I0 ?a ?b ?r); (case a => walk_at "ev"); (case b => walk_at "ev"); (case r => exact rfl))
  | ((with_reducible refine' ev_eqS ?a ?b ?r); (case a => walk_at "ev"); (case b => walk_at "ev"); (case r => walk_at "bq"))
  | ((with_reducible refine' ev_eqI ?a ?b ?r); (case a => walk_at "ev"); (case b => walk_at "ev"); (case r => walk_at "bq"))
  | ((with_reducible refine' ev_neI ?a ?b ?r); (case a => walk_at "ev"); (case b => walk_at "ev"); (case r => walk_at "bq"))
  | ((with_reducible refine' ev_notV ?a ?r); (case a => walk_at "ev"); (case r => walk_at "bq"))
  | ((with_reducible refine' ev_chain ?a ?b ?c ?r); (case a => walk_at "ev"); (case b => walk_at "ev"); (case c => walk_at "ev"); (case r => walk_at "bq"))
  | ((with_reducible refine' ev_tup ?a ?l); (case a => walk_at "ea"); (case l => (show _ ≤ _; decide))))
local macro_rules | `(tactic| walk_at "ea") => `(tactic| first
  | with_reducible exact ea_nil
  | ((with_reducible refine' ea_cons ?a ?b); (case a => walk_at "ev"); (case b => walk_at "ea")))
local macro_rules | `(tactic| walk_at "et") => `(tactic| first
  | ((with_reducible refine' et_notI ?a ?r); (case a => walk_at "et"); (case r => walk_at "bq"))
  | ((with_reducible refine' et_is ?a); (case a => walk_at "ev"))
  | ((with_reducible refine' et_isB ?a); (case a => walk_at "ev"))
  | ((with_reducible refine' et_and ?a ?b ?c); (case a => walk_at "et"); (case b => (intro _; walk_at "et")); (case c => (intro z; first | exact z | (cases z; done) | rfl)))
  | ((with_reducible refine' et_or ?a ?b ?c); (case a => walk_at "et"); (case b => (intro _; walk_at "et")); (case c => (intro z; first | exact z | (cases z; done) | rfl))))
local macro_rules | `(tactic| walk_at "ev2") => `(tactic| first
  | walk_at "ev"
  | ((with_reducible refine' ev_inT ?a ?p ?s ?d ?f ?x ?b); (case a => walk_at "ev"); (case p => exact evv_c); (case s => assumption); (case d => exact rfl); (case f => exact rfl); (case x => exact rfl); (case b => walk_at "bq"))
  | ((with_reducible refine' ev_inU2 ?a ?p ?l ?d ?x ?f ?y ?b); (case a => walk_at "ev"); (case p => walk_at "ea"); (case l => (show _ ≤ _; decide)); (case d => exact rfl); (case x => exact rfl); (case f => exact rfl); (case y => exact rfl); (case b => walk_at "bq"))
  | ((with_reducible refine' ev_slA ?a ?l ?h ?r); (case a => walk_at "ev"); (case l => walk_at "eo"); (case h => walk_at "eo"); (case r => exact rfl)))
local macro_rules | `(tactic| walk_at "et2") => `(tactic| first
  | walk_at "et"
  | ((with_reducible refine' et_is ?a); (case a => walk_at "ev2"))
  | ((with_reducible refine' et_isB ?a); (case a => walk_at "ev2")))
local macro_rules | `(tactic| walk_at "eo") => `(tactic| first
  | with_reducible exact eo_none
  | ((with_reducible refine' eo_some ?a); (case a => walk_at "ev")))
/-! ## L. The law's helpers: the deck -/
def Dk (a c : Addr) (m : Nat) (H : Hp) : Prop := ∃ (n : Int) (cs : List Int), H a = some (.lst [.ref c, .int n]) ∧ H c = some (.lst (cs.map V.int)) ∧ (∀ x ∈ cs, 0 ≤ x) ∧ cs.length ≤ 63 ∧ 0 ≤ n ∧ n ≤ m
section
variable {K : PySem.W.Frag} {σ : St} {H J : Hp} {te ta tb tc : TE} {a c : Addr} {m : Nat} {D : Ends}
theorem Dk.mono (g : Gr H J) (h : Dk a c m H) : Dk a c m J := by
  obtain ⟨n, cs, h1, h2, r⟩ := h
  exact ⟨n, cs, g.get h1, g.get h2, r⟩
theorem Dk.le {k : Nat} (h : Dk a c m H) (l : m ≤ k) : Dk a c k H := by
  obtain ⟨n, cs, h1, h2, h3, h4, h5, h6⟩ := h
  exact ⟨n, cs, h1, h2, h3, h4, h5, by omega⟩
theorem evv_ixL {i : Int} {p : Addr} {vs : List V} {v : V} (ha : EvV ta σ H (.ref p)) (hp : H p = some (.lst vs)) (hn : vs[i.toNat]? = some v) (h0 : 0 ≤ i := by decide) : EvV (tOp (rIxL K) ta (tC (.int i))) σ H v := fun H1 g Q q =>
  ha H1 g _ fun H2 g2 => by
    obtain ⟨n, rfl⟩ := Int.eq_ofNat_of_zero_le h0
    exact ⟨p, vs, _, v, rfl, rfl, SqL.of ((g.trans g2).get hp), atI_get hn, q H2 g2⟩
theorem evv_ixLv {n : Nat} {p : Addr} {vs : List V} {v : V} (ha : EvV ta σ H (.ref p)) (hb : EvV tb σ H (.int (n : Int))) (hp : H p = some (.lst vs)) (hn : vs[n]? = some v) : EvV (tOp (rIxL K) ta tb) σ H v := fun H1 g Q q =>
  ha H1 g _ fun H2 g2 => hb H2 (g.trans g2) _ fun H3 g3 => ⟨p, vs, _, v, rfl, rfl, SqL.of (((g.trans g2).trans g3).get hp), atI_get hn, q H3 (g2.trans g3)⟩
theorem ixN_n {n j : Nat} (hj : j < n) : ixN n (j : Int) = some j := by
  unfold ixN
  rw [if_pos (Int.natCast_nonneg j), if_pos (by omega), Int.toNat_natCast]
/-- o[i] = e -/
theorem q_setIx {tk : TS} {i : Nat} {p : Addr} {vs : List V} {v : V} {ti : TE} (he : EvV te σ H v) (ho : EvV ta σ H (.ref p)) (hi : EvV ti σ H (.int (i : Int))) (hp : H p = some (.lst vs)) (hlt : i < vs.length) (k : ∀ J, Gr H J → tk D σ (upd J p (.lst (vs.set i v)))) :
    tSeq (tAsg te (gSub ta ti rSetL)) tk D σ H :=
  he H Mv.rfl _ fun H1 g1 => ho H1 g1 _ fun H2 g2 => hi H2 (g1.trans g2) _ fun H3 g3 => ⟨p, vs, _, i, rfl, rfl, ((g1.trans g2).trans g3).get hp, ixN_n hlt, k H3 ((g1.trans g2).trans g3)⟩
end
section
variable {K : PySem.W.Frag} {σ : St} {H : Hp} {D : Ends}
/-- a, b = (a pair) -/
theorem q_tup2 {tk : TS} {i j : Nat} {t : TA} {d e : PyData} (h : EvA t σ H [d, e]) (k : ∀ x y J, Gr H J → Td J x d → Td J y e → tk D ((σ.set i (some x)).set j (some y)) J) : tSeq (tAsg (tTup t) (gTup K 2 (gCons (gName i) (gCons (gName j) gNil)))) tk D σ H :=
  h H Mv.rfl _ fun vs J g ts => by
    obtain ⟨x, y, rfl, tx, ty⟩ := ts.i2
    refine ⟨sizeOk (by show 2 ≤ 1000; decide), fun p hp => ?_⟩
    have gn := Gr.new (o := .tup [x, y]) hp
    exact ⟨p, _, rfl, SqT.of upd_same, rfl, x, _, rfl, y, _, rfl, rfl, k x y _ (g.trans gn) (tx.mono gn.tup) (ty.mono gn.tup)⟩
end
def spDraw (a c : Addr) : Sp := fun vs H Q _ => ∃ (many : Int) (m : Nat), vs = [.ref a, .int many] ∧ 0 < many ∧ many ≤ 2 ^ 40 ∧ m ≤ 2 ^ 40 ∧ Dk a c m H ∧ ∀ (r : Int) J, 0 ≤ r → r < many → Mv [a, c] H J → Dk a c (m + 1) J → Q (.int r) J
section
variable {P : Program} {w : World} {K : PySem.W.Frag} {mg : Str → Option Value} {base : Heap}
abbrev s__law_draw : Stmt := top 50
theorem sc__law_draw : FnScope ["_law_deck_here", "_law_many", "_law_cell", "_law_at", "_law_mixed"] ["_law_deck_here", "_law_many"] (defScope s__law_draw) := ⟨rfl, rfl, rfl, by decide +kernel, rfl, by decide +kernel, by decide +kernel⟩
theorem df_draw (F : Fn K mg "_law_draw" s__law_draw ["_law_deck_here", "_law_many"]) (T : Gb K w mg) (a c : Addr) : Df P w K mg base 1 "_law_draw" ["_law_deck_here", "_law_many"] (spDraw a c) := by
  refine df_of F sc__law_draw (fun vs H Q E h => ?_) (fun f cdv A outer s H vs Q E hr h => ?_)
  · obtain ⟨_, _, rfl, _⟩ := h
    rfl
  obtain ⟨many, m, rfl, hm0, hm1, hm2, ⟨n, cs, h1, h2, h3, h4, h5, h6⟩, q⟩ := h
  have hac : a ≠ c := fun z => by
    subst z
    rw [h1] at h2
    cases cs with
    | nil => cases h2
    | cons x r => injection h2 with h2; injection h2 with h2; injection h2 with h2; cases h2
  refine ⟨_, (pss_cons (ps_asg (pe_op op_add (pe_ix (k_ixL K) (pv 0) pe_int (fun _ _ => rfl)) pe_int) (pg_sub (pv 0) pe_int set_list)) (pss_cons (ps_asg (pe_tup (pa_cons pe_int (pa_cons (pe_un un_neg pe_int) pa_nil))) (pg_tup (by rfl) (pgs_cons (pg_name (i := 2) sc__law_draw.nd rfl (Or.inl rfl)) (pgs_cons (pg_name (i := 3) sc__law_draw.nd rfl (Or.inl rfl)) pgs_nil)))) (pss_cons (ps_if (pt_cmpR op_gt (pe_callB (id := "len") (k_len K) (by rfl) T.len_ (by decide +kernel) (pa_cons (pe_ix (k_ixL K) (pv 0) pe_int (fun _ _ => rfl)) pa_nil)) pe_int (nomark _)) (pss_cons (ps_set (i := 3) sc__law_draw.nd rfl (Or.inl rfl) (pe_op op_mod (pe_callTy (T := "int") call_int1 (by rfl) T.int_ (by decide +kernel) (pa_cons (pe_ix (k_ixL K) (pv 0) pe_int (fun _ _ => rfl)) pa_nil)) (pe_callB (id := "len") (k_len K) (by rfl) T.len_ (by decide +kernel) (pa_cons (pe_ix (k_ixL K) (pv 0) pe_int (fun _ _ => rfl)) pa_nil)))) (pss_one (ps_set (i := 2) sc__law_draw.nd rfl (Or.inl rfl) (pe_ix (k_ixL K) (pe_ix (k_ixL K) (pv 0) pe_int (fun _ _ => rfl)) (pv 3) (fun _ _ => rfl))))) pss_nil) (pss_cons (ps_if (pt_cmpR op_ge (pv 2) (pe_op op_pow pe_int pe_int) (nomark _)) (pss_cons (ps_asg (pe_op op_fdivW (pe_callTy (T := "int") call_int1 (by rfl) T.int_ (by decide +kernel) (pa_cons (pv 2) pa_nil)) (pv 1)) (pg_sub (pe_ix (k_ixL K) (pv 0) pe_int (fun _ _ => rfl)) (pv 3) set_list)) (pss_one (ps_ret (pe_op op_mod (pe_callTy (T := "int") call_int1 (by rfl) T.int_ (by decide +kernel) (pa_cons (pv 2) pa_nil)) (pv 1))))) pss_nil) (pss_cons (ps_set (i := 4) sc__law_draw.nd rfl (Or.inl rfl) (pe_op op_add (pe_op op_add (pe_op op_mod (pe_callTy (T := "int") call_int1 (by rfl) T.int_ (by decide +kernel) (pa_cons (pv 2) pa_nil)) pe_int) (pe_op op_mul pe_int (pe_ix (k_ixL K) (pv 0) pe_int (fun _ _ => rfl)))) pe_int)) (pss_one (ps_ret (pe_op op_mod (pe_callTy (T := "int") call_int1 (by rfl) T.int_ (by decide +kernel) (pa_cons (pe_op op_mod (pe_callTy (T := "int") call_int1 (by rfl) T.int_ (by decide +kernel) (pa_cons (pe_op op_pow (pv 4) pe_int) pa_nil)) pe_int) pa_nil)) (pv 1))))))))), ?_⟩
  have ixn : ∀ {J : Hp} {σ : St} {n : Int}, σ[0]? = some (some (.ref a)) → J a = some (.lst [.ref c, .int n]) → EvV (tOp (rIxL K) (tVar 0) (tC (.int 1))) σ J (.int n) := fun hs hj => evv_ixL (evv_var hs) hj rfl
  have ixc : ∀ {J : Hp} {σ : St} {n : Int}, σ[0]? = some (some (.ref a)) → J a = some (.lst [.ref c, .int n]) → EvV (tOp (rIxL K) (tVar 0) (tC (.int 0))) σ J (.ref c) := fun hs hj => evv_ixL (evv_var hs) hj rfl
  refine q_setIx (v := .int (n + 1)) (i := 1) (fun H1 g Q q => ?_) (evv_var rfl) evv_c h1 (by show 1 < 2; decide) fun J g => ?_
  · exact (ev_I0 (r := n + 1) ((ixn rfl h1).d (.int n)) ev_int rfl : EvD _ [some (.ref a), some (.int many), none, none, none] H _) H1 g _ fun v d H2 e g2 t => by
      subst e
      have e := t.int_inv
      subst e
      exact q H2 g2
  have m1 : Mv [a, c] H (upd J a (.lst [.ref c, .int (n + 1)])) := g.up.trans (Mv.put (g.get h1) (by simp) lst_tup)
  have a1 : upd J a (.lst [.ref c, .int (n + 1)]) a = some (.lst [.ref c, .int (n + 1)]) := upd_same
  have c1 : upd J a (.lst [.ref c, .int (n + 1)]) c = some (.lst (cs.map V.int)) := by rw [upd_ne hac.symm]; exact g.get h2
  show tSeq _ _ _ _ (upd J a (.lst [.ref c, .int (n + 1)]))
  generalize upd J a (.lst [.ref c, .int (n + 1)]) = J1 at m1 a1 c1
  refine q_tup2 (ea_cons ev_int (ea_cons (fun H1 g Q q => ⟨1, rfl, q _ _ H1 rfl Mv.rfl (.int (-1))⟩ : EvD _ _ _ (.int (-1))) ea_nil)) fun x y J2 g2 tx ty => ?_
  have ex := tx.int_inv
  have ey := ty.int_inv
  subst ex ey
  have a2 := g2.get a1
  have c2 := g2.get c1
  have m2 := m1.trans g2.up
  have lenc : ∀ {J : Hp} {σ : St}, σ[0]? = some (some (.ref a)) → J a = some (.lst [.ref c, .int (n + 1)]) → J c = some (.lst (cs.map V.int)) → EvD (tCB (rLenQ K) (tCons (tOp (rIxL K) (tVar 0) (tC (.int 0))) tNil)) σ J (.int cs.length) := fun {J σ} hs ha hc => by
    have z := ev_lenV (K := K) (ixc hs ha) hc
    rw [List.length_map] at z
    exact z
  -- behind the choice of the cell
  have rest : ∀ (x : Int) (at_ : Int), 0 ≤ x → (10 ^ 18 ≤ x → ∃ j : Nat, at_ = (j : Int) ∧ cs[j]? = some x) → ∀ J3, Gr J2 J3 → tSeq (tIfS (tTest (tOp (rI0 fun i j => .bl (decide (i ≥ j))) (tVar 2) (tOp (rI CPow fun i j => .int (i ^ j.toNat)) (tC (.int 10)) (tC (.int 18)))))
      (tSeq (tAsg (tOp (rI CDivW fun i j => .int (i / j)) (tCB rInt1 (tCons (tVar 2) tNil)) (tVar 1)) (gSub (tOp (rIxL K) (tVar 0) (tC (.int 0))) (tVar 3) rSetL)) (tRet (tOp (rI (fun _ j => 0 < j) fun i j => .int (i % j)) (tCB rInt1 (tCons (tVar 2) tNil)) (tVar 1)))) tNext)
      (tSeq (tAsg (tOp (rI0 fun i j => .int (i + j)) (tOp (rI0 fun i j => .int (i + j)) (tOp (rI (fun _ j => 0 < j) fun i j => .int (i % j)) (tCB rInt1 (tCons (tVar 2) tNil)) (tC (.int 2147483563))) (tOp (rI CMul fun i j => .int (i * j)) (tC (.int 8117)) (tOp (rIxL K) (tVar 0) (tC (.int 1))))) (tC (.int 3))) (gName 4))
        (tRet (tOp (rI (fun _ j => 0 < j) fun i j => .int (i % j)) (tCB rInt1 (tCons (tOp (rI (fun _ j => 0 < j) fun i j => .int (i % j)) (tCB rInt1 (tCons (tOp (rI CPow fun i j => .int (i ^ j.toNat)) (tVar 4) (tC (.int 5))) tNil)) (tC (.int 2147483629))) tNil)) (tVar 1))))
      { nx := fun _ H' => Q .non H', rt := Q } [some (.ref a), some (.int many), some (.int x), some (.int at_), none] J3 := fun x at_ hx0 hbig J3 g3 => by
    have a3 := g3.get a2
    have c3 := g3.get c2
    have m3 := m2.trans g3.up
    refine q_if Mv.rfl (P := fun b => b = decide (x ≥ 10 ^ 18)) (et_is (ev_cmpI (ev_var rfl (.int x)) (ev_I (r := 10 ^ 18) ev_int ev_int ⟨by decide, by decide, by decide⟩ rfl) rfl)) (fun hb J4 g4 => ?_) fun hb J4 g4 => ?_
    · have hb := of_decide_eq_true hb.symm
      obtain ⟨j, ej, hj⟩ := hbig hb
      subst ej
      have a4 := g4.get a3
      have c4 := g4.get c3
      have hjl := (List.getElem?_eq_some_iff.mp hj).1
      refine q_setIx (v := .int (x / many)) (i := j) (fun H1 g Q q => ?_) (ixc rfl a4) (evv_var rfl) c4 (by rw [List.length_map]; exact hjl) fun J5 g5 => ?_
      · exact (ev_I (i := x) (j := many) (r := x / many) (ev_intI (ev_var (i := 2) rfl (.int x))) (ev_var (i := 1) rfl (.int many)) ⟨hm0, by
            have h7 : many.natAbs < 2 ^ 41 := by omega
            exact Nat.lt_of_lt_of_le (PySem.Flt.log2_lt_of (by decide) h7) (by decide)⟩ rfl : EvD _ [some (.ref a), some (.int many), some (.int x), some (.int (j : Int)), none] J4 _) H1 g _ fun v d H2 e g2 t => by
          subst e
          have e := t.int_inv
          subst e
          exact q H2 g2
      · refine s_ret Mv.rfl (P := fun z => z = .int (x % many)) (ev_I (i := x) (j := many) (ev_intI (ev_var rfl (.int x))) (ev_var rfl (.int many)) hm0 rfl) fun v d J6 e g6 t => ?_
        subst e
        have e := t.int_inv
        subst e
        have c5 := g5.get c4
        have m5 : Mv [a, c] H (upd J5 c (.lst ((cs.map V.int).set j (.int (x / many))))) := ((m3.trans g4.up).trans g5.up).trans (Mv.put c5 (by simp) lst_tup)
        refine q (x % many) J6 (Int.emod_nonneg _ (by omega)) (Int.emod_lt_of_pos _ hm0) (m5.trans g6.up) (Dk.mono g6 ⟨n + 1, cs.set j (x / many), ?_, ?_, fun z hz => ?_, by rw [List.length_set]; exact h4, by omega, by omega⟩)
        · rw [upd_ne hac]; exact g5.get a4
        · rw [upd_same, List.map_set]
        · rcases List.mem_or_eq_of_mem_set hz with hz | hz
          · exact h3 z hz
          · rw [hz]; exact Int.ediv_nonneg hx0 (by omega)
    · have a4 := g4.get a3
      have c4 := g4.get c3
      have hmod := Int.emod_nonneg x (show (2147483563 : Int) ≠ 0 by decide)
      have hmod2 := Int.emod_lt_of_pos x (show (0 : Int) < 2147483563 by decide)
      refine q_set (P := fun z => z = .int (x % 2147483563 + 8117 * (n + 1) + 3)) Mv.rfl (ev_I0 (i := x % 2147483563 + 8117 * (n + 1)) (ev_I0 (i := x % 2147483563) (j := 8117 * (n + 1)) (ev_I (i := x) (j := 2147483563) (ev_intI (ev_var rfl (.int x))) ev_int (by decide) rfl) (ev_I (i := 8117) (j := n + 1) ev_int ((ixn rfl a4).d (.int _)) (.inl (by decide)) rfl) rfl) ev_int rfl) fun v5 d5 J5 e5 g5 t5 => ?_
      subst e5
      have e5 := t5.int_inv
      subst e5
      generalize hmx : x % 2147483563 + 8117 * (n + 1) + 3 = mx
      have hmx1 : 0 ≤ mx := by omega
      have hmx2 : mx.natAbs < 2 ^ 64 := by omega
      refine s_ret Mv.rfl (P := fun z => z = .int (mx ^ 5 % 2147483629 % many)) (ev_I (i := mx ^ 5 % 2147483629) (j := many) (ev_intI (ev_I (i := mx ^ 5) (j := 2147483629) (ev_intI (ev_I (i := mx) (j := 5) (ev_var rfl (.int mx)) ev_int ⟨by decide, by decide, hmx2⟩ rfl)) ev_int (by decide) rfl)) (ev_var rfl (.int many)) hm0 rfl) fun v d J6 e g6 t => ?_
      subst e
      have e := t.int_inv
      subst e
      exact q _ J6 (Int.emod_nonneg _ (by omega)) (Int.emod_lt_of_pos _ hm0) ((((m3.trans g4.up).trans g5.up)).trans g6.up) (Dk.mono (g5.trans g6) ⟨n + 1, cs, a4, c4, h3, h4, by omega, by omega⟩)
  refine q_if Mv.rfl (P := fun b => b = decide ((cs.length : Int) > 0)) (et_is (ev_cmpI (lenc rfl a2 c2) ev_int rfl)) (fun hb J3 g3 => ?_) fun hb J3 g3 => rest 0 (-1) (by decide) (fun z => absurd z (by decide)) J3 g3
  have hb := of_decide_eq_true hb.symm
  have a3 := g3.get a2
  have c3 := g3.get c2
  have hl0 : (0 : Int) < cs.length := by omega
  obtain ⟨j, hj⟩ : ∃ j : Nat, (n + 1) % (cs.length : Int) = (j : Int) := ⟨((n + 1) % (cs.length : Int)).toNat, (Int.toNat_of_nonneg (Int.emod_nonneg _ (by omega))).symm⟩
  have hjl : j < cs.length := by have := Int.emod_lt_of_pos (n + 1) hl0; omega
  refine q_set (P := fun z => z = .int (j : Int)) Mv.rfl (by rw [← hj]; exact ev_I (i := n + 1) (j := (cs.length : Int)) (ev_intI ((ixn rfl a3).d (.int _))) (lenc rfl a3 c3) hl0 rfl) fun v4 d4 J4 e4 g4 t4 => ?_
  subst e4
  have e4 := t4.int_inv
  subst e4
  obtain ⟨x, hx⟩ : ∃ x, cs[j]? = some x := ⟨_, List.getElem?_eq_getElem hjl⟩
  have a4 := g4.get a3
  have c4 := g4.get c3
  refine s_set Mv.rfl (P := fun z => z = .int x) (EvV.d (evv_ixLv (ixc rfl a4) (evv_var rfl) c4 (by rw [List.getElem?_map, hx]; rfl)) (.int x)) fun v5 d5 J5 e5 g5 t5 => ?_
  subst e5
  have e5 := t5.int_inv
  subst e5
  exact rest x j (h3 x (List.mem_of_getElem? hx)) (fun _ => ⟨j, rfl, hx⟩) J5 ((g3.trans g4).trans g5)
end
end K27
namespace K27
open PySem PySem.Spec L2
open PyProof.Rows hiding St
local macro_rules | `(tactic| walk_at "td") => `(tactic| first | assumption | exact Td.int _ | exact Td.str _ | exact Td.bl _ | exact Td.non)
local macro_rules | `(tactic| walk_at "bq") => `(tactic| first | exact rfl | assumption | decide)
local macro_rules | `(tactic| walk_at "kb") => `(tactic| first | exact kii | exact ksi | exact kti | exact kib | exact kss | exact kis | exact kts | exact ktt | exact kst | exact kit)
local macro_rules | `(tactic| walk_at "ev") => `(tactic| first
  | with_reducible exact ev_int
  | with_reducible exact ev_str
  | with_reducible exact ev_bl
  | with_reducible exact ev_non
  | ((with_reducible refine' ev_var ?e ?t); (case e => exact rfl); (case t => walk_at "td"))
  | ((with_reducible refine' ev_ix ?a ?n ?z); (case a => walk_at "ev"); (case z => decide); (case n => exact rfl))
  | ((with_reducible refine' ev_isi ?a ?k); (case a => walk_at "ev"); (case k => walk_at "kb"))
  | ((with_reducible refine' ev_len ?a ?k); (case a => walk_at "ev"); (case k => exact rfl))
  | ((with_reducible refine' ev_cmpI ?a ?b ?r); (case a => walk_at "ev"); (case b => walk_at "ev"); (case r => walk_at "bq"))
  | ((with_reducible refine' ev_I0 ?a ?b ?r); (case a => walk_at "ev"); (case b => walk_at "ev"); (case r => exact rfl))
  | ((with_reducible refine' ev_eqS ?a ?b ?r); (case a => walk_at "ev"); (case b => walk_at "ev"); (case r => walk_at "bq"))
  | ((with_reducible refine' ev_eqI ?a ?b ?r); (case a => walk_at "ev"); (case b => walk_at "ev"); (case r => walk_at "bq"))
  | ((with_reducible refine' ev_neI ?a ?b ?r); (case a => walk_at "ev"); (case b => walk_at "ev"); (case r => walk_at "bq"))
  | ((with_reducible refine' ev_notV ?a ?r); (case a => walk_at "ev"); (case r => walk_at "bq"))
  | ((with_reducible refine' ev_chain ?a ?b ?c ?r); (case a => walk_at "ev"); (case b => walk_at "ev"); (case c => walk_at "ev"); (case r => walk_at "bq"))
  | ((with_reducible refine' ev_tup ?a ?l); (case a => walk_at "ea"); (case l => (show _ ≤ _; decide))))
local macro_rules | `(tactic| walk_at "ea") => `(tactic| first
  | with_reducible exact ea_nil
  | ((with_reducible refine' ea_cons ?a ?b); (case a => walk_at "ev"); (case b => walk_at "ea")))
local macro_rules | `(tactic| walk_at "et") => `(tactic| first
  | ((with_reducible refine' et_notI ?a ?r); (case a => walk_at "et"); (case r => walk_at "bq"))
  | ((with_reducible refine' et_is ?a); (case a => walk_at "ev"))
  | ((with_reducible refine' et_isB ?a); (case a => walk_at "ev"))
  | ((with_reducible refine' et_and ?a ?b ?c); (case a => walk_at "et"); (case b => (intro _; walk_at "et")); (case c => (intro z; first | exact z | (cases z; done) | rfl)))
  | ((with_reducible refine' et_or ?a ?b ?c); (case a => walk_at "et"); (case b => (intro _; walk_at "et")); (case c => (intro z; first | exact z | (cases z; done) | rfl))))
local macro_rules | `(tactic| walk_at "ev2") => `(tactic| first
  | walk_at "ev"
  | ((with_reducible refine' ev_inT ?a ?p ?s ?d ?f ?x ?b); (case a => walk_at "ev"); (case p => exact evv_c); (case s => assumption); (case d => exact rfl); (case f => exact rfl); (case x => exact rfl); (case b => walk_at "bq"))
  | ((with_reducible refine' ev_inU2 ?a ?p ?l ?d ?x ?f ?y ?b); (case a => walk_at "ev"); (case p => walk_at "ea"); (case l => (show _ ≤ _; decide)); (case d => exact rfl); (case x => exact rfl); (case f => exact rfl); (case y => exact rfl); (case b => walk_at "bq"))
  | ((with_reducible refine' ev_slA ?a ?l ?h ?r); (case a => walk_at "ev"); (case l => walk_at "eo"); (case h => walk_at "eo"); (case r => exact rfl)))
local macro_rules | `(tactic| walk_at "et2") => `(tactic| first
  | walk_at "et"
  | ((with_reducible refine' et_is ?a); (case a => walk_at "ev2"))
  | ((with_reducible refine' et_isB ?a); (case a => walk_at "ev2")))
local macro_rules | `(tactic| walk_at "eo") => `(tactic| first
  | with_reducible exact eo_none
  | ((with_reducible refine' eo_some ?a); (case a => walk_at "ev")))
/-! ### what the helpers do: evaluations that draw from the deck -/
inductive Arg where
  | d (x : PyData) | l (xs : List PyData)
def RA (S : List Addr) (H : Hp) (v : V) : Arg → Prop
  | .d x => Td H v x
  | .l xs => ∃ p vs, v = .ref p ∧ H p = some (.lst vs) ∧ TdA H vs xs ∧ p ∉ S
inductive RAs (S : List Addr) (H : Hp) : List V → List Arg → Prop
  | nil : RAs S H [] []
  | cons {v : V} {vs : List V} {x : Arg} {xs : List Arg} : RA S H v x → RAs S H vs xs → RAs S H (v :: vs) (x :: xs)
theorem RA.mono {S : List Addr} {H J : Hp} {v : V} (g : Mv S H J) : ∀ {x : Arg}, RA S H v x → RA S J v x
  | .d _, h => Td.mono g.tup h
  | .l _, ⟨p, vs, e, h1, h2, h3⟩ => ⟨p, vs, e, g.keep p _ h3 h1, h2.mono g.tup, h3⟩
theorem RAs.mono {S : List Addr} {H J : Hp} (g : Mv S H J) : ∀ {vs : List V} {xs : List Arg}, RAs S H vs xs → RAs S J vs xs
  | _, _, .nil => .nil
  | _, _, .cons h t => .cons (RA.mono g h) (RAs.mono g t)
theorem RA.sub {S U : List Addr} {H : Hp} {v : V} (hs : ∀ b ∈ U, b ∈ S) : ∀ {x : Arg}, RA S H v x → RA U H v x
  | .d _, h => h
  | .l _, ⟨p, vs, e, h1, h2, h3⟩ => ⟨p, vs, e, h1, h2, fun z => h3 (hs p z)⟩
theorem RAs.sub {S U : List Addr} {H : Hp} (hs : ∀ b ∈ U, b ∈ S) : ∀ {vs : List V} {xs : List Arg}, RAs S H vs xs → RAs U H vs xs
  | _, _, .nil => .nil
  | _, _, .cons h t => .cons (RA.sub hs h) (RAs.sub hs t)
theorem RAs.length {S : List Addr} {H : Hp} : ∀ {vs : List V} {xs : List Arg}, RAs S H vs xs → vs.length = xs.length
  | _, _, .nil => rfl
  | _, _, .cons _ t => by rw [List.length_cons, List.length_cons, RAs.length t]
/-- what else stands while one draws -/
structure Bd (S : List Addr) (a c : Addr) (R : Hp → Prop) : Prop where
  ha : a ∈ S
  hc : c ∈ S
  st : ∀ H J, Mv [a, c] H J → R H → R J
  fr : ∀ H D o, D ∉ S → R H → R (upd H D o)
abbrev Wk (a c : Addr) (R : Hp → Prop) (m : Nat) (H : Hp) : Prop := Dk a c m H ∧ R H
theorem Bd.grow {S : List Addr} {a c : Addr} {R : Hp → Prop} (B : Bd S a c R) {m : Nat} {H J : Hp} (g : Gr H J) (w : Wk a c R m H) : Wk a c R m J := ⟨w.1.mono g, B.st H J g.up w.2⟩
theorem Bd.sub {S : List Addr} {a c : Addr} {R : Hp → Prop} (B : Bd S a c R) : ∀ b ∈ [a, c], b ∈ S := fun b hb => by
  simp only [List.mem_cons, List.not_mem_nil, or_false] at hb
  rcases hb with e | e <;> subst e
  · exact B.ha
  · exact B.hc
theorem bd0 {a c : Addr} : Bd [a, c] a c fun _ => True := ⟨by simp, by simp, fun _ _ _ h => h, fun _ _ _ _ h => h⟩
/-- another list is changed -/
theorem Bd.put {S : List Addr} {a c : Addr} {R : Hp → Prop} (B : Bd S a c R) {m : Nat} {J : Hp} {D : Addr} {o : HO} (hD : D ∉ S) (w : Wk a c R m J) : Wk a c R m (upd J D o) := by
  obtain ⟨⟨n, cs, h1, h2, r⟩, w2⟩ := w
  refine ⟨⟨n, cs, ?_, ?_, r⟩, B.fr J D o hD w2⟩
  · rw [upd_ne (fun z => hD (by rw [← z]; exact B.ha))]; exact h1
  · rw [upd_ne (fun z => hD (by rw [← z]; exact B.hc))]; exact h2
def EvK (S : List Addr) (a c : Addr) (R : Hp → Prop) (m m' : Nat) (te : TE) (σ : St) (H : Hp) (P : PyData → Prop) : Prop :=
  ∀ H1, Mv S H H1 → Wk a c R m H1 → ∀ Q : VK, (∀ v d H2, P d → Mv S H1 H2 → Wk a c R m' H2 → Td H2 v d → Q v H2) → te σ H1 Q
def EvKA (S : List Addr) (a c : Addr) (R : Hp → Prop) (m m' : Nat) (ta : TA) (σ : St) (H : Hp) (P : List Arg → Prop) : Prop :=
  ∀ H1, Mv S H H1 → Wk a c R m H1 → ∀ Q : List V → Hp → Prop, (∀ vs xs H2, P xs → Mv S H1 H2 → Wk a c R m' H2 → RAs S H2 vs xs → Q vs H2) → ta σ H1 Q
/-- a new list -/
def EvKL (S : List Addr) (a c : Addr) (R : Hp → Prop) (m m' : Nat) (te : TE) (σ : St) (H : Hp) (P : List PyData → Prop) : Prop :=
  ∀ H1, Mv S H H1 → Wk a c R m H1 → ∀ Q : VK, (∀ p vs ds H2, P ds → H1 p = none → Mv S H1 H2 → Wk a c R m' H2 → H2 p = some (.lst vs) → TdA H2 vs ds → Q (.ref p) H2) → te σ H1 Q
def EvKB (S : List Addr) (a c : Addr) (R : Hp → Prop) (m m' : Nat) (t : TT) (σ : St) (H : Hp) (P : Bool → Prop) : Prop :=
  ∀ H1, Mv S H H1 → Wk a c R m H1 → ∀ Q : Bool → Hp → Prop, (∀ b H2, P b → Mv S H1 H2 → Wk a c R m' H2 → Q b H2) → t σ H1 Q
section
variable {S : List Addr} {a c : Addr} {R : Hp → Prop} {K : PySem.W.Frag} {σ : St} {H H0 : Hp} {te ta tb tc : TE} {t u : TT} {ts tr : TA} {P P' : PyData → Prop} {m m1 m2 m3 : Nat} {D : Ends}
theorem EvK.imp (h : EvK S a c R m m1 te σ H P) (i : ∀ d, P d → P' d) : EvK S a c R m m1 te σ H P' := fun H1 g w Q q => h H1 g w Q fun v d H2 p => q v d H2 (i d p)
theorem EvK.le (h : EvK S a c R m m1 te σ H P) (l : m1 ≤ m2) : EvK S a c R m m2 te σ H P := fun H1 g w Q q => h H1 g w Q fun v d H2 p mv w2 => q v d H2 p mv ⟨w2.1.le l, w2.2⟩
theorem EvK.ge (h : EvK S a c R m1 m2 te σ H P) (l : m ≤ m1) : EvK S a c R m m2 te σ H P := fun H1 g w Q q => h H1 g ⟨w.1.le l, w.2⟩ Q q
theorem ek_pure (B : Bd S a c R) (h : ∀ J, Mv S H J → EvP te σ J P) : EvK S a c R m m te σ H P := fun H1 g w Q q => h H1 g H1 Mv.rfl Q fun v d H2 p g2 => q v d H2 p g2.up (B.grow g2 w)
theorem ekb_pure {P : Bool → Prop} (B : Bd S a c R) (h : ∀ J, Mv S H J → EvB t σ J P) : EvKB S a c R m m t σ H P := fun H1 g w Q q => h H1 g H1 Mv.rfl Q fun b H2 p g2 => q b H2 p g2.up (B.grow g2 w)
theorem ek_var {i : Nat} {v : V} {d : PyData} (B : Bd S a c R) (h : σ[i]? = some (some v)) (t : Td H v d) : EvK S a c R m m (tVar i) σ H (fun z => z = d) := ek_pure B fun J g => ev_var h (t.mono g.tup)
theorem ek_int {i : Int} (B : Bd S a c R) : EvK S a c R m m (tC (.int i)) σ H (fun z => z = .int i) := ek_pure B fun J g => ev_int
theorem ek_str {x : Str} (B : Bd S a c R) : EvK S a c R m m (tC (.str x)) σ H (fun z => z = .str x) := ek_pure B fun J g => ev_str
theorem eka_nil : EvKA S a c R m m tNil σ H (fun z => z = []) := fun H1 _ w Q q => q [] [] H1 rfl Mv.rfl w .nil
theorem eka_cons {PA : List Arg → Prop} (h : EvK S a c R m m1 ta σ H P) (hr : EvKA S a c R m1 m2 tr σ H PA) : EvKA S a c R m m2 (tCons ta tr) σ H (fun z => ∃ d xs, z = .d d :: xs ∧ P d ∧ PA xs) := fun H1 g w Q q =>
  h H1 g w _ fun v d H2 p g2 w2 t => hr H2 (g.trans g2) w2 _ fun vs xs H3 p3 g3 w3 ts => q _ _ H3 ⟨d, xs, rfl, p, p3⟩ (g2.trans g3) w3 (.cons (RA.mono g3 (x := .d d) t) ts)
/-- a list by its name -/
theorem eka_lst {PA : List Arg → Prop} {i : Nat} {p : Addr} {vs : List V} {ds : List PyData} (h : σ[i]? = some (some (.ref p))) (hp : H p = some (.lst vs)) (hn : p ∉ S) (tv : TdA H vs ds) (hr : EvKA S a c R m m2 tr σ H PA) :
    EvKA S a c R m m2 (tCons (tVar i) tr) σ H (fun z => ∃ xs, z = .l ds :: xs ∧ PA xs) := fun H1 g w Q q =>
  ⟨_, h, hr H1 g w _ fun ws xs H3 p3 g3 w3 ts => q _ _ H3 ⟨xs, rfl, p3⟩ g3 w3 (.cons ⟨p, vs, rfl, (g.trans g3).keep p _ hn hp, tv.mono (g.trans g3).tup, hn⟩ ts)⟩
theorem fresh_not {H : Hp} {p : Addr} (hS : ∀ b ∈ S, H b ≠ none) (h : H p = none) : p ∉ S := fun z => hS p z h
/-- a new list as an argument -/
theorem eka_new {PL : List PyData → Prop} {PA : List Arg → Prop} (h : EvKL S a c R m m1 ta σ H PL) (hS : ∀ J, Wk a c R m J → ∀ b ∈ S, J b ≠ none) (hr : EvKA S a c R m1 m2 tr σ H PA) : EvKA S a c R m m2 (tCons ta tr) σ H (fun z => ∃ ds xs, z = .l ds :: xs ∧ PL ds ∧ PA xs) := fun H1 g w Q q =>
  h H1 g w _ fun p vs ds H2 pd hp g2 w2 hx t => hr H2 (g.trans g2) w2 _ fun ws xs H3 p3 g3 w3 ts =>
    have hn : p ∉ S := fresh_not (hS H1 w) hp
    q _ _ H3 ⟨ds, xs, rfl, pd, p3⟩ (g2.trans g3) w3 (.cons ⟨p, vs, rfl, g3.keep p _ hn hx, t.mono g3.tup, hn⟩ ts)
/-- [..] -/
theorem ekl_lst {PA : List Arg → Prop} {PL : List PyData → Prop} (B : Bd S a c R) (h : EvKA S a c R m m1 ts σ H PA) (hA : ∀ xs, PA xs → ∃ ds : List PyData, xs = ds.map Arg.d ∧ ds.length ≤ 1000 ∧ PL ds) : EvKL S a c R m m1 (tLst ts) σ H PL := fun H1 g w Q q =>
  h H1 g w _ fun vs xs H2 px g2 w2 tz => by
    obtain ⟨ds, rfl, hl, pl⟩ := hA xs px
    have tv : TdA H2 vs ds := by
      clear hl pl px q
      induction ds generalizing vs with
      | nil => cases tz; exact .nil
      | cons d r ih => cases tz with | cons h t => exact .cons h (ih _ t)
    refine ⟨by rw [tv.length]; exact sizeOk hl, fun p hp => ?_⟩
    have gn := Gr.new (o := .lst vs) hp
    exact q p vs ds _ pl (g2.low p hp) (g2.trans gn.up) (B.grow gn w2) upd_same (tv.mono gn.tup)
/-- (..) -/
theorem ek_tup {PA : List Arg → Prop} (B : Bd S a c R) (h : EvKA S a c R m m1 ts σ H PA) (hA : ∀ xs, PA xs → ∃ ds : List PyData, xs = ds.map Arg.d ∧ ds.length ≤ 1000 ∧ P (.tuple ds)) : EvK S a c R m m1 (tTup ts) σ H P := fun H1 g w Q q =>
  h H1 g w _ fun vs xs H2 px g2 w2 tz => by
    obtain ⟨ds, rfl, hl, pl⟩ := hA xs px
    have tv : TdA H2 vs ds := by
      clear hl pl px q
      induction ds generalizing vs with
      | nil => cases tz; exact .nil
      | cons d r ih => cases tz with | cons h t => exact .cons h (ih _ t)
    refine ⟨by rw [tv.length]; exact sizeOk hl, fun p hp => ?_⟩
    have gn := Gr.new (o := .tup vs) hp
    exact q _ _ _ pl (g2.trans gn.up) (B.grow gn w2) (.tup upd_same (tv.mono gn.tup))
/-- a helper: the deck first -/
def spK (a c : Addr) (κ : Nat) (A : List Arg → (PyData → Prop) → Prop) : Sp := fun vs H Q _ => ∃ (ws : List V) (xs : List Arg) (P : PyData → Prop) (m : Nat), vs = .ref a :: ws ∧ RAs [a, c] H ws xs ∧ A xs P ∧ m + κ ≤ 2 ^ 40 ∧ Dk a c m H ∧
  ∀ v d J, P d → Mv [a, c] H J → Dk a c (m + κ) J → Td J v d → Q v J
theorem ek_call {κ : Nat} {A : List Arg → (PyData → Prop) → Prop} {PA : List Arg → Prop} {E : XK} {i : Nat} (B : Bd S a c R) (hi : σ[i]? = some (some (.ref a))) (h : EvKA S a c R m m1 ts σ H PA) (hA : ∀ xs, PA xs → A xs P) (hm : m1 + κ ≤ 2 ^ 40) :
    EvK S a c R m (m1 + κ) (tCall (spK a c κ A) [] E (tCons (tVar i) ts)) σ H P := fun H1 g w Q q =>
  ⟨_, hi, h H1 g w _ fun ws xs H2 px g2 w2 tz => ⟨ws, xs, P, m1, by rw [List.append_nil], tz.sub B.sub, hA xs px, hm, w2.1, fun v d J p mv dk t => q v d J p (g2.trans (mv.wide B.sub)) ⟨dk, B.st H2 J mv w2.2⟩ t⟩⟩
theorem ek_I0 {g : Int → Int → V} {g' : Int → Int → Int} {P1 P2 : Int → Prop} (ha : EvK S a c R m m1 ta σ H (fun z => ∃ i, z = .int i ∧ P1 i)) (hb : EvK S a c R m1 m2 tb σ H (fun z => ∃ i, z = .int i ∧ P2 i)) (hg : ∀ i j, g i j = .int (g' i j)) :
    EvK S a c R m m2 (tOp (rI0 g) ta tb) σ H (fun z => ∃ i j, P1 i ∧ P2 j ∧ z = .int (g' i j)) := fun H1 g1 w Q q =>
  ha H1 g1 w _ fun v z H2 ez g2 w2 tz => hb H2 (g1.trans g2) w2 _ fun v' z' H3 ez' g3 w3 tz' => by
    obtain ⟨i, rfl, p1⟩ := ez
    obtain ⟨j, rfl, p2⟩ := ez'
    have e1 := tz.int_inv
    have e2 := tz'.int_inv
    subst e1 e2
    exact ⟨i, j, rfl, rfl, by rw [hg]; exact q _ _ H3 ⟨i, j, p1, p2, rfl⟩ (g2.trans g3) w3 (.int _)⟩
/-- a comparison of two ints -/
theorem ekb_cmp {g : Int → Int → Bool} {P1 P2 : Int → Prop} (ha : EvK S a c R m m1 ta σ H (fun z => ∃ i, z = .int i ∧ P1 i)) (hb : EvK S a c R m1 m2 tb σ H (fun z => ∃ i, z = .int i ∧ P2 i)) :
    EvKB S a c R m m2 (tTest (tOp (rI0 fun i j => .bl (g i j)) ta tb)) σ H (fun b => ∃ i j, P1 i ∧ P2 j ∧ b = g i j) := fun H1 g1 w Q q =>
  ha H1 g1 w _ fun v z H2 ez g2 w2 tz => hb H2 (g1.trans g2) w2 _ fun v' z' H3 ez' g3 w3 tz' => by
    obtain ⟨i, rfl, p1⟩ := ez
    obtain ⟨j, rfl, p2⟩ := ez'
    have e1 := tz.int_inv
    have e2 := tz'.int_inv
    subst e1 e2
    exact ⟨i, j, rfl, rfl, _, rfl, q _ H3 ⟨i, j, p1, p2, rfl⟩ (g2.trans g3) w3⟩
theorem ekb_or {R1 R2 : Bool → Prop} (h : EvKB S a c R m m1 t σ H R1) (k : EvKB S a c R m1 m2 u σ H R2) (hl : m1 ≤ m2) : EvKB S a c R m m2 (tOr t u) σ H (fun b => (b = true ∧ (R1 true ∨ (R1 false ∧ R2 true))) ∨ (b = false ∧ R1 false ∧ R2 false)) := fun H1 g w Q q => h H1 g w _ fun b H2 p g2 w2 => by
  cases b with
  | true =>
    show Q true H2
    exact q true H2 (.inl ⟨rfl, .inl p⟩) g2 ⟨w2.1.le hl, w2.2⟩
  | false =>
    show u σ H2 Q
    exact k H2 (g.trans g2) w2 Q fun b H3 p3 g3 w3 => q b H3 (by cases b with | true => exact .inl ⟨rfl, .inr ⟨p, p3⟩⟩ | false => exact .inr ⟨rfl, p, p3⟩) (g2.trans g3) w3
theorem ekb_and {R1 R2 : Bool → Prop} (h : EvKB S a c R m m1 t σ H R1) (k : EvKB S a c R m1 m2 u σ H R2) (hl : m1 ≤ m2) : EvKB S a c R m m2 (tAnd t u) σ H (fun b => (b = false ∧ (R1 false ∨ (R1 true ∧ R2 false))) ∨ (b = true ∧ R1 true ∧ R2 true)) := fun H1 g w Q q => h H1 g w _ fun b H2 p g2 w2 => by
  cases b with
  | false =>
    show Q false H2
    exact q false H2 (.inl ⟨rfl, .inl p⟩) g2 ⟨w2.1.le hl, w2.2⟩
  | true =>
    show u σ H2 Q
    exact k H2 (g.trans g2) w2 Q fun b H3 p3 g3 w3 => q b H3 (by cases b with | false => exact .inl ⟨rfl, .inr ⟨p, p3⟩⟩ | true => exact .inr ⟨rfl, p, p3⟩) (g2.trans g3) w3
theorem ek_if {R1 : Bool → Prop} (h : EvKB S a c R m m1 t σ H R1) (h1 : EvK S a c R m1 m2 ta σ H P) (h2 : EvK S a c R m1 m2 tb σ H P) : EvK S a c R m m2 (tIf t ta tb) σ H P := fun H1 g w Q q => h H1 g w _ fun b H2 p g2 w2 => by
  cases b with
  | true =>
    show ta σ H2 Q
    exact h1 H2 (g.trans g2) w2 Q fun v d H3 p g3 => q v d H3 p (g2.trans g3)
  | false =>
    show tb σ H2 Q
    exact h2 H2 (g.trans g2) w2 Q fun v d H3 p g3 => q v d H3 p (g2.trans g3)
/-! statements -/
theorem sk_ret (w : Wk a c R m H) (h : EvK S a c R m m1 te σ H P) (k : ∀ v d J, P d → Mv S H J → Wk a c R m1 J → Td J v d → D.rt v J) : tRet te D σ H := h H Mv.rfl w _ fun v d J p g w2 t => k v d J p g w2 t
theorem sk_set {i : Nat} (w : Wk a c R m H) (h : EvK S a c R m m1 te σ H P) (k : ∀ v d J, P d → Mv S H J → Wk a c R m1 J → Td J v d → D.nx (σ.set i (some v)) J) : tAsg te (gName i) D σ H := h H Mv.rfl w _ fun v d J p g w2 t => k v d J p g w2 t
theorem qk_set {tk : TS} {i : Nat} (w : Wk a c R m H) (h : EvK S a c R m m1 te σ H P) (k : ∀ v d J, P d → Mv S H J → Wk a c R m1 J → Td J v d → tk D (σ.set i (some v)) J) : tSeq (tAsg te (gName i)) tk D σ H := h H Mv.rfl w _ fun v d J p g w2 t => k v d J p g w2 t
theorem qk_par {tk : TS} {i j : Nat} {PA : List Arg → Prop} (w : Wk a c R m H) (h : EvKA S a c R m m1 ts σ H PA) (k : ∀ v1 v2 x1 x2 J, PA [x1, x2] → Mv S H J → Wk a c R m1 J → RA S J v1 x1 → RA S J v2 x2 → tk D ((σ.set i (some v1)).set j (some v2)) J) (hl : ∀ xs, PA xs → xs.length = 2) : tSeq (tPar i j ts) tk D σ H :=
  h H Mv.rfl w _ fun vs xs J p g w2 tz => by
    have hl := hl xs p
    cases tz with
    | nil => cases hl
    | cons h1 t => cases t with
      | nil => cases hl
      | cons h2 t => cases t with
        | nil => exact ⟨_, _, rfl, k _ _ _ _ J p g w2 h1 h2⟩
        | cons h3 t => simp at hl
theorem qk_if {tk tu : TS} {P : Bool → Prop} (w : Wk a c R m H) (h : EvKB S a c R m m1 t σ H P) (k1 : P true → ∀ J, Mv S H J → Wk a c R m1 J → tu { D with nx := tk D } σ J) (k2 : P false → ∀ J, Mv S H J → Wk a c R m1 J → tk D σ J) : tSeq (tIfS t tu tNext) tk D σ H := h H Mv.rfl w _ fun b J p g w2 => by
  cases b with
  | true => exact k1 p J g w2
  | false => exact k2 p J g w2
theorem sk_if {tu tw : TS} {P : Bool → Prop} (w : Wk a c R m H) (h : EvKB S a c R m m1 t σ H P) (k1 : P true → ∀ J, Mv S H J → Wk a c R m1 J → tu D σ J) (k2 : P false → ∀ J, Mv S H J → Wk a c R m1 J → tw D σ J) : tIfS t tu tw D σ H := h H Mv.rfl w _ fun b J p g w2 => by
  cases b with
  | true => exact k1 p J g w2
  | false => exact k2 p J g w2
end
theorem Dk.here {a c : Addr} {m : Nat} {H : Hp} (h : Dk a c m H) : ∀ b ∈ [a, c], H b ≠ none := fun b hb => by
  obtain ⟨n, cs, h1, h2, _⟩ := h
  simp only [List.mem_cons, List.not_mem_nil, or_false] at hb
  rcases hb with e | e <;> subst e
  · rw [h1]; intro z; cases z
  · rw [h2]; intro z; cases z
end K27
namespace K27
open PySem PySem.Spec L2
open PyProof.Rows hiding St
local macro_rules | `(tactic| walk_at "td") => `(tactic| first | assumption | exact Td.int _ | exact Td.str _ | exact Td.bl _ | exact Td.non)
local macro_rules | `(tactic| walk_at "bq") => `(tactic| first | exact rfl | assumption | decide)
local macro_rules | `(tactic| walk_at "kb") => `(tactic| first | exact kii | exact ksi | exact kti | exact kib | exact kss | exact kis | exact kts | exact ktt | exact kst | exact kit)
local macro_rules | `(tactic| walk_at "ev") => `(tactic| first
  | with_reducible exact ev_int
  | with_reducible exact ev_str
  | with_reducible exact ev_bl
  | with_reducible exact ev_non
  | ((with_reducible refine' ev_var ?e ?t); (case e => exact rfl); (case t => walk_at "td"))
  | ((with_reducible refine' ev_ix ?a ?n ?z); (case a => walk_at "ev"); (case z => decide); (case n => exact rfl))
  | ((with_reducible refine' ev_isi ?a ?k); (case a => walk_at "ev"); (case k => walk_at "kb"))
  | ((with_reducible refine' ev_len ?a ?k); (case a => walk_at "ev"); (case k => exact rfl))
  | ((with_reducible refine' ev_cmpI ?a ?b ?r); (case a => walk_at "ev"); (case b => walk_at "ev"); (case r => walk_at "bq"))
  | ((with_reducible refine' ev_I0 ?a ?b ?r); (case a => walk_at "ev"); (case b => walk_at "ev"); (case r => exact rfl))
  | ((with_reducible refine' ev_eqS ?a ?b ?r); (case a => walk_at "ev"); (case b => walk_at "ev"); (case r => walk_at "bq"))
  | ((with_reducible refine' ev_eqI ?a ?b ?r); (case a => walk_at "ev"); (case b => walk_at "ev"); (case r => walk_at "bq"))
  | ((with_reducible refine' ev_neI ?a ?b ?r); (case a => walk_at "ev"); (case b => walk_at "ev"); (case r => walk_at "bq"))
  | ((with_reducible refine' ev_notV ?a ?r); (case a => walk_at "ev"); (case r => walk_at "bq"))
  | ((with_reducible refine' ev_chain ?a ?b ?c ?r); (case a => walk_at "ev"); (case b => walk_at "ev"); (case c => walk_at "ev"); (case r => walk_at "bq"))
  | ((with_reducible refine' ev_tup ?a ?l); (case a => walk_at "ea"); (case l => (show _ ≤ _; decide))))
local macro_rules | `(tactic| walk_at "ea") => `(tactic| first
  | with_reducible exact ea_nil
  | ((with_reducible refine' ea_cons ?a ?b); (case a => walk_at "ev"); (case b => walk_at "ea")))
local macro_rules | `(tactic| walk_at "et") => `(tactic| first
  | ((with_reducible refine' et_notI ?a ?r); (case a => walk_at "et"); (case r => walk_at "bq"))
  | ((with_reducible refine' et_is ?a); (case a => walk_at "ev"))
  | ((with_reducible refine' et_isB ?a); (case a => walk_at "ev"))
  | ((with_reducible refine' et_and ?a ?b ?c); (case a => walk_at "et"); (case b => (intro _; walk_at "et")); (case c => (intro z; first | exact z | (cases z; done) | rfl)))
  | ((with_reducible refine' et_or ?a ?b ?c); (case a => walk_at "et"); (case b => (intro _; walk_at "et")); (case c => (intro z; first | exact z | (cases z; done) | rfl))))
local macro_rules | `(tactic| walk_at "ev2") => `(tactic| first
  | walk_at "ev"
  | ((with_reducible refine' ev_inT ?a ?p ?s ?d ?f ?x ?b); (case a => walk_at "ev"); (case p => exact evv_c); (case s => assumption); (case d => exact rfl); (case f => exact rfl); (case x => exact rfl); (case b => walk_at "bq"))
  | ((with_reducible refine' ev_inU2 ?a ?p ?l ?d ?x ?f ?y ?b); (case a => walk_at "ev"); (case p => walk_at "ea"); (case l => (show _ ≤ _; decide)); (case d => exact rfl); (case x => exact rfl); (case f => exact rfl); (case y => exact rfl); (case b => walk_at "bq"))
  | ((with_reducible refine' ev_slA ?a ?l ?h ?r); (case a => walk_at "ev"); (case l => walk_at "eo"); (case h => walk_at "eo"); (case r => exact rfl)))
local macro_rules | `(tactic| walk_at "et2") => `(tactic| first
  | walk_at "et"
  | ((with_reducible refine' et_is ?a); (case a => walk_at "ev2"))
  | ((with_reducible refine' et_isB ?a); (case a => walk_at "ev2")))
local macro_rules | `(tactic| walk_at "eo") => `(tactic| first
  | with_reducible exact eo_none
  | ((with_reducible refine' eo_some ?a); (case a => walk_at "ev")))
/-! ### draw in this form; one of a list, of a text -/
def A_draw (xs : List Arg) (P : PyData → Prop) : Prop := ∃ many : Int, xs = [.d (.int many)] ∧ 0 < many ∧ many ≤ 2 ^ 40 ∧ ∀ r : Int, 0 ≤ r → r < many → P (.int r)
theorem RAs.one {S : List Addr} {H : Hp} {vs : List V} {x : Arg} (h : RAs S H vs [x]) : ∃ v, vs = [v] ∧ RA S H v x := by
  cases h with
  | cons h t => cases t; exact ⟨_, rfl, h⟩
theorem RAs.two {S : List Addr} {H : Hp} {vs : List V} {x y : Arg} (h : RAs S H vs [x, y]) : ∃ v w, vs = [v, w] ∧ RA S H v x ∧ RA S H w y := by
  cases h with
  | cons h t =>
    obtain ⟨w, rfl, h2⟩ := t.one
    exact ⟨_, w, rfl, h, h2⟩
section
variable {P : Program} {w : World} {K : PySem.W.Frag} {mg : Str → Option Value} {base : Heap}
theorem df_drawK {a c : Addr} (G : Df P w K mg base 1 "_law_draw" ["_law_deck_here", "_law_many"] (spDraw a c)) : Df P w K mg base 1 "_law_draw" ["_law_deck_here", "_law_many"] (spK a c 1 A_draw) := G.imp fun vs H Q E h => by
  obtain ⟨ws, xs, P, m, rfl, tz, ⟨many, rfl, h1, h2, h3⟩, hm, dk, q⟩ := h
  obtain ⟨v, rfl, t⟩ := tz.one
  have e := Td.int_inv t
  subst e
  exact ⟨many, m, rfl, h1, h2, by omega, dk, fun r J r0 r1 mv dk => q _ _ J (h3 r r0 r1) mv dk (.int r)⟩
abbrev s__law_one : Stmt := top 51
theorem sc__law_one : FnScope ["_law_deck_here", "_law_items"] ["_law_deck_here", "_law_items"] (defScope s__law_one) := ⟨rfl, rfl, rfl, by decide +kernel, rfl, by decide +kernel, by decide +kernel⟩
def A_oneL (xs : List Arg) (P : PyData → Prop) : Prop := ∃ ds : List PyData, xs = [.l ds] ∧ 0 < ds.length ∧ ds.length ≤ 1000 ∧ ∀ d ∈ ds, P d
theorem df_oneL (F : Fn K mg "_law_one" s__law_one ["_law_deck_here", "_law_items"]) (T : Gb K w mg) {a c : Addr} (G__law_draw : Df P w K mg base 1 "_law_draw" ["_law_deck_here", "_law_many"] (spK a c 1 A_draw)) : Df P w K mg base 2 "_law_one" ["_law_deck_here", "_law_items"] (spK a c 1 A_oneL) := by
  refine df_of F sc__law_one (fun vs H Q E h => ?_) (fun f cdv A outer s H vs Q E hr h => ?_)
  · obtain ⟨_, _, _, _, rfl, t, ⟨ds, rfl, _⟩, _⟩ := h
    obtain ⟨v, rfl, _⟩ := t.one
    rfl
  obtain ⟨ws, xs, P', m, rfl, tz, ⟨ds, rfl, h0, hl, hP⟩, hm, dk, q⟩ := h
  obtain ⟨v, rfl, p, vs, rfl, hp, tv, hn⟩ := tz.one
  refine ⟨_, (pss_one (ps_ret (pe_ix (k_ixL K) (pv 1) (pe_df G__law_draw hr (pa_cons (pv 0) (pa_cons (pe_callB (id := "len") (k_len K) (by rfl) T.len_ (by decide +kernel) (pa_cons (pv 1) pa_nil)) pa_nil))) (fun _ _ => rfl)))), ?_⟩
  have lv := tv.length
  refine ⟨_, rfl, ?_⟩
  refine (ek_call (P := fun z => ∃ j : Nat, j < ds.length ∧ z = .int (j : Int)) (A := A_draw) (i := 0) bd0 rfl (eka_cons (P := fun z => z = .int (ds.length : Int)) (ek_pure bd0 fun J g => ?_) eka_nil) (fun xs hx => ?_) hm : EvK [a, c] a c (fun _ => True) m (m + 1) (tCall (spK a c 1 A_draw) [] E0 (tCons (tVar 0) (tCons (tCB (rLenQ K) (tCons (tVar 1) tNil)) tNil))) [some (.ref a), some (.ref p)] H _) H Mv.rfl ⟨dk, trivial⟩ _ fun v d J hd mv wk t => ?_
  · rw [← lv]
    exact ev_lenV (evv_var rfl) (g.keep p _ hn hp)
  · obtain ⟨d, ys, rfl, rfl, rfl⟩ := hx
    exact ⟨_, rfl, by omega, by omega, fun r r0 r1 => ⟨r.toNat, by omega, by rw [Int.toNat_of_nonneg r0]⟩⟩
  · obtain ⟨j, hj, rfl⟩ := hd
    have e := t.int_inv
    subst e
    obtain ⟨d, hd⟩ : ∃ d, ds[j]? = some d := ⟨_, List.getElem?_eq_getElem hj⟩
    obtain ⟨v, hv, td⟩ := tv.get hd
    exact ⟨p, vs, _, v, rfl, rfl, SqL.of (mv.keep p _ hn hp), atI_get hv, q v d J (hP d (List.mem_of_getElem? hd)) mv wk.1 (td.mono mv.tup)⟩
def A_oneS (xs : List Arg) (P : PyData → Prop) : Prop := ∃ x : Str, xs = [.d (.str x)] ∧ 0 < x.length ∧ x.length ≤ 1000 ∧ ∀ ch ∈ x.cps.toList, P (.str ⟨#[ch]⟩)
theorem df_oneS (F : Fn K mg "_law_one" s__law_one ["_law_deck_here", "_law_items"]) (T : Gb K w mg) {a c : Addr} (G__law_draw : Df P w K mg base 1 "_law_draw" ["_law_deck_here", "_law_many"] (spK a c 1 A_draw)) : Df P w K mg base 2 "_law_one" ["_law_deck_here", "_law_items"] (spK a c 1 A_oneS) := by
  refine df_of F sc__law_one (fun vs H Q E h => ?_) (fun f cdv A outer s H vs Q E hr h => ?_)
  · obtain ⟨_, _, _, _, rfl, t, ⟨ds, rfl, _⟩, _⟩ := h
    obtain ⟨v, rfl, _⟩ := t.one
    rfl
  obtain ⟨ws, xs, P', m, rfl, tz, ⟨x, rfl, h0, hl, hP⟩, hm, dk, q⟩ := h
  obtain ⟨v, rfl, t0⟩ := tz.one
  have e := Td.str_inv t0
  subst e
  refine ⟨_, (pss_one (ps_ret (pe_ix ix_str (pv 1) (pe_df G__law_draw hr (pa_cons (pv 0) (pa_cons (pe_callB (id := "len") call_len_str (by rfl) T.len_ (by decide +kernel) (pa_cons (pv 1) pa_nil)) pa_nil))) (fun _ _ => rfl)))), ?_⟩
  refine ⟨_, rfl, ?_⟩
  refine (ek_call (P := fun z => ∃ j : Nat, j < x.length ∧ z = .int (j : Int)) (A := A_draw) (i := 0) bd0 rfl (eka_cons (P := fun z => z = .int (x.length : Int)) (ek_pure bd0 fun J g => ev_lenS (ev_var rfl (.str x)) (sizeOk hl)) eka_nil) (fun xs hx => ?_) hm : EvK [a, c] a c (fun _ => True) m (m + 1) (tCall (spK a c 1 A_draw) [] E0 (tCons (tVar 0) (tCons (tCB (fun xs H Q => ∃ y : Str, xs = [.str y] ∧ y.length ≤ sizeLine ∧ Q (.int y.length) H) (tCons (tVar 1) tNil)) tNil))) [some (.ref a), some (.str x)] H _) H Mv.rfl ⟨dk, trivial⟩ _ fun v d J hd mv wk t => ?_
  · obtain ⟨d, ys, rfl, rfl, rfl⟩ := hx
    exact ⟨_, rfl, by omega, by omega, fun r r0 r1 => ⟨r.toNat, by omega, by rw [Int.toNat_of_nonneg r0]⟩⟩
  · obtain ⟨j, hj, rfl⟩ := hd
    have e := t.int_inv
    subst e
    have hj2 : j < x.cps.toList.length := by rw [Array.length_toList]; exact hj
    obtain ⟨ch, hch⟩ : ∃ ch, x.cps.toList[j]? = some ch := ⟨_, List.getElem?_eq_getElem hj2⟩
    exact ⟨x, _, ch, rfl, rfl, sizeOk hl, atI_get hch, q _ _ J (hP ch (List.mem_of_getElem? hch)) mv wk.1 (.str _)⟩
end
end K27
namespace K27
open PySem PySem.Spec L2
open PyProof.Rows hiding St
local macro_rules | `(tactic| walk_at "td") => `(tactic| first | assumption | exact Td.int _ | exact Td.str _ | exact Td.bl _ | exact Td.non)
local macro_rules | `(tactic| walk_at "bq") => `(tactic| first | exact rfl | assumption | decide)
local macro_rules | `(tactic| walk_at "kb") => `(tactic| first | exact kii | exact ksi | exact kti | exact kib | exact kss | exact kis | exact kts | exact ktt | exact kst | exact kit)
local macro_rules | `(tactic| walk_at "ev") => `(tactic| first
  | with_reducible exact ev_int
  | with_reducible exact ev_str
  | with_reducible exact ev_bl
  | with_reducible exact ev_non
  | ((with_reducible refine' ev_var ?e ?t); (case e => exact rfl); (case t => walk_at "td"))
  | ((with_reducible refine' ev_ix ?a ?n ?z); (case a => walk_at "ev"); (case z => decide); (case n => exact rfl))
  | ((with_reducible refine' ev_isi ?a ?k); (case a => walk_at "ev"); (case k => walk_at "kb"))
  | ((with_reducible refine' ev_len ?a ?k); (case a => walk_at "ev"); (case k => exact rfl))
  | ((with_reducible refine' ev_cmpI ?a ?b ?r); (case a => walk_at "ev"); (case b => walk_at "ev"); (case r => walk_at "bq"))
  | ((with_reducible refine' ev_I0 ?a ?b ?r); (case a => walk_at "ev"); (case b => walk_at "ev"); (case r => exact rfl))
  | ((with_reducible refine' ev_eqS ?a ?b ?r); (case a => walk_at "ev"); (case b => walk_at "ev"); (case r => walk_at "bq"))
  | ((with_reducible refine' ev_eqI ?a ?b ?r); (case a => walk_at "ev"); (case b => walk_at "ev"); (case r => walk_at "bq"))
  | ((with_reducible refine' ev_neI ?a ?b ?r); (case a => walk_at "ev"); (case b => walk_at "ev"); (case r => walk_at "bq"))
  | ((with_reducible refine' ev_notV ?a ?r); (case a => walk_at "ev"); (case r => walk_at "bq"))
  | ((with_reducible refine' ev_chain ?a ?b ?c ?r); (case a => walk_at "ev"); (case b => walk_at "ev"); (case c => walk_at "ev"); (case r => walk_at "bq"))
  | ((with_reducible refine' ev_tup ?a ?l); (case a => walk_at "ea"); (case l => (show _ ≤ _; decide))))
local macro_rules | `(tactic| walk_at "ea") => `(tactic| first
  | with_reducible exact ea_nil
  | ((with_reducible refine' ea_cons ?a ?b); (case a => walk_at "ev"); (case b => walk_at "ea")))
local macro_rules | `(tactic| walk_at "et") => `(tactic| first
  | ((with_reducible refine' et_notI ?a ?r); (case a => walk_at "et"); (case r => walk_at "bq"))
  | ((with_reducible refine' et_is ?a); (case a => walk_at "ev"))
  | ((with_reducible refine' et_isB ?a); (case a => walk_at "ev"))
  | ((with_reducible refine' et_and ?a ?b ?c); (case a => walk_at "et"); (case b => (intro _; walk_at "et")); (case c => (intro z; first | exact z | (cases z; done) | rfl)))
  | ((with_reducible refine' et_or ?a ?b ?c); (case a => walk_at "et"); (case b => (intro _; walk_at "et")); (case c => (intro z; first | exact z | (cases z; done) | rfl))))
local macro_rules | `(tactic| walk_at "ev2") => `(tactic| first
  | walk_at "ev"
  | ((with_reducible refine' ev_inT ?a ?p ?s ?d ?f ?x ?b); (case a => walk_at "ev"); (case p => exact evv_c); (case s => assumption); (case d => exact rfl); (case f => exact rfl); (case x => exact rfl); (case b => walk_at "bq"))
  | ((with_reducible refine' ev_inU2 ?a ?p ?l ?d ?x ?f ?y ?b); (case a => walk_at "ev"); (case p => walk_at "ea"); (case l => (show _ ≤ _; decide)); (case d => exact rfl); (case x => exact rfl); (case f => exact rfl); (case y => exact rfl); (case b => walk_at "bq"))
  | ((with_reducible refine' ev_slA ?a ?l ?h ?r); (case a => walk_at "ev"); (case l => walk_at "eo"); (case h => walk_at "eo"); (case r => exact rfl)))
local macro_rules | `(tactic| walk_at "et2") => `(tactic| first
  | walk_at "et"
  | ((with_reducible refine' et_is ?a); (case a => walk_at "ev2"))
  | ((with_reducible refine' et_isB ?a); (case a => walk_at "ev2")))
local macro_rules | `(tactic| walk_at "eo") => `(tactic| first
  | with_reducible exact eo_none
  | ((with_reducible refine' eo_some ?a); (case a => walk_at "ev")))
section
variable {S : List Addr} {a c : Addr} {R : Hp → Prop} {K : PySem.W.Frag} {σ : St} {H : Hp} {te ta tb tc : TE} {tr : TA} {P : PyData → Prop} {m m1 m2 m3 : Nat}
/-- items of one kind -/
abbrev AllOf (Pd : PyData → Prop) (n : Nat) : List Arg → Prop := fun xs => ∃ ds : List PyData, xs = ds.map Arg.d ∧ ds.length = n ∧ ∀ d ∈ ds, Pd d
theorem eall_nil : EvKA S a c R m m tNil σ H (AllOf P 0) := fun H1 g w Q q => q [] [] H1 ⟨[], rfl, rfl, fun d h => nomatch h⟩ Mv.rfl w .nil
theorem eall_cons {n : Nat} (h : EvK S a c R m m1 ta σ H P) (hr : EvKA S a c R m1 m2 tr σ H (AllOf P n)) : EvKA S a c R m m2 (tCons ta tr) σ H (AllOf P (n + 1)) := fun H1 g w Q q =>
  eka_cons h hr H1 g w Q fun vs xs H2 hx g2 w2 ts => by
    obtain ⟨d, ys, rfl, pd, ds, rfl, hl, hall⟩ := hx
    exact q _ _ H2 ⟨d :: ds, rfl, by rw [List.length_cons, hl], fun e he => (List.mem_cons.mp he).elim (fun z => by rw [z]; exact pd) (hall e)⟩ g2 w2 ts
theorem ekl_all {n : Nat} (B : Bd S a c R) (h : EvKA S a c R m m1 tr σ H (AllOf P n)) (hn : n ≤ 1000) : EvKL S a c R m m1 (tLst tr) σ H (fun ds => ds.length = n ∧ ∀ d ∈ ds, P d) :=
  ekl_lst B h fun xs ⟨ds, e, hl, hall⟩ => ⟨ds, e, by omega, hl, hall⟩
theorem ek_ci {i : Int} (B : Bd S a c R) (h : P (.int i)) : EvK S a c R m m (tC (.int i)) σ H P := ek_pure B fun J g => ev_int.imp fun d e => by rw [e]; exact h
theorem ek_cn {i : Int} (B : Bd S a c R) (h : P (.int (-i))) : EvK S a c R m m (fun σ H Q => tC (.int i) σ H fun x H1 => ∃ j, x = .int j ∧ Q (.int (-j)) H1) σ H P := ek_pure B fun J g H1 g1 Q q => ⟨i, rfl, q _ _ H1 h Mv.rfl (.int _)⟩
theorem ek_cs {x : Str} (B : Bd S a c R) (h : P (.str x)) : EvK S a c R m m (tC (.str x)) σ H P := ek_pure B fun J g => ev_str.imp fun d e => by rw [e]; exact h
/-- a tuple of three -/
theorem ek_tup3 {P1 P2 P3 : PyData → Prop} (B : Bd S a c R) (h1 : EvK S a c R m m1 ta σ H P1) (h2 : EvK S a c R m1 m2 tb σ H P2) (h3 : EvK S a c R m2 m3 tc σ H P3) (h : ∀ d1 d2 d3, P1 d1 → P2 d2 → P3 d3 → P (.tuple [d1, d2, d3])) : EvK S a c R m m3 (tTup (tCons ta (tCons tb (tCons tc tNil)))) σ H P :=
  ek_tup B (eka_cons h1 (eka_cons h2 (eka_cons h3 eka_nil))) fun xs hx => by
    obtain ⟨d1, x1, rfl, p1, d2, x2, rfl, p2, d3, x3, rfl, p3, rfl⟩ := hx
    exact ⟨[d1, d2, d3], rfl, by show 3 ≤ 1000; decide, h d1 d2 d3 p1 p2 p3⟩
theorem ek_tup2 {P1 P2 : PyData → Prop} (B : Bd S a c R) (h1 : EvK S a c R m m1 ta σ H P1) (h2 : EvK S a c R m1 m2 tb σ H P2) (h : ∀ d1 d2, P1 d1 → P2 d2 → P (.tuple [d1, d2])) : EvK S a c R m m2 (tTup (tCons ta (tCons tb tNil))) σ H P :=
  ek_tup B (eka_cons h1 (eka_cons h2 eka_nil)) fun xs hx => by
    obtain ⟨d1, x1, rfl, p1, d2, x2, rfl, p2, rfl⟩ := hx
    exact ⟨[d1, d2], rfl, by show 2 ≤ 1000; decide, h d1 d2 p1 p2⟩
/-- a draw -/
theorem ek_draw {E : XK} {i : Nat} {P1 : Int → Prop} (B : Bd S a c R) (hi : σ[i]? = some (some (.ref a))) (h : EvK S a c R m m1 ta σ H (fun z => ∃ k, z = .int k ∧ P1 k)) (hp : ∀ k, P1 k → 0 < k ∧ k ≤ 2 ^ 40) (hr : ∀ k r, P1 k → 0 ≤ r → r < k → P (.int r)) (hm : m1 + 1 ≤ 2 ^ 40) :
    EvK S a c R m (m1 + 1) (tCall (spK a c 1 A_draw) [] E (tCons (tVar i) (tCons ta tNil))) σ H P :=
  ek_call B hi (eka_cons h eka_nil) (fun xs hx => by
    obtain ⟨d, ys, rfl, ⟨k, rfl, pk⟩, rfl⟩ := hx
    exact ⟨k, rfl, (hp k pk).1, (hp k pk).2, fun r => hr k r pk⟩) hm
theorem ek_drawC {E : XK} {i : Nat} {k : Int} (B : Bd S a c R) (hi : σ[i]? = some (some (.ref a))) (h0 : 0 < k) (h1 : k ≤ 2 ^ 40) (hm : m + 1 ≤ 2 ^ 40) :
    EvK S a c R m (m + 1) (tCall (spK a c 1 A_draw) [] E (tCons (tVar i) (tCons (tC (.int k)) tNil))) σ H (fun z => ∃ r, z = .int r ∧ 0 ≤ r ∧ r < k) :=
  ek_draw (P1 := fun z => z = k) B hi (ek_ci B ⟨k, rfl, rfl⟩) (fun z e => by rw [e]; exact ⟨h0, h1⟩) (fun z r e r0 r1 => ⟨r, rfl, r0, by rw [← e]; exact r1⟩) hm
/-- one of a written list -/
theorem ek_oneW {E : XK} {i n : Nat} (B : Bd S a c R) (hS : ∀ J, Wk a c R m J → ∀ b ∈ S, J b ≠ none) (hi : σ[i]? = some (some (.ref a))) (h : EvKA S a c R m m1 tr σ H (AllOf P n)) (h0 : 0 < n) (h1 : n ≤ 1000) (hm : m1 + 1 ≤ 2 ^ 40) :
    EvK S a c R m (m1 + 1) (tCall (spK a c 1 A_oneL) [] E (tCons (tVar i) (tCons (tLst tr) tNil))) σ H P :=
  ek_call B hi (eka_new (ekl_all B h h1) hS eka_nil) (fun xs hx => by
    obtain ⟨ds, ys, rfl, ⟨hl, hall⟩, rfl⟩ := hx
    exact ⟨ds, rfl, by omega, by omega, hall⟩) hm
/-- one of a list by its name -/
theorem ek_oneV {E : XK} {i j : Nat} {p : Addr} {vs : List V} {ds : List PyData} (B : Bd S a c R) (hi : σ[i]? = some (some (.ref a))) (hj : σ[j]? = some (some (.ref p))) (hp : H p = some (.lst vs)) (hn : p ∉ S) (tv : TdA H vs ds) (h0 : 0 < ds.length) (h1 : ds.length ≤ 1000) (hP : ∀ d ∈ ds, P d) (hm : m + 1 ≤ 2 ^ 40) :
    EvK S a c R m (m + 1) (tCall (spK a c 1 A_oneL) [] E (tCons (tVar i) (tCons (tVar j) tNil))) σ H P :=
  ek_call B hi (eka_lst hj hp hn tv eka_nil) (fun xs hx => by
    obtain ⟨ys, rfl, rfl⟩ := hx
    exact ⟨ds, rfl, h0, h1, hP⟩) hm
end
theorem ek_ifB {S : List Addr} {a c : Addr} {R : Hp → Prop} {σ : St} {H : Hp} {ta tb : TE} {t : TT} {P : PyData → Prop} {m m1 m2 : Nat} {b : Bool} (h : EvKB S a c R m m1 t σ H (fun c => c = b)) (h1 : b = true → EvK S a c R m1 m2 ta σ H P) (h2 : b = false → EvK S a c R m1 m2 tb σ H P) : EvK S a c R m m2 (tIf t ta tb) σ H P := fun H1 g w Q q => h H1 g w _ fun x H2 p g2 w2 => by
  subst p
  cases x with
  | true =>
    show ta σ H2 Q
    exact h1 rfl H2 (g.trans g2) w2 Q fun v d H3 p g3 => q v d H3 p (g2.trans g3)
  | false =>
    show tb σ H2 Q
    exact h2 rfl H2 (g.trans g2) w2 Q fun v d H3 p g3 => q v d H3 p (g2.trans g3)
def KE : Nat → Nat
  | 0 => 1
  | k + 1 => 1 + 2 * KE k
theorem KE_pos : ∀ k, 1 ≤ KE k
  | 0 => Nat.le_refl _
  | k + 1 => by show 1 ≤ 1 + 2 * KE k; omega
/-- names -/
def NamesD (ds : List PyData) : Prop := 0 < ds.length ∧ ds.length ≤ 1000 ∧ ∀ d ∈ ds, ∃ x, d = .str x ∧ NOk x
def IsE (k : Nat) : PyData → Prop := fun z => ∃ e : E, EOk k e ∧ z = e.d
def A_exprL (k : Nat) (xs : List Arg) (P : PyData → Prop) : Prop := ∃ nds : List PyData, xs = [.l nds, .d (.int (k : Int))] ∧ NamesD nds ∧ 1 ≤ k ∧ P = IsE k
section
variable {P : Program} {w : World} {K : PySem.W.Frag} {mg : Str → Option Value} {base : Heap}
abbrev s__law_expression : Stmt := top 53
theorem sc__law_expression : FnScope ["_law_deck_here", "_law_names_here", "_law_deep", "_law_way", "_law_factor", "_law_first"] ["_law_deck_here", "_law_names_here", "_law_deep"] (defScope s__law_expression) := ⟨rfl, rfl, rfl, by decide +kernel, rfl, by decide +kernel, by decide +kernel⟩
theorem df_exprL (F : Fn K mg "_law_expression" s__law_expression ["_law_deck_here", "_law_names_here", "_law_deep"]) (T : Gb K w mg) {a c : Addr} (G__law_draw : Df P w K mg base 1 "_law_draw" ["_law_deck_here", "_law_many"] (spK a c 1 A_draw)) (G__law_one : Df P w K mg base 2 "_law_one" ["_law_deck_here", "_law_items"] (spK a c 1 A_oneL)) :
    ∀ k, Df P w K mg base (k + 2) "_law_expression" ["_law_deck_here", "_law_names_here", "_law_deep"] (spK a c (KE k) (A_exprL k))
  | 0 => df_void F fun vs H Q E h => by
    obtain ⟨_, _, _, _, _, _, ⟨_, _, _, h, _⟩, _⟩ := h
    exact absurd h (by decide)
  | k + 1 => by
    have G__law_expression := df_exprL F T G__law_draw G__law_one k
    refine df_of F sc__law_expression (fun vs H Q E h => ?_) (fun f cdv A outer s H vs Q E hr h => ?_)
    · obtain ⟨_, _, _, _, rfl, t, ⟨ds, rfl, _⟩, _⟩ := h
      obtain ⟨v, w, rfl, _⟩ := t.two
      rfl
    obtain ⟨ws, xs, P', m, rfl, tz, ⟨nds, rfl, ⟨hn0, hn1, hn2⟩, _, rfl⟩, hm, dk, q⟩ := h
    obtain ⟨v1, v2, rfl, ⟨pn, nvs, rfl, hpn, tn, hnn⟩, t2⟩ := tz.two
    have e2 := Td.int_inv t2
    subst e2
    have hk1 := KE_pos k
    have hKE : KE (k + 1) = 1 + 2 * KE k := rfl
    rw [hKE] at hm q
    have hN : ∀ d ∈ nds, IsE (k + 1) d := fun d hd => by
      obtain ⟨x, rfl, hx⟩ := hn2 d hd
      exact ⟨.name x, hx, rfl⟩
    have hI : ∀ i : Int, -99 ≤ i → i ≤ 99 → IsE (k + 1) (.int i) := fun i h1 h2 => ⟨.int i, ⟨h1, h2⟩, rfl⟩
    have here0 : ∀ {m : Nat} (J : Hp), Wk a c (fun _ => True) m J → ∀ b ∈ [a, c], J b ≠ none := fun J w => w.1.here
    refine ⟨_, (pss_cons (ps_set (i := 3) sc__law_expression.nd rfl (Or.inl rfl) (pe_ifExp (pt_cmpR op_gt (pv 2) pe_int (nomark _)) (pe_df G__law_draw (hr.mono (by first | decide | omega)) (pa_cons (pv 0) (pa_cons pe_int pa_nil))) (pe_df G__law_draw (hr.mono (by first | decide | omega)) (pa_cons (pv 0) (pa_cons pe_int pa_nil))))) (pss_cons (ps_if (pt_cmpR op_eq (pv 3) pe_int (nomark _)) (pss_one (ps_ret (pe_df G__law_one (hr.mono (by first | decide | omega)) (pa_cons (pv 0) (pa_cons (pe_lst (pa_cons pe_int (pa_cons pe_int (pa_cons pe_int (pa_cons (pe_un un_neg pe_int) (pa_cons pe_int (pa_cons (pe_un un_neg pe_int) (pa_cons pe_int (pa_cons (pe_un un_neg pe_int) (pa_cons (pe_op op_sub (pe_df G__law_draw (hr.mono (by first | decide | omega)) (pa_cons (pv 0) (pa_cons pe_int pa_nil))) pe_int) pa_nil)))))))))) pa_nil))))) pss_nil) (pss_cons (ps_if (pt_cmpR op_lt (pv 3) pe_int (nomark _)) (pss_one (ps_ret (pe_df G__law_one (hr.mono (by first | decide | omega)) (pa_cons (pv 0) (pa_cons (pv 1) pa_nil))))) pss_nil) (pss_cons (ps_if (pt_cmpR op_eq (pv 3) pe_int (nomark _)) (pss_cons (ps_set (i := 4) sc__law_expression.nd rfl (Or.inl rfl) (pe_df G__law_one (hr.mono (by first | decide | omega)) (pa_cons (pv 0) (pa_cons (pe_lst (pa_cons (pe_un un_neg pe_int) (pa_cons (pe_un un_neg pe_int) (pa_cons (pe_un un_neg pe_int) (pa_cons (pe_un un_neg pe_int) (pa_cons (pe_un un_neg pe_int) (pa_cons pe_int (pa_cons pe_int (pa_cons pe_int (pa_cons pe_int pa_nil)))))))))) pa_nil)))) (pss_one (ps_ret (pe_tup (pa_cons pe_str (pa_cons (pv 4) (pa_cons (pe_df G__law_expression (hr.mono (by first | decide | omega)) (pa_cons (pv 0) (pa_cons (pv 1) (pa_cons (pe_op op_sub (pv 2) pe_int) pa_nil)))) pa_nil))))))) pss_nil) (pss_cons (ps_set (i := 5) sc__law_expression.nd rfl (Or.inl rfl) (pe_df G__law_expression (hr.mono (by first | decide | omega)) (pa_cons (pv 0) (pa_cons (pv 1) (pa_cons (pe_op op_sub (pv 2) pe_int) pa_nil))))) (pss_one (ps_ret (pe_tup (pa_cons (pe_ix (k_ixL K) (pe_lst (pa_cons pe_str (pa_cons pe_str pa_nil))) (pe_op op_mod (pe_callTy (T := "int") call_int1 (by rfl) T.int_ (by decide +kernel) (pa_cons (pv 3) pa_nil)) pe_int) (fun _ _ => rfl)) (pa_cons (pv 5) (pa_cons (pe_df G__law_expression (hr.mono (by first | decide | omega)) (pa_cons (pv 0) (pa_cons (pv 1) (pa_cons (pe_op op_sub (pv 2) pe_int) pa_nil)))) pa_nil))))))))))), ?_⟩
    have fin : ∀ {J : Hp} {m2 : Nat} {v : V} {d : PyData} {H2 : Hp}, m2 ≤ m + (1 + 2 * KE k) → Mv [a, c] H J → IsE (k + 1) d → Mv [a, c] J H2 → Wk a c (fun _ => True) m2 H2 → Td H2 v d → Q v H2 := fun hl g1 hd g2 w t => q _ _ _ hd (g1.trans g2) (w.1.le hl) t
    have w0 : Wk a c (fun _ => True) m H := ⟨dk, trivial⟩
    refine qk_set (P := fun z => ∃ r, z = .int r ∧ 0 ≤ r ∧ r < 7 ∧ (k = 0 → r < 4)) w0 (S := [a, c]) (m1 := m + 1) ?_ fun v3 d3 J3 hd3 g3 w3 t3 => ?_
    · refine ek_ifB (b := decide (((k + 1 : Nat) : Int) > 1)) (m1 := m) (ekb_pure bd0 fun J g => et_is (ev_cmpI (ev_var rfl (.int _)) ev_int rfl)) (fun hb => ?_) (fun hb => ?_)
      · have hb := of_decide_eq_true hb
        exact (ek_drawC bd0 rfl (by decide) (by decide) (by omega)).imp fun d ⟨r, e, r0, r1⟩ => ⟨r, e, r0, r1, fun z => by omega⟩
      · have hb := of_decide_eq_false hb
        exact (ek_drawC bd0 rfl (by decide) (by decide) (by omega)).imp fun d ⟨r, e, r0, r1⟩ => ⟨r, e, r0, by omega, fun _ => r1⟩
    obtain ⟨r, rfl, r0, r7, r4⟩ := hd3
    have e3 := t3.int_inv
    subst e3
    have hp3 := g3.keep pn _ hnn hpn
    have tn3 := tn.mono g3.tup
    refine qk_if (P := fun b => b = decide (r = 0)) w3 (ekb_pure bd0 fun J g => et_is (ev_eqI (ev_var rfl (.int r)) ev_int rfl)) (fun hb J4 g4 w4 => ?_) fun hb J4 g4 w4 => ?_
    · refine sk_ret (P := IsE (k + 1)) w4 (ek_oneW (m1 := m + 1 + 1) (n := 9) bd0 here0 rfl ?_ (by decide) (by decide) (by omega)) fun v d J hd g w t => fin (by omega) (g3.trans g4) hd g w t
      refine eall_cons (ek_ci bd0 (hI _ (by decide) (by decide))) (eall_cons (ek_ci bd0 (hI _ (by decide) (by decide))) (eall_cons (ek_ci bd0 (hI _ (by decide) (by decide))) (eall_cons (ek_cn bd0 (hI _ (by decide) (by decide))) (eall_cons (ek_ci bd0 (hI _ (by decide) (by decide))) (eall_cons (ek_cn bd0 (hI _ (by decide) (by decide))) (eall_cons (ek_ci bd0 (hI _ (by decide) (by decide))) (eall_cons (ek_cn bd0 (hI _ (by decide) (by decide))) (eall_cons ?_ eall_nil))))))))
      exact (ek_I0 (m1 := m + 1 + 1) (P2 := fun j => j = 99) (g' := fun i j => i - j) (ek_drawC bd0 rfl (by decide) (by decide) (by omega)) (ek_ci bd0 ⟨99, rfl, rfl⟩) (fun i j => rfl)).imp fun d ⟨i, j, ⟨i0, i1⟩, ej, ed⟩ => by
        rw [ed, ej]
        exact hI _ (by omega) (by omega)
    refine qk_if (P := fun b => b = decide (r < 4)) w4 (ekb_pure bd0 fun J g => et_is (ev_cmpI (ev_var rfl (.int r)) ev_int rfl)) (fun hb J5 g5 w5 => ?_) fun hb2 J5 g5 w5 => ?_
    · have g45 := g4.trans g5
      exact sk_ret (P := IsE (k + 1)) w5 (ek_oneV bd0 rfl rfl (g45.keep pn _ hnn hp3) hnn (tn3.mono g45.tup) hn0 hn1 hN (by omega)) fun v d J hd g w t => fin (by omega) (g3.trans g45) hd g w t
    have hb2 := of_decide_eq_false hb2.symm
    have hk0 : k ≠ 0 := fun z => by have := r4 z; omega
    have g45 := g4.trans g5
    have g35 := g3.trans g45
    have hp5 := g45.keep pn _ hnn hp3
    have tn5 := tn3.mono g45.tup
    have sub : ∀ {σ : St} {J : Hp} {m2 : Nat}, σ[0]? = some (some (.ref a)) → σ[1]? = some (some (.ref pn)) → σ[2]? = some (some (.int ((k + 1 : Nat) : Int))) → J pn = some (.lst nvs) → TdA J nvs nds → m2 + KE k ≤ 2 ^ 40 →
        EvK [a, c] a c (fun _ => True) m2 (m2 + KE k) (tCall (spK a c (KE k) (A_exprL k)) [] E0 (tCons (tVar 0) (tCons (tVar 1) (tCons (tOp (rI0 fun i j => .int (i - j)) (tVar 2) (tC (.int 1))) tNil)))) σ J (IsE k) := fun {σ J m2} h0 h1 h2 hj tj hm => by
      refine ek_call bd0 h0 (eka_lst h1 hj hnn tj (eka_cons (P := fun z => z = .int (k : Int)) (ek_pure bd0 fun L g => ev_I0 (i := ((k + 1 : Nat) : Int)) (j := 1) (ev_var h2 (.int _)) ev_int (by show V.int _ = V.int _; congr 1; omega)) eka_nil)) (fun xs hx => ?_) hm
      obtain ⟨ys, rfl, d, zs, rfl, rfl, rfl⟩ := hx
      exact ⟨nds, rfl, ⟨hn0, hn1, hn2⟩, by omega, rfl⟩
    refine qk_if (P := fun b => b = decide (r = 6)) w5 (ekb_pure bd0 fun J g => et_is (ev_eqI (ev_var rfl (.int r)) ev_int rfl)) (fun hb J6 g6 w6 => ?_) fun hb J6 g6 w6 => ?_
    · refine qk_set (P := fun z => ∃ i, z = .int i ∧ -9 ≤ i ∧ i ≤ 9) w6 (ek_oneW (m1 := m + 1) (n := 9) bd0 here0 rfl ?_ (by decide) (by decide) (by omega)) fun v7 d7 J7 hd7 g7 w7 t7 => ?_
      · refine eall_cons (ek_cn bd0 ⟨_, rfl, by decide, by decide⟩) (eall_cons (ek_cn bd0 ⟨_, rfl, by decide, by decide⟩) (eall_cons (ek_cn bd0 ⟨_, rfl, by decide, by decide⟩) (eall_cons (ek_cn bd0 ⟨_, rfl, by decide, by decide⟩) (eall_cons (ek_cn bd0 ⟨_, rfl, by decide, by decide⟩) (eall_cons (ek_ci bd0 ⟨_, rfl, by decide, by decide⟩) (eall_cons (ek_ci bd0 ⟨_, rfl, by decide, by decide⟩) (eall_cons (ek_ci bd0 ⟨_, rfl, by decide, by decide⟩) (eall_cons (ek_ci bd0 ⟨_, rfl, by decide, by decide⟩) eall_nil))))))))
      · obtain ⟨i, rfl, i0, i1⟩ := hd7
        have e7 := t7.int_inv
        subst e7
        have g67 := g6.trans g7
        refine sk_ret (P := IsE (k + 1)) (S := [a, c]) w7 (ek_tup3 (P1 := fun z => z = .str "times") (P2 := fun z => z = .int i) (P3 := IsE k) bd0 (ek_cs bd0 rfl) (ek_var bd0 rfl (.int i)) (sub rfl rfl rfl (g67.keep pn _ hnn hp5) (tn5.mono g67.tup) (by omega)) (fun d1 d2 d3 e1 e2 ⟨e, he, e3⟩ => ?_)) fun v d J hd g w t => fin (by omega) (g35.trans g67) hd g w t
        subst e1 e2 e3
        exact ⟨.times i e, ⟨⟨i0, i1⟩, he⟩, rfl⟩
    · refine qk_set (P := IsE k) w6 (sub rfl rfl rfl (g6.keep pn _ hnn hp5) (tn5.mono g6.tup) (by omega)) fun v7 d7 J7 hd7 g7 w7 t7 => ?_
      obtain ⟨e1, he1, rfl⟩ := hd7
      have g67 := g6.trans g7
      refine sk_ret (P := IsE (k + 1)) (S := [a, c]) w7 (ek_tup3 (m1 := m + 1 + KE k) (P1 := fun z => z = .str "plus" ∨ z = .str "minus") (P2 := fun z => z = e1.d) (P3 := IsE k) bd0 (ek_pure bd0 fun J g => ?_) (ek_var bd0 rfl t7) (sub rfl rfl rfl (g67.keep pn _ hnn hp5) (tn5.mono g67.tup) (by omega)) (fun d1 d2 d3 z1 z2 ⟨e2, he2, z3⟩ => ?_)) fun v d J hd g w t => fin (by omega) (g35.trans g67) hd g w t
      · intro H1 gH Q q
        refine el_lst (ds := [.str "plus", .str "minus"]) (ea_cons ev_str (ea_cons ev_str ea_nil)) (by show 2 ≤ 1000; decide) H1 Mv.rfl _ fun p vs ds J e hp g hx tx => ?_
        subst e
        have hmod : r % 2 = 0 ∨ r % 2 = 1 := by omega
        obtain ⟨x, y, rfl, tx1, tx2⟩ := tx.i2
        have z1 := tx1.str_inv
        have z2 := tx2.str_inv
        subst z1 z2
        refine (ev_I (i := r) (j := 2) (r := r % 2) (ev_intI (ev_var (i := 3) rfl (.int r))) ev_int (by decide) rfl : EvD _ [some (.ref a), some (.ref pn), some (.int ((k + 1 : Nat) : Int)), some (.int r), none, some v7] J _) J Mv.rfl _ fun v8 d8 J8 e8 g8 t8 => ?_
        subst e8
        have e8 := t8.int_inv
        subst e8
        rcases hmod with z | z
        · exact ⟨p, _, _, .str "plus", rfl, by rw [z], SqL.of (g8.get hx), rfl, q _ _ J8 (.inl rfl) (g.trans g8) (.str _)⟩
        · exact ⟨p, _, _, .str "minus", rfl, by rw [z], SqL.of (g8.get hx), rfl, q _ _ J8 (.inr rfl) (g.trans g8) (.str _)⟩
      · subst z2 z3
        rcases z1 with z1 | z1
        · subst z1; exact ⟨.plus e1 e2, ⟨he1, he2⟩, rfl⟩
        · subst z1; exact ⟨.minus e1 e2, ⟨he1, he2⟩, rfl⟩
end
end K27
namespace K27
open PySem PySem.Spec L2
open PyProof.Rows hiding St
local macro_rules | `(tactic| walk_at "td") => `(tactic| first | assumption | exact Td.int _ | exact Td.str _ | exact Td.bl _ | exact Td.non)
local macro_rules | `(tactic| walk_at "bq") => `(tactic| first | exact rfl | assumption | decide)
local macro_rules | `(tactic| walk_at "kb") => `(tactic| first | exact kii | exact ksi | exact kti | exact kib | exact kss | exact kis | exact kts | exact ktt | exact kst | exact kit)
local macro_rules | `(tactic| walk_at "ev") => `(tactic| first
  | with_reducible exact ev_int
  | with_reducible exact ev_str
  | with_reducible exact ev_bl
  | with_reducible exact ev_non
  | ((with_reducible refine' ev_var ?e ?t); (case e => exact rfl); (case t => walk_at "td"))
  | ((with_reducible refine' ev_ix ?a ?n ?z); (case a => walk_at "ev"); (case z => decide); (case n => exact rfl))
  | ((with_reducible refine' ev_isi ?a ?k); (case a => walk_at "ev"); (case k => walk_at "kb"))
  | ((with_reducible refine' ev_len ?a ?k); (case a => walk_at "ev"); (case k => exact rfl))
  | ((with_reducible refine' ev_cmpI ?a ?b ?r); (case a => walk_at "ev"); (case b => walk_at "ev"); (case r => walk_at "bq"))
  | ((with_reducible refine' ev_I0 ?a ?b ?r); (case a => walk_at "ev"); (case b => walk_at "ev"); (case r => exact rfl))
  | ((with_reducible refine' ev_eqS ?a ?b ?r); (case a => walk_at "ev"); (case b => walk_at "ev"); (case r => walk_at "bq"))
  | ((with_reducible refine' ev_eqI ?a ?b ?r); (case a => walk_at "ev"); (case b => walk_at "ev"); (case r => walk_at "bq"))
  | ((with_reducible refine' ev_neI ?a ?b ?r); (case a => walk_at "ev"); (case b => walk_at "ev"); (case r => walk_at "bq"))
  | ((with_reducible refine' ev_notV ?a ?r); (case a => walk_at "ev"); (case r => walk_at "bq"))
  | ((with_reducible refine' ev_chain ?a ?b ?c ?r); (case a => walk_at "ev"); (case b => walk_at "ev"); (case c => walk_at "ev"); (case r => walk_at "bq"))
  | ((with_reducible refine' ev_tup ?a ?l); (case a => walk_at "ea"); (case l => (show _ ≤ _; decide))))
local macro_rules | `(tactic| walk_at "ea") => `(tactic| first
  | with_reducible exact ea_nil
  | ((with_reducible refine' ea_cons ?a ?b); (case a => walk_at "ev"); (case b => walk_at "ea")))
local macro_rules | `(tactic| walk_at "et") => `(tactic| first
  | ((with_reducible refine' et_notI ?a ?r); (case a => walk_at "et"); (case r => walk_at "bq"))
  | ((with_reducible refine' et_is ?a); (case a => walk_at "ev"))
  | ((with_reducible refine' et_isB ?a); (case a => walk_at "ev"))
  | ((with_reducible refine' et_and ?a ?b ?c); (case a => walk_at "et"); (case b => (intro _; walk_at "et")); (case c => (intro z; first | exact z | (cases z; done) | rfl)))
  | ((with_reducible refine' et_or ?a ?b ?c); (case a => walk_at "et"); (case b => (intro _; walk_at "et")); (case c => (intro z; first | exact z | (cases z; done) | rfl))))
local macro_rules | `(tactic| walk_at "ev2") => `(tactic| first
  | walk_at "ev"
  | ((with_reducible refine' ev_inT ?a ?p ?s ?d ?f ?x ?b); (case a => walk_at "ev"); (case p => exact evv_c); (case s => assumption); (case d => exact rfl); (case f => exact rfl); (case x => exact rfl); (case b => walk_at "bq"))
  | ((with_reducible refine' ev_inU2 ?a ?p ?l ?d ?x ?f ?y ?b); (case a => walk_at "ev"); (case p => walk_at "ea"); (case l => (show _ ≤ _; decide)); (case d => exact rfl); (case x => exact rfl); (case f => exact rfl); (case y => exact rfl); (case b => walk_at "bq"))
  | ((with_reducible refine' ev_slA ?a ?l ?h ?r); (case a => walk_at "ev"); (case l => walk_at "eo"); (case h => walk_at "eo"); (case r => exact rfl)))
local macro_rules | `(tactic| walk_at "et2") => `(tactic| first
  | walk_at "et"
  | ((with_reducible refine' et_is ?a); (case a => walk_at "ev2"))
  | ((with_reducible refine' et_isB ?a); (case a => walk_at "ev2")))
local macro_rules | `(tactic| walk_at "eo") => `(tactic| first
  | with_reducible exact eo_none
  | ((with_reducible refine' eo_some ?a); (case a => walk_at "ev")))
section
variable {S : List Addr} {a c : Addr} {R : Hp → Prop} {K : PySem.W.Frag} {σ : St} {H : Hp} {te ta tn : TE} {P : PyData → Prop} {m m1 : Nat} {j : Nat}
/-- [e for k in range(n)] -/
theorem ekl_range {κ N lim : Nat} (B : Bd S a c R) (hS : ∀ {m : Nat} (J : Hp), Wk a c R m J → ∀ b ∈ S, J b ≠ none) (hn : EvK S a c R m m1 tn σ H (fun z => ∃ i : Int, z = .int i ∧ i ≤ N ∧ -(2 ^ 40) ≤ i)) (hN : N ≤ 1000) (hlim : m1 + N * κ ≤ lim)
    (he : ∀ x J m2, 0 ≤ x → x < (N : Int) → Mv S H J → m2 + κ ≤ lim → EvK S a c R m2 (m2 + κ) te (σ.set j (some (.int x))) J P) : EvKL S a c R m (m1 + N * κ) (tLc (iRng1 (tCons tn tNil)) (gName j) tYes te [j]) σ H (fun ds => ds.length ≤ N ∧ ∀ d ∈ ds, P d) := fun H1 g w Q q =>
  hn H1 g w _ fun v z H2 ⟨i, ez, hi, hi2⟩ g2 w2 tz => by
    subst ez
    have e1 := tz.int_inv
    subst e1
    refine ⟨i, rfl, by omega, by omega, fun D hD => ?_⟩
    have hDS : D ∉ S := fun z => hS H2 w2 D z hD
    have hin : i.toNat ≤ N := by omega
    refine lc_range (fun k J => Mv S H2 J ∧ ∃ acc es, J D = some (.lst acc) ∧ TdA J acc es ∧ es.length = k ∧ (∀ d ∈ es, P d) ∧ Wk a c R (m1 + k * κ) J) ?_ (fun k J hk hp => ?_) fun J hp => ?_
    · have gn := Gr.new (o := .lst []) hD
      exact ⟨gn.up, [], [], upd_same, .nil, rfl, fun d h => (nomatch h), by rw [Nat.zero_mul, Nat.add_zero]; exact B.put hDS w2⟩
    · obtain ⟨gJ, acc, es, hJ, ts, hl, hP, wJ⟩ := hp
      show wipe ((wipe σ [j]).set j (some (.int (0 + (k : Int))))) [j] = wipe σ [j] ∧ tYes _ _ _
      rw [wipe_set]
      refine ⟨wipe_set2 σ j _, ?_⟩
      simp only [tYes, ↓reduceIte]
      have hk2 : (k + 1) * κ ≤ N * κ := Nat.mul_le_mul_right κ (by omega)
      have hk3 : (k + 1) * κ = k * κ + κ := Nat.succ_mul k κ
      refine he (0 + (k : Int)) J (m1 + k * κ) (by omega) (by omega) ((g.trans g2).trans gJ) (by omega) J Mv.rfl wJ _ fun y d J4 pd g4 w4 ty => ?_
      have hJ4 : J4 D = some (.lst acc) := g4.keep D _ hDS hJ
      have mp := Tx.put (u := .lst (acc ++ [y])) hJ4 lst_tup
      refine ⟨acc, hJ4, small1000 (by rw [ts.length]; omega), ?_, acc ++ [y], es ++ [d], upd_same, ((ts.mono g4.tup).append (.one ty)).mono mp, by rw [List.length_append, hl]; rfl, fun e he' => ?_, ?_⟩
      · refine Mv.drop (S := D :: S) (((gJ.trans g4).wide fun b hb => List.mem_cons_of_mem _ hb).trans (Mv.put hJ4 List.mem_cons_self lst_tup)) fun b hb => ?_
        rcases List.mem_cons.mp hb with z | z
        · rw [z]; exact .inr hD
        · exact .inl z
      · rcases List.mem_append.mp he' with z | z
        · exact hP e z
        · rw [List.mem_singleton.mp z]; exact pd
      · rw [hk3, ← Nat.add_assoc]; exact B.put hDS w4
    · obtain ⟨gJ, acc, es, hJ, ts, hl, hP, wJ⟩ := hp
      have hk2 : i.toNat * κ ≤ N * κ := Nat.mul_le_mul_right κ hin
      exact q D acc es J ⟨by omega, hP⟩ (g2.low D hD) (g2.trans gJ) ⟨wJ.1.le (by omega), wJ.2⟩ hJ ts
end
theorem str_append_len (x y : Str) : (x ++ y).length = x.length + y.length := by
  show (x.cps ++ y.cps).size = _
  rw [Array.size_append]; rfl
theorem str_append_mem {x y : Str} {ch : Nat} (h : ch ∈ (x ++ y).cps.toList) : ch ∈ x.cps.toList ∨ ch ∈ y.cps.toList := by
  have e : (x ++ y).cps.toList = x.cps.toList ++ y.cps.toList := by
    show (x.cps ++ y.cps).toList = _
    rw [Array.toList_append]
  rw [e] at h
  exact List.mem_append.mp h
/-- a text of n signs at most, all of them ASCII -/
def Asc (n : Nat) (x : Str) : Prop := x.length ≤ n ∧ ∀ ch ∈ x.cps.toList, ch < 128
theorem Asc.append {n k : Nat} {x y : Str} (h : Asc n x) (h2 : Asc k y) : Asc (n + k) (x ++ y) := ⟨by rw [str_append_len]; exact Nat.add_le_add h.1 h2.1, fun ch hc => (str_append_mem hc).elim (h.2 ch) (h2.2 ch)⟩
theorem Asc.join : ∀ {ys : List Str}, (∀ y ∈ ys, Asc 1 y) → Asc ys.length (Str.join "" ys)
  | [], _ => ⟨Nat.le_refl _, fun ch h => by cases h⟩
  | [y], h => h y (List.mem_singleton.mpr rfl)
  | y :: z :: r, h => by
    have h1 := h y List.mem_cons_self
    have h2 := Asc.join (ys := z :: r) fun x hx => h x (List.mem_cons_of_mem _ hx)
    have e : Str.join "" (y :: z :: r) = y ++ "" ++ Str.join "" (z :: r) := rfl
    rw [e]
    have h3 := (h1.append (k := 0) (y := "") ⟨Nat.le_refl _, fun ch h => by cases h⟩).append h2
    exact ⟨by have := h3.1; show _ ≤ (z :: r).length + 1; omega, h3.2⟩
section
variable {S : List Addr} {a c : Addr} {R : Hp → Prop} {K : PySem.W.Frag} {σ : St} {H : Hp} {ta tb : TE} {P : PyData → Prop} {m m1 m2 : Nat}
abbrev rJoinQ (K : PySem.W.Frag) : V → List V → Hp → VK → Prop := fun x xs H Q => ∃ a p, ∃ ys : List Str, x = .str a ∧ xs = [.ref p] ∧ (SqL K H p (ys.map V.str) ∨ SqT K H p (ys.map V.str)) ∧ (ys.map (·.length)).sum + ys.length * a.length ≤ 16777216 ∧ Q (.str (Txt.join a ys)) H
theorem strs_of : ∀ {ds : List PyData}, (∀ d ∈ ds, ∃ y, d = .str y ∧ Asc 1 y) → ∃ ys : List Str, ds = ys.map PyData.str ∧ ∀ y ∈ ys, Asc 1 y
  | [], _ => ⟨[], rfl, fun y h => nomatch h⟩
  | d :: r, h => by
    obtain ⟨y, rfl, hy⟩ := h d List.mem_cons_self
    obtain ⟨ys, rfl, h2⟩ := strs_of (ds := r) fun x hx => h x (List.mem_cons_of_mem _ hx)
    exact ⟨y :: ys, rfl, fun z hz => (List.mem_cons.mp hz).elim (fun e => by rw [e]; exact hy) (h2 z)⟩
theorem sum_len : ∀ {ys : List Str}, (∀ y ∈ ys, Asc 1 y) → (ys.map (·.length)).sum ≤ ys.length
  | [], _ => Nat.le_refl _
  | y :: r, h => by
    have h1 := (h y List.mem_cons_self).1
    have h2 := sum_len (ys := r) fun x hx => h x (List.mem_cons_of_mem _ hx)
    rw [List.map_cons, List.sum_cons, List.length_cons]; omega
theorem ek_join {N : Nat} (hN : N ≤ 1000) (h : EvKL S a c R m m1 ta σ H (fun ds => ds.length ≤ N ∧ ∀ d ∈ ds, ∃ y, d = .str y ∧ Asc 1 y)) : EvK S a c R m m1 (tM1 (rJoinQ K) (tC (.str "")) ta) σ H (fun z => ∃ x, z = .str x ∧ Asc N x) := fun H1 g w Q q =>
  ⟨⟨"", rfl⟩, h H1 g w _ fun p vs ds H2 ⟨hl, hall⟩ hp g2 w2 hx ts => by
    obtain ⟨ys, rfl, hy⟩ := strs_of hall
    rw [List.length_map] at hl
    have e : vs = ys.map V.str := ts.scal (by rw [List.map_map, List.map_map]; rfl)
    subst e
    have hs := sum_len hy
    refine ⟨"", p, ys, rfl, rfl, .inl (SqL.of hx), ?_, q _ _ H2 ⟨_, rfl, ?_⟩ g2 w2 (.str _)⟩
    · have e0 : ("" : Str).length = 0 := rfl
      rw [e0]; omega
    · have e1 : Txt.join "" ys = Str.join "" ys := StrLaws.glued_eq_join "" ys
      rw [e1]
      have hj := Asc.join hy
      exact ⟨Nat.le_trans hj.1 hl, hj.2⟩⟩
/-- [..] + [..], both new -/
theorem ekl_cat {P1 P2 P : List PyData → Prop} (B : Bd S a c R) (hS : ∀ {m : Nat} (J : Hp), Wk a c R m J → ∀ b ∈ S, J b ≠ none) (h1 : EvKL S a c R m m1 ta σ H P1) (h2 : EvKL S a c R m1 m2 tb σ H P2) (hl : ∀ xs, P1 xs → xs.length ≤ 1000) (hl2 : ∀ xs, P2 xs → xs.length ≤ 1000) (hP : ∀ xs ys, P1 xs → P2 ys → P (xs ++ ys)) :
    EvKL S a c R m m2 (tOp rCat ta tb) σ H P := fun H1 g w Q q =>
  h1 H1 g w _ fun p vs ds H2 pd hp g2 w2 hx ts => h2 H2 (g.trans g2) w2 _ fun p' vs' ds' H3 pd' hp' g3 w3 hx' ts' => by
    have hpS : p ∉ S := fun z => hS H1 w p z hp
    refine ⟨p, p', vs, vs', rfl, rfl, g3.keep p _ hpS hx, hx', by have := hl ds pd; have := hl2 ds' pd'; have := ts.length; have := ts'.length; have := sizeLine_eq; omega, fun b hb => ?_⟩
    have gn := Gr.new (o := .lst (vs ++ vs')) hb
    exact q b _ _ _ (hP _ _ pd pd') (g2.low b (g3.low b hb)) ((g2.trans g3).trans gn.up) (B.grow gn w3) upd_same (((ts.mono g3.tup).append ts').mono gn.tup)
theorem ekl_pure {P : List PyData → Prop} (B : Bd S a c R) (h : ∀ J, Mv S H J → EvL ta σ J P) : EvKL S a c R m m ta σ H P := fun H1 g w Q q => h H1 g H1 Mv.rfl Q fun p vs ds H2 pd hp g2 hx ts => q p vs ds H2 pd hp g2.up (B.grow g2 w) hx ts
theorem EvKL.imp {P P' : List PyData → Prop} (h : EvKL S a c R m m1 ta σ H P) (i : ∀ ds, P ds → P' ds) : EvKL S a c R m m1 ta σ H P' := fun H1 g w Q q => h H1 g w Q fun p vs ds H2 pd => q p vs ds H2 (i ds pd)
theorem sk_retL {D : Ends} {P : List PyData → Prop} (w : Wk a c R m H) (h : EvKL S a c R m m1 ta σ H P) (k : ∀ p vs ds J, P ds → H p = none → Mv S H J → Wk a c R m1 J → J p = some (.lst vs) → TdA J vs ds → D.rt (.ref p) J) : tRet ta D σ H := h H Mv.rfl w _ fun p vs ds J pd hp g w2 hx t => k p vs ds J pd hp g w2 hx t
end
def spNames (a c : Addr) : Sp := fun vs H Q _ => ∃ m, vs = [.ref a] ∧ Dk a c m H ∧ m + 40 ≤ 2 ^ 40 ∧ ∀ p ws ds J, NamesD ds → H p = none → Mv [a, c] H J → Dk a c (m + 40) J → J p = some (.lst ws) → TdA J ws ds → Q (.ref p) J
def spNamesE : Sp := fun vs H Q E => ∃ a c, spNames a c vs H Q E
section
variable {P : Program} {w : World} {K : PySem.W.Frag} {mg : Str → Option Value} {base : Heap}
def letters : Str := "abcdefghijklmnopqrstuvwxyz"
def words : List Str := ["turns", "items", "total", "plus", "less", "times", "minus", "worth", "hands", "rows", "none", "place"]
theorem words_ok : ∀ x ∈ words, NOk x := fun x hx => by
  have h : words.all (fun x => decide (x.length ≤ 16) && x.cps.toList.all fun ch => decide (ch < 128)) = true := by decide +kernel
  have h2 := List.all_eq_true.mp h x hx
  rw [Bool.and_eq_true] at h2
  exact ⟨of_decide_eq_true h2.1, fun ch hc => of_decide_eq_true (List.all_eq_true.mp h2.2 ch hc)⟩
def signs : Str := "abcdefghijklmnopqrstuvwxyz0123456789"
abbrev s__law_names : Stmt := top 52
theorem sc__law_names : FnScope ["_law_deck_here", "_law_letters", "_law_signs", "_law_words", "_law_at", "_law_size", "_law_left", "_law_k", "_law_right"] ["_law_deck_here"] (defScope s__law_names) := ⟨rfl, rfl, rfl, by decide +kernel, rfl, by decide +kernel, by decide +kernel⟩
theorem df_names (F : Fn K mg "_law_names" s__law_names ["_law_deck_here"]) (T : Gb K w mg) (G__law_draw0 : ∀ a c, Df P w K mg base 1 "_law_draw" ["_law_deck_here", "_law_many"] (spK a c 1 A_draw)) (G__law_one0 : ∀ a c, Df P w K mg base 2 "_law_one" ["_law_deck_here", "_law_items"] (spK a c 1 A_oneL)) (G_oneS0 : ∀ a c, Df P w K mg base 2 "_law_one" ["_law_deck_here", "_law_items"] (spK a c 1 A_oneS)) :
    Df P w K mg base 3 "_law_names" ["_law_deck_here"] spNamesE := by
  refine df_of F sc__law_names (fun vs H Q E h => ?_) (fun f cdv A outer s H vs Q E hr h => ?_)
  · obtain ⟨_, _, _, rfl, _⟩ := h
    rfl
  obtain ⟨a, c, m, rfl, dk, hm, q⟩ := h
  have G__law_draw := G__law_draw0 a c
  have G__law_one := G__law_one0 a c
  have G_oneS := G_oneS0 a c
  have here0 : ∀ {m : Nat} (J : Hp), Wk a c (fun _ => True) m J → ∀ b ∈ [a, c], J b ≠ none := fun J w => w.1.here
  refine ⟨_, (pss_cons (ps_set (i := 1) sc__law_names.nd rfl (Or.inr rfl) pe_str) (pss_cons (ps_set (i := 2) sc__law_names.nd rfl (Or.inr rfl) (pe_op op_add_str (pv 1) pe_str)) (pss_cons (ps_set (i := 3) sc__law_names.nd rfl (Or.inl rfl) (pe_lst (pa_cons pe_str (pa_cons pe_str (pa_cons pe_str (pa_cons pe_str (pa_cons pe_str (pa_cons pe_str (pa_cons pe_str (pa_cons pe_str (pa_cons pe_str (pa_cons pe_str (pa_cons pe_str (pa_cons pe_str pa_nil)))))))))))))) (pss_cons (ps_par (i := 4) (j := 5) (by rfl) sc__law_names.nd rfl rfl (by decide) rfl rfl (pa_cons (pe_df G__law_draw (hr.mono (by first | decide | omega)) (pa_cons (pv 0) (pa_cons pe_int pa_nil))) (pa_cons (pe_df G__law_one (hr.mono (by first | decide | omega)) (pa_cons (pv 0) (pa_cons (pe_lst (pa_cons pe_int (pa_cons pe_int (pa_cons pe_int (pa_cons pe_int (pa_cons pe_int (pa_cons pe_int (pa_cons pe_int pa_nil)))))))) pa_nil))) pa_nil)) (by rfl)) (pss_cons (ps_if (pt_cmpR op_lt (pv 4) pe_int (nomark _)) (pss_one (ps_ret (pe_op op_cat (pe_lst (pa_cons pe_str pa_nil)) (pe_slice (k_slL K) (pv 3) (po_some (pv 4)) (po_some (pe_op op_add (pv 4) pe_int)))))) pss_nil) (pss_cons (ps_set (i := 6) sc__law_names.nd rfl (Or.inr rfl) (pe_join pe_str (pe_lc (own := [("_law_k", 7)]) (by rfl) sc__law_names.nd (pi_range1 rfl T.range_ (pa_cons (pv 5) pa_nil)) (blkOk_by (own := [("_law_k", 7)]) (N := ["_law_deck_here", "_law_letters", "_law_signs", "_law_words", "_law_at", "_law_size", "_law_left", "_law_k", "_law_right"]) (sc := defScope s__law_names) (by decide +kernel)) (fun _ _ _ _ _ => pg_name (i := 7) sc__law_names.nd rfl (Or.inl rfl)) (fun _ _ _ _ _ => pts_nil) (fun _ _ _ _ _ => (pe_df G_oneS (hr.mono (by first | decide | omega)) (pa_cons (pv 0) (pa_cons (pv 1) pa_nil))))))) (pss_cons (ps_set (i := 8) sc__law_names.nd rfl (Or.inr rfl) (pe_join pe_str (pe_lc (own := [("_law_k", 7)]) (by rfl) sc__law_names.nd (pi_range1 rfl T.range_ (pa_cons (pe_df G__law_draw (hr.mono (by first | decide | omega)) (pa_cons (pv 0) (pa_cons (pe_op op_sub pe_int (pv 5)) pa_nil))) pa_nil)) (blkOk_by (own := [("_law_k", 7)]) (N := ["_law_deck_here", "_law_letters", "_law_signs", "_law_words", "_law_at", "_law_size", "_law_left", "_law_k", "_law_right"]) (sc := defScope s__law_names) (by decide +kernel)) (fun _ _ _ _ _ => pg_name (i := 7) sc__law_names.nd rfl (Or.inl rfl)) (fun _ _ _ _ _ => pts_nil) (fun _ _ _ _ _ => (pe_df G_oneS (hr.mono (by first | decide | omega)) (pa_cons (pv 0) (pa_cons (pv 2) pa_nil))))))) (pss_one (ps_ret (pe_op op_cat (pe_lst (pa_cons pe_str pa_nil)) (pe_lc (own := [("_law_k", 7)]) (by rfl) sc__law_names.nd (pi_range1 rfl T.range_ (pa_cons pe_int pa_nil)) (blkOk_by (own := [("_law_k", 7)]) (N := ["_law_deck_here", "_law_letters", "_law_signs", "_law_words", "_law_at", "_law_size", "_law_left", "_law_k", "_law_right"]) (sc := defScope s__law_names) (by decide +kernel)) (fun _ _ _ _ _ => pg_name (i := 7) sc__law_names.nd rfl (Or.inl rfl)) (fun _ _ _ _ _ => pts_nil) (fun _ _ _ _ _ => (pe_op op_add_str (pe_op op_add_str (pv 6) (pe_ix ix_str pe_str (pv 7) (fun _ _ => rfl))) (pv 8)))))))))))))), ?_⟩
  refine q_set Mv.rfl (P := fun z => z = .str letters) ev_str fun v1 d1 J1 e1 g1 t1 => ?_
  subst e1
  have e1 := t1.str_inv
  subst e1
  refine q_set Mv.rfl (P := fun z => z = .str signs) (fun H1 g Q q => ⟨_, rfl, letters, "0123456789", rfl, rfl, by decide +kernel, q _ _ H1 (congrArg PyData.str (show letters ++ "0123456789" = signs by decide +kernel)) Mv.rfl (.str _)⟩) fun v2 d2 J2 e2 g2 t2 => ?_
  subst e2
  have e2 := t2.str_inv
  subst e2
  have w2 : Wk a c (fun _ => True) m J2 := ⟨dk.mono (g1.trans g2), trivial⟩
  have g12 := g1.trans g2
  refine q_setL Mv.rfl (el_lst (ds := words.map .str) (by unfold words; repeat (first | exact ea_nil | refine ea_cons ev_str ?_)) (by show 12 ≤ 1000; decide)) fun pw ws wds J3 e3 hpw g3 hx3 t3 => ?_
  subst e3
  have w3 := bd0.grow g3 w2
  have g13 := g12.trans g3
  have hpwS : pw ∉ [a, c] := fun z => here0 J2 w2 pw z hpw
  refine qk_par (S := [a, c]) (m1 := m + 2) (PA := fun xs => ∃ i j : Int, xs = [.d (.int i), .d (.int j)] ∧ 0 ≤ i ∧ i < 60 ∧ 0 ≤ j ∧ j ≤ 7) w3 (fun H1 g w Q q => eka_cons (m1 := m + 1) (P := fun z => ∃ r : Int, z = .int r ∧ 0 ≤ r ∧ r < 60) (ek_drawC bd0 rfl (by decide) (by decide) (by omega)) (eka_cons (P := fun z => ∃ r : Int, z = .int r ∧ 0 ≤ r ∧ r ≤ 7) (ek_oneW (m1 := m + 1) (n := 7) bd0 here0 rfl ?_ (by decide) (by decide) (by omega)) eka_nil) H1 g w Q fun vs xs H2 hx g w2 ts => ?_) (fun v4 v5 x4 x5 J4 hx g4 w4 r4 r5 => ?_) (fun xs ⟨i, j, e, _⟩ => by rw [e]; rfl)
  · repeat (first | exact eall_nil | refine eall_cons (ek_ci bd0 ⟨_, rfl, by decide, by decide⟩) ?_)
  · obtain ⟨d, ys, rfl, ⟨i, rfl, i0, i1⟩, d2, zs, rfl, ⟨j, rfl, j0, j1⟩, rfl⟩ := hx
    exact q _ _ H2 ⟨i, j, rfl, i0, i1, j0, j1⟩ g w2 ts
  obtain ⟨i, j, e, i0, i1, j0, j1⟩ := hx
  injection e with e4 e
  injection e with e5 _
  subst e4 e5
  have e4 := Td.int_inv r4
  have e5 := Td.int_inv r5
  subst e4 e5
  have hx4 := g4.keep pw _ hpwS hx3
  have t4 := t3.mono g4.tup
  have fin : ∀ {J J5 : Hp} {m2 : Nat} {p : Addr} {vs : List V} {ds : List PyData}, m2 ≤ m + 40 → Mv [a, c] H J → NamesD ds → J p = none → Mv [a, c] J J5 → Wk a c (fun _ => True) m2 J5 → J5 p = some (.lst vs) → TdA J5 vs ds → Q (.ref p) J5 := fun hl g1 hd hp g2 w hx t => q _ _ _ _ hd (g1.low _ hp) (g1.trans g2) (w.1.le hl) hx t
  have hn1 : NOk "n" := ⟨by decide, by decide +kernel⟩
  have one : ∀ {σ : St} {J : Hp} {m2 : Nat}, EvKL [a, c] a c (fun _ => True) m2 m2 (tLst (tCons (tC (.str "n")) tNil)) σ J (fun ds => ds = [.str "n"]) := fun {σ J m2} => ekl_pure bd0 fun J g => el_lst (ea_cons ev_str ea_nil) (by show 1 ≤ 1000; decide)
  refine qk_if (P := fun b => b = decide (i < 10)) w4 (ekb_pure bd0 fun J g => et_is (ev_cmpI (ev_var rfl (.int i)) ev_int rfl)) (fun hb J5 g5 w5 => ?_) fun hb J5 g5 w5 => ?_
  · refine sk_retL w5 (ekl_cat (P := NamesD) (P1 := fun ds => ds = [.str "n"]) (P2 := fun ds => ds.length ≤ 12 ∧ ∀ d ∈ ds, ∃ x, d = .str x ∧ NOk x) bd0 here0 one (ekl_pure bd0 fun J g => ?_) (fun xs e => by rw [e]; decide) (fun xs e => by omega) (fun xs ys e1 e2 => ?_)) fun p vs ds J hd hp g w hx t => fin (by omega) (g13.up.trans (g4.trans g5)) hd hp g w hx t
    · intro H1 gH Q q
      refine (evv_var rfl : EvV (tVar 3) _ J (.ref pw)) H1 gH _ fun H2 g2 => ?_
      refine (eo_some (ev_var rfl (.int i)) : EvO _ _ H2 (some i)) H2 Mv.rfl _ fun H3 g3 => ?_
      refine (eo_some (ev_I0 (r := i + 3) (ev_var rfl (.int i)) ev_int rfl) : EvO _ _ H3 (some (i + 3))) H3 Mv.rfl _ fun H4 g4' => ?_
      have gA := ((gH.trans g2).trans g3).trans g4'
      have hx6 := gA.get (((g5.trans g)).keep pw _ hpwS hx4)
      have t6 := (t4.mono (g5.trans g).tup).mono gA.tup
      refine ⟨pw, ws, rfl, SqL.of hx6, fun p hp => ?_⟩
      have gn := Gr.new (o := .lst (cutV ws (some i) (some (i + 3)))) hp
      refine q p _ _ _ ?_ (((g2.trans g3).trans g4').low p hp) (((g2.trans g3).trans g4').trans gn) upd_same ((t6.cut (some i) (some (i + 3))).mono gn.tup)
      unfold K27.cut
      refine ⟨?_, fun d hd => ?_⟩
      · rw [List.length_take, List.length_drop]; show min _ (12 - _) ≤ 12; omega
      · have hd := List.mem_of_mem_drop (List.mem_of_mem_take hd)
        obtain ⟨x, hx, rfl⟩ := List.mem_map.mp hd
        exact ⟨x, rfl, words_ok x hx⟩
    · subst e1
      refine ⟨by show 0 < _ + 1; omega, by show ys.length + 1 ≤ 1000; omega, fun d hd => ?_⟩
      rcases List.mem_cons.mp hd with hd | hd
      · rw [hd]; exact ⟨_, rfl, hn1⟩
      · exact e2.2 d hd
  have asc1 : ∀ {x : Str}, (∀ ch ∈ x.cps.toList, ch < 128) → ∀ ch ∈ x.cps.toList, ∃ y, PyData.str ⟨#[ch]⟩ = .str y ∧ Asc 1 y := fun {x} h ch hc => ⟨_, rfl, Nat.le_refl _, fun z hz => by
    have hz : z ∈ [ch] := hz
    rw [List.mem_singleton.mp hz]; exact h ch hc⟩
  have oneS : ∀ {σ : St} {J : Hp} {m2 k : Nat} {x : Str}, σ[0]? = some (some (.ref a)) → σ[k]? = some (some (.str x)) → 0 < x.length → x.length ≤ 1000 → (∀ ch ∈ x.cps.toList, ch < 128) → m2 + 1 ≤ m + 40 →
      EvK [a, c] a c (fun _ => True) m2 (m2 + 1) (tCall (spK a c 1 A_oneS) [] E0 (tCons (tVar 0) (tCons (tVar k) tNil))) σ J (fun z => ∃ y, z = .str y ∧ Asc 1 y) := fun {σ J m2 k x} h0 h1 h2 h3 h4 hm2 =>
    ek_call bd0 h0 (eka_cons (P := fun z => z = .str x) (ek_var bd0 h1 (.str x)) eka_nil) (fun xs hx => by
      obtain ⟨d, ys, rfl, rfl, rfl⟩ := hx
      exact ⟨x, rfl, h2, h3, asc1 h4⟩) (by omega)
  have g45 := g13.up.trans (g4.trans g5)
  refine qk_set (S := [a, c]) (m1 := m + 2 + 7 * 1) (P := fun z => ∃ x, z = .str x ∧ Asc 7 x) w5 (ek_join (by decide) (ekl_range (lim := m + 40) (κ := 1) (N := 7) (m1 := m + 2) bd0 here0 (ek_pure bd0 fun J g => (ev_var rfl (.int j)).imp fun d e => ⟨j, e, j1, by omega⟩) (by decide) (by omega) fun x J m2 x0 x1 g hl => oneS rfl rfl (by decide) (by decide) (by decide +kernel) (by omega))) fun v6 d6 J6 hd6 g6 w6 t6 => ?_
  obtain ⟨xl, rfl, axl⟩ := hd6
  have e6 := t6.str_inv
  subst e6
  refine qk_set (S := [a, c]) (m1 := m + 2 + 7 * 1 + 1 + 8 * 1) (P := fun z => ∃ x, z = .str x ∧ Asc 8 x) w6 (ek_join (by decide) (ekl_range (lim := m + 40) (κ := 1) (N := 8) (m1 := m + 2 + 7 * 1 + 1) bd0 here0 (ek_draw (P1 := fun z => 0 < z ∧ z ≤ 8) bd0 rfl (ek_pure bd0 fun J g => (ev_I0 (r := 8 - j) ev_int (ev_var rfl (.int j)) rfl).imp fun d e => ⟨8 - j, e, by omega, by omega⟩) (fun k hk => ⟨hk.1, by omega⟩) (fun k r hk r0 r1 => ⟨r, rfl, by omega, by omega⟩) (by omega)) (by decide) (by omega) fun x J m2 x0 x1 g hl => oneS rfl rfl (by decide) (by decide) (by decide +kernel) (by omega))) fun v7 d7 J7 hd7 g7 w7 t7 => ?_
  obtain ⟨xr, rfl, axr⟩ := hd7
  have e7 := t7.str_inv
  subst e7
  refine sk_retL w7 (ekl_cat (P := NamesD) (P1 := fun ds => ds = [.str "n"]) (P2 := fun ds => ds.length ≤ 3 ∧ ∀ d ∈ ds, ∃ x, d = .str x ∧ NOk x) bd0 here0 one (ekl_range (lim := m + 40) (κ := 0) (N := 3) bd0 here0 (ek_pure bd0 fun J g => ev_int.imp fun d e => ⟨3, e, by decide, by decide⟩) (by decide) (by omega) fun x J m2 x0 x1 g hl => ek_pure bd0 fun L gL H1 gH Q q => ?_) (fun xs e => by rw [e]; decide) (fun xs e => by omega) (fun xs ys e1 e2 => ?_)) fun p vs ds J hd hp g w hx t => fin (by omega) (g45.trans (g6.trans g7)) hd hp g w hx t
  · have hx3 : x = 0 ∨ x = 1 ∨ x = 2 := by omega
    have hch : ∃ ch, atI ("qxz" : Str).cps.toList x = some ch ∧ ch < 128 := by
      rcases hx3 with z | z | z <;> subst z
      · exact ⟨_, rfl, by decide⟩
      · exact ⟨_, rfl, by decide⟩
      · exact ⟨_, rfl, by decide⟩
    obtain ⟨ch, hat, hlt⟩ := hch
    have a1 : Asc 1 ⟨#[ch]⟩ := ⟨Nat.le_refl _, fun z hz => by
      have hz : z ∈ [ch] := hz
      rw [List.mem_singleton.mp hz]; exact hlt⟩
    have hA := (axl.append a1).append axr
    refine ⟨_, rfl, _, rfl, "qxz", x, ch, rfl, rfl, by decide, hat, xl, ⟨#[ch]⟩, rfl, rfl, sizeOk (by have := axl.1; have := a1.1; omega), _, rfl, xl ++ ⟨#[ch]⟩, xr, rfl, rfl, sizeOk (by have := (axl.append a1).1; have := axr.1; omega), ?_⟩
    exact q _ _ H1 ⟨_, rfl, hA.1, hA.2⟩ Mv.rfl (.str _)
  · subst e1
    refine ⟨by show 0 < _ + 1; omega, by show ys.length + 1 ≤ 1000; omega, fun d hd => ?_⟩
    rcases List.mem_cons.mp hd with hd | hd
    · rw [hd]; exact ⟨_, rfl, hn1⟩
    · exact e2.2 d hd
end
end K27
namespace K27
open PySem PySem.Spec L2
open PyProof.Rows hiding St
local macro_rules | `(tactic| walk_at "td") => `(tactic| first | assumption | exact Td.int _ | exact Td.str _ | exact Td.bl _ | exact Td.non)
local macro_rules | `(tactic| walk_at "bq") => `(tactic| first | exact rfl | assumption | decide)
local macro_rules | `(tactic| walk_at "kb") => `(tactic| first | exact kii | exact ksi | exact kti | exact kib | exact kss | exact kis | exact kts | exact ktt | exact kst | exact kit)
local macro_rules | `(tactic| walk_at "ev") => `(tactic| first
  | with_reducible exact ev_int
  | with_reducible exact ev_str
  | with_reducible exact ev_bl
  | with_reducible exact ev_non
  | ((with_reducible refine' ev_var ?e ?t); (case e => exact rfl); (case t => walk_at "td"))
  | ((with_reducible refine' ev_ix ?a ?n ?z); (case a => walk_at "ev"); (case z => decide); (case n => exact rfl))
  | ((with_reducible refine' ev_isi ?a ?k); (case a => walk_at "ev"); (case k => walk_at "kb"))
  | ((with_reducible refine' ev_len ?a ?k); (case a => walk_at "ev"); (case k => exact rfl))
  | ((with_reducible refine' ev_cmpI ?a ?b ?r); (case a => walk_at "ev"); (case b => walk_at "ev"); (case r => walk_at "bq"))
  | ((with_reducible refine' ev_I0 ?a ?b ?r); (case a => walk_at "ev"); (case b => walk_at "ev"); (case r => exact rfl))
  | ((with_reducible refine' ev_eqS ?a ?b ?r); (case a => walk_at "ev"); (case b => walk_at "ev"); (case r => walk_at "bq"))
  | ((with_reducible refine' ev_eqI ?a ?b ?r); (case a => walk_at "ev"); (case b => walk_at "ev"); (case r => walk_at "bq"))
  | ((with_reducible refine' ev_neI ?a ?b ?r); (case a => walk_at "ev"); (case b => walk_at "ev"); (case r => walk_at "bq"))
  | ((with_reducible refine' ev_notV ?a ?r); (case a => walk_at "ev"); (case r => walk_at "bq"))
  | ((with_reducible refine' ev_chain ?a ?b ?c ?r); (case a => walk_at "ev"); (case b => walk_at "ev"); (case c => walk_at "ev"); (case r => walk_at "bq"))
  | ((with_reducible refine' ev_tup ?a ?l); (case a => walk_at "ea"); (case l => (show _ ≤ _; decide))))
local macro_rules | `(tactic| walk_at "ea") => `(tactic| first
  | with_reducible exact ea_nil
  | ((with_reducible refine' ea_cons ?a ?b); (case a => walk_at "ev"); (case b => walk_at "ea")))
local macro_rules | `(tactic| walk_at "et") => `(tactic| first
  | ((with_reducible refine' et_notI ?a ?r); (case a => walk_at "et"); (case r => walk_at "bq"))
  | ((with_reducible refine' et_is ?a); (case a => walk_at "ev"))
  | ((with_reducible refine' et_isB ?a); (case a => walk_at "ev"))
  | ((with_reducible refine' et_and ?a ?b ?c); (case a => walk_at "et"); (case b => (intro _; walk_at "et")); (case c => (intro z; first | exact z | (cases z; done) | rfl)))
  | ((with_reducible refine' et_or ?a ?b ?c); (case a => walk_at "et"); (case b => (intro _; walk_at "et")); (case c => (intro z; first | exact z | (cases z; done) | rfl))))
local macro_rules | `(tactic| walk_at "ev2") => `(tactic| first
  | walk_at "ev"
  | ((with_reducible refine' ev_inT ?a ?p ?s ?d ?f ?x ?b); (case a => walk_at "ev"); (case p => exact evv_c); (case s => assumption); (case d => exact rfl); (case f => exact rfl); (case x => exact rfl); (case b => walk_at "bq"))
  | ((with_reducible refine' ev_inU2 ?a ?p ?l ?d ?x ?f ?y ?b); (case a => walk_at "ev"); (case p => walk_at "ea"); (case l => (show _ ≤ _; decide)); (case d => exact rfl); (case x => exact rfl); (case f => exact rfl); (case y => exact rfl); (case b => walk_at "bq"))
  | ((with_reducible refine' ev_slA ?a ?l ?h ?r); (case a => walk_at "ev"); (case l => walk_at "eo"); (case h => walk_at "eo"); (case r => exact rfl)))
local macro_rules | `(tactic| walk_at "et2") => `(tactic| first
  | walk_at "et"
  | ((with_reducible refine' et_is ?a); (case a => walk_at "ev2"))
  | ((with_reducible refine' et_isB ?a); (case a => walk_at "ev2")))
local macro_rules | `(tactic| walk_at "eo") => `(tactic| first
  | with_reducible exact eo_none
  | ((with_reducible refine' eo_some ?a); (case a => walk_at "ev")))
/-! ### helpers with the purse of what is left -/
def Lf (l : Addr) (H : Hp) : Prop := ∃ xs : List Int, H l = some (.lst (xs.map V.int)) ∧ xs.length = 5
theorem bdL {a c l : Addr} (h1 : l ≠ a) (h2 : l ≠ c) : Bd [a, c, l] a c (Lf l) where
  ha := by simp
  hc := by simp
  st := fun H J g ⟨xs, h, hl⟩ => ⟨xs, g.keep l _ (by simp [h1, h2]) h, hl⟩
  fr := fun H D o hD ⟨xs, h, hl⟩ => ⟨xs, by rw [upd_ne (fun z => hD (by rw [← z]; simp))]; exact h, hl⟩
theorem hereL {a c l : Addr} {m : Nat} {J : Hp} (w : Wk a c (Lf l) m J) : ∀ b ∈ [a, c, l], J b ≠ none := fun b hb => by
  obtain ⟨dk, xs, h, _⟩ := w
  simp only [List.mem_cons, List.not_mem_nil, or_false] at hb
  rcases hb with e | e | e
  · exact dk.here b (by simp [e])
  · exact dk.here b (by simp [e])
  · subst e; rw [h]; intro z; cases z
section
variable {K : PySem.W.Frag} {σ : St} {H : Hp} {ta tb te : TE} {a c l : Addr} {m : Nat} {D : Ends} {P : PyData → Prop}
/-- what is left of one thing -/
theorem ek_left {i : Int} {k : Nat} (B : Bd [a, c, l] a c (Lf l)) (hk : σ[k]? = some (some (.ref l))) (hi : i.toNat < 5) (h0 : 0 ≤ i := by decide) : EvK [a, c, l] a c (Lf l) m m (tOp (rIxL K) (tVar k) (tC (.int i))) σ H (fun z => ∃ x : Int, z = .int x ∧ True) := fun H1 g w Q q => by
  obtain ⟨xs, hx, hl⟩ := w.2
  obtain ⟨x, hxi⟩ : ∃ x, xs[i.toNat]? = some x := ⟨_, List.getElem?_eq_getElem (by omega)⟩
  obtain ⟨n, rfl⟩ := Int.eq_ofNat_of_zero_le h0
  have hxi : xs[n]? = some x := hxi
  exact ⟨_, hk, l, _, _, .int x, rfl, rfl, SqL.of hx, atI_get (by rw [List.getElem?_map, hxi]; rfl), q _ _ H1 ⟨x, rfl, trivial⟩ Mv.rfl w (.int x)⟩
/-- left[i] = e -/
theorem qk_left {tk : TS} {i k : Nat} {P1 : Int → Prop} (B : Bd [a, c, l] a c (Lf l)) (h1 : l ≠ a) (h2 : l ≠ c) (w : Wk a c (Lf l) m H) (he : EvK [a, c, l] a c (Lf l) m m te σ H (fun z => ∃ x : Int, z = .int x ∧ P1 x)) (hk : σ[k]? = some (some (.ref l))) (hi : i < 5)
    (kk : ∀ J, Mv [a, c, l] H J → Wk a c (Lf l) m J → tk D σ J) : tSeq (tAsg te (gSub (tVar k) (tC (.int (i : Int))) rSetL)) tk D σ H :=
  he H Mv.rfl w _ fun v d J ⟨x, hd, _⟩ g w2 t => by
    subst hd
    have e := t.int_inv
    subst e
    obtain ⟨⟨n, cs, a1, a2, r⟩, xs, hx, hl⟩ := w2
    refine ⟨_, hk, l, _, (i : Int), i, rfl, rfl, hx, ixN_n (by rw [List.length_map, hl]; exact hi), ?_⟩
    have mp : Mv [a, c, l] J (upd J l (.lst ((xs.map V.int).set i (.int x)))) := Mv.put hx (by simp) lst_tup
    refine kk _ (g.trans mp) ⟨⟨n, cs, ?_, ?_, r⟩, xs.set i x, ?_, by rw [List.length_set]; exact hl⟩
    · rw [upd_ne h1.symm]; exact a1
    · rw [upd_ne h2.symm]; exact a2
    · rw [upd_same, List.map_set]
end
def IsT (z : PyData) : Prop := ∃ t : Te, TOk 2 t ∧ z = t.d
def Names (S : List Addr) (H : Hp) (pn : Addr) : Prop := ∃ nvs nds, H pn = some (.lst nvs) ∧ pn ∉ S ∧ TdA H nvs nds ∧ NamesD nds
theorem Names.mono {S : List Addr} {H J : Hp} {pn : Addr} (g : Mv S H J) (h : Names S H pn) : Names S J pn := by
  obtain ⟨nvs, nds, h1, h2, h3, h4⟩ := h
  exact ⟨nvs, nds, g.keep _ _ h2 h1, h2, h3.mono g.tup, h4⟩
theorem Names.sub {S U : List Addr} {H : Hp} {pn : Addr} (hs : ∀ b ∈ U, b ∈ S) (h : Names S H pn) : Names U H pn := by
  obtain ⟨nvs, nds, h1, h2, r⟩ := h
  exact ⟨nvs, nds, h1, fun z => h2 (hs _ z), r⟩
/-- an expression of three, two -/
theorem ek_expr {S : List Addr} {a c : Addr} {R : Hp → Prop} {σ : St} {H : Hp} {m : Nat} {E : XK} {i j : Nat} {pn : Addr} {te : TE} {k : Nat} (B : Bd S a c R) (hi : σ[i]? = some (some (.ref a))) (hj : σ[j]? = some (some (.ref pn))) (hN : Names S H pn) (he : te = tC (.int (k : Int))) (hk : 1 ≤ k) (hm : m + KE k ≤ 2 ^ 40) :
    EvK S a c R m (m + KE k) (tCall (spK a c (KE k) (A_exprL k)) [] E (tCons (tVar i) (tCons (tVar j) (tCons te tNil)))) σ H (IsE k) := by
  subst he
  obtain ⟨nvs, nds, h1, h2, h3, h4⟩ := hN
  refine ek_call B hi (eka_lst hj h1 h2 h3 (eka_cons (P := fun z => z = .int (k : Int)) (ek_int B) eka_nil)) (fun xs hx => ?_) hm
  obtain ⟨ys, rfl, d, zs, rfl, rfl, rfl⟩ := hx
  exact ⟨nds, rfl, h4, hk, rfl⟩
def spTest (a c : Addr) : Sp := fun vs H Q _ => ∃ (l pn : Addr) (times : Int) (m : Nat), vs = [.ref a, .ref pn, .ref l, .int times] ∧ Names [a, c, l] H pn ∧ Wk a c (Lf l) m H ∧ l ≠ a ∧ l ≠ c ∧ m + 100 ≤ 2 ^ 40 ∧
  ∀ v d J, (d = .tuple [] ∨ IsT d) → Mv [a, c, l] H J → Wk a c (Lf l) (m + 100) J → Td J v d → Q v J
theorem eqv_nil {x : PyData} {r : List PyData} : PyData.eqv (.tuple (x :: r)) (.tuple []) = false := by rw [PyData.eqv, PyData.eqvAll]
theorem eqv_nil0 : PyData.eqv (.tuple []) (.tuple []) = true := by decide +kernel
theorem shaped_nil : SeqAt.shaped (.tuple []) = true := by decide +kernel
/-- a tuple against the empty one -/
theorem et_neNil {K : PySem.W.Frag} {σ : St} {H : Hp} {i : Nat} {v : V} {d : PyData} (h : σ[i]? = some (some v)) (t : Td H v d) (hd : d = .tuple [] ∨ ∃ x r, d = .tuple (x :: r) ∧ SeqAt.shaped d = true) :
    EvB (tTest (tOp (rNeD K) (tVar i) (tTup tNil))) σ H (fun b => (b = true ∧ d ≠ .tuple []) ∨ (b = false ∧ d = .tuple [])) := by
  rcases hd with e | ⟨x, r, e, hs⟩
  · subst e
    refine (et_is (b := false) (ev_neD (ev_var h t) (ev_tup ea_nil (by show 0 ≤ 1000; decide)) shaped_nil shaped_nil (by rw [eqv_nil0]; rfl))).imp fun b e => .inr ⟨e, rfl⟩
  · subst e
    refine (et_is (b := true) (ev_neD (ev_var h t) (ev_tup ea_nil (by show 0 ≤ 1000; decide)) hs shaped_nil (by rw [eqv_nil]; rfl))).imp fun b e => .inl ⟨e, fun z => by cases z⟩
theorem IsT.cons {d : PyData} (h : IsT d) : ∃ x r, d = .tuple (x :: r) ∧ SeqAt.shaped d = true := by
  obtain ⟨t, ht, rfl⟩ := h
  have hs := (Te.sh ht).shaped (by decide)
  cases t with
  | less a b => exact ⟨_, _, rfl, hs⟩
  | rest a b c => exact ⟨_, _, rfl, hs⟩
  | not t => exact ⟨_, _, rfl, hs⟩
theorem TOk.up : ∀ {k : Nat} {t : Te}, TOk k t → TOk (k + 1) t
  | 0, .less a b, h => h
  | 0, .rest e m r, h => h
  | 0, .not _, h => h.elim
  | k + 1, .less a b, h => h
  | k + 1, .rest e m r, h => h
  | k + 1, .not t, h => TOk.up (k := k) (t := t) h
section
variable {S : List Addr} {a c : Addr} {R : Hp → Prop} {σ : St} {H : Hp} {ta tb te : TE} {t : TT} {P : PyData → Prop} {m m1 m2 : Nat} {D : Ends}
theorem ek_ifR {R1 : Bool → Prop} (h : EvKB S a c R m m1 t σ H R1) (h1 : R1 true → EvK S a c R m1 m2 ta σ H P) (h2 : R1 false → EvK S a c R m1 m2 tb σ H P) : EvK S a c R m m2 (tIf t ta tb) σ H P := fun H1 g w Q q => h H1 g w _ fun b H2 p g2 w2 => by
  cases b with
  | true =>
    show ta σ H2 Q
    exact h1 p H2 (g.trans g2) w2 Q fun v d H3 p g3 => q v d H3 p (g2.trans g3)
  | false =>
    show tb σ H2 Q
    exact h2 p H2 (g.trans g2) w2 Q fun v d H3 p g3 => q v d H3 p (g2.trans g3)
/-- for k in range(n) -/
theorem qk_forR {tk ts : TS} {j : Nat} {P1 : Int → Prop} (w : Wk a c R m H) (h : EvK S a c R m m1 te σ H (fun z => ∃ i : Int, z = .int i ∧ P1 i)) (hb : ∀ i, P1 i → -(2 ^ 62) ≤ i ∧ i < 2 ^ 62)
    (k : ∀ i J, P1 i → Mv S H J → Wk a c R m1 J → ∃ Pv : Nat → St → Hp → Prop, Pv 0 σ J ∧ (∀ n σ J, n < i.toNat → Pv n σ J → ts { nx := Pv (n + 1), rt := D.rt, bk := tk D, ct := Pv (n + 1) } (σ.set j (some (.int (0 + (n : Int))))) J) ∧ ∀ σ J, Pv i.toNat σ J → tk D σ J) :
    tSeq (tFor (iRng1 (tCons te tNil)) (gName j) ts) tk D σ H := h H Mv.rfl w _ fun v d J ⟨i, hd, p1⟩ g w2 t => by
  subst hd
  have e := t.int_inv
  subst e
  obtain ⟨Pv, h0, hs, hd⟩ := k i J p1 g w2
  obtain ⟨b1, b2⟩ := hb i p1
  exact ⟨i, rfl, b1, b2, for_range (D := { D with nx := tk D }) (lo := 0) Pv h0 (fun n σ J hn hp => hs n σ J hn hp) hd⟩
end
theorem TOk.mono {k j : Nat} {t : Te} (h : TOk k t) (l : k ≤ j) : TOk j t := by
  induction l with
  | refl => exact h
  | step _ ih => exact ih.up
section
variable {S : List Addr} {a c : Addr} {R : Hp → Prop} {σ : St} {H : Hp} {ta tb te : TE} {t : TT} {m m1 m2 : Nat} {D : Ends}
theorem qk_ifE {tk tu tw : TS} {P : Bool → Prop} (w : Wk a c R m H) (h : EvKB S a c R m m1 t σ H P) (k1 : P true → ∀ J, Mv S H J → Wk a c R m1 J → tu { D with nx := tk D } σ J) (k2 : P false → ∀ J, Mv S H J → Wk a c R m1 J → tw { D with nx := tk D } σ J) : tSeq (tIfS t tu tw) tk D σ H := h H Mv.rfl w _ fun b J p g w2 => by
  cases b with
  | true => exact k1 p J g w2
  | false => exact k2 p J g w2
/-- draw(n) == k -/
theorem ekb_draw0 {E : XK} {i : Nat} {k n : Int} (B : Bd S a c R) (hi : σ[i]? = some (some (.ref a))) (h0 : 0 < n) (h1 : n ≤ 2 ^ 40) (hm : m + 1 ≤ 2 ^ 40) : EvKB S a c R m (m + 1) (tTest (tOp rEq (tCall (spK a c 1 A_draw) [] E (tCons (tVar i) (tCons (tC (.int n)) tNil))) (tC (.int k)))) σ H (fun _ => True) := fun H1 g w Q q =>
  ek_drawC (k := n) B hi h0 h1 hm H1 g w _ fun v d H2 ⟨r, e, _⟩ g2 w2 t => by
    subst e
    have e := t.int_inv
    subst e
    exact ⟨rfl, _, rfl, q _ H2 trivial g2 w2⟩
end
section
variable {P : Program} {w : World} {K : PySem.W.Frag} {mg : Str → Option Value} {base : Heap}
abbrev s__law_test : Stmt := top 54
theorem sc__law_test : FnScope ["_law_deck_here", "_law_names_here", "_law_left", "_law_times", "_law_nots", "_law_test_here", "_law_by", "_law_first", "_law_k"] ["_law_deck_here", "_law_names_here", "_law_left", "_law_times"] (defScope s__law_test) := ⟨rfl, rfl, rfl, by decide +kernel, rfl, by decide +kernel, by decide +kernel⟩
theorem df_test (F : Fn K mg "_law_test" s__law_test ["_law_deck_here", "_law_names_here", "_law_left", "_law_times"]) (T : Gb K w mg) {a c : Addr} (G__law_draw : Df P w K mg base 1 "_law_draw" ["_law_deck_here", "_law_many"] (spK a c 1 A_draw)) (G__law_one : Df P w K mg base 2 "_law_one" ["_law_deck_here", "_law_items"] (spK a c 1 A_oneL))
    (G__law_expression : Df P w K mg base 5 "_law_expression" ["_law_deck_here", "_law_names_here", "_law_deep"] (spK a c (KE 3) (A_exprL 3))) : Df P w K mg base 6 "_law_test" ["_law_deck_here", "_law_names_here", "_law_left", "_law_times"] (spTest a c) := by
  refine df_of F sc__law_test (fun vs H Q E h => ?_) (fun f cdv A outer s H vs Q E hr h => ?_)
  · obtain ⟨_, _, _, _, rfl, _⟩ := h
    rfl
  obtain ⟨l, pn, times, m, rfl, hN, w0, la, lc, hm, q⟩ := h
  have B := bdL la lc
  have e15 : KE 3 = 15 := rfl
  refine ⟨_, (pss_cons (ps_par (i := 4) (j := 5) (by rfl) sc__law_test.nd rfl rfl (by decide) rfl rfl (pa_cons (pe_op op_sub (pe_df G__law_draw (hr.mono (by first | decide | omega)) (pa_cons (pv 0) (pa_cons pe_int pa_nil))) pe_int) (pa_cons (pe_tup pa_nil) pa_nil)) (by rfl)) (pss_cons (ps_if (PW.pt (pw_and (pt_cmpR op_eq (pe_df G__law_draw (hr.mono (by first | decide | omega)) (pa_cons (pv 0) (pa_cons pe_int pa_nil))) pe_int (nomark _)) (pw_and1 (pt_cmpR op_ge (pe_ix (k_ixL K) (pv 2) pe_int (fun _ _ => rfl)) (pv 3) (nomark _))))) (pss_cons (ps_asg (pe_op op_sub (pe_ix (k_ixL K) (pv 2) pe_int (fun _ _ => rfl)) (pv 3)) (pg_sub (pv 2) pe_int set_list)) (pss_cons (ps_set (i := 6) sc__law_test.nd rfl (Or.inl rfl) (pe_op op_add pe_int (pe_df G__law_draw (hr.mono (by first | decide | omega)) (pa_cons (pv 0) (pa_cons pe_int pa_nil))))) (pss_one (ps_set (i := 5) sc__law_test.nd rfl (Or.inl rfl) (pe_tup (pa_cons pe_str (pa_cons (pe_df G__law_expression (hr.mono (by first | decide | omega)) (pa_cons (pv 0) (pa_cons (pv 1) (pa_cons pe_int pa_nil)))) (pa_cons (pv 6) (pa_cons (pe_df G__law_draw (hr.mono (by first | decide | omega)) (pa_cons (pv 0) (pa_cons (pv 6) pa_nil))) pa_nil))))))))) (pss_one (ps_if (pt_cmpR op_ge (pe_ix (k_ixL K) (pv 2) pe_int (fun _ _ => rfl)) (pv 3) (nomark _)) (pss_cons (ps_asg (pe_op op_sub (pe_ix (k_ixL K) (pv 2) pe_int (fun _ _ => rfl)) (pv 3)) (pg_sub (pv 2) pe_int set_list)) (pss_cons (ps_set (i := 7) sc__law_test.nd rfl (Or.inl rfl) (pe_df G__law_expression (hr.mono (by first | decide | omega)) (pa_cons (pv 0) (pa_cons (pv 1) (pa_cons pe_int pa_nil))))) (pss_one (ps_set (i := 5) sc__law_test.nd rfl (Or.inl rfl) (pe_tup (pa_cons pe_str (pa_cons (pv 7) (pa_cons (pe_df G__law_one (hr.mono (by first | decide | omega)) (pa_cons (pv 0) (pa_cons (pe_lst (pa_cons (pe_op op_sub (pe_df G__law_draw (hr.mono (by first | decide | omega)) (pa_cons (pv 0) (pa_cons pe_int pa_nil))) pe_int) (pa_cons (pe_df G__law_expression (hr.mono (by first | decide | omega)) (pa_cons (pv 0) (pa_cons (pv 1) (pa_cons pe_int pa_nil)))) pa_nil))) pa_nil))) pa_nil)))))))) pss_nil))) (pss_cons (ps_for PassesOwn.never rfl (pi_range1 rfl T.range_ (pa_cons (pe_ifExp (pt_cmpR (k_neD K rfl hr.units) (pv 5) (pe_tup pa_nil) (nomark _)) (pe_callB (id := "max") (call_max2 rfl) (by rfl) T.max_ (by decide +kernel) (pa_cons pe_int (pa_cons (pv 4) pa_nil))) pe_int) pa_nil)) (pg_name (i := 8) sc__law_test.nd rfl (Or.inl rfl)) (pss_one (ps_set (i := 5) sc__law_test.nd rfl (Or.inl rfl) (pe_tup (pa_cons pe_str (pa_cons (pv 5) pa_nil)))))) (pss_one (ps_ret (pv 5)))))), ?_⟩
  refine qk_par (S := [a, c, l]) (m1 := m + 1) (PA := fun xs => ∃ i : Int, xs = [.d (.int i), .d (.tuple [])] ∧ i ≤ 2) w0 (fun H1 g w Q q => eka_cons (m1 := m + 1) (P := fun z => ∃ i j : Int, (0 ≤ i ∧ i < 5) ∧ j = 2 ∧ z = .int (i - j)) (ek_I0 (m1 := m + 1) (P2 := fun j => j = 2) (g' := fun i j => i - j) (ek_drawC B rfl (by decide) (by decide) (by omega)) (ek_ci B ⟨2, rfl, rfl⟩) (fun i j => rfl)) (eka_cons (P := fun z => z = .tuple []) (ek_pure B fun J g => ev_tup ea_nil (by show 0 ≤ 1000; decide)) eka_nil) H1 g w Q fun vs xs H2 hx g w2 ts => ?_) (fun v4 v5 x4 x5 J4 hx g4 w4 r4 r5 => ?_) (fun xs ⟨i, e, _⟩ => by rw [e]; rfl)
  · obtain ⟨d, ys, rfl, ⟨i, j, ⟨i0, i1⟩, ej, ed⟩, d2, zs, rfl, e2, rfl⟩ := hx
    subst ej ed e2
    exact q _ _ H2 ⟨i - 2, rfl, by omega⟩ g w2 ts
  obtain ⟨nots, e, hnots⟩ := hx
  injection e with e4 e
  injection e with e5 _
  subst e4 e5
  have e4 := Td.int_inv r4
  subst e4
  have r5 : Td J4 v5 (.tuple []) := r5
  have N4 := hN.mono g4
  have here : ∀ {m : Nat} (J : Hp), Wk a c (Lf l) m J → ∀ b ∈ [a, c, l], J b ≠ none := fun J w => hereL w
  -- the nots and the end
  have rest : ∀ (d : PyData) (v : V) (o6 o7 : Option V) (J : Hp) (m2 : Nat), (d = .tuple [] ∨ ∃ t, TOk 0 t ∧ d = t.d) → Td J v d → Mv [a, c, l] H J → Wk a c (Lf l) m2 J → m2 ≤ m + 100 →
      tSeq (tFor (iRng1 (tCons (tIf (tTest (tOp (rNeD K) (tVar 5) (tTup tNil))) (tCB (fun xs H Q => ∃ i j, xs = [.int i, .int j] ∧ Q (.int (if j > i then j else i)) H) (tCons (tC (.int 0)) (tCons (tVar 4) tNil))) (tC (.int 0))) tNil)) (gName 8) (tAsg (tTup (tCons (tC (.str "not")) (tCons (tVar 5) tNil))) (gName 5))) (tRet (tVar 5)) { nx := fun _ H' => Q .non H', rt := Q }
        [some (.ref a), some (.ref pn), some (.ref l), some (.int times), some (.int nots), some v, o6, o7, none] J := fun d v o6 o7 J m2 hd td gJ wJ hm2 => by
    have hne : d = .tuple [] ∨ ∃ x r, d = .tuple (x :: r) ∧ SeqAt.shaped d = true := hd.imp id fun ⟨t, ht, e⟩ => IsT.cons ⟨t, ht.up.up, e⟩
    refine qk_forR (S := [a, c, l]) (m1 := m2) (P1 := fun i => i ≤ 2 ∧ (d = .tuple [] → i = 0) ∧ -5 ≤ i) wJ (ek_ifR (m1 := m2) (ekb_pure B fun L g => et_neNil rfl (td.mono g.tup) hne) (fun hb => ek_pure B fun L g H1 gH Q q => ?_) (fun hb => ek_ci B ⟨0, rfl, by decide, fun _ => rfl, by decide⟩)) (fun i hi => by omega) fun i L hi gL wL => ?_
    · have hd2 : d ≠ .tuple [] := by
        rcases hb with ⟨_, z⟩ | ⟨z, _⟩
        · exact z
        · cases z
      refine ⟨_, rfl, 0, nots, rfl, q _ _ H1 ⟨_, rfl, ?_, fun z => absurd z hd2, ?_⟩ Mv.rfl (.int _)⟩
      · split <;> omega
      · split <;> omega
    · obtain ⟨hi2, hi0, _⟩ := hi
      refine ⟨fun n σ J => ∃ (d' : PyData) (v' : V) (o8 : Option V), σ = [some (.ref a), some (.ref pn), some (.ref l), some (.int times), some (.int nots), some v', o6, o7, o8] ∧ Td J v' d' ∧ Mv [a, c, l] H J ∧ Wk a c (Lf l) m2 J ∧ ((d = .tuple [] ∧ d' = .tuple []) ∨ ∃ t, TOk n t ∧ d' = t.d), ⟨d, v, none, rfl, td.mono gL.tup, gJ.trans gL, wL, hd.imp (fun z => ⟨z, z⟩) id⟩, ?_, ?_⟩
      · rintro n σ J5 hn ⟨d', v', o8, rfl, td', gJ5, w5, hd'⟩
        have hd'' : ∃ t, TOk n t ∧ d' = t.d := by
          rcases hd' with ⟨z, _⟩ | z
          · have := hi0 z; omega
          · exact z
        obtain ⟨t, ht, rfl⟩ := hd''
        refine s_set Mv.rfl (ev_tup (ds := [.str "not", t.d]) (ea_cons ev_str (ea_cons (ev_var rfl td') ea_nil)) (by show 2 ≤ 1000; decide)) fun v6 d6 J6 e6 g6 t6 => ?_
        subst e6
        exact ⟨_, v6, _, rfl, t6, gJ5.trans g6.up, B.grow g6 w5, .inr ⟨.not t, ht, rfl⟩⟩
      · rintro σ J5 ⟨d', v', o8, rfl, td', gJ5, w5, hd'⟩
        refine s_ret Mv.rfl (ev_var rfl td') fun v6 d6 J6 e6 g6 t6 => ?_
        subst e6
        refine q v6 _ J6 ?_ (gJ5.trans g6.up) ⟨(B.grow g6 w5).1.le (by omega), (B.grow g6 w5).2⟩ t6
        rcases hd' with ⟨_, z⟩ | ⟨t, ht, z⟩
        · exact .inl z
        · exact .inr ⟨t, ht.mono (by omega), z⟩
  have geL : ∀ {i : Int} {σ : St} {J : Hp} {m2 : Nat}, i.toNat < 5 → 0 ≤ i → σ[2]? = some (some (.ref l)) → σ[3]? = some (some (.int times)) → EvKB [a, c, l] a c (Lf l) m2 m2 (tTest (tOp (rI0 fun i j => .bl (decide (i ≥ j))) (tOp (rIxL K) (tVar 2) (tC (.int i))) (tVar 3))) σ J (fun b => True) := fun {i σ J m2} hi h0 hl ht H1 g w Q q =>
    ekb_cmp (P2 := fun j => j = times) (ek_left B hl hi h0) (ek_pure B fun L g => (ev_var ht (.int times)).imp fun d e => ⟨times, e, rfl⟩) H1 g w Q fun b H2 _ g2 w2 => q b H2 trivial g2 w2
  have subL : ∀ {i : Int} {σ : St} {J : Hp} {m2 : Nat}, i.toNat < 5 → 0 ≤ i → σ[2]? = some (some (.ref l)) → σ[3]? = some (some (.int times)) → EvK [a, c, l] a c (Lf l) m2 m2 (tOp (rI0 fun i j => .int (i - j)) (tOp (rIxL K) (tVar 2) (tC (.int i))) (tVar 3)) σ J (fun z => ∃ x : Int, z = .int x ∧ True) := fun {i σ J m2} hi h0 hl ht =>
    (ek_I0 (P2 := fun j => j = times) (g' := fun i j => i - j) (ek_left B hl hi h0) (ek_pure B fun L g => (ev_var ht (.int times)).imp fun d e => ⟨times, e, rfl⟩) (fun i j => rfl)).imp fun d ⟨x, y, _, _, e⟩ => ⟨_, e, trivial⟩
  refine qk_ifE (m1 := m + 2) (P := fun _ => True) w4 (fun H1 g w Q q => ekb_and (m1 := m + 2) (ekb_draw0 B rfl (by decide) (by decide) (by omega)) (geL (i := 3) (by decide) (by decide) rfl rfl) (Nat.le_refl _) H1 g w Q fun b H2 _ g2 w2 => q b H2 trivial g2 w2) (fun _ J6 g6 w6 => ?_) fun _ J6 g6 w6 => ?_
  · refine qk_left (i := 3) (P1 := fun _ => True) B la lc w6 (subL (i := 3) (by decide) (by decide) rfl rfl) rfl (by decide) fun J7 g7 w7 => ?_
    refine qk_set (S := [a, c, l]) (m1 := m + 3) (P := fun z => ∃ by_ : Int, z = .int by_ ∧ 2 ≤ by_ ∧ by_ ≤ 6) w7 ((ek_I0 (m1 := m + 2) (P1 := fun i => i = 2) (g' := fun i j => i + j) (ek_ci B ⟨2, rfl, rfl⟩) (ek_drawC B rfl (by decide) (by decide) (by omega)) (fun i j => rfl)).imp fun d ⟨x, y, ex, ⟨y0, y1⟩, e⟩ => ⟨_, e, by omega, by omega⟩) fun v8 d8 J8 hd8 g8 w8 t8 => ?_
    obtain ⟨by_, rfl, by0, by1⟩ := hd8
    have e8 := t8.int_inv
    subst e8
    have gH8 := ((g4.trans g6).trans g7).trans g8
    refine sk_set (S := [a, c, l]) (m1 := m + 3 + 15 + 1) (P := fun z => ∃ t, TOk 0 t ∧ z = t.d) w8 (ek_tup (PA := fun xs => ∃ d2 d4 : PyData, xs = [.d (.str "rest"), .d d2, .d (.int by_), .d d4] ∧ IsE 3 d2 ∧ ∃ r : Int, d4 = .int r ∧ 0 ≤ r ∧ r < by_) B (fun H1 g w Q q => eka_cons (P := fun z => z = .str "rest") (ek_cs B rfl) (eka_cons (m1 := m + 3 + 15) (ek_expr (k := 3) B rfl rfl (hN.mono gH8) rfl (by decide) (by omega)) (eka_cons (ek_var B rfl (.int by_)) (eka_cons (P := fun z => ∃ r : Int, z = .int r ∧ 0 ≤ r ∧ r < by_) (ek_draw (P1 := fun k => k = by_) B rfl (ek_pure B fun L g => (ev_var rfl (.int by_)).imp fun d e => ⟨by_, e, rfl⟩) (fun k e => by omega) (fun k r e r0 r1 => ⟨r, rfl, r0, by omega⟩) (by omega)) eka_nil))) H1 g w Q fun vs xs H2 hx g2 w2 ts => ?_) fun xs ⟨d2, d4, e, ⟨e2, he2, z2⟩, r, z4, r0, r1⟩ => ⟨[.str "rest", d2, .int by_, d4], e, by show 4 ≤ 1000; decide, .rest e2 by_ r, ⟨he2, ⟨by0, by1⟩, r0, r1⟩, by rw [z2, z4]; rfl⟩) fun v9 d9 J9 hd9 g9 w9 t9 => ?_
    · obtain ⟨d1, x1, rfl, rfl, d2, x2, rfl, hd2, d3, x3, rfl, rfl, d4, x4, rfl, hd4, rfl⟩ := hx
      exact q _ _ H2 ⟨d2, d4, rfl, hd2, hd4⟩ g2 w2 ts
    · exact rest d9 v9 _ _ J9 _ (.inr hd9) t9 (gH8.trans g9) w9 (by omega)
  · refine sk_if (S := [a, c, l]) (m1 := m + 2) (P := fun _ => True) w6 (geL (i := 4) (by decide) (by decide) rfl rfl) (fun _ J7 g7 w7 => ?_) fun _ J7 g7 w7 => rest (.tuple []) v5 _ _ J7 _ (.inl rfl) ((r5.mono g6.tup).mono g7.tup) ((g4.trans g6).trans g7) w7 (by omega)
    refine qk_left (i := 4) (P1 := fun _ => True) B la lc w7 (subL (i := 4) (by decide) (by decide) rfl rfl) rfl (by decide) fun J8 g8 w8 => ?_
    have gH8 := ((g4.trans g6).trans g7).trans g8
    refine qk_set (S := [a, c, l]) (m1 := m + 2 + 15) (P := IsE 3) w8 (ek_expr (k := 3) B rfl rfl (hN.mono gH8) rfl (by decide) (by omega)) fun v9 d9 J9 hd9 g9 w9 t9 => ?_
    obtain ⟨e1, he1, rfl⟩ := hd9
    have gH9 := gH8.trans g9
    refine sk_set (S := [a, c, l]) (m1 := m + 2 + 15 + 1 + 15 + 1) (P := fun z => ∃ t, TOk 0 t ∧ z = t.d) w9 (ek_tup3 (P1 := fun z => z = .str "less") (P2 := fun z => z = e1.d) (P3 := IsE 3) B (ek_cs B rfl) (ek_var B rfl t9) (ek_oneW (m1 := m + 2 + 15 + 1 + 15) (n := 2) B here rfl (eall_cons (m1 := m + 2 + 15 + 1) ?_ (eall_cons (ek_expr (k := 3) B rfl rfl (hN.mono gH9) rfl (by decide) (by omega)) eall_nil)) (by decide) (by decide) (by omega)) (fun d1 d2 d3 z1 z2 ⟨e2, he2, z3⟩ => ⟨.less e1 e2, ⟨he1, he2⟩, by rw [z1, z2, z3]; rfl⟩)) fun v10 d10 J10 hd10 g10 w10 t10 => rest d10 v10 _ _ J10 _ (.inr hd10) t10 (gH9.trans g10) w10 (by omega)
    exact (ek_I0 (m1 := m + 2 + 15 + 1) (P2 := fun j => j = 20) (g' := fun i j => i - j) (ek_drawC B rfl (by decide) (by decide) (by omega)) (ek_ci B ⟨20, rfl, rfl⟩) (fun i j => rfl)).imp fun d ⟨i, j, ⟨i0, i1⟩, ej, ed⟩ => ⟨.int (i - j), ⟨by omega, by omega⟩, ed⟩
end
end K27
namespace K27
open PySem PySem.Spec L2
open PyProof.Rows hiding St
local macro_rules | `(tactic| walk_at "td") => `(tactic| first | assumption | exact Td.int _ | exact Td.str _ | exact Td.bl _ | exact Td.non)
local macro_rules | `(tactic| walk_at "bq") => `(tactic| first | exact rfl | assumption | decide)
local macro_rules | `(tactic| walk_at "kb") => `(tactic| first | exact kii | exact ksi | exact kti | exact kib | exact kss | exact kis | exact kts | exact ktt | exact kst | exact kit)
local macro_rules | `(tactic| walk_at "ev") => `(tactic| first
  | with_reducible exact ev_int
  | with_reducible exact ev_str
  | with_reducible exact ev_bl
  | with_reducible exact ev_non
  | ((with_reducible refine' ev_var ?e ?t); (case e => exact rfl); (case t => walk_at "td"))
  | ((with_reducible refine' ev_ix ?a ?n ?z); (case a => walk_at "ev"); (case z => decide); (case n => exact rfl))
  | ((with_reducible refine' ev_isi ?a ?k); (case a => walk_at "ev"); (case k => walk_at "kb"))
  | ((with_reducible refine' ev_len ?a ?k); (case a => walk_at "ev"); (case k => exact rfl))
  | ((with_reducible refine' ev_cmpI ?a ?b ?r); (case a => walk_at "ev"); (case b => walk_at "ev"); (case r => walk_at "bq"))
  | ((with_reducible refine' ev_I0 ?a ?b ?r); (case a => walk_at "ev"); (case b => walk_at "ev"); (case r => exact rfl))
  | ((with_reducible refine' ev_eqS ?a ?b ?r); (case a => walk_at "ev"); (case b => walk_at "ev"); (case r => walk_at "bq"))
  | ((with_reducible refine' ev_eqI ?a ?b ?r); (case a => walk_at "ev"); (case b => walk_at "ev"); (case r => walk_at "bq"))
  | ((with_reducible refine' ev_neI ?a ?b ?r); (case a => walk_at "ev"); (case b => walk_at "ev"); (case r => walk_at "bq"))
  | ((with_reducible refine' ev_notV ?a ?r); (case a => walk_at "ev"); (case r => walk_at "bq"))
  | ((with_reducible refine' ev_chain ?a ?b ?c ?r); (case a => walk_at "ev"); (case b => walk_at "ev"); (case c => walk_at "ev"); (case r => walk_at "bq"))
  | ((with_reducible refine' ev_tup ?a ?l); (case a => walk_at "ea"); (case l => (show _ ≤ _; decide))))
local macro_rules | `(tactic| walk_at "ea") => `(tactic| first
  | with_reducible exact ea_nil
  | ((with_reducible refine' ea_cons ?a ?b); (case a => walk_at "ev"); (case b => walk_at "ea")))
local macro_rules | `(tactic| walk_at "et") => `(tactic| first
  | ((with_reducible refine' et_notI ?a ?r); (case a => walk_at "et"); (case r => walk_at "bq"))
  | ((with_reducible refine' et_is ?a); (case a => walk_at "ev"))
  | ((with_reducible refine' et_isB ?a); (case a => walk_at "ev"))
  | ((with_reducible refine' et_and ?a ?b ?c); (case a => walk_at "et"); (case b => (intro _; walk_at "et")); (case c => (intro z; first | exact z | (cases z; done) | rfl)))
  | ((with_reducible refine' et_or ?a ?b ?c); (case a => walk_at "et"); (case b => (intro _; walk_at "et")); (case c => (intro z; first | exact z | (cases z; done) | rfl))))
local macro_rules | `(tactic| walk_at "ev2") => `(tactic| first
  | walk_at "ev"
  | ((with_reducible refine' ev_inT ?a ?p ?s ?d ?f ?x ?b); (case a => walk_at "ev"); (case p => exact evv_c); (case s => assumption); (case d => exact rfl); (case f => exact rfl); (case x => exact rfl); (case b => walk_at "bq"))
  | ((with_reducible refine' ev_inU2 ?a ?p ?l ?d ?x ?f ?y ?b); (case a => walk_at "ev"); (case p => walk_at "ea"); (case l => (show _ ≤ _; decide)); (case d => exact rfl); (case x => exact rfl); (case f => exact rfl); (case y => exact rfl); (case b => walk_at "bq"))
  | ((with_reducible refine' ev_slA ?a ?l ?h ?r); (case a => walk_at "ev"); (case l => walk_at "eo"); (case h => walk_at "eo"); (case r => exact rfl)))
local macro_rules | `(tactic| walk_at "et2") => `(tactic| first
  | walk_at "et"
  | ((with_reducible refine' et_is ?a); (case a => walk_at "ev2"))
  | ((with_reducible refine' et_isB ?a); (case a => walk_at "ev2")))
local macro_rules | `(tactic| walk_at "eo") => `(tactic| first
  | with_reducible exact eo_none
  | ((with_reducible refine' eo_some ?a); (case a => walk_at "ev")))
/-! ### a plain row -/
mutual
def S.slim : S → Prop
  | .ite _ y z => (y.length ≤ 4 ∧ slimL y) ∧ (z.length ≤ 4 ∧ slimL z)
  | .ch _ y z => (y.length ≤ 4 ∧ slimL y) ∧ (z.length ≤ 4 ∧ slimL z)
  | .rep _ y => y.length ≤ 4 ∧ slimL y
  | _ => True
def slimL : List S → Prop
  | [] => True
  | s :: r => s.slim ∧ slimL r
end
theorem slimL_of : ∀ {b : List S}, (∀ s ∈ b, s.slim) → slimL b
  | [], _ => by rw [slimL]; trivial
  | s :: r, h => by rw [slimL]; exact ⟨h s List.mem_cons_self, slimL_of fun x hx => h x (List.mem_cons_of_mem _ hx)⟩
theorem of_slimL : ∀ {b : List S}, slimL b → ∀ s ∈ b, s.slim
  | [], _, s, h => nomatch h
  | t :: r, h, s, hs => by
    rw [slimL] at h
    exact (List.mem_cons.mp hs).elim (fun e => by rw [e]; exact h.1) (of_slimL h.2 s)
/-- an if, a choice, a repeat: their blocks are narrow -/
theorem slim_ite {t : Te} {y z : List S} {n : Nat} (h1 : y.length ≤ 4) (h2 : ∀ s ∈ y, SOk 3 n s ∧ s.slim) (h3 : z.length ≤ 4) (h4 : ∀ s ∈ z, SOk 3 n s ∧ s.slim) : (S.ite t y z).slim := by
  rw [S.slim]; exact ⟨⟨h1, slimL_of fun s hs => (h2 s hs).2⟩, ⟨h3, slimL_of fun s hs => (h4 s hs).2⟩⟩
theorem slim_ch {t : Bool} {y z : List S} {n : Nat} (h1 : y.length ≤ 4) (h2 : ∀ s ∈ y, SOk 3 n s ∧ s.slim) (h3 : z.length ≤ 4) (h4 : ∀ s ∈ z, SOk 3 n s ∧ s.slim) : (S.ch t y z).slim := by
  rw [S.slim]; exact ⟨⟨h1, slimL_of fun s hs => (h2 s hs).2⟩, ⟨h3, slimL_of fun s hs => (h4 s hs).2⟩⟩
theorem slim_rep {t : Int} {y : List S} {n : Nat} (h1 : y.length ≤ 4) (h2 : ∀ s ∈ y, SOk 3 n s ∧ s.slim) : (S.rep t y).slim := by
  rw [S.slim]; exact ⟨h1, slimL_of fun s hs => (h2 s hs).2⟩
theorem slim_set {x : Str} {e : K27.E} : (S.set x e).slim := by simp only [S.slim]
theorem slim_pay {e : K27.E} : (S.pay e).slim := by simp only [S.slim]
theorem slim_stop : S.stop.slim := by simp only [S.slim]
def IsS (n : Nat) : PyData → Prop := fun z => ∃ s : S, (SOk 3 n s ∧ s.slim) ∧ z = s.d
def A_plain (xs : List Arg) (P : PyData → Prop) : Prop := ∃ nds : List PyData, xs = [.l nds] ∧ NamesD nds ∧ P = IsS 1
section
variable {P : Program} {w : World} {K : PySem.W.Frag} {mg : Str → Option Value} {base : Heap}
abbrev s__law_plain : Stmt := top 55
theorem sc__law_plain : FnScope ["_law_deck_here", "_law_names_here", "_law_way", "_law_name"] ["_law_deck_here", "_law_names_here"] (defScope s__law_plain) := ⟨rfl, rfl, rfl, by decide +kernel, rfl, by decide +kernel, by decide +kernel⟩
theorem df_plain (F : Fn K mg "_law_plain" s__law_plain ["_law_deck_here", "_law_names_here"]) (T : Gb K w mg) {a c : Addr} (G__law_draw : Df P w K mg base 1 "_law_draw" ["_law_deck_here", "_law_many"] (spK a c 1 A_draw)) (G__law_one : Df P w K mg base 2 "_law_one" ["_law_deck_here", "_law_items"] (spK a c 1 A_oneL))
    (G__law_expression : Df P w K mg base 5 "_law_expression" ["_law_deck_here", "_law_names_here", "_law_deep"] (spK a c (KE 3) (A_exprL 3))) : Df P w K mg base 6 "_law_plain" ["_law_deck_here", "_law_names_here"] (spK a c 20 A_plain) := by
  refine df_of F sc__law_plain (fun vs H Q E h => ?_) (fun f cdv A outer s H vs Q E hr h => ?_)
  · obtain ⟨_, _, _, _, rfl, t, ⟨ds, rfl, _⟩, _⟩ := h
    obtain ⟨v, rfl, _⟩ := t.one
    rfl
  obtain ⟨ws, xs, P', m, rfl, tz, ⟨nds, rfl, hN, rfl⟩, hm, dk, q⟩ := h
  obtain ⟨v1, rfl, pn, nvs, rfl, hpn, tn, hnn⟩ := tz.one
  have e15 : KE 3 = 15 := rfl
  have here0 : ∀ {m : Nat} (J : Hp), Wk a c (fun _ => True) m J → ∀ b ∈ [a, c], J b ≠ none := fun J w => w.1.here
  have w0 : Wk a c (fun _ => True) m H := ⟨dk, trivial⟩
  have N0 : Names [a, c] H pn := ⟨nvs, nds, hpn, hnn, tn, hN⟩
  refine ⟨_, (pss_cons (ps_par (i := 2) (j := 3) (by rfl) sc__law_plain.nd rfl rfl (by decide) rfl rfl (pa_cons (pe_df G__law_draw (hr.mono (by first | decide | omega)) (pa_cons (pv 0) (pa_cons pe_int pa_nil))) (pa_cons (pe_df G__law_one (hr.mono (by first | decide | omega)) (pa_cons (pv 0) (pa_cons (pv 1) pa_nil))) pa_nil)) (by rfl)) (pss_cons (ps_if (pt_cmpR op_lt (pv 2) pe_int (nomark _)) (pss_one (ps_ret (pe_tup (pa_cons pe_str (pa_cons (pv 3) (pa_cons (pe_df G__law_expression (hr.mono (by first | decide | omega)) (pa_cons (pv 0) (pa_cons (pv 1) (pa_cons pe_int pa_nil)))) pa_nil)))))) pss_nil) (pss_cons (ps_if (pt_cmpR op_eq (pv 2) pe_int (nomark _)) (pss_one (ps_ret (pe_tup (pa_cons pe_str (pa_cons (pv 3) (pa_cons (pv 3) pa_nil)))))) pss_nil) (pss_cons (ps_if (PW.pt (pw_and (pt_cmpR op_eq (pv 2) pe_int (nomark _)) (pw_and1 (pt_cmpR op_eq (pe_df G__law_draw (hr.mono (by first | decide | omega)) (pa_cons (pv 0) (pa_cons pe_int pa_nil))) pe_int (nomark _))))) (pss_one (ps_ret (pe_tup (pa_cons pe_str pa_nil)))) pss_nil) (pss_one (ps_ret (pe_tup (pa_cons pe_str (pa_cons (pe_df G__law_expression (hr.mono (by first | decide | omega)) (pa_cons (pv 0) (pa_cons (pv 1) (pa_cons pe_int pa_nil)))) pa_nil))))))))), ?_⟩
  have fin : ∀ {J : Hp} {m2 : Nat} {v : V} {d : PyData} {H2 : Hp}, m2 ≤ m + 20 → Mv [a, c] H J → IsS 1 d → Mv [a, c] J H2 → Wk a c (fun _ => True) m2 H2 → Td H2 v d → Q v H2 := fun hl g1 hd g2 w t => q _ _ _ hd (g1.trans g2) (w.1.le hl) t
  refine qk_par (S := [a, c]) (m1 := m + 1 + 1) (PA := fun xs => ∃ (i : Int) (x : Str), xs = [.d (.int i), .d (.str x)] ∧ NOk x) w0 (fun H1 g w Q q => eka_cons (m1 := m + 1) (P := fun z => ∃ r : Int, z = .int r ∧ 0 ≤ r ∧ r < 12) (ek_drawC bd0 rfl (by decide) (by decide) (by omega)) (eka_cons (P := fun z => ∃ x, z = .str x ∧ NOk x) (ek_oneV bd0 rfl rfl hpn hnn tn hN.1 hN.2.1 hN.2.2 (by omega)) eka_nil) H1 g w Q fun vs xs H2 hx g w2 ts => ?_) (fun v4 v5 x4 x5 J4 hx g4 w4 r4 r5 => ?_) (fun xs ⟨i, j, e, _⟩ => by rw [e]; rfl)
  · obtain ⟨d, ys, rfl, ⟨i, rfl, i0, i1⟩, d2, zs, rfl, ⟨x, rfl, hx⟩, rfl⟩ := hx
    exact q _ _ H2 ⟨i, x, rfl, hx⟩ g w2 ts
  obtain ⟨i, x, e, hx⟩ := hx
  injection e with e4 e
  injection e with e5 _
  subst e4 e5
  have e4 := Td.int_inv r4
  have e5 := Td.str_inv r5
  subst e4 e5
  have N4 := N0.mono g4
  refine qk_if (P := fun _ => True) w4 (ekb_pure bd0 fun J g => (et_is (ev_cmpI (ev_var rfl (.int i)) ev_int rfl)).imp fun _ _ => trivial) (fun _ J5 g5 w5 => ?_) fun _ J5 g5 w5 => ?_
  · exact sk_ret (S := [a, c]) w5 (ek_tup3 (P1 := fun z => z = .str "set") (P2 := fun z => z = .str x) (P3 := IsE 3) bd0 (ek_cs bd0 rfl) (ek_var bd0 rfl (.str x)) (ek_expr (k := 3) bd0 rfl rfl (N4.mono g5) rfl (by decide) (by omega)) fun d1 d2 d3 e1 e2 ⟨e, he, e3⟩ => ⟨.set x e, ⟨⟨hx, he⟩, slim_set⟩, by rw [e1, e2, e3, S.d]⟩) fun v d J hd g w t => fin (by omega) (g4.trans g5) hd g w t
  refine qk_if (P := fun _ => True) w5 (ekb_pure bd0 fun J g => (et_is (ev_eqI (ev_var rfl (.int i)) ev_int rfl)).imp fun _ _ => trivial) (fun _ J6 g6 w6 => ?_) fun _ J6 g6 w6 => ?_
  · exact sk_ret (S := [a, c]) w6 (ek_tup3 (m1 := m + 1 + 1) (m2 := m + 1 + 1) (P1 := fun z => z = .str "set") (P2 := fun z => z = .str x) (P3 := fun z => z = .str x) bd0 (ek_cs bd0 rfl) (ek_var bd0 rfl (.str x)) (ek_var bd0 rfl (.str x)) fun d1 d2 d3 e1 e2 e3 => ⟨.set x (.name x), ⟨⟨hx, hx⟩, slim_set⟩, by rw [e1, e2, e3, S.d]; rfl⟩) fun v d J hd g w t => fin (m2 := m + 1 + 1) (by omega) ((g4.trans g5).trans g6) hd g w t
  refine qk_if (m1 := m + 1 + 1 + 1) (P := fun _ => True) w6 (fun H1 g w Q q => ekb_and (m1 := m + 1 + 1) (R1 := fun _ => True) (ekb_pure bd0 fun J g => (et_is (ev_eqI (ev_var rfl (.int i)) ev_int rfl)).imp fun _ _ => trivial) (ekb_draw0 bd0 rfl (by decide) (by decide) (by omega)) (by omega) H1 g w Q fun b H2 _ g2 w2 => q b H2 trivial g2 w2) (fun _ J7 g7 w7 => ?_) fun _ J7 g7 w7 => ?_
  · exact sk_ret (S := [a, c]) (P := IsS 1) w7 (ek_pure bd0 fun J g => (ev_tup (ds := [.str "stop"]) (ea_cons ev_str ea_nil) (by show 1 ≤ 1000; decide)).imp fun d e => ⟨.stop, ⟨trivial, slim_stop⟩, by rw [e, S.d]⟩) fun v d J hd g w t => fin (by omega) (((g4.trans g5).trans g6).trans g7) hd g w t
  · exact sk_ret (S := [a, c]) w7 (ek_tup2 (P1 := fun z => z = .str "pay") (P2 := IsE 3) bd0 (ek_cs bd0 rfl) (ek_expr (k := 3) bd0 rfl rfl ((N4.mono (g5.trans g6)).mono g7) rfl (by decide) (by omega)) fun d1 d2 e1 ⟨e, he, e2⟩ => ⟨.pay e, ⟨he, slim_pay⟩, by rw [e1, e2, S.d]⟩) fun v d J hd g w t => fin (by omega) (((g4.trans g5).trans g6).trans g7) hd g w t
end
end K27
namespace K27
open PySem PySem.Spec L2
open PyProof.Rows hiding St
local macro_rules | `(tactic| walk_at "td") => `(tactic| first | assumption | exact Td.int _ | exact Td.str _ | exact Td.bl _ | exact Td.non)
local macro_rules | `(tactic| walk_at "bq") => `(tactic| first | exact rfl | assumption | decide)
local macro_rules | `(tactic| walk_at "kb") => `(tactic| first | exact kii | exact ksi | exact kti | exact kib | exact kss | exact kis | exact kts | exact ktt | exact kst | exact kit)
local macro_rules | `(tactic| walk_at "ev") => `(tactic| first
  | with_reducible exact ev_int
  | with_reducible exact ev_str
  | with_reducible exact ev_bl
  | with_reducible exact ev_non
  | ((with_reducible refine' ev_var ?e ?t); (case e => exact rfl); (case t => walk_at "td"))
  | ((with_reducible refine' ev_ix ?a ?n ?z); (case a => walk_at "ev"); (case z => decide); (case n => exact rfl))
  | ((with_reducible refine' ev_isi ?a ?k); (case a => walk_at "ev"); (case k => walk_at "kb"))
  | ((with_reducible refine' ev_len ?a ?k); (case a => walk_at "ev"); (case k => exact rfl))
  | ((with_reducible refine' ev_cmpI ?a ?b ?r); (case a => walk_at "ev"); (case b => walk_at "ev"); (case r => walk_at "bq"))
  | ((with_reducible refine' ev_I0 ?a ?b ?r); (case a => walk_at "ev"); (case b => walk_at "ev"); (case r => exact rfl))
  | ((with_reducible refine' ev_eqS ?a ?b ?r); (case a => walk_at "ev"); (case b => walk_at "ev"); (case r => walk_at "bq"))
  | ((with_reducible refine' ev_eqI ?a ?b ?r); (case a => walk_at "ev"); (case b => walk_at "ev"); (case r => walk_at "bq"))
  | ((with_reducible refine' ev_neI ?a ?b ?r); (case a => walk_at "ev"); (case b => walk_at "ev"); (case r => walk_at "bq"))
  | ((with_reducible refine' ev_notV ?a ?r); (case a => walk_at "ev"); (case r => walk_at "bq"))
  | ((with_reducible refine' ev_chain ?a ?b ?c ?r); (case a => walk_at "ev"); (case b => walk_at "ev"); (case c => walk_at "ev"); (case r => walk_at "bq"))
  | ((with_reducible refine' ev_tup ?a ?l); (case a => walk_at "ea"); (case l => (show _ ≤ _; decide))))
local macro_rules | `(tactic| walk_at "ea") => `(tactic| first
  | with_reducible exact ea_nil
  | ((with_reducible refine' ea_cons ?a ?b); (case a => walk_at "ev"); (case b => walk_at "ea")))
local macro_rules | `(tactic| walk_at "et") => `(tactic| first
  | ((with_reducible refine' et_notI ?a ?r); (case a => walk_at "et"); (case r => walk_at "bq"))
  | ((with_reducible refine' et_is ?a); (case a => walk_at "ev"))
  | ((with_reducible refine' et_isB ?a); (case a => walk_at "ev"))
  | ((with_reducible refine' et_and ?a ?b ?c); (case a => walk_at "et"); (case b => (intro _; walk_at "et")); (case c => (intro z; first | exact z | (cases z; done) | rfl)))
  | ((with_reducible refine' et_or ?a ?b ?c); (case a => walk_at "et"); (case b => (intro _; walk_at "et")); (case c => (intro z; first | exact z | (cases z; done) | rfl))))
local macro_rules | `(tactic| walk_at "ev2") => `(tactic| first
  | walk_at "ev"
  | ((with_reducible refine' ev_inT ?a ?p ?s ?d ?f ?x ?b); (case a => walk_at "ev"); (case p => exact evv_c); (case s => assumption); (case d => exact rfl); (case f => exact rfl); (case x => exact rfl); (case b => walk_at "bq"))
  | ((with_reducible refine' ev_inU2 ?a ?p ?l ?d ?x ?f ?y ?b); (case a => walk_at "ev"); (case p => walk_at "ea"); (case l => (show _ ≤ _; decide)); (case d => exact rfl); (case x => exact rfl); (case f => exact rfl); (case y => exact rfl); (case b => walk_at "bq"))
  | ((with_reducible refine' ev_slA ?a ?l ?h ?r); (case a => walk_at "ev"); (case l => walk_at "eo"); (case h => walk_at "eo"); (case r => exact rfl)))
local macro_rules | `(tactic| walk_at "et2") => `(tactic| first
  | walk_at "et"
  | ((with_reducible refine' et_is ?a); (case a => walk_at "ev2"))
  | ((with_reducible refine' et_isB ?a); (case a => walk_at "ev2")))
local macro_rules | `(tactic| walk_at "eo") => `(tactic| first
  | with_reducible exact eo_none
  | ((with_reducible refine' eo_some ?a); (case a => walk_at "ev")))
/-! ### rows and blocks: helpers -/
theorem SOk.up {ke : Nat} : ∀ {n : Nat} {s : S}, SOk ke n s → SOk ke (n + 1) s
  | 0, _, h => h.elim
  | n + 1, .set x e, h => h
  | n + 1, .pay e, h => h
  | n + 1, .stop, h => h
  | n + 1, .ite t y z, h => ⟨h.1, ⟨h.2.1.1, fun s hs => SOk.up (h.2.1.2 s hs)⟩, ⟨h.2.2.1, fun s hs => SOk.up (h.2.2.2 s hs)⟩⟩
  | n + 1, .ch c y z, h => ⟨⟨h.1.1, fun s hs => SOk.up (h.1.2 s hs)⟩, ⟨h.2.1, fun s hs => SOk.up (h.2.2 s hs)⟩⟩
  | n + 1, .rep m y, h => ⟨h.1, ⟨h.2.1, fun s hs => SOk.up (h.2.2 s hs)⟩⟩
theorem SOk.one_up {ke : Nat} {s : S} (h : SOk ke 1 s) : ∀ k, SOk ke (k + 1) s
  | 0 => h
  | k + 1 => (SOk.one_up h k).up
def BC : Nat → Nat
  | 0 => 0
  | k + 1 => 1 + 4 * (150 + 2 * BC k)
def RowC (k : Nat) : Nat := 150 + 2 * BC k
def IsB (k : Nat) : PyData → Prop := fun z => ∃ b : List S, b.length ≤ 4 ∧ (∀ s ∈ b, SOk 3 k s ∧ s.slim) ∧ z = .tuple (bds b)
def spBlock (a c : Addr) (k : Nat) : Sp := fun vs H Q _ => ∃ (l pn : Addr) (times : Int) (m : Nat), vs = [.ref a, .ref pn, .ref l, .int times, .int (4 - (k : Int))] ∧ Names [a, c, l] H pn ∧ Wk a c (Lf l) m H ∧ l ≠ a ∧ l ≠ c ∧ m + BC k ≤ 2 ^ 40 ∧
  ∀ v d J, IsB k d → Mv [a, c, l] H J → Wk a c (Lf l) (m + BC k) J → Td J v d → Q v J
def spRow (a c : Addr) (k : Nat) : Sp := fun vs H Q _ => ∃ (l pn : Addr) (times : Int) (m : Nat), vs = [.ref a, .ref pn, .ref l, .int times, .int (3 - (k : Int))] ∧ Names [a, c, l] H pn ∧ Wk a c (Lf l) m H ∧ l ≠ a ∧ l ≠ c ∧ m + RowC k ≤ 2 ^ 40 ∧
  ∀ v d J, (d = .tuple [] ∨ IsS (k + 1) d) → Mv [a, c, l] H J → Wk a c (Lf l) (m + RowC k) J → Td J v d → Q v J
theorem IsS.cons {k : Nat} {d : PyData} (hk : k ≤ 10) (h : IsS k d) : ∃ x r, d = .tuple (x :: r) ∧ SeqAt.shaped d = true := by
  obtain ⟨s, hs, rfl⟩ := h
  have sh := (S.sh 3 k s hs.1).shaped (by omega)
  cases s with
  | set x e => rw [S.d] at *; exact ⟨_, _, rfl, sh⟩
  | pay e => rw [S.d] at *; exact ⟨_, _, rfl, sh⟩
  | stop => rw [S.d] at *; exact ⟨_, _, rfl, sh⟩
  | ite t y z => rw [S.d] at *; exact ⟨_, _, rfl, sh⟩
  | ch c y z => rw [S.d] at *; exact ⟨_, _, rfl, sh⟩
  | rep m y => rw [S.d] at *; exact ⟨_, _, rfl, sh⟩
section
variable {K : PySem.W.Frag} {σ : St} {H : Hp} {ta tb te tt td : TE} {t : TT} {ts : TA} {a c l : Addr} {m m1 m2 m3 m4 : Nat} {D : Ends} {S : List Addr} {R : Hp → Prop} {P : PyData → Prop}
theorem qk_left2 {tk : TS} {i j k : Nat} (h1 : l ≠ a) (h2 : l ≠ c) (w : Wk a c (Lf l) m H) (he : EvKA [a, c, l] a c (Lf l) m m ts σ H (fun z => ∃ x y : Int, z = [.d (.int x), .d (.int y)])) (hk : σ[k]? = some (some (.ref l))) (hi : i < 5) (hj : j < 5)
    (kk : ∀ J, Mv [a, c, l] H J → Wk a c (Lf l) m J → tk D σ J) : tSeq (tAsg (tTup ts) (gTup K 2 (gCons (gSub (tVar k) (tC (.int (i : Int))) rSetL) (gCons (gSub (tVar k) (tC (.int (j : Int))) rSetL) gNil)))) tk D σ H :=
  he H Mv.rfl w _ fun vs xs J ⟨x, y, hd⟩ g w2 tz => by
    subst hd
    obtain ⟨v1, v2, rfl, t1, t2⟩ := tz.two
    have e1 := Td.int_inv t1
    have e2 := Td.int_inv t2
    subst e1 e2
    refine ⟨sizeOk (by show 2 ≤ 1000; decide), fun p hp => ?_⟩
    have gn := Gr.new (o := .tup [.int x, .int y]) hp
    obtain ⟨⟨n, cs, a1, a2, r⟩, xs, hx, hl⟩ := (bdL h1 h2).grow gn w2
    have mp : Mv [a, c, l] (upd J p (.tup [.int x, .int y])) (upd (upd J p (.tup [.int x, .int y])) l (.lst ((xs.map V.int).set i (.int x)))) := Mv.put hx (by simp) lst_tup
    have mq : Mv [a, c, l] (upd (upd J p (.tup [.int x, .int y])) l (.lst ((xs.map V.int).set i (.int x)))) (upd (upd (upd J p (.tup [.int x, .int y])) l (.lst ((xs.map V.int).set i (.int x)))) l (.lst (((xs.map V.int).set i (.int x)).set j (.int y)))) := Mv.put upd_same (by simp) lst_tup
    refine ⟨p, _, rfl, SqT.of upd_same, rfl, _, _, rfl, _, hk, l, _, (i : Int), i, rfl, rfl, hx, ixN_n (by rw [List.length_map, hl]; exact hi), _, _, rfl, _, hk, l, _, (j : Int), j, rfl, rfl, upd_same, ixN_n (by rw [List.length_set, List.length_map, hl]; exact hj), rfl, ?_⟩
    refine kk _ (((g.trans gn.up).trans mp).trans mq) ⟨⟨n, cs, ?_, ?_, r⟩, (xs.set i x).set j y, ?_, by rw [List.length_set, List.length_set]; exact hl⟩
    · rw [upd_ne h1.symm, upd_ne h1.symm]; exact a1
    · rw [upd_ne h2.symm, upd_ne h2.symm]; exact a2
    · rw [upd_same, List.map_set, List.map_set]
theorem ek_test {E : XK} {times : Int} {pn : Addr} (la : l ≠ a) (lc : l ≠ c) (h0 : σ[0]? = some (some (.ref a))) (h1 : σ[1]? = some (some (.ref pn))) (h2 : σ[2]? = some (some (.ref l))) (h3 : σ[3]? = some (some (.int times))) (hN : Names [a, c, l] H pn) (hm : m + 100 ≤ 2 ^ 40) :
    EvK [a, c, l] a c (Lf l) m (m + 100) (tCall (spTest a c) [] E (tCons (tVar 0) (tCons (tVar 1) (tCons (tVar 2) (tCons (tVar 3) tNil))))) σ H (fun z => z = .tuple [] ∨ IsT z) := fun H1 g w Q q =>
  ⟨_, h0, _, h1, _, h2, _, h3, l, pn, times, m, rfl, hN.mono g, w, la, lc, hm, fun v d J hd mv w2 t => q v d J hd mv w2 t⟩
theorem ek_block {E : XK} {k : Nat} {pn : Addr} (B : Bd [a, c, l] a c (Lf l)) (la : l ≠ a) (lc : l ≠ c) (h0 : σ[0]? = some (some (.ref a))) (h1 : σ[1]? = some (some (.ref pn))) (h2 : σ[2]? = some (some (.ref l))) (h3 : ∀ J, EvP tt σ J (fun z => ∃ i : Int, z = .int i)) (h4 : ∀ J, EvP td σ J (fun z => z = .int (4 - (k : Int)))) (hN : Names [a, c, l] H pn) (hm : m + BC k ≤ 2 ^ 40) :
    EvK [a, c, l] a c (Lf l) m (m + BC k) (tCall (spBlock a c k) [] E (tCons (tVar 0) (tCons (tVar 1) (tCons (tVar 2) (tCons tt (tCons td tNil)))))) σ H (IsB k) := fun H1 g w Q q =>
  ⟨_, h0, _, h1, _, h2, h3 H1 H1 Mv.rfl _ fun v3 d3 H2 ⟨i, e3⟩ g2 t3 => h4 H2 H2 Mv.rfl _ fun v4 d4 H3 e4 g3 t4 => by
    subst e3 e4
    have e3 := t3.int_inv
    have e4 := t4.int_inv
    subst e3 e4
    have g23 := (g2.trans g3).up (U := [a, c, l])
    exact ⟨l, pn, i, m, rfl, hN.mono (g.trans g23), B.grow (g2.trans g3) w, la, lc, hm, fun v d J hd mv w2 t => q v d J hd (g23.trans mv) w2 t⟩⟩
theorem ek_tup4 {P1 P2 P3 P4 : PyData → Prop} (B : Bd S a c R) (h1 : EvK S a c R m m1 ta σ H P1) (h2 : EvK S a c R m1 m2 tb σ H P2) (h3 : EvK S a c R m2 m3 te σ H P3) (h4 : EvK S a c R m3 m4 tt σ H P4) (h : ∀ d1 d2 d3 d4, P1 d1 → P2 d2 → P3 d3 → P4 d4 → P (.tuple [d1, d2, d3, d4])) : EvK S a c R m m4 (tTup (tCons ta (tCons tb (tCons te (tCons tt tNil))))) σ H P :=
  ek_tup B (eka_cons h1 (eka_cons h2 (eka_cons h3 (eka_cons h4 eka_nil)))) fun xs hx => by
    obtain ⟨d1, x1, rfl, p1, d2, x2, rfl, p2, d3, x3, rfl, p3, d4, x4, rfl, p4, rfl⟩ := hx
    exact ⟨[d1, d2, d3, d4], rfl, by show 4 ≤ 1000; decide, h d1 d2 d3 d4 p1 p2 p3 p4⟩
/-- a, b = (what te gives), [] -/
theorem qk_parE {tk : TS} {i j : Nat} (B : Bd S a c R) (w : Wk a c R m H) (he : EvK S a c R m m1 te σ H P) (k : ∀ v d p J, P d → H p = none → Mv S H J → Wk a c R m1 J → Td J v d → J p = some (.lst []) → tk D ((σ.set i (some v)).set j (some (.ref p))) J) :
    tSeq (tPar i j (tCons te (tCons (tLst tNil) tNil))) tk D σ H := he H Mv.rfl w _ fun v d J pd g w2 t =>
  ⟨sizeOk (by show 0 ≤ 1000; decide), fun p hp => by
    have gn := Gr.new (o := .lst []) hp
    exact ⟨_, _, rfl, k v d p _ pd (g.low p hp) (g.trans gn.up) (B.grow gn w2) (t.mono gn.tup) upd_same⟩⟩
theorem el_lcLV {Iv : Nat → List PyData → Prop} {Bb : Nat → Bool → Prop} {Rr : Nat → PyData → Prop} {Pl : List PyData → Prop} {i j : Nat} {p : Addr} {xs : List V} {ds : List PyData} (hk : σ[i]? = some (some (.ref p))) (hx : H p = some (.lst xs)) (ts : TdA H xs ds) (hl : ds.length ≤ 100000) (h0 : Iv 0 [])
    (hb : ∀ n d v J, ds[n]? = some d → Gr H J → Td J v d → EvB t (σ.set j (some v)) J (Bb n)) (he : ∀ n d v J, ds[n]? = some d → Gr H J → Td J v d → Bb n true → EvP te (σ.set j (some v)) J (Rr n))
    (ht : ∀ n es e, n < ds.length → Iv n es → Bb n true → Rr n e → Iv (n + 1) (es ++ [e])) (hf : ∀ n es, n < ds.length → Iv n es → Bb n false → Iv (n + 1) es) (hP : ∀ es, Iv ds.length es → Pl es) :
    EvL (tLc (iList K (tVar i)) (gName j) t te [j]) σ H Pl := fun H1 g Q q => by
  have hx1 := g.get hx
  have ts1 := ts.mono g.tup
  refine ⟨_, hk, p, rfl, ⟨xs, SqL.of hx1⟩, fun D hD => ?_⟩
  have lx := ts1.length
  refine lc_list (K := K) (a := p) (xs := xs) (CPv H1 D Iv) (c_start hD h0) (fun i J _ p => SqL.of (p.1.get hx1)) (fun i x J hi p => ?_) fun J p => ?_
  · obtain ⟨d, hd, td⟩ := ts1.getV hi
    have il : i < ds.length := (List.getElem?_eq_some_iff.mp hd).1
    have gHJ := g.trans p.1
    exact c_turn hD p (by omega) (hb i d x J hd gHJ (td.mono p.1.tup)) (he i d x J hd gHJ (td.mono p.1.tup)) (fun es e => ht i es e il) fun es => hf i es il
  · obtain ⟨g3, acc, es, hJ, ts3, iv, _⟩ := p
    rw [lx] at iv
    exact q D acc es J (hP es iv) hD g3 hJ ts3
end
section
variable {P : Program} {w : World} {K : PySem.W.Frag} {mg : Str → Option Value} {base : Heap}
abbrev s__law_row : Stmt := top 56
theorem sc__law_row : FnScope ["_law_deck_here", "_law_names_here", "_law_left", "_law_times", "_law_depth", "_law_way", "_law_test_here", "_law_yes", "_law_again", "_law_one_here"] ["_law_deck_here", "_law_names_here", "_law_left", "_law_times", "_law_depth"] (defScope s__law_row) := ⟨rfl, rfl, rfl, by decide +kernel, rfl, by decide +kernel, by decide +kernel⟩
theorem df_row (F : Fn K mg "_law_row" s__law_row ["_law_deck_here", "_law_names_here", "_law_left", "_law_times", "_law_depth"]) (T : Gb K w mg) {a c : Addr} {k : Nat} (G__law_draw : Df P w K mg base 1 "_law_draw" ["_law_deck_here", "_law_many"] (spK a c 1 A_draw)) (G__law_one : Df P w K mg base 2 "_law_one" ["_law_deck_here", "_law_items"] (spK a c 1 A_oneL))
    (G__law_test : Df P w K mg base 6 "_law_test" ["_law_deck_here", "_law_names_here", "_law_left", "_law_times"] (spTest a c)) (G__law_plain : Df P w K mg base 6 "_law_plain" ["_law_deck_here", "_law_names_here"] (spK a c 20 A_plain)) (G__law_block : Df P w K mg base (2 * k + 7) "_law_block" ["_law_deck_here", "_law_names_here", "_law_left", "_law_times", "_law_depth"] (spBlock a c k)) :
    Df P w K mg base (2 * k + 8) "_law_row" ["_law_deck_here", "_law_names_here", "_law_left", "_law_times", "_law_depth"] (spRow a c k) := by
  refine df_of F sc__law_row (fun vs H Q E h => ?_) (fun f cdv A outer s H vs Q E hr h => ?_)
  · obtain ⟨_, _, _, _, rfl, _⟩ := h
    rfl
  obtain ⟨l, pn, times, m, rfl, hN, w0, la, lc, hm, q⟩ := h
  have B := bdL la lc
  have eR : RowC k = 150 + 2 * BC k := rfl
  rw [eR] at hm q
  refine ⟨_, (pss_cons (ps_if (PW.pt (pw_or (pt_cmpR op_lt (pe_ix (k_ixL K) (pv 2) pe_int (fun _ _ => rfl)) pe_int (nomark _)) (pw_or1 (pt_cmpR op_lt (pe_ix (k_ixL K) (pv 2) pe_int (fun _ _ => rfl)) (pv 3) (nomark _))))) (pss_one (ps_ret (pe_tup pa_nil))) pss_nil) (pss_cons (ps_asg (pe_tup (pa_cons (pe_op op_sub (pe_ix (k_ixL K) (pv 2) pe_int (fun _ _ => rfl)) pe_int) (pa_cons (pe_op op_sub (pe_ix (k_ixL K) (pv 2) pe_int (fun _ _ => rfl)) (pv 3)) pa_nil))) (pg_tup (by rfl) (pgs_cons (pg_sub (pv 2) pe_int set_list) (pgs_cons (pg_sub (pv 2) pe_int set_list) pgs_nil)))) (pss_cons (ps_set (i := 5) sc__law_row.nd rfl (Or.inl rfl) (pe_df G__law_draw (hr.mono (by first | decide | omega)) (pa_cons (pv 0) (pa_cons pe_int pa_nil)))) (pss_cons (ps_set (i := 6) sc__law_row.nd rfl (Or.inl rfl) (pe_ifExp (pt_cmpR op_eq (pv 5) pe_int (nomark _)) (pe_df G__law_test (hr.mono (by first | decide | omega)) (pa_cons (pv 0) (pa_cons (pv 1) (pa_cons (pv 2) (pa_cons (pv 3) pa_nil))))) (pe_tup pa_nil))) (pss_cons (ps_if (pt_cmpR (k_neD K rfl hr.units) (pv 6) (pe_tup pa_nil) (nomark _)) (pss_cons (ps_set (i := 7) sc__law_row.nd rfl (Or.inl rfl) (pe_df G__law_block (hr.mono (by first | decide | omega)) (pa_cons (pv 0) (pa_cons (pv 1) (pa_cons (pv 2) (pa_cons (pv 3) (pa_cons (pe_op op_add (pv 4) pe_int) pa_nil))))))) (pss_one (ps_ret (pe_tup (pa_cons pe_str (pa_cons (pv 6) (pa_cons (pv 7) (pa_cons (pe_df G__law_block (hr.mono (by first | decide | omega)) (pa_cons (pv 0) (pa_cons (pv 1) (pa_cons (pv 2) (pa_cons (pv 3) (pa_cons (pe_op op_add (pv 4) pe_int) pa_nil)))))) pa_nil)))))))) pss_nil) (pss_cons (ps_if (pt_cmpR op_eq (pv 5) pe_int (nomark _)) (pss_cons (ps_set (i := 8) sc__law_row.nd rfl (Or.inl rfl) (pe_df G__law_one (hr.mono (by first | decide | omega)) (pa_cons (pv 0) (pa_cons (pe_lst (pa_cons pe_int (pa_cons pe_int (pa_cons pe_int (pa_cons pe_int (pa_cons pe_int (pa_cons pe_int (pa_cons pe_int pa_nil)))))))) pa_nil)))) (pss_one (ps_ret (pe_tup (pa_cons pe_str (pa_cons (pv 8) (pa_cons (pe_df G__law_block (hr.mono (by first | decide | omega)) (pa_cons (pv 0) (pa_cons (pv 1) (pa_cons (pv 2) (pa_cons (pe_op op_mul (pv 3) (pv 8)) (pa_cons (pe_op op_add (pv 4) pe_int) pa_nil)))))) pa_nil))))))) pss_nil) (pss_cons (ps_if (PW.pt (pw_and (pt_cmpR op_lt (pv 5) pe_int (nomark _)) (pw_and1 (pt_cmpR op_ge (pe_ix (k_ixL K) (pv 2) pe_int (fun _ _ => rfl)) (pv 3) (nomark _))))) (pss_cons (ps_asg (pe_op op_sub (pe_ix (k_ixL K) (pv 2) pe_int (fun _ _ => rfl)) (pv 3)) (pg_sub (pv 2) pe_int set_list)) (pss_cons (ps_set (i := 9) sc__law_row.nd rfl (Or.inl rfl) (pe_df G__law_block (hr.mono (by first | decide | omega)) (pa_cons (pv 0) (pa_cons (pv 1) (pa_cons (pv 2) (pa_cons (pv 3) (pa_cons (pe_op op_add (pv 4) pe_int) pa_nil))))))) (pss_one (ps_ret (pe_tup (pa_cons (pe_df G__law_one (hr.mono (by first | decide | omega)) (pa_cons (pv 0) (pa_cons (pe_lst (pa_cons pe_str (pa_cons pe_str pa_nil))) pa_nil))) (pa_cons (pv 9) (pa_cons (pe_df G__law_block (hr.mono (by first | decide | omega)) (pa_cons (pv 0) (pa_cons (pv 1) (pa_cons (pv 2) (pa_cons (pv 3) (pa_cons (pe_op op_add (pv 4) pe_int) pa_nil)))))) pa_nil)))))))) pss_nil) (pss_one (ps_ret (pe_df G__law_plain (hr.mono (by first | decide | omega)) (pa_cons (pv 0) (pa_cons (pv 1) pa_nil)))))))))))), ?_⟩
  have here : ∀ {m : Nat} (J : Hp), Wk a c (Lf l) m J → ∀ b ∈ [a, c, l], J b ≠ none := fun J w => hereL w
  have fin : ∀ {J : Hp} {m2 : Nat} {v : V} {d : PyData} {H2 : Hp}, m2 ≤ m + (150 + 2 * BC k) → Mv [a, c, l] H J → (d = .tuple [] ∨ IsS (k + 1) d) → Mv [a, c, l] J H2 → Wk a c (Lf l) m2 H2 → Td H2 v d → Q v H2 := fun hl g1 hd g2 w t => q _ _ _ hd (g1.trans g2) ⟨w.1.le hl, w.2⟩ t
  refine qk_if (P := fun _ => True) w0 (fun H1 g w Q q => ekb_or (m1 := m) (ekb_cmp (P2 := fun j => j = 1) (ek_left B (i := 0) rfl (by decide) (by decide)) (ek_ci B ⟨1, rfl, rfl⟩)) (ekb_cmp (P2 := fun j => j = times) (ek_left B (i := 1) rfl (by decide) (by decide)) (ek_pure B fun J g => (ev_var rfl (.int times)).imp fun d e => ⟨times, e, rfl⟩)) (Nat.le_refl _) H1 g w Q fun b H2 _ g2 w2 => q b H2 trivial g2 w2) (fun _ J1 g1 w1 => ?_) fun _ J1 g1 w1 => ?_
  · exact sk_ret (S := [a, c, l]) (P := fun z => z = .tuple []) w1 (ek_pure B fun J g => ev_tup ea_nil (by show 0 ≤ 1000; decide)) fun v d J hd g w t => fin (by omega) g1 (.inl hd) g w t
  refine qk_left2 (i := 0) (j := 1) la lc w1 (fun H1 g w Q q => eka_cons (m1 := m) (P := fun z => ∃ x : Int, z = .int x) ((ek_I0 (m1 := m) (P2 := fun j => j = 1) (g' := fun i j => i - j) (ek_left B (i := 0) rfl (by decide) (by decide)) (ek_ci B ⟨1, rfl, rfl⟩) (fun i j => rfl)).imp fun d ⟨x, y, _, _, e⟩ => ⟨_, e⟩) (eka_cons (P := fun z => ∃ x : Int, z = .int x) ((ek_I0 (m1 := m) (P2 := fun j => j = times) (g' := fun i j => i - j) (ek_left B (i := 1) rfl (by decide) (by decide)) (ek_pure B fun L g => (ev_var rfl (.int times)).imp fun d e => ⟨times, e, rfl⟩) (fun i j => rfl)).imp fun d ⟨x, y, _, _, e⟩ => ⟨_, e⟩) eka_nil) H1 g w Q fun vs xs H2 hx g2 w2 ts => ?_) rfl (by decide) (by decide) fun J2 g2 w2 => ?_
  · obtain ⟨d1, x1, rfl, ⟨x, rfl⟩, d2, x2, rfl, ⟨y, rfl⟩, rfl⟩ := hx
    exact q _ _ H2 ⟨x, y, rfl⟩ g2 w2 ts
  refine qk_set (S := [a, c, l]) (m1 := m + 1) (P := fun z => ∃ r : Int, z = .int r ∧ 0 ≤ r ∧ r < 9) w2 (ek_drawC B rfl (by decide) (by decide) (by omega)) fun v3 d3 J3 hd3 g3 w3 t3 => ?_
  obtain ⟨way, rfl, y0, y1⟩ := hd3
  have e3 := t3.int_inv
  subst e3
  have g13 := (g1.trans g2).trans g3
  refine qk_set (S := [a, c, l]) (m1 := m + 1 + 100) (P := fun z => z = .tuple [] ∨ IsT z) w3 (ek_if (R1 := fun _ => True) (m1 := m + 1) (ekb_pure B fun J g => (et_is (ev_eqI (ev_var rfl (.int way)) ev_int rfl)).imp fun _ _ => trivial) (ek_test la lc rfl rfl rfl rfl (hN.mono g13) (by omega)) (EvK.le (ek_pure B fun J g => (ev_tup ea_nil (by show 0 ≤ 1000; decide)).imp fun d e => .inl e) (by omega))) fun v4 d4 J4 hd4 g4 w4 t4 => ?_
  have g14 := g13.trans g4
  have hne4 : d4 = .tuple [] ∨ ∃ x r, d4 = .tuple (x :: r) ∧ SeqAt.shaped d4 = true := hd4.imp id IsT.cons
  have times_ : ∀ {σ : St}, σ[3]? = some (some (.int times)) → ∀ J, EvP (tVar 3) σ J (fun z => ∃ i : Int, z = .int i) := fun {σ} h J => (ev_var h (.int times)).imp fun d e => ⟨times, e⟩
  have deep_ : ∀ {σ : St}, σ[4]? = some (some (.int (3 - (k : Int)))) → ∀ J, EvP (tOp (rI0 fun i j => .int (i + j)) (tVar 4) (tC (.int 1))) σ J (fun z => z = .int (4 - (k : Int))) := fun {σ} h J => ev_I0 (ev_var h (.int (3 - (k : Int)))) ev_int (by show V.int _ = V.int _; congr 1; omega)
  refine qk_if (P := fun b => (b = true ∧ d4 ≠ .tuple []) ∨ (b = false ∧ d4 = .tuple [])) w4 (ekb_pure B fun J g => et_neNil rfl (t4.mono g.tup) hne4) (fun hb J5 g5 w5 => ?_) fun hb J5 g5 w5 => ?_
  · have hT : IsT d4 := by
      rcases hb with ⟨_, z⟩ | ⟨z, _⟩
      · exact hd4.resolve_left z
      · cases z
    obtain ⟨te, hte, rfl⟩ := hT
    have t5 := t4.mono g5.tup
    refine qk_set (S := [a, c, l]) (m1 := m + 1 + 100 + BC k) (P := IsB k) w5 (ek_block B la lc rfl rfl rfl (times_ rfl) (deep_ rfl) (hN.mono (g14.trans g5)) (by omega)) fun v6 d6 J6 hd6 g6 w6 t6 => ?_
    obtain ⟨b6, l6, s6, rfl⟩ := hd6
    have g16 := (g14.trans g5).trans g6
    refine sk_ret (S := [a, c, l]) (P := IsS (k + 1)) w6 (ek_tup4 (m1 := m + 1 + 100 + BC k) (m2 := m + 1 + 100 + BC k) (m3 := m + 1 + 100 + BC k) (P1 := fun z => z = .str "if") (P2 := fun z => z = te.d) (P3 := fun z => z = .tuple (bds b6)) (P4 := IsB k) B (ek_cs B rfl) (ek_var B rfl (t5.mono g6.tup)) (ek_var B rfl t6) (ek_block B la lc rfl rfl rfl (times_ rfl) (deep_ rfl) (hN.mono g16) (by omega)) fun d1 d2 d3 d4 e1 e2 e3 ⟨b7, l7, s7, e4⟩ => ⟨.ite te b6 b7, ⟨⟨hte, ⟨by omega, fun s h => (s6 s h).1⟩, ⟨by omega, fun s h => (s7 s h).1⟩⟩, slim_ite l6 s6 l7 s7⟩, by rw [e1, e2, e3, e4, S.d]⟩) fun v d J hd g w t => fin (by omega) g16 (.inr hd) g w t
  refine qk_if (P := fun _ => True) w5 (ekb_pure B fun J g => (et_is (ev_eqI (ev_var rfl (.int way)) ev_int rfl)).imp fun _ _ => trivial) (fun _ J6 g6 w6 => ?_) fun _ J6 g6 w6 => ?_
  · refine qk_set (S := [a, c, l]) (m1 := m + 1 + 100 + 1) (P := fun z => ∃ i : Int, z = .int i ∧ 1 ≤ i ∧ i ≤ 8) w6 (ek_oneW (m1 := m + 1 + 100) (n := 7) B here rfl ?_ (by decide) (by decide) (by omega)) fun v7 d7 J7 hd7 g7 w7 t7 => ?_
    · repeat (first | exact eall_nil | refine eall_cons (ek_ci B ⟨_, rfl, by decide, by decide⟩) ?_)
    obtain ⟨i, rfl, i1, i8⟩ := hd7
    have e7 := t7.int_inv
    subst e7
    have g17 := ((g14.trans g5).trans g6).trans g7
    refine sk_ret (S := [a, c, l]) (P := IsS (k + 1)) w7 (ek_tup3 (m1 := m + 1 + 100 + 1) (m2 := m + 1 + 100 + 1) (P1 := fun z => z = .str "repeat") (P2 := fun z => z = .int i) (P3 := IsB k) B (ek_cs B rfl) (ek_var B rfl (.int i)) (ek_block B la lc rfl rfl rfl (fun J => (ev_I (ev_var rfl (.int times)) (ev_var rfl (.int i)) (.inr ⟨by omega, by omega⟩) rfl).imp fun d e => ⟨_, e⟩) (deep_ rfl) (hN.mono g17) (by omega)) fun d1 d2 d3 e1 e2 ⟨b7, l7, s7, e3⟩ => ⟨.rep i b7, ⟨⟨⟨i1, i8⟩, ⟨by omega, fun s h => (s7 s h).1⟩⟩, slim_rep l7 s7⟩, by rw [e1, e2, e3, S.d]⟩) fun v d J hd g w t => fin (by omega) g17 (.inr hd) g w t
  have g16 := (g14.trans g5).trans g6
  refine qk_if (P := fun _ => True) w6 (fun H1 g w Q q => ekb_and (m1 := m + 1 + 100) (R1 := fun _ => True) (ekb_pure B fun J g => (et_is (ev_cmpI (ev_var rfl (.int way)) ev_int rfl)).imp fun _ _ => trivial) (ekb_cmp (P2 := fun j => j = times) (ek_left B (i := 2) rfl (by decide) (by decide)) (ek_pure B fun J g => (ev_var rfl (.int times)).imp fun d e => ⟨times, e, rfl⟩)) (Nat.le_refl _) H1 g w Q fun b H2 _ g2 w2 => q b H2 trivial g2 w2) (fun _ J7 g7 w7 => ?_) fun _ J7 g7 w7 => ?_
  · refine qk_left (i := 2) (P1 := fun _ => True) B la lc w7 ((ek_I0 (m1 := m + 1 + 100) (P2 := fun j => j = times) (g' := fun i j => i - j) (ek_left B (i := 2) rfl (by decide) (by decide)) (ek_pure B fun L g => (ev_var rfl (.int times)).imp fun d e => ⟨times, e, rfl⟩) (fun i j => rfl)).imp fun d ⟨x, y, _, _, e⟩ => ⟨_, e, trivial⟩) rfl (by decide) fun J8 g8 w8 => ?_
    have g18 := (g16.trans g7).trans g8
    refine qk_set (S := [a, c, l]) (m1 := m + 1 + 100 + BC k) (P := IsB k) w8 (ek_block B la lc rfl rfl rfl (times_ rfl) (deep_ rfl) (hN.mono g18) (by omega)) fun v9 d9 J9 hd9 g9 w9 t9 => ?_
    obtain ⟨b9, l9, s9, rfl⟩ := hd9
    have g19 := g18.trans g9
    refine sk_ret (S := [a, c, l]) (P := IsS (k + 1)) w9 (ek_tup3 (m1 := m + 1 + 100 + BC k + 1) (m2 := m + 1 + 100 + BC k + 1) (P1 := fun z => ∃ h, z = .str (hand h)) (P2 := fun z => z = .tuple (bds b9)) (P3 := IsB k) B (ek_oneW (m1 := m + 1 + 100 + BC k) (n := 2) B here rfl (eall_cons (ek_cs B ⟨true, rfl⟩) (eall_cons (ek_cs B ⟨false, rfl⟩) eall_nil)) (by decide) (by decide) (by omega)) (ek_var B rfl t9) (ek_block B la lc rfl rfl rfl (times_ rfl) (deep_ rfl) (hN.mono g19) (by omega)) fun d1 d2 d3 ⟨h, e1⟩ e2 ⟨b7, l7, s7, e3⟩ => ⟨.ch h b9 b7, ⟨⟨⟨by omega, fun s h => (s9 s h).1⟩, ⟨by omega, fun s h => (s7 s h).1⟩⟩, slim_ch l9 s9 l7 s7⟩, by rw [e1, e2, e3, S.d]⟩) fun v d J hd g w t => fin (by omega) g19 (.inr hd) g w t
  · obtain ⟨nvs, nds, hpn, hnn, tn, hND⟩ := hN.mono (g16.trans g7)
    refine sk_ret (S := [a, c, l]) (P := IsS 1) w7 (ek_call (A := A_plain) B rfl (eka_lst rfl hpn hnn tn eka_nil) (fun xs hx => ?_) (by omega)) fun v d J hd g w t => fin (by omega) (g16.trans g7) (.inr ?_) g w t
    · obtain ⟨ys, rfl, rfl⟩ := hx
      exact ⟨nds, rfl, hND, rfl⟩
    · obtain ⟨s, hs, e⟩ := hd
      exact ⟨s, ⟨hs.1.one_up k, hs.2⟩, e⟩
end
end K27
namespace K27
open PySem PySem.Spec L2
open PyProof.Rows hiding St
local macro_rules | `(tactic| walk_at "td") => `(tactic| first | assumption | exact Td.int _ | exact Td.str _ | exact Td.bl _ | exact Td.non)
local macro_rules | `(tactic| walk_at "bq") => `(tactic| first | exact rfl | assumption | decide)
local macro_rules | `(tactic| walk_at "kb") => `(tactic| first | exact kii | exact ksi | exact kti | exact kib | exact kss | exact kis | exact kts | exact ktt | exact kst | exact kit)
local macro_rules | `(tactic| walk_at "ev") => `(tactic| first
  | with_reducible exact ev_int
  | with_reducible exact ev_str
  | with_reducible exact ev_bl
  | with_reducible exact ev_non
  | ((with_reducible refine' ev_var ?e ?t); (case e => exact rfl); (case t => walk_at "td"))
  | ((with_reducible refine' ev_ix ?a ?n ?z); (case a => walk_at "ev"); (case z => decide); (case n => exact rfl))
  | ((with_reducible refine' ev_isi ?a ?k); (case a => walk_at "ev"); (case k => walk_at "kb"))
  | ((with_reducible refine' ev_len ?a ?k); (case a => walk_at "ev"); (case k => exact rfl))
  | ((with_reducible refine' ev_cmpI ?a ?b ?r); (case a => walk_at "ev"); (case b => walk_at "ev"); (case r => walk_at "bq"))
  | ((with_reducible refine' ev_I0 ?a ?b ?r); (case a => walk_at "ev"); (case b => walk_at "ev"); (case r => exact rfl))
  | ((with_reducible refine' ev_eqS ?a ?b ?r); (case a => walk_at "ev"); (case b => walk_at "ev"); (case r => walk_at "bq"))
  | ((with_reducible refine' ev_eqI ?a ?b ?r); (case a => walk_at "ev"); (case b => walk_at "ev"); (case r => walk_at "bq"))
  | ((with_reducible refine' ev_neI ?a ?b ?r); (case a => walk_at "ev"); (case b => walk_at "ev"); (case r => walk_at "bq"))
  | ((with_reducible refine' ev_notV ?a ?r); (case a => walk_at "ev"); (case r => walk_at "bq"))
  | ((with_reducible refine' ev_chain ?a ?b ?c ?r); (case a => walk_at "ev"); (case b => walk_at "ev"); (case c => walk_at "ev"); (case r => walk_at "bq"))
  | ((with_reducible refine' ev_tup ?a ?l); (case a => walk_at "ea"); (case l => (show _ ≤ _; decide))))
local macro_rules | `(tactic| walk_at "ea") => `(tactic| first
  | with_reducible exact ea_nil
  | ((with_reducible refine' ea_cons ?a ?b); (case a => walk_at "ev"); (case b => walk_at "ea")))
local macro_rules | `(tactic| walk_at "et") => `(tactic| first
  | ((with_reducible refine' et_notI ?a ?r); (case a => walk_at "et"); (case r => walk_at "bq"))
  | ((with_reducible refine' et_is ?a); (case a => walk_at "ev"))
  | ((with_reducible refine' et_isB ?a); (case a => walk_at "ev"))
  | ((with_reducible refine' et_and ?a ?b ?c); (case a => walk_at "et"); (case b => (intro _; walk_at "et")); (case c => (intro z; first | exact z | (cases z; done) | rfl)))
  | ((with_reducible refine' et_or ?a ?b ?c); (case a => walk_at "et"); (case b => (intro _; walk_at "et")); (case c => (intro z; first | exact z | (cases z; done) | rfl))))
local macro_rules | `(tactic| walk_at "ev2") => `(tactic| first
  | walk_at "ev"
  | ((with_reducible refine' ev_inT ?a ?p ?s ?d ?f ?x ?b); (case a => walk_at "ev"); (case p => exact evv_c); (case s => assumption); (case d => exact rfl); (case f => exact rfl); (case x => exact rfl); (case b => walk_at "bq"))
  | ((with_reducible refine' ev_inU2 ?a ?p ?l ?d ?x ?f ?y ?b); (case a => walk_at "ev"); (case p => walk_at "ea"); (case l => (show _ ≤ _; decide)); (case d => exact rfl); (case x => exact rfl); (case f => exact rfl); (case y => exact rfl); (case b => walk_at "bq"))
  | ((with_reducible refine' ev_slA ?a ?l ?h ?r); (case a => walk_at "ev"); (case l => walk_at "eo"); (case h => walk_at "eo"); (case r => exact rfl)))
local macro_rules | `(tactic| walk_at "et2") => `(tactic| first
  | walk_at "et"
  | ((with_reducible refine' et_is ?a); (case a => walk_at "ev2"))
  | ((with_reducible refine' et_isB ?a); (case a => walk_at "ev2")))
local macro_rules | `(tactic| walk_at "eo") => `(tactic| first
  | with_reducible exact eo_none
  | ((with_reducible refine' eo_some ?a); (case a => walk_at "ev")))
section
variable {P : Program} {w : World} {K : PySem.W.Frag} {mg : Str → Option Value} {base : Heap}
abbrev s__law_block : Stmt := top 57
theorem sc__law_block : FnScope ["_law_deck_here", "_law_names_here", "_law_left", "_law_times", "_law_depth", "_law_many", "_law_rows", "_law_k", "_law_row_here"] ["_law_deck_here", "_law_names_here", "_law_left", "_law_times", "_law_depth"] (defScope s__law_block) := ⟨rfl, rfl, rfl, by decide +kernel, rfl, by decide +kernel, by decide +kernel⟩
theorem df_block0 {spR : Sp} {L : Nat} (hL : L < 7) (F : Fn K mg "_law_block" s__law_block ["_law_deck_here", "_law_names_here", "_law_left", "_law_times", "_law_depth"]) (T : Gb K w mg) {a c : Addr} (G__law_draw : Df P w K mg base 1 "_law_draw" ["_law_deck_here", "_law_many"] (spK a c 1 A_draw))
    (G__law_row : Df P w K mg base L "_law_row" ["_law_deck_here", "_law_names_here", "_law_left", "_law_times", "_law_depth"] spR) : Df P w K mg base 7 "_law_block" ["_law_deck_here", "_law_names_here", "_law_left", "_law_times", "_law_depth"] (spBlock a c 0) := by
  refine df_of F sc__law_block (fun vs H Q E h => ?_) (fun f cdv A outer s H vs Q E hr h => ?_)
  · obtain ⟨_, _, _, _, rfl, _⟩ := h
    rfl
  obtain ⟨l, pn, times, m, rfl, hN, w0, la, lc, hm, q⟩ := h
  have B := bdL la lc
  refine ⟨_, (pss_cons (ps_if (pt_cmpR op_gt (pv 4) pe_int (nomark _)) (pss_one (ps_ret (pe_tup pa_nil))) pss_nil) (pss_cons (ps_par (i := 5) (j := 6) (by rfl) sc__law_block.nd rfl rfl (by decide) rfl rfl (pa_cons (pe_op op_add (pe_df G__law_draw (hr.mono (by first | decide | omega)) (pa_cons (pv 0) (pa_cons pe_int pa_nil))) (pe_callTy (T := "int") call_int1 (by rfl) T.int_ (by decide +kernel) (pa_cons (pe_cmpR op_eq (pv 4) pe_int (nomark _)) pa_nil))) (pa_cons (pe_lst pa_nil) pa_nil)) (by rfl)) (pss_cons (ps_for PassesOwn.never rfl (pi_range1 rfl T.range_ (pa_cons (pv 5) pa_nil)) (pg_name (i := 7) sc__law_block.nd rfl (Or.inl rfl)) (pss_one (ps_expr (pe_bm PySem.F.plainAttrs_list PySem.F.slot_list_append PySem.F.type_list_append mt_append (pv 6) (pa_cons (pe_df G__law_row (hr.mono (by first | decide | omega)) (pa_cons (pv 0) (pa_cons (pv 1) (pa_cons (pv 2) (pa_cons (pv 3) (pa_cons (pv 4) pa_nil)))))) pa_nil))))) (pss_one (ps_ret (pe_callTy (T := "tuple") (k_tup K) (by rfl) T.tuple_ (by decide +kernel) (pa_cons (pe_lc (own := [("_law_row_here", 8)]) (by rfl) sc__law_block.nd (pi_list (pv 6)) (blkOk_by (own := [("_law_row_here", 8)]) (N := ["_law_deck_here", "_law_names_here", "_law_left", "_law_times", "_law_depth", "_law_many", "_law_rows", "_law_k", "_law_row_here"]) (sc := defScope s__law_block) (by decide +kernel)) (fun _ _ _ _ _ => pg_name (i := 8) sc__law_block.nd rfl (Or.inl rfl)) (fun _ _ _ _ _ => (pts_one (pt_cmpR (k_neD K rfl hr.units) (pv 8) (pe_tup pa_nil) (nomark _)))) (fun _ _ _ _ _ => (pv 8))) pa_nil))))))), ?_⟩
  refine qk_if (P := fun b => b = true) w0 (ekb_pure B fun J g => et_is (ev_cmpI (ev_var rfl (.int _)) ev_int rfl)) (fun _ J1 g1 w1 => ?_) fun hb J1 g1 w1 => by cases hb
  exact sk_ret (S := [a, c, l]) (P := fun z => z = .tuple []) w1 (ek_pure B fun J g => ev_tup ea_nil (by show 0 ≤ 1000; decide)) fun v d J hd g w t => q v d J ⟨[], by decide, (fun s h => nomatch h), by rw [hd, bds]⟩ (g1.trans g) w t
theorem df_block {k : Nat} (hk : k ≤ 3) (F : Fn K mg "_law_block" s__law_block ["_law_deck_here", "_law_names_here", "_law_left", "_law_times", "_law_depth"]) (T : Gb K w mg) {a c : Addr} (G__law_draw : Df P w K mg base 1 "_law_draw" ["_law_deck_here", "_law_many"] (spK a c 1 A_draw))
    (G__law_row : Df P w K mg base (2 * k + 8) "_law_row" ["_law_deck_here", "_law_names_here", "_law_left", "_law_times", "_law_depth"] (spRow a c k)) : Df P w K mg base (2 * k + 9) "_law_block" ["_law_deck_here", "_law_names_here", "_law_left", "_law_times", "_law_depth"] (spBlock a c (k + 1)) := by
  refine df_of F sc__law_block (fun vs H Q E h => ?_) (fun f cdv A outer s H vs Q E hr h => ?_)
  · obtain ⟨_, _, _, _, rfl, _⟩ := h
    rfl
  obtain ⟨l, pn, times, m, rfl, hN, w0, la, lc, hm, q⟩ := h
  have B := bdL la lc
  have edep : (4 - ((k + 1 : Nat) : Int)) = 3 - (k : Int) := by omega
  rw [edep]
  have eB : BC (k + 1) = 1 + 4 * RowC k := rfl
  rw [eB] at hm q
  refine ⟨_, (pss_cons (ps_if (pt_cmpR op_gt (pv 4) pe_int (nomark _)) (pss_one (ps_ret (pe_tup pa_nil))) pss_nil) (pss_cons (ps_par (i := 5) (j := 6) (by rfl) sc__law_block.nd rfl rfl (by decide) rfl rfl (pa_cons (pe_op op_add (pe_df G__law_draw (hr.mono (by first | decide | omega)) (pa_cons (pv 0) (pa_cons pe_int pa_nil))) (pe_callTy (T := "int") call_int1 (by rfl) T.int_ (by decide +kernel) (pa_cons (pe_cmpR op_eq (pv 4) pe_int (nomark _)) pa_nil))) (pa_cons (pe_lst pa_nil) pa_nil)) (by rfl)) (pss_cons (ps_for PassesOwn.never rfl (pi_range1 rfl T.range_ (pa_cons (pv 5) pa_nil)) (pg_name (i := 7) sc__law_block.nd rfl (Or.inl rfl)) (pss_one (ps_expr (pe_bm PySem.F.plainAttrs_list PySem.F.slot_list_append PySem.F.type_list_append mt_append (pv 6) (pa_cons (pe_df G__law_row (hr.mono (by first | decide | omega)) (pa_cons (pv 0) (pa_cons (pv 1) (pa_cons (pv 2) (pa_cons (pv 3) (pa_cons (pv 4) pa_nil)))))) pa_nil))))) (pss_one (ps_ret (pe_callTy (T := "tuple") (k_tup K) (by rfl) T.tuple_ (by decide +kernel) (pa_cons (pe_lc (own := [("_law_row_here", 8)]) (by rfl) sc__law_block.nd (pi_list (pv 6)) (blkOk_by (own := [("_law_row_here", 8)]) (N := ["_law_deck_here", "_law_names_here", "_law_left", "_law_times", "_law_depth", "_law_many", "_law_rows", "_law_k", "_law_row_here"]) (sc := defScope s__law_block) (by decide +kernel)) (fun _ _ _ _ _ => pg_name (i := 8) sc__law_block.nd rfl (Or.inl rfl)) (fun _ _ _ _ _ => (pts_one (pt_cmpR (k_neD K rfl hr.units) (pv 8) (pe_tup pa_nil) (nomark _)))) (fun _ _ _ _ _ => (pv 8))) pa_nil))))))), ?_⟩
  refine qk_if (P := fun b => b = decide (3 - (k : Int) > 3)) w0 (ekb_pure B fun J g => et_is (ev_cmpI (ev_var rfl (.int _)) ev_int rfl)) (fun hb J1 g1 w1 => ?_) fun _ J1 g1 w1 => ?_
  · have hb := of_decide_eq_true hb.symm
    omega
  refine qk_parE (m1 := m + 1) (P := fun z => ∃ i : Int, z = .int i ∧ 0 ≤ i ∧ i ≤ 4) B w1 ((ek_I0 (m1 := m + 1) (P2 := fun j => 0 ≤ j ∧ j ≤ 1) (g' := fun i j => i + j) (ek_drawC B rfl (by decide) (by decide) (by omega)) (ek_pure B fun J g => (ev_intB (b := decide (3 - (k : Int) = 0)) (ev_eqI (ev_var rfl (.int _)) ev_int rfl)).imp fun d e => ⟨_, e, by split <;> decide⟩) (fun i j => rfl)).imp fun d ⟨x, y, hx, hy, e⟩ => ⟨_, e, by omega, by omega⟩) fun v d p J2 hd hp g2 w2 t2 hx2 => ?_
  obtain ⟨many, rfl, n0, n4⟩ := hd
  have e2 := t2.int_inv
  subst e2
  have here1 : ∀ b ∈ [a, c, l], J1 b ≠ none := hereL w1
  have hpS : p ∉ [a, c, l] := fun z => here1 p z hp
  have hp0 : H p = none := g1.low p hp
  have g12 := g1.trans g2
  refine qk_forR (S := [a, c, l]) (m1 := m + 1) (P1 := fun i => i = many) w2 (ek_pure B fun J g => (ev_var rfl (.int many)).imp fun d e => ⟨many, e, rfl⟩) (fun i hi => by omega) fun i J3 hi g3 w3 => ?_
  subst hi
  have up : ∀ {X Y : Hp}, Mv [a, c, l] X Y → Mv [a, c, l, p] X Y := fun h => h.wide fun b hb => by
    simp only [List.mem_cons, List.not_mem_nil, or_false] at hb ⊢
    rcases hb with e | e | e
    · exact .inl e
    · exact .inr (.inl e)
    · exact .inr (.inr (.inl e))
  have pS : p ∈ [a, c, l, p] := by simp
  refine ⟨fun n σ J => ∃ (o7 : Option V) (vs : List V) (ds : List PyData), σ = [some (.ref a), some (.ref pn), some (.ref l), some (.int times), some (.int (3 - (k : Int))), some (.int i), some (.ref p), o7, none] ∧ J p = some (.lst vs) ∧ TdA J vs ds ∧ ds.length = n ∧ (∀ d ∈ ds, d = .tuple [] ∨ IsS (k + 1) d) ∧ Mv [a, c, l, p] H J ∧ Wk a c (Lf l) (m + 1 + n * RowC k) J,
    ⟨none, [], [], rfl, g3.keep p _ hpS hx2, .nil, rfl, (fun d h => nomatch h), up (g12.trans g3), by rw [Nat.zero_mul]; exact w3⟩, ?_, ?_⟩
  · rintro n σ J4 hn ⟨o7, vs, ds, rfl, hx4, ts4, hl, hall, g4, w4⟩
    have hn4 : n < 4 := by omega
    have hc : (n + 1) * RowC k = n * RowC k + RowC k := Nat.succ_mul n (RowC k)
    have hc2 : (n + 1) * RowC k ≤ 4 * RowC k := Nat.mul_le_mul_right _ hn4
    have gH4 : Mv [a, c, l] H J4 := g4.drop fun b hb => by
      simp only [List.mem_cons, List.not_mem_nil, or_false] at hb ⊢
      rcases hb with e | e | e | e
      · exact .inl (.inl e)
      · exact .inl (.inr (.inl e))
      · exact .inl (.inr (.inr e))
      · exact .inr (by rw [e]; exact hp0)
    refine ⟨_, rfl, .inl ⟨rfl, _, SqL.of hx4⟩, _, rfl, _, rfl, _, rfl, _, rfl, _, rfl, l, pn, times, m + 1 + n * RowC k, rfl, hN.mono gH4, w4, la, lc, by omega, fun v d J5 hd mv w5 t5 => ?_⟩
    have hx5 := mv.keep p _ hpS hx4
    have ts5 := ts4.mono mv.tup
    have mp : Tx J5 (upd J5 p (.lst (vs ++ [v]))) := Tx.put hx5 lst_tup
    refine ⟨p, vs, v, rfl, rfl, hx5, small1000 (by rw [ts4.length]; omega), ?_⟩
    refine ⟨_, vs ++ [v], ds ++ [d], rfl, upd_same, (ts5.append (.one t5)).mono mp, by rw [List.length_append, hl]; rfl, fun e he => ?_, (g4.trans (up mv)).trans (Mv.put hx5 pS lst_tup), ?_⟩
    · rcases List.mem_append.mp he with z | z
      · exact hall e z
      · rw [List.mem_singleton.mp z]; exact hd
    · rw [hc, ← Nat.add_assoc]; exact B.put hpS w5
  · rintro σ J4 ⟨o7, vs, ds, rfl, hx4, ts4, hl, hall, g4, w4⟩
    have hi4 : i.toNat ≤ 4 := by omega
    have hc2 : i.toNat * RowC k ≤ 4 * RowC k := Nat.mul_le_mul_right _ hi4
    have gH4 : Mv [a, c, l] H J4 := g4.drop fun b hb => by
      simp only [List.mem_cons, List.not_mem_nil, or_false] at hb ⊢
      rcases hb with e | e | e | e
      · exact .inl (.inl e)
      · exact .inl (.inr (.inl e))
      · exact .inl (.inr (.inr e))
      · exact .inr (by rw [e]; exact hp0)
    refine s_ret Mv.rfl (ev_tupL (P := fun es => ∃ b : List S, es = bds b ∧ b.length ≤ 4 ∧ ∀ s ∈ b, SOk 3 (k + 1) s ∧ s.slim) (el_lcLV (K := K) (Iv := fun n es => ∃ b : List S, es = bds b ∧ b.length ≤ n ∧ ∀ s ∈ b, SOk 3 (k + 1) s ∧ s.slim) (Bb := fun n b => b = true → ∃ d, ds[n]? = some d ∧ IsS (k + 1) d) (Rr := fun n e => ds[n]? = some e) rfl hx4 ts4 (by omega) ⟨[], by rw [bds], Nat.le_refl _, fun s h => nomatch h⟩
      (fun n d v J hd gJ td => ?_) (fun n d v J hd gJ td _ => (ev_var rfl td).imp fun e he => by rw [he]; exact hd) (fun n es e hn hi hB hR => ?_) (fun n es hn hi _ => ?_) fun es hi => ?_)) fun v d J5 hd g5 t5 => ?_
    · have hdm := hall d (List.mem_of_getElem? hd)
      refine (et_neNil rfl td (hdm.imp id (IsS.cons (by omega)))).imp fun b hb he => ?_
      rcases hb with ⟨_, z⟩ | ⟨z, _⟩
      · exact ⟨d, hd, hdm.resolve_left z⟩
      · rw [z] at he; cases he
    · obtain ⟨b, rfl, hbl, hbs⟩ := hi
      obtain ⟨d, hd, s, hs, e1⟩ := hB rfl
      rw [hd] at hR
      have e2 : d = e := Option.some.inj hR
      subst e2 e1
      refine ⟨b ++ [s], by rw [bds_map, bds_map, List.map_append]; rfl, by rw [List.length_append, List.length_singleton]; omega, fun x hx => ?_⟩
      rcases List.mem_append.mp hx with z | z
      · exact hbs x z
      · rw [List.mem_singleton.mp z]; exact hs
    · obtain ⟨b, e, hbl, hbs⟩ := hi
      exact ⟨b, e, by omega, hbs⟩
    · obtain ⟨b, e, hbl, hbs⟩ := hi
      exact ⟨b, e, by omega, hbs⟩
    · obtain ⟨es, ⟨b, rfl, hbl, hbs⟩, rfl⟩ := hd
      exact q v _ J5 ⟨b, hbl, hbs, rfl⟩ (gH4.trans g5.up) ((B.grow g5 w4).1.le (by omega) |> fun x => ⟨x, (B.grow g5 w4).2⟩) t5
theorem df_block_all (FR : Fn K mg "_law_row" s__law_row ["_law_deck_here", "_law_names_here", "_law_left", "_law_times", "_law_depth"]) (F : Fn K mg "_law_block" s__law_block ["_law_deck_here", "_law_names_here", "_law_left", "_law_times", "_law_depth"]) (T : Gb K w mg) {a c : Addr} (G__law_draw : Df P w K mg base 1 "_law_draw" ["_law_deck_here", "_law_many"] (spK a c 1 A_draw)) (G__law_one : Df P w K mg base 2 "_law_one" ["_law_deck_here", "_law_items"] (spK a c 1 A_oneL))
    (G__law_test : Df P w K mg base 6 "_law_test" ["_law_deck_here", "_law_names_here", "_law_left", "_law_times"] (spTest a c)) (G__law_plain : Df P w K mg base 6 "_law_plain" ["_law_deck_here", "_law_names_here"] (spK a c 20 A_plain)) : ∀ k, k ≤ 4 → Df P w K mg base (2 * k + 7) "_law_block" ["_law_deck_here", "_law_names_here", "_law_left", "_law_times", "_law_depth"] (spBlock a c k)
  | 0, _ => df_block0 (L := 6) (spR := fun _ _ _ _ => False) (by decide) F T G__law_draw (df_void FR fun vs H Q E h => h)
  | k + 1, hk => df_block (by omega) F T G__law_draw (df_row FR T G__law_draw G__law_one G__law_test G__law_plain (df_block_all FR F T G__law_draw G__law_one G__law_test G__law_plain k (by omega)))
end
end K27
namespace K27
open PySem PySem.Spec L2
open PyProof.Rows hiding St
local macro_rules | `(tactic| walk_at "td") => `(tactic| first | assumption | exact Td.int _ | exact Td.str _ | exact Td.bl _ | exact Td.non)
local macro_rules | `(tactic| walk_at "bq") => `(tactic| first | exact rfl | assumption | decide)
local macro_rules | `(tactic| walk_at "kb") => `(tactic| first | exact kii | exact ksi | exact kti | exact kib | exact kss | exact kis | exact kts | exact ktt | exact kst | exact kit)
local macro_rules | `(tactic| walk_at "ev") => `(tactic| first
  | with_reducible exact ev_int
  | with_reducible exact ev_str
  | with_reducible exact ev_bl
  | with_reducible exact ev_non
  | ((with_reducible refine' ev_var ?e ?t); (case e => exact rfl); (case t => walk_at "td"))
  | ((with_reducible refine' ev_ix ?a ?n ?z); (case a => walk_at "ev"); (case z => decide); (case n => exact rfl))
  | ((with_reducible refine' ev_isi ?a ?k); (case a => walk_at "ev"); (case k => walk_at "kb"))
  | ((with_reducible refine' ev_len ?a ?k); (case a => walk_at "ev"); (case k => exact rfl))
  | ((with_reducible refine' ev_cmpI ?a ?b ?r); (case a => walk_at "ev"); (case b => walk_at "ev"); (case r => walk_at "bq"))
  | ((with_reducible refine' ev_I0 ?a ?b ?r); (case a => walk_at "ev"); (case b => walk_at "ev"); (case r => exact rfl))
  | ((with_reducible refine' ev_eqS ?a ?b ?r); (case a => walk_at "ev"); (case b => walk_at "ev"); (case r => walk_at "bq"))
  | ((with_reducible refine' ev_eqI ?a ?b ?r); (case a => walk_at "ev"); (case b => walk_at "ev"); (case r => walk_at "bq"))
  | ((with_reducible refine' ev_neI ?a ?b ?r); (case a => walk_at "ev"); (case b => walk_at "ev"); (case r => walk_at "bq"))
  | ((with_reducible refine' ev_notV ?a ?r); (case a => walk_at "ev"); (case r => walk_at "bq"))
  | ((with_reducible refine' ev_chain ?a ?b ?c ?r); (case a => walk_at "ev"); (case b => walk_at "ev"); (case c => walk_at "ev"); (case r => walk_at "bq"))
  | ((with_reducible refine' ev_tup ?a ?l); (case a => walk_at "ea"); (case l => (show _ ≤ _; decide))))
local macro_rules | `(tactic| walk_at "ea") => `(tactic| first
  | with_reducible exact ea_nil
  | ((with_reducible refine' ea_cons ?a ?b); (case a => walk_at "ev"); (case b => walk_at "ea")))
local macro_rules | `(tactic| walk_at "et") => `(tactic| first
  | ((with_reducible refine' et_notI ?a ?r); (case a => walk_at "et"); (case r => walk_at "bq"))
  | ((with_reducible refine' et_is ?a); (case a => walk_at "ev"))
  | ((with_reducible refine' et_isB ?a); (case a => walk_at "ev"))
  | ((with_reducible refine' et_and ?a ?b ?c); (case a => walk_at "et"); (case b => (intro _; walk_at "et")); (case c => (intro z; first | exact z | (cases z; done) | rfl)))
  | ((with_reducible refine' et_or ?a ?b ?c); (case a => walk_at "et"); (case b => (intro _; walk_at "et")); (case c => (intro z; first | exact z | (cases z; done) | rfl))))
local macro_rules | `(tactic| walk_at "ev2") => `(tactic| first
  | walk_at "ev"
  | ((with_reducible refine' ev_inT ?a ?p ?s ?d ?f ?x ?b); (case a => walk_at "ev"); (case p => exact evv_c); (case s => assumption); (case d => exact rfl); (case f => exact rfl); (case x => exact rfl); (case b => walk_at "bq"))
  | ((with_reducible refine' ev_inU2 ?a ?p ?l ?d ?x ?f ?y ?b); (case a => walk_at "ev"); (case p => walk_at "ea"); (case l => (show _ ≤ _; decide)); (case d => exact rfl); (case x => exact rfl); (case f => exact rfl); (case y => exact rfl); (case b => walk_at "bq"))
  | ((with_reducible refine' ev_slA ?a ?l ?h ?r); (case a => walk_at "ev"); (case l => walk_at "eo"); (case h => walk_at "eo"); (case r => exact rfl)))
local macro_rules | `(tactic| walk_at "et2") => `(tactic| first
  | walk_at "et"
  | ((with_reducible refine' et_is ?a); (case a => walk_at "ev2"))
  | ((with_reducible refine' et_isB ?a); (case a => walk_at "ev2")))
local macro_rules | `(tactic| walk_at "eo") => `(tactic| first
  | with_reducible exact eo_none
  | ((with_reducible refine' eo_some ?a); (case a => walk_at "ev")))
section
variable {K : PySem.W.Frag} {σ : St} {H : Hp} {ta tb : TE} {a c : Addr} {m m1 m2 : Nat} {S : List Addr} {R : Hp → Prop}
theorem ek_catA {P1 P2 : List PyData → Prop} {P : PyData → Prop} (B : Bd S a c R) (h1 : EvK S a c R m m1 ta σ H (fun z => ∃ ds, z = .tuple ds ∧ P1 ds)) (h2 : EvK S a c R m1 m2 tb σ H (fun z => ∃ ds, z = .tuple ds ∧ P2 ds)) (hl : ∀ xs, P1 xs → xs.length ≤ 500) (hl2 : ∀ xs, P2 xs → xs.length ≤ 500) (hP : ∀ xs ys, P1 xs → P2 ys → P (.tuple (xs ++ ys))) :
    EvK S a c R m m2 (tOp (rCatA K) ta tb) σ H P := fun H1 g w Q q =>
  h1 H1 g w _ fun v z H2 ⟨ds, ez, p1⟩ g2 w2 tz => h2 H2 (g.trans g2) w2 _ fun v' z' H3 ⟨es, ez', p2⟩ g3 w3 tz' => by
    subst ez ez'
    have tz3 := tz.mono g3.tup
    obtain ⟨a, xs, rfl, hx, ts⟩ := tz3.tup_inv
    obtain ⟨b, ys, rfl, hy, us⟩ := tz'.tup_inv
    have l1 := ts.length
    have l2 := us.length
    have b1 := hl ds p1
    have b2 := hl2 es p2
    refine ⟨a, b, xs, ys, rfl, rfl, SqT.of hx, SqT.of hy, Nat.le_of_lt (small1000 (by omega)), fun e => ?_, fun _ e => ?_, fun _ _ p hp => ?_⟩
    · subst e
      have e2 : ds = [] := List.eq_nil_of_length_eq_zero l1.symm
      subst e2
      exact q _ _ H3 (hP _ _ p1 p2) (g2.trans g3) w3 tz'
    · subst e
      have e2 : es = [] := List.eq_nil_of_length_eq_zero l2.symm
      subst e2
      have hp := hP _ _ p1 p2
      rw [List.append_nil] at hp
      exact q _ _ H3 hp (g2.trans g3) w3 tz3
    · have gn := Gr.new (o := .tup (xs ++ ys)) hp
      exact q _ _ _ (hP _ _ p1 p2) ((g2.trans g3).trans gn.up) (B.grow gn w3) (.tup upd_same ((ts.append us).mono gn.tup))
end
def spKE (κ : Nat) (A : List Arg → (PyData → Prop) → Prop) : Sp := fun vs H Q E => ∃ a c, spK a c κ A vs H Q E
def IsProg : PyData → Prop := fun z => ∃ b : List S, (BOk 3 4 b ∧ b.length ≤ 17 ∧ slimL b) ∧ z = blk b
def PC : Nat := 1 + 4 * BC 4 + 1 + 7
def A_prog (xs : List Arg) (P : PyData → Prop) : Prop := ∃ nds : List PyData, xs = [.l nds] ∧ NamesD nds ∧ P = IsProg
section
variable {P : Program} {w : World} {K : PySem.W.Frag} {mg : Str → Option Value} {base : Heap}
abbrev s__law_program : Stmt := top 58
theorem sc__law_program : FnScope ["_law_deck_here", "_law_names_here", "_law_left", "_law_program_here", "_law_k"] ["_law_deck_here", "_law_names_here"] (defScope s__law_program) := ⟨rfl, rfl, rfl, by decide +kernel, rfl, by decide +kernel, by decide +kernel⟩
theorem df_prog (F : Fn K mg "_law_program" s__law_program ["_law_deck_here", "_law_names_here"]) (T : Gb K w mg) (G__law_draw0 : ∀ a c, Df P w K mg base 1 "_law_draw" ["_law_deck_here", "_law_many"] (spK a c 1 A_draw))
    (G__law_expression0 : ∀ a c, Df P w K mg base 4 "_law_expression" ["_law_deck_here", "_law_names_here", "_law_deep"] (spK a c (KE 2) (A_exprL 2)))
    (G__law_block0 : ∀ a c, Df P w K mg base 15 "_law_block" ["_law_deck_here", "_law_names_here", "_law_left", "_law_times", "_law_depth"] (spBlock a c 4)) : Df P w K mg base 16 "_law_program" ["_law_deck_here", "_law_names_here"] (spKE PC A_prog) := by
  refine df_of F sc__law_program (fun vs H Q E h => ?_) (fun f cdv A outer s H vs Q E hr h => ?_)
  · obtain ⟨_, _, _, _, _, _, rfl, t, ⟨ds, rfl, _⟩, _⟩ := h
    obtain ⟨v, rfl, _⟩ := t.one
    rfl
  obtain ⟨a, c, ws, xs, P', m, rfl, tz, ⟨nds, rfl, hN, rfl⟩, hm, dk, q⟩ := h
  have G__law_draw := G__law_draw0 a c
  have G__law_expression := G__law_expression0 a c
  have G__law_block := G__law_block0 a c
  obtain ⟨v1, rfl, pn, nvs, rfl, hpn, tn, hnn⟩ := tz.one
  have e7 : KE 2 = 7 := rfl
  have ePC : PC = 1 + 4 * BC 4 + 1 + 7 := rfl
  rw [ePC] at hm q
  refine ⟨_, (pss_cons (ps_par (i := 2) (j := 3) (by rfl) sc__law_program.nd rfl rfl (by decide) rfl rfl (pa_cons (pe_lst (pa_cons pe_int (pa_cons pe_int (pa_cons pe_int (pa_cons pe_int (pa_cons pe_int pa_nil)))))) (pa_cons (pe_tup pa_nil) pa_nil)) (by rfl)) (pss_cons (ps_for PassesOwn.never rfl (pi_range1 rfl T.range_ (pa_cons (pe_op op_add pe_int (pe_df G__law_draw (hr.mono (by first | decide | omega)) (pa_cons (pv 0) (pa_cons pe_int pa_nil)))) pa_nil)) (pg_name (i := 4) sc__law_program.nd rfl (Or.inl rfl)) (pss_one (ps_set (i := 3) sc__law_program.nd rfl (Or.inl rfl) (pe_op (k_catA K) (pv 3) (pe_df G__law_block (hr.mono (by first | decide | omega)) (pa_cons (pv 0) (pa_cons (pv 1) (pa_cons (pv 2) (pa_cons pe_int (pa_cons pe_int pa_nil)))))))))) (pss_cons (ps_if (PW.pt (pw_or (pt_cmpR op_lt (pe_ix (k_ixL K) (pv 2) pe_int (fun _ _ => rfl)) pe_int (nomark _)) (pw_or (pt_cmpR op_lt (pe_ix (k_ixL K) (pv 2) pe_int (fun _ _ => rfl)) pe_int (nomark _)) (pw_or1 (pt_cmpR op_eq (pe_df G__law_draw (hr.mono (by first | decide | omega)) (pa_cons (pv 0) (pa_cons pe_int pa_nil))) pe_int (nomark _)))))) (pss_one (ps_ret (pv 3))) pss_nil) (pss_one (ps_ret (pe_op (k_catA K) (pv 3) (pe_tup (pa_cons (pe_tup (pa_cons pe_str (pa_cons (pe_df G__law_expression (hr.mono (by first | decide | omega)) (pa_cons (pv 0) (pa_cons (pv 1) (pa_cons pe_int pa_nil)))) pa_nil))) pa_nil)))))))), ?_⟩
  refine q_parL (el_lst (ds := [.int 24, .int 30, .int 4, .int 2, .int 2]) (ea_cons ev_int (ea_cons ev_int (ea_cons ev_int (ea_cons ev_int (ea_cons ev_int ea_nil))))) (by show 5 ≤ 1000; decide)) fun l lvs lds J1 ed hl0 g1 hx1 t1 => ?_
  subst ed
  have elv : lvs = ([24, 30, 4, 2, 2] : List Int).map V.int := t1.scal rfl
  subst elv
  refine ⟨sizeOk (by show 0 ≤ 1000; decide), fun p0 hp0 => ⟨_, _, rfl, ?_⟩⟩
  have gn := Gr.new (o := .tup []) hp0
  have la : l ≠ a := fun z => dk.here a (by simp) (by rw [← z]; exact hl0)
  have lc : l ≠ c := fun z => dk.here c (by simp) (by rw [← z]; exact hl0)
  have lp : l ≠ pn := fun z => by rw [← z, hl0] at hpn; cases hpn
  have B := bdL la lc
  have g12 := g1.trans gn
  have w2 : Wk a c (Lf l) m (upd J1 p0 (.tup [])) := ⟨dk.mono g12, [24, 30, 4, 2, 2], gn.get hx1, rfl⟩
  have N2 : Names [a, c, l] (upd J1 p0 (.tup [])) pn := by
    refine ⟨nvs, nds, g12.get hpn, fun z => ?_, tn.mono g12.tup, hN⟩
    simp only [List.mem_cons, List.not_mem_nil, or_false] at z hnn
    rcases z with e | e | e
    · exact hnn (.inl e)
    · exact hnn (.inr e)
    · exact lp e.symm
  have t2 : Td (upd J1 p0 (.tup [])) (.ref p0) (.tuple (bds [])) := .tup upd_same (by rw [bds]; exact .nil)
  have gH2 : Gr H (upd J1 p0 (.tup [])) := g12
  generalize hJ2 : upd J1 p0 (.tup []) = J2 at w2 N2 t2 gH2
  clear g12 gn hx1 g1 hp0 t1 hJ2
  have drp : ∀ {J : Hp}, Mv [a, c, l] J2 J → Mv [a, c] H J := fun g => Mv.drop (S := [a, c, l]) (gH2.up.trans g) fun b hb => by
    simp only [List.mem_cons, List.not_mem_nil, or_false] at hb ⊢
    rcases hb with e | e | e
    · exact .inl (.inl e)
    · exact .inl (.inr e)
    · exact .inr (by rw [e]; exact hl0)
  refine qk_forR (S := [a, c, l]) (m1 := m + 1) (P1 := fun i => 1 ≤ i ∧ i ≤ 4) w2 ((ek_I0 (m1 := m) (P1 := fun i => i = 1) (g' := fun i j => i + j) (ek_ci B ⟨1, rfl, rfl⟩) (ek_drawC B rfl (by decide) (by decide) (by omega)) (fun i j => rfl)).imp fun d ⟨x, y, ex, ⟨y0, y1⟩, e⟩ => ⟨_, e, by omega, by omega⟩) (fun i hi => by omega) fun i J3 ⟨hi1, hi4⟩ g3 w3 => ?_
  refine ⟨fun n σ J => ∃ (o4 : Option V) (v : V) (b : List S), σ = [some (.ref a), some (.ref pn), some (.ref l), some v, o4] ∧ Td J v (.tuple (bds b)) ∧ b.length ≤ 4 * n ∧ (∀ s ∈ b, SOk 3 4 s ∧ s.slim) ∧ Mv [a, c, l] J2 J ∧ Wk a c (Lf l) (m + 1 + n * BC 4) J,
    ⟨none, .ref p0, [], rfl, t2.mono g3.tup, Nat.le_refl _, (fun s h => nomatch h), g3, by rw [Nat.zero_mul]; exact w3⟩, ?_, ?_⟩
  · rintro n σ J4 hn ⟨o4, v, b, rfl, tv, hbl, hbs, g4, w4⟩
    have hn4 : n < 4 := by omega
    have hc : (n + 1) * BC 4 = n * BC 4 + BC 4 := Nat.succ_mul n (BC 4)
    have hc2 : (n + 1) * BC 4 ≤ 4 * BC 4 := Nat.mul_le_mul_right _ hn4
    refine sk_set (S := [a, c, l]) (m1 := m + 1 + n * BC 4 + BC 4) (P := fun z => ∃ b2 : List S, z = .tuple (bds b2) ∧ b2.length ≤ 4 * (n + 1) ∧ ∀ s ∈ b2, SOk 3 4 s ∧ s.slim) w4 (ek_catA (m1 := m + 1 + n * BC 4) (P1 := fun xs => xs = bds b) (P2 := fun ys => ∃ b3 : List S, ys = bds b3 ∧ b3.length ≤ 4 ∧ ∀ s ∈ b3, SOk 3 4 s ∧ s.slim) B ((ek_var B rfl tv).imp fun d e => ⟨_, e, rfl⟩) ((ek_block (k := 4) B la lc rfl rfl rfl (fun J => ev_int.imp fun d e => ⟨1, e⟩) (fun J => ev_int) (N2.mono g4) (by omega)).imp fun d ⟨b3, h1, h2, e⟩ => ⟨_, e, b3, rfl, h1, h2⟩) (fun xs e => by rw [e, bds_len]; omega) (fun ys ⟨b3, e, h1, _⟩ => by rw [e, bds_len]; omega) fun xs ys e ⟨b3, e2, h1, h2⟩ => ⟨b ++ b3, by rw [e, e2, bds_map, bds_map, bds_map, List.map_append], by rw [List.length_append]; omega, fun s hs => (List.mem_append.mp hs).elim (hbs s) (h2 s)⟩) fun v5 d5 J5 hd g5 w5 t5 => ?_
    obtain ⟨b2, rfl, h1, h2⟩ := hd
    exact ⟨_, v5, b2, rfl, t5, h1, h2, g4.trans g5, by rw [hc, ← Nat.add_assoc]; exact w5⟩
  · rintro σ J4 ⟨o4, v, b, rfl, tv, hbl, hbs, g4, w4⟩
    have hi4 : i.toNat ≤ 4 := by omega
    have hc2 : i.toNat * BC 4 ≤ 4 * BC 4 := Nat.mul_le_mul_right _ hi4
    have fin : ∀ {J : Hp} {m2 : Nat} {v : V} {d : PyData} {H2 : Hp}, m2 ≤ m + (1 + 4 * BC 4 + 1 + 7) → Mv [a, c, l] J2 J → IsProg d → Mv [a, c, l] J H2 → Wk a c (Lf l) m2 H2 → Td H2 v d → Q v H2 := fun hl g1 hd g2 w t => q _ _ _ hd (drp (g1.trans g2)) (w.1.le hl) t
    refine qk_if (S := [a, c, l]) (m1 := m + 1 + i.toNat * BC 4 + 1) (P := fun _ => True) w4 (fun H1 g w Q q => ekb_or (m1 := m + 1 + i.toNat * BC 4) (ekb_cmp (P2 := fun j => j = 1) (ek_left B (i := 0) rfl (by decide) (by decide)) (ek_ci B ⟨1, rfl, rfl⟩)) (ekb_or (m1 := m + 1 + i.toNat * BC 4) (ekb_cmp (P2 := fun j => j = 1) (ek_left B (i := 1) rfl (by decide) (by decide)) (ek_ci B ⟨1, rfl, rfl⟩)) (ekb_draw0 B rfl (by decide) (by decide) (by omega)) (by omega)) (by omega) H1 g w Q fun b H2 _ g2 w2 => q b H2 trivial g2 w2) (fun _ J5 g5 w5 => ?_) fun _ J5 g5 w5 => ?_
    · exact sk_ret (S := [a, c, l]) (P := fun z => z = .tuple (bds b)) w5 (ek_var B rfl (tv.mono g5.tup)) fun v d J hd g w t => fin (by omega) (g4.trans g5) ⟨b, ⟨⟨by omega, fun s h => (hbs s h).1⟩, by omega, slimL_of fun s h => (hbs s h).2⟩, hd⟩ g w t
    · exact sk_ret (S := [a, c, l]) (m1 := m + 1 + i.toNat * BC 4 + 1 + KE 2) (P := IsProg) w5 (ek_catA (m1 := m + 1 + i.toNat * BC 4 + 1) (P1 := fun xs => xs = bds b) (P2 := fun ys => ∃ e : K27.E, EOk 2 e ∧ ys = bds [.pay e]) B ((ek_var B rfl (tv.mono g5.tup)).imp fun d e => ⟨_, e, rfl⟩) (ek_tup (m1 := m + 1 + i.toNat * BC 4 + 1 + KE 2) (PA := fun xs => ∃ e : K27.E, EOk 2 e ∧ xs = [.d (S.pay e).d]) B (fun H1 g w Q q => eka_cons (P := fun z => ∃ e : K27.E, EOk 2 e ∧ z = (S.pay e).d) (ek_tup2 (P1 := fun z => z = .str "pay") (P2 := IsE 2) B (ek_cs B rfl) (ek_expr (k := 2) B rfl rfl ((N2.mono g4).mono g5) rfl (by decide) (by omega)) fun d1 d2 e1 ⟨e, he, e2⟩ => ⟨e, he, by rw [e1, e2, S.d]⟩) eka_nil H1 g w Q fun vs xs H2 hx g2 w2 ts => by
          obtain ⟨d, ys, rfl, ⟨e, he, rfl⟩, rfl⟩ := hx
          exact q _ _ H2 ⟨e, he, rfl⟩ g2 w2 ts) fun xs ⟨e, he, hx⟩ => ⟨[(S.pay e).d], hx, by show 1 ≤ 1000; decide, _, rfl, e, he, by rw [bds, bds]⟩) (fun xs e => by rw [e, bds_len]; omega) (fun ys ⟨e, he, h⟩ => by rw [h, bds_len]; show 1 ≤ 500; decide) fun xs ys e1 ⟨e, he, e2⟩ => ⟨b ++ [.pay e], ⟨⟨by rw [List.length_append]; show b.length + 1 ≤ 20; omega, fun s hs => (List.mem_append.mp hs).elim (fun h => (hbs s h).1) fun z => by rw [List.mem_singleton.mp z]; exact EOk.up he⟩, by rw [List.length_append]; show b.length + 1 ≤ 17; omega, slimL_of fun s hs => (List.mem_append.mp hs).elim (fun h => (hbs s h).2) fun z => by rw [List.mem_singleton.mp z]; exact slim_pay⟩, by rw [e1, e2]; show _ = PyData.tuple (bds _); rw [bds_map, bds_map, bds_map, List.map_append]⟩) fun v d J hd g w t => fin (by omega) (g4.trans g5) hd g w t
end
end K27
namespace K27
open PySem PySem.Spec L2
open PyProof.Rows hiding St
local macro_rules | `(tactic| walk_at "td") => `(tactic| first | assumption | exact Td.int _ | exact Td.str _ | exact Td.bl _ | exact Td.non)
local macro_rules | `(tactic| walk_at "bq") => `(tactic| first | exact rfl | assumption | decide)
local macro_rules | `(tactic| walk_at "kb") => `(tactic| first | exact kii | exact ksi | exact kti | exact kib | exact kss | exact kis | exact kts | exact ktt | exact kst | exact kit)
local macro_rules | `(tactic| walk_at "ev") => `(tactic| first
  | with_reducible exact ev_int
  | with_reducible exact ev_str
  | with_reducible exact ev_bl
  | with_reducible exact ev_non
  | ((with_reducible refine' ev_var ?e ?t); (case e => exact rfl); (case t => walk_at "td"))
  | ((with_reducible refine' ev_ix ?a ?n ?z); (case a => walk_at "ev"); (case z => decide); (case n => exact rfl))
  | ((with_reducible refine' ev_isi ?a ?k); (case a => walk_at "ev"); (case k => walk_at "kb"))
  | ((with_reducible refine' ev_len ?a ?k); (case a => walk_at "ev"); (case k => exact rfl))
  | ((with_reducible refine' ev_cmpI ?a ?b ?r); (case a => walk_at "ev"); (case b => walk_at "ev"); (case r => walk_at "bq"))
  | ((with_reducible refine' ev_I0 ?a ?b ?r); (case a => walk_at "ev"); (case b => walk_at "ev"); (case r => exact rfl))
  | ((with_reducible refine' ev_eqS ?a ?b ?r); (case a => walk_at "ev"); (case b => walk_at "ev"); (case r => walk_at "bq"))
  | ((with_reducible refine' ev_eqI ?a ?b ?r); (case a => walk_at "ev"); (case b => walk_at "ev"); (case r => walk_at "bq"))
  | ((with_reducible refine' ev_neI ?a ?b ?r); (case a => walk_at "ev"); (case b => walk_at "ev"); (case r => walk_at "bq"))
  | ((with_reducible refine' ev_notV ?a ?r); (case a => walk_at "ev"); (case r => walk_at "bq"))
  | ((with_reducible refine' ev_chain ?a ?b ?c ?r); (case a => walk_at "ev"); (case b => walk_at "ev"); (case c => walk_at "ev"); (case r => walk_at "bq"))
  | ((with_reducible refine' ev_tup ?a ?l); (case a => walk_at "ea"); (case l => (show _ ≤ _; decide))))
local macro_rules | `(tactic| walk_at "ea") => `(tactic| first
  | with_reducible exact ea_nil
  | ((with_reducible refine' ea_cons ?a ?b); (case a => walk_at "ev"); (case b => walk_at "ea")))
local macro_rules | `(tactic| walk_at "et") => `(tactic| first
  | ((with_reducible refine' et_notI ?a ?r); (case a => walk_at "et"); (case r => walk_at "bq"))
  | ((with_reducible refine' et_is ?a); (case a => walk_at "ev"))
  | ((with_reducible refine' et_isB ?a); (case a => walk_at "ev"))
  | ((with_reducible refine' et_and ?a ?b ?c); (case a => walk_at "et"); (case b => (intro _; walk_at "et")); (case c => (intro z; first | exact z | (cases z; done) | rfl)))
  | ((with_reducible refine' et_or ?a ?b ?c); (case a => walk_at "et"); (case b => (intro _; walk_at "et")); (case c => (intro z; first | exact z | (cases z; done) | rfl))))
local macro_rules | `(tactic| walk_at "ev2") => `(tactic| first
  | walk_at "ev"
  | ((with_reducible refine' ev_inT ?a ?p ?s ?d ?f ?x ?b); (case a => walk_at "ev"); (case p => exact evv_c); (case s => assumption); (case d => exact rfl); (case f => exact rfl); (case x => exact rfl); (case b => walk_at "bq"))
  | ((with_reducible refine' ev_inU2 ?a ?p ?l ?d ?x ?f ?y ?b); (case a => walk_at "ev"); (case p => walk_at "ea"); (case l => (show _ ≤ _; decide)); (case d => exact rfl); (case x => exact rfl); (case f => exact rfl); (case y => exact rfl); (case b => walk_at "bq"))
  | ((with_reducible refine' ev_slA ?a ?l ?h ?r); (case a => walk_at "ev"); (case l => walk_at "eo"); (case h => walk_at "eo"); (case r => exact rfl)))
local macro_rules | `(tactic| walk_at "et2") => `(tactic| first
  | walk_at "et"
  | ((with_reducible refine' et_is ?a); (case a => walk_at "ev2"))
  | ((with_reducible refine' et_isB ?a); (case a => walk_at "ev2")))
local macro_rules | `(tactic| walk_at "eo") => `(tactic| first
  | with_reducible exact eo_none
  | ((with_reducible refine' eo_some ?a); (case a => walk_at "ev")))
section
variable {K : PySem.W.Frag} {σ : St} {H : Hp} {ta tb : TE} {a c : Addr} {m m1 m2 : Nat} {S : List Addr} {R : Hp → Prop}
theorem ek_tupL {P : List PyData → Prop} (B : Bd S a c R) (h : EvKL S a c R m m1 ta σ H P) : EvK S a c R m m1 (tCB (rTupQ K) (tCons ta tNil)) σ H (fun z => ∃ ds, P ds ∧ z = .tuple ds) := fun H1 g w Q q =>
  h H1 g w _ fun p xs ds H2 pd hp g2 w2 hx ts => ⟨p, xs, rfl, .inl ⟨SqL.of hx, fun l hl => q _ _ _ ⟨ds, pd, rfl⟩ (g2.trans (Gr.new hl).up) (B.grow (Gr.new hl) w2) (.tup upd_same (ts.mono (Gr.new hl).tup))⟩⟩
theorem ek_mulI {P1 P2 : Int → Prop} {P : PyData → Prop} (ha : EvK S a c R m m1 ta σ H (fun z => ∃ i, z = .int i ∧ P1 i)) (hb : EvK S a c R m1 m2 tb σ H (fun z => ∃ i, z = .int i ∧ P2 i)) (hc : ∀ i j, P1 i → P2 j → CMul i j) (hp : ∀ i j, P1 i → P2 j → P (.int (i * j))) :
    EvK S a c R m m2 (tOp (rI CMul fun i j => .int (i * j)) ta tb) σ H P := fun H1 g1 w Q q =>
  ha H1 g1 w _ fun v z H2 ez g2 w2 tz => hb H2 (g1.trans g2) w2 _ fun v' z' H3 ez' g3 w3 tz' => by
    obtain ⟨i, rfl, p1⟩ := ez
    obtain ⟨j, rfl, p2⟩ := ez'
    have e1 := tz.int_inv
    have e2 := tz'.int_inv
    subst e1 e2
    exact ⟨i, j, rfl, rfl, hc i j p1 p2, q _ _ H3 (hp i j p1 p2) (g2.trans g3) w3 (.int _)⟩
end
theorem s_retL2 {σ : St} {H : Hp} {te tc : TE} {D : Ends} (h : te σ H fun v H1 => tc σ H1 fun x H2 => 2 ≤ sizeLine ∧ ∀ p, H2 p = none → D.rt (.ref p) (upd H2 p (.lst [v, x]))) : tRet (tLst (tCons te (tCons tc tNil))) D σ H := h
def NumOk (i : Int) : Prop := -(2 ^ 200) < i ∧ i < 2 ^ 200
def A_number (xs : List Arg) (P : PyData → Prop) : Prop := xs = [] ∧ P = fun z => ∃ i : Int, z = .int i ∧ NumOk i
def A_turns (xs : List Arg) (P : PyData → Prop) : Prop := xs = [] ∧ P = fun z => ∃ bs : List Int, z = .tuple (bs.map .int) ∧ bs.length ≤ 8 ∧ ∀ x ∈ bs, x = 0 ∨ x = 1
def spDeck (K : PySem.W.Frag) : Sp := fun vs H Q _ => ∃ (a : Addr) (ns : List Int), vs = [.ref a] ∧ SqL K H a (ns.map V.int) ∧ ∀ p c J, H p = none → H c = none → p ≠ c → Gr H J → Dk p c 0 J → Q (.ref p) J
theorem bits_of : ∀ {ds : List PyData}, (∀ d ∈ ds, ∃ r : Int, d = .int r ∧ 0 ≤ r ∧ r < 2) → ∃ bs : List Int, ds = bs.map .int ∧ ∀ x ∈ bs, x = 0 ∨ x = 1
  | [], _ => ⟨[], rfl, fun x h => nomatch h⟩
  | d :: r, h => by
    obtain ⟨i, rfl, h0, h1⟩ := h d List.mem_cons_self
    obtain ⟨bs, rfl, h2⟩ := bits_of (ds := r) fun x hx => h x (List.mem_cons_of_mem _ hx)
    exact ⟨i :: bs, rfl, fun x hx => (List.mem_cons.mp hx).elim (fun e => by rw [e]; omega) (h2 x)⟩
section
variable {P : Program} {w : World} {K : PySem.W.Frag} {mg : Str → Option Value} {base : Heap}
abbrev s__law_number : Stmt := top 59
theorem sc__law_number : FnScope ["_law_deck_here", "_law_way", "_law_sign"] ["_law_deck_here"] (defScope s__law_number) := ⟨rfl, rfl, rfl, by decide +kernel, rfl, by decide +kernel, by decide +kernel⟩
theorem df_number (F : Fn K mg "_law_number" s__law_number ["_law_deck_here"]) (T : Gb K w mg) (G__law_draw0 : ∀ a c, Df P w K mg base 1 "_law_draw" ["_law_deck_here", "_law_many"] (spK a c 1 A_draw)) (G__law_one0 : ∀ a c, Df P w K mg base 2 "_law_one" ["_law_deck_here", "_law_items"] (spK a c 1 A_oneL)) : Df P w K mg base 3 "_law_number" ["_law_deck_here"] (spKE 4 A_number) := by
  refine df_of F sc__law_number (fun vs H Q E h => ?_) (fun f cdv A outer s H vs Q E hr h => ?_)
  · obtain ⟨_, _, _, _, _, _, rfl, t, ⟨rfl, _⟩, _⟩ := h
    cases t
    rfl
  obtain ⟨a, c, ws, xs, P', m, rfl, tz, ⟨rfl, rfl⟩, hm, dk, q⟩ := h
  have G__law_draw := G__law_draw0 a c
  have G__law_one := G__law_one0 a c
  cases tz
  have here0 : ∀ {m : Nat} (J : Hp), Wk a c (fun _ => True) m J → ∀ b ∈ [a, c], J b ≠ none := fun J w => w.1.here
  have w0 : Wk a c (fun _ => True) m H := ⟨dk, trivial⟩
  refine ⟨_, (pss_cons (ps_par (i := 1) (j := 2) (by rfl) sc__law_number.nd rfl rfl (by decide) rfl rfl (pa_cons (pe_df G__law_draw (hr.mono (by first | decide | omega)) (pa_cons (pv 0) (pa_cons pe_int pa_nil))) (pa_cons (pe_df G__law_one (hr.mono (by first | decide | omega)) (pa_cons (pv 0) (pa_cons (pe_lst (pa_cons pe_int (pa_cons (pe_un un_neg pe_int) pa_nil))) pa_nil))) pa_nil)) (by rfl)) (pss_cons (ps_if (pt_cmpR op_lt (pv 1) pe_int (nomark _)) (pss_one (ps_ret (pe_op op_mul (pv 2) (pe_df G__law_draw (hr.mono (by first | decide | omega)) (pa_cons (pv 0) (pa_cons pe_int pa_nil)))))) pss_nil) (pss_one (ps_ret (pe_op op_mul (pv 2) (pe_op op_add (pe_op op_mul (pe_op op_pow pe_int pe_int) (pe_df G__law_draw (hr.mono (by first | decide | omega)) (pa_cons (pv 0) (pa_cons (pe_op op_pow pe_int pe_int) pa_nil)))) (pe_df G__law_draw (hr.mono (by first | decide | omega)) (pa_cons (pv 0) (pa_cons (pe_op op_pow pe_int pe_int) pa_nil))))))))), ?_⟩
  refine qk_par (S := [a, c]) (m1 := m + 1 + 1) (PA := fun xs => ∃ i j : Int, xs = [.d (.int i), .d (.int j)] ∧ (j = 1 ∨ j = -1)) w0 (fun H1 g w Q q => eka_cons (m1 := m + 1) (P := fun z => ∃ r : Int, z = .int r ∧ 0 ≤ r ∧ r < 5) (ek_drawC bd0 rfl (by decide) (by decide) (by omega)) (eka_cons (P := fun z => ∃ r : Int, z = .int r ∧ (r = 1 ∨ r = -1)) (ek_oneW (m1 := m + 1) (n := 2) bd0 here0 rfl (eall_cons (ek_ci bd0 ⟨1, rfl, .inl rfl⟩) (eall_cons (ek_cn bd0 ⟨-1, rfl, .inr rfl⟩) eall_nil)) (by decide) (by decide) (by omega)) eka_nil) H1 g w Q fun vs xs H2 hx g w2 ts => ?_) (fun v4 v5 x4 x5 J4 hx g4 w4 r4 r5 => ?_) (fun xs ⟨i, j, e, _⟩ => by rw [e]; rfl)
  · obtain ⟨d, ys, rfl, ⟨i, rfl, i0, i1⟩, d2, zs, rfl, ⟨j, rfl, hj⟩, rfl⟩ := hx
    exact q _ _ H2 ⟨i, j, rfl, hj⟩ g w2 ts
  obtain ⟨i, j, e, hj⟩ := hx
  injection e with e4 e
  injection e with e5 _
  subst e4 e5
  have e4 := Td.int_inv r4
  have e5 := Td.int_inv r5
  subst e4 e5
  have pow9 : ∀ {σ : St} {J : Hp} {m2 : Nat}, EvK [a, c] a c (fun _ => True) m2 m2 (tOp (rI CPow fun i j => .int (i ^ j.toNat)) (tC (.int 10)) (tC (.int 9))) σ J (fun z => ∃ k : Int, z = .int k ∧ k = 10 ^ 9) := fun {σ J m2} => ek_pure bd0 fun L g => (ev_I (r := 10 ^ 9) ev_int ev_int ⟨by decide, by decide, by decide⟩ rfl).imp fun d e => ⟨_, e, rfl⟩
  have draw9 : ∀ {σ : St} {J : Hp} {m2 : Nat}, σ[0]? = some (some (.ref a)) → m2 + 1 ≤ 2 ^ 40 → EvK [a, c] a c (fun _ => True) m2 (m2 + 1) (tCall (spK a c 1 A_draw) [] E0 (tCons (tVar 0) (tCons (tOp (rI CPow fun i j => .int (i ^ j.toNat)) (tC (.int 10)) (tC (.int 9))) tNil))) σ J (fun z => ∃ k : Int, z = .int k ∧ 0 ≤ k ∧ k < 10 ^ 9) := fun {σ J m2} h hm => ek_draw bd0 h pow9 (fun k e => by rw [e]; decide) (fun k r e r0 r1 => ⟨r, rfl, r0, by rw [e] at r1; exact r1⟩) hm
  refine qk_if (P := fun _ => True) w4 (ekb_pure bd0 fun J g => (et_is (ev_cmpI (ev_var rfl (.int i)) ev_int rfl)).imp fun _ _ => trivial) (fun _ J5 g5 w5 => ?_) fun _ J5 g5 w5 => ?_
  · refine sk_ret (S := [a, c]) (P := fun z => ∃ i : Int, z = .int i ∧ NumOk i) w5 (ek_mulI (m1 := m + 1 + 1) (m2 := m + 1 + 1 + 1) (P1 := fun k => k = j) (P2 := fun r => 0 ≤ r ∧ r < 40) (ek_pure bd0 fun L g => (ev_var rfl (.int j)).imp fun d e => ⟨j, e, rfl⟩) (ek_drawC bd0 rfl (by decide) (by decide) (by omega)) (fun x y e hy => .inl (by rw [e]; rcases hj with z | z <;> rw [z] <;> decide)) (fun x y e hy => ⟨_, rfl, ?_⟩)) fun v d J hd g w t => q v d J hd ((g4.trans g5).trans g) (w.1.le (by omega)) t
    subst e
    unfold NumOk
    rcases hj with z | z <;> subst z <;> omega
  · refine sk_ret (S := [a, c]) (P := fun z => ∃ i : Int, z = .int i ∧ NumOk i) w5 (ek_mulI (m1 := m + 1 + 1) (m2 := m + 1 + 1 + 1 + 1) (P1 := fun k => k = j) (P2 := fun r => 0 ≤ r ∧ r < 2 ^ 199) (ek_pure bd0 fun L g => (ev_var rfl (.int j)).imp fun d e => ⟨j, e, rfl⟩) ((ek_I0 (m1 := m + 1 + 1 + 1) (P1 := fun r => 0 ≤ r ∧ r < 2 ^ 198) (P2 := fun r => 0 ≤ r ∧ r < 10 ^ 9) (g' := fun i j => i + j) (ek_mulI (m1 := m + 1 + 1) (P1 := fun k => k = 10 ^ 50) (P2 := fun r => 0 ≤ r ∧ r < 10 ^ 9) (ek_pure bd0 fun L g => (ev_I (r := 10 ^ 50) ev_int ev_int ⟨by decide, by decide, by decide⟩ rfl).imp fun d e => ⟨_, e, rfl⟩) (draw9 rfl (by omega)) (fun x y e hy => .inr (by omega)) (fun x y e hy => ⟨_, rfl, ?_⟩)) (draw9 rfl (by omega)) (fun i j => rfl)).imp fun d ⟨x, y, hx, hy, e⟩ => ⟨_, e, by omega, by omega⟩) (fun x y e hy => .inl (by rw [e]; rcases hj with z | z <;> rw [z] <;> decide)) (fun x y e hy => ⟨_, rfl, ?_⟩)) fun v d J hd g w t => q v d J hd ((g4.trans g5).trans g) (w.1.le (by omega)) t
    · subst e
      omega
    · subst e
      unfold NumOk
      rcases hj with z | z <;> subst z <;> omega
abbrev s__law_turns : Stmt := top 60
theorem sc__law_turns : FnScope ["_law_deck_here", "_law_k"] ["_law_deck_here"] (defScope s__law_turns) := ⟨rfl, rfl, rfl, by decide +kernel, rfl, by decide +kernel, by decide +kernel⟩
theorem df_turns (F : Fn K mg "_law_turns" s__law_turns ["_law_deck_here"]) (T : Gb K w mg) (G__law_draw0 : ∀ a c, Df P w K mg base 1 "_law_draw" ["_law_deck_here", "_law_many"] (spK a c 1 A_draw)) : Df P w K mg base 2 "_law_turns" ["_law_deck_here"] (spKE 9 A_turns) := by
  refine df_of F sc__law_turns (fun vs H Q E h => ?_) (fun f cdv A outer s H vs Q E hr h => ?_)
  · obtain ⟨_, _, _, _, _, _, rfl, t, ⟨rfl, _⟩, _⟩ := h
    cases t
    rfl
  obtain ⟨a, c, ws, xs, P', m, rfl, tz, ⟨rfl, rfl⟩, hm, dk, q⟩ := h
  have G__law_draw := G__law_draw0 a c
  cases tz
  have here0 : ∀ {m : Nat} (J : Hp), Wk a c (fun _ => True) m J → ∀ b ∈ [a, c], J b ≠ none := fun J w => w.1.here
  have w0 : Wk a c (fun _ => True) m H := ⟨dk, trivial⟩
  refine ⟨_, (pss_one (ps_ret (pe_callTy (T := "tuple") (k_tup K) (by rfl) T.tuple_ (by decide +kernel) (pa_cons (pe_lc (own := [("_law_k", 1)]) (by rfl) sc__law_turns.nd (pi_range1 rfl T.range_ (pa_cons (pe_df G__law_draw (hr.mono (by first | decide | omega)) (pa_cons (pv 0) (pa_cons pe_int pa_nil))) pa_nil)) (blkOk_by (own := [("_law_k", 1)]) (N := ["_law_deck_here", "_law_k"]) (sc := defScope s__law_turns) (by decide +kernel)) (fun _ _ _ _ _ => pg_name (i := 1) sc__law_turns.nd rfl (Or.inl rfl)) (fun _ _ _ _ _ => pts_nil) (fun _ _ _ _ _ => (pe_df G__law_draw (hr.mono (by first | decide | omega)) (pa_cons (pv 0) (pa_cons pe_int pa_nil))))) pa_nil)))), ?_⟩
  refine sk_ret (S := [a, c]) (m1 := m + 1 + 8 * 1) w0 (ek_tupL (P := fun ds => ds.length ≤ 8 ∧ ∀ d ∈ ds, ∃ r : Int, d = .int r ∧ 0 ≤ r ∧ r < 2) bd0 (ekl_range (lim := m + 9) (κ := 1) (N := 8) (m1 := m + 1) bd0 here0 ((ek_drawC bd0 rfl (by decide) (by decide) (by omega)).imp fun d ⟨r, e, r0, r1⟩ => ⟨r, e, by omega, by omega⟩) (by decide) (by omega) fun x J m2 x0 x1 g hl => ek_drawC bd0 rfl (by decide) (by decide) (by omega))) fun v d J hd g w t => ?_
  obtain ⟨ds, ⟨hl, hall⟩, rfl⟩ := hd
  obtain ⟨bs, rfl, hb⟩ := bits_of hall
  exact q v _ J ⟨bs, rfl, by rw [List.length_map] at hl; exact hl, hb⟩ g (w.1.le (by omega)) t
abbrev s__law_deck : Stmt := top 49
theorem sc__law_deck : FnScope ["_law_script", "_law_cell"] ["_law_script"] (defScope s__law_deck) := ⟨rfl, rfl, rfl, by decide +kernel, rfl, by decide +kernel, by decide +kernel⟩
theorem df_deck (F : Fn K mg "_law_deck" s__law_deck ["_law_script"]) (T : Gb K w mg) : Df P w K mg base 1 "_law_deck" ["_law_script"] (spDeck K) := by
  refine df_of F sc__law_deck (fun vs H Q E h => ?_) (fun f cdv A outer s H vs Q E hr h => ?_)
  · obtain ⟨_, _, rfl, _⟩ := h
    rfl
  obtain ⟨a, ns, rfl, hs, q⟩ := h
  refine ⟨_, (pss_one (ps_ret (pe_lst (pa_cons (pe_lc (own := [("_law_cell", 1)]) (by rfl) sc__law_deck.nd (pi_list (pe_slice (k_slL K) (pv 0) po_none (po_some pe_int))) (blkOk_by (own := [("_law_cell", 1)]) (N := ["_law_script", "_law_cell"]) (sc := defScope s__law_deck) (by decide +kernel)) (fun _ _ _ _ _ => pg_name (i := 1) sc__law_deck.nd rfl (Or.inl rfl)) (fun _ _ _ _ _ => pts_nil) (fun _ _ _ _ _ => (pe_callB (id := "abs") call_abs (by rfl) T.abs_ (by decide +kernel) (pa_cons (pv 1) pa_nil)))) (pa_cons pe_int pa_nil))))), ?_⟩
  refine s_retL2 ?_
  refine (el_lcL (K := K) (σ := [some (.ref a), none]) (j := 1) (te := tCB (fun xs H Q => ∃ i, xs = [.int i] ∧ Q (.int (if i < 0 then -i else i)) H) (tCons (tVar 1) tNil)) (t := tYes) (H := H) (PL := fun ds => ∃ ms : List Int, ds = ms.map .int ∧ ms.length ≤ 63) (P := fun es => ∃ cs : List Int, es = cs.map .int ∧ cs.length ≤ 63 ∧ ∀ x ∈ cs, 0 ≤ x) (Iv := fun n es => ∃ cs : List Int, es = cs.map .int ∧ cs.length = n ∧ ∀ x ∈ cs, 0 ≤ x) (B := fun _ b => b = true) (R := fun n e => ∃ i : Int, e = .int i ∧ 0 ≤ i) ?_ (fun ds ⟨ms, e, hl⟩ => by rw [e, List.length_map]; omega) ⟨[], rfl, rfl, fun x h => nomatch h⟩ (fun ds n d v J _ _ _ _ => et_yes rfl) (fun ds n d v J ⟨ms, e, _⟩ hd g t _ => ?_) (fun ds n es e _ hn ⟨cs, h1, h2, h3⟩ _ ⟨i, h4, h5⟩ => ⟨cs ++ [i], by rw [h1, h4, List.map_append]; rfl, by rw [List.length_append, h2]; rfl, fun x hx => (List.mem_append.mp hx).elim (h3 x) fun z => by rw [List.mem_singleton.mp z]; exact h5⟩) (fun ds n es _ _ _ hb => by cases hb) (fun ds es ⟨ms, e, hl⟩ ⟨cs, h1, h2, h3⟩ => ⟨cs, h1, by rw [h2, e, List.length_map]; exact hl, h3⟩) : EvL _ _ H _) H Mv.rfl _ fun c vs ds J hd hc g hx ts => ?_
  · intro H1 g Q q
    refine ⟨_, rfl, ?_⟩
    refine (eo_none : EvO _ _ H1 none) H1 Mv.rfl _ fun H2 g2 => ?_
    refine (eo_some ev_int : EvO _ _ H2 (some 63)) H2 Mv.rfl _ fun H3 g3 => ?_
    refine ⟨a, ns.map V.int, rfl, ((g.trans g2).trans g3).seqL hs, fun p hp => ?_⟩
    have gn := Gr.new (o := .lst (cutV (ns.map V.int) none (some 63))) hp
    refine q p _ _ _ ?_ ((g2.trans g3).low p hp) ((g2.trans g3).trans gn) upd_same ((TdA.ints.cut none (some 63)).mono gn.tup)
    refine ⟨K27.cut ns none (some 63), ?_, ?_⟩
    · unfold K27.cut
      rw [List.length_map, List.map_take, List.map_drop]
    · unfold K27.cut
      rw [List.length_take]
      have : HT.sIx ns.length ns.length (some 63) - HT.sIx ns.length 0 none ≤ 63 := by
        show (min (63 : Int).toNat ns.length) - 0 ≤ 63
        omega
      omega
  · subst e
    rw [List.getElem?_map] at hd
    cases hi : ms[n]? with
    | none => rw [hi] at hd; cases hd
    | some i =>
      rw [hi] at hd
      have e := (Option.some.inj hd).symm
      subst e
      have e := t.int_inv
      subst e
      exact fun H1 g Q q => ⟨_, rfl, i, rfl, q _ _ H1 ⟨_, rfl, by split <;> omega⟩ Mv.rfl (.int _)⟩
  · obtain ⟨cs, rfl, hl, h0⟩ := hd
    have ev : vs = cs.map V.int := ts.scal (by rw [List.map_map, List.map_map]; rfl)
    subst ev
    refine ⟨sizeOk (by show 2 ≤ 1000; decide), fun p hp => ?_⟩
    have gn := Gr.new (o := .lst [.ref c, .int 0]) hp
    exact q p c _ (g.low p hp) hc (fun z => by rw [z, hx] at hp; cases hp) (g.trans gn) ⟨0, cs, upd_same, gn.get hx, h0, hl, by decide, by decide⟩
end
end K27
namespace K27
open PySem PySem.Spec L2
open PyProof.Rows hiding St
local macro_rules | `(tactic| walk_at "td") => `(tactic| first | assumption | exact Td.int _ | exact Td.str _ | exact Td.bl _ | exact Td.non)
local macro_rules | `(tactic| walk_at "bq") => `(tactic| first | exact rfl | assumption | decide)
local macro_rules | `(tactic| walk_at "kb") => `(tactic| first | exact kii | exact ksi | exact kti | exact kib | exact kss | exact kis | exact kts | exact ktt | exact kst | exact kit)
local macro_rules | `(tactic| walk_at "ev") => `(tactic| first
  | with_reducible exact ev_int
  | with_reducible exact ev_str
  | with_reducible exact ev_bl
  | with_reducible exact ev_non
  | ((with_reducible refine' ev_var ?e ?t); (case e => exact rfl); (case t => walk_at "td"))
  | ((with_reducible refine' ev_ix ?a ?n ?z); (case a => walk_at "ev"); (case z => decide); (case n => exact rfl))
  | ((with_reducible refine' ev_isi ?a ?k); (case a => walk_at "ev"); (case k => walk_at "kb"))
  | ((with_reducible refine' ev_len ?a ?k); (case a => walk_at "ev"); (case k => exact rfl))
  | ((with_reducible refine' ev_cmpI ?a ?b ?r); (case a => walk_at "ev"); (case b => walk_at "ev"); (case r => walk_at "bq"))
  | ((with_reducible refine' ev_I0 ?a ?b ?r); (case a => walk_at "ev"); (case b => walk_at "ev"); (case r => exact rfl))
  | ((with_reducible refine' ev_eqS ?a ?b ?r); (case a => walk_at "ev"); (case b => walk_at "ev"); (case r => walk_at "bq"))
  | ((with_reducible refine' ev_eqI ?a ?b ?r); (case a => walk_at "ev"); (case b => walk_at "ev"); (case r => walk_at "bq"))
  | ((with_reducible refine' ev_neI ?a ?b ?r); (case a => walk_at "ev"); (case b => walk_at "ev"); (case r => walk_at "bq"))
  | ((with_reducible refine' ev_notV ?a ?r); (case a => walk_at "ev"); (case r => walk_at "bq"))
  | ((with_reducible refine' ev_chain ?a ?b ?c ?r); (case a => walk_at "ev"); (case b => walk_at "ev"); (case c => walk_at "ev"); (case r => walk_at "bq"))
  | ((with_reducible refine' ev_tup ?a ?l); (case a => walk_at "ea"); (case l => (show _ ≤ _; decide))))
local macro_rules | `(tactic| walk_at "ea") => `(tactic| first
  | with_reducible exact ea_nil
  | ((with_reducible refine' ea_cons ?a ?b); (case a => walk_at "ev"); (case b => walk_at "ea")))
local macro_rules | `(tactic| walk_at "et") => `(tactic| first
  | ((with_reducible refine' et_notI ?a ?r); (case a => walk_at "et"); (case r => walk_at "bq"))
  | ((with_reducible refine' et_is ?a); (case a => walk_at "ev"))
  | ((with_reducible refine' et_isB ?a); (case a => walk_at "ev"))
  | ((with_reducible refine' et_and ?a ?b ?c); (case a => walk_at "et"); (case b => (intro _; walk_at "et")); (case c => (intro z; first | exact z | (cases z; done) | rfl)))
  | ((with_reducible refine' et_or ?a ?b ?c); (case a => walk_at "et"); (case b => (intro _; walk_at "et")); (case c => (intro z; first | exact z | (cases z; done) | rfl))))
local macro_rules | `(tactic| walk_at "ev2") => `(tactic| first
  | walk_at "ev"
  | ((with_reducible refine' ev_inT ?a ?p ?s ?d ?f ?x ?b); (case a => walk_at "ev"); (case p => exact evv_c); (case s => assumption); (case d => exact rfl); (case f => exact rfl); (case x => exact rfl); (case b => walk_at "bq"))
  | ((with_reducible refine' ev_inU2 ?a ?p ?l ?d ?x ?f ?y ?b); (case a => walk_at "ev"); (case p => walk_at "ea"); (case l => (show _ ≤ _; decide)); (case d => exact rfl); (case x => exact rfl); (case f => exact rfl); (case y => exact rfl); (case b => walk_at "bq"))
  | ((with_reducible refine' ev_slA ?a ?l ?h ?r); (case a => walk_at "ev"); (case l => walk_at "eo"); (case h => walk_at "eo"); (case r => exact rfl)))
local macro_rules | `(tactic| walk_at "et2") => `(tactic| first
  | walk_at "et"
  | ((with_reducible refine' et_is ?a); (case a => walk_at "ev2"))
  | ((with_reducible refine' et_isB ?a); (case a => walk_at "ev2")))
local macro_rules | `(tactic| walk_at "eo") => `(tactic| first
  | with_reducible exact eo_none
  | ((with_reducible refine' eo_some ?a); (case a => walk_at "ev")))
section
variable {K : PySem.W.Frag} {σ : St} {H : Hp} {ta te : TE} {j : Nat}
/-- a display of the two hands, read by a hand -/
theorem ev_oppD {ty : TE} {h : Bool} (ha : ∀ J, Gr H J → EvD ty σ J (.str (hand h))) : EvD (tDGet (tDisp [(tC (.str "we"), tC (.str "they")), (tC (.str "they"), tC (.str "we"))]) ty) σ H (.str (hand (!h))) := fun H1 g Q q => by
  intro p hp
  refine ⟨upd_same, [(.inr "we", .str "they"), (.inr "they", .str "we")], rfl, by decide, ?_⟩
  have e : upd (upd H1 p (.dK [])) p (.dK (mergeK [] [(.inr "we", .str "they"), (.inr "they", .str "we")])) = upd H1 p (.dK (mergeK [] [(.inr "we", .str "they"), (.inr "they", .str "we")])) := by
    funext b
    by_cases z : b = p
    · rw [z, upd_same, upd_same]
    · rw [upd_ne z, upd_ne z, upd_ne z]
  rw [e]
  have gn := Gr.new (o := .dK (mergeK [] [(.inr "we", .str "they"), (.inr "they", .str "we")])) hp
  refine ha _ (g.trans gn) _ Mv.rfl _ fun v d J ed g2 t => ?_
  subst ed
  have e1 := t.str_inv
  subst e1
  exact ⟨p, .str (hand (!h)), rfl, .inl ⟨_, .inr (hand h), .inl (g2.get upd_same), rfl, by cases h <;> rfl⟩, q _ _ J rfl (gn.trans g2) (.str _)⟩
/-- t + tuple(a new list) -/
theorem ev_catK {tl : TE} {ds : List PyData} {PL : List PyData → Prop} (ha : EvD ta σ H (.tuple ds)) (hb : ∀ J, Gr H J → EvL tl σ J PL) (hl : ∀ es, PL es → ds.length + es.length ≤ 1000) :
    EvP (tOp (rCatA K) ta (tCB (rTupQ K) (tCons tl tNil))) σ H (fun z => ∃ es, PL es ∧ z = .tuple (ds ++ es)) := fun H1 g Q q =>
  ha H1 g _ fun v z H2 ez g2 tz => ev_tupL (hb H2 (g.trans g2)) H2 Mv.rfl _ fun v' z' H3 ⟨es, pe, ez'⟩ g3 tz' => by
    subst ez ez'
    have hl := hl es pe
    have tz3 := tz.mono g3.tup
    obtain ⟨a, xs, rfl, hx, ts⟩ := tz3.tup_inv
    obtain ⟨b, ys, rfl, hy, us⟩ := tz'.tup_inv
    have l1 := ts.length
    have l2 := us.length
    refine ⟨a, b, xs, ys, rfl, rfl, SqT.of hx, SqT.of hy, Nat.le_of_lt (small1000 (by omega)), fun e => ?_, fun _ e => ?_, fun _ _ p hp => ?_⟩
    · subst e
      have e2 : ds = [] := List.eq_nil_of_length_eq_zero l1.symm
      subst e2
      exact q _ _ H3 ⟨es, pe, rfl⟩ (g2.trans g3) tz'
    · subst e
      have e2 : es = [] := List.eq_nil_of_length_eq_zero l2.symm
      subst e2
      exact q _ _ H3 ⟨[], pe, by rw [List.append_nil]⟩ (g2.trans g3) tz3
    · exact q _ _ _ ⟨es, pe, rfl⟩ ((g2.trans g3).trans (Gr.new hp)) (.tup upd_same ((ts.append us).mono (Gr.new hp).tup))
theorem el_mapB {f : List S → List S} {bs : List (List S)} (ha : EvD ta σ H (.tuple (bs.map blk))) (hl : bs.length ≤ 100) (he : ∀ b ∈ bs, ∀ v J, Gr H J → Td J v (blk b) → EvD te (σ.set j (some v)) J (blk (f b))) :
    EvL (tLc (iTup K ta) (gName j) tYes te [j]) σ H (fun es => es = bs.map fun b => blk (f b)) :=
  el_lcT (Iv := fun n es => es = (bs.take n).map fun b => blk (f b)) (B := fun _ b => b = true) (R := fun n e => ∃ b, bs[n]? = some b ∧ e = blk (f b)) ha (by rw [List.length_map]; omega) (by rw [List.take_zero]; rfl)
    (fun n d v J _ _ _ => et_yes rfl) (fun n d v J hd g td _ => by
      rw [List.getElem?_map] at hd
      cases hb : bs[n]? with
      | none => rw [hb] at hd; cases hd
      | some b =>
        rw [hb] at hd
        have e4 : d = blk b := (Option.some.inj hd).symm
        subst e4
        exact (he b (List.mem_of_getElem? hb) v J g td).imp fun e ee => ⟨b, rfl, ee⟩)
    (fun n es e hn iv _ re => by
      obtain ⟨b, hb, rfl⟩ := re
      rw [iv, List.take_add_one, hb, List.map_append]; rfl)
    (fun n es _ _ hb => by cases hb) fun es iv => by
      rw [List.length_map] at iv
      rw [iv, List.take_length]
/-- found = []; for row in block: (one more item); return tuple(found) -/
theorem app_loop {ts : TS} {b : List S} {f : S → S} {v0 : V} {Q : VK} {N : St → Hp → Prop} (t0 : Td H v0 (blk b)) (hl : b.length ≤ 20)
    (hb : ∀ st, st ∈ b → ∀ (v : V) (p : Addr) (vs : List V) (J : Hp) (D : Ends), Td J v st.d → J p = some (.lst vs) → vs.length ≤ 20 → (∀ w d J2, d = (f st).d → Gr J J2 → J2 p = some (.lst vs) → Td J2 w d → D.nx [some v0, some (.ref p), some v, none] (upd J2 p (.lst (vs ++ [w])))) → ts D [some v0, some (.ref p), some v, none] J)
    (q : ∀ v J, Gr H J → Td J v (blk (b.map f)) → Q v J) :
    tSeq (tAsg (tLst tNil) (gName 1)) (tSeq (tFor (iTup K (tVar 0)) (gName 2) ts) (tRet (tCB (rTupQ K) (tCons (tVar 1) tNil)))) { nx := N, rt := Q } [some v0, none, none, none] H := by
  refine q_setL Mv.rfl (el_lst (ds := []) ea_nil (by show 0 ≤ 1000; decide)) fun p vs ds J1 ed hp g1 hx1 t1 => ?_
  subst ed
  cases t1
  have t01 : Td J1 v0 (.tuple (bds b)) := t0.mono g1.tup
  refine s_forT (ds := bds b) (D := { nx := fun σ J => tRet (tCB (rTupQ K) (tCons (tVar 1) tNil)) { nx := N, rt := Q } σ J, rt := Q }) Mv.rfl (ev_var rfl t01) fun H2 g2 => ⟨fun n σ J => ∃ (o : Option V) (ws : List V), σ = [some v0, some (.ref p), o, none] ∧ J p = some (.lst ws) ∧ TdA J ws (bds ((b.take n).map f)) ∧ Mv [p] H2 J, ⟨none, [], rfl, g2.get hx1, by rw [List.take_zero]; show TdA H2 [] (bds []); rw [bds]; exact .nil, Mv.rfl⟩, fun i σ J ⟨_, _, _, _, _, m⟩ => m.tup, ?_, ?_⟩
  · rintro i d v σ J hd td ⟨o, ws, rfl, hx, tw, m⟩
    rw [bds_map, List.getElem?_map] at hd
    cases hs : b[i]? with
    | none => rw [hs] at hd; cases hd
    | some st =>
      rw [hs] at hd
      have e4 : d = st.d := (Option.some.inj hd).symm
      subst e4
      have hi : i < b.length := (List.getElem?_eq_some_iff.mp hs).1
      have lw : ws.length = i := by rw [tw.length, bds_len, List.length_map, List.length_take]; omega
      refine hb st (List.mem_of_getElem? hs) v p ws J _ td hx (by omega) fun w d J2 ed g hx2 tw2 => ⟨some v, ws ++ [w], rfl, upd_same, ?_, (m.trans g.up).trans (Mv.put hx2 (by simp) lst_tup)⟩
      have mp := Tx.put (u := .lst (ws ++ [w])) hx2 lst_tup
      have e5 : bds ((b.take (i + 1)).map f) = bds ((b.take i).map f) ++ [d] := by
        rw [List.take_add_one, hs, List.map_append, bds_map, bds_map, List.map_append, ed]; rfl
      rw [e5]
      exact ((tw.mono g.tup).append (.one tw2)).mono mp
  · rintro σ J ⟨o, ws, rfl, hx, tw, m⟩
    rw [bds_len, List.take_length] at tw
    have gJ : Gr H J := Mv.drop (S := [p]) ((g1.trans g2).up.trans m) fun b hb => .inr (by rw [List.mem_singleton.mp hb]; exact hp)
    exact s_ret Mv.rfl (ev_tupV (evv_var rfl) hx tw) fun v d J3 ed g3 t3 => q v J3 (gJ.trans g3) (by rw [ed] at t3; exact t3)
end
section
variable {P : Program} {w : World} {K : PySem.W.Frag} {mg : Str → Option Value} {base : Heap}
abbrev s__law_turned : Stmt := top 61
theorem sc__law_turned : FnScope ["_law_block_here", "_law_found", "_law_row_here", "_law_part"] ["_law_block_here"] (defScope s__law_turned) := ⟨rfl, rfl, rfl, by decide +kernel, rfl, by decide +kernel, by decide +kernel⟩
theorem df_lturned {n L : Nat} {A : List PyData → (PyData → Prop) → Prop} (hA : ∀ ke st, SOk ke n st → ∀ b ∈ st.blocks, A [blk b] (fun z => z = blk (turnB b))) (F : Fn K mg "_law_turned" s__law_turned ["_law_block_here"]) (T : Gb K w mg) (G__law_turned : Df P w K mg base L "_law_turned" ["_law_block_here"] (spF A)) :
    Df P w K mg base (L + 1) "_law_turned" ["_law_block_here"] (spF (A_turned n)) := by
  refine df_of F sc__law_turned (spF_len fun ds P h => ?_) (fun f cdv A outer s H vs Q E hr h => ?_)
  · obtain ⟨d, k, rfl, _⟩ := h
    rfl
  obtain ⟨ds, P', ⟨b, ke, rfl, hb, rfl⟩, ts, q⟩ := h
  obtain ⟨v0, rfl, t0⟩ := ts.i1
  refine ⟨_, (pss_cons (ps_set (i := 1) sc__law_turned.nd rfl (Or.inl rfl) (pe_lst pa_nil)) (pss_cons (ps_for PassesOwn.never rfl (pi_tup (pv 0)) (pg_name (i := 2) sc__law_turned.nd rfl (Or.inl rfl)) (pss_one (ps_if (pt_cmpR op_eq (pe_ix (k_ixT K) (pv 2) pe_int (fun _ _ => rfl)) pe_str (nomark _)) (pss_one (ps_expr (pe_bm PySem.F.plainAttrs_list PySem.F.slot_list_append PySem.F.type_list_append mt_append (pv 1) (pa_cons (pe_tup (pa_cons pe_str (pa_cons (pe_tup (pa_cons pe_str (pa_cons (pe_un un_neg pe_int) (pa_cons (pe_ix (k_ixT K) (pv 2) pe_int (fun _ _ => rfl)) pa_nil)))) pa_nil))) pa_nil)))) (pss_one (ps_if (pt_cmpR (k_in K) (pe_ix (k_ixT K) (pv 2) pe_int (fun _ _ => rfl)) (pe_tup (pa_cons pe_str (pa_cons pe_str pa_nil))) (by rfl)) (pss_one (ps_expr (pe_bm PySem.F.plainAttrs_list PySem.F.slot_list_append PySem.F.type_list_append mt_append (pv 1) (pa_cons (pe_tup (pa_cons (pe_dget (hu1 hr.units) (pe_disp (pps_cons pe_str pe_str (pps_cons pe_str pe_str pps_nil)) (by rfl) (by rfl) (fun z => by cases z) (by decide)) (pe_ix (k_ixT K) (pv 2) pe_int (fun _ _ => rfl)) (by intros; exact fun _ _ => rfl)) (pa_cons (pe_df G__law_turned (hr.mono (by first | decide | omega)) (pa_cons (pe_ix (k_ixT K) (pv 2) pe_int (fun _ _ => rfl)) pa_nil)) (pa_cons (pe_df G__law_turned (hr.mono (by first | decide | omega)) (pa_cons (pe_ix (k_ixT K) (pv 2) pe_int (fun _ _ => rfl)) pa_nil)) pa_nil)))) pa_nil)))) (pss_one (ps_if (pt_cmpR (k_in K) (pe_ix (k_ixT K) (pv 2) pe_int (fun _ _ => rfl)) (pe_tup (pa_cons pe_str (pa_cons pe_str pa_nil))) (by rfl)) (pss_one (ps_expr (pe_bm PySem.F.plainAttrs_list PySem.F.slot_list_append PySem.F.type_list_append mt_append (pv 1) (pa_cons (pe_op (k_catA K) (pe_slice (k_slA K) (pv 2) po_none (po_some pe_int)) (pe_callTy (T := "tuple") (k_tup K) (by rfl) T.tuple_ (by decide +kernel) (pa_cons (pe_lc (own := [("_law_part", 3)]) (by rfl) sc__law_turned.nd (pi_tup (pe_slice (k_slA K) (pv 2) (po_some pe_int) po_none)) (blkOk_by (own := [("_law_part", 3)]) (N := ["_law_block_here", "_law_found", "_law_row_here", "_law_part"]) (sc := defScope s__law_turned) (by decide +kernel)) (fun _ _ _ _ _ => pg_name (i := 3) sc__law_turned.nd rfl (Or.inl rfl)) (fun _ _ _ _ _ => pts_nil) (fun _ _ _ _ _ => (pe_df G__law_turned (hr.mono (by first | decide | omega)) (pa_cons (pv 3) pa_nil)))) pa_nil))) pa_nil)))) (pss_one (ps_expr (pe_bm PySem.F.plainAttrs_list PySem.F.slot_list_append PySem.F.type_list_append mt_append (pv 1) (pa_cons (pv 2) pa_nil))))))))))) (pss_one (ps_ret (pe_callTy (T := "tuple") (k_tup K) (by rfl) T.tuple_ (by decide +kernel) (pa_cons (pv 1) pa_nil)))))), ?_⟩
  refine app_loop (f := turnS) t0 hb.1 (fun st hst v p vs J D t hx hl kk => ?_) fun v J g t => q v _ J (by rw [turnB_map]) g t
  have hs := hb.2 st hst
  cases st with
  | set x e =>
    rw [S.d] at t
    refine s_ifF Mv.rfl (by walk_at "et2") fun J1 g1 => s_ifF g1 (by walk_at "et2") fun J2 g2 => s_ifF g2 (by walk_at "et2") fun J3 g3 => s_append rfl (g3.get hx) (small1000 (by omega)) (ev_var rfl (t.mono g3.tup)) fun w d J4 ed g4 hx4 tw => kk w d J4 (by rw [ed, turnS, S.d]) (g3.trans g4) hx4 tw
  | pay e =>
    rw [S.d] at t
    refine s_ifT Mv.rfl (by walk_at "et2") fun J1 g1 => ?_
    have t1 := t.mono g1.tup
    exact s_append rfl (g1.get hx) (small1000 (by omega)) (ev_tup (ds := [.str "pay", (K27.E.times (-1) e).d]) (ea_cons (by walk_at "ev") (ea_cons (ev_tup (ds := [.str "times", .int (-1), e.d]) (ea_cons (by walk_at "ev") (ea_cons (ev_neg (by walk_at "ev")) (ea_cons (by walk_at "ev") ea_nil))) (by show 3 ≤ 1000; decide)) ea_nil)) (by show 2 ≤ 1000; decide)) fun w d J4 ed g4 hx4 tw => kk w d J4 (by rw [ed, turnS, S.d]) (g1.trans g4) hx4 tw
  | stop =>
    rw [S.d] at t
    refine s_ifF Mv.rfl (by walk_at "et2") fun J1 g1 => s_ifF g1 (by walk_at "et2") fun J2 g2 => s_ifF g2 (by walk_at "et2") fun J3 g3 => s_append rfl (g3.get hx) (small1000 (by omega)) (ev_var rfl (t.mono g3.tup)) fun w d J4 ed g4 hx4 tw => kk w d J4 (by rw [ed, turnS, S.d]) (g3.trans g4) hx4 tw
  | ite u y z =>
    have hA2 := hA ke _ hs
    rw [S.d] at t
    refine s_ifF Mv.rfl (by walk_at "et2") fun J1 g1 => s_ifF g1 (by walk_at "et2") fun J2 g2 => s_ifT g2 (by walk_at "et2") fun J3 g3 => ?_
    have t3 := t.mono g3.tup
    refine s_append rfl (g3.get hx) (small1000 (by omega)) (P := fun z => z = _) (fun H1 gH Q q => ?_) fun w d J4 ed g4 hx4 tw => kk w d J4 ed (g3.trans g4) hx4 tw
    have t4 := t3.mono gH.tup
    refine ev_catK (ds := [.str "if", u.d]) (K := K) (PL := fun es => es = [y, z].map fun b => blk (turnB b)) (by walk_at "ev2") (fun J gJ => el_mapB (f := turnB) (bs := [y, z]) (ev_slA (ev_var rfl (t4.mono gJ.tup)) (eo_some ev_int) eo_none rfl) (by show 2 ≤ 100; decide) fun b hb v J gJ tb => ev_call (A := _) (ds := [blk b]) (ea_cons (ev_var rfl tb) ea_nil) (hA2 b hb)) (fun es e => by rw [e]; show 4 ≤ 1000; decide) H1 Mv.rfl Q fun v d J ⟨es, e1, e2⟩ g t => q v d J (by rw [e2, e1, turnS, S.d]; rfl) g t
  | ch c y z =>
    have hA2 := hA ke _ hs
    rw [S.d] at t
    refine s_ifF Mv.rfl (et_is (ev_eqS (ev_ix (ev_var rfl t) rfl) ev_str (by cases c <;> decide))) fun J1 g1 => s_ifT g1 ?_ fun J2 g2 => ?_
    · cases c <;> (have t : Td J v (.tuple [.str _, .tuple (bds y), .tuple (bds z)]) := t; first | walk_at "et2" | (unfold hand at t; walk_at "et2"))
    have t2 := t.mono g2.tup
    refine s_append rfl (g2.get hx) (small1000 (by omega)) (ev_tup (ds := [.str (hand (!c)), blk (turnB y), blk (turnB z)]) (fun H1 gH Q q => ?_) (by show 3 ≤ 1000; decide)) fun w d J4 ed g4 hx4 tw => kk w d J4 (by rw [ed, turnS, S.d]; rfl) (g2.trans g4) hx4 tw
    exact ea_cons (ev_oppD fun J gJ => ev_ix (ev_var rfl ((t2.mono gH.tup).mono gJ.tup)) rfl) (ea_cons (ev_call (A := _) (ds := [blk y]) (ea_cons (ev_ix (ev_var rfl (t2.mono gH.tup)) rfl) ea_nil) (hA2 y (by simp [S.blocks]))) (ea_cons (ev_call (A := _) (ds := [blk z]) (ea_cons (ev_ix (ev_var rfl (t2.mono gH.tup)) rfl) ea_nil) (hA2 z (by simp [S.blocks]))) ea_nil)) H1 Mv.rfl Q q
  | rep i y =>
    have hA2 := hA ke _ hs
    rw [S.d] at t
    refine s_ifF Mv.rfl (by walk_at "et2") fun J1 g1 => s_ifF g1 (by walk_at "et2") fun J2 g2 => s_ifT g2 (by walk_at "et2") fun J3 g3 => ?_
    have t3 := t.mono g3.tup
    refine s_append rfl (g3.get hx) (small1000 (by omega)) (P := fun z => z = _) (fun H1 gH Q q => ?_) fun w d J4 ed g4 hx4 tw => kk w d J4 ed (g3.trans g4) hx4 tw
    have t4 := t3.mono gH.tup
    refine ev_catK (ds := [.str "repeat", .int i]) (K := K) (PL := fun es => es = [y].map fun b => blk (turnB b)) (by walk_at "ev2") (fun J gJ => el_mapB (f := turnB) (bs := [y]) (ev_slA (ev_var rfl (t4.mono gJ.tup)) (eo_some ev_int) eo_none rfl) (by show 1 ≤ 100; decide) fun b hb v J gJ tb => ev_call (A := _) (ds := [blk b]) (ea_cons (ev_var rfl tb) ea_nil) (hA2 b hb)) (fun es e => by rw [e]; show 3 ≤ 1000; decide) H1 Mv.rfl Q fun v d J ⟨es, e1, e2⟩ g t => q v d J (by rw [e2, e1, turnS, S.d]; rfl) g t
theorem df_lturned_all (F : Fn K mg "_law_turned" s__law_turned ["_law_block_here"]) (T : Gb K w mg) : ∀ n, Df P w K mg base (n + 1) "_law_turned" ["_law_block_here"] (spF (A_turned n))
  | 0 => df_lturned (A := fun _ _ => False) (fun ke st h => h.elim) F T (df_void F fun vs H Q E h => by
    obtain ⟨_, _, h, _⟩ := h
    exact h)
  | n + 1 => df_lturned (fun ke st h b hb => ⟨b, ke, rfl, h.blocks b hb, rfl⟩) F T (df_lturned_all F T n)
end
end K27
namespace K27
open PySem PySem.Spec L2
open PyProof.Rows hiding St
local macro_rules | `(tactic| walk_at "td") => `(tactic| first | assumption | exact Td.int _ | exact Td.str _ | exact Td.bl _ | exact Td.non)
local macro_rules | `(tactic| walk_at "bq") => `(tactic| first | exact rfl | assumption | decide)
local macro_rules | `(tactic| walk_at "kb") => `(tactic| first | exact kii | exact ksi | exact kti | exact kib | exact kss | exact kis | exact kts | exact ktt | exact kst | exact kit)
local macro_rules | `(tactic| walk_at "ev") => `(tactic| first
  | with_reducible exact ev_int
  | with_reducible exact ev_str
  | with_reducible exact ev_bl
  | with_reducible exact ev_non
  | ((with_reducible refine' ev_var ?e ?t); (case e => exact rfl); (case t => walk_at "td"))
  | ((with_reducible refine' ev_ix ?a ?n ?z); (case a => walk_at "ev"); (case z => decide); (case n => exact rfl))
  | ((with_reducible refine' ev_isi ?a ?k); (case a => walk_at "ev"); (case k => walk_at "kb"))
  | ((with_reducible refine' ev_len ?a ?k); (case a => walk_at "ev"); (case k => exact rfl))
  | ((with_reducible refine' ev_cmpI ?a ?b ?r); (case a => walk_at "ev"); (case b => walk_at "ev"); (case r => walk_at "bq"))
  | ((with_reducible refine' ev_I0 ?a ?b ?r); (case a => walk_at "ev"); (case b => walk_at "ev"); (case r => exact rfl))
  | ((with_reducible refine' ev_eqS ?a ?b ?r); (case a => walk_at "ev"); (case b => walk_at "ev"); (case r => walk_at "bq"))
  | ((with_reducible refine' ev_eqI ?a ?b ?r); (case a => walk_at "ev"); (case b => walk_at "ev"); (case r => walk_at "bq"))
  | ((with_reducible refine' ev_neI ?a ?b ?r); (case a => walk_at "ev"); (case b => walk_at "ev"); (case r => walk_at "bq"))
  | ((with_reducible refine' ev_notV ?a ?r); (case a => walk_at "ev"); (case r => walk_at "bq"))
  | ((with_reducible refine' ev_chain ?a ?b ?c ?r); (case a => walk_at "ev"); (case b => walk_at "ev"); (case c => walk_at "ev"); (case r => walk_at "bq"))
  | ((with_reducible refine' ev_tup ?a ?l); (case a => walk_at "ea"); (case l => (show _ ≤ _; decide))))
local macro_rules | `(tactic| walk_at "ea") => `(tactic| first
  | with_reducible exact ea_nil
  | ((with_reducible refine' ea_cons ?a ?b); (case a => walk_at "ev"); (case b => walk_at "ea")))
local macro_rules | `(tactic| walk_at "et") => `(tactic| first
  | ((with_reducible refine' et_notI ?a ?r); (case a => walk_at "et"); (case r => walk_at "bq"))
  | ((with_reducible refine' et_is ?a); (case a => walk_at "ev"))
  | ((with_reducible refine' et_isB ?a); (case a => walk_at "ev"))
  | ((with_reducible refine' et_and ?a ?b ?c); (case a => walk_at "et"); (case b => (intro _; walk_at "et")); (case c => (intro z; first | exact z | (cases z; done) | rfl)))
  | ((with_reducible refine' et_or ?a ?b ?c); (case a => walk_at "et"); (case b => (intro _; walk_at "et")); (case c => (intro z; first | exact z | (cases z; done) | rfl))))
local macro_rules | `(tactic| walk_at "ev2") => `(tactic| first
  | walk_at "ev"
  | ((with_reducible refine' ev_inT ?a ?p ?s ?d ?f ?x ?b); (case a => walk_at "ev"); (case p => exact evv_c); (case s => assumption); (case d => exact rfl); (case f => exact rfl); (case x => exact rfl); (case b => walk_at "bq"))
  | ((with_reducible refine' ev_inU2 ?a ?p ?l ?d ?x ?f ?y ?b); (case a => walk_at "ev"); (case p => walk_at "ea"); (case l => (show _ ≤ _; decide)); (case d => exact rfl); (case x => exact rfl); (case f => exact rfl); (case y => exact rfl); (case b => walk_at "bq"))
  | ((with_reducible refine' ev_slA ?a ?l ?h ?r); (case a => walk_at "ev"); (case l => walk_at "eo"); (case h => walk_at "eo"); (case r => exact rfl)))
local macro_rules | `(tactic| walk_at "et2") => `(tactic| first
  | walk_at "et"
  | ((with_reducible refine' et_is ?a); (case a => walk_at "ev2"))
  | ((with_reducible refine' et_isB ?a); (case a => walk_at "ev2")))
local macro_rules | `(tactic| walk_at "eo") => `(tactic| first
  | with_reducible exact eo_none
  | ((with_reducible refine' eo_some ?a); (case a => walk_at "ev")))
def A_contrary (ds : List PyData) (P : PyData → Prop) : Prop := ∃ (t : Int) (xs : List PyData) (hs : List Bool), ds = [.tuple [.int t, .tuple xs, .tuple (handsD hs)]] ∧ hs.length ≤ 1000 ∧ P = fun z => z = .tuple [.int (0 - t), .tuple xs, .tuple (handsD (hs.map not))]
section
variable {P : Program} {w : World} {K : PySem.W.Frag} {mg : Str → Option Value} {base : Heap}
abbrev s__law_contrary : Stmt := top 62
theorem sc__law_contrary : FnScope ["_law_row_here", "_law_hand"] ["_law_row_here"] (defScope s__law_contrary) := ⟨rfl, rfl, rfl, by decide +kernel, rfl, by decide +kernel, by decide +kernel⟩
theorem df_contrary (F : Fn K mg "_law_contrary" s__law_contrary ["_law_row_here"]) (T : Gb K w mg) : Df P w K mg base 1 "_law_contrary" ["_law_row_here"] (spF A_contrary) := by
  refine df_of F sc__law_contrary (spF_len fun ds P h => ?_) (fun f cdv A outer s H vs Q E hr h => ?_)
  · obtain ⟨_, _, _, rfl, _⟩ := h
    rfl
  obtain ⟨ds, P', ⟨t, xs, hs, rfl, hl, rfl⟩, ts, q⟩ := h
  obtain ⟨v0, rfl, t0⟩ := ts.i1
  refine ⟨_, (pss_one (ps_ret (pe_tup (pa_cons (pe_op op_sub pe_int (pe_ix (k_ixT K) (pv 0) pe_int (fun _ _ => rfl))) (pa_cons (pe_ix (k_ixT K) (pv 0) pe_int (fun _ _ => rfl)) (pa_cons (pe_callTy (T := "tuple") (k_tup K) (by rfl) T.tuple_ (by decide +kernel) (pa_cons (pe_lc (own := [("_law_hand", 1)]) (by rfl) sc__law_contrary.nd (pi_tup (pe_ix (k_ixT K) (pv 0) pe_int (fun _ _ => rfl))) (blkOk_by (own := [("_law_hand", 1)]) (N := ["_law_row_here", "_law_hand"]) (sc := defScope s__law_contrary) (by decide +kernel)) (fun _ _ _ _ _ => pg_name (i := 1) sc__law_contrary.nd rfl (Or.inl rfl)) (fun _ _ _ _ _ => pts_nil) (fun _ _ _ _ _ => (pe_dget (hu1 hr.units) (pe_disp (pps_cons pe_str pe_str (pps_cons pe_str pe_str pps_nil)) (by rfl) (by rfl) (fun z => by cases z) (by decide)) (pv 1) (by intros; exact fun _ _ => rfl)))) pa_nil)) pa_nil)))))), ?_⟩
  refine s_ret Mv.rfl (P := fun z => z = .tuple [.int (0 - t), .tuple xs, .tuple (handsD (hs.map not))]) (ev_tup (ds := [.int (0 - t), .tuple xs, .tuple (handsD (hs.map not))]) (ea_cons (ev_I0 ev_int (ev_ix (ev_var rfl t0) rfl) rfl) (ea_cons (ev_ix (ev_var rfl t0) rfl) (ea_cons (fun H1 gH Q q => ?_) ea_nil))) (by show 3 ≤ 1000; decide)) fun v d J ed g t => q v d J ed g t
  refine ev_tupL (P := fun es => es = handsD (hs.map not)) (el_lcT (Iv := fun n es => es = handsD ((hs.take n).map not)) (B := fun _ b => b = true) (R := fun n e => ∃ h, hs[n]? = some h ∧ e = .str (hand (!h))) (ds := handsD hs) (ev_ix (ev_var rfl (t0.mono gH.tup)) rfl) (by unfold handsD; rw [List.length_map]; omega) rfl (fun n d v J _ _ _ => et_yes rfl) (fun n d v J hd g td _ => ?_) (fun n es e hn iv _ re => ?_) (fun n es _ _ hb => by cases hb) fun es iv => ?_) H1 Mv.rfl Q fun v d J ⟨es, e1, e2⟩ g t => q v d J (by rw [e2, e1]) g t
  · unfold handsD at hd
    rw [List.getElem?_map] at hd
    cases hh : hs[n]? with
    | none => rw [hh] at hd; cases hd
    | some h =>
      rw [hh] at hd
      have e4 : d = .str (hand h) := (Option.some.inj hd).symm
      subst e4
      exact (ev_oppD fun J2 gJ => ev_var rfl (td.mono gJ.tup)).imp fun e ee => ⟨h, rfl, ee⟩
  · obtain ⟨h, hh, rfl⟩ := re
    rw [iv, List.take_add_one, hh]
    unfold handsD
    rw [List.map_append, List.map_append]; rfl
  · unfold handsD at iv
    rw [List.length_map, List.take_length] at iv
    exact iv
end
end K27
namespace K27
open PySem PySem.Spec L2
open PyProof.Rows hiding St
local macro_rules | `(tactic| walk_at "td") => `(tactic| first | assumption | exact Td.int _ | exact Td.str _ | exact Td.bl _ | exact Td.non)
local macro_rules | `(tactic| walk_at "bq") => `(tactic| first | exact rfl | assumption | decide)
local macro_rules | `(tactic| walk_at "kb") => `(tactic| first | exact kii | exact ksi | exact kti | exact kib | exact kss | exact kis | exact kts | exact ktt | exact kst | exact kit)
local macro_rules | `(tactic| walk_at "ev") => `(tactic| first
  | with_reducible exact ev_int
  | with_reducible exact ev_str
  | with_reducible exact ev_bl
  | with_reducible exact ev_non
  | ((with_reducible refine' ev_var ?e ?t); (case e => exact rfl); (case t => walk_at "td"))
  | ((with_reducible refine' ev_ix ?a ?n ?z); (case a => walk_at "ev"); (case z => decide); (case n => exact rfl))
  | ((with_reducible refine' ev_isi ?a ?k); (case a => walk_at "ev"); (case k => walk_at "kb"))
  | ((with_reducible refine' ev_len ?a ?k); (case a => walk_at "ev"); (case k => exact rfl))
  | ((with_reducible refine' ev_cmpI ?a ?b ?r); (case a => walk_at "ev"); (case b => walk_at "ev"); (case r => walk_at "bq"))
  | ((with_reducible refine' ev_I0 ?a ?b ?r); (case a => walk_at "ev"); (case b => walk_at "ev"); (case r => exact rfl))
  | ((with_reducible refine' ev_eqS ?a ?b ?r); (case a => walk_at "ev"); (case b => walk_at "ev"); (case r => walk_at "bq"))
  | ((with_reducible refine' ev_eqI ?a ?b ?r); (case a => walk_at "ev"); (case b => walk_at "ev"); (case r => walk_at "bq"))
  | ((with_reducible refine' ev_neI ?a ?b ?r); (case a => walk_at "ev"); (case b => walk_at "ev"); (case r => walk_at "bq"))
  | ((with_reducible refine' ev_notV ?a ?r); (case a => walk_at "ev"); (case r => walk_at "bq"))
  | ((with_reducible refine' ev_chain ?a ?b ?c ?r); (case a => walk_at "ev"); (case b => walk_at "ev"); (case c => walk_at "ev"); (case r => walk_at "bq"))
  | ((with_reducible refine' ev_tup ?a ?l); (case a => walk_at "ea"); (case l => (show _ ≤ _; decide))))
local macro_rules | `(tactic| walk_at "ea") => `(tactic| first
  | with_reducible exact ea_nil
  | ((with_reducible refine' ea_cons ?a ?b); (case a => walk_at "ev"); (case b => walk_at "ea")))
local macro_rules | `(tactic| walk_at "et") => `(tactic| first
  | ((with_reducible refine' et_notI ?a ?r); (case a => walk_at "et"); (case r => walk_at "bq"))
  | ((with_reducible refine' et_is ?a); (case a => walk_at "ev"))
  | ((with_reducible refine' et_isB ?a); (case a => walk_at "ev"))
  | ((with_reducible refine' et_and ?a ?b ?c); (case a => walk_at "et"); (case b => (intro _; walk_at "et")); (case c => (intro z; first | exact z | (cases z; done) | rfl)))
  | ((with_reducible refine' et_or ?a ?b ?c); (case a => walk_at "et"); (case b => (intro _; walk_at "et")); (case c => (intro z; first | exact z | (cases z; done) | rfl))))
local macro_rules | `(tactic| walk_at "ev2") => `(tactic| first
  | walk_at "ev"
  | ((with_reducible refine' ev_inT ?a ?p ?s ?d ?f ?x ?b); (case a => walk_at "ev"); (case p => exact evv_c); (case s => assumption); (case d => exact rfl); (case f => exact rfl); (case x => exact rfl); (case b => walk_at "bq"))
  | ((with_reducible refine' ev_inU2 ?a ?p ?l ?d ?x ?f ?y ?b); (case a => walk_at "ev"); (case p => walk_at "ea"); (case l => (show _ ≤ _; decide)); (case d => exact rfl); (case x => exact rfl); (case f => exact rfl); (case y => exact rfl); (case b => walk_at "bq"))
  | ((with_reducible refine' ev_slA ?a ?l ?h ?r); (case a => walk_at "ev"); (case l => walk_at "eo"); (case h => walk_at "eo"); (case r => exact rfl)))
local macro_rules | `(tactic| walk_at "et2") => `(tactic| first
  | walk_at "et"
  | ((with_reducible refine' et_is ?a); (case a => walk_at "ev2"))
  | ((with_reducible refine' et_isB ?a); (case a => walk_at "ev2")))
local macro_rules | `(tactic| walk_at "eo") => `(tactic| first
  | with_reducible exact eo_none
  | ((with_reducible refine' eo_some ?a); (case a => walk_at "ev")))
/-! ### shallow -/
def fl : K27.E → K27.E
  | .name x => .name x
  | .int i => .int i
  | _ => .int 1
def shE : K27.E → K27.E
  | .name x => .name x
  | .int i => .int i
  | .plus a b => .plus (fl a) (fl b)
  | .minus a b => .minus (fl a) (fl b)
  | .times f a => .times f (fl a)
mutual
def shS : S → S
  | .set x e => .set x e
  | .pay e => .pay (shE e)
  | .stop => .stop
  | .ite t y n => .ite t (shB y) (shB n)
  | .ch h a b => .ch h (shB a) (shB b)
  | .rep n b => .rep n (shB b)
def shB : List S → List S
  | [] => []
  | s :: r => shS s :: shB r
end
theorem shB_map : ∀ b : List S, shB b = b.map shS
  | [] => by rw [shB]; rfl
  | s :: r => by rw [shB, shB_map r, List.map_cons]
theorem shB_len (b : List S) : (shB b).length = b.length := by rw [shB_map, List.length_map]
def flD (d : PyData) : PyData := if tyD d = "tuple" then .int 1 else d
theorem flD_E (e : K27.E) : flD e.d = (fl e).d := by cases e <;> rfl
theorem fl_ok : ∀ {k : Nat} {e : K27.E}, EOk k e → EOk k (fl e)
  | 0, _, h => h.elim
  | k + 1, .name x, h => h
  | k + 1, .int i, h => h
  | k + 1, .plus a b, h => ⟨by decide, by decide⟩
  | k + 1, .minus a b, h => ⟨by decide, by decide⟩
  | k + 1, .times f a, h => ⟨by decide, by decide⟩
theorem shE_ok : ∀ {k : Nat} {e : K27.E}, EOk k e → EOk k (shE e)
  | 0, _, h => h.elim
  | k + 1, .name x, h => h
  | k + 1, .int i, h => h
  | k + 1, .plus a b, h => ⟨fl_ok h.1, fl_ok h.2⟩
  | k + 1, .minus a b, h => ⟨fl_ok h.1, fl_ok h.2⟩
  | k + 1, .times f a, h => ⟨h.1, fl_ok h.2⟩
theorem shS_ok {ke : Nat} : ∀ {n : Nat} {s : S}, SOk ke n s → SOk ke n (shS s)
  | 0, _, h => h.elim
  | n + 1, .set x e, h => by rw [shS]; exact h
  | n + 1, .pay e, h => by rw [shS]; exact shE_ok h
  | n + 1, .stop, h => by rw [shS]; exact h
  | n + 1, .ite t y z, h => by
    rw [shS]
    exact ⟨h.1, ⟨by rw [shB_len]; exact h.2.1.1, fun s hs => by
      rw [shB_map] at hs
      obtain ⟨u, hu, rfl⟩ := List.mem_map.mp hs
      exact shS_ok (h.2.1.2 u hu)⟩, ⟨by rw [shB_len]; exact h.2.2.1, fun s hs => by
      rw [shB_map] at hs
      obtain ⟨u, hu, rfl⟩ := List.mem_map.mp hs
      exact shS_ok (h.2.2.2 u hu)⟩⟩
  | n + 1, .ch c y z, h => by
    rw [shS]
    exact ⟨⟨by rw [shB_len]; exact h.1.1, fun s hs => by
      rw [shB_map] at hs
      obtain ⟨u, hu, rfl⟩ := List.mem_map.mp hs
      exact shS_ok (h.1.2 u hu)⟩, ⟨by rw [shB_len]; exact h.2.1, fun s hs => by
      rw [shB_map] at hs
      obtain ⟨u, hu, rfl⟩ := List.mem_map.mp hs
      exact shS_ok (h.2.2 u hu)⟩⟩
  | n + 1, .rep m y, h => by
    rw [shS]
    exact ⟨h.1, ⟨by rw [shB_len]; exact h.2.1, fun s hs => by
      rw [shB_map] at hs
      obtain ⟨u, hu, rfl⟩ := List.mem_map.mp hs
      exact shS_ok (h.2.2 u hu)⟩⟩
theorem shB_ok {ke n : Nat} {b : List S} (h : BOk ke n b) : BOk ke n (shB b) := ⟨by rw [shB_len]; exact h.1, fun s hs => by
  rw [shB_map] at hs
  obtain ⟨u, hu, rfl⟩ := List.mem_map.mp hs
  exact shS_ok (h.2 u hu)⟩
def A_shallow (n : Nat) (ds : List PyData) (P : PyData → Prop) : Prop := ∃ (b : List S) (ke : Nat), ds = [blk b] ∧ BOk ke n b ∧ P = fun z => z = blk (shB b)
theorem isT_tup (e : K27.E) : kitB (tyD e.d) "tuple" = some (decide (tyD e.d = "tuple")) := by cases e <;> first | exact kit | exact kst | exact ktt
theorem isT_D (d : PyData) (h : (∃ i, d = .int i) ∨ ∃ e : K27.E, d = e.d) : kitB (tyD d) "tuple" = some (decide (tyD d = "tuple")) := by
  rcases h with ⟨i, rfl⟩ | ⟨e, rfl⟩
  · exact kit
  · exact isT_tup e
/-- a compound expression: its sort, its parts -/
theorem E.parts : ∀ e : K27.E, tyD e.d = "tuple" → ∃ (k : Str) (r : List PyData), e.d = .tuple (.str k :: r) ∧ r.length = 2 ∧ (∀ d ∈ r, (∃ i, d = .int i) ∨ ∃ e : K27.E, d = e.d) ∧ (shE e).d = .tuple (.str k :: r.map flD)
  | .name x, h => absurd h (show ¬ "str" = "tuple" by decide)
  | .int i, h => absurd h (show ¬ "int" = "tuple" by decide)
  | .plus a b, _ => ⟨"plus", [a.d, b.d], rfl, rfl, fun d hd => by
      simp only [List.mem_cons, List.not_mem_nil, or_false] at hd
      rcases hd with e | e
      · exact .inr ⟨a, e⟩
      · exact .inr ⟨b, e⟩, by rw [shE, List.map_cons, List.map_cons, flD_E, flD_E]; rfl⟩
  | .minus a b, _ => ⟨"minus", [a.d, b.d], rfl, rfl, fun d hd => by
      simp only [List.mem_cons, List.not_mem_nil, or_false] at hd
      rcases hd with e | e
      · exact .inr ⟨a, e⟩
      · exact .inr ⟨b, e⟩, by rw [shE, List.map_cons, List.map_cons, flD_E, flD_E]; rfl⟩
  | .times f a, _ => ⟨"times", [.int f, a.d], rfl, rfl, fun d hd => by
      simp only [List.mem_cons, List.not_mem_nil, or_false] at hd
      rcases hd with e | e
      · exact .inl ⟨f, e⟩
      · exact .inr ⟨a, e⟩, by rw [shE, List.map_cons, List.map_cons, flD_E]; rfl⟩
theorem shE_same {e : K27.E} (h : tyD e.d ≠ "tuple") : shE e = e := by cases e <;> first | rfl | exact absurd rfl h
section
variable {P : Program} {w : World} {K : PySem.W.Frag} {mg : Str → Option Value} {base : Heap}
abbrev s__law_shallow : Stmt := top 63
theorem sc__law_shallow : FnScope ["_law_block_here", "_law_found", "_law_row_here", "_law_part"] ["_law_block_here"] (defScope s__law_shallow) := ⟨rfl, rfl, rfl, by decide +kernel, rfl, by decide +kernel, by decide +kernel⟩
theorem df_shallow {n L : Nat} {A : List PyData → (PyData → Prop) → Prop} (hA : ∀ ke st, SOk ke n st → ∀ b ∈ st.blocks, A [blk b] (fun z => z = blk (shB b))) (F : Fn K mg "_law_shallow" s__law_shallow ["_law_block_here"]) (T : Gb K w mg) (G__law_shallow : Df P w K mg base L "_law_shallow" ["_law_block_here"] (spF A)) :
    Df P w K mg base (L + 1) "_law_shallow" ["_law_block_here"] (spF (A_shallow n)) := by
  refine df_of F sc__law_shallow (spF_len fun ds P h => ?_) (fun f cdv A outer s H vs Q E hr h => ?_)
  · obtain ⟨d, k, rfl, _⟩ := h
    rfl
  obtain ⟨ds, P', ⟨b, ke, rfl, hb, rfl⟩, ts, q⟩ := h
  obtain ⟨v0, rfl, t0⟩ := ts.i1
  refine ⟨_, (pss_cons (ps_set (i := 1) sc__law_shallow.nd rfl (Or.inl rfl) (pe_lst pa_nil)) (pss_cons (ps_for PassesOwn.never rfl (pi_tup (pv 0)) (pg_name (i := 2) sc__law_shallow.nd rfl (Or.inl rfl)) (pss_one (ps_if (PW.pt (pw_and (pt_cmpR op_eq (pe_ix (k_ixT K) (pv 2) pe_int (fun _ _ => rfl)) pe_str (nomark _)) (pw_and1 (pt_val (pe_callB (id := "isinstance") (k_isi K) (by rfl) T.isinstance_ (by decide +kernel) (pa_cons (pe_ix (k_ixT K) (pv 2) pe_int (fun _ _ => rfl)) (pa_cons (pe_ty "tuple" T.tuple_) pa_nil))))))) (pss_one (ps_expr (pe_bm PySem.F.plainAttrs_list PySem.F.slot_list_append PySem.F.type_list_append mt_append (pv 1) (pa_cons (pe_tup (pa_cons pe_str (pa_cons (pe_op (k_catA K) (pe_slice (k_slA K) (pe_ix (k_ixT K) (pv 2) pe_int (fun _ _ => rfl)) po_none (po_some pe_int)) (pe_callTy (T := "tuple") (k_tup K) (by rfl) T.tuple_ (by decide +kernel) (pa_cons (pe_lc (own := [("_law_part", 3)]) (by rfl) sc__law_shallow.nd (pi_tup (pe_slice (k_slA K) (pe_ix (k_ixT K) (pv 2) pe_int (fun _ _ => rfl)) (po_some pe_int) po_none)) (blkOk_by (own := [("_law_part", 3)]) (N := ["_law_block_here", "_law_found", "_law_row_here", "_law_part"]) (sc := defScope s__law_shallow) (by decide +kernel)) (fun _ _ _ _ _ => pg_name (i := 3) sc__law_shallow.nd rfl (Or.inl rfl)) (fun _ _ _ _ _ => pts_nil) (fun _ _ _ _ _ => (pe_ifExp (pt_val (pe_callB (id := "isinstance") (k_isi K) (by rfl) T.isinstance_ (by decide +kernel) (pa_cons (pv 3) (pa_cons (pe_ty "tuple" T.tuple_) pa_nil)))) pe_int (pv 3)))) pa_nil))) pa_nil))) pa_nil)))) (pss_one (ps_if (pt_cmpR (k_in K) (pe_ix (k_ixT K) (pv 2) pe_int (fun _ _ => rfl)) (pe_tup (pa_cons pe_str (pa_cons pe_str pa_nil))) (by rfl)) (pss_one (ps_expr (pe_bm PySem.F.plainAttrs_list PySem.F.slot_list_append PySem.F.type_list_append mt_append (pv 1) (pa_cons (pe_tup (pa_cons (pe_ix (k_ixT K) (pv 2) pe_int (fun _ _ => rfl)) (pa_cons (pe_df G__law_shallow (hr.mono (by first | decide | omega)) (pa_cons (pe_ix (k_ixT K) (pv 2) pe_int (fun _ _ => rfl)) pa_nil)) (pa_cons (pe_df G__law_shallow (hr.mono (by first | decide | omega)) (pa_cons (pe_ix (k_ixT K) (pv 2) pe_int (fun _ _ => rfl)) pa_nil)) pa_nil)))) pa_nil)))) (pss_one (ps_if (pt_cmpR (k_in K) (pe_ix (k_ixT K) (pv 2) pe_int (fun _ _ => rfl)) (pe_tup (pa_cons pe_str (pa_cons pe_str pa_nil))) (by rfl)) (pss_one (ps_expr (pe_bm PySem.F.plainAttrs_list PySem.F.slot_list_append PySem.F.type_list_append mt_append (pv 1) (pa_cons (pe_op (k_catA K) (pe_slice (k_slA K) (pv 2) po_none (po_some pe_int)) (pe_callTy (T := "tuple") (k_tup K) (by rfl) T.tuple_ (by decide +kernel) (pa_cons (pe_lc (own := [("_law_part", 3)]) (by rfl) sc__law_shallow.nd (pi_tup (pe_slice (k_slA K) (pv 2) (po_some pe_int) po_none)) (blkOk_by (own := [("_law_part", 3)]) (N := ["_law_block_here", "_law_found", "_law_row_here", "_law_part"]) (sc := defScope s__law_shallow) (by decide +kernel)) (fun _ _ _ _ _ => pg_name (i := 3) sc__law_shallow.nd rfl (Or.inl rfl)) (fun _ _ _ _ _ => pts_nil) (fun _ _ _ _ _ => (pe_df G__law_shallow (hr.mono (by first | decide | omega)) (pa_cons (pv 3) pa_nil)))) pa_nil))) pa_nil)))) (pss_one (ps_expr (pe_bm PySem.F.plainAttrs_list PySem.F.slot_list_append PySem.F.type_list_append mt_append (pv 1) (pa_cons (pv 2) pa_nil))))))))))) (pss_one (ps_ret (pe_callTy (T := "tuple") (k_tup K) (by rfl) T.tuple_ (by decide +kernel) (pa_cons (pv 1) pa_nil)))))), ?_⟩
  refine app_loop (f := shS) t0 hb.1 (fun st hst v p vs J D t hx hl kk => ?_) fun v J g t => q v _ J (by rw [shB_map]) g t
  have hs := hb.2 st hst
  cases st with
  | set x e =>
    rw [S.d] at t
    refine s_ifF Mv.rfl (et_and (a := false) (by walk_at "et2") (fun z => by cases z) fun _ => rfl) fun J1 g1 => s_ifF g1 (by walk_at "et2") fun J2 g2 => s_ifF g2 (by walk_at "et2") fun J3 g3 => s_append rfl (g3.get hx) (small1000 (by omega)) (ev_var rfl (t.mono g3.tup)) fun w d J4 ed g4 hx4 tw => kk w d J4 (by rw [ed, shS, S.d]) (g3.trans g4) hx4 tw
  | pay e =>
    rw [S.d] at t
    by_cases hc : tyD e.d = "tuple"
    · obtain ⟨k, r, e1, hl2, hr2, e2⟩ := K27.E.parts e hc
      have hkt : kitB (tyD e.d) "tuple" = some true := by rw [isT_tup, hc]; rfl
      refine s_ifT Mv.rfl (et_and (a := true) (b := true) (by walk_at "et2") (fun _ => et_isB (ev_isi (ev_ix (ev_var rfl t) rfl) hkt)) fun z => by cases z) fun J1 g1 => ?_
      have t1 := t.mono g1.tup
      rw [e1] at t1
      refine s_append rfl (g1.get hx) (small1000 (by omega)) (P := fun z => z = .tuple [.str "pay", .tuple (.str k :: r.map flD)]) (ev_tup (ea_cons ev_str (ea_cons (fun H1 gH Q q => ?_) ea_nil)) (by show 2 ≤ 1000; decide)) fun w d J4 ed g4 hx4 tw => kk w d J4 (by rw [ed, shS, S.d, e2]) (g1.trans g4) hx4 tw
      have t4 := t1.mono gH.tup
      refine ev_catK (ds := [.str k]) (K := K) (PL := fun es => es = r.map flD) (ev_slA (ev_ix (ev_var rfl t4) rfl) eo_none (eo_some ev_int) rfl) (fun J gJ => el_mapT (f := flD) (ds := r) (ev_slA (ev_ix (ev_var rfl (t4.mono gJ.tup)) rfl) (eo_some ev_int) eo_none ?_) (by omega) fun d v J3 hd gJ3 td => ?_) (fun es ee => by rw [ee, List.length_map]; show 1 + r.length ≤ 1000; omega) H1 Mv.rfl Q fun v d J ⟨es, e3, e4⟩ g t => q v d J (by rw [e4, e3]; rfl) g t
      · unfold cut
        rw [show HT.sIx (PyData.str k :: r).length 0 (some 1) = 1 from by rw [List.length_cons, hl2]; rfl, show HT.sIx (PyData.str k :: r).length (PyData.str k :: r).length none = r.length + 1 from rfl]
        show r.take r.length = r
        exact List.take_length
      · refine ev_ifE (b := decide (tyD d = "tuple")) (et_isB (ev_isi (ev_var rfl td) (isT_D d (hr2 d hd)))) (fun hb => ?_) fun hb => ?_
        · exact ev_int.imp fun z ez => by rw [ez]; unfold flD; rw [if_pos (of_decide_eq_true hb)]
        · exact (ev_var rfl td).imp fun z ez => by rw [ez]; unfold flD; rw [if_neg (of_decide_eq_false hb)]
    · have hkt : kitB (tyD e.d) "tuple" = some false := by rw [isT_tup, decide_eq_false hc]
      refine s_ifF Mv.rfl (et_and (a := true) (b := false) (by walk_at "et2") (fun _ => et_isB (ev_isi (ev_ix (ev_var rfl t) rfl) hkt)) fun z => by cases z) fun J1 g1 => s_ifF g1 (by walk_at "et2") fun J2 g2 => s_ifF g2 (by walk_at "et2") fun J3 g3 => s_append rfl (g3.get hx) (small1000 (by omega)) (ev_var rfl (t.mono g3.tup)) fun w d J4 ed g4 hx4 tw => kk w d J4 (by rw [ed, shS, S.d, shE_same hc]) (g3.trans g4) hx4 tw
  | stop =>
    rw [S.d] at t
    refine s_ifF Mv.rfl (et_and (a := false) (by walk_at "et2") (fun z => by cases z) fun _ => rfl) fun J1 g1 => s_ifF g1 (by walk_at "et2") fun J2 g2 => s_ifF g2 (by walk_at "et2") fun J3 g3 => s_append rfl (g3.get hx) (small1000 (by omega)) (ev_var rfl (t.mono g3.tup)) fun w d J4 ed g4 hx4 tw => kk w d J4 (by rw [ed, shS, S.d]) (g3.trans g4) hx4 tw
  | ite u y z =>
    have hA2 := hA ke _ hs
    rw [S.d] at t
    refine s_ifF Mv.rfl (et_and (a := false) (by walk_at "et2") (fun z => by cases z) fun _ => rfl) fun J1 g1 => s_ifF g1 (by walk_at "et2") fun J2 g2 => s_ifT g2 (by walk_at "et2") fun J3 g3 => ?_
    have t3 := t.mono g3.tup
    refine s_append rfl (g3.get hx) (small1000 (by omega)) (P := fun z => z = _) (fun H1 gH Q q => ?_) fun w d J4 ed g4 hx4 tw => kk w d J4 ed (g3.trans g4) hx4 tw
    have t4 := t3.mono gH.tup
    refine ev_catK (ds := [.str "if", u.d]) (K := K) (PL := fun es => es = [y, z].map fun b => blk (shB b)) (by walk_at "ev2") (fun J gJ => el_mapB (f := shB) (bs := [y, z]) (ev_slA (ev_var rfl (t4.mono gJ.tup)) (eo_some ev_int) eo_none rfl) (by show 2 ≤ 100; decide) fun b hb v J gJ tb => ev_call (A := _) (ds := [blk b]) (ea_cons (ev_var rfl tb) ea_nil) (hA2 b hb)) (fun es e => by rw [e]; show 4 ≤ 1000; decide) H1 Mv.rfl Q fun v d J ⟨es, e1, e2⟩ g t => q v d J (by rw [e2, e1, shS, S.d]; rfl) g t
  | ch c y z =>
    have hA2 := hA ke _ hs
    rw [S.d] at t
    refine s_ifF Mv.rfl (et_and (a := false) (et_is (ev_eqS (ev_ix (ev_var rfl t) rfl) ev_str (by cases c <;> decide))) (fun z => by cases z) fun _ => rfl) fun J1 g1 => s_ifT g1 ?_ fun J2 g2 => ?_
    · cases c <;> (have t : Td J v (.tuple [.str _, .tuple (bds y), .tuple (bds z)]) := t; first | walk_at "et2" | (unfold hand at t; walk_at "et2"))
    have t2 := t.mono g2.tup
    refine s_append rfl (g2.get hx) (small1000 (by omega)) (ev_tup (ds := [.str (hand c), blk (shB y), blk (shB z)]) (fun H1 gH Q q => ?_) (by show 3 ≤ 1000; decide)) fun w d J4 ed g4 hx4 tw => kk w d J4 (by rw [ed, shS, S.d]; rfl) (g2.trans g4) hx4 tw
    exact ea_cons (ev_ix (ev_var rfl (t2.mono gH.tup)) rfl) (ea_cons (ev_call (A := _) (ds := [blk y]) (ea_cons (ev_ix (ev_var rfl (t2.mono gH.tup)) rfl) ea_nil) (hA2 y (by simp [S.blocks]))) (ea_cons (ev_call (A := _) (ds := [blk z]) (ea_cons (ev_ix (ev_var rfl (t2.mono gH.tup)) rfl) ea_nil) (hA2 z (by simp [S.blocks]))) ea_nil)) H1 Mv.rfl Q q
  | rep i y =>
    have hA2 := hA ke _ hs
    rw [S.d] at t
    refine s_ifF Mv.rfl (et_and (a := false) (by walk_at "et2") (fun z => by cases z) fun _ => rfl) fun J1 g1 => s_ifF g1 (by walk_at "et2") fun J2 g2 => s_ifT g2 (by walk_at "et2") fun J3 g3 => ?_
    have t3 := t.mono g3.tup
    refine s_append rfl (g3.get hx) (small1000 (by omega)) (P := fun z => z = _) (fun H1 gH Q q => ?_) fun w d J4 ed g4 hx4 tw => kk w d J4 ed (g3.trans g4) hx4 tw
    have t4 := t3.mono gH.tup
    refine ev_catK (ds := [.str "repeat", .int i]) (K := K) (PL := fun es => es = [y].map fun b => blk (shB b)) (by walk_at "ev2") (fun J gJ => el_mapB (f := shB) (bs := [y]) (ev_slA (ev_var rfl (t4.mono gJ.tup)) (eo_some ev_int) eo_none rfl) (by show 1 ≤ 100; decide) fun b hb v J gJ tb => ev_call (A := _) (ds := [blk b]) (ea_cons (ev_var rfl tb) ea_nil) (hA2 b hb)) (fun es e => by rw [e]; show 3 ≤ 1000; decide) H1 Mv.rfl Q fun v d J ⟨es, e1, e2⟩ g t => q v d J (by rw [e2, e1, shS, S.d]; rfl) g t
theorem df_shallow_all (F : Fn K mg "_law_shallow" s__law_shallow ["_law_block_here"]) (T : Gb K w mg) : ∀ n, Df P w K mg base (n + 1) "_law_shallow" ["_law_block_here"] (spF (A_shallow n))
  | 0 => df_shallow (A := fun _ _ => False) (fun ke st h => h.elim) F T (df_void F fun vs H Q E h => by
    obtain ⟨_, _, h, _⟩ := h
    exact h)
  | n + 1 => df_shallow (fun ke st h b hb => ⟨b, ke, rfl, h.blocks b hb, rfl⟩) F T (df_shallow_all F T n)
end
end K27
namespace K27
open PySem PySem.Spec L2
open PyProof.Rows hiding St
local macro_rules | `(tactic| walk_at "td") => `(tactic| first | assumption | exact Td.int _ | exact Td.str _ | exact Td.bl _ | exact Td.non)
local macro_rules | `(tactic| walk_at "bq") => `(tactic| first | exact rfl | assumption | decide)
local macro_rules | `(tactic| walk_at "kb") => `(tactic| first | exact kii | exact ksi | exact kti | exact kib | exact kss | exact kis | exact kts | exact ktt | exact kst | exact kit)
local macro_rules | `(tactic| walk_at "ev") => `(tactic| first
  | with_reducible exact ev_int
  | with_reducible exact ev_str
  | with_reducible exact ev_bl
  | with_reducible exact ev_non
  | ((with_reducible refine' ev_var ?e ?t); (case e => exact rfl); (case t => walk_at "td"))
  | ((with_reducible refine' ev_ix ?a ?n ?z); (case a => walk_at "ev"); (case z => decide); (case n => exact rfl))
  | ((with_reducible refine' ev_isi ?a ?k); (case a => walk_at "ev"); (case k => walk_at "kb"))
  | ((with_reducible refine' ev_len ?a ?k); (case a => walk_at "ev"); (case k => exact rfl))
  | ((with_reducible refine' ev_cmpI ?a ?b ?r); (case a => walk_at "ev"); (case b => walk_at "ev"); (case r => walk_at "bq"))
  | ((with_reducible refine' ev_I0 ?a ?b ?r); (case a => walk_at "ev"); (case b => walk_at "ev"); (case r => exact rfl))
  | ((with_reducible refine' ev_eqS ?a ?b ?r); (case a => walk_at "ev"); (case b => walk_at "ev"); (case r => walk_at "bq"))
  | ((with_reducible refine' ev_eqI ?a ?b ?r); (case a => walk_at "ev"); (case b => walk_at "ev"); (case r => walk_at "bq"))
  | ((with_reducible refine' ev_neI ?a ?b ?r); (case a => walk_at "ev"); (case b => walk_at "ev"); (case r => walk_at "bq"))
  | ((with_reducible refine' ev_notV ?a ?r); (case a => walk_at "ev"); (case r => walk_at "bq"))
  | ((with_reducible refine' ev_chain ?a ?b ?c ?r); (case a => walk_at "ev"); (case b => walk_at "ev"); (case c => walk_at "ev"); (case r => walk_at "bq"))
  | ((with_reducible refine' ev_tup ?a ?l); (case a => walk_at "ea"); (case l => (show _ ≤ _; decide))))
local macro_rules | `(tactic| walk_at "ea") => `(tactic| first
  | with_reducible exact ea_nil
  | ((with_reducible refine' ea_cons ?a ?b); (case a => walk_at "ev"); (case b => walk_at "ea")))
local macro_rules | `(tactic| walk_at "et") => `(tactic| first
  | ((with_reducible refine' et_notI ?a ?r); (case a => walk_at "et"); (case r => walk_at "bq"))
  | ((with_reducible refine' et_is ?a); (case a => walk_at "ev"))
  | ((with_reducible refine' et_isB ?a); (case a => walk_at "ev"))
  | ((with_reducible refine' et_and ?a ?b ?c); (case a => walk_at "et"); (case b => (intro _; walk_at "et")); (case c => (intro z; first | exact z | (cases z; done) | rfl)))
  | ((with_reducible refine' et_or ?a ?b ?c); (case a => walk_at "et"); (case b => (intro _; walk_at "et")); (case c => (intro z; first | exact z | (cases z; done) | rfl))))
local macro_rules | `(tactic| walk_at "ev2") => `(tactic| first
  | walk_at "ev"
  | ((with_reducible refine' ev_inT ?a ?p ?s ?d ?f ?x ?b); (case a => walk_at "ev"); (case p => exact evv_c); (case s => assumption); (case d => exact rfl); (case f => exact rfl); (case x => exact rfl); (case b => walk_at "bq"))
  | ((with_reducible refine' ev_inU2 ?a ?p ?l ?d ?x ?f ?y ?b); (case a => walk_at "ev"); (case p => walk_at "ea"); (case l => (show _ ≤ _; decide)); (case d => exact rfl); (case x => exact rfl); (case f => exact rfl); (case y => exact rfl); (case b => walk_at "bq"))
  | ((with_reducible refine' ev_slA ?a ?l ?h ?r); (case a => walk_at "ev"); (case l => walk_at "eo"); (case h => walk_at "eo"); (case r => exact rfl)))
local macro_rules | `(tactic| walk_at "et2") => `(tactic| first
  | walk_at "et"
  | ((with_reducible refine' et_is ?a); (case a => walk_at "ev2"))
  | ((with_reducible refine' et_isB ?a); (case a => walk_at "ev2")))
local macro_rules | `(tactic| walk_at "eo") => `(tactic| first
  | with_reducible exact eo_none
  | ((with_reducible refine' eo_some ?a); (case a => walk_at "ev")))
/-! ## P. The plain law: a turned program's runs -/
def C.flip (c : C) : C := { c with tot := -c.tot, hs := c.hs.map not }
theorem rpt_flip {f g : C → C} (h : ∀ c, g c.flip = (f c).flip) : ∀ (k : Nat) (c : C), rpt k g c.flip = (rpt k f c).flip
  | 0, c => rfl
  | k + 1, c => by rw [rpt, rpt, rpt_flip h k c, h]
mutual
theorem doS_turn (a : List Int) : ∀ (s : S) (c : C), doS a (turnS s) c.flip = (doS a s c).flip
  | .set x e, c => by rw [turnS, doS, doS]; rfl
  | .pay e, c => by
    rw [turnS, doS, doS]
    show C.mk c.ρ (-c.tot + (-1) * evE c.ρ e) c.m (c.hs.map not) c.st (c.n + 1) = C.mk c.ρ (-(c.tot + evE c.ρ e)) c.m (c.hs.map not) c.st (c.n + 1)
    congr 1
    omega
  | .stop, c => by rw [turnS, doS, doS]; rfl
  | .ite t y z, c => by
    rw [turnS, doS, doS]
    have h1 := goB_turn a y c.tick
    have h2 := goB_turn a z c.tick
    show (if evT c.ρ t then goB a (turnB y) c.tick.flip else goB a (turnB z) c.tick.flip) = _
    rw [h1, h2]
    split <;> rfl
  | .ch h y z, c => by
    rw [turnS, doS, doS]
    have e : c.flip.chosen (!h) = (c.chosen h).flip := by
      show C.mk c.ρ (-c.tot) (c.m + 1) (c.hs.map not ++ [!h]) c.st (c.n + 1) = C.mk c.ρ (-c.tot) (c.m + 1) ((c.hs ++ [h]).map not) c.st (c.n + 1)
      rw [List.map_append]; rfl
    have h1 := goB_turn a y (c.chosen h)
    have h2 := goB_turn a z (c.chosen h)
    rw [e, h1, h2]
    show (if pick a c.m = 0 then _ else _) = _
    split <;> rfl
  | .rep k y, c => by
    rw [turnS, doS, doS]
    exact rpt_flip (goB_turn a y) k.toNat c.tick
theorem goB_turn (a : List Int) : ∀ (b : List S) (c : C), goB a (turnB b) c.flip = (goB a b c).flip
  | [], c => by rw [turnB, goB, goB]
  | s :: r, c => by
    rw [turnB, goB, goB]
    have h1 := doS_turn a s c
    show goB a (turnB r) (if c.st then c.flip else doS a (turnS s) c.flip) = _
    rw [h1, ← goB_turn a r]
    congr 1
    split <;> rfl
end
theorem goB_turn0 (a : List Int) (b : List S) (n : Int) : goB a (turnB b) (C0 n) = (goB a b (C0 n)).flip := goB_turn a b (C0 n)
theorem rowD_flip (a : List Int) (c : C) : rowD a c.flip = .tuple [.int (0 - c.tot), .tuple ((turnsOf a c.m).map .int), .tuple (handsD (c.hs.map not))] := by
  show PyData.tuple [.int (-c.tot), _, _] = _
  rw [show -c.tot = 0 - c.tot by omega]; rfl
theorem runsF_get (f : List Int → C) : ∀ (k : Nat) (o : Option (List Int)) (i : Nat) (d : PyData), (runsF f k o)[i]? = some d → ∃ a, d = rowD a (f a) ∧ (runsF (fun a => (f a).flip) k o)[i]? = some (rowD a (f a).flip)
  | 0, o, i, d, h => by rw [runsF] at h; cases h
  | k + 1, none, i, d, h => by
    rw [runsF] at h
    · cases h
    · intro h; cases h
  | k + 1, some a, i, d, h => by
    rw [runsF] at h
    rw [runsF]
    cases i with
    | zero => exact ⟨a, (Option.some.inj h).symm, rfl⟩
    | succ i => exact runsF_get f k _ i d h
theorem runsF_flen (f : List Int → C) : ∀ (k : Nat) (o : Option (List Int)), (runsF (fun a => (f a).flip) k o).length = (runsF f k o).length
  | 0, o => by rw [runsF, runsF]
  | k + 1, none => by
    rw [runsF, runsF]
    · intro h; cases h
    · intro h; cases h
  | k + 1, some a => by
    rw [runsF, runsF, List.length_cons, List.length_cons]
    exact congrArg (· + 1) (runsF_flen f k _)
theorem allRuns_turn (b : List S) (n : Int) : allRuns (turnB b) n = runsF (fun a => (goB a b (C0 n)).flip) 33 (some []) := by
  unfold allRuns
  congr 1
  funext a
  exact goB_turn0 a b n
theorem allRuns_get {b : List S} {n : Int} {i : Nat} {d : PyData} (h : (allRuns b n)[i]? = some d) : ∃ a, d = rowD a (goB a b (C0 n)) ∧ (allRuns (turnB b) n)[i]? = some (rowD a (goB a b (C0 n)).flip) := by
  obtain ⟨a, h1, h2⟩ := runsF_get (fun a => goB a b (C0 n)) 33 (some []) i d h
  exact ⟨a, h1, by rw [allRuns_turn]; exact h2⟩
theorem allRuns_len (b : List S) (n : Int) : (allRuns (turnB b) n).length = (allRuns b n).length := by rw [allRuns_turn]; exact runsF_flen _ 33 _
/-! counts -/
mutual
theorem num_turn (z : Str) : ∀ s : S, (turnS s).num (own z) = s.num (own z)
  | .set x e => by rw [turnS]
  | .pay e => by rw [turnS, S.num.eq_def, S.num.eq_def]; simp only [own]
  | .stop => by rw [turnS]
  | .ite t y n => by rw [turnS, S.num, S.num, numB_turn z y, numB_turn z n]; simp only [own]
  | .ch h y n => by rw [turnS, S.num, S.num, numB_turn z y, numB_turn z n]; simp only [own]
  | .rep m y => by rw [turnS, S.num, S.num, numB_turn z y]; simp only [own]
theorem numB_turn (z : Str) : ∀ b : List S, numB (own z) (turnB b) = numB (own z) b
  | [] => by rw [turnB]
  | s :: r => by rw [turnB, numB, numB, num_turn z s, numB_turn z r]
end
theorem turnS_ok {ke : Nat} : ∀ {n : Nat} {s : S}, SOk ke n s → SOk (ke + 1) n (turnS s)
  | 0, _, h => h.elim
  | n + 1, .set x e, h => by rw [turnS]; exact h
  | n + 1, .pay e, h => by rw [turnS]; exact ⟨by decide, h⟩
  | n + 1, .stop, h => by rw [turnS]; exact h
  | n + 1, .ite t y z, h => by
    rw [turnS]
    exact ⟨h.1, ⟨by rw [turnB_len]; exact h.2.1.1, fun s hs => by
      rw [turnB_map] at hs
      obtain ⟨u, hu, rfl⟩ := List.mem_map.mp hs
      exact turnS_ok (h.2.1.2 u hu)⟩, ⟨by rw [turnB_len]; exact h.2.2.1, fun s hs => by
      rw [turnB_map] at hs
      obtain ⟨u, hu, rfl⟩ := List.mem_map.mp hs
      exact turnS_ok (h.2.2.2 u hu)⟩⟩
  | n + 1, .ch c y z, h => by
    rw [turnS]
    exact ⟨⟨by rw [turnB_len]; exact h.1.1, fun s hs => by
      rw [turnB_map] at hs
      obtain ⟨u, hu, rfl⟩ := List.mem_map.mp hs
      exact turnS_ok (h.1.2 u hu)⟩, ⟨by rw [turnB_len]; exact h.2.1, fun s hs => by
      rw [turnB_map] at hs
      obtain ⟨u, hu, rfl⟩ := List.mem_map.mp hs
      exact turnS_ok (h.2.2 u hu)⟩⟩
  | n + 1, .rep m y, h => by
    rw [turnS]
    exact ⟨h.1, ⟨by rw [turnB_len]; exact h.2.1, fun s hs => by
      rw [turnB_map] at hs
      obtain ⟨u, hu, rfl⟩ := List.mem_map.mp hs
      exact turnS_ok (h.2.2 u hu)⟩⟩
theorem turnB_ok {ke n : Nat} {b : List S} (h : BOk ke n b) : BOk (ke + 1) n (turnB b) := ⟨by rw [turnB_len]; exact h.1, fun s hs => by
  rw [turnB_map] at hs
  obtain ⟨u, hu, rfl⟩ := List.mem_map.mp hs
  exact turnS_ok (h.2 u hu)⟩
theorem verdict_none {b : List S} (h : Verdict (turnB b) .none) : cost b ≤ 30 ∧ cost (turnB b) ≤ 30 ∧ numB (own "choice") b ≤ 4 ∧ numB (own "choice") (turnB b) ≤ 4 := by
  rcases h with ⟨ds, z⟩ | ⟨_, h1, h2⟩
  · cases z
  · unfold cost
    rw [numB_turn] at h1 h2
    rw [numB_turn, numB_turn]
    exact ⟨h1, h1, h2, h2⟩
end K27
namespace K27
open PySem PySem.Spec L2
open PyProof.Rows hiding St
local macro_rules | `(tactic| walk_at "td") => `(tactic| first | assumption | exact Td.int _ | exact Td.str _ | exact Td.bl _ | exact Td.non)
local macro_rules | `(tactic| walk_at "bq") => `(tactic| first | exact rfl | assumption | decide)
local macro_rules | `(tactic| walk_at "kb") => `(tactic| first | exact kii | exact ksi | exact kti | exact kib | exact kss | exact kis | exact kts | exact ktt | exact kst | exact kit)
local macro_rules | `(tactic| walk_at "ev") => `(tactic| first
  | with_reducible exact ev_int
  | with_reducible exact ev_str
  | with_reducible exact ev_bl
  | with_reducible exact ev_non
  | ((with_reducible refine' ev_var ?e ?t); (case e => exact rfl); (case t => walk_at "td"))
  | ((with_reducible refine' ev_ix ?a ?n ?z); (case a => walk_at "ev"); (case z => decide); (case n => exact rfl))
  | ((with_reducible refine' ev_isi ?a ?k); (case a => walk_at "ev"); (case k => walk_at "kb"))
  | ((with_reducible refine' ev_len ?a ?k); (case a => walk_at "ev"); (case k => exact rfl))
  | ((with_reducible refine' ev_cmpI ?a ?b ?r); (case a => walk_at "ev"); (case b => walk_at "ev"); (case r => walk_at "bq"))
  | ((with_reducible refine' ev_I0 ?a ?b ?r); (case a => walk_at "ev"); (case b => walk_at "ev"); (case r => exact rfl))
  | ((with_reducible refine' ev_eqS ?a ?b ?r); (case a => walk_at "ev"); (case b => walk_at "ev"); (case r => walk_at "bq"))
  | ((with_reducible refine' ev_eqI ?a ?b ?r); (case a => walk_at "ev"); (case b => walk_at "ev"); (case r => walk_at "bq"))
  | ((with_reducible refine' ev_neI ?a ?b ?r); (case a => walk_at "ev"); (case b => walk_at "ev"); (case r => walk_at "bq"))
  | ((with_reducible refine' ev_notV ?a ?r); (case a => walk_at "ev"); (case r => walk_at "bq"))
  | ((with_reducible refine' ev_chain ?a ?b ?c ?r); (case a => walk_at "ev"); (case b => walk_at "ev"); (case c => walk_at "ev"); (case r => walk_at "bq"))
  | ((with_reducible refine' ev_tup ?a ?l); (case a => walk_at "ea"); (case l => (show _ ≤ _; decide))))
local macro_rules | `(tactic| walk_at "ea") => `(tactic| first
  | with_reducible exact ea_nil
  | ((with_reducible refine' ea_cons ?a ?b); (case a => walk_at "ev"); (case b => walk_at "ea")))
local macro_rules | `(tactic| walk_at "et") => `(tactic| first
  | ((with_reducible refine' et_notI ?a ?r); (case a => walk_at "et"); (case r => walk_at "bq"))
  | ((with_reducible refine' et_is ?a); (case a => walk_at "ev"))
  | ((with_reducible refine' et_isB ?a); (case a => walk_at "ev"))
  | ((with_reducible refine' et_and ?a ?b ?c); (case a => walk_at "et"); (case b => (intro _; walk_at "et")); (case c => (intro z; first | exact z | (cases z; done) | rfl)))
  | ((with_reducible refine' et_or ?a ?b ?c); (case a => walk_at "et"); (case b => (intro _; walk_at "et")); (case c => (intro z; first | exact z | (cases z; done) | rfl))))
local macro_rules | `(tactic| walk_at "ev2") => `(tactic| first
  | walk_at "ev"
  | ((with_reducible refine' ev_inT ?a ?p ?s ?d ?f ?x ?b); (case a => walk_at "ev"); (case p => exact evv_c); (case s => assumption); (case d => exact rfl); (case f => exact rfl); (case x => exact rfl); (case b => walk_at "bq"))
  | ((with_reducible refine' ev_inU2 ?a ?p ?l ?d ?x ?f ?y ?b); (case a => walk_at "ev"); (case p => walk_at "ea"); (case l => (show _ ≤ _; decide)); (case d => exact rfl); (case x => exact rfl); (case f => exact rfl); (case y => exact rfl); (case b => walk_at "bq"))
  | ((with_reducible refine' ev_slA ?a ?l ?h ?r); (case a => walk_at "ev"); (case l => walk_at "eo"); (case h => walk_at "eo"); (case r => exact rfl)))
local macro_rules | `(tactic| walk_at "et2") => `(tactic| first
  | walk_at "et"
  | ((with_reducible refine' et_is ?a); (case a => walk_at "ev2"))
  | ((with_reducible refine' et_isB ?a); (case a => walk_at "ev2")))
local macro_rules | `(tactic| walk_at "eo") => `(tactic| first
  | with_reducible exact eo_none
  | ((with_reducible refine' eo_some ?a); (case a => walk_at "ev")))
/-! ### what `repr` shows: sizes -/
theorem reprChar4 {q c : Nat} (hq : q = 34 ∨ q = 39) (hc : c < 128) : (PySem.Builtin.Str.reprChar q c).length ≤ 4 := by
  have h : ∀ c < 128, (PySem.Builtin.Str.reprChar 34 c).length ≤ 4 ∧ (PySem.Builtin.Str.reprChar 39 c).length ≤ 4 := by decide +kernel
  rcases hq with e | e <;> subst e
  · exact (h c hc).1
  · exact (h c hc).2
theorem foldl_repr4 {q : Nat} (hq : q = 34 ∨ q = 39) : ∀ (l : List Nat) (acc : Array Nat), (∀ c ∈ l, c < 128) → (l.foldl (fun out c => out ++ (PySem.Builtin.Str.reprChar q c).toArray) acc).size ≤ acc.size + 4 * l.length
  | [], acc, _ => by simp
  | c :: r, acc, h => by
    have ih := foldl_repr4 hq r (acc ++ (PySem.Builtin.Str.reprChar q c).toArray) fun d hd => h d (List.mem_cons_of_mem _ hd)
    have hc := reprChar4 hq (h c (List.mem_cons_self ..))
    simp only [List.foldl_cons, List.length_cons]
    simp only [Array.size_append, List.size_toArray] at ih
    omega
theorem quote_or (x : Str) : reprQuote x = 34 ∨ reprQuote x = 39 := by
  unfold reprQuote
  split
  · exact .inl rfl
  · exact .inr rfl
theorem reprText4 {x : Str} (hx : ∀ c ∈ x.cps.toList, c < 128) : (reprText x).length ≤ 4 * x.length + 2 := by
  unfold reprText
  show ((x.cps.foldl (fun out c => out ++ (PySem.Builtin.Str.reprChar (reprQuote x) c).toArray) #[reprQuote x]).push (reprQuote x)).size ≤ _
  rw [Array.size_push, ← Array.foldl_toList]
  have h := foldl_repr4 (quote_or x) x.cps.toList #[reprQuote x] hx
  have e : x.cps.toList.length = x.length := by simp [Str.length]
  rw [e] at h
  have e1 : (#[reprQuote x] : Array Nat).size = 1 := rfl
  omega
/-- shown in at most n signs; ints not too long -/
structure Sw (d : PyData) (n : Nat) : Prop where
  len : d.shown.length ≤ n
  ok : d.showable = true
theorem Sw.le {d : PyData} {n m : Nat} (h : Sw d n) (l : n ≤ m) : Sw d m := ⟨Nat.le_trans h.len l, h.ok⟩
theorem join2_len : ∀ ts : List Str, (Str.join ", " ts).length ≤ (ts.map fun t => t.length + 2).sum
  | [] => Nat.le_refl _
  | [x] => by show x.length ≤ _; simp
  | x :: y :: r => by
    have ih := join2_len (y :: r)
    have e : Str.join ", " (x :: y :: r) = x ++ ", " ++ Str.join ", " (y :: r) := rfl
    rw [e, str_append_len, str_append_len, List.map_cons, List.sum_cons]
    have e2 : (", " : Str).length = 2 := rfl
    omega
theorem tupleText_len (ts : List Str) : (tupleText ts).length ≤ (ts.map fun t => t.length + 2).sum + 3 := by
  unfold tupleText
  rw [str_append_len, str_append_len]
  have h := join2_len ts
  have e1 : ("(" : Str).length = 1 := rfl
  have e2 : ((if ts.length == 1 then ",)" else ")" : String) : Str).length ≤ 2 := by split <;> decide
  omega
theorem Sw.tup {ds : List PyData} {ns : List Nat} (h : ds.length = ns.length) (hs : ∀ (i : Nat) (d : PyData) (n : Nat), ds[i]? = some d → ns[i]? = some n → Sw d n) : Sw (.tuple ds) ((ns.map (· + 2)).sum + 3) := by
  have key : ∀ (ds : List PyData) (ns : List Nat), ds.length = ns.length → (∀ (i : Nat) (d : PyData) (n : Nat), ds[i]? = some d → ns[i]? = some n → Sw d n) → ((PyData.shownAll ds).map fun t => t.length + 2).sum ≤ (ns.map (· + 2)).sum ∧ PyData.showableAll ds = true := by
    intro ds
    induction ds with
    | nil =>
      intro ns h _
      cases ns with
      | nil => exact ⟨by rw [PyData.shownAll]; exact Nat.le_refl _, by rw [PyData.showableAll]⟩
      | cons n r => cases h
    | cons d r ih =>
      intro ns h hs
      cases ns with
      | nil => cases h
      | cons n ns =>
        have h1 := hs 0 d n rfl rfl
        obtain ⟨h2, h3⟩ := ih ns (Nat.succ.inj h) fun i d n a b => hs (i + 1) d n a b
        rw [PyData.shownAll, PyData.showableAll, List.map_cons, List.sum_cons, List.map_cons, List.sum_cons, h1.ok, h3]
        have := h1.len
        exact ⟨by omega, rfl⟩
  obtain ⟨h1, h2⟩ := key ds ns h hs
  refine ⟨?_, by rw [PyData.showable]; exact h2⟩
  rw [PyData.shown]
  exact Nat.le_trans (tupleText_len _) (by omega)
/-- a tuple of items of one size -/
theorem Sw.all {ds : List PyData} {n k : Nat} (hl : ds.length ≤ k) (hs : ∀ d ∈ ds, Sw d n) : Sw (.tuple ds) (k * (n + 2) + 3) := by
  have h := Sw.tup (ds := ds) (ns := List.replicate ds.length n) (by rw [List.length_replicate]) fun i d m a b => by
    have := List.mem_of_getElem? b
    rw [List.mem_replicate] at this
    rw [this.2]
    exact hs d (List.mem_of_getElem? a)
  refine h.le ?_
  rw [List.map_replicate, List.sum_replicate_nat]
  have := Nat.mul_le_mul_right (n + 2) hl
  omega
theorem Sw.str {x : Str} {n : Nat} (h : x.length ≤ n) (hx : ∀ c ∈ x.cps.toList, c < 128) : Sw (.str x) (4 * n + 2) := ⟨by rw [PyData.shown]; exact Nat.le_trans (reprText4 hx) (by omega), by rw [PyData.showable]⟩
theorem Sw.name {x : Str} (h : NOk x) : Sw (.str x) 66 := Sw.str h.1 h.2
end K27
namespace K27
open PySem PySem.Spec L2
open PyProof.Rows hiding St
local macro_rules | `(tactic| walk_at "td") => `(tactic| first | assumption | exact Td.int _ | exact Td.str _ | exact Td.bl _ | exact Td.non)
local macro_rules | `(tactic| walk_at "bq") => `(tactic| first | exact rfl | assumption | decide)
local macro_rules | `(tactic| walk_at "kb") => `(tactic| first | exact kii | exact ksi | exact kti | exact kib | exact kss | exact kis | exact kts | exact ktt | exact kst | exact kit)
local macro_rules | `(tactic| walk_at "ev") => `(tactic| first
  | with_reducible exact ev_int
  | with_reducible exact ev_str
  | with_reducible exact ev_bl
  | with_reducible exact ev_non
  | ((with_reducible refine' ev_var ?e ?t); (case e => exact rfl); (case t => walk_at "td"))
  | ((with_reducible refine' ev_ix ?a ?n ?z); (case a => walk_at "ev"); (case z => decide); (case n => exact rfl))
  | ((with_reducible refine' ev_isi ?a ?k); (case a => walk_at "ev"); (case k => walk_at "kb"))
  | ((with_reducible refine' ev_len ?a ?k); (case a => walk_at "ev"); (case k => exact rfl))
  | ((with_reducible refine' ev_cmpI ?a ?b ?r); (case a => walk_at "ev"); (case b => walk_at "ev"); (case r => walk_at "bq"))
  | ((with_reducible refine' ev_I0 ?a ?b ?r); (case a => walk_at "ev"); (case b => walk_at "ev"); (case r => exact rfl))
  | ((with_reducible refine' ev_eqS ?a ?b ?r); (case a => walk_at "ev"); (case b => walk_at "ev"); (case r => walk_at "bq"))
  | ((with_reducible refine' ev_eqI ?a ?b ?r); (case a => walk_at "ev"); (case b => walk_at "ev"); (case r => walk_at "bq"))
  | ((with_reducible refine' ev_neI ?a ?b ?r); (case a => walk_at "ev"); (case b => walk_at "ev"); (case r => walk_at "bq"))
  | ((with_reducible refine' ev_notV ?a ?r); (case a => walk_at "ev"); (case r => walk_at "bq"))
  | ((with_reducible refine' ev_chain ?a ?b ?c ?r); (case a => walk_at "ev"); (case b => walk_at "ev"); (case c => walk_at "ev"); (case r => walk_at "bq"))
  | ((with_reducible refine' ev_tup ?a ?l); (case a => walk_at "ea"); (case l => (show _ ≤ _; decide))))
local macro_rules | `(tactic| walk_at "ea") => `(tactic| first
  | with_reducible exact ea_nil
  | ((with_reducible refine' ea_cons ?a ?b); (case a => walk_at "ev"); (case b => walk_at "ea")))
local macro_rules | `(tactic| walk_at "et") => `(tactic| first
  | ((with_reducible refine' et_notI ?a ?r); (case a => walk_at "et"); (case r => walk_at "bq"))
  | ((with_reducible refine' et_is ?a); (case a => walk_at "ev"))
  | ((with_reducible refine' et_isB ?a); (case a => walk_at "ev"))
  | ((with_reducible refine' et_and ?a ?b ?c); (case a => walk_at "et"); (case b => (intro _; walk_at "et")); (case c => (intro z; first | exact z | (cases z; done) | rfl)))
  | ((with_reducible refine' et_or ?a ?b ?c); (case a => walk_at "et"); (case b => (intro _; walk_at "et")); (case c => (intro z; first | exact z | (cases z; done) | rfl))))
local macro_rules | `(tactic| walk_at "ev2") => `(tactic| first
  | walk_at "ev"
  | ((with_reducible refine' ev_inT ?a ?p ?s ?d ?f ?x ?b); (case a => walk_at "ev"); (case p => exact evv_c); (case s => assumption); (case d => exact rfl); (case f => exact rfl); (case x => exact rfl); (case b => walk_at "bq"))
  | ((with_reducible refine' ev_inU2 ?a ?p ?l ?d ?x ?f ?y ?b); (case a => walk_at "ev"); (case p => walk_at "ea"); (case l => (show _ ≤ _; decide)); (case d => exact rfl); (case x => exact rfl); (case f => exact rfl); (case y => exact rfl); (case b => walk_at "bq"))
  | ((with_reducible refine' ev_slA ?a ?l ?h ?r); (case a => walk_at "ev"); (case l => walk_at "eo"); (case h => walk_at "eo"); (case r => exact rfl)))
local macro_rules | `(tactic| walk_at "et2") => `(tactic| first
  | walk_at "et"
  | ((with_reducible refine' et_is ?a); (case a => walk_at "ev2"))
  | ((with_reducible refine' et_isB ?a); (case a => walk_at "ev2")))
local macro_rules | `(tactic| walk_at "eo") => `(tactic| first
  | with_reducible exact eo_none
  | ((with_reducible refine' eo_some ?a); (case a => walk_at "ev")))
theorem Sw.small {i : Int} (h0 : -99 ≤ i) (h1 : i ≤ 99) : Sw (.int i) 3 := by
  have h : ∀ k : Nat, k < 199 → (toString (-99 + (k : Int)) : Str).length ≤ 3 ∧ (-99 + (k : Int)).natAbs.log2 < 1920 := by decide +kernel
  have hk := h (i + 99).toNat (by omega)
  have e : (-99 + ((i + 99).toNat : Int)) = i := by omega
  rw [e] at hk
  exact ⟨by rw [PyData.shown]; exact hk.1, by rw [PyData.showable]; exact decide_eq_true hk.2⟩
theorem Sw.lit {x : Str} (n : Nat) (h : (reprText x).length ≤ n) : Sw (.str x) n := ⟨by rw [PyData.shown]; exact h, by rw [PyData.showable]⟩
theorem Sw.t2 {a b : PyData} {m n : Nat} (h1 : Sw a m) (h2 : Sw b n) : Sw (.tuple [a, b]) (m + n + 7) :=
  (Sw.tup (ds := [a, b]) (ns := [m, n]) rfl fun i d k x y => by
    match i with
    | 0 => cases x; cases y; exact h1
    | 1 => cases x; cases y; exact h2
    | i + 2 => cases x).le (by show m + 2 + (n + 2 + 0) + 3 ≤ _; omega)
theorem Sw.t3 {a b c : PyData} {m n p : Nat} (h1 : Sw a m) (h2 : Sw b n) (h3 : Sw c p) : Sw (.tuple [a, b, c]) (m + n + p + 9) :=
  (Sw.tup (ds := [a, b, c]) (ns := [m, n, p]) rfl fun i d k x y => by
    match i with
    | 0 => cases x; cases y; exact h1
    | 1 => cases x; cases y; exact h2
    | 2 => cases x; cases y; exact h3
    | i + 3 => cases x).le (by show m + 2 + (n + 2 + (p + 2 + 0)) + 3 ≤ _; omega)
theorem Sw.t4 {a b c e : PyData} {m n p q : Nat} (h1 : Sw a m) (h2 : Sw b n) (h3 : Sw c p) (h4 : Sw e q) : Sw (.tuple [a, b, c, e]) (m + n + p + q + 11) :=
  (Sw.tup (ds := [a, b, c, e]) (ns := [m, n, p, q]) rfl fun i d k x y => by
    match i with
    | 0 => cases x; cases y; exact h1
    | 1 => cases x; cases y; exact h2
    | 2 => cases x; cases y; exact h3
    | 3 => cases x; cases y; exact h4
    | i + 4 => cases x).le (by show m + 2 + (n + 2 + (p + 2 + (q + 2 + 0))) + 3 ≤ _; omega)
def SE : Nat → Nat
  | 0 => 25
  | k + 1 => 2 * SE k + 16
theorem SE_ge : ∀ k, 25 ≤ SE k
  | 0 => Nat.le_refl _
  | k + 1 => by have := SE_ge k; show 25 ≤ 2 * SE k + 16; omega
theorem E.sw : ∀ {k : Nat} {e : K27.E}, EOk k e → Sw e.d (SE k)
  | 0, _, h => h.elim
  | k + 1, .name x, h => (Sw.name h).le (by have := SE_ge k; show 66 ≤ 2 * SE k + 16; omega)
  | k + 1, .int i, h => (Sw.small h.1 h.2).le (by have := SE_ge k; show 3 ≤ 2 * SE k + 16; omega)
  | k + 1, .plus a b, h => (Sw.t3 (Sw.lit 7 (by decide +kernel)) (E.sw h.1) (E.sw h.2)).le (by show _ ≤ 2 * SE k + 16; omega)
  | k + 1, .minus a b, h => (Sw.t3 (Sw.lit 7 (by decide +kernel)) (E.sw h.1) (E.sw h.2)).le (by show _ ≤ 2 * SE k + 16; omega)
  | k + 1, .times f a, h => (Sw.t3 (Sw.lit 7 (by decide +kernel)) (Sw.small (Int.le_trans (by decide) h.1.1) (Int.le_trans h.1.2 (by decide)) : Sw (.int f) 3) (E.sw h.2)).le (by have := SE_ge k; show _ ≤ 2 * SE k + 16; omega)
theorem Te.sw : ∀ {k : Nat} {t : Te}, TOk k t → Sw t.d (700 + 20 * k)
  | k, .less a b, h => by
    have h : EOk 3 a ∧ EOk 3 b := by cases k <;> exact h
    exact (Sw.t3 (Sw.lit 6 (by decide +kernel)) (E.sw h.1) (E.sw h.2)).le (by show 6 + 312 + 312 + 9 ≤ _; omega)
  | k, .rest e m r, h => by
    have h : EOk 3 e ∧ (2 ≤ m ∧ m ≤ 6) ∧ (0 ≤ r ∧ r < m) := by cases k <;> exact h
    exact (Sw.t4 (Sw.lit 6 (by decide +kernel)) (E.sw h.1) (Sw.small (i := m) (by omega) (by omega)) (Sw.small (i := r) (by omega) (by omega))).le (by show 6 + 312 + 3 + 3 + 11 ≤ _; omega)
  | 0, .not t, h => h.elim
  | k + 1, .not t, h => (Sw.t2 (Sw.lit 5 (by decide +kernel)) (Te.sw (k := k) (t := t) h)).le (by omega)
def SS : Nat → Nat
  | 0 => 0
  | n + 1 => 1400 + 2 * (4 * (SS n + 2) + 3)
theorem S.sw {ke : Nat} (hke : ke ≤ 5) : ∀ (n : Nat) (s : S), SOk ke n s → s.slim → Sw s.d (SS n)
  | 0, _, h, _ => h.elim
  | n + 1, s, h, hz => by
    have hb : ∀ b : List S, (∀ s ∈ b, SOk ke n s) → b.length ≤ 4 ∧ slimL b → Sw (.tuple (bds b)) (4 * (SS n + 2) + 3) := fun b hb hs => Sw.all (by rw [bds_len]; exact hs.1) fun d hd => by
      rw [bds_map] at hd
      obtain ⟨s, hs2, rfl⟩ := List.mem_map.mp hd
      exact S.sw hke n s (hb s hs2) (of_slimL hs.2 s hs2)
    have eS : SS (n + 1) = 1400 + 2 * (4 * (SS n + 2) + 3) := rfl
    rw [eS]
    cases s with
    | set x e => rw [S.d]; exact (Sw.t3 (Sw.lit 5 (by decide +kernel)) (Sw.name h.1) (E.sw h.2)).le (by show 5 + 66 + 312 + 9 ≤ _; omega)
    | pay e =>
      rw [S.d]
      have hm : ∀ j, j ≤ 5 → SE j ≤ 1296 := by decide
      have := hm ke hke
      exact (Sw.t2 (Sw.lit 5 (by decide +kernel)) (E.sw h)).le (by omega)
    | stop => rw [S.d]; exact ⟨Nat.le_trans (show _ ≤ 9 by decide +kernel) (by omega), by decide +kernel⟩
    | ite t y z =>
      rw [S.slim] at hz
      rw [S.d]
      exact (Sw.t4 (Sw.lit 4 (by decide +kernel)) (Te.sw h.1) (hb y h.2.1.2 hz.1) (hb z h.2.2.2 hz.2)).le (by omega)
    | ch c y z =>
      rw [S.slim] at hz
      rw [S.d]
      exact (Sw.t3 (Sw.lit (x := hand c) 6 (by cases c <;> decide +kernel)) (hb y h.1.2 hz.1) (hb z h.2.2 hz.2)).le (by omega)
    | rep m y =>
      rw [S.slim] at hz
      rw [S.d]
      exact (Sw.t3 (Sw.lit 8 (by decide +kernel)) (Sw.small (i := m) (Int.le_trans (by decide) h.1.1) (Int.le_trans h.1.2 (by decide))) (hb y h.2.2 hz)).le (by omega)
/-- a whole program, once or twice turned -/
def Pg (ke : Nat) (b : List S) : Prop := BOk ke 4 b ∧ b.length ≤ 17 ∧ slimL b
theorem Pg.sw {ke : Nat} {b : List S} (hke : ke ≤ 5) (h : Pg ke b) : Sw (blk b) 16777000 :=
  (Sw.all (k := 17) (n := SS 4) (by rw [bds_len]; exact h.2.1) fun d hd => by
    rw [bds_map] at hd
    obtain ⟨s, hs2, rfl⟩ := List.mem_map.mp hd
    exact S.sw hke 4 s (h.1.2 s hs2) (of_slimL h.2.2 s hs2)).le (by decide)
mutual
theorem turnS_slim : ∀ s : S, s.slim → (turnS s).slim
  | .set x e, h => by rw [turnS]; exact h
  | .pay e, h => by rw [turnS]; exact slim_pay
  | .stop, h => by rw [turnS]; exact h
  | .ite t y z, h => by
    rw [S.slim] at h
    rw [turnS, S.slim, turnB_len, turnB_len]
    exact ⟨⟨h.1.1, turnB_slim y h.1.2⟩, ⟨h.2.1, turnB_slim z h.2.2⟩⟩
  | .ch c y z, h => by
    rw [S.slim] at h
    rw [turnS, S.slim, turnB_len, turnB_len]
    exact ⟨⟨h.1.1, turnB_slim y h.1.2⟩, ⟨h.2.1, turnB_slim z h.2.2⟩⟩
  | .rep m y, h => by
    rw [S.slim] at h
    rw [turnS, S.slim, turnB_len]
    exact ⟨h.1, turnB_slim y h.2⟩
theorem turnB_slim : ∀ b : List S, slimL b → slimL (turnB b)
  | [], h => by rw [turnB]; exact h
  | s :: r, h => by
    rw [slimL] at h
    rw [turnB, slimL]
    exact ⟨turnS_slim s h.1, turnB_slim r h.2⟩
end
mutual
theorem shS_slim : ∀ s : S, s.slim → (shS s).slim
  | .set x e, h => by rw [shS]; exact h
  | .pay e, h => by rw [shS]; exact slim_pay
  | .stop, h => by rw [shS]; exact h
  | .ite t y z, h => by
    rw [S.slim] at h
    rw [shS, S.slim, shB_len, shB_len]
    exact ⟨⟨h.1.1, shB_slim y h.1.2⟩, ⟨h.2.1, shB_slim z h.2.2⟩⟩
  | .ch c y z, h => by
    rw [S.slim] at h
    rw [shS, S.slim, shB_len, shB_len]
    exact ⟨⟨h.1.1, shB_slim y h.1.2⟩, ⟨h.2.1, shB_slim z h.2.2⟩⟩
  | .rep m y, h => by
    rw [S.slim] at h
    rw [shS, S.slim, shB_len]
    exact ⟨h.1, shB_slim y h.2⟩
theorem shB_slim : ∀ b : List S, slimL b → slimL (shB b)
  | [], h => by rw [shB]; exact h
  | s :: r, h => by
    rw [slimL] at h
    rw [shB, slimL]
    exact ⟨shS_slim s h.1, shB_slim r h.2⟩
end
theorem Pg.turn {ke : Nat} {b : List S} (h : Pg ke b) : Pg (ke + 1) (turnB b) := ⟨turnB_ok h.1, by rw [turnB_len]; exact h.2.1, turnB_slim b h.2.2⟩
theorem Pg.shallow {ke : Nat} {b : List S} (h : Pg ke b) : Pg ke (shB b) := ⟨shB_ok h.1, by rw [shB_len]; exact h.2.1, shB_slim b h.2.2⟩
theorem Pg.rev {ke : Nat} {b : List S} (h : Pg ke b) : Pg ke b.reverse := ⟨⟨by rw [List.length_reverse]; exact h.1.1, fun s hs => h.1.2 s (List.mem_reverse.mp hs)⟩, by rw [List.length_reverse]; exact h.2.1, slimL_of fun s hs => of_slimL h.2.2 s (List.mem_reverse.mp hs)⟩
end K27
namespace K27
open PySem PySem.Spec L2
open PyProof.Rows hiding St
local macro_rules | `(tactic| walk_at "td") => `(tactic| first | assumption | exact Td.int _ | exact Td.str _ | exact Td.bl _ | exact Td.non)
local macro_rules | `(tactic| walk_at "bq") => `(tactic| first | exact rfl | assumption | decide)
local macro_rules | `(tactic| walk_at "kb") => `(tactic| first | exact kii | exact ksi | exact kti | exact kib | exact kss | exact kis | exact kts | exact ktt | exact kst | exact kit)
local macro_rules | `(tactic| walk_at "ev") => `(tactic| first
  | with_reducible exact ev_int
  | with_reducible exact ev_str
  | with_reducible exact ev_bl
  | with_reducible exact ev_non
  | ((with_reducible refine' ev_var ?e ?t); (case e => exact rfl); (case t => walk_at "td"))
  | ((with_reducible refine' ev_ix ?a ?n ?z); (case a => walk_at "ev"); (case z => decide); (case n => exact rfl))
  | ((with_reducible refine' ev_isi ?a ?k); (case a => walk_at "ev"); (case k => walk_at "kb"))
  | ((with_reducible refine' ev_len ?a ?k); (case a => walk_at "ev"); (case k => exact rfl))
  | ((with_reducible refine' ev_cmpI ?a ?b ?r); (case a => walk_at "ev"); (case b => walk_at "ev"); (case r => walk_at "bq"))
  | ((with_reducible refine' ev_I0 ?a ?b ?r); (case a => walk_at "ev"); (case b => walk_at "ev"); (case r => exact rfl))
  | ((with_reducible refine' ev_eqS ?a ?b ?r); (case a => walk_at "ev"); (case b => walk_at "ev"); (case r => walk_at "bq"))
  | ((with_reducible refine' ev_eqI ?a ?b ?r); (case a => walk_at "ev"); (case b => walk_at "ev"); (case r => walk_at "bq"))
  | ((with_reducible refine' ev_neI ?a ?b ?r); (case a => walk_at "ev"); (case b => walk_at "ev"); (case r => walk_at "bq"))
  | ((with_reducible refine' ev_notV ?a ?r); (case a => walk_at "ev"); (case r => walk_at "bq"))
  | ((with_reducible refine' ev_chain ?a ?b ?c ?r); (case a => walk_at "ev"); (case b => walk_at "ev"); (case c => walk_at "ev"); (case r => walk_at "bq"))
  | ((with_reducible refine' ev_tup ?a ?l); (case a => walk_at "ea"); (case l => (show _ ≤ _; decide))))
local macro_rules | `(tactic| walk_at "ea") => `(tactic| first
  | with_reducible exact ea_nil
  | ((with_reducible refine' ea_cons ?a ?b); (case a => walk_at "ev"); (case b => walk_at "ea")))
local macro_rules | `(tactic| walk_at "et") => `(tactic| first
  | ((with_reducible refine' et_notI ?a ?r); (case a => walk_at "et"); (case r => walk_at "bq"))
  | ((with_reducible refine' et_is ?a); (case a => walk_at "ev"))
  | ((with_reducible refine' et_isB ?a); (case a => walk_at "ev"))
  | ((with_reducible refine' et_and ?a ?b ?c); (case a => walk_at "et"); (case b => (intro _; walk_at "et")); (case c => (intro z; first | exact z | (cases z; done) | rfl)))
  | ((with_reducible refine' et_or ?a ?b ?c); (case a => walk_at "et"); (case b => (intro _; walk_at "et")); (case c => (intro z; first | exact z | (cases z; done) | rfl))))
local macro_rules | `(tactic| walk_at "ev2") => `(tactic| first
  | walk_at "ev"
  | ((with_reducible refine' ev_inT ?a ?p ?s ?d ?f ?x ?b); (case a => walk_at "ev"); (case p => exact evv_c); (case s => assumption); (case d => exact rfl); (case f => exact rfl); (case x => exact rfl); (case b => walk_at "bq"))
  | ((with_reducible refine' ev_inU2 ?a ?p ?l ?d ?x ?f ?y ?b); (case a => walk_at "ev"); (case p => walk_at "ea"); (case l => (show _ ≤ _; decide)); (case d => exact rfl); (case x => exact rfl); (case f => exact rfl); (case y => exact rfl); (case b => walk_at "bq"))
  | ((with_reducible refine' ev_slA ?a ?l ?h ?r); (case a => walk_at "ev"); (case l => walk_at "eo"); (case h => walk_at "eo"); (case r => exact rfl)))
local macro_rules | `(tactic| walk_at "et2") => `(tactic| first
  | walk_at "et"
  | ((with_reducible refine' et_is ?a); (case a => walk_at "ev2"))
  | ((with_reducible refine' et_isB ?a); (case a => walk_at "ev2")))
local macro_rules | `(tactic| walk_at "eo") => `(tactic| first
  | with_reducible exact eo_none
  | ((with_reducible refine' eo_some ?a); (case a => walk_at "ev")))
/-! ### how large the totals grow -/
theorem pow9 (k V : Nat) : 9 ^ (k + 1) * V = 9 * (9 ^ k * V) := by rw [Nat.pow_succ, Nat.mul_comm (9 ^ k) 9, Nat.mul_assoc]
theorem evE_le {ρ : Nm} {V : Nat} (hV : 99 ≤ V) (hρ : ∀ x, ((ρ x).getD 0).natAbs ≤ V) : ∀ {k : Nat} {e : K27.E}, EOk k e → (evE ρ e).natAbs ≤ 9 ^ k * V
  | 0, _, h => h.elim
  | k + 1, .name x, h => Nat.le_trans (hρ x) (Nat.le_mul_of_pos_left _ (Nat.pow_pos (by decide)))
  | k + 1, .int i, h => Nat.le_trans (show i.natAbs ≤ V by
      have h : -99 ≤ i ∧ i ≤ 99 := h
      omega) (Nat.le_mul_of_pos_left _ (Nat.pow_pos (by decide)))
  | k + 1, .plus a b, h => by
    have h1 := evE_le hV hρ (k := k) (e := a) h.1
    have h2 := evE_le hV hρ (k := k) (e := b) h.2
    rw [pow9, evE]
    omega
  | k + 1, .minus a b, h => by
    have h1 := evE_le hV hρ (k := k) (e := a) h.1
    have h2 := evE_le hV hρ (k := k) (e := b) h.2
    rw [pow9, evE]
    omega
  | k + 1, .times f a, h => by
    have h1 := evE_le hV hρ (k := k) (e := a) h.2
    have h2 : f.natAbs ≤ 9 := by
      have h := h.1
      omega
    rw [pow9, evE, Int.natAbs_mul]
    exact Nat.mul_le_mul h2 h1
def VB : Nat → Nat
  | 0 => 2 ^ 200
  | n + 1 => 1024 * VB n
theorem VB_ge : ∀ n, 99 ≤ VB n
  | 0 => by decide
  | n + 1 => by have := VB_ge n; show 99 ≤ 1024 * VB n; omega
theorem VB_le {m n : Nat} (h : m ≤ n) : VB m ≤ VB n := by
  induction h with
  | refl => exact Nat.le_refl _
  | step _ ih => exact Nat.le_trans ih (by show VB _ ≤ 1024 * VB _; omega)
structure Bnd (c : C) : Prop where
  env : ∀ x, ((c.ρ x).getD 0).natAbs ≤ VB c.n
  tot : c.tot.natAbs ≤ 131072 * VB c.n
  hs : c.hs.length = c.m
theorem Bnd.tick {c : C} (h : Bnd c) : Bnd c.tick := ⟨fun x => Nat.le_trans (h.env x) (by show VB c.n ≤ 1024 * VB c.n; omega), Nat.le_trans h.tot (by show _ ≤ 131072 * (1024 * VB c.n); omega), h.hs⟩
theorem Bnd.chosen {c : C} (h : Bnd c) (b : Bool) : Bnd (c.chosen b) := ⟨h.tick.env, h.tick.tot, by show (c.hs ++ [b]).length = c.m + 1; rw [List.length_append, h.hs]; rfl⟩
theorem goB_bnd {a : List Int} {ke n : Nat} (hd : ∀ s, SOk ke n s → ∀ c, Bnd c → Bnd (doS a s c)) : ∀ (b : List S), (∀ s ∈ b, SOk ke n s) → ∀ c, Bnd c → Bnd (goB a b c)
  | [], _, c, h => by rw [goB]; exact h
  | s :: r, hb, c, h => by
    rw [goB]
    refine goB_bnd hd r (fun s hs => hb s (List.mem_cons_of_mem _ hs)) _ ?_
    split
    · exact h
    · exact hd s (hb s List.mem_cons_self) c h
theorem rpt_bnd {f : C → C} (hf : ∀ c, Bnd c → Bnd (f c)) : ∀ (k : Nat) (c : C), Bnd c → Bnd (rpt k f c)
  | 0, c, h => h
  | k + 1, c, h => by rw [rpt]; exact hf _ (rpt_bnd hf k c h)
theorem doS_bnd {a : List Int} {ke : Nat} (hke : ke ≤ 5) : ∀ (n : Nat) (s : S), SOk ke n s → ∀ c, Bnd c → Bnd (doS a s c)
  | 0, _, h, _, _ => h.elim
  | n + 1, s, h, c, hc => by
    have hV := VB_ge c.n
    cases s with
    | set x e =>
      rw [doS]
      have he := evE_le hV hc.env h.2
      refine ⟨fun y => ?_, Nat.le_trans hc.tot (by show _ ≤ 131072 * (1024 * VB c.n); omega), hc.hs⟩
      show ((if y = x then some (evE c.ρ e) else c.ρ y).getD 0).natAbs ≤ 1024 * VB c.n
      split
      · show (evE c.ρ e).natAbs ≤ _
        have e3 : 9 ^ 3 = 729 := rfl
        rw [e3] at he
        omega
      · have := hc.env y
        omega
    | pay e =>
      rw [doS]
      have he : (evE c.ρ e).natAbs ≤ 59049 * VB c.n := by
        have h1 := evE_le hV hc.env (show EOk ke e from h)
        have h2 : 9 ^ ke ≤ 9 ^ 5 := Nat.pow_le_pow_right (by decide) hke
        exact Nat.le_trans h1 (Nat.mul_le_mul_right _ h2)
      refine ⟨fun y => Nat.le_trans (hc.env y) (by show VB c.n ≤ 1024 * VB c.n; omega), ?_, hc.hs⟩
      show (c.tot + evE c.ρ e).natAbs ≤ 131072 * (1024 * VB c.n)
      have := hc.tot
      omega
    | stop => rw [doS]; exact ⟨hc.tick.env, hc.tick.tot, hc.hs⟩
    | ite t y z =>
      rw [doS]
      split
      · exact goB_bnd (doS_bnd hke n) y h.2.1.2 _ hc.tick
      · exact goB_bnd (doS_bnd hke n) z h.2.2.2 _ hc.tick
    | ch b y z =>
      rw [doS]
      split
      · exact goB_bnd (doS_bnd hke n) y h.1.2 _ (hc.chosen b)
      · exact goB_bnd (doS_bnd hke n) z h.2.2 _ (hc.chosen b)
    | rep k y =>
      rw [doS]
      exact rpt_bnd (goB_bnd (doS_bnd hke n) y h.2.2) _ _ hc.tick
theorem C0_bnd {n : Int} (h : NumOk n) : Bnd (C0 n) := by
  refine ⟨fun x => ?_, Nat.zero_le _, rfl⟩
  show ((if x = "n" then some n else none).getD 0).natAbs ≤ 2 ^ 200
  obtain ⟨h1, h2⟩ := h
  split
  · show n.natAbs ≤ _
    omega
  · exact Nat.zero_le _
/-- what a run leaves -/
theorem run_bnd {a : List Int} {b : List S} {ke : Nat} {n : Int} (hb : BOk ke 4 b) (hke : ke ≤ 5) (hn : NumOk n) (hc : cost b ≤ 30) : (goB a b (C0 n)).tot.natAbs < 2 ^ 520 ∧ (goB a b (C0 n)).hs.length = (goB a b (C0 n)).m := by
  have h := goB_bnd (doS_bnd hke 4) b hb.2 _ (C0_bnd hn) (a := a)
  have h1 := goB_n (a := a) hb.2 (C0 n)
  have hn : (goB a b (C0 n)).n ≤ 30 := by
    have e : ((C0 n).n : Int) = 0 := rfl
    unfold cost at hc
    omega
  have h2 := VB_le hn
  have e30 : VB 30 = 2 ^ 500 := by decide +kernel
  rw [e30] at h2
  refine ⟨?_, h.hs⟩
  have := h.tot
  omega
theorem Sw.int {i : Int} {k : Nat} (hk : 0 < k) (hk2 : k ≤ 1920) (h : i.natAbs < 2 ^ k) : Sw (.int i) (k + 1) := by
  have h2 : i.natAbs.log2 < k := by
    by_cases h0 : i.natAbs = 0
    · rw [h0]; exact hk
    · exact (Nat.log2_lt h0).mpr h
  refine ⟨?_, by rw [PyData.showable]; exact decide_eq_true (by omega)⟩
  rw [PyData.shown]
  have := int_text_length_le hk h2
  rw [PySem.ofString_length]
  exact this
/-- a row of a run is shown shortly -/
theorem rowD_sw {a : List Int} {c : C} (ht : c.tot.natAbs < 2 ^ 520) (hh : c.hs.length = c.m) (hm : c.m ≤ 1000) (ha : ∀ x ∈ a, x = 0 ∨ x = 1) : Sw (rowD a c) 20000 := by
  have h1 : Sw (.tuple ((turnsOf a c.m).map .int)) (1000 * (3 + 2) + 3) := Sw.all (by unfold turnsOf; rw [List.length_map, List.length_map, List.length_range]; exact hm) fun d hd => by
    obtain ⟨x, hx, rfl⟩ := List.mem_map.mp hd
    unfold turnsOf at hx
    obtain ⟨i, _, rfl⟩ := List.mem_map.mp hx
    have hp : pick a i = 0 ∨ pick a i = 1 := by
      unfold pick
      cases h : a[i]? with
      | none => exact .inl rfl
      | some y => exact ha y (List.mem_of_getElem? h)
    exact Sw.small (by omega) (by omega)
  have h2 : Sw (.tuple (handsD c.hs)) (1000 * (6 + 2) + 3) := Sw.all (by unfold handsD; rw [List.length_map, hh]; exact hm) fun d hd => by
    unfold handsD at hd
    obtain ⟨h, _, rfl⟩ := List.mem_map.mp hd
    exact Sw.lit 6 (by cases h <;> decide +kernel)
  exact (Sw.t3 (Sw.int (k := 520) (by decide) (by decide) ht) h1 h2).le (by decide)
theorem Sw.lst {ds : List PyData} {n k : Nat} (hl : ds.length ≤ k) (hs : ∀ d ∈ ds, Sw d n) : Sw (.list ds) (k * (n + 2) + 3) := by
  have h := Sw.all hl hs
  refine ⟨?_, by have := h.ok; rw [PyData.showable] at this; rw [PyData.showable]; exact this⟩
  rw [PyData.shown]
  have key : ∀ (ts : List Str) (j : Nat) (acc : Str), (∀ t ∈ ts, t.length ≤ n) → (textFrom j acc ts).length ≤ acc.length + ts.length * (n + 2) := by
    intro ts
    induction ts with
    | nil => intro j acc _; exact Nat.le_add_right _ _
    | cons t r ih =>
      intro j acc ht
      have h1 := ih (j + 1) (acc ++ (if j > 0 then ", " else "" : String) ++ t) fun x hx => ht x (List.mem_cons_of_mem _ hx)
      have h2 := ht t List.mem_cons_self
      rw [str_append_len, str_append_len] at h1
      have h3 : ((if j > 0 then ", " else "" : String) : Str).length ≤ 2 := by split <;> decide
      have e : (r.length + 1) * (n + 2) = r.length * (n + 2) + (n + 2) := Nat.succ_mul _ _
      show (textFrom (j + 1) (acc ++ (if j > 0 then ", " else "" : String) ++ t) r).length ≤ _
      rw [List.length_cons, e]
      omega
  have hl2 : ∀ ds : List PyData, (∀ d ∈ ds, Sw d n) → (PyData.shownAll ds).length = ds.length ∧ ∀ t ∈ PyData.shownAll ds, t.length ≤ n := by
    intro ds
    induction ds with
    | nil => intro _; rw [PyData.shownAll]; exact ⟨rfl, fun t h => nomatch h⟩
    | cons d r ih =>
      intro hs
      obtain ⟨h1, h2⟩ := ih fun x hx => hs x (List.mem_cons_of_mem _ hx)
      rw [PyData.shownAll]
      exact ⟨by rw [List.length_cons, List.length_cons, h1], fun t ht => (List.mem_cons.mp ht).elim (fun e => by rw [e]; exact (hs d List.mem_cons_self).len) (h2 t)⟩
  obtain ⟨h1, h2⟩ := hl2 ds hs
  unfold listText
  rw [str_append_len]
  have h3 := key (PyData.shownAll ds) 0 "[" h2
  rw [h1] at h3
  have e1 : ("[" : Str).length = 1 := rfl
  have e2 : ("]" : Str).length = 1 := rfl
  have := Nat.mul_le_mul_right (n + 2) hl
  omega
end K27
namespace K27
open PySem PySem.Spec L2
open PyProof.Rows hiding St
local macro_rules | `(tactic| walk_at "td") => `(tactic| first | assumption | exact Td.int _ | exact Td.str _ | exact Td.bl _ | exact Td.non)
local macro_rules | `(tactic| walk_at "bq") => `(tactic| first | exact rfl | assumption | decide)
local macro_rules | `(tactic| walk_at "kb") => `(tactic| first | exact kii | exact ksi | exact kti | exact kib | exact kss | exact kis | exact kts | exact ktt | exact kst | exact kit)
local macro_rules | `(tactic| walk_at "ev") => `(tactic| first
  | with_reducible exact ev_int
  | with_reducible exact ev_str
  | with_reducible exact ev_bl
  | with_reducible exact ev_non
  | ((with_reducible refine' ev_var ?e ?t); (case e => exact rfl); (case t => walk_at "td"))
  | ((with_reducible refine' ev_ix ?a ?n ?z); (case a => walk_at "ev"); (case z => decide); (case n => exact rfl))
  | ((with_reducible refine' ev_isi ?a ?k); (case a => walk_at "ev"); (case k => walk_at "kb"))
  | ((with_reducible refine' ev_len ?a ?k); (case a => walk_at "ev"); (case k => exact rfl))
  | ((with_reducible refine' ev_cmpI ?a ?b ?r); (case a => walk_at "ev"); (case b => walk_at "ev"); (case r => walk_at "bq"))
  | ((with_reducible refine' ev_I0 ?a ?b ?r); (case a => walk_at "ev"); (case b => walk_at "ev"); (case r => exact rfl))
  | ((with_reducible refine' ev_eqS ?a ?b ?r); (case a => walk_at "ev"); (case b => walk_at "ev"); (case r => walk_at "bq"))
  | ((with_reducible refine' ev_eqI ?a ?b ?r); (case a => walk_at "ev"); (case b => walk_at "ev"); (case r => walk_at "bq"))
  | ((with_reducible refine' ev_neI ?a ?b ?r); (case a => walk_at "ev"); (case b => walk_at "ev"); (case r => walk_at "bq"))
  | ((with_reducible refine' ev_notV ?a ?r); (case a => walk_at "ev"); (case r => walk_at "bq"))
  | ((with_reducible refine' ev_chain ?a ?b ?c ?r); (case a => walk_at "ev"); (case b => walk_at "ev"); (case c => walk_at "ev"); (case r => walk_at "bq"))
  | ((with_reducible refine' ev_tup ?a ?l); (case a => walk_at "ea"); (case l => (show _ ≤ _; decide))))
local macro_rules | `(tactic| walk_at "ea") => `(tactic| first
  | with_reducible exact ea_nil
  | ((with_reducible refine' ea_cons ?a ?b); (case a => walk_at "ev"); (case b => walk_at "ea")))
local macro_rules | `(tactic| walk_at "et") => `(tactic| first
  | ((with_reducible refine' et_notI ?a ?r); (case a => walk_at "et"); (case r => walk_at "bq"))
  | ((with_reducible refine' et_is ?a); (case a => walk_at "ev"))
  | ((with_reducible refine' et_isB ?a); (case a => walk_at "ev"))
  | ((with_reducible refine' et_and ?a ?b ?c); (case a => walk_at "et"); (case b => (intro _; walk_at "et")); (case c => (intro z; first | exact z | (cases z; done) | rfl)))
  | ((with_reducible refine' et_or ?a ?b ?c); (case a => walk_at "et"); (case b => (intro _; walk_at "et")); (case c => (intro z; first | exact z | (cases z; done) | rfl))))
local macro_rules | `(tactic| walk_at "ev2") => `(tactic| first
  | walk_at "ev"
  | ((with_reducible refine' ev_inT ?a ?p ?s ?d ?f ?x ?b); (case a => walk_at "ev"); (case p => exact evv_c); (case s => assumption); (case d => exact rfl); (case f => exact rfl); (case x => exact rfl); (case b => walk_at "bq"))
  | ((with_reducible refine' ev_inU2 ?a ?p ?l ?d ?x ?f ?y ?b); (case a => walk_at "ev"); (case p => walk_at "ea"); (case l => (show _ ≤ _; decide)); (case d => exact rfl); (case x => exact rfl); (case f => exact rfl); (case y => exact rfl); (case b => walk_at "bq"))
  | ((with_reducible refine' ev_slA ?a ?l ?h ?r); (case a => walk_at "ev"); (case l => walk_at "eo"); (case h => walk_at "eo"); (case r => exact rfl)))
local macro_rules | `(tactic| walk_at "et2") => `(tactic| first
  | walk_at "et"
  | ((with_reducible refine' et_is ?a); (case a => walk_at "ev2"))
  | ((with_reducible refine' et_isB ?a); (case a => walk_at "ev2")))
local macro_rules | `(tactic| walk_at "eo") => `(tactic| first
  | with_reducible exact eo_none
  | ((with_reducible refine' eo_some ?a); (case a => walk_at "ev")))
/-! ### repr of nested data -/
abbrev rRepr (K : PySem.W.Frag) : List V → Hp → VK → Prop := fun xs H Q => ∃ a d, xs = [.ref a] ∧ Dp K H (.ref a) d ∧ d.showable = true ∧ d.hasDict = false ∧ d.depth ≤ 90 ∧ d.shown.length ≤ sizeLine ∧ Q (.str d.shown) H
theorem call_reprD {X : Cx} (hg : X.A.guards = some []) (hu : X.A.units + 200 < cLine) : CallR X (.builtin "repr") (rRepr X.K) := by
  intro pins s σ H xs us Q I r h
  obtain ⟨a, d, rfl, dp, hs, hd, hdp, hz, q⟩ := h
  obtain ⟨u, rfl, ru⟩ := vals1 r
  obtain ⟨as, rd⟩ := Dp.reads I d _ _ dp ru
  cases ru
  exact repr_of_reads' rd hs (PyData.noDict_hsm hd) hg (by omega) (fun b o e => e) (fun h' u tk hk => ⟨.str d.shown, H, I.kept hk, ⟨_, rfl⟩, q⟩) hz
/-- what repr takes -/
structure Rp (d : PyData) : Prop where
  sw : Sw d sizeLine
  sh : Sh d 64
section
variable {K : PySem.W.Frag} {σ : St} {H : Hp} {ta : TE}
theorem Rp.noDict {d : PyData} (h : Rp d) : d.hasDict = false := PyData.hasDict_of_canLay d h.sh.1
/-- repr of a tuple -/
theorem ev_reprT {ds : List PyData} (ha : EvD ta σ H (.tuple ds)) (h : Rp (.tuple ds)) : EvD (tCB (rRepr K) (tCons ta tNil)) σ H (.str (PyData.tuple ds).shown) := fun H1 g Q q =>
  ha H1 g _ fun v z H2 ez g2 tz => by
    subst ez
    obtain ⟨a, xs, rfl, hx, ts⟩ := tz.tup_inv
    exact ⟨a, _, rfl, (Td.tup hx ts).dp, h.sw.ok, h.noDict, Nat.le_trans h.sh.2 (by decide), h.sw.len, q _ _ H2 rfl g2 (.str _)⟩
/-- repr of a new list -/
theorem ev_reprL {P : List PyData → Prop} (ha : EvL ta σ H P) (h : ∀ ds, P ds → Rp (.list ds)) : EvP (tCB (rRepr K) (tCons ta tNil)) σ H (fun z => ∃ ds, P ds ∧ z = .str (PyData.list ds).shown) := fun H1 g Q q =>
  ha H1 g _ fun p vs ds H2 pd hp g2 hx ts => by
    have h := h ds pd
    exact ⟨p, _, rfl, .lst (SqL.of hx) ts.dp, h.sw.ok, h.noDict, Nat.le_trans h.sh.2 (by decide), h.sw.len, q _ _ H2 ⟨ds, pd, rfl⟩ g2 (.str _)⟩
/-- repr of a list by its name -/
theorem ev_reprV {p : Addr} {vs : List V} {ds : List PyData} (ha : EvV ta σ H (.ref p)) (hx : H p = some (.lst vs)) (ts : TdA H vs ds) (h : Rp (.list ds)) : EvD (tCB (rRepr K) (tCons ta tNil)) σ H (.str (PyData.list ds).shown) := fun H1 g Q q =>
  ha H1 g _ fun H2 g2 => by
    have g12 := g.trans g2
    exact ⟨p, _, rfl, .lst (SqL.of (g12.get hx)) (ts.mono g12.tup).dp, h.sw.ok, h.noDict, Nat.le_trans h.sh.2 (by decide), h.sw.len, q _ _ H2 rfl g2 (.str _)⟩
end
theorem Pg.rp {ke : Nat} {b : List S} (hke : ke ≤ 5) (h : Pg ke b) : Rp (blk b) := ⟨(h.sw hke).le (by decide), (Sh.tup (n := 2 * 4 + ke + 8) fun d hd => by
  rw [bds_map] at hd
  obtain ⟨s, hs, rfl⟩ := List.mem_map.mp hd
  exact S.sh ke 4 s (h.1.2 s hs)).le (by omega)⟩
theorem rowD_sh (a : List Int) (c : C) : Sh (rowD a c) 2 := Sh.tup (n := 1) fun d hd => by
  simp only [List.mem_cons, List.not_mem_nil, or_false] at hd
  rcases hd with e | e | e <;> subst e
  · exact Sh.int _ _
  · exact Sh.tup (n := 0) fun d hd => by
      obtain ⟨x, _, rfl⟩ := List.mem_map.mp hd
      exact Sh.int _ _
  · exact Sh.tup (n := 0) fun d hd => by
      unfold handsD at hd
      obtain ⟨x, _, rfl⟩ := List.mem_map.mp hd
      exact Sh.str (hand_ok x) _
end K27
namespace K27
open PySem PySem.Spec L2
open PyProof.Rows hiding St
local macro_rules | `(tactic| walk_at "td") => `(tactic| first | assumption | exact Td.int _ | exact Td.str _ | exact Td.bl _ | exact Td.non)
local macro_rules | `(tactic| walk_at "bq") => `(tactic| first | exact rfl | assumption | decide)
local macro_rules | `(tactic| walk_at "kb") => `(tactic| first | exact kii | exact ksi | exact kti | exact kib | exact kss | exact kis | exact kts | exact ktt | exact kst | exact kit)
local macro_rules | `(tactic| walk_at "ev") => `(tactic| first
  | with_reducible exact ev_int
  | with_reducible exact ev_str
  | with_reducible exact ev_bl
  | with_reducible exact ev_non
  | ((with_reducible refine' ev_var ?e ?t); (case e => exact rfl); (case t => walk_at "td"))
  | ((with_reducible refine' ev_ix ?a ?n ?z); (case a => walk_at "ev"); (case z => decide); (case n => exact rfl))
  | ((with_reducible refine' ev_isi ?a ?k); (case a => walk_at "ev"); (case k => walk_at "kb"))
  | ((with_reducible refine' ev_len ?a ?k); (case a => walk_at "ev"); (case k => exact rfl))
  | ((with_reducible refine' ev_cmpI ?a ?b ?r); (case a => walk_at "ev"); (case b => walk_at "ev"); (case r => walk_at "bq"))
  | ((with_reducible refine' ev_I0 ?a ?b ?r); (case a => walk_at "ev"); (case b => walk_at "ev"); (case r => exact rfl))
  | ((with_reducible refine' ev_eqS ?a ?b ?r); (case a => walk_at "ev"); (case b => walk_at "ev"); (case r => walk_at "bq"))
  | ((with_reducible refine' ev_eqI ?a ?b ?r); (case a => walk_at "ev"); (case b => walk_at "ev"); (case r => walk_at "bq"))
  | ((with_reducible refine' ev_neI ?a ?b ?r); (case a => walk_at "ev"); (case b => walk_at "ev"); (case r => walk_at "bq"))
  | ((with_reducible refine' ev_notV ?a ?r); (case a => walk_at "ev"); (case r => walk_at "bq"))
  | ((with_reducible refine' ev_chain ?a ?b ?c ?r); (case a => walk_at "ev"); (case b => walk_at "ev"); (case c => walk_at "ev"); (case r => walk_at "bq"))
  | ((with_reducible refine' ev_tup ?a ?l); (case a => walk_at "ea"); (case l => (show _ ≤ _; decide))))
local macro_rules | `(tactic| walk_at "ea") => `(tactic| first
  | with_reducible exact ea_nil
  | ((with_reducible refine' ea_cons ?a ?b); (case a => walk_at "ev"); (case b => walk_at "ea")))
local macro_rules | `(tactic| walk_at "et") => `(tactic| first
  | ((with_reducible refine' et_notI ?a ?r); (case a => walk_at "et"); (case r => walk_at "bq"))
  | ((with_reducible refine' et_is ?a); (case a => walk_at "ev"))
  | ((with_reducible refine' et_isB ?a); (case a => walk_at "ev"))
  | ((with_reducible refine' et_and ?a ?b ?c); (case a => walk_at "et"); (case b => (intro _; walk_at "et")); (case c => (intro z; first | exact z | (cases z; done) | rfl)))
  | ((with_reducible refine' et_or ?a ?b ?c); (case a => walk_at "et"); (case b => (intro _; walk_at "et")); (case c => (intro z; first | exact z | (cases z; done) | rfl))))
local macro_rules | `(tactic| walk_at "ev2") => `(tactic| first
  | walk_at "ev"
  | ((with_reducible refine' ev_inT ?a ?p ?s ?d ?f ?x ?b); (case a => walk_at "ev"); (case p => exact evv_c); (case s => assumption); (case d => exact rfl); (case f => exact rfl); (case x => exact rfl); (case b => walk_at "bq"))
  | ((with_reducible refine' ev_inU2 ?a ?p ?l ?d ?x ?f ?y ?b); (case a => walk_at "ev"); (case p => walk_at "ea"); (case l => (show _ ≤ _; decide)); (case d => exact rfl); (case x => exact rfl); (case f => exact rfl); (case y => exact rfl); (case b => walk_at "bq"))
  | ((with_reducible refine' ev_slA ?a ?l ?h ?r); (case a => walk_at "ev"); (case l => walk_at "eo"); (case h => walk_at "eo"); (case r => exact rfl)))
local macro_rules | `(tactic| walk_at "et2") => `(tactic| first
  | walk_at "et"
  | ((with_reducible refine' et_is ?a); (case a => walk_at "ev2"))
  | ((with_reducible refine' et_isB ?a); (case a => walk_at "ev2")))
local macro_rules | `(tactic| walk_at "eo") => `(tactic| first
  | with_reducible exact eo_none
  | ((with_reducible refine' eo_some ?a); (case a => walk_at "ev")))
/-! ### the law's own frame: no guard stands -/
section
variable {P : Program} {w : World} {K : PySem.W.Frag} {mg : Str → Option Value}
/-- a def of one parameter, called by the claim itself -/
def FnG (P : Program) (w : World) (K : PySem.W.Frag) (mg : Str → Option Value) (base : Heap) (k : Nat) (f : Addr) (fd : FuncData) (x : Str) (sp : Sp) : Prop :=
  ∀ (sh : Shared) (Hh : Hp) (u : Value) (y : V) (Qr : VK) (Er : XK), Room k callerA → Env0 P w K mg base callerA [] sh Hh → BindsTo sh fd ⟨[u], []⟩ [(x, u)] → RelV y u → sp [y] Hh Qr Er →
    codeAny (model P w) callerA (.call (.ref f) ⟨[u], []⟩) (CR CX0 [] P w Hh sh Qr Er) sh
theorem fnG_of {base : Heap} {x q : Str} {st : Stmt} {f : Addr} {fd : FuncData} {N : List Str} {p : Str} {k : Nat} {sp : Sp} (F : Fun K x q st f fd) (S : FnScope N [p] (defScope st))
    (body : ∀ (cv : Value) (sh : Shared) (Hh : Hp) (y : V) (Qr : VK) (Er : XK), Room k (callerA.deeper (envOfC q (defScope st) sh.heap.objs.size f cv)) → sp [y] Hh Qr Er →
      ∃ t, PSs (cxOf CX0 P w K mg base N q (defScope st) f cv callerA [] sh Hh Er).nox (defBody st) t ∧ t { nx := fun _ J => Qr .non J, rt := Qr } (start N [y]) Hh) : FnG P w K mg base (k + 1) f fd p sp := by
  obtain ⟨c1, c2, c3, c4, c5, c6, cv, c7, c8, rfl, look, code⟩ := F.ex
  intro sh Hh u y Qr Er room env bnd rel hsp
  have kin : K.In sh.heap := env.mod.kin.keeps fun i j z => (env.bs i j z).1
  have kinds : ∀ z ∈ [p].zip [u], (defScope st).names.lookup z.1 = some .local ∨ ((defScope st).names.lookup z.1 = some .cell ∧ ((cellsFrom (sh.heap.objs.size + 1) (defScope st).names []).lookup z.1).isSome = true) := by
    rintro ⟨m, v⟩ hz
    exact (S.par m (List.of_mem_zip hz).1).imp id fun g => ⟨g, PySem.W.cellsFrom_some _ _ _ (.inl g)⟩
  refine codeAny_call_function room.depth (kin _ _ look) rfl S.co S.gen rfl (PySem.W.codeRec_of kin code) (bnd _ _ _ _ ?_)
  refine wpAny_newFunctionEnv_cells S.kind kinds fun en he sh1 xx => ?_
  subst he
  refine ⟨(env.mod.nolimit.keeps fun i j z => (env.bs i j z).1).keeps xx.toInCall.keep, codeAny_func ?_⟩
  obtain ⟨t, ht, hq⟩ := body cv sh Hh y Qr Er (room.deeper _) hsp
  have inv := inv_start (CX := CX0) (E := Er) S room.hd env (us := [u]) (vs := [y]) rfl (.cons rel .nil) xx
  refine wpAny_mono (ht.nox.run [] sh1 (start N [y]) Hh _ inv hq) (fun out sh2 hs => ?_) fun _ _ hs => hs
  cases out with
  | ret r =>
    obtain ⟨z, σ2, H2, J, rz, qz⟩ := hs
    exact ⟨z, H2, J.os, J.bare, J.base, J.hok, rz, qz⟩
  | next =>
    obtain ⟨σ2, H2, J, qz⟩ := hs
    exact ⟨V.non, H2, J.os, J.bare, J.base, J.hok, rfl, qz⟩
  | brk => exact hs.elim fun _ h => h.elim fun _ h => h.2.elim
  | cont => exact hs.elim fun _ h => h.elim fun _ h => h.2.elim
end
end K27
namespace K27
open PySem PySem.Spec L2
open PyProof.Rows hiding St
local macro_rules | `(tactic| walk_at "td") => `(tactic| first | assumption | exact Td.int _ | exact Td.str _ | exact Td.bl _ | exact Td.non)
local macro_rules | `(tactic| walk_at "bq") => `(tactic| first | exact rfl | assumption | decide)
local macro_rules | `(tactic| walk_at "kb") => `(tactic| first | exact kii | exact ksi | exact kti | exact kib | exact kss | exact kis | exact kts | exact ktt | exact kst | exact kit)
local macro_rules | `(tactic| walk_at "ev") => `(tactic| first
  | with_reducible exact ev_int
  | with_reducible exact ev_str
  | with_reducible exact ev_bl
  | with_reducible exact ev_non
  | ((with_reducible refine' ev_var ?e ?t); (case e => exact rfl); (case t => walk_at "td"))
  | ((with_reducible refine' ev_ix ?a ?n ?z); (case a => walk_at "ev"); (case z => decide); (case n => exact rfl))
  | ((with_reducible refine' ev_isi ?a ?k); (case a => walk_at "ev"); (case k => walk_at "kb"))
  | ((with_reducible refine' ev_len ?a ?k); (case a => walk_at "ev"); (case k => exact rfl))
  | ((with_reducible refine' ev_cmpI ?a ?b ?r); (case a => walk_at "ev"); (case b => walk_at "ev"); (case r => walk_at "bq"))
  | ((with_reducible refine' ev_I0 ?a ?b ?r); (case a => walk_at "ev"); (case b => walk_at "ev"); (case r => exact rfl))
  | ((with_reducible refine' ev_eqS ?a ?b ?r); (case a => walk_at "ev"); (case b => walk_at "ev"); (case r => walk_at "bq"))
  | ((with_reducible refine' ev_eqI ?a ?b ?r); (case a => walk_at "ev"); (case b => walk_at "ev"); (case r => walk_at "bq"))
  | ((with_reducible refine' ev_neI ?a ?b ?r); (case a => walk_at "ev"); (case b => walk_at "ev"); (case r => walk_at "bq"))
  | ((with_reducible refine' ev_notV ?a ?r); (case a => walk_at "ev"); (case r => walk_at "bq"))
  | ((with_reducible refine' ev_chain ?a ?b ?c ?r); (case a => walk_at "ev"); (case b => walk_at "ev"); (case c => walk_at "ev"); (case r => walk_at "bq"))
  | ((with_reducible refine' ev_tup ?a ?l); (case a => walk_at "ea"); (case l => (show _ ≤ _; decide))))
local macro_rules | `(tactic| walk_at "ea") => `(tactic| first
  | with_reducible exact ea_nil
  | ((with_reducible refine' ea_cons ?a ?b); (case a => walk_at "ev"); (case b => walk_at "ea")))
local macro_rules | `(tactic| walk_at "et") => `(tactic| first
  | ((with_reducible refine' et_notI ?a ?r); (case a => walk_at "et"); (case r => walk_at "bq"))
  | ((with_reducible refine' et_is ?a); (case a => walk_at "ev"))
  | ((with_reducible refine' et_isB ?a); (case a => walk_at "ev"))
  | ((with_reducible refine' et_and ?a ?b ?c); (case a => walk_at "et"); (case b => (intro _; walk_at "et")); (case c => (intro z; first | exact z | (cases z; done) | rfl)))
  | ((with_reducible refine' et_or ?a ?b ?c); (case a => walk_at "et"); (case b => (intro _; walk_at "et")); (case c => (intro z; first | exact z | (cases z; done) | rfl))))
local macro_rules | `(tactic| walk_at "ev2") => `(tactic| first
  | walk_at "ev"
  | ((with_reducible refine' ev_inT ?a ?p ?s ?d ?f ?x ?b); (case a => walk_at "ev"); (case p => exact evv_c); (case s => assumption); (case d => exact rfl); (case f => exact rfl); (case x => exact rfl); (case b => walk_at "bq"))
  | ((with_reducible refine' ev_inU2 ?a ?p ?l ?d ?x ?f ?y ?b); (case a => walk_at "ev"); (case p => walk_at "ea"); (case l => (show _ ≤ _; decide)); (case d => exact rfl); (case x => exact rfl); (case f => exact rfl); (case y => exact rfl); (case b => walk_at "bq"))
  | ((with_reducible refine' ev_slA ?a ?l ?h ?r); (case a => walk_at "ev"); (case l => walk_at "eo"); (case h => walk_at "eo"); (case r => exact rfl)))
local macro_rules | `(tactic| walk_at "et2") => `(tactic| first
  | walk_at "et"
  | ((with_reducible refine' et_is ?a); (case a => walk_at "ev2"))
  | ((with_reducible refine' et_isB ?a); (case a => walk_at "ev2")))
local macro_rules | `(tactic| walk_at "eo") => `(tactic| first
  | with_reducible exact eo_none
  | ((with_reducible refine' eo_some ?a); (case a => walk_at "ev")))
section
variable {P : Program} {w : World} {K : PySem.W.Frag} {mg mb : Str → Option Value}
theorem law_ask {k : Nat} {fa a : Addr} {fd : FuncData} {x : Str} {sp : Sp} {s1 : Shared} {vs : List Value} {ns : List Int} (kin : K.In s1.heap) (gns : s1.heap.Ns mainGlobals mg) (bns : s1.heap.Ns builtinsNs mb) (boot : ∀ x : Str, x ≠ "__name__" → mb x = bootBuiltins x) (lim : s1.heap.NoLimit) (gen : s1.gens = #[])
    (at_ : s1.heap.get? a = some { cls := .type "list", data := .seq vs.toArray }) (hints : IntsAre vs ns) (len : ns.length ≤ sizeLine) (room : Room k callerA) (F : ∀ base : Heap, K.In base → base.Ns mainGlobals mg → FnG P w K mg base k fa fd x sp) (bnd : ∀ (s : Shared) (u : Value), BindsTo s fd ⟨[u], []⟩ [(x, u)])
    (hsp : ∀ J : Hp, Only J → SqL K J a (ns.map V.int) → sp [.ref a] J (fun v _ => v = .bl true) fun _ _ _ => False) :
    codeAny (model P w) callerA (.call (.ref fa) ⟨[.ref a], []⟩) (fun r s2 => r = .ok (.ret (.bool true)) ∧ OldK s1.heap s2.heap ∧ s2.os = s1.os ∧ AllBare s2.gens) s1 := by
  have vals := vals_ints hints
  have lenV := hints.length
  have main : ∀ J : Hp, (∀ b, b ≠ a → J b = none) → (J a = none ∨ (K.lookup a = none ∧ J a = some (.frz { cls := .type "list", data := .seq vs.toArray } (.lst (ns.map V.int))))) → SqL K J a (ns.map V.int) →
      codeAny (model P w) callerA (.call (.ref fa) ⟨[.ref a], []⟩) (fun r s2 => r = .ok (.ret (.bool true)) ∧ OldK s1.heap s2.heap ∧ s2.os = s1.os ∧ AllBare s2.gens) s1 := by
    intro J far near seq
    have at_a : ∀ {b : Addr}, J b ≠ none → b = a := fun {b} hb => Classical.byContradiction fun z => hb (far b z)
    have only : Only J := fun b => by
      by_cases z : b = a
      · subst z
        exact near.imp id fun h => ⟨_, _, h.2⟩
      · exact .inl (far b z)
    have ok : HOk P w J s1.heap := fun b o hbo => by
      have z := at_a (b := b) (by rw [hbo]; exact fun q => by cases q)
      subst z
      rcases near with h | ⟨_, h⟩
      · rw [h] at hbo; cases hbo
      · rw [h] at hbo
        cases hbo
        exact ⟨at_, by rw [List.length_map]; exact len, vs, _, vals, at_⟩
    have hid : ∀ {b : Addr} {o : Obj}, s1.heap.get? b = some o → J b = none → (hidT s1.heap J).get? b = some o := fun h n => hidT_get h n
    have nod : ∀ {b : Addr} {o : Obj} {es : Array DictEntry} {ep : Nat}, s1.heap.get? b = some o → o.data = .dict es ep → J b = none := fun {b o es ep} h d => by
      by_cases z : b = a
      · subst z
        rw [at_] at h
        cases h
        exact Data.noConfusion (show Data.seq vs.toArray _ = Data.dict es ep from d)
      · exact far b z
    have toNs : ∀ {b : Addr} {m : Str → Option Value}, s1.heap.Ns b m → (hidT s1.heap J).Ns b m := fun {b m} ⟨o, es, ep, h, d, r⟩ => ⟨o, es, ep, hid h (nod h d), d, r⟩
    have kin2 : K.In (hidT s1.heap J) := fun b o h => hid (kin b o h) (by
      by_cases z : b = a
      · subst z
        rcases near with q | ⟨q, _⟩
        · exact q
        · rw [q] at h; cases h
      · exact far b z)
    have env : Env0 P w K mg (hidT s1.heap J) callerA [] s1 J := by
      refine ⟨rfl, ⟨kin2, toNs gns, ⟨mb, toNs bns, boot⟩, ?_⟩, fun b o h => of_hidT h, Nat.le_of_eq (hidT_size _ _), trivial, ?_, ok, .of_eq gen⟩
      · obtain ⟨mc, h1, h2⟩ := lim
        exact ⟨mc, toNs h1, h2⟩
      · intro b hb
        cases hb
    refine codeAny_mono (F _ kin2 (toNs gns) s1 J (.ref a) (.ref a) _ _ room env (bnd s1 (.ref a)) rfl (hsp J only seq)) fun out s2 h => ?_
    cases out with
    | error e => exact False.elim h
    | ok flow =>
      cases flow with
      | ret u =>
        obtain ⟨v, J2, os, bare, un, ok2, rel, rfl⟩ := h
        obtain rfl : u = Value.bool true := rel
        refine ⟨rfl, OldK.of_keep fun b o hb => ?_, os, bare⟩
        by_cases z : J b = none
        · exact un.keep b o hb z (fun q => by cases q) (fun q => by cases q)
        · have e := at_a z
          subst e
          rcases near with q | ⟨_, q⟩
          · exact absurd q z
          · obtain ⟨e1, _⟩ := ok b _ q
            obtain ⟨e2, _⟩ := ok2 b _ (un.frzs b _ _ q)
            rw [hb] at e1
            cases e1
            exact e2
      | next => exact False.elim h
      | brk => exact False.elim h
      | cont => exact False.elim h
  cases look : K.lookup a with
  | some o =>
    have h := kin a o look
    rw [at_] at h
    cases h
    exact main (fun _ => none) (fun _ _ => rfl) (.inl rfl) (.inr ⟨_, vs.toArray, _, look, rfl, rfl, rfl, by rw [List.size_toArray, lenV]; exact len, by simpa using vals⟩)
  | none => exact main (fun b => if b = a then some (.frz { cls := .type "list", data := .seq vs.toArray } (.lst (ns.map V.int))) else none) (fun b z => if_neg z) (.inr ⟨look, if_pos rfl⟩) (.inl (.inr ⟨_, if_pos rfl⟩))
end
end K27
namespace K27
open PySem PySem.Spec L2
open PyProof.Rows hiding St
local macro_rules | `(tactic| walk_at "td") => `(tactic| first | assumption | exact Td.int _ | exact Td.str _ | exact Td.bl _ | exact Td.non)
local macro_rules | `(tactic| walk_at "bq") => `(tactic| first | exact rfl | assumption | decide)
local macro_rules | `(tactic| walk_at "kb") => `(tactic| first | exact kii | exact ksi | exact kti | exact kib | exact kss | exact kis | exact kts | exact ktt | exact kst | exact kit)
local macro_rules | `(tactic| walk_at "ev") => `(tactic| first
  | with_reducible exact ev_int
  | with_reducible exact ev_str
  | with_reducible exact ev_bl
  | with_reducible exact ev_non
  | ((with_reducible refine' ev_var ?e ?t); (case e => exact rfl); (case t => walk_at "td"))
  | ((with_reducible refine' ev_ix ?a ?n ?z); (case a => walk_at "ev"); (case z => decide); (case n => exact rfl))
  | ((with_reducible refine' ev_isi ?a ?k); (case a => walk_at "ev"); (case k => walk_at "kb"))
  | ((with_reducible refine' ev_len ?a ?k); (case a => walk_at "ev"); (case k => exact rfl))
  | ((with_reducible refine' ev_cmpI ?a ?b ?r); (case a => walk_at "ev"); (case b => walk_at "ev"); (case r => walk_at "bq"))
  | ((with_reducible refine' ev_I0 ?a ?b ?r); (case a => walk_at "ev"); (case b => walk_at "ev"); (case r => exact rfl))
  | ((with_reducible refine' ev_eqS ?a ?b ?r); (case a => walk_at "ev"); (case b => walk_at "ev"); (case r => walk_at "bq"))
  | ((with_reducible refine' ev_eqI ?a ?b ?r); (case a => walk_at "ev"); (case b => walk_at "ev"); (case r => walk_at "bq"))
  | ((with_reducible refine' ev_neI ?a ?b ?r); (case a => walk_at "ev"); (case b => walk_at "ev"); (case r => walk_at "bq"))
  | ((with_reducible refine' ev_notV ?a ?r); (case a => walk_at "ev"); (case r => walk_at "bq"))
  | ((with_reducible refine' ev_chain ?a ?b ?c ?r); (case a => walk_at "ev"); (case b => walk_at "ev"); (case c => walk_at "ev"); (case r => walk_at "bq"))
  | ((with_reducible refine' ev_tup ?a ?l); (case a => walk_at "ea"); (case l => (show _ ≤ _; decide))))
local macro_rules | `(tactic| walk_at "ea") => `(tactic| first
  | with_reducible exact ea_nil
  | ((with_reducible refine' ea_cons ?a ?b); (case a => walk_at "ev"); (case b => walk_at "ea")))
local macro_rules | `(tactic| walk_at "et") => `(tactic| first
  | ((with_reducible refine' et_notI ?a ?r); (case a => walk_at "et"); (case r => walk_at "bq"))
  | ((with_reducible refine' et_is ?a); (case a => walk_at "ev"))
  | ((with_reducible refine' et_isB ?a); (case a => walk_at "ev"))
  | ((with_reducible refine' et_and ?a ?b ?c); (case a => walk_at "et"); (case b => (intro _; walk_at "et")); (case c => (intro z; first | exact z | (cases z; done) | rfl)))
  | ((with_reducible refine' et_or ?a ?b ?c); (case a => walk_at "et"); (case b => (intro _; walk_at "et")); (case c => (intro z; first | exact z | (cases z; done) | rfl))))
local macro_rules | `(tactic| walk_at "ev2") => `(tactic| first
  | walk_at "ev"
  | ((with_reducible refine' ev_inT ?a ?p ?s ?d ?f ?x ?b); (case a => walk_at "ev"); (case p => exact evv_c); (case s => assumption); (case d => exact rfl); (case f => exact rfl); (case x => exact rfl); (case b => walk_at "bq"))
  | ((with_reducible refine' ev_inU2 ?a ?p ?l ?d ?x ?f ?y ?b); (case a => walk_at "ev"); (case p => walk_at "ea"); (case l => (show _ ≤ _; decide)); (case d => exact rfl); (case x => exact rfl); (case f => exact rfl); (case y => exact rfl); (case b => walk_at "bq"))
  | ((with_reducible refine' ev_slA ?a ?l ?h ?r); (case a => walk_at "ev"); (case l => walk_at "eo"); (case h => walk_at "eo"); (case r => exact rfl)))
local macro_rules | `(tactic| walk_at "et2") => `(tactic| first
  | walk_at "et"
  | ((with_reducible refine' et_is ?a); (case a => walk_at "ev2"))
  | ((with_reducible refine' et_isB ?a); (case a => walk_at "ev2")))
local macro_rules | `(tactic| walk_at "eo") => `(tactic| first
  | with_reducible exact eo_none
  | ((with_reducible refine' eo_some ?a); (case a => walk_at "ev")))
/-! ### the list of contrary rows -/
section
variable {K : PySem.W.Frag} {H : Hp} {D : Ends}
theorem q_due {tk : TS} {N2 : List Str} {v : V} {b : List S} {ke : Nat} {n : Int} {o0 o1 o2 o3 o5 o6 o8 o9 o10 : Option V} (hN : start N2 [v, .int n] = [some v, some (.int n), none]) (t : Td H v (blk b)) (hb : BOk ke 4 b) (hke : ke ≤ 4) (hn : NumOk n) (hc : cost b ≤ 30) (hch : numB (own "choice") b ≤ 4)
    (kk : ∀ p vs J, H p = none → Gr H J → J p = some (.lst vs) → TdA J vs (allRuns (turnB b) n) → tk D [o0, o1, o2, o3, some v, o5, o6, some (.int n), o8, some (.ref p), o10] J) :
    tSeq (tAsg (tLcG K (tCons (tVar 4) (tCons (tVar 7) tNil)) 2 N2 (tCall (spFL A_runs_on) [] E0 (tCons (tVar 0) (tCons (tVar 1) tNil))) (tCall (spF A_contrary) [] E0 (tCons (tVar 10) tNil)) 10) (gName 9)) tk D [o0, o1, o2, o3, some v, o5, o6, some (.int n), o8, o9, o10] H := by
  refine ⟨v, rfl, .int n, rfl, rfl, fun A hA => ?_⟩
  have gA := Gr.new (o := .lst []) hA
  refine ⟨allRuns b n, fun i J => ∃ acc, J A = some (.lst acc) ∧ TdA J acc ((allRuns (turnB b) n).take i) ∧ acc.length = i ∧ Mv [A] H J, ?_, fun i x d J hd td ⟨acc, hJ, ta, hl, m⟩ => ?_, fun J ⟨acc, hJ, ta, hl, m⟩ => ?_⟩
  · rw [hN]
    refine (el_call (A := A_runs_on) (ds := [blk b, .int n]) (ea_cons (ev_var rfl (t.mono gA.tup)) (ea_cons (ev_var rfl (.int n)) ea_nil)) ⟨b, ke, n, rfl, hb, hke, by omega, hch, rfl⟩ : EvL _ [some v, some (.int n), none] _ _) _ Mv.rfl _ fun p vs ds J e hp g hx tv => ?_
    subst e
    refine ⟨p, rfl, ⟨vs, SqL.of hx⟩, p, vs, rfl, hx, (fun z => by rw [z, upd_same] at hp; cases hp), tv, [], g.get upd_same, by rw [List.take_zero]; exact .nil, rfl, (gA.trans g).up⟩
  · obtain ⟨a, e1, e2⟩ := allRuns_get hd
    obtain ⟨h1, h2⟩ := run_bnd (a := a) hb (by omega) hn hc
    have hm := goB_m (a := a) hb.2 (C0 n)
    have hm0 : ((C0 n).m : Int) = 0 := rfl
    have e3 : d = .tuple [.int (goB a b (C0 n)).tot, .tuple ((turnsOf a (goB a b (C0 n)).m).map .int), .tuple (handsD (goB a b (C0 n)).hs)] := e1
    have il : i < (allRuns b n).length := (List.getElem?_eq_some_iff.mp hd).1
    have i33 : i < 33 := Nat.lt_of_lt_of_le il (by unfold allRuns; exact runsF_len _ _ _)
    show tCall (spF A_contrary) [] E0 (tCons (tVar 10) tNil) [o0, o1, o2, o3, some v, o5, o6, some (.int n), o8, o9, some x] J _
    refine (ev_call (A := A_contrary) (ds := [d]) (ea_cons (ev_var rfl td) ea_nil) ⟨_, _, _, by rw [e3], by omega, rfl⟩ : EvP _ _ J _) J Mv.rfl _ fun y e J2 ey g2 ty => ?_
    subst ey
    have hx2 := g2.get hJ
    have mp : Mv [A] J2 (upd J2 A (.lst (acc ++ [y]))) := Mv.put hx2 (by simp) lst_tup
    refine ⟨acc, hx2, small1000 (by omega), g2.up.trans mp, acc ++ [y], upd_same, ?_, by rw [List.length_append, hl]; rfl, (m.trans g2.up).trans mp⟩
    rw [List.take_add_one, e2, rowD_flip]
    exact ((ta.mono g2.tup).append (.one ty)).mono mp.tup
  · have e : (allRuns (turnB b) n).take (allRuns b n).length = allRuns (turnB b) n := by rw [← allRuns_len, List.take_length]
    rw [e] at ta
    exact kk A acc J hA (Mv.drop (S := [A]) m fun b hb => .inr (by rw [List.mem_singleton.mp hb]; exact hA)) hJ ta
end
theorem runsF_all {f : List Int → C} {Pd : PyData → Prop} (h : ∀ a, (∀ x ∈ a, x = 0 ∨ x = 1) → Pd (rowD a (f a))) : ∀ (k : Nat) (o : Option (List Int)), (∀ a, o = some a → ∀ x ∈ a, x = 0 ∨ x = 1) → ∀ d ∈ runsF f k o, Pd d
  | 0, o, _, d, hd => by rw [runsF] at hd; cases hd
  | k + 1, none, _, d, hd => by
    rw [runsF] at hd
    · cases hd
    · intro h; cases h
  | k + 1, some a, ho, d, hd => by
    rw [runsF] at hd
    have ha := ho a rfl
    rcases List.mem_cons.mp hd with e | hd
    · rw [e]; exact h a ha
    · refine runsF_all h k _ (fun a2 e x hx => ?_) d hd
      have ht : ∀ x ∈ turnsOf a (f a).m, x = 0 ∨ x = 1 := fun x hx => by
        unfold turnsOf at hx
        obtain ⟨i, _, rfl⟩ := List.mem_map.mp hx
        unfold pick
        cases h : a[i]? with
        | none => exact .inl rfl
        | some y => exact ha y (List.mem_of_getElem? h)
      unfold nextT at e
      split at e
      · cases e
      · have e := Option.some.inj e
        rw [← e] at hx
        rcases List.mem_append.mp hx with hx | hx
        · exact ht x (List.mem_of_mem_take hx)
        · rw [List.mem_singleton.mp hx]; exact .inr rfl
theorem allRuns_rp {b : List S} {ke : Nat} {n : Int} (hb : BOk ke 4 b) (hke : ke ≤ 5) (hn : NumOk n) (hc : cost b ≤ 30) (hch : numB (own "choice") b ≤ 4) : Rp (.list (allRuns b n)) := by
  have hlen : (allRuns b n).length ≤ 33 := by unfold allRuns; exact runsF_len _ _ _
  have key : ∀ d ∈ allRuns b n, Sw d 20000 ∧ Sh d 2 := runsF_all (fun a ha => by
    obtain ⟨h1, h2⟩ := run_bnd (a := a) hb hke hn hc
    have hm := goB_m (a := a) hb.2 (C0 n)
    have hm0 : ((C0 n).m : Int) = 0 := rfl
    exact ⟨rowD_sw h1 h2 (by omega) ha, rowD_sh _ _⟩) 33 (some []) fun a e x hx => by
      rw [← Option.some.inj e] at hx
      cases hx
  refine ⟨(Sw.lst hlen fun d hd => (key d hd).1).le (by decide), ?_⟩
  obtain ⟨h1, h2⟩ := sh_all fun d hd => (key d hd).2
  exact ⟨by rw [PyData.canLay0]; exact h1, by rw [PyData.depth]; omega⟩
end K27
namespace K27
open PySem PySem.Spec L2
open PyProof.Rows hiding St
local macro_rules | `(tactic| walk_at "td") => `(tactic| first | assumption | exact Td.int _ | exact Td.str _ | exact Td.bl _ | exact Td.non)
local macro_rules | `(tactic| walk_at "bq") => `(tactic| first | exact rfl | assumption | decide)
local macro_rules | `(tactic| walk_at "kb") => `(tactic| first | exact kii | exact ksi | exact kti | exact kib | exact kss | exact kis | exact kts | exact ktt | exact kst | exact kit)
local macro_rules | `(tactic| walk_at "ev") => `(tactic| first
  | with_reducible exact ev_int
  | with_reducible exact ev_str
  | with_reducible exact ev_bl
  | with_reducible exact ev_non
  | ((with_reducible refine' ev_var ?e ?t); (case e => exact rfl); (case t => walk_at "td"))
  | ((with_reducible refine' ev_ix ?a ?n ?z); (case a => walk_at "ev"); (case z => decide); (case n => exact rfl))
  | ((with_reducible refine' ev_isi ?a ?k); (case a => walk_at "ev"); (case k => walk_at "kb"))
  | ((with_reducible refine' ev_len ?a ?k); (case a => walk_at "ev"); (case k => exact rfl))
  | ((with_reducible refine' ev_cmpI ?a ?b ?r); (case a => walk_at "ev"); (case b => walk_at "ev"); (case r => walk_at "bq"))
  | ((with_reducible refine' ev_I0 ?a ?b ?r); (case a => walk_at "ev"); (case b => walk_at "ev"); (case r => exact rfl))
  | ((with_reducible refine' ev_eqS ?a ?b ?r); (case a => walk_at "ev"); (case b => walk_at "ev"); (case r => walk_at "bq"))
  | ((with_reducible refine' ev_eqI ?a ?b ?r); (case a => walk_at "ev"); (case b => walk_at "ev"); (case r => walk_at "bq"))
  | ((with_reducible refine' ev_neI ?a ?b ?r); (case a => walk_at "ev"); (case b => walk_at "ev"); (case r => walk_at "bq"))
  | ((with_reducible refine' ev_notV ?a ?r); (case a => walk_at "ev"); (case r => walk_at "bq"))
  | ((with_reducible refine' ev_chain ?a ?b ?c ?r); (case a => walk_at "ev"); (case b => walk_at "ev"); (case c => walk_at "ev"); (case r => walk_at "bq"))
  | ((with_reducible refine' ev_tup ?a ?l); (case a => walk_at "ea"); (case l => (show _ ≤ _; decide))))
local macro_rules | `(tactic| walk_at "ea") => `(tactic| first
  | with_reducible exact ea_nil
  | ((with_reducible refine' ea_cons ?a ?b); (case a => walk_at "ev"); (case b => walk_at "ea")))
local macro_rules | `(tactic| walk_at "et") => `(tactic| first
  | ((with_reducible refine' et_notI ?a ?r); (case a => walk_at "et"); (case r => walk_at "bq"))
  | ((with_reducible refine' et_is ?a); (case a => walk_at "ev"))
  | ((with_reducible refine' et_isB ?a); (case a => walk_at "ev"))
  | ((with_reducible refine' et_and ?a ?b ?c); (case a => walk_at "et"); (case b => (intro _; walk_at "et")); (case c => (intro z; first | exact z | (cases z; done) | rfl)))
  | ((with_reducible refine' et_or ?a ?b ?c); (case a => walk_at "et"); (case b => (intro _; walk_at "et")); (case c => (intro z; first | exact z | (cases z; done) | rfl))))
local macro_rules | `(tactic| walk_at "ev2") => `(tactic| first
  | walk_at "ev"
  | ((with_reducible refine' ev_inT ?a ?p ?s ?d ?f ?x ?b); (case a => walk_at "ev"); (case p => exact evv_c); (case s => assumption); (case d => exact rfl); (case f => exact rfl); (case x => exact rfl); (case b => walk_at "bq"))
  | ((with_reducible refine' ev_inU2 ?a ?p ?l ?d ?x ?f ?y ?b); (case a => walk_at "ev"); (case p => walk_at "ea"); (case l => (show _ ≤ _; decide)); (case d => exact rfl); (case x => exact rfl); (case f => exact rfl); (case y => exact rfl); (case b => walk_at "bq"))
  | ((with_reducible refine' ev_slA ?a ?l ?h ?r); (case a => walk_at "ev"); (case l => walk_at "eo"); (case h => walk_at "eo"); (case r => exact rfl)))
local macro_rules | `(tactic| walk_at "et2") => `(tactic| first
  | walk_at "et"
  | ((with_reducible refine' et_is ?a); (case a => walk_at "ev2"))
  | ((with_reducible refine' et_isB ?a); (case a => walk_at "ev2")))
local macro_rules | `(tactic| walk_at "eo") => `(tactic| first
  | with_reducible exact eo_none
  | ((with_reducible refine' eo_some ?a); (case a => walk_at "ev")))
/-! ### t[::-1] -/
section
variable {prog : Program} {w : World} {A : Around} {E : Value → Shared → Prop} {s : Shared}
theorem back_adjust (n : Nat) : Builtin.Slice.sliceAdjust none none (-1) (n : Int) = ((n : Int) - 1, -1) := by
  unfold Builtin.Slice.sliceAdjust
  simp
theorem back_places (n : Nat) : Builtin.Slice.slicePlaces ((n : Int) - 1) (-1) (-1) = n := by
  unfold Builtin.Slice.slicePlaces
  simp
  split <;> omega
theorem back_applied {sl : Addr} {x y z : Value} {n : Nat} {Q : Int × Int × Nat → Shared → Prop} (hsl : s.heap.IsSliceOf sl x y z) (px : IsPart x none) (py : IsPart y none) (pz : IsPart z (some (-1)))
    (h : Q ((n : Int) - 1, -1, n) s) : wpAny (model prog w) A (Builtin.Slice.sliceApplied (.ref sl) (pure (n : Int))) Q E s := by
  obtain ⟨o, ho, hcl, hfl⟩ := id hsl
  unfold Builtin.Slice.sliceApplied Builtin.Slice.sliceFields
  refine wpAny_bind (wpAny_bind (wpAny_field ho hfl (x := x) rfl (wpAny_bind (wpAny_field ho hfl (x := y) rfl (wpAny_bind (wpAny_field ho hfl (x := z) rfl (wpAny_pure ?_)))))))
  refine wpAny_bind (HT.slicePart_ pz ?_)
  show wpAny _ _ (if ((-1 : Int) == 0) = true then _ else _) _ _ s
  rw [if_neg (by decide)]
  refine wpAny_bind (HT.slicePart_ px (wpAny_bind (HT.slicePart_ py (wpAny_bind (wpAny_pure ?_)))))
  show wpAny _ _ (match Builtin.Slice.sliceAdjust none none (-1) (n : Int) with | (lo, hi) => pure (lo, (-1 : Int), Builtin.Slice.slicePlaces lo hi (-1))) _ _ s
  rw [back_adjust]
  show wpAny _ _ (pure ((n : Int) - 1, (-1 : Int), Builtin.Slice.slicePlaces ((n : Int) - 1) (-1) (-1))) _ _ s
  rw [back_places]
  exact wpAny_pure h

theorem filterMap_some {α β : Type} {f : α → Option β} {g : α → β} : ∀ l : List α, (∀ m ∈ l, f m = some (g m)) → l.filterMap f = l.map g
  | [], _ => rfl
  | a :: r, h => by rw [List.filterMap_cons, h a List.mem_cons_self, List.map_cons, filterMap_some r fun m hm => h m (List.mem_cons_of_mem _ hm)]
theorem back_pick (xs : Array Value) : ((List.range xs.size).filterMap fun (m : Nat) => xs[((xs.size : Int) - 1 + (m : Int) * (-1)).toNat]?).toArray = xs.toList.reverse.toArray := by
  congr 1
  apply List.ext_getElem?
  intro i
  have e : ∀ m ∈ List.range xs.size, xs[((xs.size : Int) - 1 + (m : Int) * (-1)).toNat]? = some (xs.toList.reverse.getD m default) := fun m hm => by
    have hm := List.mem_range.mp hm
    have e1 : ((xs.size : Int) - 1 + (m : Int) * (-1)).toNat = xs.size - 1 - m := by omega
    rw [e1, List.getD_eq_getElem?_getD, List.getElem?_reverse (by rw [Array.length_toList]; exact hm), Array.length_toList, Array.getElem?_toList]
    rw [Array.getElem?_eq_getElem (by omega)]
    rfl
  have e2 : ((List.range xs.size).filterMap fun (m : Nat) => xs[((xs.size : Int) - 1 + (m : Int) * (-1)).toNat]?) = (List.range xs.size).map fun m => xs.toList.reverse.getD m default := by
    exact filterMap_some _ e
  rw [e2, List.getElem?_map]
  by_cases hi : i < xs.size
  · rw [List.getElem?_range hi]
    have h2 : i < xs.toList.reverse.length := by rw [List.length_reverse, Array.length_toList]; exact hi
    rw [List.getElem?_eq_getElem h2]
    show some (xs.toList.reverse.getD i default) = _
    rw [List.getD_eq_getElem?_getD, List.getElem?_eq_getElem h2]; rfl
  · rw [List.getElem?_eq_none (by rw [List.length_range]; omega), List.getElem?_eq_none (by rw [List.length_reverse, Array.length_toList]; omega)]; rfl

theorem back_item {t sl : Addr} {xs : Array Value} {x y z : Value} {Q : Value → Shared → Prop} (tt : IsTup s.heap t xs) (hsl : s.heap.IsSliceOf sl x y z) (px : IsPart x none) (py : IsPart y none) (pz : IsPart z (some (-1))) (fit : xs.size ≤ sizeLine)
    (h : Q (.ref s.heap.objs.size) { s with heap := s.heap.push { cls := .type "tuple", data := .seq xs.toList.reverse.toArray } }) : wpAny (model prog w) A (getItem (.ref t) (.ref sl)) Q E s := by
  obtain ⟨o, ho, hcl, hfl⟩ := id hsl
  have isSl : s.TypeIs (.ref sl) "slice" := ⟨o, ho, hcl⟩
  have fit2 : PySem.sizeOk (Data.seq xs.toList.reverse.toArray) := by
    show xs.toList.reverse.toArray.size ≤ sizeLine
    rw [List.size_toArray, List.length_reverse, Array.length_toList]; exact fit
  unfold getItem
  try with_reducible refine wpAny_holding ?_
  first
    | refine wpAny_bind (wpAny_pure ?_)
    | skip
  refine wpAny_bind (wpAny_sequenceKey tt.typeIs (by decide) ?_)
  refine wpAny_bind (wpAny_callSpecial?_slot (name := Str.ofString "__getitem__") tt.typeIs PyProof.Rows.slot_tuple_getitem (wpAny_call_entry PyProof.Rows.slot_tuple_getitem tt.typeIs PyProof.Rows.entry_tuple_getitem ?_ (PyProof.Rows.args_tuple_getitem _ _)))
  refine wpAny_bind (m := Builtin.Tuple.tupleItemsOf (.ref t)) (PyProof.Rows.tupleItemsOf_ tt ?_)
  refine wpAny_bind (wpAny_typeOf isSl ?_)
  rw [if_pos (by decide)]
  refine wpAny_bind (back_applied hsl px py pz ?_)
  have no : ¬ ((((xs.size : Int) - 1) == 0 && (-1 : Int) == 1 && xs.size == xs.size) = true) := by
    rw [show ((-1 : Int) == 1) = false from rfl, Bool.and_false, Bool.false_and]
    exact Bool.false_ne_true
  show wpAny _ _ (if (((xs.size : Int) - 1) == 0 && (-1 : Int) == 1 && xs.size == xs.size) = true then _ else _) _ _ s
  rw [if_neg no, back_pick]
  first
    | exact wpAny_bind (m := Builtin.Tuple.tupleExact _) (wpAny_newObj_type (wpAny_pure ⟨_, rfl, wpAny_pure h⟩) fit2)
    | exact wpAny_bind (wpAny_bind (m := Builtin.Tuple.tupleExact _) (wpAny_newObj_type (wpAny_pure ⟨_, rfl, wpAny_pure h⟩) fit2))
    | exact wpAny_bind (m := Builtin.Tuple.tupleExact _) (wpAny_newObj_type (wpAny_bind (wpAny_pure (wpAny_pure ⟨_, rfl, wpAny_pure h⟩))) fit2)
end
end K27
namespace K27
open PySem PySem.Spec L2
open PyProof.Rows hiding St
local macro_rules | `(tactic| walk_at "td") => `(tactic| first | assumption | exact Td.int _ | exact Td.str _ | exact Td.bl _ | exact Td.non)
local macro_rules | `(tactic| walk_at "bq") => `(tactic| first | exact rfl | assumption | decide)
local macro_rules | `(tactic| walk_at "kb") => `(tactic| first | exact kii | exact ksi | exact kti | exact kib | exact kss | exact kis | exact kts | exact ktt | exact kst | exact kit)
local macro_rules | `(tactic| walk_at "ev") => `(tactic| first
  | with_reducible exact ev_int
  | with_reducible exact ev_str
  | with_reducible exact ev_bl
  | with_reducible exact ev_non
  | ((with_reducible refine' ev_var ?e ?t); (case e => exact rfl); (case t => walk_at "td"))
  | ((with_reducible refine' ev_ix ?a ?n ?z); (case a => walk_at "ev"); (case z => decide); (case n => exact rfl))
  | ((with_reducible refine' ev_isi ?a ?k); (case a => walk_at "ev"); (case k => walk_at "kb"))
  | ((with_reducible refine' ev_len ?a ?k); (case a => walk_at "ev"); (case k => exact rfl))
  | ((with_reducible refine' ev_cmpI ?a ?b ?r); (case a => walk_at "ev"); (case b => walk_at "ev"); (case r => walk_at "bq"))
  | ((with_reducible refine' ev_I0 ?a ?b ?r); (case a => walk_at "ev"); (case b => walk_at "ev"); (case r => exact rfl))
  | ((with_reducible refine' ev_eqS ?a ?b ?r); (case a => walk_at "ev"); (case b => walk_at "ev"); (case r => walk_at "bq"))
  | ((with_reducible refine' ev_eqI ?a ?b ?r); (case a => walk_at "ev"); (case b => walk_at "ev"); (case r => walk_at "bq"))
  | ((with_reducible refine' ev_neI ?a ?b ?r); (case a => walk_at "ev"); (case b => walk_at "ev"); (case r => walk_at "bq"))
  | ((with_reducible refine' ev_notV ?a ?r); (case a => walk_at "ev"); (case r => walk_at "bq"))
  | ((with_reducible refine' ev_chain ?a ?b ?c ?r); (case a => walk_at "ev"); (case b => walk_at "ev"); (case c => walk_at "ev"); (case r => walk_at "bq"))
  | ((with_reducible refine' ev_tup ?a ?l); (case a => walk_at "ea"); (case l => (show _ ≤ _; decide))))
local macro_rules | `(tactic| walk_at "ea") => `(tactic| first
  | with_reducible exact ea_nil
  | ((with_reducible refine' ea_cons ?a ?b); (case a => walk_at "ev"); (case b => walk_at "ea")))
local macro_rules | `(tactic| walk_at "et") => `(tactic| first
  | ((with_reducible refine' et_notI ?a ?r); (case a => walk_at "et"); (case r => walk_at "bq"))
  | ((with_reducible refine' et_is ?a); (case a => walk_at "ev"))
  | ((with_reducible refine' et_isB ?a); (case a => walk_at "ev"))
  | ((with_reducible refine' et_and ?a ?b ?c); (case a => walk_at "et"); (case b => (intro _; walk_at "et")); (case c => (intro z; first | exact z | (cases z; done) | rfl)))
  | ((with_reducible refine' et_or ?a ?b ?c); (case a => walk_at "et"); (case b => (intro _; walk_at "et")); (case c => (intro z; first | exact z | (cases z; done) | rfl))))
local macro_rules | `(tactic| walk_at "ev2") => `(tactic| first
  | walk_at "ev"
  | ((with_reducible refine' ev_inT ?a ?p ?s ?d ?f ?x ?b); (case a => walk_at "ev"); (case p => exact evv_c); (case s => assumption); (case d => exact rfl); (case f => exact rfl); (case x => exact rfl); (case b => walk_at "bq"))
  | ((with_reducible refine' ev_inU2 ?a ?p ?l ?d ?x ?f ?y ?b); (case a => walk_at "ev"); (case p => walk_at "ea"); (case l => (show _ ≤ _; decide)); (case d => exact rfl); (case x => exact rfl); (case f => exact rfl); (case y => exact rfl); (case b => walk_at "bq"))
  | ((with_reducible refine' ev_slA ?a ?l ?h ?r); (case a => walk_at "ev"); (case l => walk_at "eo"); (case h => walk_at "eo"); (case r => exact rfl)))
local macro_rules | `(tactic| walk_at "et2") => `(tactic| first
  | walk_at "et"
  | ((with_reducible refine' et_is ?a); (case a => walk_at "ev2"))
  | ((with_reducible refine' et_isB ?a); (case a => walk_at "ev2")))
local macro_rules | `(tactic| walk_at "eo") => `(tactic| first
  | with_reducible exact eo_none
  | ((with_reducible refine' eo_some ?a); (case a => walk_at "ev")))
def tRevA (K : PySem.W.Frag) (te : TE) : TE := fun σ H Q => te σ H fun x J => ∃ a xs, x = .ref a ∧ SqT K J a xs ∧ ∀ p, J p = none → Q (.ref p) (upd J p (.tup xs.reverse))
theorem pe_revA {X : Cx} {o : Expr} {te : TE} {k : Nat} {q1 q2 q3 pos : Pos} (ho : PE X o te) : PE X (.Subscript o (.Slice none none (some (.UnaryOp .USub (.Constant (.int 1) k q1) q2)) q3) pos) (tRevA X.K te) := by
  refine ⟨fun pins s σ H Q I h => ?_⟩
  refine Subscript_ (thn (ho.run pins s σ H _ I h) fun u sA ⟨x, HA, IA, rA, hx⟩ => ?_)
  obtain ⟨a, xs, rfl, sq, fin⟩ := hx
  cases rA
  have step : PO X (some (.UnaryOp .USub (.Constant (.int 1) k q1) q2)) (tPart (tUn (rU fun i => .int (-i)) (tC (.int 1)))) := po_some (pe_un un_neg pe_int)
  refine wpAny_Slice (thn (po_none.run pins sA σ HA (fun o J => o = none ∧ J = HA) IA ⟨rfl, rfl⟩) fun y1 sB ⟨o1, HB, IB, p1, e1, f1⟩ => ?_)
  subst e1 f1
  refine thn (po_none.run pins sB σ HB (fun o J => o = none ∧ J = HB) IB ⟨rfl, rfl⟩) fun y2 sC ⟨o2, HC, IC, p2, e2, f2⟩ => ?_
  subst e2 f2
  refine thn (step.run pins sC σ HC (fun o J => o = some (-1) ∧ J = HC) IC ⟨1, rfl, -1, rfl, rfl, rfl⟩) fun y3 sD ⟨o3, HD, ID, p3, e3, f3⟩ => ?_
  subst e3 f3
  have IE : Inv X pins σ HD { sD with heap := sD.heap.push { cls := .type "slice", data := .fields #[y1, y2, y3] } } := ID.kept (t' := sD.toks) fun b ob z => Heap.get?_push_of_some _ z
  obtain ⟨its, rel, isT, fits⟩ := IE.tuple sq
  have le := rel.length
  show wpAny (model X.prog X.w) X.A (subscriptTail o (.Slice none none (some (.UnaryOp .USub (.Constant (.int 1) k q1) q2)) q3) (.ref a) (.ref sD.heap.objs.size)) (EP X pins σ Q) X.xe { sD with heap := sD.heap.push { cls := .type "slice", data := .fields #[y1, y2, y3] } }
  refine tail_any (ops := [.ref a, .ref sD.heap.objs.size]) isT.typeIs (PyProof.Rows.slot_tuple_getitem.lookup) ?_ (by with_unfolding_all rfl)
  refine back_item isT (Heap.IsSliceOf.new _ y1 y2 y3) p1 p2 p3 (by rw [List.size_toArray]; omega) ?_
  refine ⟨.ref _, _, IE.laid (t' := sD.toks) (o := .tup xs.reverse) (fun b ob z => Heap.get?_push_of_some _ z) (Nat.le_refl _) ?_, rfl, fin _ (IE.hok.fresh (Nat.le_refl _))⟩
  exact ⟨by rw [List.length_reverse]; exact fits, _, rel.reverse, IsTup.new _ _⟩
section
variable {K : PySem.W.Frag} {σ : St} {H : Hp} {ta : TE}
theorem ev_revA {ds : List PyData} (ha : EvD ta σ H (.tuple ds)) : EvD (tRevA K ta) σ H (.tuple ds.reverse) := fun H1 g Q q =>
  ha H1 g _ fun v z H2 ez g2 tz => by
    subst ez
    obtain ⟨a, xs, rfl, hx, ts⟩ := tz.tup_inv
    refine ⟨a, xs, rfl, SqT.of hx, fun p hp => ?_⟩
    have gn := Gr.new (o := .tup xs.reverse) hp
    exact q _ _ _ rfl (g2.trans gn) (.tup upd_same ((ts.mono gn.tup).reverse))
end
end K27
namespace K27
open PySem PySem.Spec L2
open PyProof.Rows hiding St
local macro_rules | `(tactic| walk_at "td") => `(tactic| first | assumption | exact Td.int _ | exact Td.str _ | exact Td.bl _ | exact Td.non)
local macro_rules | `(tactic| walk_at "bq") => `(tactic| first | exact rfl | assumption | decide)
local macro_rules | `(tactic| walk_at "kb") => `(tactic| first | exact kii | exact ksi | exact kti | exact kib | exact kss | exact kis | exact kts | exact ktt | exact kst | exact kit)
local macro_rules | `(tactic| walk_at "ev") => `(tactic| first
  | with_reducible exact ev_int
  | with_reducible exact ev_str
  | with_reducible exact ev_bl
  | with_reducible exact ev_non
  | ((with_reducible refine' ev_var ?e ?t); (case e => exact rfl); (case t => walk_at "td"))
  | ((with_reducible refine' ev_ix ?a ?n ?z); (case a => walk_at "ev"); (case z => decide); (case n => exact rfl))
  | ((with_reducible refine' ev_isi ?a ?k); (case a => walk_at "ev"); (case k => walk_at "kb"))
  | ((with_reducible refine' ev_len ?a ?k); (case a => walk_at "ev"); (case k => exact rfl))
  | ((with_reducible refine' ev_cmpI ?a ?b ?r); (case a => walk_at "ev"); (case b => walk_at "ev"); (case r => walk_at "bq"))
  | ((with_reducible refine' ev_I0 ?a ?b ?r); (case a => walk_at "ev"); (case b => walk_at "ev"); (case r => exact rfl))
  | ((with_reducible refine' ev_eqS ?a ?b ?r); (case a => walk_at "ev"); (case b => walk_at "ev"); (case r => walk_at "bq"))
  | ((with_reducible refine' ev_eqI ?a ?b ?r); (case a => walk_at "ev"); (case b => walk_at "ev"); (case r => walk_at "bq"))
  | ((with_reducible refine' ev_neI ?a ?b ?r); (case a => walk_at "ev"); (case b => walk_at "ev"); (case r => walk_at "bq"))
  | ((with_reducible refine' ev_notV ?a ?r); (case a => walk_at "ev"); (case r => walk_at "bq"))
  | ((with_reducible refine' ev_chain ?a ?b ?c ?r); (case a => walk_at "ev"); (case b => walk_at "ev"); (case c => walk_at "ev"); (case r => walk_at "bq"))
  | ((with_reducible refine' ev_tup ?a ?l); (case a => walk_at "ea"); (case l => (show _ ≤ _; decide))))
local macro_rules | `(tactic| walk_at "ea") => `(tactic| first
  | with_reducible exact ea_nil
  | ((with_reducible refine' ea_cons ?a ?b); (case a => walk_at "ev"); (case b => walk_at "ea")))
local macro_rules | `(tactic| walk_at "et") => `(tactic| first
  | ((with_reducible refine' et_notI ?a ?r); (case a => walk_at "et"); (case r => walk_at "bq"))
  | ((with_reducible refine' et_is ?a); (case a => walk_at "ev"))
  | ((with_reducible refine' et_isB ?a); (case a => walk_at "ev"))
  | ((with_reducible refine' et_and ?a ?b ?c); (case a => walk_at "et"); (case b => (intro _; walk_at "et")); (case c => (intro z; first | exact z | (cases z; done) | rfl)))
  | ((with_reducible refine' et_or ?a ?b ?c); (case a => walk_at "et"); (case b => (intro _; walk_at "et")); (case c => (intro z; first | exact z | (cases z; done) | rfl))))
local macro_rules | `(tactic| walk_at "ev2") => `(tactic| first
  | walk_at "ev"
  | ((with_reducible refine' ev_inT ?a ?p ?s ?d ?f ?x ?b); (case a => walk_at "ev"); (case p => exact evv_c); (case s => assumption); (case d => exact rfl); (case f => exact rfl); (case x => exact rfl); (case b => walk_at "bq"))
  | ((with_reducible refine' ev_inU2 ?a ?p ?l ?d ?x ?f ?y ?b); (case a => walk_at "ev"); (case p => walk_at "ea"); (case l => (show _ ≤ _; decide)); (case d => exact rfl); (case x => exact rfl); (case f => exact rfl); (case y => exact rfl); (case b => walk_at "bq"))
  | ((with_reducible refine' ev_slA ?a ?l ?h ?r); (case a => walk_at "ev"); (case l => walk_at "eo"); (case h => walk_at "eo"); (case r => exact rfl)))
local macro_rules | `(tactic| walk_at "et2") => `(tactic| first
  | walk_at "et"
  | ((with_reducible refine' et_is ?a); (case a => walk_at "ev2"))
  | ((with_reducible refine' et_isB ?a); (case a => walk_at "ev2")))
local macro_rules | `(tactic| walk_at "eo") => `(tactic| first
  | with_reducible exact eo_none
  | ((with_reducible refine' eo_some ?a); (case a => walk_at "ev")))
/-! ### one value of the law -/
section
variable {K : PySem.W.Frag} {σ : St} {H : Hp} {te ta tb : TE} {D : Ends} {m κ : Nat} {p c : Addr} {P : PyData → Prop}
theorem ev_neS {x : Str} (ha : EvD ta σ H (.str x)) (hb : EvD tb σ H (.str x)) : EvD (tOp rNe ta tb) σ H (.bool false) :=
  ev_ne ha hb rfl rfl rfl (by rw [show decide (V.str x = V.str x) = true from decide_eq_true rfl]; rfl)
theorem q_parD {tk : TS} {i j : Nat} {t : TA} {d e : PyData} (h : EvA t σ H [d, e]) (k : ∀ x y J, Gr H J → Td J x d → Td J y e → tk D ((σ.set i (some x)).set j (some y)) J) : tSeq (tPar i j t) tk D σ H := h H Mv.rfl _ fun vs J g ts => by
  obtain ⟨x, y, rfl, tx, ty⟩ := ts.i2
  exact ⟨_, _, rfl, k x y J g tx ty⟩
theorem ek_callE {A : List Arg → (PyData → Prop) → Prop} {R : Hp → Prop} {i : Nat} {E : XK} (B : Bd [p, c] p c R) (hi : σ[i]? = some (some (.ref p))) (hA : A [] P) (hm : m + κ ≤ 2 ^ 40) : EvK [p, c] p c R m (m + κ) (tCall (spKE κ A) [] E (tCons (tVar i) tNil)) σ H P := fun H1 g w Q q =>
  ⟨_, hi, p, c, [], [], P, m, rfl, .nil, hA, hm, w.1, fun v d J pd mv dk t => q v d J pd mv ⟨dk, B.st H1 J mv w.2⟩ t⟩
end
theorem ev_neS_L {K : PySem.W.Frag} {σ : St} {H : Hp} {ta tb : TE} {ds : List PyData} {p : Addr} {vs : List V} (ha : EvL ta σ H (fun z => z = ds)) (h : Rp (.list ds)) (hb : EvV tb σ H (.ref p)) (hx : H p = some (.lst vs)) (ts : TdA H vs ds) :
    EvD (tOp rNe (tCB (rRepr K) (tCons ta tNil)) (tCB (rRepr K) (tCons tb tNil))) σ H (.bool false) :=
  ev_neS ((ev_reprL ha fun ds' e => by rw [e]; exact h).imp fun z ⟨ds', e1, e2⟩ => by rw [e2, e1]) (ev_reprV hb hx ts h)
def valV (K : PySem.W.Frag) : TS :=
  tSeq (tPar 5 6 (tCons (tCB (rRepr K) (tCons (tVar 4) tNil)) (tCons (tCall (spF (A_turned 4)) [] E0 (tCons (tVar 4) tNil)) tNil)))
  (tSeq (tIfS (tOr (tTest (tOp rNe (tCB (rRepr K) (tCons (tVar 6) tNil)) (tCB (rRepr K) (tCons (tCall (spF (A_turned 4)) [] E0 (tCons (tVar 4) tNil)) tNil))))
      (tOr (tTest (tOp rNe (tCB (rRepr K) (tCons (tCall (spF (A_turned 4)) [] E0 (tCons (tVar 4) tNil)) tNil)) (tCB (rRepr K) (tCons (tVar 6) tNil)))) (tTest (tOp rNe (tCB (rRepr K) (tCons (tVar 4) tNil)) (tVar 5))))) (tRet (tC (.bl false))) tNext)
  (tIfS (tTest (tOp rIsN (tCall (spF A_program_error) [] E0 (tCons (tVar 6) tNil)) (tC .non)))
    (tSeq (tPar 7 8 (tCons (tCall (spKE 4 A_number) [] E0 (tCons (tVar 1) tNil)) (tCons (tCall (spKE 9 A_turns) [] E0 (tCons (tVar 1) tNil)) tNil)))
    (tSeq (tIfS (tTest (tOp rNe (tCB (rRepr K) (tCons (tCall (spF (A_turned 4)) [] E0 (tCons (tVar 6) tNil)) tNil)) (tCB (rRepr K) (tCons (tCall (spF (A_turned 4)) [] E0 (tCons (tVar 6) tNil)) tNil)))) (tRet (tC (.bl false))) tNext)
    (tSeq (tIfS (tTest (tOp rNe (tCB (rRepr K) (tCons (tCall (spF A_run) [] E0 (tCons (tVar 6) (tCons (tVar 7) (tCons (tVar 8) tNil)))) tNil)) (tCB (rRepr K) (tCons (tCall (spF A_contrary) [] E0 (tCons (tCall (spF A_run) [] E0 (tCons (tVar 4) (tCons (tVar 7) (tCons (tVar 8) tNil)))) tNil)) tNil)))) (tRet (tC (.bl false))) tNext)
    (tSeq (tAsg (tLcG K (tCons (tVar 4) (tCons (tVar 7) tNil)) 2 ["program", "number", "row"] (tCall (spFL A_runs_on) [] E0 (tCons (tVar 0) (tCons (tVar 1) tNil))) (tCall (spF A_contrary) [] E0 (tCons (tVar 10) tNil)) 10) (gName 9))
    (tIfS (tTest (tOp rNe (tCB (rRepr K) (tCons (tListG (tCallG spEach [] E0 (tCons (tVar 6) (tCons (tVar 7) tNil)))) tNil)) (tCB (rRepr K) (tCons (tVar 9) tNil)))) (tRet (tC (.bl false))) tNext)))))
    tNext))
theorem val_walk {K : PySem.W.Frag} {H : Hp} {D : Ends} {v : V} {b : List S} {p c : Addr} {m : Nat} {o0 o2 o3 o5 o6 o7 o8 o9 o10 : Option V} (t : Td H v (blk b)) (hb : Pg 3 b) (dk : Dk p c m H) (hm : m + 13 ≤ 2 ^ 40)
    (kk : ∀ (o5 o6 o7 o8 o9 : Option V) J, Mv [p, c] H J → Dk p c (m + 13) J → D.nx [o0, some (.ref p), o2, o3, some v, o5, o6, o7, o8, o9, o10] J) : valV K D [o0, some (.ref p), o2, o3, some v, o5, o6, o7, o8, o9, o10] H := by
  have hb1 := hb.turn
  have hb2 := hb1.turn
  have r0 := hb.rp (by decide)
  have r1 := hb1.rp (by decide)
  have r2 := hb2.rp (by decide)
  have tnd : ∀ {σ : St} {J : Hp} {k ke : Nat} {u : V} {x : List S}, σ[k]? = some (some u) → Td J u (blk x) → BOk ke 4 x → EvD (tCall (spF (A_turned 4)) [] E0 (tCons (tVar k) tNil)) σ J (blk (turnB x)) := fun {σ J k ke u x} h1 h2 h3 => ev_call (A := A_turned 4) (ds := [blk x]) (ea_cons (ev_var h1 h2) ea_nil) ⟨x, ke, rfl, h3, rfl⟩
  refine q_parD (d := .str (blk b).shown) (e := blk (turnB b)) (ea_cons (ev_reprT (ev_var rfl t) r0) (ea_cons (tnd rfl t hb.1) ea_nil)) fun x5 x6 J1 g1 t5 t6 => ?_
  have e5 := t5.str_inv
  subst e5
  have t1 := t.mono g1.tup
  refine q_ifF Mv.rfl (et_or (a := false) (b := false) (et_is (ev_neS (ev_reprT (ev_var rfl t6) r1) (ev_reprT (tnd rfl t1 hb.1) r1))) (fun _ => et_or (a := false) (b := false) (et_is (ev_neS (ev_reprT (tnd rfl t1 hb.1) r1) (ev_reprT (ev_var rfl t6) r1))) (fun _ => et_is (ev_neS (ev_reprT (ev_var rfl t1) r0) (ev_var rfl (.str _)))) fun z => by cases z) fun z => by cases z) fun J2 g2 => ?_
  have g12 := g1.trans g2
  have tb := t.mono g12.tup
  have t6b := t6.mono g2.tup
  refine s_if (P := fun z => z = true → Verdict (turnB b) .none) Mv.rfl (fun H1 gH Q q => (ev_call (A := A_program_error) (ds := [blk (turnB b)]) (ea_cons (ev_var rfl t6b) ea_nil) ⟨turnB b, 4, rfl, hb1.1, by decide, rfl⟩ : EvP _ _ J2 _) H1 gH _ fun u d H2 hd gd td => ?_) (fun hv J3 g3 => ?_) fun _ J3 g3 => kk _ _ _ _ _ J3 ((g12.trans g3).up) ((dk.mono (g12.trans g3)).le (by omega))
  · rcases hd with ⟨ds, rfl⟩ | ⟨rfl, hd⟩
    · obtain ⟨ad, xs, rfl, _, _⟩ := td.tup_inv
      exact ⟨rfl, false, by rw [decide_eq_false (fun z => by cases z)], q false H2 (fun z => by cases z) gd⟩
    · have e := td.non_inv
      subst e
      exact ⟨rfl, true, by rw [decide_eq_true rfl], q true H2 (fun _ => .inr ⟨rfl, hd⟩) gd⟩
  obtain ⟨c1, c2, h1, h2⟩ := verdict_none (hv rfl)
  have g13 := g12.trans g3
  have w3 : Wk p c (fun _ => True) m J3 := ⟨dk.mono g13, trivial⟩
  refine qk_par (S := [p, c]) (m1 := m + 4 + 9) (PA := fun xs => ∃ (n : Int) (bs : List Int), xs = [.d (.int n), .d (.tuple (bs.map .int))] ∧ NumOk n ∧ ∀ x ∈ bs, x = 0 ∨ x = 1) w3 (fun H1 g w Q q => eka_cons (m1 := m + 4) (P := fun z => ∃ n : Int, z = .int n ∧ NumOk n) (ek_callE bd0 rfl ⟨rfl, rfl⟩ (by omega)) (eka_cons (P := fun z => ∃ bs : List Int, z = .tuple (bs.map .int) ∧ bs.length ≤ 8 ∧ ∀ x ∈ bs, x = 0 ∨ x = 1) (ek_callE bd0 rfl ⟨rfl, rfl⟩ (by omega)) eka_nil) H1 g w Q fun vs xs H2 hx g2 w2 ts => ?_) (fun v7 v8 x7 x8 J4 hx g4 w4 r7 r8 => ?_) (fun xs ⟨n, bs, e, _⟩ => by rw [e]; rfl)
  · obtain ⟨d, ys, rfl, ⟨n, rfl, hn⟩, d2, zs, rfl, ⟨bs, rfl, _, hbs⟩, rfl⟩ := hx
    exact q _ _ H2 ⟨n, bs, rfl, hn, hbs⟩ g2 w2 ts
  obtain ⟨n, bs, e, hn, hbs⟩ := hx
  injection e with e7 e
  injection e with e8 _
  subst e7 e8
  have e7 := Td.int_inv r7
  subst e7
  have r8 : Td J4 v8 (.tuple (bs.map .int)) := r8
  have g14 : Mv [p, c] H J4 := g13.up.trans g4
  have tb4 := t.mono g14.tup
  have t64 := (t6b.mono g3.tup).mono g4.tup
  refine q_ifF Mv.rfl (et_is (ev_neS (ev_reprT (tnd rfl t64 hb1.1) r2) (ev_reprT (tnd rfl t64 hb1.1) r2))) fun J5 g5 => ?_
  have t5 := tb4.mono g5.tup
  have t65 := t64.mono g5.tup
  have t85 := r8.mono g5.tup
  obtain ⟨q1, q2⟩ := run_bnd (a := bs) hb1.1 (by decide) hn c2
  have hm1 := goB_m (a := bs) hb1.1.2 (C0 n)
  have hm0 : ((C0 n).m : Int) = 0 := rfl
  have rr : Rp (rowD bs (goB bs (turnB b) (C0 n))) := ⟨(rowD_sw q1 q2 (by omega) hbs).le (by decide), (rowD_sh _ _).le (by decide)⟩
  have er : rowD bs (goB bs (turnB b) (C0 n)) = .tuple [.int (0 - (goB bs b (C0 n)).tot), .tuple ((turnsOf bs (goB bs b (C0 n)).m).map .int), .tuple (handsD ((goB bs b (C0 n)).hs.map not))] := by rw [goB_turn0, rowD_flip]
  have hl : (goB bs b (C0 n)).hs.length ≤ 1000 := by
    obtain ⟨_, z2⟩ := run_bnd (a := bs) hb.1 (by decide) hn c1
    have z3 := goB_m (a := bs) hb.1.2 (C0 n)
    omega
  have rn : ∀ {σ : St} {J : Hp} {k ke : Nat} {u : V} {x : List S}, σ[k]? = some (some u) → Td J u (blk x) → BOk ke 4 x → ke ≤ 4 → cost x ≤ 30 → σ[7]? = some (some (.int n)) → σ[8]? = some (some v8) → Td J v8 (.tuple (bs.map .int)) → EvD (tCall (spF A_run) [] E0 (tCons (tVar k) (tCons (tVar 7) (tCons (tVar 8) tNil)))) σ J (rowD bs (goB bs x (C0 n))) := fun {σ J k ke u x} h1 h2 h3 h4 h5 h6 h7 h8 => ev_call (A := A_run) (ds := [blk x, .int n, .tuple (bs.map .int)]) (ea_cons (ev_var h1 h2) (ea_cons (ev_var h6 (.int n)) (ea_cons (ev_var h7 h8) ea_nil))) ⟨x, ke, n, bs, rfl, h3, h4, by omega, hbs, rfl⟩
  rw [er] at rr
  refine q_ifF Mv.rfl (et_is (ev_neS (ev_reprT (er ▸ rn rfl t65 hb1.1 (by decide) c2 rfl rfl t85) rr) (ev_reprT (ev_call (A := A_contrary) (ds := [rowD bs (goB bs b (C0 n))]) (ea_cons (rn rfl t5 hb.1 (by decide) c1 rfl rfl t85) ea_nil) ⟨_, _, _, rfl, hl, rfl⟩) rr))) fun J6 g6 => ?_
  refine q_due (K := K) rfl (t5.mono g6.tup) hb.1 (by decide) hn c1 h1 fun pd vd J7 hpd g7 hxd td => ?_
  have rl := allRuns_rp hb1.1 (by decide) hn c2 h2
  have t67 := (t65.mono g6.tup).mono g7.tup
  refine s_ifF Mv.rfl (et_is (ev_neS_L (K := K) (el_lrun (ev_var rfl t67) (ev_var rfl (.int n)) hb1.1 (by decide) (by omega) h2) rl (evv_var rfl) hxd td)) fun J8 g8 => ?_
  have g48 := ((g5.trans g6).trans g7).trans g8
  exact kk _ _ _ _ _ J8 (g14.trans g48.up) ((w4.1.mono g48).le (by omega))
end K27
namespace K27
open PySem PySem.Spec L2
open PyProof.Rows hiding St
local macro_rules | `(tactic| walk_at "td") => `(tactic| first | assumption | exact Td.int _ | exact Td.str _ | exact Td.bl _ | exact Td.non)
local macro_rules | `(tactic| walk_at "bq") => `(tactic| first | exact rfl | assumption | decide)
local macro_rules | `(tactic| walk_at "kb") => `(tactic| first | exact kii | exact ksi | exact kti | exact kib | exact kss | exact kis | exact kts | exact ktt | exact kst | exact kit)
local macro_rules | `(tactic| walk_at "ev") => `(tactic| first
  | with_reducible exact ev_int
  | with_reducible exact ev_str
  | with_reducible exact ev_bl
  | with_reducible exact ev_non
  | ((with_reducible refine' ev_var ?e ?t); (case e => exact rfl); (case t => walk_at "td"))
  | ((with_reducible refine' ev_ix ?a ?n ?z); (case a => walk_at "ev"); (case z => decide); (case n => exact rfl))
  | ((with_reducible refine' ev_isi ?a ?k); (case a => walk_at "ev"); (case k => walk_at "kb"))
  | ((with_reducible refine' ev_len ?a ?k); (case a => walk_at "ev"); (case k => exact rfl))
  | ((with_reducible refine' ev_cmpI ?a ?b ?r); (case a => walk_at "ev"); (case b => walk_at "ev"); (case r => walk_at "bq"))
  | ((with_reducible refine' ev_I0 ?a ?b ?r); (case a => walk_at "ev"); (case b => walk_at "ev"); (case r => exact rfl))
  | ((with_reducible refine' ev_eqS ?a ?b ?r); (case a => walk_at "ev"); (case b => walk_at "ev"); (case r => walk_at "bq"))
  | ((with_reducible refine' ev_eqI ?a ?b ?r); (case a => walk_at "ev"); (case b => walk_at "ev"); (case r => walk_at "bq"))
  | ((with_reducible refine' ev_neI ?a ?b ?r); (case a => walk_at "ev"); (case b => walk_at "ev"); (case r => walk_at "bq"))
  | ((with_reducible refine' ev_notV ?a ?r); (case a => walk_at "ev"); (case r => walk_at "bq"))
  | ((with_reducible refine' ev_chain ?a ?b ?c ?r); (case a => walk_at "ev"); (case b => walk_at "ev"); (case c => walk_at "ev"); (case r => walk_at "bq"))
  | ((with_reducible refine' ev_tup ?a ?l); (case a => walk_at "ea"); (case l => (show _ ≤ _; decide))))
local macro_rules | `(tactic| walk_at "ea") => `(tactic| first
  | with_reducible exact ea_nil
  | ((with_reducible refine' ea_cons ?a ?b); (case a => walk_at "ev"); (case b => walk_at "ea")))
local macro_rules | `(tactic| walk_at "et") => `(tactic| first
  | ((with_reducible refine' et_notI ?a ?r); (case a => walk_at "et"); (case r => walk_at "bq"))
  | ((with_reducible refine' et_is ?a); (case a => walk_at "ev"))
  | ((with_reducible refine' et_isB ?a); (case a => walk_at "ev"))
  | ((with_reducible refine' et_and ?a ?b ?c); (case a => walk_at "et"); (case b => (intro _; walk_at "et")); (case c => (intro z; first | exact z | (cases z; done) | rfl)))
  | ((with_reducible refine' et_or ?a ?b ?c); (case a => walk_at "et"); (case b => (intro _; walk_at "et")); (case c => (intro z; first | exact z | (cases z; done) | rfl))))
local macro_rules | `(tactic| walk_at "ev2") => `(tactic| first
  | walk_at "ev"
  | ((with_reducible refine' ev_inT ?a ?p ?s ?d ?f ?x ?b); (case a => walk_at "ev"); (case p => exact evv_c); (case s => assumption); (case d => exact rfl); (case f => exact rfl); (case x => exact rfl); (case b => walk_at "bq"))
  | ((with_reducible refine' ev_inU2 ?a ?p ?l ?d ?x ?f ?y ?b); (case a => walk_at "ev"); (case p => walk_at "ea"); (case l => (show _ ≤ _; decide)); (case d => exact rfl); (case x => exact rfl); (case f => exact rfl); (case y => exact rfl); (case b => walk_at "bq"))
  | ((with_reducible refine' ev_slA ?a ?l ?h ?r); (case a => walk_at "ev"); (case l => walk_at "eo"); (case h => walk_at "eo"); (case r => exact rfl)))
local macro_rules | `(tactic| walk_at "et2") => `(tactic| first
  | walk_at "et"
  | ((with_reducible refine' et_is ?a); (case a => walk_at "ev2"))
  | ((with_reducible refine' et_isB ?a); (case a => walk_at "ev2")))
local macro_rules | `(tactic| walk_at "eo") => `(tactic| first
  | with_reducible exact eo_none
  | ((with_reducible refine' eo_some ?a); (case a => walk_at "ev")))
def spLaw (K : PySem.W.Frag) : Sp := fun vs H Q _ => ∃ (a : Addr) (ns : List Int), vs = [.ref a] ∧ SqL K H a (ns.map V.int) ∧ ∀ J, Q (.bl true) J
section
variable {P : Program} {w : World} {K : PySem.W.Frag} {mg : Str → Option Value} {base : Heap}
abbrev s_law : Stmt := top 64
theorem sc_law : FnScope ["_law_script", "_law_deck_here", "_law_turn", "_law_program_here", "_law_value", "_law_kept", "_law_other", "_law_number_here", "_law_turns_here", "_law_due", "_law_row_here"] ["_law_script"] (defScope s_law) := ⟨rfl, rfl, rfl, by decide +kernel, rfl, by decide +kernel, by decide +kernel⟩
theorem fg_law {f : Addr} {fd : FuncData} (F : Fun K "law" "law" s_law f fd) (T : Gb K w mg) (FEx : Fn K mg "each_run" s_each_run ["program", "number"]) (GE_each_run : GDf P w K mg base 20 "each_run" ["program", "number"] spEach) (G_runs_on : Df P w K mg base 19 "runs_on" ["program", "number"] (spFL A_runs_on)) (G__law_deck : Df P w K mg base 1 "_law_deck" ["_law_script"] (spDeck K)) (G__law_program : Df P w K mg base 16 "_law_program" ["_law_deck_here", "_law_names_here"] (spKE PC A_prog)) (G__law_names : Df P w K mg base 3 "_law_names" ["_law_deck_here"] spNamesE)
    (G__law_shallow : Df P w K mg base 5 "_law_shallow" ["_law_block_here"] (spF (A_shallow 4))) (G_turned : Df P w K mg base 11 "turned" ["program"] (spF (A_turned 4))) (G__law_turned : Df P w K mg base 5 "_law_turned" ["_law_block_here"] (spF (A_turned 4))) (G_program_error : Df P w K mg base 15 "program_error" ["value"] (spF A_program_error)) (G__law_number : Df P w K mg base 3 "_law_number" ["_law_deck_here"] (spKE 4 A_number)) (G__law_turns : Df P w K mg base 2 "_law_turns" ["_law_deck_here"] (spKE 9 A_turns))
    (G_run : Df P w K mg base 18 "run" ["program", "number", "turns"] (spF A_run)) (G__law_contrary : Df P w K mg base 1 "_law_contrary" ["_law_row_here"] (spF A_contrary)) : FnG P w K mg base 25 f fd "_law_script" (spLaw K) := by
  obtain ⟨fE, fdE, FE, hmE, hbE⟩ := FEx
  refine fnG_of F sc_law fun cv sh H y Q E hr h => ?_
  obtain ⟨a, ns, e, hs, q⟩ := h
  injection e with e _
  subst e
  have hU : (callerA.deeper (envOfC "law" (defScope s_law) sh.heap.objs.size f cv)).units + 200 < cLine := by have := hr.un; omega
  refine ⟨_, (pss_cons (ps_set (i := 1) sc_law.nd rfl (Or.inl rfl) (pe_df G__law_deck (hr.mono (by first | decide | omega)) (pa_cons (pv 0) pa_nil))) (pss_cons (ps_for PassesOwn.never rfl (pi_range1 rfl T.range_ (pa_cons pe_int pa_nil)) (pg_name (i := 2) sc_law.nd rfl (Or.inl rfl)) (pss_cons (ps_set (i := 3) sc_law.nd rfl (Or.inl rfl) (pe_df G__law_program (hr.mono (by first | decide | omega)) (pa_cons (pv 1) (pa_cons (pe_df G__law_names (hr.mono (by first | decide | omega)) (pa_cons (pv 1) pa_nil)) pa_nil)))) (pss_one (ps_for PassesOwn.never rfl (pi_list (pe_lst (pa_cons (pv 3) (pa_cons (pe_df G__law_shallow (hr.mono (by first | decide | omega)) (pa_cons (pv 3) pa_nil)) (pa_cons (pe_revA (pe_df G__law_shallow (hr.mono (by first | decide | omega)) (pa_cons (pv 3) pa_nil))) pa_nil))))) (pg_name (i := 4) sc_law.nd rfl (Or.inl rfl)) (pss_cons (ps_par (i := 5) (j := 6) (by rfl) sc_law.nd rfl rfl (by decide) rfl rfl (pa_cons (pe_callB (id := "repr") (call_reprD rfl hU) (by rfl) T.repr_ (by decide +kernel) (pa_cons (pv 4) pa_nil)) (pa_cons (pe_df G_turned (hr.mono (by first | decide | omega)) (pa_cons (pv 4) pa_nil)) pa_nil)) (by rfl)) (pss_cons (ps_if (PW.pt (pw_or (pt_cmpR op_ne (pe_callB (id := "repr") (call_reprD rfl hU) (by rfl) T.repr_ (by decide +kernel) (pa_cons (pv 6) pa_nil)) (pe_callB (id := "repr") (call_reprD rfl hU) (by rfl) T.repr_ (by decide +kernel) (pa_cons (pe_df G__law_turned (hr.mono (by first | decide | omega)) (pa_cons (pv 4) pa_nil)) pa_nil)) (nomark _)) (pw_or (pt_cmpR op_ne (pe_callB (id := "repr") (call_reprD rfl hU) (by rfl) T.repr_ (by decide +kernel) (pa_cons (pe_df G_turned (hr.mono (by first | decide | omega)) (pa_cons (pv 4) pa_nil)) pa_nil)) (pe_callB (id := "repr") (call_reprD rfl hU) (by rfl) T.repr_ (by decide +kernel) (pa_cons (pv 6) pa_nil)) (nomark _)) (pw_or1 (pt_cmpR op_ne (pe_callB (id := "repr") (call_reprD rfl hU) (by rfl) T.repr_ (by decide +kernel) (pa_cons (pv 4) pa_nil)) (pv 5) (nomark _)))))) (pss_one (ps_ret pe_bl)) pss_nil) (pss_one (ps_if (pt_cmpR op_isN (pe_df G_program_error (hr.mono (by first | decide | omega)) (pa_cons (pv 6) pa_nil)) pe_non (nomark _)) (pss_cons (ps_par (i := 7) (j := 8) (by rfl) sc_law.nd rfl rfl (by decide) rfl rfl (pa_cons (pe_df G__law_number (hr.mono (by first | decide | omega)) (pa_cons (pv 1) pa_nil)) (pa_cons (pe_df G__law_turns (hr.mono (by first | decide | omega)) (pa_cons (pv 1) pa_nil)) pa_nil)) (by rfl)) (pss_cons (ps_if (pt_cmpR op_ne (pe_callB (id := "repr") (call_reprD rfl hU) (by rfl) T.repr_ (by decide +kernel) (pa_cons (pe_df G_turned (hr.mono (by first | decide | omega)) (pa_cons (pv 6) pa_nil)) pa_nil)) (pe_callB (id := "repr") (call_reprD rfl hU) (by rfl) T.repr_ (by decide +kernel) (pa_cons (pe_df G__law_turned (hr.mono (by first | decide | omega)) (pa_cons (pv 6) pa_nil)) pa_nil)) (nomark _)) (pss_one (ps_ret pe_bl)) pss_nil) (pss_cons (ps_if (pt_cmpR op_ne (pe_callB (id := "repr") (call_reprD rfl hU) (by rfl) T.repr_ (by decide +kernel) (pa_cons (pe_df G_run (hr.mono (by first | decide | omega)) (pa_cons (pv 6) (pa_cons (pv 7) (pa_cons (pv 8) pa_nil)))) pa_nil)) (pe_callB (id := "repr") (call_reprD rfl hU) (by rfl) T.repr_ (by decide +kernel) (pa_cons (pe_df G__law_contrary (hr.mono (by first | decide | omega)) (pa_cons (pe_df G_run (hr.mono (by first | decide | omega)) (pa_cons (pv 4) (pa_cons (pv 7) (pa_cons (pv 8) pa_nil)))) pa_nil)) pa_nil)) (nomark _)) (pss_one (ps_ret pe_bl)) pss_nil) (pss_cons (ps_setLcG (i := 9) (y0 := "_law_row_here") (j := 10) (j2 := 2) (k := 20) (by rfl) sc_law.nd rfl rfl (sw_true rfl rfl rfl (by decide +kernel)) (blkOk_by (own := [("_law_row_here", 10)]) (N := ["_law_script", "_law_deck_here", "_law_turn", "_law_program_here", "_law_value", "_law_kept", "_law_other", "_law_number_here", "_law_turns_here", "_law_due", "_law_row_here"]) (sc := defScope s_law) (by decide +kernel)) (by decide +kernel) FE rfl sc_each_run (by decide +kernel) hbE (hr.mono (by first | decide | omega)) (by rfl) hmE (pa_cons (pv 4) (pa_cons (pv 7) pa_nil)) (fun _ _ _ => pe_df G_runs_on (((hr.mono (j := 21) (by decide)).in1).deeper _) (pa_cons (pv 0) (pa_cons (pv 1) pa_nil))) (fun _ _ _ => pg_name (i := 2) sc_each_run.nd rfl (Or.inl rfl)) (fun _ _ _ => pv 2) (by decide) (fun _ _ => rfl) (fun _ _ _ => rfl) (fun _ _ _ _ _ => pg_name (i := 10) sc_law.nd rfl (Or.inl rfl)) (fun _ _ _ _ _ => pe_df G__law_contrary (hr.mono (by first | decide | omega)) (pa_cons (pv 10) pa_nil)) (fun _ _ _ _ _ _ _ q => wpAny_pure q)) (pss_one (ps_if (pt_cmpR op_ne (pe_callB (id := "repr") (call_reprD rfl hU) (by rfl) T.repr_ (by decide +kernel) (pa_cons (pe_lrun GE_each_run (hr.mono (by first | decide | omega)) T.list_ (pa_cons (pv 6) (pa_cons (pv 7) pa_nil))) pa_nil)) (pe_callB (id := "repr") (call_reprD rfl hU) (by rfl) T.repr_ (by decide +kernel) (pa_cons (pv 9) pa_nil)) (nomark _)) (pss_one (ps_ret pe_bl)) pss_nil)))))) pss_nil)))))))) (pss_one (ps_ret (pe_cmpR op_eq (pe_callB (id := "repr") (call_reprD rfl hU) (by rfl) T.repr_ (by decide +kernel) (pa_cons (pe_df G_turned (hr.mono (by first | decide | omega)) (pa_cons (pe_tup pa_nil) pa_nil)) pa_nil)) pe_str (nomark _)))))), ?_⟩
  refine ⟨_, rfl, a, ns, rfl, hs, fun p c J1 hp hc hpc g1 dk1 => ?_⟩
  have w1 : Wk p c (fun _ => True) 0 J1 := ⟨dk1, trivial⟩
  have here1 : ∀ z ∈ [p, c], J1 z ≠ none := dk1.here
  refine qk_forR (S := [p, c]) (m1 := 0) (P1 := fun i => i = 6) w1 (ek_ci bd0 ⟨6, rfl, rfl⟩) (fun i hi => by omega) fun i J2 hi g2 w2 => ?_
  subst hi
  refine ⟨fun n σ J => ∃ o2 o3 o4 o5 o6 o7 o8 o9 : Option V, σ = [some (.ref a), some (.ref p), o2, o3, o4, o5, o6, o7, o8, o9, none] ∧ Mv [p, c] J1 J ∧ Dk p c (n * 3000000) J, ⟨none, none, none, none, none, none, none, none, rfl, g2, w2.1⟩, ?_, ?_⟩
  · rintro n σ J3 hn ⟨o2, o3, o4, o5, o6, o7, o8, o9, rfl, g3, dk3⟩
    have hn6 : n < 6 := hn
    have ePC : PC ≤ 2000000 := by decide
    refine ⟨_, rfl, _, rfl, p, c, n * 3000000, rfl, dk3, by omega, fun pn ws nds J4 hnd hpn g4 dk4 hx4 tx4 => ?_⟩
    have hpnS : pn ∉ [p, c] := fun z => dk3.here pn z hpn
    refine ⟨p, c, [.ref pn], [.l nds], IsProg, n * 3000000 + 40, rfl, .cons ⟨pn, ws, rfl, hx4, tx4, hpnS⟩ .nil, ⟨nds, rfl, hnd, rfl⟩, by omega, dk4, fun v d J5 hd g5 dk5 t5 => ?_⟩
    obtain ⟨b, hb, rfl⟩ := hd
    have hb : Pg 3 b := hb
    have hb2 := hb.shallow
    have hb3 := hb2.rev
    have sh1 : ∀ {σ : St} {J : Hp}, σ[3]? = some (some v) → Td J v (blk b) → EvD (tCall (spF (A_shallow 4)) [] E0 (tCons (tVar 3) tNil)) σ J (.tuple (bds (shB b))) := fun {σ J} h1 h2 => ev_call (A := A_shallow 4) (ds := [blk b]) (ea_cons (ev_var h1 h2) ea_nil) ⟨b, 3, rfl, hb.1, rfl⟩
    have er : (bds (shB b)).reverse = bds (shB b).reverse := by rw [bds_map, bds_map, List.map_reverse]
    have g15 := (g3.trans g4).trans g5
    refine s_forL (K := K) (ds := [blk b, blk (shB b), .tuple (bds (shB b)).reverse]) Mv.rfl (el_lst (ea_cons (ev_var rfl t5) (ea_cons (sh1 rfl t5) (ea_cons (ev_revA (sh1 rfl t5)) ea_nil))) (by show 3 ≤ 1000; decide)) fun q0 xs J6 hq0 g6 hx6 tx6 => ?_
    have hq0S : q0 ∉ [p, c] := fun z => dk5.here q0 z hq0
    refine ⟨fun j σ J => ∃ o4 o5 o6 o7 o8 o9 : Option V, σ = [some (.ref a), some (.ref p), some (.int (0 + (n : Int))), some v, o4, o5, o6, o7, o8, o9, none] ∧ Mv [p, c] J6 J ∧ Dk p c (n * 3000000 + 40 + PC + j * 13) J, ⟨o4, o5, o6, o7, o8, o9, rfl, Mv.rfl, by rw [Nat.zero_mul, Nat.add_zero]; exact dk5.mono g6⟩, ?_, ?_, ?_⟩
    · rintro j σ J ⟨_, _, _, _, _, _, _, m, _⟩
      exact ⟨m.tup, m.keep q0 _ hq0S hx6⟩
    · rintro j d u σ J hj td ⟨o4, o5, o6, o7, o8, o9, rfl, m, dkJ⟩
      have hj3 : j < 3 := (List.getElem?_eq_some_iff.mp hj).1
      obtain ⟨x, hx, ed⟩ : ∃ x, Pg 3 x ∧ d = blk x := by
        have hmem := List.mem_of_getElem? hj
        rcases List.mem_cons.mp hmem with e | hmem
        · exact ⟨b, hb, e⟩
        rcases List.mem_cons.mp hmem with e | hmem
        · exact ⟨_, hb2, e⟩
        · exact ⟨_, hb3, by rw [List.mem_singleton.mp hmem, er]; rfl⟩
      subst ed
      refine val_walk (K := K) td hx dkJ (by omega) fun o5 o6 o7 o8 o9 J7 g7 dk7 => ⟨some u, o5, o6, o7, o8, o9, rfl, m.trans g7, dk7.le (by omega)⟩
    · rintro σ J ⟨o4, o5, o6, o7, o8, o9, rfl, m, dkJ⟩
      have hl : ([blk b, blk (shB b), .tuple (bds (shB b)).reverse] : List PyData).length = 3 := rfl
      rw [hl] at dkJ
      exact ⟨_, _, _, _, _, _, _, _, rfl, (g15.trans g6.up).trans m, dkJ.le (by omega)⟩
  · rintro σ J3 ⟨o2, o3, o4, o5, o6, o7, o8, o9, rfl, g3, dk3⟩
    have e0 : Pg 3 ([] : List S) := ⟨⟨by decide, fun s h => nomatch h⟩, by decide, by rw [slimL]; trivial⟩
    have r0 : Rp (blk (turnB [])) := e0.turn.rp (by decide)
    refine s_ret Mv.rfl (ev_eqS (x := (blk (turnB [])).shown) (y := "()") (b := true) (ev_reprT (ev_call (A := A_turned 4) (ds := [blk []]) (ea_cons (ev_tup (ds := bds []) (by rw [bds]; exact ea_nil) (by rw [bds]; decide)) ea_nil) ⟨[], 3, rfl, e0.1, rfl⟩) r0) ev_str (by rw [turnB]; decide +kernel)) fun v d J4 ed g4 t4 => ?_
    subst ed
    have e := t4.bl_inv
    subst e
    exact q J4
end
end K27
namespace K27
open PySem PySem.Spec L2
open PyProof.Rows hiding St
local macro_rules | `(tactic| walk_at "td") => `(tactic| first | assumption | exact Td.int _ | exact Td.str _ | exact Td.bl _ | exact Td.non)
local macro_rules | `(tactic| walk_at "bq") => `(tactic| first | exact rfl | assumption | decide)
local macro_rules | `(tactic| walk_at "kb") => `(tactic| first | exact kii | exact ksi | exact kti | exact kib | exact kss | exact kis | exact kts | exact ktt | exact kst | exact kit)
local macro_rules | `(tactic| walk_at "ev") => `(tactic| first
  | with_reducible exact ev_int
  | with_reducible exact ev_str
  | with_reducible exact ev_bl
  | with_reducible exact ev_non
  | ((with_reducible refine' ev_var ?e ?t); (case e => exact rfl); (case t => walk_at "td"))
  | ((with_reducible refine' ev_ix ?a ?n ?z); (case a => walk_at "ev"); (case z => decide); (case n => exact rfl))
  | ((with_reducible refine' ev_isi ?a ?k); (case a => walk_at "ev"); (case k => walk_at "kb"))
  | ((with_reducible refine' ev_len ?a ?k); (case a => walk_at "ev"); (case k => exact rfl))
  | ((with_reducible refine' ev_cmpI ?a ?b ?r); (case a => walk_at "ev"); (case b => walk_at "ev"); (case r => walk_at "bq"))
  | ((with_reducible refine' ev_I0 ?a ?b ?r); (case a => walk_at "ev"); (case b => walk_at "ev"); (case r => exact rfl))
  | ((with_reducible refine' ev_eqS ?a ?b ?r); (case a => walk_at "ev"); (case b => walk_at "ev"); (case r => walk_at "bq"))
  | ((with_reducible refine' ev_eqI ?a ?b ?r); (case a => walk_at "ev"); (case b => walk_at "ev"); (case r => walk_at "bq"))
  | ((with_reducible refine' ev_neI ?a ?b ?r); (case a => walk_at "ev"); (case b => walk_at "ev"); (case r => walk_at "bq"))
  | ((with_reducible refine' ev_notV ?a ?r); (case a => walk_at "ev"); (case r => walk_at "bq"))
  | ((with_reducible refine' ev_chain ?a ?b ?c ?r); (case a => walk_at "ev"); (case b => walk_at "ev"); (case c => walk_at "ev"); (case r => walk_at "bq"))
  | ((with_reducible refine' ev_tup ?a ?l); (case a => walk_at "ea"); (case l => (show _ ≤ _; decide))))
local macro_rules | `(tactic| walk_at "ea") => `(tactic| first
  | with_reducible exact ea_nil
  | ((with_reducible refine' ea_cons ?a ?b); (case a => walk_at "ev"); (case b => walk_at "ea")))
local macro_rules | `(tactic| walk_at "et") => `(tactic| first
  | ((with_reducible refine' et_notI ?a ?r); (case a => walk_at "et"); (case r => walk_at "bq"))
  | ((with_reducible refine' et_is ?a); (case a => walk_at "ev"))
  | ((with_reducible refine' et_isB ?a); (case a => walk_at "ev"))
  | ((with_reducible refine' et_and ?a ?b ?c); (case a => walk_at "et"); (case b => (intro _; walk_at "et")); (case c => (intro z; first | exact z | (cases z; done) | rfl)))
  | ((with_reducible refine' et_or ?a ?b ?c); (case a => walk_at "et"); (case b => (intro _; walk_at "et")); (case c => (intro z; first | exact z | (cases z; done) | rfl))))
local macro_rules | `(tactic| walk_at "ev2") => `(tactic| first
  | walk_at "ev"
  | ((with_reducible refine' ev_inT ?a ?p ?s ?d ?f ?x ?b); (case a => walk_at "ev"); (case p => exact evv_c); (case s => assumption); (case d => exact rfl); (case f => exact rfl); (case x => exact rfl); (case b => walk_at "bq"))
  | ((with_reducible refine' ev_inU2 ?a ?p ?l ?d ?x ?f ?y ?b); (case a => walk_at "ev"); (case p => walk_at "ea"); (case l => (show _ ≤ _; decide)); (case d => exact rfl); (case x => exact rfl); (case f => exact rfl); (case y => exact rfl); (case b => walk_at "bq"))
  | ((with_reducible refine' ev_slA ?a ?l ?h ?r); (case a => walk_at "ev"); (case l => walk_at "eo"); (case h => walk_at "eo"); (case r => exact rfl)))
local macro_rules | `(tactic| walk_at "et2") => `(tactic| first
  | walk_at "et"
  | ((with_reducible refine' et_is ?a); (case a => walk_at "ev2"))
  | ((with_reducible refine' et_isB ?a); (case a => walk_at "ev2")))
local macro_rules | `(tactic| walk_at "eo") => `(tactic| first
  | with_reducible exact eo_none
  | ((with_reducible refine' eo_some ?a); (case a => walk_at "ev")))
/-! ### the head: facts by names, the run -/
def gdef (i : Nat) (x : Str) : He.DefD := ⟨(x, none), x, x, defArgs (top i), defBody (top i), defScope (top i), [], []⟩
def mdef (j : Nat) (x q : Str) : He.DefD := ⟨("Course", some x), x, q, defArgs (inClass (top 43) j), defBody (inClass (top 43) j), defScope (inClass (top 43) j), [], []⟩
def hfn0 : List He.DefD := [gdef 19 "is_whole", gdef 20 "is_name", gdef 21 "is_expression", gdef 22 "is_rest", gdef 23 "is_test", gdef 24 "are_blocks", gdef 25 "is_statement", gdef 26 "blocks_of", gdef 27 "with_blocks", gdef 28 "items_within", gdef 29 "rows_of", gdef 30 "order_error", gdef 31 "bare", gdef 32 "own_count", gdef 33 "counted", gdef 34 "weight", gdef 35 "program_error", gdef 36 "turned_statement", gdef 37 "turned", gdef 41 "value_of"]
def hfn1 : List He.DefD := [gdef 42 "is_true", gdef 44 "run", gdef 45 "next_turns", gdef 46 "runs_on", gdef 47 "each_run", gdef 49 "_law_deck", gdef 50 "_law_draw", gdef 51 "_law_one", gdef 52 "_law_names", gdef 53 "_law_expression", gdef 54 "_law_test", gdef 55 "_law_plain", gdef 56 "_law_row", gdef 57 "_law_block", gdef 58 "_law_program", gdef 59 "_law_number", gdef 60 "_law_turns", gdef 61 "_law_turned", gdef 62 "_law_contrary", gdef 63 "_law_shallow"]
def hfn2 : List He.DefD := [gdef 64 "law", mdef 0 "__init__" "Course.__init__", mdef 1 "choice" "Course.choice", mdef 2 "parts" "Course.parts", mdef 3 "do" "Course.do", mdef 4 "go" "Course.go"]
abbrev hfn : List He.DefD := hfn0 ++ (hfn1 ++ (hfn2))

def hfa0 : List He.Fa := [.free "len", .free "isinstance", .free "int", .free "str", .free "tuple", .free "bool", .free "list", .free "sum", .free "abs", .free "max", .free "range", .free "repr", .int "MAX_NAME" 8, .int "MAX_TIMES" 8, .int "MAX_DEEP" 3, .int "MAX_NOTS" 2, .int "MAX_BY" 6, .int "MAX_PLACES" 24, .int "MAX_WEIGHT" 30, .int "MAX_CHOICES" 4]
def hfa1 : List He.Fa := [.int "MAX_RESTS" 2, .int "MAX_COMPARINGS" 2, .int "MAX_NEST" 3, .int "MOST_NUMBER" 99, .int "MOST_FACTOR" 9, .int "FIRST" 0, .str "LETTERS" "abcdefghijklmnopqrstuvwxyz", .str "SIGNS" "abcdefghijklmnopqrstuvwxyz0123456789", .str "INPUT" "n", .glo "KEPT", .glo "CHOICES", .glo "OPPOSITES", .glo "Course", .cls "Course", .noat "Course" "names", .noat "Course" "total", .noat "Course" "turns", .noat "Course" "hands", .noat "Course" "asked", .noat "Course" "is_stopped"]
def hfa2 : List He.Fa := [.mkr "Course", .meth "Course" "choice", .meth "Course" "parts", .meth "Course" "do", .meth "Course" "go", .glo "is_whole", .glo "is_name", .glo "is_expression", .glo "is_rest", .glo "is_test", .glo "are_blocks", .glo "is_statement", .glo "blocks_of", .glo "with_blocks", .glo "items_within", .glo "rows_of", .glo "order_error", .glo "bare", .glo "own_count", .glo "counted"]
def hfa3 : List He.Fa := [.glo "weight", .glo "program_error", .glo "turned_statement", .glo "turned", .glo "value_of", .glo "is_true", .glo "run", .glo "next_turns", .glo "runs_on", .glo "each_run", .glo "_law_deck", .glo "_law_draw", .glo "_law_one", .glo "_law_names", .glo "_law_expression", .glo "_law_test", .glo "_law_plain", .glo "_law_row", .glo "_law_block", .glo "_law_program"]
def hfa4 : List He.Fa := [.glo "_law_number", .glo "_law_turns", .glo "_law_turned", .glo "_law_contrary", .glo "_law_shallow", .glo "law"]
abbrev hfa : List He.Fa := hfa0 ++ (hfa1 ++ (hfa2 ++ (hfa3 ++ (hfa4))))

def keptT : List He.Dv := [.str "set", .str "pay", .str "stop", .str "if", .str "else", .str "we", .str "they", .str "or", .str "repeat", .str "pass", .str "rest", .str "of", .str "not", .str "program"]
def chT : List He.Dv := [.str "we", .str "they"]
def oppT : List (Str × He.Dv) := [("we", .str "they"), ("they", .str "we")]
def oppN : List Str := ["set", "stop", "if", "repeat"]
def hex (K : PySem.W.Frag) : Bool := He.tupB K "KEPT" keptT && (He.tupB K "CHOICES" chT && (He.valsB K (He.ga K "OPPOSITES") oppT && oppN.all fun x => He.eqO (PySem.W.nsIn K (He.ga K "OPPOSITES") x) (some none)))
abbrev hts : List He.Tab := [(fun K => He.ga K "OPPOSITES", ["we", "they"])]
abbrev hR : PySem.W.OpenRow := PySem.W.OpenLaw.row PySem.Challenge.rw_weandthey_k27_whole_turned_programs
abbrev hk : PySem.W.Hook := He.hookX 4 hfa hfn hts [] hex
def hOb (s : PySem.W.SharedT) : He.AlX := He.obsX 4 hfa hfn hts [] hex (HandSHeadRun.getT s)
theorem hOb_eq (s : PySem.W.SharedT) : hOb s = hk.obs s.abs := He.obsX_eq (HandSHeadRun.getT_eq s)
def loose0 : List Str := ["MAX_NAME", "MAX_TIMES", "MAX_DEEP", "MAX_NOTS", "MAX_BY", "MAX_PLACES", "MAX_WEIGHT", "MAX_CHOICES", "MAX_RESTS", "MAX_COMPARINGS", "MAX_NEST", "LETTERS", "SIGNS", "KEPT", "CHOICES", "MOST_NUMBER", "MOST_FACTOR", "OPPOSITES", "is_whole", "is_name", "is_expression", "is_rest", "is_test", "are_blocks", "is_statement", "blocks_of", "with_blocks", "items_within"]
def loose1 : List Str := ["rows_of", "order_error", "bare", "own_count", "counted", "weight", "program_error", "turned_statement", "turned", "FIRST", "INPUT", "value_of", "is_true", "Course", "run", "next_turns", "runs_on", "each_run", "_law_deck", "_law_draw", "_law_one", "_law_names", "_law_expression", "_law_test", "_law_plain", "_law_row", "_law_block", "_law_program"]
def loose2 : List Str := ["_law_number", "_law_turns", "_law_turned", "_law_contrary", "_law_shallow"]
abbrev loose : List Str := loose0 ++ (loose1 ++ (loose2))

theorem hRunB (b : Bool) (w : World) : HandSHeadRun.RunEq hR (PySem.W.view hR.prog [64]) hk hOb 3000 loose (w.withFollow "special-get-raises" b) := by
  cases b
  · intro os
    kernel_rfl
  · intro os
    kernel_rfl
theorem hRun (w : World) : HandSHeadRun.RunEq hR (PySem.W.view hR.prog [64]) hk hOb 3000 loose w := by
  have e := World.withFollow_self w "special-get-raises"
  rw [← e]
  exact hRunB _ w
end K27
namespace K27
open PySem PySem.Spec L2
open PyProof.Rows hiding St
local macro_rules | `(tactic| walk_at "td") => `(tactic| first | assumption | exact Td.int _ | exact Td.str _ | exact Td.bl _ | exact Td.non)
local macro_rules | `(tactic| walk_at "bq") => `(tactic| first | exact rfl | assumption | decide)
local macro_rules | `(tactic| walk_at "kb") => `(tactic| first | exact kii | exact ksi | exact kti | exact kib | exact kss | exact kis | exact kts | exact ktt | exact kst | exact kit)
local macro_rules | `(tactic| walk_at "ev") => `(tactic| first
  | with_reducible exact ev_int
  | with_reducible exact ev_str
  | with_reducible exact ev_bl
  | with_reducible exact ev_non
  | ((with_reducible refine' ev_var ?e ?t); (case e => exact rfl); (case t => walk_at "td"))
  | ((with_reducible refine' ev_ix ?a ?n ?z); (case a => walk_at "ev"); (case z => decide); (case n => exact rfl))
  | ((with_reducible refine' ev_isi ?a ?k); (case a => walk_at "ev"); (case k => walk_at "kb"))
  | ((with_reducible refine' ev_len ?a ?k); (case a => walk_at "ev"); (case k => exact rfl))
  | ((with_reducible refine' ev_cmpI ?a ?b ?r); (case a => walk_at "ev"); (case b => walk_at "ev"); (case r => walk_at "bq"))
  | ((with_reducible refine' ev_I0 ?a ?b ?r); (case a => walk_at "ev"); (case b => walk_at "ev"); (case r => exact rfl))
  | ((with_reducible refine' ev_eqS ?a ?b ?r); (case a => walk_at "ev"); (case b => walk_at "ev"); (case r => walk_at "bq"))
  | ((with_reducible refine' ev_eqI ?a ?b ?r); (case a => walk_at "ev"); (case b => walk_at "ev"); (case r => walk_at "bq"))
  | ((with_reducible refine' ev_neI ?a ?b ?r); (case a => walk_at "ev"); (case b => walk_at "ev"); (case r => walk_at "bq"))
  | ((with_reducible refine' ev_notV ?a ?r); (case a => walk_at "ev"); (case r => walk_at "bq"))
  | ((with_reducible refine' ev_chain ?a ?b ?c ?r); (case a => walk_at "ev"); (case b => walk_at "ev"); (case c => walk_at "ev"); (case r => walk_at "bq"))
  | ((with_reducible refine' ev_tup ?a ?l); (case a => walk_at "ea"); (case l => (show _ ≤ _; decide))))
local macro_rules | `(tactic| walk_at "ea") => `(tactic| first
  | with_reducible exact ea_nil
  | ((with_reducible refine' ea_cons ?a ?b); (case a => walk_at "ev"); (case b => walk_at "ea")))
local macro_rules | `(tactic| walk_at "et") => `(tactic| first
  | ((with_reducible refine' et_notI ?a ?r); (case a => walk_at "et"); (case r => walk_at "bq"))
  | ((with_reducible refine' et_is ?a); (case a => walk_at "ev"))
  | ((with_reducible refine' et_isB ?a); (case a => walk_at "ev"))
  | ((with_reducible refine' et_and ?a ?b ?c); (case a => walk_at "et"); (case b => (intro _; walk_at "et")); (case c => (intro z; first | exact z | (cases z; done) | rfl)))
  | ((with_reducible refine' et_or ?a ?b ?c); (case a => walk_at "et"); (case b => (intro _; walk_at "et")); (case c => (intro z; first | exact z | (cases z; done) | rfl))))
local macro_rules | `(tactic| walk_at "ev2") => `(tactic| first
  | walk_at "ev"
  | ((with_reducible refine' ev_inT ?a ?p ?s ?d ?f ?x ?b); (case a => walk_at "ev"); (case p => exact evv_c); (case s => assumption); (case d => exact rfl); (case f => exact rfl); (case x => exact rfl); (case b => walk_at "bq"))
  | ((with_reducible refine' ev_inU2 ?a ?p ?l ?d ?x ?f ?y ?b); (case a => walk_at "ev"); (case p => walk_at "ea"); (case l => (show _ ≤ _; decide)); (case d => exact rfl); (case x => exact rfl); (case f => exact rfl); (case y => exact rfl); (case b => walk_at "bq"))
  | ((with_reducible refine' ev_slA ?a ?l ?h ?r); (case a => walk_at "ev"); (case l => walk_at "eo"); (case h => walk_at "eo"); (case r => exact rfl)))
local macro_rules | `(tactic| walk_at "et2") => `(tactic| first
  | walk_at "et"
  | ((with_reducible refine' et_is ?a); (case a => walk_at "ev2"))
  | ((with_reducible refine' et_isB ?a); (case a => walk_at "ev2")))
local macro_rules | `(tactic| walk_at "eo") => `(tactic| first
  | with_reducible exact eo_none
  | ((with_reducible refine' eo_some ?a); (case a => walk_at "ev")))
/-! ### the facts by names -/
section
variable {P : Program} {w : World} {K : PySem.W.Frag} {h : Heap} {mg : Str → Option Value} {base : Heap}
theorem fun_of {x q : Str} {st : Stmt} {f : Addr} {fd : FuncData} (F : FunD K x q (defArgs st) (defBody st) (defScope st) [] [] f fd) : Fun K x q st f fd := by
  obtain ⟨⟨oc, od, dV, kV, doc, pm, an, cdv, ct, osl, e, lk, hc, hd, _⟩, kp⟩ := F
  rcases hd with ⟨_, rfl⟩ | ⟨z, _⟩
  · exact ⟨⟨oc, od, kV, doc, pm, an, cdv, ct, osl, e, lk, hc⟩, kp⟩
  · exact absurd rfl z
theorem fn_mk {i j n : Nat} {x : Str} {ps : List Str} (X : K.In h) (G : h.Ns mainGlobals mg) (c : He.SaysD hfa hfn K) (hi : hfa[i]? = some (.glo x)) (hj : hfn[j]? = some (gdef n x))
    (hb : ∀ (kV doc pm : Value) (an : Option Addr) (cdv ct : Value) (us : List Value), us.length = ps.length → bindArgs (PySem.W.fnOf x x (defArgs (top n)) (defBody (top n)) (defScope (top n)) .none kV doc pm an cdv ct) ⟨us, []⟩ = pure (ps.zip us)) : Fn K mg x (top n) ps := by
  obtain ⟨fd, F⟩ := c.def_ j hj
  exact ⟨_, fd, fun_of F, He.glo_ok X G (c.fact i hi), FunD.bindsN F hb⟩
theorem fm_mk {i j n : Nat} {x q : Str} {ps : List Str} (c : He.SaysD hfa hfn K) (hi : hfa[i]? = some (.meth "Course" x)) (hj : hfn[j]? = some (mdef n x q))
    (hb : ∀ (kV doc pm : Value) (an : Option Addr) (cdv ct : Value) (us : List Value), us.length = ps.length → bindArgs (PySem.W.fnOf x q (defArgs (inClass (top 43) n)) (defBody (inClass (top 43) n)) (defScope (inClass (top 43) n)) .none kV doc pm an cdv ct) ⟨us, []⟩ = pure (ps.zip us)) : Fm K x q (inClass (top 43) n) ps := by
  obtain ⟨fd, F⟩ := c.def_ j hj
  exact ⟨_, fd, fun_of F, He.meth_ok (c.fact i hi), FunD.bindsN F hb⟩
theorem hex_ok (e : hex K = true) : (∀ H, SqT K H (He.ga K "KEPT") (keptT.map (He.Dv.v K))) ∧ (∀ H, SqT K H (He.ga K "CHOICES") (chT.map (He.Dv.v K))) ∧ He.valsB K (He.ga K "OPPOSITES") oppT = true ∧ ∀ x ∈ oppN, PySem.W.nsIn K (He.ga K "OPPOSITES") x = some none := by
  obtain ⟨e1, e⟩ := He.ba e
  obtain ⟨e2, e⟩ := He.ba e
  obtain ⟨e3, e4⟩ := He.ba e
  exact ⟨He.tupB_ok e1, He.tupB_ok e2, e3, fun x hx => He.eqO_ok (List.all_eq_true.mp e4 x hx)⟩
theorem gb_mk (X : K.In h) (G : h.Ns mainGlobals mg) (c : He.SaysX hfa hfn hts [] hex w h K) : Gb K w mg :=
  have d := c.t.d
  {
    len_ := He.free_ok X G (d.fact 0 rfl)
    isinstance_ := He.free_ok X G (d.fact 1 rfl)
    int_ := He.free_ok X G (d.fact 2 rfl)
    str_ := He.free_ok X G (d.fact 3 rfl)
    tuple_ := He.free_ok X G (d.fact 4 rfl)
    bool_ := He.free_ok X G (d.fact 5 rfl)
    list_ := He.free_ok X G (d.fact 6 rfl)
    sum_ := He.free_ok X G (d.fact 7 rfl)
    abs_ := He.free_ok X G (d.fact 8 rfl)
    max_ := He.free_ok X G (d.fact 9 rfl)
    range_ := He.free_ok X G (d.fact 10 rfl)
    repr_ := He.free_ok X G (d.fact 11 rfl)
    MAX_NAME := He.int_ok X G (d.fact 12 rfl)
    MAX_TIMES := He.int_ok X G (d.fact 13 rfl)
    MAX_DEEP := He.int_ok X G (d.fact 14 rfl)
    MAX_NOTS := He.int_ok X G (d.fact 15 rfl)
    MAX_BY := He.int_ok X G (d.fact 16 rfl)
    MAX_PLACES := He.int_ok X G (d.fact 17 rfl)
    MAX_WEIGHT := He.int_ok X G (d.fact 18 rfl)
    MAX_CHOICES := He.int_ok X G (d.fact 19 rfl)
    MAX_RESTS := He.int_ok X G (d.fact 20 rfl)
    MAX_COMPARINGS := He.int_ok X G (d.fact 21 rfl)
    MAX_NEST := He.int_ok X G (d.fact 22 rfl)
    MOST_NUMBER := He.int_ok X G (d.fact 23 rfl)
    MOST_FACTOR := He.int_ok X G (d.fact 24 rfl)
    FIRST := He.int_ok X G (d.fact 25 rfl)
    LETTERS := He.str_ok X G (d.fact 26 rfl)
    SIGNS := He.str_ok X G (d.fact 27 rfl)
    INPUT := He.str_ok X G (d.fact 28 rfl)
    KEPT := He.glo_ok X G (d.fact 29 rfl)
    CHOICES := He.glo_ok X G (d.fact 30 rfl)
    OPPOSITES := He.glo_ok X G (d.fact 31 rfl)
    kept := (hex_ok c.more).1
    choices := (hex_ok c.more).2.1
    oppD := c.t.tab 0 rfl
    oppW := He.valsB_ok (hex_ok c.more).2.2.1 (q := ("we", .str "they")) (List.mem_cons_self ..)
    oppT := He.valsB_ok (hex_ok c.more).2.2.1 (q := ("they", .str "we")) (List.mem_cons_of_mem _ (List.mem_cons_self ..))
    oppP := (hex_ok c.more).2.2.2 "set" (List.mem_cons_self ..)
    oppS := (hex_ok c.more).2.2.2 "stop" (List.mem_cons_of_mem _ (List.mem_cons_self ..))
    oppI := (hex_ok c.more).2.2.2 "if" (List.mem_cons_of_mem _ (List.mem_cons_of_mem _ (List.mem_cons_self ..)))
    oppR := (hex_ok c.more).2.2.2 "repeat" (List.mem_cons_of_mem _ (List.mem_cons_of_mem _ (List.mem_cons_of_mem _ (List.mem_cons_self ..))))
  }
theorem co_mk (X : K.In h) (G : h.Ns mainGlobals mg) (d : He.SaysD hfa hfn K) : Co K mg :=
  {
    cls := He.cls_ok (d.fact 33 rfl)
    names := He.noat_ok (d.fact 34 rfl)
    total := He.noat_ok (d.fact 35 rfl)
    turns := He.noat_ok (d.fact 36 rfl)
    hands := He.noat_ok (d.fact 37 rfl)
    asked := He.noat_ok (d.fact 38 rfl)
    stopped := He.noat_ok (d.fact 39 rfl)
    glo := He.glo_ok X G (d.fact 32 rfl)
    mkr := He.mkr_ok (d.fact 40 rfl)
  }
structure Fns (K : PySem.W.Frag) (mg : Str → Option Value) : Prop where
  is_whole : Fn K mg "is_whole" (top 19) ["value", "least", "most"]
  is_name : Fn K mg "is_name" (top 20) ["value"]
  is_expression : Fn K mg "is_expression" (top 21) ["value", "left"]
  is_rest : Fn K mg "is_rest" (top 22) ["value"]
  is_test : Fn K mg "is_test" (top 23) ["value", "nots"]
  are_blocks : Fn K mg "are_blocks" (top 24) ["values"]
  is_statement : Fn K mg "is_statement" (top 25) ["value"]
  blocks_of : Fn K mg "blocks_of" (top 26) ["statement"]
  with_blocks : Fn K mg "with_blocks" (top 27) ["statement", "blocks"]
  items_within : Fn K mg "items_within" (top 28) ["statement", "depth"]
  rows_of : Fn K mg "rows_of" (top 29) ["program"]
  order_error : Fn K mg "order_error" (top 30) ["value"]
  bare : Fn K mg "bare" (top 31) ["test"]
  own_count : Fn K mg "own_count" (top 32) ["statement", "sort"]
  counted : Fn K mg "counted" (top 33) ["block", "sort"]
  weight : Fn K mg "weight" (top 34) ["program"]
  program_error : Fn K mg "program_error" (top 35) ["value"]
  turned_statement : Fn K mg "turned_statement" (top 36) ["statement"]
  turned : Fn K mg "turned" (top 37) ["program"]
  value_of : Fn K mg "value_of" (top 41) ["expression", "names"]
  is_true : Fn K mg "is_true" (top 42) ["test", "names"]
  run : Fn K mg "run" (top 44) ["program", "number", "turns"]
  next_turns : Fn K mg "next_turns" (top 45) ["turns"]
  runs_on : Fn K mg "runs_on" (top 46) ["program", "number"]
  each_run : Fn K mg "each_run" (top 47) ["program", "number"]
  _law_deck : Fn K mg "_law_deck" (top 49) ["_law_script"]
  _law_draw : Fn K mg "_law_draw" (top 50) ["_law_deck_here", "_law_many"]
  _law_one : Fn K mg "_law_one" (top 51) ["_law_deck_here", "_law_items"]
  _law_names : Fn K mg "_law_names" (top 52) ["_law_deck_here"]
  _law_expression : Fn K mg "_law_expression" (top 53) ["_law_deck_here", "_law_names_here", "_law_deep"]
  _law_test : Fn K mg "_law_test" (top 54) ["_law_deck_here", "_law_names_here", "_law_left", "_law_times"]
  _law_plain : Fn K mg "_law_plain" (top 55) ["_law_deck_here", "_law_names_here"]
  _law_row : Fn K mg "_law_row" (top 56) ["_law_deck_here", "_law_names_here", "_law_left", "_law_times", "_law_depth"]
  _law_block : Fn K mg "_law_block" (top 57) ["_law_deck_here", "_law_names_here", "_law_left", "_law_times", "_law_depth"]
  _law_program : Fn K mg "_law_program" (top 58) ["_law_deck_here", "_law_names_here"]
  _law_number : Fn K mg "_law_number" (top 59) ["_law_deck_here"]
  _law_turns : Fn K mg "_law_turns" (top 60) ["_law_deck_here"]
  _law_turned : Fn K mg "_law_turned" (top 61) ["_law_block_here"]
  _law_contrary : Fn K mg "_law_contrary" (top 62) ["_law_row_here"]
  _law_shallow : Fn K mg "_law_shallow" (top 63) ["_law_block_here"]
  init : Fi K (inClass (top 43) 0) ["self", "number", "asked"]
  m_choice : Fm K "choice" "Course.choice" (inClass (top 43) 1) ["self", "hand"]
  m_parts : Fm K "parts" "Course.parts" (inClass (top 43) 2) ["self", "statement"]
  m_do : Fm K "do" "Course.do" (inClass (top 43) 3) ["self", "statement"]
  m_go : Fm K "go" "Course.go" (inClass (top 43) 4) ["self", "block"]
theorem fns_mk (X : K.In h) (G : h.Ns mainGlobals mg) (d : He.SaysD hfa hfn K) : Fns K mg where
  is_whole := fn_mk (i := 45) (j := 0) X G d rfl rfl (fun _ _ _ _ _ _ us hl => match us, hl with | [_, _, _], _ => rfl)
  is_name := fn_mk (i := 46) (j := 1) X G d rfl rfl (fun _ _ _ _ _ _ us hl => match us, hl with | [_], _ => rfl)
  is_expression := fn_mk (i := 47) (j := 2) X G d rfl rfl (fun _ _ _ _ _ _ us hl => match us, hl with | [_, _], _ => rfl)
  is_rest := fn_mk (i := 48) (j := 3) X G d rfl rfl (fun _ _ _ _ _ _ us hl => match us, hl with | [_], _ => rfl)
  is_test := fn_mk (i := 49) (j := 4) X G d rfl rfl (fun _ _ _ _ _ _ us hl => match us, hl with | [_, _], _ => rfl)
  are_blocks := fn_mk (i := 50) (j := 5) X G d rfl rfl (fun _ _ _ _ _ _ us hl => match us, hl with | [_], _ => rfl)
  is_statement := fn_mk (i := 51) (j := 6) X G d rfl rfl (fun _ _ _ _ _ _ us hl => match us, hl with | [_], _ => rfl)
  blocks_of := fn_mk (i := 52) (j := 7) X G d rfl rfl (fun _ _ _ _ _ _ us hl => match us, hl with | [_], _ => rfl)
  with_blocks := fn_mk (i := 53) (j := 8) X G d rfl rfl (fun _ _ _ _ _ _ us hl => match us, hl with | [_, _], _ => rfl)
  items_within := fn_mk (i := 54) (j := 9) X G d rfl rfl (fun _ _ _ _ _ _ us hl => match us, hl with | [_, _], _ => rfl)
  rows_of := fn_mk (i := 55) (j := 10) X G d rfl rfl (fun _ _ _ _ _ _ us hl => match us, hl with | [_], _ => rfl)
  order_error := fn_mk (i := 56) (j := 11) X G d rfl rfl (fun _ _ _ _ _ _ us hl => match us, hl with | [_], _ => rfl)
  bare := fn_mk (i := 57) (j := 12) X G d rfl rfl (fun _ _ _ _ _ _ us hl => match us, hl with | [_], _ => rfl)
  own_count := fn_mk (i := 58) (j := 13) X G d rfl rfl (fun _ _ _ _ _ _ us hl => match us, hl with | [_, _], _ => rfl)
  counted := fn_mk (i := 59) (j := 14) X G d rfl rfl (fun _ _ _ _ _ _ us hl => match us, hl with | [_, _], _ => rfl)
  weight := fn_mk (i := 60) (j := 15) X G d rfl rfl (fun _ _ _ _ _ _ us hl => match us, hl with | [_], _ => rfl)
  program_error := fn_mk (i := 61) (j := 16) X G d rfl rfl (fun _ _ _ _ _ _ us hl => match us, hl with | [_], _ => rfl)
  turned_statement := fn_mk (i := 62) (j := 17) X G d rfl rfl (fun _ _ _ _ _ _ us hl => match us, hl with | [_], _ => rfl)
  turned := fn_mk (i := 63) (j := 18) X G d rfl rfl (fun _ _ _ _ _ _ us hl => match us, hl with | [_], _ => rfl)
  value_of := fn_mk (i := 64) (j := 19) X G d rfl rfl (fun _ _ _ _ _ _ us hl => match us, hl with | [_, _], _ => rfl)
  is_true := fn_mk (i := 65) (j := 20) X G d rfl rfl (fun _ _ _ _ _ _ us hl => match us, hl with | [_, _], _ => rfl)
  run := fn_mk (i := 66) (j := 21) X G d rfl rfl (fun _ _ _ _ _ _ us hl => match us, hl with | [_, _, _], _ => rfl)
  next_turns := fn_mk (i := 67) (j := 22) X G d rfl rfl (fun _ _ _ _ _ _ us hl => match us, hl with | [_], _ => rfl)
  runs_on := fn_mk (i := 68) (j := 23) X G d rfl rfl (fun _ _ _ _ _ _ us hl => match us, hl with | [_, _], _ => rfl)
  each_run := fn_mk (i := 69) (j := 24) X G d rfl rfl (fun _ _ _ _ _ _ us hl => match us, hl with | [_, _], _ => rfl)
  _law_deck := fn_mk (i := 70) (j := 25) X G d rfl rfl (fun _ _ _ _ _ _ us hl => match us, hl with | [_], _ => rfl)
  _law_draw := fn_mk (i := 71) (j := 26) X G d rfl rfl (fun _ _ _ _ _ _ us hl => match us, hl with | [_, _], _ => rfl)
  _law_one := fn_mk (i := 72) (j := 27) X G d rfl rfl (fun _ _ _ _ _ _ us hl => match us, hl with | [_, _], _ => rfl)
  _law_names := fn_mk (i := 73) (j := 28) X G d rfl rfl (fun _ _ _ _ _ _ us hl => match us, hl with | [_], _ => rfl)
  _law_expression := fn_mk (i := 74) (j := 29) X G d rfl rfl (fun _ _ _ _ _ _ us hl => match us, hl with | [_, _, _], _ => rfl)
  _law_test := fn_mk (i := 75) (j := 30) X G d rfl rfl (fun _ _ _ _ _ _ us hl => match us, hl with | [_, _, _, _], _ => rfl)
  _law_plain := fn_mk (i := 76) (j := 31) X G d rfl rfl (fun _ _ _ _ _ _ us hl => match us, hl with | [_, _], _ => rfl)
  _law_row := fn_mk (i := 77) (j := 32) X G d rfl rfl (fun _ _ _ _ _ _ us hl => match us, hl with | [_, _, _, _, _], _ => rfl)
  _law_block := fn_mk (i := 78) (j := 33) X G d rfl rfl (fun _ _ _ _ _ _ us hl => match us, hl with | [_, _, _, _, _], _ => rfl)
  _law_program := fn_mk (i := 79) (j := 34) X G d rfl rfl (fun _ _ _ _ _ _ us hl => match us, hl with | [_, _], _ => rfl)
  _law_number := fn_mk (i := 80) (j := 35) X G d rfl rfl (fun _ _ _ _ _ _ us hl => match us, hl with | [_], _ => rfl)
  _law_turns := fn_mk (i := 81) (j := 36) X G d rfl rfl (fun _ _ _ _ _ _ us hl => match us, hl with | [_], _ => rfl)
  _law_turned := fn_mk (i := 82) (j := 37) X G d rfl rfl (fun _ _ _ _ _ _ us hl => match us, hl with | [_], _ => rfl)
  _law_contrary := fn_mk (i := 83) (j := 38) X G d rfl rfl (fun _ _ _ _ _ _ us hl => match us, hl with | [_], _ => rfl)
  _law_shallow := fn_mk (i := 84) (j := 39) X G d rfl rfl (fun _ _ _ _ _ _ us hl => match us, hl with | [_], _ => rfl)
  init := by
    obtain ⟨fd, F⟩ := d.def_ 41 (d := mdef 0 "__init__" "Course.__init__") rfl
    exact ⟨fd, fun_of F, FunD.bindsN F (fun _ _ _ _ _ _ us hl => match us, hl with | [_, _, _], _ => rfl)⟩
  m_choice := fm_mk (i := 41) (j := 42) d rfl rfl (fun _ _ _ _ _ _ us hl => match us, hl with | [_, _], _ => rfl)
  m_parts := fm_mk (i := 42) (j := 43) d rfl rfl (fun _ _ _ _ _ _ us hl => match us, hl with | [_, _], _ => rfl)
  m_do := fm_mk (i := 43) (j := 44) d rfl rfl (fun _ _ _ _ _ _ us hl => match us, hl with | [_, _], _ => rfl)
  m_go := fm_mk (i := 44) (j := 45) d rfl rfl (fun _ _ _ _ _ _ us hl => match us, hl with | [_, _], _ => rfl)
/-! ### the whole chain -/
theorem law_all {f : Addr} {fd : FuncData} (F : Fun K "law" "law" s_law f fd) (T : Gb K w mg) (B : Co K mg) (N : Fns K mg) : FnG P w K mg base 25 f fd "_law_script" (spLaw K) := by
  have g_whole : Df P w K mg base 1 _ _ _ := df_is_whole N.is_whole T
  have g_name : Df P w K mg base 1 _ _ _ := df_is_name N.is_name T
  have g_expr := fun k => df_is_expression (P := P) (base := base) N.is_expression T g_name g_whole k
  have g_rest := df_is_rest N.is_rest T (g_expr 6) g_whole
  have g_test := df_is_test N.is_test T (g_expr 6) g_rest
  have g_blocks : Df P w K mg base 1 _ _ _ := df_are_blocks N.are_blocks T
  have g_stmt := df_is_statement N.is_statement T (g_expr 6) g_name g_whole (g_test 3) g_blocks
  have g_of : Df P w K mg base 1 _ _ _ := df_blocks_of N.blocks_of T
  have g_with : Df P w K mg base 1 _ _ _ := df_with_blocks N.with_blocks T
  have g_turned := df_turned_all N.turned_statement N.turned T g_of g_with
  have g_items := df_items_within N.items_within T g_of
  have g_rows := df_rows_of N.rows_of T g_items
  have g_order := df_order_error N.order_error T g_items g_stmt
  have g_bare : Df P w K mg base 1 _ _ _ := df_bare N.bare
  have g_own := df_own_count N.own_count T g_bare
  have g_counted := df_counted_all N.counted T g_of g_own
  have g_weight := df_weight N.weight (g_counted 4)
  have g_error := df_program_error N.program_error T g_order g_rows g_weight (g_counted 4)
  have g_value := fun k => df_value_of (P := P) (base := base) N.value_of T k
  have g_true := df_is_true_all N.is_true T (g_value 3)
  have m_choice : Mt P w K mg base 1 _ _ _ := mt_choice N.m_choice T B
  have m_parts := mt_parts N.m_parts T B m_choice (g_true 2)
  have m_go := mt_go_all N.m_do N.m_go B m_parts (g_value 4)
  have g_run := df_run N.run T B (mi_init N.init T B) (m_go 4)
  have g_next : Df P w K mg base 1 _ _ _ := df_next_turns N.next_turns T
  have g_on := df_runs_on N.runs_on T g_run g_next
  have g_each := gdf_each_run N.each_run g_on
  have l_draw := fun a c => df_drawK (df_draw (P := P) (base := base) N._law_draw T a c)
  have l_oneL := fun a c => df_oneL N._law_one T (l_draw a c)
  have l_oneS := fun a c => df_oneS N._law_one T (l_draw a c)
  have l_expr := fun a c => df_exprL N._law_expression T (l_draw a c) (l_oneL a c)
  have l_names := df_names N._law_names T l_draw l_oneL l_oneS
  have l_test := fun a c => df_test N._law_test T (l_draw a c) (l_oneL a c) (l_expr a c 3)
  have l_plain := fun a c => df_plain N._law_plain T (l_draw a c) (l_oneL a c) (l_expr a c 3)
  have l_block := fun a c => df_block_all N._law_row N._law_block T (l_draw a c) (l_oneL a c) (l_test a c) (l_plain a c) 4 (Nat.le_refl 4)
  have l_prog := df_prog N._law_program T l_draw (fun a c => l_expr a c 2) l_block
  have l_number := df_number N._law_number T l_draw l_oneL
  have l_turns := df_turns N._law_turns T l_draw
  have l_deck : Df P w K mg base 1 _ _ _ := df_deck N._law_deck T
  have l_turned := df_lturned_all (P := P) (base := base) N._law_turned T 4
  have l_contrary : Df P w K mg base 1 _ _ _ := df_contrary N._law_contrary T
  have l_shallow := df_shallow_all (P := P) (base := base) N._law_shallow T 4
  exact fg_law F T N.each_run g_each g_on l_deck l_prog l_names l_shallow (g_turned 4) l_turned g_error l_number l_turns g_run l_contrary
theorem facts {f : Addr} (X : K.In h) (G : h.Ns mainGlobals mg) (hf : mg ("law" : Str) = some (.ref f)) (c : He.SaysX hfa hfn hts [] hex w h K) :
    ∃ fd : FuncData, (∀ (s : Shared) (v : Value), BindsTo s fd ⟨[v], []⟩ [("_law_script", v)]) ∧ ∀ base : Heap, FnG P w K mg base 25 f fd "_law_script" (spLaw K) := by
  have d := c.t.d
  obtain ⟨fd, F⟩ := d.def_ 40 (d := gdef 64 "law") rfl
  have e := hf.symm.trans (He.glo_ok X G (d.fact 85 (f := .glo "law") rfl))
  cases e
  have b := FunD.bindsA (ps := ["_law_script"]) F fun _ _ _ _ _ _ us hl => match us, hl with | [_], _ => rfl
  exact ⟨fd, fun s v => b s [v] rfl, fun base => law_all (fun_of F) (gb_mk X G c) (co_mk X G d) (fns_mk X G d)⟩
end
end K27
namespace K27
open PySem PySem.Spec L2
open PyProof.Rows hiding St
local macro_rules | `(tactic| walk_at "td") => `(tactic| first | assumption | exact Td.int _ | exact Td.str _ | exact Td.bl _ | exact Td.non)
local macro_rules | `(tactic| walk_at "bq") => `(tactic| first | exact rfl | assumption | decide)
local macro_rules | `(tactic| walk_at "kb") => `(tactic| first | exact kii | exact ksi | exact kti | exact kib | exact kss | exact kis | exact kts | exact ktt | exact kst | exact kit)
local macro_rules | `(tactic| walk_at "ev") => `(tactic| first
  | with_reducible exact ev_int
  | with_reducible exact ev_str
  | with_reducible exact ev_bl
  | with_reducible exact ev_non
  | ((with_reducible refine' ev_var ?e ?t); (case e => exact rfl); (case t => walk_at "td"))
  | ((with_reducible refine' ev_ix ?a ?n ?z); (case a => walk_at "ev"); (case z => decide); (case n => exact rfl))
  | ((with_reducible refine' ev_isi ?a ?k); (case a => walk_at "ev"); (case k => walk_at "kb"))
  | ((with_reducible refine' ev_len ?a ?k); (case a => walk_at "ev"); (case k => exact rfl))
  | ((with_reducible refine' ev_cmpI ?a ?b ?r); (case a => walk_at "ev"); (case b => walk_at "ev"); (case r => walk_at "bq"))
  | ((with_reducible refine' ev_I0 ?a ?b ?r); (case a => walk_at "ev"); (case b => walk_at "ev"); (case r => exact rfl))
  | ((with_reducible refine' ev_eqS ?a ?b ?r); (case a => walk_at "ev"); (case b => walk_at "ev"); (case r => walk_at "bq"))
  | ((with_reducible refine' ev_eqI ?a ?b ?r); (case a => walk_at "ev"); (case b => walk_at "ev"); (case r => walk_at "bq"))
  | ((with_reducible refine' ev_neI ?a ?b ?r); (case a => walk_at "ev"); (case b => walk_at "ev"); (case r => walk_at "bq"))
  | ((with_reducible refine' ev_notV ?a ?r); (case a => walk_at "ev"); (case r => walk_at "bq"))
  | ((with_reducible refine' ev_chain ?a ?b ?c ?r); (case a => walk_at "ev"); (case b => walk_at "ev"); (case c => walk_at "ev"); (case r => walk_at "bq"))
  | ((with_reducible refine' ev_tup ?a ?l); (case a => walk_at "ea"); (case l => (show _ ≤ _; decide))))
local macro_rules | `(tactic| walk_at "ea") => `(tactic| first
  | with_reducible exact ea_nil
  | ((with_reducible refine' ea_cons ?a ?b); (case a => walk_at "ev"); (case b => walk_at "ea")))
local macro_rules | `(tactic| walk_at "et") => `(tactic| first
  | ((with_reducible refine' et_notI ?a ?r); (case a => walk_at "et"); (case r => walk_at "bq"))
  | ((with_reducible refine' et_is ?a); (case a => walk_at "ev"))
  | ((with_reducible refine' et_isB ?a); (case a => walk_at "ev"))
  | ((with_reducible refine' et_and ?a ?b ?c); (case a => walk_at "et"); (case b => (intro _; walk_at "et")); (case c => (intro z; first | exact z | (cases z; done) | rfl)))
  | ((with_reducible refine' et_or ?a ?b ?c); (case a => walk_at "et"); (case b => (intro _; walk_at "et")); (case c => (intro z; first | exact z | (cases z; done) | rfl))))
local macro_rules | `(tactic| walk_at "ev2") => `(tactic| first
  | walk_at "ev"
  | ((with_reducible refine' ev_inT ?a ?p ?s ?d ?f ?x ?b); (case a => walk_at "ev"); (case p => exact evv_c); (case s => assumption); (case d => exact rfl); (case f => exact rfl); (case x => exact rfl); (case b => walk_at "bq"))
  | ((with_reducible refine' ev_inU2 ?a ?p ?l ?d ?x ?f ?y ?b); (case a => walk_at "ev"); (case p => walk_at "ea"); (case l => (show _ ≤ _; decide)); (case d => exact rfl); (case x => exact rfl); (case f => exact rfl); (case y => exact rfl); (case b => walk_at "bq"))
  | ((with_reducible refine' ev_slA ?a ?l ?h ?r); (case a => walk_at "ev"); (case l => walk_at "eo"); (case h => walk_at "eo"); (case r => exact rfl)))
local macro_rules | `(tactic| walk_at "et2") => `(tactic| first
  | walk_at "et"
  | ((with_reducible refine' et_is ?a); (case a => walk_at "ev2"))
  | ((with_reducible refine' et_isB ?a); (case a => walk_at "ev2")))
local macro_rules | `(tactic| walk_at "eo") => `(tactic| first
  | with_reducible exact eo_none
  | ((with_reducible refine' eo_some ?a); (case a => walk_at "ev")))
/-! ### the end -/
theorem law_walk {q : Program} {loose : List Str} {XP : (Str → Option Value) → Heap → Prop} {d : DefRec} {l : PySem.W.OpenLaw} {n : Nat} (hn : l.most = some n) (hn2 : n ≤ sizeLine) (hd : d.params.defaults = []) (hnm : d.name = ("law" : Str)) (hr : Room 25 callerA) :
    PySem.W.WalkO q loose XP hk.says l.row.toRowW d [] (fun f vs => PySem.call f vs) := by
  refine Att.attach_call hn hd fun w s₀ s₁ mg mb fa o pm cd doc a vs ns G Y ho hd hcd hmg hobj hints hlen hg => ?_
  obtain ⟨K, X, c⟩ := Y
  rw [hnm] at hmg
  obtain ⟨fd, hb, hF⟩ := facts (P := l.prog) X G.T.g hmg c
  exact law_ask X G.T.g G.T.b G.T.builtins G.T.nolimit hg hobj hints (Nat.le_trans hlen hn2) hr (fun base _ _ => hF base) hb fun J _ hS => ⟨a, ns, rfl, hS, fun _ => rfl⟩
end K27
set_option maxHeartbeats 0
open PySem PySem.W PySem.Calls PyProof.Rows
theorem PySem.Challenge.cw_weandthey_k27_whole_turned_programs_holds : PySem.Challenge.rw_weandthey_k27_whole_turned_programs.Holds := by
  w_on; o_law
  refine HandSHeadRun.head_any (r := K27.hR) (q := view K27.hR.prog [64]) (H := K27.hk) (ob := K27.hOb) (M := 3000) (loose := K27.loose) (d := HandSHeadRun.topDef K27.hR.prog 64) (kwd := []) K27.hOb_eq
    (by kernel_rfl) (fun s => by kernel_rfl) K27.hRun (by kernel_rfl) (by kernel_rfl) (by kernel_rfl) (by rfl) (by first | assumption | decide +kernel) (by decide +kernel) ⟨rfl, rfl, rfl, rfl, rfl, by decide +kernel⟩ ?hw ?hc
  case hw => w_witness2
  case hc => exact K27.law_walk (l := PySem.Challenge.rw_weandthey_k27_whole_turned_programs) (n := 63) rfl (by decide) (by kernel_rfl) (by kernel_rfl) ⟨rfl, by decide, by decide⟩
