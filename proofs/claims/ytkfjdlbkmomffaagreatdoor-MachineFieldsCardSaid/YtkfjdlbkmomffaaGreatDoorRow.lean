/- PROVED HERE: for every machine, op and address the law MachineFields returns true and leaves its arguments as they read; the card ties the table of the kinds of terms to the program's text. CONDITIONS: those of the given row alone: no two arguments are assumed apart; loops are counted as ended; the listed variable reads as the text lays it. -/
import Derived.Test.YtkfjdlbkmomffaaGreatDoorCards
import Derived.Test.YtkfjdlbkmomffaaGreatDoorTie
import Derived.ProofKit
import Derived.OpenShut
import Derived.LaidMore
import Derived.Lay
import Derived.Carry
import Derived.SevenTiedAt
import Derived.Stop.Joined
import Derived.Test.YtkfjdlbkmomffaaGreatDoorV06
set_option linter.unusedVariables false
set_option linter.unusedSimpArgs false
set_option linter.defProp false
set_option linter.constructorNameAsVariable false
set_option linter.unusedVariables false
set_option linter.unusedSimpArgs false
set_option maxRecDepth 100000
namespace Go.Proofs.YtkfjdlbkmomffaaGreatDoor
open Go.ChangeShapes Go.WideShapes Go.ChangeAt Go.RowKit Go.Proofs.Dv
theorem q_own : ownKnob Tryz.prog.godebug = none := by kernel_rfl
theorem q_laid_out : laidOutB Tryz.prog = true := by kernel_rfl
def q_types : List TypeId := [3, 4, 5, 9, 22, 23, 24, 25, 27, 35, 36, 37, 38, 40, 41, 43, 44, 46, 48, 53, 67, 80, 85, 96, 102, 211]
def q_ok : TypeId → Bool := fun t => q_types.contains t
theorem q_good : ∀ t, q_ok t = true → goodT Tryz.prog q_ok t = true := reach_ok (by kernel_rfl)
noncomputable def q_api : Api Tryz.prog := { u8 := 5, int := 3, u64 := 36, str := 9, pc := 80, pcs := 41, opn := 43, opns := 37, tm := 46, tms := 44, ef := 48, efs := 38, ins := 40, inss := 25, rg := 35, rgs := 22, ints := 53, bk := 96, bks := 23, un := 102, uns := 24, mc := 27, h_u8 := by kernel_rfl, h_int := by kernel_rfl, h_u64 := by kernel_rfl, h_str := by kernel_rfl, h_pc := by kernel_rfl, h_pcs := by kernel_rfl, h_opn := by kernel_rfl, h_opns := by kernel_rfl, h_tm := by kernel_rfl, h_tms := by kernel_rfl, h_ef := by kernel_rfl, h_efs := by kernel_rfl, h_ins := by kernel_rfl, h_inss := by kernel_rfl, h_rg := by kernel_rfl, h_rgs := by kernel_rfl, h_ints := by kernel_rfl, h_bk := by kernel_rfl, h_bks := by kernel_rfl, h_un := by kernel_rfl, h_uns := by kernel_rfl, h_mc := by kernel_rfl }
theorem q_table {W : World} (h : laidMetH Tryz.prog [("retarget/term.shapes", Rows.laid_retarget_term_shapes)] W) : ∀ g cs, gG g = some cs → Rd W (S0 W) none (.rp cs) (.pointer (some ⟨g, 0, none⟩)) := by
  rw [MakeChecks.laidMetH_plain _ _ _ (by kernel_rfl)] at h
  obtain ⟨ps, ⟨g, t, cs, fuel, p, q, hg, ht, hv, hd, _, _⟩, _, _⟩ := h
  obtain rfl := Option.some.inj ((show Tryz.prog.globalNamed "retarget/term.shapes" = some 0 by kernel_rfl).symm.trans hg)
  obtain rfl := Option.some.inj ((show (Tryz.prog.globals[0]?).map (·.type) = some 215 by kernel_rfl).symm.trans ht)
  have hc := trod_arr (t := 215) (e := 211) (n := 25) q_good (by kernel_rfl) (by kernel_rfl) (by kernel_rfl) hd
  rw [show toD (H := Unit) Rows.laid_retarget_term_shapes = tabD by kernel_rfl] at hc
  intro g cs' hgs
  unfold gG at hgs
  split at hgs
  · rename_i hg0
    subst hg0
    simp only [Option.some.injEq] at hgs
    subst hgs
    refine Rd_rp.2 ⟨0, 0, rfl, fun j hj => ?_⟩
    obtain ⟨c, c1, c2, c3⟩ := hc.2 j hj
    have e1 : W.cell? ⟨0, 0 + j, none⟩ = some c := by
      rw [Nat.zero_add, World.var?_cell (show Tryz.prog.globalNamed "retarget/term.shapes" = some 0 by kernel_rfl) hv j]
      simpa using c1
    exact ⟨c, e1, (cell_ltu e1).1, c2, c3⟩
  · simp at hgs
theorem q_struct {W : World} {t : TypeId} {fs : Array Field} {b : Nat} {v : Value} (hs : Tryz.prog.underlying t = some (.struct fs)) (hv : Value.okWide Tryz.prog W .any b t v) : ∃ cs, v = .agg cs := by
  obtain ⟨cs, rfl, _⟩ := okWide_struct hs hv
  exact ⟨cs, rfl⟩
theorem q_arg {H : Type} {enc : TypeId × Value → H} {W : World} {t : TypeId} {v : Value} {d : DataW H} {p : List MemPlace} (ht : q_ok t = true) (h : DataW.Trod enc Tryz.prog W 0 (fun _ => true) true t v d p) : ∃ n, CellsR W v.cells.toList (toD d) ∧ Ty Tryz.prog n t (toD d) := by
  obtain ⟨fuel, h⟩ := h
  obtain ⟨h1, _, h2⟩ := trod_rd q_good fuel t _ d p ht h
  exact ⟨fuel, h1, h2⟩
theorem wf_u64 {n : Int} (h : (Lit.int .u64 n).wf = true) : U64 n := by
  simp only [Lit.wf, Bool.and_eq_true, decide_eq_true_eq] at h
  obtain ⟨h1, h2⟩ := h
  exact ⟨by simpa [IntKind.min, IntKind.signed, IntKind.bits] using h1, by simp [IntKind.max, IntKind.signed, IntKind.bits] at h2; omega⟩
theorem wf_i64 {n : Int} (h : (Lit.int .i64 n).wf = true) : I64 n := by
  simp only [Lit.wf, Bool.and_eq_true, decide_eq_true_eq] at h
  obtain ⟨h1, h2⟩ := h
  exact ⟨by simp [IntKind.min, IntKind.signed, IntKind.bits] at h1; exact h1, by simp [IntKind.max, IntKind.signed, IntKind.bits] at h2; exact h2⟩
set_option maxRecDepth 100000 in
theorem machineFields_lifted (os : Os) (started : os.Started) (H : Type) (enc : TypeId × Value → H) :
    ReturnsInHanded {} Tryz.checked os 10 .any (fun w args => (Rows.machineFieldsSpec.pre enc Tryz.prog Tryz.f10 Rows.machineFieldsRow.domain false w args ∧ laidMetH Tryz.prog Rows.machineFieldsRow.laid w) ∧ sizedMet enc Tryz.prog Tryz.f10 (OpenSpec.ofChange Rows.machineFieldsSpec) false w args)
      (Rows.machineFieldsSpec.post enc Tryz.prog Tryz.f10 false true false false) := by
  refine returnsInHanded_of_change_and (C := Tryz.checked) (X := fun w _ => laidMetH Tryz.prog Rows.machineFieldsRow.laid w) (fun _ _ _ hh h => h.of_heap hh) q_own started (by kernel_rfl) Tryz.func10
    (ChangeSpec.witness_shaped (enc := enc) (C := Tryz.checked) (os := os) (X := fun w _ => laidMetH Tryz.prog Rows.machineFieldsRow.laid w) false (World.laidAll Tryz.prog os Rows.machineFieldsRow.laid) #[.agg #[.string ⟨#[]⟩, .int .i64 0, .int .i64 0, .slice none 0 0, .slice none 0 0, .slice none 0 0, .slice none 0 0], .agg #[.int .i64 0, .slice none 0 0], .int .u64 0, .int .i64 0] 8 (World.laidAll_os _ _ _)
      (World.shaped_of_ZipB (by kernel_rfl) (by kernel_rfl)) (by kernel_rfl) (by kernel_rfl) (by kernel_rfl)
      (by rw [MakeChecks.laidMetH_plain _ _ _ (by kernel_rfl)]; exact laidMet_laidAll _ (by kernel_rfl) (by kernel_rfl))) ?_
  intro W base args ds gs before hval0 hW hc _ hL _
  have hval : ∀ (j : Nat) t v, Tryz.f10.params[j]? = some t → args[j]? = some v → Value.okWide Tryz.prog W .any base t v := hval0
  have hW' := hW
  have hlt := fun p hp => hW.lt p hp
  obtain ⟨p, q, hA0, hV, rfl, _, _⟩ := hW
  have hA : DataW.TrodAll enc Tryz.prog W 0 (fun _ => true) true Tryz.f10.params.toList args.toList ds p := hA0
  rw [Tryz.params10] at hA hval
  have hfin : ∀ W' : World, Below W.heap.size W W' → ∃ v, Ending.returned (.bool true) = .returned v ∧ Rows.machineFieldsSpec.post enc Tryz.prog Tryz.f10 false true false false W args v W' := by
    intro W' hb
    have hA2 := all_stays q_laid_out hb (ts := [27, 85, 36, 3]) (by kernel_rfl) (fun x hx => hlt x (List.mem_append_left _ hx)) hA
    obtain ⟨v0, v1, v2, v3, d0, d1, d2, d3, p0, p1, p2, p3, rfl, rfl, rfl, h0, h1, h2, h3⟩ := trodAll_four hA
    obtain ⟨rfl, rfl⟩ := trodVars_none hV
    exact ⟨_, rfl, _, _, _, [], _, [], hW', trodAll_mk1 (shut_bool Tryz.underlying4 true), hA2, rfl, hb.frame _, fun h => by cases h⟩
  obtain ⟨v0, v1, v2, v3, d0, d1, d2, d3, p0, p1, p2, p3, rfl, rfl, rfl, h0, h1, h2, h3⟩ := trodAll_four hA
  obtain ⟨rfl, rfl⟩ := trodVars_none hV
  obtain ⟨c0, rfl⟩ := q_struct (by kernel_rfl : Tryz.prog.underlying 27 = some (.struct (Tryz.prog.underlying 27 |>.elim #[] fun | .struct fs => fs | _ => #[]))) (hval 0 27 v0 rfl rfl)
  obtain ⟨n0, r0, y0⟩ := q_arg (t := 27) (by kernel_rfl) h0
  obtain ⟨x0, e0, w0⟩ := Mc_of q_api y0
  rw [e0] at r0
  obtain ⟨c1, rfl⟩ := q_struct (by kernel_rfl : Tryz.prog.underlying 85 = some (.struct (Tryz.prog.underlying 85 |>.elim #[] fun | .struct fs => fs | _ => #[]))) (hval 1 85 v1 rfl rfl)
  obtain ⟨n1, r1, y1⟩ := q_arg (t := 85) (by kernel_rfl) h1
  obtain ⟨x1, e1, w1⟩ := Mo_of q_api (mo := 85) (by kernel_rfl) y1
  rw [e1] at r1
  obtain ⟨x2, rfl, rfl, rfl, w2⟩ := open_int Tryz.underlying36 (hval 2 36 v2 rfl rfl) h2
  obtain ⟨x3, rfl, rfl, rfl, w3⟩ := open_int Tryz.underlying3 (hval 3 3 v3 rfl rfl) h3
  have hargs : Args W (S0 W) none #[.agg c0, .agg c1, .int .u64 x2, .int .i64 x3] [.agg x0.d, .agg x1.d, .v (.int .u64 x2), .v (.int .i64 x3)] := by
    refine ⟨rfl, fun j hj => ?_⟩
    match j, hj with
    | 0, _ => exact ⟨_, rfl, arg_agg rfl r0⟩
    | 1, _ => exact ⟨_, rfl, arg_agg rfl r1⟩
    | 2, _ => exact ⟨_, rfl, Rd_v.2 ⟨rfl, rfl⟩⟩
    | 3, _ => exact ⟨_, rfl, Rd_v.2 ⟨rfl, rfl⟩⟩
  refine Calls.mono (p10.2 W (S0 W) _ _ _ (fun b o h => h) (q_table hL) hargs (e_LawFields ⟨w0, w1.2, (wf_u64 w2)⟩)) fun e W' hr => ?_
  cases e with
  | returned v =>
    obtain ⟨hb, hv⟩ := hr
    obtain ⟨rfl, _⟩ := Rd_v.1 hv
    exact hfin W' hb
  | _ => exact hr.elim
theorem machineFields_holds : Rows.MachineFieldsSaid :=
  OpenClaim.holds_of_wide 10 Tryz.f10 rfl rfl rfl rfl rfl rfl rfl ⟨rfl, rfl, rfl, rfl, rfl⟩ rfl rfl rfl rfl rfl (by kernel_rfl) Tryz.func10 (by kernel_rfl)
    (of_decide_eq_true (by kernel_rfl)) (by unfold Func.isWrapper; rw [if_neg (of_decide_eq_false (by kernel_rfl))]; exact ⟨rfl, rfl⟩)
    (fun os started H enc _ => machineFields_lifted os started H enc)
theorem machineFields_card : Rows.MachineFieldsCardSaid :=
  Claim7.holds_tied_plain_at .later [] [.data] true (true, "ecb66394fd0c6e9a9a5dd49eb74493de2ac36e01d9ecfa3f5927726cebdaaa5a") false machineFields_holds (fun _ h => by cases h) (by kernel_rfl) (fun _ h => by cases h) machineFields_row_tie rfl ⟨rfl, rfl⟩ (by kernel_rfl) rfl
    (fun f fn hf hfn => by
      obtain rfl : f = 10 := Option.some.inj ((show Tryz.prog.funcNamed "retarget/retargetlaw08.MachineFields" = some 10 by kernel_rfl).symm.trans hf) |>.symm
      obtain rfl : fn = Tryz.f10 := (Option.some.inj (Tryz.func10.symm.trans hfn)).symm
      exact ⟨by kernel_rfl, fun j t ht => by
        rw [Tryz.params10] at ht
        have hm : t ∈ ([27, 85, 36, 3] : List TypeId) := by simpa using Array.mem_of_getElem? ht
        have hall : (([27, 85, 36, 3] : List TypeId).all fun u => !Tryz.prog.wantsStandIn u) = true := by kernel_rfl
        exact (show Tryz.prog.wantsStandIn t = false by simpa using List.all_eq_true.1 hall t hm)⟩)
    (by kernel_rfl)
#print axioms machineFields_card
end Go.Proofs.YtkfjdlbkmomffaaGreatDoor
