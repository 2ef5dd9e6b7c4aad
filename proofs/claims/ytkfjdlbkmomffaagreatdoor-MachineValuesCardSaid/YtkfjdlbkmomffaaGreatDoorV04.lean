/- A part of the proof of one statement about the given program: a verified evaluator of the model's code, and contracts of functions (WS WT WU XA XB XC XD XE XF XG XH XI XK PA PB PC PD). No condition of its own. -/
import Derived.Test.YtkfjdlbkmomffaaGreatDoorV03
set_option linter.unusedVariables false
set_option linter.unusedSimpArgs false
set_option linter.defProp false
set_option linter.constructorNameAsVariable false
set_option linter.unusedVariables false
set_option linter.unusedSimpArgs false
set_option maxRecDepth 100000
namespace Go.Proofs.Dv
open Go.RowKit
open Nat renaming reduceEqDiff → zA, reduceAdd → zB, reduceSub → zC, reduceLeDiff → zD, reduceLT → zE, reduceMul → zF
open Int renaming reduceToNat → zG, reduceLE → zH, reduceLT → zI
open List renaming set_cons_zero → zJ, set_cons_succ → zK
def fewB (lim : Int) (n : Nat) : Bool := decide (max (n : Int) 0 ≤ lim)
theorem fewB_le {lim : Int} {n : Nat} (h : fewB lim n = true) : (n : Int) ≤ lim := by simp only [fewB, decide_eq_true_eq] at h; omega
def smI (i : Ins) : Bool := (fewB 4 i.operands.length && fewB 4 i.effects.length) && i.operands.all fun o => fewB 4 o.pieces.length
def smallOK (m : Mc) : Bool := (((fewB 64 m.regs.length && fewB 16 m.banks.length) && fewB 8 m.units.length) && fewB 64 m.instrs.length) && ((m.banks.all fun b => fewB 64 b.regs.length) && m.instrs.all smI)
theorem fold_all {α : Type} {p : α → Bool} : ∀ (l : List α) (a : Bool), l.foldl (fun b x => b && p x) a = (a && l.all p)
  | [], a => by simp
  | x :: l, a => by rw [List.foldl_cons, fold_all l]; simp [Bool.and_assoc]
def x_SmallM (a : Mc) : List D := match a with | m => [.agg m.d]
theorem i_SmallM : ∀ a b, x_SmallM a = x_SmallM b → a = b := by
  rintro m m' h
  first | simpa [x_SmallM, INJ, and_assoc, Int.ofNat_inj] using h | (simp [x_SmallM, INJ, and_assoc, Int.ofNat_inj] at h; simp_all)
noncomputable def s_SmallM : List D → Option D := sOf x_SmallM fun a => match a with | m => some (.v (.bool (smallOK m)))
theorem e_SmallM {m : Mc} : s_SmallM [.agg m.d] = some (.v (.bool (smallOK m))) := sOf_eq i_SmallM m
theorem R_SmallM {C : Ctx} {F : IFun} (hspec : ∀ N, maxLen + 10 < N → ∀ (m : Mc), lenOK.lenOKs [.agg m.d] → runE C N F [.agg m.d] = some (.v (.bool (smallOK m)))) : Runs C F s_SmallM := runs_of i_SmallM fun N hN m r hl hf => by
  simp only [Option.some.injEq] at hf
  subst hf
  exact hspec N hN m hl
theorem r_small (C : Ctx) (hFw : C.T 105 = some s_Few) : Runs C ir55 s_SmallM := R_SmallM fun N hN m hl => by
  have few : ∀ (lim : Int) (n : Nat), s_Few [.v (.int .i64 lim), .lst true [[.v (.int .i64 n)]]] = some (.v (.bool (fewB lim n))) := fun lim n => @e_Few lim n
  have hlb : m.banks.length ≤ maxLen ∧ m.instrs.length ≤ maxLen := by
    simp only [Mc.d, EVl, List.length_map] at hl
    exact ⟨hl.1.2.2.2.2.1.1, hl.1.2.2.2.2.2.2.1.1⟩
  have hio : ∀ s ∈ m.instrs, s.operands.length ≤ maxLen := by
    intro s hs
    simp only [Mc.d, EVl, List.length_map] at hl
    have := (lenOKss_iff.1 hl.1.2.2.2.2.2.2.1.2) _ (List.mem_map_of_mem hs)
    simp only [Ins.d, EVl, List.length_map] at this
    exact this.2.2.2.1.1
  cases q1 : fewB 64 m.regs.length
  case false =>
    simp -dsimp only [runE, run_eq, ir55, Mc.d, hFw, few, q1, EVs, ↓EVd, ↓reduceIte, zA, zB, zC, zD, zE, zF, reduceBEq, reduceCtorEq, zG, zH, zI, zJ, zK, dcells, okc]
    generalize hI : iter _ _ _ _ = I
    revert I
    refine iter_all m.banks (fun i (b : Bool) => ⟨[(1, .ptr 0 0), (3, .v (.bool b)), (37, .lst false (m.banks.map Bk.d)), (38, .v (.int .i64 m.banks.length)), (39, .v (.int .i64 i))], [(0, .box m.d)], 1⟩) (fun b k => b && fewB 64 k.regs.length) (fun _ _ => True) false hlb.1 hN ?_ trivial ?_ ?_
    · simp -dsimp only [Mc.d, EVs, ↓EVd, ↓reduceIte, zA, zB, zC, zD, zE, zF, reduceBEq, reduceCtorEq, zG, zH, zI, zJ, zK, dcells, okc]
    · intro i b k hi hw hu _
      refine ⟨?_, trivial⟩
      cases b <;> simp -dsimp only [lp55x0, Mc.d, Bk.d, hi, hw, hu, hFw, few, EVs, ↓EVd, ↓reduceIte, zA, zB, zC, zD, zE, zF, reduceBEq, reduceCtorEq, zG, zH, zI, zJ, zK, dcells, okc]
    · intro _
      rw [fold_all]
      simp -dsimp only [lp55x0, Mc.d, EVs, ↓EVd, ↓reduceIte, zA, zB, zC, zD, zE, zF, reduceBEq, reduceCtorEq, zG, zH, zI, zJ, zK, dcells, okc]
      generalize hJ : iter _ _ _ _ = J
      revert J
      refine iter_all m.instrs (fun i (b : Bool) => ⟨[(3, .v (.bool b)), (53, .lst false (m.instrs.map Ins.d)), (54, .v (.int .i64 m.instrs.length)), (55, .v (.int .i64 i))], [(0, .box m.d)], 1⟩) (fun b k => b && smI k) (fun _ _ => True) (false && m.banks.all fun k => fewB 64 k.regs.length) hlb.2 hN ?_ trivial ?_ ?_
      · simp -dsimp only [Mc.d, EVs, ↓EVd, ↓reduceIte, zA, zB, zC, zD, zE, zF, reduceBEq, reduceCtorEq, zG, zH, zI, zJ, zK, dcells, okc]
      · intro i b s hi hw hu _
        refine ⟨?_, trivial⟩
        have hsl : s.operands.length ≤ maxLen := hio s (List.mem_of_getElem? hu)
        have inner : ∀ (b0 : Bool) (nx : Nat) (K : Option (Ex × St) → Option St) (σ : St) (r : St), trim [3, 53, 54, 55, 75, 76, 77] 2 σ = some ⟨[(3, .v (.bool b0)), (53, .lst false (m.instrs.map Ins.d)), (54, .v (.int .i64 m.instrs.length)), (55, .v (.int .i64 i)), (75, .lst false (s.operands.map Opn.d)), (76, .v (.int .i64 s.operands.length)), (77, .v (.int .i64 ((0 : Nat) : Int)))], [(1, .box s.d), (0, .box m.d)], 2⟩ →
            outK K (ev C N lp55x1 ⟨[(3, .v (.bool (b0 && s.operands.all fun o => fewB 4 o.pieces.length))), (53, .lst false (m.instrs.map Ins.d)), (54, .v (.int .i64 m.instrs.length)), (55, .v (.int .i64 i)), (75, .lst false (s.operands.map Opn.d)), (76, .v (.int .i64 s.operands.length)), (77, .v (.int .i64 s.operands.length))], [(1, .box s.d), (0, .box m.d)], 2⟩) = some r →
            ∀ J, iter (ev C N lp55x1) (trim [3, 53, 54, 55, 75, 76, 77] 2) N σ = J → K J = some r := by
          intro b0 nx K σ r htr hfin
          refine iter_all s.operands (fun j (b : Bool) => ⟨[(3, .v (.bool b)), (53, .lst false (m.instrs.map Ins.d)), (54, .v (.int .i64 m.instrs.length)), (55, .v (.int .i64 i)), (75, .lst false (s.operands.map Opn.d)), (76, .v (.int .i64 s.operands.length)), (77, .v (.int .i64 j))], [(1, .box s.d), (0, .box m.d)], 2⟩) (fun b o => b && fewB 4 o.pieces.length) (fun _ _ => True) b0 hsl hN htr trivial ?_ ?_
          · intro j b o hj hjw ho _
            refine ⟨?_, trivial⟩
            cases b <;> simp -dsimp only [lp55x1, Mc.d, Ins.d, Opn.d, hj, hjw, ho, hFw, few, EVs, ↓EVd, ↓reduceIte, zA, zB, zC, zD, zE, zF, reduceBEq, reduceCtorEq, zG, zH, zI, zJ, zK, dcells, okc]
          · intro _
            rw [fold_all]
            exact hfin
        cases b
        · simp -dsimp only [lp55x2, Mc.d, Ins.d, hi, hw, hu, hFw, few, EVs, ↓EVd, ↓reduceIte, zA, zB, zC, zD, zE, zF, reduceBEq, reduceCtorEq, zG, zH, zI, zJ, zK, dcells, okc]
          generalize hJ : iter _ _ _ _ = J
          revert J
          refine inner false 0 _ _ _ ?_ ?_
          · simp -dsimp only [Mc.d, Ins.d, EVs, ↓EVd, ↓reduceIte, zA, zB, zC, zD, zE, zF, reduceBEq, reduceCtorEq, zG, zH, zI, zJ, zK, dcells, okc]
          · simp -dsimp only [lp55x1, Mc.d, Ins.d, hw, EVs, ↓EVd, ↓reduceIte, zA, zB, zC, zD, zE, zF, reduceBEq, reduceCtorEq, zG, zH, zI, zJ, zK, dcells, okc]
        · cases p1 : fewB 4 s.operands.length
          · simp -dsimp only [lp55x2, Mc.d, Ins.d, hi, hw, hu, hFw, few, p1, EVs, ↓EVd, ↓reduceIte, zA, zB, zC, zD, zE, zF, reduceBEq, reduceCtorEq, zG, zH, zI, zJ, zK, dcells, okc]
            generalize hJ : iter _ _ _ _ = J
            revert J
            refine inner false 0 _ _ _ ?_ ?_
            · simp -dsimp only [Mc.d, Ins.d, EVs, ↓EVd, ↓reduceIte, zA, zB, zC, zD, zE, zF, reduceBEq, reduceCtorEq, zG, zH, zI, zJ, zK, dcells, okc]
            · simp -dsimp only [lp55x1, Mc.d, Ins.d, hw, smI, p1, EVs, ↓EVd, ↓reduceIte, zA, zB, zC, zD, zE, zF, reduceBEq, reduceCtorEq, zG, zH, zI, zJ, zK, dcells, okc]
          · simp -dsimp only [lp55x2, Mc.d, Ins.d, hi, hw, hu, hFw, few, p1, EVs, ↓EVd, ↓reduceIte, zA, zB, zC, zD, zE, zF, reduceBEq, reduceCtorEq, zG, zH, zI, zJ, zK, dcells, okc]
            generalize hJ : iter _ _ _ _ = J
            revert J
            refine inner (fewB 4 s.effects.length) 0 _ _ _ ?_ ?_
            · simp -dsimp only [Mc.d, Ins.d, EVs, ↓EVd, ↓reduceIte, zA, zB, zC, zD, zE, zF, reduceBEq, reduceCtorEq, zG, zH, zI, zJ, zK, dcells, okc]
            · simp -dsimp only [lp55x1, Mc.d, Ins.d, hw, smI, p1, EVs, ↓EVd, ↓reduceIte, zA, zB, zC, zD, zE, zF, reduceBEq, reduceCtorEq, zG, zH, zI, zJ, zK, dcells, okc]
      · intro _
        rw [fold_all]
        simp -dsimp only [lp55x2, Mc.d, smallOK, q1, EVs, ↓EVd, ↓reduceIte, zA, zB, zC, zD, zE, zF, reduceBEq, reduceCtorEq, zG, zH, zI, zJ, zK, dcells, okc]
  cases q2 : fewB 16 m.banks.length
  case false =>
    simp -dsimp only [runE, run_eq, ir55, Mc.d, hFw, few, q1, q2, EVs, ↓EVd, ↓reduceIte, zA, zB, zC, zD, zE, zF, reduceBEq, reduceCtorEq, zG, zH, zI, zJ, zK, dcells, okc]
    generalize hI : iter _ _ _ _ = I
    revert I
    refine iter_all m.banks (fun i (b : Bool) => ⟨[(1, .ptr 0 0), (3, .v (.bool b)), (37, .lst false (m.banks.map Bk.d)), (38, .v (.int .i64 m.banks.length)), (39, .v (.int .i64 i))], [(0, .box m.d)], 1⟩) (fun b k => b && fewB 64 k.regs.length) (fun _ _ => True) false hlb.1 hN ?_ trivial ?_ ?_
    · simp -dsimp only [Mc.d, EVs, ↓EVd, ↓reduceIte, zA, zB, zC, zD, zE, zF, reduceBEq, reduceCtorEq, zG, zH, zI, zJ, zK, dcells, okc]
    · intro i b k hi hw hu _
      refine ⟨?_, trivial⟩
      cases b <;> simp -dsimp only [lp55x0, Mc.d, Bk.d, hi, hw, hu, hFw, few, EVs, ↓EVd, ↓reduceIte, zA, zB, zC, zD, zE, zF, reduceBEq, reduceCtorEq, zG, zH, zI, zJ, zK, dcells, okc]
    · intro _
      rw [fold_all]
      simp -dsimp only [lp55x0, Mc.d, EVs, ↓EVd, ↓reduceIte, zA, zB, zC, zD, zE, zF, reduceBEq, reduceCtorEq, zG, zH, zI, zJ, zK, dcells, okc]
      generalize hJ : iter _ _ _ _ = J
      revert J
      refine iter_all m.instrs (fun i (b : Bool) => ⟨[(3, .v (.bool b)), (53, .lst false (m.instrs.map Ins.d)), (54, .v (.int .i64 m.instrs.length)), (55, .v (.int .i64 i))], [(0, .box m.d)], 1⟩) (fun b k => b && smI k) (fun _ _ => True) (false && m.banks.all fun k => fewB 64 k.regs.length) hlb.2 hN ?_ trivial ?_ ?_
      · simp -dsimp only [Mc.d, EVs, ↓EVd, ↓reduceIte, zA, zB, zC, zD, zE, zF, reduceBEq, reduceCtorEq, zG, zH, zI, zJ, zK, dcells, okc]
      · intro i b s hi hw hu _
        refine ⟨?_, trivial⟩
        have hsl : s.operands.length ≤ maxLen := hio s (List.mem_of_getElem? hu)
        have inner : ∀ (b0 : Bool) (nx : Nat) (K : Option (Ex × St) → Option St) (σ : St) (r : St), trim [3, 53, 54, 55, 75, 76, 77] 2 σ = some ⟨[(3, .v (.bool b0)), (53, .lst false (m.instrs.map Ins.d)), (54, .v (.int .i64 m.instrs.length)), (55, .v (.int .i64 i)), (75, .lst false (s.operands.map Opn.d)), (76, .v (.int .i64 s.operands.length)), (77, .v (.int .i64 ((0 : Nat) : Int)))], [(1, .box s.d), (0, .box m.d)], 2⟩ →
            outK K (ev C N lp55x1 ⟨[(3, .v (.bool (b0 && s.operands.all fun o => fewB 4 o.pieces.length))), (53, .lst false (m.instrs.map Ins.d)), (54, .v (.int .i64 m.instrs.length)), (55, .v (.int .i64 i)), (75, .lst false (s.operands.map Opn.d)), (76, .v (.int .i64 s.operands.length)), (77, .v (.int .i64 s.operands.length))], [(1, .box s.d), (0, .box m.d)], 2⟩) = some r →
            ∀ J, iter (ev C N lp55x1) (trim [3, 53, 54, 55, 75, 76, 77] 2) N σ = J → K J = some r := by
          intro b0 nx K σ r htr hfin
          refine iter_all s.operands (fun j (b : Bool) => ⟨[(3, .v (.bool b)), (53, .lst false (m.instrs.map Ins.d)), (54, .v (.int .i64 m.instrs.length)), (55, .v (.int .i64 i)), (75, .lst false (s.operands.map Opn.d)), (76, .v (.int .i64 s.operands.length)), (77, .v (.int .i64 j))], [(1, .box s.d), (0, .box m.d)], 2⟩) (fun b o => b && fewB 4 o.pieces.length) (fun _ _ => True) b0 hsl hN htr trivial ?_ ?_
          · intro j b o hj hjw ho _
            refine ⟨?_, trivial⟩
            cases b <;> simp -dsimp only [lp55x1, Mc.d, Ins.d, Opn.d, hj, hjw, ho, hFw, few, EVs, ↓EVd, ↓reduceIte, zA, zB, zC, zD, zE, zF, reduceBEq, reduceCtorEq, zG, zH, zI, zJ, zK, dcells, okc]
          · intro _
            rw [fold_all]
            exact hfin
        cases b
        · simp -dsimp only [lp55x2, Mc.d, Ins.d, hi, hw, hu, hFw, few, EVs, ↓EVd, ↓reduceIte, zA, zB, zC, zD, zE, zF, reduceBEq, reduceCtorEq, zG, zH, zI, zJ, zK, dcells, okc]
          generalize hJ : iter _ _ _ _ = J
          revert J
          refine inner false 0 _ _ _ ?_ ?_
          · simp -dsimp only [Mc.d, Ins.d, EVs, ↓EVd, ↓reduceIte, zA, zB, zC, zD, zE, zF, reduceBEq, reduceCtorEq, zG, zH, zI, zJ, zK, dcells, okc]
          · simp -dsimp only [lp55x1, Mc.d, Ins.d, hw, EVs, ↓EVd, ↓reduceIte, zA, zB, zC, zD, zE, zF, reduceBEq, reduceCtorEq, zG, zH, zI, zJ, zK, dcells, okc]
        · cases p1 : fewB 4 s.operands.length
          · simp -dsimp only [lp55x2, Mc.d, Ins.d, hi, hw, hu, hFw, few, p1, EVs, ↓EVd, ↓reduceIte, zA, zB, zC, zD, zE, zF, reduceBEq, reduceCtorEq, zG, zH, zI, zJ, zK, dcells, okc]
            generalize hJ : iter _ _ _ _ = J
            revert J
            refine inner false 0 _ _ _ ?_ ?_
            · simp -dsimp only [Mc.d, Ins.d, EVs, ↓EVd, ↓reduceIte, zA, zB, zC, zD, zE, zF, reduceBEq, reduceCtorEq, zG, zH, zI, zJ, zK, dcells, okc]
            · simp -dsimp only [lp55x1, Mc.d, Ins.d, hw, smI, p1, EVs, ↓EVd, ↓reduceIte, zA, zB, zC, zD, zE, zF, reduceBEq, reduceCtorEq, zG, zH, zI, zJ, zK, dcells, okc]
          · simp -dsimp only [lp55x2, Mc.d, Ins.d, hi, hw, hu, hFw, few, p1, EVs, ↓EVd, ↓reduceIte, zA, zB, zC, zD, zE, zF, reduceBEq, reduceCtorEq, zG, zH, zI, zJ, zK, dcells, okc]
            generalize hJ : iter _ _ _ _ = J
            revert J
            refine inner (fewB 4 s.effects.length) 0 _ _ _ ?_ ?_
            · simp -dsimp only [Mc.d, Ins.d, EVs, ↓EVd, ↓reduceIte, zA, zB, zC, zD, zE, zF, reduceBEq, reduceCtorEq, zG, zH, zI, zJ, zK, dcells, okc]
            · simp -dsimp only [lp55x1, Mc.d, Ins.d, hw, smI, p1, EVs, ↓EVd, ↓reduceIte, zA, zB, zC, zD, zE, zF, reduceBEq, reduceCtorEq, zG, zH, zI, zJ, zK, dcells, okc]
      · intro _
        rw [fold_all]
        simp -dsimp only [lp55x2, Mc.d, smallOK, q1, q2, EVs, ↓EVd, ↓reduceIte, zA, zB, zC, zD, zE, zF, reduceBEq, reduceCtorEq, zG, zH, zI, zJ, zK, dcells, okc]
  cases q3 : fewB 8 m.units.length
  case false =>
    simp -dsimp only [runE, run_eq, ir55, Mc.d, hFw, few, q1, q2, q3, EVs, ↓EVd, ↓reduceIte, zA, zB, zC, zD, zE, zF, reduceBEq, reduceCtorEq, zG, zH, zI, zJ, zK, dcells, okc]
    generalize hI : iter _ _ _ _ = I
    revert I
    refine iter_all m.banks (fun i (b : Bool) => ⟨[(1, .ptr 0 0), (3, .v (.bool b)), (37, .lst false (m.banks.map Bk.d)), (38, .v (.int .i64 m.banks.length)), (39, .v (.int .i64 i))], [(0, .box m.d)], 1⟩) (fun b k => b && fewB 64 k.regs.length) (fun _ _ => True) false hlb.1 hN ?_ trivial ?_ ?_
    · simp -dsimp only [Mc.d, EVs, ↓EVd, ↓reduceIte, zA, zB, zC, zD, zE, zF, reduceBEq, reduceCtorEq, zG, zH, zI, zJ, zK, dcells, okc]
    · intro i b k hi hw hu _
      refine ⟨?_, trivial⟩
      cases b <;> simp -dsimp only [lp55x0, Mc.d, Bk.d, hi, hw, hu, hFw, few, EVs, ↓EVd, ↓reduceIte, zA, zB, zC, zD, zE, zF, reduceBEq, reduceCtorEq, zG, zH, zI, zJ, zK, dcells, okc]
    · intro _
      rw [fold_all]
      simp -dsimp only [lp55x0, Mc.d, EVs, ↓EVd, ↓reduceIte, zA, zB, zC, zD, zE, zF, reduceBEq, reduceCtorEq, zG, zH, zI, zJ, zK, dcells, okc]
      generalize hJ : iter _ _ _ _ = J
      revert J
      refine iter_all m.instrs (fun i (b : Bool) => ⟨[(3, .v (.bool b)), (53, .lst false (m.instrs.map Ins.d)), (54, .v (.int .i64 m.instrs.length)), (55, .v (.int .i64 i))], [(0, .box m.d)], 1⟩) (fun b k => b && smI k) (fun _ _ => True) (false && m.banks.all fun k => fewB 64 k.regs.length) hlb.2 hN ?_ trivial ?_ ?_
      · simp -dsimp only [Mc.d, EVs, ↓EVd, ↓reduceIte, zA, zB, zC, zD, zE, zF, reduceBEq, reduceCtorEq, zG, zH, zI, zJ, zK, dcells, okc]
      · intro i b s hi hw hu _
        refine ⟨?_, trivial⟩
        have hsl : s.operands.length ≤ maxLen := hio s (List.mem_of_getElem? hu)
        have inner : ∀ (b0 : Bool) (nx : Nat) (K : Option (Ex × St) → Option St) (σ : St) (r : St), trim [3, 53, 54, 55, 75, 76, 77] 2 σ = some ⟨[(3, .v (.bool b0)), (53, .lst false (m.instrs.map Ins.d)), (54, .v (.int .i64 m.instrs.length)), (55, .v (.int .i64 i)), (75, .lst false (s.operands.map Opn.d)), (76, .v (.int .i64 s.operands.length)), (77, .v (.int .i64 ((0 : Nat) : Int)))], [(1, .box s.d), (0, .box m.d)], 2⟩ →
            outK K (ev C N lp55x1 ⟨[(3, .v (.bool (b0 && s.operands.all fun o => fewB 4 o.pieces.length))), (53, .lst false (m.instrs.map Ins.d)), (54, .v (.int .i64 m.instrs.length)), (55, .v (.int .i64 i)), (75, .lst false (s.operands.map Opn.d)), (76, .v (.int .i64 s.operands.length)), (77, .v (.int .i64 s.operands.length))], [(1, .box s.d), (0, .box m.d)], 2⟩) = some r →
            ∀ J, iter (ev C N lp55x1) (trim [3, 53, 54, 55, 75, 76, 77] 2) N σ = J → K J = some r := by
          intro b0 nx K σ r htr hfin
          refine iter_all s.operands (fun j (b : Bool) => ⟨[(3, .v (.bool b)), (53, .lst false (m.instrs.map Ins.d)), (54, .v (.int .i64 m.instrs.length)), (55, .v (.int .i64 i)), (75, .lst false (s.operands.map Opn.d)), (76, .v (.int .i64 s.operands.length)), (77, .v (.int .i64 j))], [(1, .box s.d), (0, .box m.d)], 2⟩) (fun b o => b && fewB 4 o.pieces.length) (fun _ _ => True) b0 hsl hN htr trivial ?_ ?_
          · intro j b o hj hjw ho _
            refine ⟨?_, trivial⟩
            cases b <;> simp -dsimp only [lp55x1, Mc.d, Ins.d, Opn.d, hj, hjw, ho, hFw, few, EVs, ↓EVd, ↓reduceIte, zA, zB, zC, zD, zE, zF, reduceBEq, reduceCtorEq, zG, zH, zI, zJ, zK, dcells, okc]
          · intro _
            rw [fold_all]
            exact hfin
        cases b
        · simp -dsimp only [lp55x2, Mc.d, Ins.d, hi, hw, hu, hFw, few, EVs, ↓EVd, ↓reduceIte, zA, zB, zC, zD, zE, zF, reduceBEq, reduceCtorEq, zG, zH, zI, zJ, zK, dcells, okc]
          generalize hJ : iter _ _ _ _ = J
          revert J
          refine inner false 0 _ _ _ ?_ ?_
          · simp -dsimp only [Mc.d, Ins.d, EVs, ↓EVd, ↓reduceIte, zA, zB, zC, zD, zE, zF, reduceBEq, reduceCtorEq, zG, zH, zI, zJ, zK, dcells, okc]
          · simp -dsimp only [lp55x1, Mc.d, Ins.d, hw, EVs, ↓EVd, ↓reduceIte, zA, zB, zC, zD, zE, zF, reduceBEq, reduceCtorEq, zG, zH, zI, zJ, zK, dcells, okc]
        · cases p1 : fewB 4 s.operands.length
          · simp -dsimp only [lp55x2, Mc.d, Ins.d, hi, hw, hu, hFw, few, p1, EVs, ↓EVd, ↓reduceIte, zA, zB, zC, zD, zE, zF, reduceBEq, reduceCtorEq, zG, zH, zI, zJ, zK, dcells, okc]
            generalize hJ : iter _ _ _ _ = J
            revert J
            refine inner false 0 _ _ _ ?_ ?_
            · simp -dsimp only [Mc.d, Ins.d, EVs, ↓EVd, ↓reduceIte, zA, zB, zC, zD, zE, zF, reduceBEq, reduceCtorEq, zG, zH, zI, zJ, zK, dcells, okc]
            · simp -dsimp only [lp55x1, Mc.d, Ins.d, hw, smI, p1, EVs, ↓EVd, ↓reduceIte, zA, zB, zC, zD, zE, zF, reduceBEq, reduceCtorEq, zG, zH, zI, zJ, zK, dcells, okc]
          · simp -dsimp only [lp55x2, Mc.d, Ins.d, hi, hw, hu, hFw, few, p1, EVs, ↓EVd, ↓reduceIte, zA, zB, zC, zD, zE, zF, reduceBEq, reduceCtorEq, zG, zH, zI, zJ, zK, dcells, okc]
            generalize hJ : iter _ _ _ _ = J
            revert J
            refine inner (fewB 4 s.effects.length) 0 _ _ _ ?_ ?_
            · simp -dsimp only [Mc.d, Ins.d, EVs, ↓EVd, ↓reduceIte, zA, zB, zC, zD, zE, zF, reduceBEq, reduceCtorEq, zG, zH, zI, zJ, zK, dcells, okc]
            · simp -dsimp only [lp55x1, Mc.d, Ins.d, hw, smI, p1, EVs, ↓EVd, ↓reduceIte, zA, zB, zC, zD, zE, zF, reduceBEq, reduceCtorEq, zG, zH, zI, zJ, zK, dcells, okc]
      · intro _
        rw [fold_all]
        simp -dsimp only [lp55x2, Mc.d, smallOK, q1, q2, q3, EVs, ↓EVd, ↓reduceIte, zA, zB, zC, zD, zE, zF, reduceBEq, reduceCtorEq, zG, zH, zI, zJ, zK, dcells, okc]
  cases q4 : fewB 64 m.instrs.length
  case false =>
    simp -dsimp only [runE, run_eq, ir55, Mc.d, hFw, few, q1, q2, q3, q4, EVs, ↓EVd, ↓reduceIte, zA, zB, zC, zD, zE, zF, reduceBEq, reduceCtorEq, zG, zH, zI, zJ, zK, dcells, okc]
    generalize hI : iter _ _ _ _ = I
    revert I
    refine iter_all m.banks (fun i (b : Bool) => ⟨[(1, .ptr 0 0), (3, .v (.bool b)), (37, .lst false (m.banks.map Bk.d)), (38, .v (.int .i64 m.banks.length)), (39, .v (.int .i64 i))], [(0, .box m.d)], 1⟩) (fun b k => b && fewB 64 k.regs.length) (fun _ _ => True) false hlb.1 hN ?_ trivial ?_ ?_
    · simp -dsimp only [Mc.d, EVs, ↓EVd, ↓reduceIte, zA, zB, zC, zD, zE, zF, reduceBEq, reduceCtorEq, zG, zH, zI, zJ, zK, dcells, okc]
    · intro i b k hi hw hu _
      refine ⟨?_, trivial⟩
      cases b <;> simp -dsimp only [lp55x0, Mc.d, Bk.d, hi, hw, hu, hFw, few, EVs, ↓EVd, ↓reduceIte, zA, zB, zC, zD, zE, zF, reduceBEq, reduceCtorEq, zG, zH, zI, zJ, zK, dcells, okc]
    · intro _
      rw [fold_all]
      simp -dsimp only [lp55x0, Mc.d, EVs, ↓EVd, ↓reduceIte, zA, zB, zC, zD, zE, zF, reduceBEq, reduceCtorEq, zG, zH, zI, zJ, zK, dcells, okc]
      generalize hJ : iter _ _ _ _ = J
      revert J
      refine iter_all m.instrs (fun i (b : Bool) => ⟨[(3, .v (.bool b)), (53, .lst false (m.instrs.map Ins.d)), (54, .v (.int .i64 m.instrs.length)), (55, .v (.int .i64 i))], [(0, .box m.d)], 1⟩) (fun b k => b && smI k) (fun _ _ => True) (false && m.banks.all fun k => fewB 64 k.regs.length) hlb.2 hN ?_ trivial ?_ ?_
      · simp -dsimp only [Mc.d, EVs, ↓EVd, ↓reduceIte, zA, zB, zC, zD, zE, zF, reduceBEq, reduceCtorEq, zG, zH, zI, zJ, zK, dcells, okc]
      · intro i b s hi hw hu _
        refine ⟨?_, trivial⟩
        have hsl : s.operands.length ≤ maxLen := hio s (List.mem_of_getElem? hu)
        have inner : ∀ (b0 : Bool) (nx : Nat) (K : Option (Ex × St) → Option St) (σ : St) (r : St), trim [3, 53, 54, 55, 75, 76, 77] 2 σ = some ⟨[(3, .v (.bool b0)), (53, .lst false (m.instrs.map Ins.d)), (54, .v (.int .i64 m.instrs.length)), (55, .v (.int .i64 i)), (75, .lst false (s.operands.map Opn.d)), (76, .v (.int .i64 s.operands.length)), (77, .v (.int .i64 ((0 : Nat) : Int)))], [(1, .box s.d), (0, .box m.d)], 2⟩ →
            outK K (ev C N lp55x1 ⟨[(3, .v (.bool (b0 && s.operands.all fun o => fewB 4 o.pieces.length))), (53, .lst false (m.instrs.map Ins.d)), (54, .v (.int .i64 m.instrs.length)), (55, .v (.int .i64 i)), (75, .lst false (s.operands.map Opn.d)), (76, .v (.int .i64 s.operands.length)), (77, .v (.int .i64 s.operands.length))], [(1, .box s.d), (0, .box m.d)], 2⟩) = some r →
            ∀ J, iter (ev C N lp55x1) (trim [3, 53, 54, 55, 75, 76, 77] 2) N σ = J → K J = some r := by
          intro b0 nx K σ r htr hfin
          refine iter_all s.operands (fun j (b : Bool) => ⟨[(3, .v (.bool b)), (53, .lst false (m.instrs.map Ins.d)), (54, .v (.int .i64 m.instrs.length)), (55, .v (.int .i64 i)), (75, .lst false (s.operands.map Opn.d)), (76, .v (.int .i64 s.operands.length)), (77, .v (.int .i64 j))], [(1, .box s.d), (0, .box m.d)], 2⟩) (fun b o => b && fewB 4 o.pieces.length) (fun _ _ => True) b0 hsl hN htr trivial ?_ ?_
          · intro j b o hj hjw ho _
            refine ⟨?_, trivial⟩
            cases b <;> simp -dsimp only [lp55x1, Mc.d, Ins.d, Opn.d, hj, hjw, ho, hFw, few, EVs, ↓EVd, ↓reduceIte, zA, zB, zC, zD, zE, zF, reduceBEq, reduceCtorEq, zG, zH, zI, zJ, zK, dcells, okc]
          · intro _
            rw [fold_all]
            exact hfin
        cases b
        · simp -dsimp only [lp55x2, Mc.d, Ins.d, hi, hw, hu, hFw, few, EVs, ↓EVd, ↓reduceIte, zA, zB, zC, zD, zE, zF, reduceBEq, reduceCtorEq, zG, zH, zI, zJ, zK, dcells, okc]
          generalize hJ : iter _ _ _ _ = J
          revert J
          refine inner false 0 _ _ _ ?_ ?_
          · simp -dsimp only [Mc.d, Ins.d, EVs, ↓EVd, ↓reduceIte, zA, zB, zC, zD, zE, zF, reduceBEq, reduceCtorEq, zG, zH, zI, zJ, zK, dcells, okc]
          · simp -dsimp only [lp55x1, Mc.d, Ins.d, hw, EVs, ↓EVd, ↓reduceIte, zA, zB, zC, zD, zE, zF, reduceBEq, reduceCtorEq, zG, zH, zI, zJ, zK, dcells, okc]
        · cases p1 : fewB 4 s.operands.length
          · simp -dsimp only [lp55x2, Mc.d, Ins.d, hi, hw, hu, hFw, few, p1, EVs, ↓EVd, ↓reduceIte, zA, zB, zC, zD, zE, zF, reduceBEq, reduceCtorEq, zG, zH, zI, zJ, zK, dcells, okc]
            generalize hJ : iter _ _ _ _ = J
            revert J
            refine inner false 0 _ _ _ ?_ ?_
            · simp -dsimp only [Mc.d, Ins.d, EVs, ↓EVd, ↓reduceIte, zA, zB, zC, zD, zE, zF, reduceBEq, reduceCtorEq, zG, zH, zI, zJ, zK, dcells, okc]
            · simp -dsimp only [lp55x1, Mc.d, Ins.d, hw, smI, p1, EVs, ↓EVd, ↓reduceIte, zA, zB, zC, zD, zE, zF, reduceBEq, reduceCtorEq, zG, zH, zI, zJ, zK, dcells, okc]
          · simp -dsimp only [lp55x2, Mc.d, Ins.d, hi, hw, hu, hFw, few, p1, EVs, ↓EVd, ↓reduceIte, zA, zB, zC, zD, zE, zF, reduceBEq, reduceCtorEq, zG, zH, zI, zJ, zK, dcells, okc]
            generalize hJ : iter _ _ _ _ = J
            revert J
            refine inner (fewB 4 s.effects.length) 0 _ _ _ ?_ ?_
            · simp -dsimp only [Mc.d, Ins.d, EVs, ↓EVd, ↓reduceIte, zA, zB, zC, zD, zE, zF, reduceBEq, reduceCtorEq, zG, zH, zI, zJ, zK, dcells, okc]
            · simp -dsimp only [lp55x1, Mc.d, Ins.d, hw, smI, p1, EVs, ↓EVd, ↓reduceIte, zA, zB, zC, zD, zE, zF, reduceBEq, reduceCtorEq, zG, zH, zI, zJ, zK, dcells, okc]
      · intro _
        rw [fold_all]
        simp -dsimp only [lp55x2, Mc.d, smallOK, q1, q2, q3, q4, EVs, ↓EVd, ↓reduceIte, zA, zB, zC, zD, zE, zF, reduceBEq, reduceCtorEq, zG, zH, zI, zJ, zK, dcells, okc]
  simp -dsimp only [runE, run_eq, ir55, Mc.d, hFw, few, q1, q2, q3, q4, EVs, ↓EVd, ↓reduceIte, zA, zB, zC, zD, zE, zF, reduceBEq, reduceCtorEq, zG, zH, zI, zJ, zK, dcells, okc]
  generalize hI : iter _ _ _ _ = I
  revert I
  refine iter_all m.banks (fun i (b : Bool) => ⟨[(1, .ptr 0 0), (3, .v (.bool b)), (37, .lst false (m.banks.map Bk.d)), (38, .v (.int .i64 m.banks.length)), (39, .v (.int .i64 i))], [(0, .box m.d)], 1⟩) (fun b k => b && fewB 64 k.regs.length) (fun _ _ => True) true hlb.1 hN ?_ trivial ?_ ?_
  · simp -dsimp only [Mc.d, EVs, ↓EVd, ↓reduceIte, zA, zB, zC, zD, zE, zF, reduceBEq, reduceCtorEq, zG, zH, zI, zJ, zK, dcells, okc]
  · intro i b k hi hw hu _
    refine ⟨?_, trivial⟩
    cases b <;> simp -dsimp only [lp55x0, Mc.d, Bk.d, hi, hw, hu, hFw, few, EVs, ↓EVd, ↓reduceIte, zA, zB, zC, zD, zE, zF, reduceBEq, reduceCtorEq, zG, zH, zI, zJ, zK, dcells, okc]
  · intro _
    rw [fold_all]
    simp -dsimp only [lp55x0, Mc.d, EVs, ↓EVd, ↓reduceIte, zA, zB, zC, zD, zE, zF, reduceBEq, reduceCtorEq, zG, zH, zI, zJ, zK, dcells, okc]
    generalize hJ : iter _ _ _ _ = J
    revert J
    refine iter_all m.instrs (fun i (b : Bool) => ⟨[(3, .v (.bool b)), (53, .lst false (m.instrs.map Ins.d)), (54, .v (.int .i64 m.instrs.length)), (55, .v (.int .i64 i))], [(0, .box m.d)], 1⟩) (fun b k => b && smI k) (fun _ _ => True) (true && m.banks.all fun k => fewB 64 k.regs.length) hlb.2 hN ?_ trivial ?_ ?_
    · simp -dsimp only [Mc.d, EVs, ↓EVd, ↓reduceIte, zA, zB, zC, zD, zE, zF, reduceBEq, reduceCtorEq, zG, zH, zI, zJ, zK, dcells, okc]
    · intro i b s hi hw hu _
      refine ⟨?_, trivial⟩
      have hsl : s.operands.length ≤ maxLen := hio s (List.mem_of_getElem? hu)
      have inner : ∀ (b0 : Bool) (nx : Nat) (K : Option (Ex × St) → Option St) (σ : St) (r : St), trim [3, 53, 54, 55, 75, 76, 77] 2 σ = some ⟨[(3, .v (.bool b0)), (53, .lst false (m.instrs.map Ins.d)), (54, .v (.int .i64 m.instrs.length)), (55, .v (.int .i64 i)), (75, .lst false (s.operands.map Opn.d)), (76, .v (.int .i64 s.operands.length)), (77, .v (.int .i64 ((0 : Nat) : Int)))], [(1, .box s.d), (0, .box m.d)], 2⟩ →
          outK K (ev C N lp55x1 ⟨[(3, .v (.bool (b0 && s.operands.all fun o => fewB 4 o.pieces.length))), (53, .lst false (m.instrs.map Ins.d)), (54, .v (.int .i64 m.instrs.length)), (55, .v (.int .i64 i)), (75, .lst false (s.operands.map Opn.d)), (76, .v (.int .i64 s.operands.length)), (77, .v (.int .i64 s.operands.length))], [(1, .box s.d), (0, .box m.d)], 2⟩) = some r →
          ∀ J, iter (ev C N lp55x1) (trim [3, 53, 54, 55, 75, 76, 77] 2) N σ = J → K J = some r := by
        intro b0 nx K σ r htr hfin
        refine iter_all s.operands (fun j (b : Bool) => ⟨[(3, .v (.bool b)), (53, .lst false (m.instrs.map Ins.d)), (54, .v (.int .i64 m.instrs.length)), (55, .v (.int .i64 i)), (75, .lst false (s.operands.map Opn.d)), (76, .v (.int .i64 s.operands.length)), (77, .v (.int .i64 j))], [(1, .box s.d), (0, .box m.d)], 2⟩) (fun b o => b && fewB 4 o.pieces.length) (fun _ _ => True) b0 hsl hN htr trivial ?_ ?_
        · intro j b o hj hjw ho _
          refine ⟨?_, trivial⟩
          cases b <;> simp -dsimp only [lp55x1, Mc.d, Ins.d, Opn.d, hj, hjw, ho, hFw, few, EVs, ↓EVd, ↓reduceIte, zA, zB, zC, zD, zE, zF, reduceBEq, reduceCtorEq, zG, zH, zI, zJ, zK, dcells, okc]
        · intro _
          rw [fold_all]
          exact hfin
      cases b
      · simp -dsimp only [lp55x2, Mc.d, Ins.d, hi, hw, hu, hFw, few, EVs, ↓EVd, ↓reduceIte, zA, zB, zC, zD, zE, zF, reduceBEq, reduceCtorEq, zG, zH, zI, zJ, zK, dcells, okc]
        generalize hJ : iter _ _ _ _ = J
        revert J
        refine inner false 0 _ _ _ ?_ ?_
        · simp -dsimp only [Mc.d, Ins.d, EVs, ↓EVd, ↓reduceIte, zA, zB, zC, zD, zE, zF, reduceBEq, reduceCtorEq, zG, zH, zI, zJ, zK, dcells, okc]
        · simp -dsimp only [lp55x1, Mc.d, Ins.d, hw, EVs, ↓EVd, ↓reduceIte, zA, zB, zC, zD, zE, zF, reduceBEq, reduceCtorEq, zG, zH, zI, zJ, zK, dcells, okc]
      · cases p1 : fewB 4 s.operands.length
        · simp -dsimp only [lp55x2, Mc.d, Ins.d, hi, hw, hu, hFw, few, p1, EVs, ↓EVd, ↓reduceIte, zA, zB, zC, zD, zE, zF, reduceBEq, reduceCtorEq, zG, zH, zI, zJ, zK, dcells, okc]
          generalize hJ : iter _ _ _ _ = J
          revert J
          refine inner false 0 _ _ _ ?_ ?_
          · simp -dsimp only [Mc.d, Ins.d, EVs, ↓EVd, ↓reduceIte, zA, zB, zC, zD, zE, zF, reduceBEq, reduceCtorEq, zG, zH, zI, zJ, zK, dcells, okc]
          · simp -dsimp only [lp55x1, Mc.d, Ins.d, hw, smI, p1, EVs, ↓EVd, ↓reduceIte, zA, zB, zC, zD, zE, zF, reduceBEq, reduceCtorEq, zG, zH, zI, zJ, zK, dcells, okc]
        · simp -dsimp only [lp55x2, Mc.d, Ins.d, hi, hw, hu, hFw, few, p1, EVs, ↓EVd, ↓reduceIte, zA, zB, zC, zD, zE, zF, reduceBEq, reduceCtorEq, zG, zH, zI, zJ, zK, dcells, okc]
          generalize hJ : iter _ _ _ _ = J
          revert J
          refine inner (fewB 4 s.effects.length) 0 _ _ _ ?_ ?_
          · simp -dsimp only [Mc.d, Ins.d, EVs, ↓EVd, ↓reduceIte, zA, zB, zC, zD, zE, zF, reduceBEq, reduceCtorEq, zG, zH, zI, zJ, zK, dcells, okc]
          · simp -dsimp only [lp55x1, Mc.d, Ins.d, hw, smI, p1, EVs, ↓EVd, ↓reduceIte, zA, zB, zC, zD, zE, zF, reduceBEq, reduceCtorEq, zG, zH, zI, zJ, zK, dcells, okc]
    · intro _
      rw [fold_all]
      simp -dsimp only [lp55x2, Mc.d, smallOK, q1, q2, q3, q4, EVs, ↓EVd, ↓reduceIte, zA, zB, zC, zD, zE, zF, reduceBEq, reduceCtorEq, zG, zH, zI, zJ, zK, dcells, okc]
end Go.Proofs.Dv
set_option linter.unusedVariables false
set_option linter.unusedSimpArgs false
set_option maxRecDepth 100000
namespace Go.Proofs.Dv
open Go.RowKit
open Nat renaming reduceEqDiff → zA, reduceAdd → zB, reduceSub → zC, reduceLeDiff → zD, reduceLT → zE, reduceMul → zF
open Int renaming reduceToNat → zG, reduceLE → zH, reduceLT → zI
open List renaming set_cons_zero → zJ, set_cons_succ → zK
def RegsC (C : Ctx) : Prop := C.T 59 = none ∧ ∀ (m : Mc), m.regs.length ≤ 1000 → ∀ ok, C.cal 59 [.ptr 1 0] [(1, .box (cD m ok)), (0, .box m.d)] 2 = some (.tup [], [(1, .box (cD m (ok && regsOK m))), (0, .box m.d)], 2)
def BanksC (C : Ctx) : Prop := C.T 60 = none ∧ ∀ (m : Mc), m.banks.length ≤ 1000 → m.regs.length ≤ 1000 → (∀ b ∈ m.banks, b.regs.length ≤ 1000) → ∀ ok, C.cal 60 [.ptr 1 0] [(1, .box (cD m ok)), (0, .box m.d)] 2 = some (.tup [], [(1, .box (cD m (ok && banksOK m))), (0, .box m.d)], 2)
def UnitsC (C : Ctx) : Prop := C.T 61 = none ∧ ∀ (m : Mc), m.units.length ≤ 1000 → ∀ ok, C.cal 61 [.ptr 1 0] [(1, .box (cD m ok)), (0, .box m.d)] 2 = some (.tup [], [(1, .box (cD m (ok && unitsOK m))), (0, .box m.d)], 2)
def InstrC (C : Ctx) : Prop := C.T 63 = none ∧ ∀ {m : Mc} {H : Bool → List (Nat × Blk)}, Ckr 1 5 m H → ∀ (i : Ins), InsZ i → m.regs.length ≤ 1000 → m.banks.length ≤ 1000 → ∀ (ok : Bool), (ok = true → inB m.word 1 4 = true) → (ok = true → ∀ r ∈ m.regs, r.name.size ≤ 1000) → (ok = true → ∀ b ∈ m.banks, ∃ r g, b.regs[0]? = some r ∧ atI m.regs r = some g) →
    C.cal 63 [.ptr 1 0, .agg i.d] (H ok) 5 = some (.tup [], H (insOK m i ok), 5)
theorem insOK_false (m : Mc) (i : Ins) : insOK m i false = false := by
  cases h : insOK m i false with
  | false => rfl
  | true =>
    simp only [insOK, Bool.and_eq_true] at h
    have := (opsF_ok _ _ h.1).1
    simp at this
def headOK (m : Mc) : Bool := (nameOK m.name && (inB m.word 1 4 && (decide (m.address = 16) || decide (m.address = 32)))) && regsOK m && banksOK m && unitsOK m
def insF (m : Mc) (a : Bool × List ByteArray) (i : Ins) : Bool × List ByteArray := (insOK m i (a.1 && freshB a.2 i.name), a.2 ++ [i.name])
def machOK (m : Mc) : Bool := (m.instrs.foldl (insF m) (headOK m, [])).1
def chkM (m : Mc) : Int := bif !smallOK m then 4 else bif machOK m then 0 else 8
theorem name_size {s : ByteArray} (h : nameOK s = true) : s.size ≤ 24 := by
  simp only [nameOK, Bool.and_eq_true, decide_eq_true_eq] at h
  exact h.1.2
theorem regsF_ok (m : Mc) : ∀ (l : List Rg) (a : Bool × List ByteArray), (l.foldl (regF m) a).1 = true → a.1 = true ∧ ∀ r ∈ l, nameOK r.name = true
  | [], a, h => ⟨h, fun r hr => by simp at hr⟩
  | r :: l, a, h => by
    obtain ⟨h1, h2⟩ := regsF_ok m l _ h
    simp only [regF, freshB, Bool.and_eq_true] at h1
    refine ⟨h1.1, fun q hq => ?_⟩
    rcases List.mem_cons.1 hq with rfl | hq
    · exact h1.2.1.1.1
    · exact h2 q hq
theorem regs_names {m : Mc} (h : regsOK m = true) : ∀ r ∈ m.regs, r.name.size ≤ 1000 := by
  simp only [regsOK, Bool.and_eq_true] at h
  intro r hr
  have := name_size ((regsF_ok m _ _ h.2).2 r hr)
  omega
theorem bankRF_ok (m : Mc) (b : Bk) : ∀ (l : List Int) (a : Nat × Bool), (l.foldl (bankRF m b) a).2 = true → a.2 = true ∧ ∀ r ∈ l, inB r 0 (IntKind.i64.wrap ((m.regs.length : Int) - 1)) = true
  | [], a, h => ⟨h, fun r hr => by simp at hr⟩
  | r :: l, a, h => by
    obtain ⟨h1, h2⟩ := bankRF_ok m b l _ h
    simp only [bankRF, Bool.and_eq_true] at h1
    refine ⟨h1.1.1, fun q hq => ?_⟩
    rcases List.mem_cons.1 hq with rfl | hq
    · exact h1.1.2.1
    · exact h2 q hq
theorem bankF_ok (m : Mc) : ∀ (l : List Bk) (a : Bool × List ByteArray), (l.foldl (bankF m) a).1 = true → a.1 = true ∧ ∀ b ∈ l, 0 < b.regs.length ∧ ∀ r ∈ b.regs, inB r 0 (IntKind.i64.wrap ((m.regs.length : Int) - 1)) = true
  | [], a, h => ⟨h, fun r hr => by simp at hr⟩
  | b :: l, a, h => by
    obtain ⟨h1, h2⟩ := bankF_ok m l _ h
    simp only [bankF] at h1
    obtain ⟨h3, h4⟩ := bankRF_ok m b _ _ h1
    simp only [Bool.and_eq_true, decide_eq_true_eq] at h3
    refine ⟨h3.1, fun q hq => ?_⟩
    rcases List.mem_cons.1 hq with rfl | hq
    · exact ⟨by omega, h4⟩
    · exact h2 q hq
theorem banks_regs {m : Mc} (hl : m.regs.length ≤ 1000000) (h : banksOK m = true) : ∀ b ∈ m.banks, ∃ r g, b.regs[0]? = some r ∧ atI m.regs r = some g := by
  intro b hb
  obtain ⟨h1, h2⟩ := (bankF_ok m _ _ h).2 b hb
  have e : b.regs[0]? = some (b.regs[0]'h1) := List.getElem?_eq_getElem h1
  obtain ⟨q1, g, q2⟩ := inB_get hl (h2 _ (List.mem_of_getElem? e))
  exact ⟨_, g, e, by unfold atI; rw [if_pos (by simpa using q1), q2]⟩
theorem insF_false (m : Mc) : ∀ (l : List Ins) (ns : List ByteArray), (l.foldl (insF m) (false, ns)).1 = false
  | [], ns => rfl
  | i :: l, ns => by
    rw [List.foldl_cons]
    simp only [insF, Bool.false_and, insOK_false]
    exact insF_false m l _
theorem insF_out (m : Mc) : ∀ (l : List Ins) (a : Bool × List ByteArray) {u : Unit}, scan (tst (fun (a : Bool × List ByteArray) (_ : Ins) => a.1) (insF m) fun _ _ => ()) a l = .out u → (l.foldl (insF m) a).1 = false
  | [], a, u, h => by simp [scan] at h
  | i :: l, ⟨ok, ns⟩, u, h => by
    cases ok with
    | false => exact insF_false m _ _
    | true =>
      simp only [scan, tst, if_true] at h
      rw [List.foldl_cons]
      exact insF_out m l _ h
theorem scan_go {α β X : Type} {t : α → X → Bool} {u : α → X → α} {v : α → X → β} : ∀ (l : List X) (a0 a : α), scan (tst t u v) a0 l = .go a → l.foldl u a0 = a
  | [], a0, a, h => by simpa [scan] using h
  | x :: l, a0, a, h => by
    simp only [scan, tst] at h
    cases ht : t a0 x with
    | false => rw [ht] at h; simp at h
    | true => rw [ht] at h; rw [List.foldl_cons]; exact scan_go l _ a (by simpa using h)
theorem HR_nm4 (m : Mc) (ok : Bool) (i : Ins) : Nmr 2 3 5 (fun ns => (4, .box i.d) :: HR m ok ns) := by
  constructor <;> intros <;> simp -dsimp only [HR, cD, Mc.d, Ins.d, List.map_append, List.length_append, EVs, ↓EVd, ↓reduceIte, zA, zB, zC, zD, zE, zF, reduceBEq, reduceCtorEq, zG, zH, zI, zJ, zK, dcells, okc]
def x_ChkM (a : Mc) : List D := match a with | m => [.agg m.d]
theorem i_ChkM : ∀ a b, x_ChkM a = x_ChkM b → a = b := by
  rintro m m' h
  first | simpa [x_ChkM, INJ, and_assoc, Int.ofNat_inj] using h | (simp [x_ChkM, INJ, and_assoc, Int.ofNat_inj] at h; simp_all)
open Classical in
noncomputable def s_ChkM : List D → Option D := sOf x_ChkM fun a => match a with | m => if (∀ i ∈ m.instrs, ∀ e ∈ i.effects, TOK e.addr ∧ TOK e.value ∧ TOK e.cond) then some (.v (.int .i64 (chkM m))) else none
theorem e_ChkM {m : Mc} (hc : (∀ i ∈ m.instrs, ∀ e ∈ i.effects, TOK e.addr ∧ TOK e.value ∧ TOK e.cond)) : s_ChkM [.agg m.d] = some (.v (.int .i64 (chkM m))) := (sOf_eq i_ChkM m).trans (if_pos hc)
theorem R_ChkM {C : Ctx} {F : IFun} (hspec : ∀ N, maxLen + 10 < N → ∀ (m : Mc), lenOK.lenOKs [.agg m.d] → (∀ i ∈ m.instrs, ∀ e ∈ i.effects, TOK e.addr ∧ TOK e.value ∧ TOK e.cond) → runE C N F [.agg m.d] = some (.v (.int .i64 (chkM m)))) : Runs C F (s_ChkM) := runs_of i_ChkM fun N hN m r hl hf => by
  simp only [Option.ite_none_right_eq_some, Option.some.injEq] at hf
  obtain ⟨hc, rfl⟩ := hf
  exact hspec N hN m hl hc
set_option maxHeartbeats 2000000 in
theorem r_ChkM (C : Ctx) (hS : C.T 55 = some s_SmallM) (hM : MustC C) (hF : FreshC C) (hR : RegsC C) (hB : BanksC C) (hU : UnitsC C) (hI' : InstrC C) (hW : C.T 58 = some s_in) (hNm : C.T 57 = some s_Name) : Runs C ir14 s_ChkM := R_ChkM fun N hN m hl hc => by
  have hml := maxLen_ge
  have eS := @e_SmallM m
  simp only [Mc.d] at eS
  cases hsm : smallOK m
  · simp -dsimp only [runE, run_eq, ir14, Mc.d, hS, eS, hsm, chkM, EVs, ↓EVd, ↓reduceIte, zA, zB, zC, zD, zE, zF, reduceBEq, reduceCtorEq, zG, zH, zI, zJ, zK, dcells, okc]
  have hsz := hsm
  simp only [smallOK, Bool.and_eq_true, List.all_eq_true] at hsz
  obtain ⟨⟨⟨⟨z1, z2⟩, z3⟩, z4⟩, z5, z6⟩ := hsz
  have z1 := fewB_le z1
  have z2 := fewB_le z2
  have z3 := fewB_le z3
  have z4 := fewB_le z4
  have zb : ∀ b ∈ m.banks, b.regs.length ≤ 1000 := fun b hb => by have := fewB_le (z5 b hb); omega
  have zi : ∀ i ∈ m.instrs, InsZ i := by
    intro i hi
    have := z6 i hi
    simp only [smI, Bool.and_eq_true, List.all_eq_true] at this
    obtain ⟨⟨a1, a2⟩, a3⟩ := this
    have a1 := fewB_le a1
    have a2 := fewB_le a2
    exact ⟨by omega, by omega, fun o ho => by have := fewB_le (a3 o ho); omega, hc i hi⟩
  have k2 : Ckr 1 2 m (fun ok => [(1, .box (cD m ok)), (0, .box m.d)]) := by
    constructor <;> intros <;> simp -dsimp only [cD, Mc.d, EVs, ↓EVd, ↓reduceIte, zA, zB, zC, zD, zE, zF, reduceBEq, reduceCtorEq, zG, zH, zI, zJ, zK, dcells, okc]
  have m3 := fun ok => (mustE hM k2).2.2.1 ok
  have c1 := fun ok => hR.2 m (by omega) ok
  have c2 := fun ok => hB.2 m (by omega) (by omega) zb ok
  have c3 := fun ok => hU.2 m (by omega) ok
  have e1 := @e_in m.word 1 4
  have e2 := @e_Name m.name
  simp only [cD, Mc.d] at m3 c1 c2 c3
  cases ha : decide (m.address = 16) <;>
  (simp -dsimp only [runE, run_eq, ir14, Mc.d, hS, eS, hsm, layd, hM.1, m3, hR.1, c1, hB.1, c2, hU.1, c3, hW, e1, hNm, e2, ha, EVs, ↓EVd, ↓reduceIte, zA, zB, zC, zD, zE, zF, reduceBEq, reduceCtorEq, zG, zH, zI, zJ, zK, dcells, okc]
   generalize hI : iter _ _ _ _ = I
   revert I
   refine iter_test2 m.instrs (fun j (a : Bool × List ByteArray) => ⟨[(3, .ptr 1 0), (4, .ptr 2 0), (37, .lst false (m.instrs.map Ins.d)), (38, .v (.int .i64 m.instrs.length)), (39, .v (.int .i64 j))], HR m a.1 a.2, 4⟩) (fun a _ => a.1) (insF m) (fun _ _ => ()) (fun j a => a.2.length = j ∧ (a.1 = true → headOK m = true)) (headOK m, []) (by omega) hN ?_ ⟨rfl, fun h => h⟩ ?_ ?_ ?_
   · simp -dsimp only [HR, cD, Mc.d, headOK, ha, EVs, ↓EVd, ↓reduceIte, zA, zB, zC, zD, zE, zF, reduceBEq, reduceCtorEq, zG, zH, zI, zJ, zK, dcells, okc]
   · rintro j ⟨okj, ns⟩ i hj hjw hi ⟨hlen, hhd⟩ htt
     simp only at htt hlen hhd
     subst htt
     have hil : j < m.instrs.length := (List.getElem?_eq_some_iff.1 hi).1
     have hhead := hhd rfl
     simp only [headOK, Bool.and_eq_true] at hhead
     obtain ⟨⟨⟨⟨b1, b2, b3⟩, b4⟩, b5⟩, b6⟩ := hhead
     have h2 := hF.2 (HR_nm4 m true i) ns (by omega) i.name
     have k5 := (HR_ck m (ns ++ [i.name]) 4 (.inl rfl)).cons (k := 4) (b := i.d) (Nat.le_refl _) rfl
     have m1 := fun ok => (mustE hM k5).1 ok
     have h3 := hI'.2 k5 i (zi i (List.mem_of_getElem? hi)) (by omega) (by omega) (freshB ns i.name) (fun _ => b2) (fun _ => regs_names b4) (fun _ => banks_regs (by omega) b5)
     simp only [HR, cD, Mc.d, Ins.d] at h2 m1 h3
     refine ⟨?_, by simp [insF, hlen], fun _ => by simp only [headOK, b1, b2, b4, b5, b6]; simpa using b3⟩
     simp -dsimp only [lp14x0, HR, cD, Mc.d, Ins.d, hj, hjw, hi, hF.1, h2, hM.1, m1, hI'.1, h3, insF, EVs, ↓EVd, ↓reduceIte, zA, zB, zC, zD, zE, zF, reduceBEq, reduceCtorEq, zG, zH, zI, zJ, zK, dcells, okc]
   · rintro j ⟨okj, ns⟩ i hj hi ⟨hlen, hhd⟩ htt hs
     simp only at htt
     subst htt
     have hmo : machOK m = false := insF_out m _ _ hs
     simp -dsimp only [lp14x0, HR, cD, Mc.d, Ins.d, hj, hi, chkM, hsm, hmo, EVs, ↓EVd, ↓reduceIte, zA, zB, zC, zD, zE, zF, reduceBEq, reduceCtorEq, zG, zH, zI, zJ, zK, dcells, okc]
   · rintro ⟨okj, ns⟩ _ hs
     have hmo : machOK m = okj := by rw [machOK, scan_go _ _ _ hs]
     cases okj <;> simp -dsimp only [lp14x0, HR, cD, Mc.d, chkM, hsm, hmo, EVs, ↓EVd, ↓reduceIte, zA, zB, zC, zD, zE, zF, reduceBEq, reduceCtorEq, zG, zH, zI, zJ, zK, dcells, okc])
end Go.Proofs.Dv
set_option linter.unusedVariables false
set_option linter.unusedSimpArgs false
set_option maxRecDepth 100000
namespace Go.Proofs.Dv
open Go.RowKit
open Nat renaming reduceEqDiff → zA, reduceAdd → zB, reduceSub → zC, reduceLeDiff → zD, reduceLT → zE, reduceMul → zF
open Int renaming reduceToNat → zG, reduceLE → zH, reduceLT → zI
open List renaming set_cons_zero → zJ, set_cons_succ → zK
def rtV (t : Nat) : Option (Ex × St) → Option D
  | some (.rt, σ) => some (lkf σ.fr t)
  | _ => none
theorem rtV_rt {t : Nat} {σ : St} : rtV t (some (.rt, σ)) = some (lkf σ.fr t) := nr rfl
theorem rtV_gb {t : Nat} {c : Bool} {A B : Unit → Option (Ex × St)} {_ : Dm A} {_ : Dm B} : rtV t (gb c A B) = gb c (fun _ => rtV t (A ())) (fun _ => rtV t (B ())) := by cases c <;> rfl
theorem rtV_some {t : Nat} {r : Option (Ex × St)} {d : D} (h : rtV t r = some d) : ∃ σ, r = some (.rt, σ) ∧ lkf σ.fr t = d := by
  rcases r with _ | ⟨e, σ⟩
  · simp [rtV] at h
  · cases e <;> simp [rtV] at h
    exact ⟨σ, rfl, h⟩
def EVq := And.intro @rtV_rt @rtV_gb
def allI {X : Type} (p : Nat → X → Bool) : Nat → List X → Bool
  | _, [] => true
  | i, x :: xs => p i x && allI p (i + 1) xs
theorem allI_all {X : Type} {p : X → Bool} : ∀ (l : List X) (i : Nat), allI (fun _ x => p x) i l = l.all p
  | [], i => rfl
  | x :: xs, i => by rw [allI, List.all_cons, allI_all xs]
theorem rloop {X : Type} {f : St → Option (Ex × St)} {tr : St → Option St} {N : Nat} {σ σe : St} {ret e : Nat} {d : D} (els : List X) (H : Nat → St) (p : Nat → X → Bool)
    (hl : els.length ≤ maxLen) (hN : maxLen + 10 < N) (h0 : tr σ = some (H 0))
    (hgo : ∀ (j : Nat) x, decide ((j : Int) < (els.length : Int)) = true → IntKind.i64.wrap ((j : Int) + 1) = ((j + 1 : Nat) : Int) → els[j]? = some x → p j x = true → stepE tr (f (H j)) = some (H (j + 1)))
    (hst : ∀ (j : Nat) x, decide ((j : Int) < (els.length : Int)) = true → els[j]? = some x → p j x = false → rtV ret (f (H j)) = some d)
    (hend : f (H els.length) = some (.ex e, σe)) :
    (allI p 0 els = true → iter f tr N σ = some (.ex e, σe)) ∧ (allI p 0 els = false → ∃ σ', iter f tr N σ = some (.rt, σ') ∧ lkf σ'.fr ret = d) := by
  have key : ∀ (xs pre : List X) (N : Nat) (σ : St), els = pre ++ xs → xs.length < N → tr σ = some (H pre.length) →
      (allI p pre.length xs = true → iter f tr N σ = some (.ex e, σe)) ∧ (allI p pre.length xs = false → ∃ σ', iter f tr N σ = some (.rt, σ') ∧ lkf σ'.fr ret = d) := by
    intro xs
    induction xs with
    | nil =>
      intro pre N σ he hN h0
      obtain ⟨N, rfl⟩ : ∃ k, N = k + 1 := ⟨N - 1, by simp at hN; omega⟩
      have hl : els.length = pre.length := by rw [he]; simp
      rw [← hl] at h0
      refine ⟨fun _ => ?_, fun h => by simp [allI] at h⟩
      simp only [iter, h0, Option.bind_some, hend]
    | cons x xs ih =>
      intro pre N σ he hN h0
      obtain ⟨N, rfl⟩ : ∃ k, N = k + 1 := ⟨N - 1, by simp at hN; omega⟩
      have hx : els[pre.length]? = some x := by rw [he]; simp
      have hlt' : pre.length < els.length := by rw [he]; simp
      have hlt : decide ((pre.length : Int) < (els.length : Int)) = true := by simp; exact hlt'
      have hw := wrap_succ hlt' hl
      cases hp : p pre.length x with
      | true =>
        have h1 := hgo _ x hlt hw hx hp
        cases hf : f (H pre.length) with
        | none => rw [hf] at h1; simp [stepE] at h1
        | some r =>
          obtain ⟨ex, σ'⟩ := r
          rw [hf] at h1
          cases ex with
          | nm =>
            have := ih (pre ++ [x]) N σ' (by rw [he]; simp) (by simp at hN; omega) (by simpa [stepE] using h1)
            have e1 : iter f tr (N + 1) σ = iter f tr N σ' := by simp only [iter, h0, Option.bind_some, hf]
            rw [e1]
            simpa [allI, hp] using this
          | ex i => simp [stepE] at h1
          | rt => simp [stepE] at h1
      | false =>
        obtain ⟨σ', h1, h2⟩ := rtV_some (hst _ x hlt hx hp)
        refine ⟨fun h => by simp [allI, hp] at h, fun _ => ⟨σ', ?_, h2⟩⟩
        simp only [iter, h0, Option.bind_some, h1]
  exact key els [] N σ rfl (by omega) h0
theorem rloopJ {X : Type} {f : St → Option (Ex × St)} {tr : St → Option St} {N : Nat} {σ σe : St} {ret e : Nat} {d : D} {J : Option (Ex × St)} (hJ : iter f tr N σ = J) (els : List X) (H : Nat → St) (p : Nat → X → Bool)
    (hl : els.length ≤ maxLen) (hN : maxLen + 10 < N) (h0 : tr σ = some (H 0))
    (hgo : ∀ (j : Nat) x, decide ((j : Int) < (els.length : Int)) = true → IntKind.i64.wrap ((j : Int) + 1) = ((j + 1 : Nat) : Int) → els[j]? = some x → p j x = true → stepE tr (f (H j)) = some (H (j + 1)))
    (hst : ∀ (j : Nat) x, decide ((j : Int) < (els.length : Int)) = true → els[j]? = some x → p j x = false → rtV ret (f (H j)) = some d)
    (hend : f (H els.length) = some (.ex e, σe)) :
    (allI p 0 els = true → J = some (.ex e, σe)) ∧ (allI p 0 els = false → ∃ σ', J = some (.rt, σ') ∧ lkf σ'.fr ret = d) := by
  subst hJ
  exact rloop els H p hl hN h0 hgo hst hend
def rgAt (m : Mc) (i : Nat) (r : Rg) : Bool := (nameOK r.name && inB r.width 1 64) && ((m.regs.take i).all (fun q => !decide (q.name = r.name)) && regRest m r)
def regsR (m : Mc) : Bool := allI (rgAt m) 0 m.regs && decide (0 < (m.regs.length : Int))
def x_RegsR (a : Mc) : List D := match a with | m => [.agg m.d]
theorem i_RegsR : ∀ a b, x_RegsR a = x_RegsR b → a = b := by
  rintro m m' h
  first | simpa [x_RegsR, INJ, and_assoc, Int.ofNat_inj] using h | (simp [x_RegsR, INJ, and_assoc, Int.ofNat_inj] at h; simp_all)
open Classical in
noncomputable def s_RegsR : List D → Option D := sOf x_RegsR fun a => match a with | m => if (m.regs.length ≤ 1000) then some (.v (.bool (regsR m))) else none
theorem e_RegsR {m : Mc} (hc : (m.regs.length ≤ 1000)) : s_RegsR [.agg m.d] = some (.v (.bool (regsR m))) := (sOf_eq i_RegsR m).trans (if_pos hc)
theorem R_RegsR {C : Ctx} {F : IFun} (hspec : ∀ N, maxLen + 10 < N → ∀ (m : Mc), lenOK.lenOKs [.agg m.d] → (m.regs.length ≤ 1000) → runE C N F [.agg m.d] = some (.v (.bool (regsR m)))) : Runs C F (s_RegsR) := runs_of i_RegsR fun N hN m r hl hf => by
  simp only [Option.ite_none_right_eq_some, Option.some.injEq] at hf
  obtain ⟨hc, rfl⟩ := hf
  exact hspec N hN m hl hc
theorem lp41 (C : Ctx) (N : Nat) (hN : maxLen + 10 < N) (m : Mc) (i : Nat) (r : Rg) (hi : i < m.regs.length) (hl : m.regs.length ≤ 1000) {σ : St} {J : Option (Ex × St)} (hJ : iter (ev C N lp67x0) (trim [1, 3, 4, 5] 2) N σ = J) (h0 : trim [1, 3, 4, 5] 2 σ = some ⟨[(1, .ptr 0 0), (3, .v (.int .i64 i)), (4, .ptr 1 0), (5, .v (.int .i64 ((0 : Nat) : Int)))], [(1, .box r.d), (0, .box m.d)], 2⟩) :
    ((m.regs.take i).all (fun q => !decide (q.name = r.name)) = true → J = some (.ex 2, ⟨[(31, .v (.bool false)), (30, .v (.int .i64 i)), (29, .v (.int .i64 i)), (1, .ptr 0 0), (3, .v (.int .i64 i)), (4, .ptr 1 0), (5, .v (.int .i64 i))], [(1, .box r.d), (0, .box m.d)], 2⟩)) ∧
    ((m.regs.take i).all (fun q => !decide (q.name = r.name)) = false → ∃ σ', J = some (.rt, σ') ∧ lkf σ'.fr 2 = .v (.bool false)) := by
  have htl : (m.regs.take i).length = i := by rw [List.length_take]; omega
  have hml := maxLen_ge
  have := rloop (e := 2) (ret := 2) (d := .v (.bool false)) (σe := ⟨[(31, .v (.bool false)), (30, .v (.int .i64 i)), (29, .v (.int .i64 i)), (1, .ptr 0 0), (3, .v (.int .i64 i)), (4, .ptr 1 0), (5, .v (.int .i64 i))], [(1, .box r.d), (0, .box m.d)], 2⟩) (m.regs.take i) (fun j => ⟨[(1, .ptr 0 0), (3, .v (.int .i64 i)), (4, .ptr 1 0), (5, .v (.int .i64 j))], [(1, .box r.d), (0, .box m.d)], 2⟩) (fun _ q => !decide (q.name = r.name)) (by omega) hN h0 ?_ ?_ ?_ (f := ev C N lp67x0)
  · rw [allI_all] at this
    rw [hJ] at this
    exact this
  · intro j q hj hjw hq hp
    have hq' := take_get hq
    rw [htl] at hj
    have hp' : decide (q.name = r.name) = false := by simpa using hp
    simp -dsimp only [lp67x0, hj, hjw, hq', hp', Mc.d, Rg.d, EVs, ↓EVd, ↓reduceIte, zA, zB, zC, zD, zE, zF, reduceBEq, reduceCtorEq, zG, zH, zI, zJ, zK, dcells, okc]
  · intro j q hj hq hp
    have hq' := take_get hq
    rw [htl] at hj
    have hp' : decide (q.name = r.name) = true := by simpa using hp
    simp -dsimp only [EVq, lp67x0, hj, hq', hp', Mc.d, Rg.d, EVs, ↓EVd, ↓reduceIte, zA, zB, zC, zD, zE, zF, reduceBEq, reduceCtorEq, zG, zH, zI, zJ, zK, dcells, okc]
  · simp -dsimp only [lp67x0, htl, Mc.d, Rg.d, EVs, ↓EVd, ↓reduceIte, zA, zB, zC, zD, zE, zF, reduceBEq, reduceCtorEq, zG, zH, zI, zJ, zK, dcells, okc]
theorem r_okRegs (C : Ctx) (hNm : C.T 65 = some s_Name) (hW : C.T 66 = some s_in) : Runs C ir67 s_RegsR := R_RegsR fun N hN m hl hc => by
  have hml := maxLen_ge
  simp -dsimp only [runE, run_eq, ir67, Mc.d, EVs, ↓EVd, ↓reduceIte, zA, zB, zC, zD, zE, zF, reduceBEq, reduceCtorEq, zG, zH, zI, zJ, zK, dcells, okc]
  generalize hI : iter _ _ _ _ = I
  have body : ∀ (i : Nat) (r : Rg), decide ((i : Int) < (m.regs.length : Int)) = true → IntKind.i64.wrap ((i : Int) + 1) = ((i + 1 : Nat) : Int) → m.regs[i]? = some r →
      (rgAt m i r = true → stepE (trim [1, 3] 1) (ev C N lp67x1 ⟨[(1, .ptr 0 0), (3, .v (.int .i64 i))], [(0, .box m.d)], 1⟩) = some ⟨[(1, .ptr 0 0), (3, .v (.int .i64 ((i + 1 : Nat) : Int)))], [(0, .box m.d)], 1⟩) ∧
      (rgAt m i r = false → rtV 2 (ev C N lp67x1 ⟨[(1, .ptr 0 0), (3, .v (.int .i64 i))], [(0, .box m.d)], 1⟩) = some (.v (.bool false))) := by
    intro i r hi hw hr
    have hil : i < m.regs.length := (List.getElem?_eq_some_iff.1 hr).1
    have e1 := @e_Name r.name
    have e2 := @e_in r.width 1 64
    have e3 := @e_in r.of_ 0 (IntKind.i64.wrap ((m.regs.length : Int) - 1))
    cases c1 : nameOK r.name
    · refine ⟨fun h => by simp [rgAt, c1] at h, fun _ => ?_⟩
      simp -dsimp only [EVq, lp67x1, Mc.d, Rg.d, hi, hr, hNm, e1, c1, EVs, ↓EVd, ↓reduceIte, zA, zB, zC, zD, zE, zF, reduceBEq, reduceCtorEq, zG, zH, zI, zJ, zK, dcells, okc]
    cases c2 : inB r.width 1 64
    · refine ⟨fun h => by simp [rgAt, c2] at h, fun _ => ?_⟩
      simp -dsimp only [EVq, lp67x1, Mc.d, Rg.d, hi, hr, hNm, e1, c1, hW, e2, c2, EVs, ↓EVd, ↓reduceIte, zA, zB, zC, zD, zE, zF, reduceBEq, reduceCtorEq, zG, zH, zI, zJ, zK, dcells, okc]
    cases c3 : (m.regs.take i).all (fun q => !decide (q.name = r.name))
    · refine ⟨fun h => by simp [rgAt, c3] at h, fun _ => ?_⟩
      simp -dsimp only [EVq, lp67x1, Mc.d, Rg.d, hi, hr, hNm, e1, c1, hW, e2, c2, EVs, ↓EVd, ↓reduceIte, zA, zB, zC, zD, zE, zF, reduceBEq, reduceCtorEq, zG, zH, zI, zJ, zK, dcells, okc]
      generalize hJ : iter _ _ _ _ = J
      obtain ⟨σ', rfl, k2⟩ := (lp41 C N hN m i r hil hc hJ (by simp -dsimp only [Mc.d, Rg.d, EVs, ↓EVd, ↓reduceIte, zA, zB, zC, zD, zE, zF, reduceBEq, reduceCtorEq, zG, zH, zI, zJ, zK, dcells, okc])).2 c3
      simp -dsimp only [EVq, k2, EVs, ↓EVd, ↓reduceIte, zA, zB, zC, zD, zE, zF, reduceBEq, reduceCtorEq, zG, zH, zI, zJ, zK, dcells, okc]
    have fin : (regRest m r = true → stepE (trim [1, 3] 1) (ev C N lp67x1 ⟨[(1, .ptr 0 0), (3, .v (.int .i64 i))], [(0, .box m.d)], 1⟩) = some ⟨[(1, .ptr 0 0), (3, .v (.int .i64 ((i + 1 : Nat) : Int)))], [(0, .box m.d)], 1⟩) ∧
      (regRest m r = false → rtV 2 (ev C N lp67x1 ⟨[(1, .ptr 0 0), (3, .v (.int .i64 i))], [(0, .box m.d)], 1⟩) = some (.v (.bool false))) := by
      cases g1 : decide (r.of_ = -1)
      case true =>
        have q : regRest m r = decide (r.low = 0) := by simp only [regRest, g1, cond_true]
        rw [q]
        constructor
        · intro c4
          simp -dsimp only [EVq, lp67x1, Mc.d, Rg.d, hi, hr, hNm, e1, c1, hW, e2, c2, EVs, ↓EVd, ↓reduceIte, zA, zB, zC, zD, zE, zF, reduceBEq, reduceCtorEq, zG, zH, zI, zJ, zK, dcells, okc]
          generalize hJ : iter _ _ _ _ = J
          obtain rfl := (lp41 C N hN m i r hil hc hJ (by simp -dsimp only [Mc.d, Rg.d, EVs, ↓EVd, ↓reduceIte, zA, zB, zC, zD, zE, zF, reduceBEq, reduceCtorEq, zG, zH, zI, zJ, zK, dcells, okc])).1 c3
          simp -dsimp only [EVq, Mc.d, Rg.d, g1, c4, hw, EVs, ↓EVd, ↓reduceIte, zA, zB, zC, zD, zE, zF, reduceBEq, reduceCtorEq, zG, zH, zI, zJ, zK, dcells, okc]
        · intro c4
          simp -dsimp only [EVq, lp67x1, Mc.d, Rg.d, hi, hr, hNm, e1, c1, hW, e2, c2, EVs, ↓EVd, ↓reduceIte, zA, zB, zC, zD, zE, zF, reduceBEq, reduceCtorEq, zG, zH, zI, zJ, zK, dcells, okc]
          generalize hJ : iter _ _ _ _ = J
          obtain rfl := (lp41 C N hN m i r hil hc hJ (by simp -dsimp only [Mc.d, Rg.d, EVs, ↓EVd, ↓reduceIte, zA, zB, zC, zD, zE, zF, reduceBEq, reduceCtorEq, zG, zH, zI, zJ, zK, dcells, okc])).1 c3
          simp -dsimp only [EVq, Mc.d, Rg.d, g1, c4, hw, EVs, ↓EVd, ↓reduceIte, zA, zB, zC, zD, zE, zF, reduceBEq, reduceCtorEq, zG, zH, zI, zJ, zK, dcells, okc]
      cases g2 : inB r.of_ 0 (IntKind.i64.wrap ((m.regs.length : Int) - 1))
      · have q : regRest m r = false := by simp only [regRest, g1, g2, cond_false, cond_true, Bool.not_false]
        refine ⟨fun h => by rw [q] at h; simp at h, fun _ => ?_⟩
        simp -dsimp only [EVq, lp67x1, Mc.d, Rg.d, hi, hr, hNm, e1, c1, hW, e2, c2, EVs, ↓EVd, ↓reduceIte, zA, zB, zC, zD, zE, zF, reduceBEq, reduceCtorEq, zG, zH, zI, zJ, zK, dcells, okc]
        generalize hJ : iter _ _ _ _ = J
        obtain rfl := (lp41 C N hN m i r hil hc hJ (by simp -dsimp only [Mc.d, Rg.d, EVs, ↓EVd, ↓reduceIte, zA, zB, zC, zD, zE, zF, reduceBEq, reduceCtorEq, zG, zH, zI, zJ, zK, dcells, okc])).1 c3
        simp -dsimp only [EVq, Mc.d, Rg.d, g1, hW, e3, g2, hw, EVs, ↓EVd, ↓reduceIte, zA, zB, zC, zD, zE, zF, reduceBEq, reduceCtorEq, zG, zH, zI, zJ, zK, dcells, okc]
      obtain ⟨q1, p, q2⟩ := inB_get (l := m.regs) (by omega) g2
      have q : regRest m r = (decide (p.of_ = -1) && (decide (r.width < p.width) && (inB p.width 1 64 && inB r.low 0 (IntKind.i64.wrap (p.width - r.width))))) := by
        simp only [regRest, g1, g2, cond_false, Bool.not_true, q2]
      have e5 := @e_in p.width 1 64
      have e6 := @e_in r.low 0 (IntKind.i64.wrap (p.width - r.width))
      rw [q]
      cases d1 : decide (p.of_ = -1) <;> cases d2 : decide (r.width < p.width) <;> cases d3 : inB p.width 1 64 <;> cases d4 : inB r.low 0 (IntKind.i64.wrap (p.width - r.width)) <;> refine ⟨fun h => ?_, fun h => ?_⟩ <;> first
        | (simp at h; done)
        | (have d5 : decide (p.width ≤ r.width) = !decide (r.width < p.width) := by rw [dlt]; simp
           rw [d2] at d5
           simp -dsimp only [EVq, lp67x1, Mc.d, Rg.d, hi, hr, hNm, e1, c1, hW, e2, c2, EVs, ↓EVd, ↓reduceIte, zA, zB, zC, zD, zE, zF, reduceBEq, reduceCtorEq, zG, zH, zI, zJ, zK, dcells, okc]
           generalize hJ : iter _ _ _ _ = J
           obtain rfl := (lp41 C N hN m i r hil hc hJ (by simp -dsimp only [Mc.d, Rg.d, EVs, ↓EVd, ↓reduceIte, zA, zB, zC, zD, zE, zF, reduceBEq, reduceCtorEq, zG, zH, zI, zJ, zK, dcells, okc])).1 c3
           simp -dsimp only [EVq, Mc.d, Rg.d, g1, hW, e3, g2, q1, q2, d1, d3, d4, d5, e5, e6, hw, EVs, ↓EVd, ↓reduceIte, zA, zB, zC, zD, zE, zF, reduceBEq, reduceCtorEq, zG, zH, zI, zJ, zK, dcells, okc])
    simpa [rgAt, c1, c2, c3] using fin
  have key := rloopJ (d := .v (.bool false)) (ret := 2) (e := 0) hI m.regs (fun i => ⟨[(1, .ptr 0 0), (3, .v (.int .i64 i))], [(0, .box m.d)], 1⟩) (rgAt m) (σe := ⟨[(11, .v (.bool false)), (10, .v (.int .i64 m.regs.length)), (9, .lst false (m.regs.map Rg.d)), (8, .ptr 0 3), (7, .v (.int .i64 m.regs.length)), (1, .ptr 0 0), (3, .v (.int .i64 m.regs.length))], [(0, .box m.d)], 1⟩) (by omega) hN (by simp -dsimp only [Mc.d, EVs, ↓EVd, ↓reduceIte, zA, zB, zC, zD, zE, zF, reduceBEq, reduceCtorEq, zG, zH, zI, zJ, zK, dcells, okc]) (fun i r hi hw hr hp => (body i r hi hw hr).1 hp) (fun i r hi hr hp => (body i r hi (by have := (List.getElem?_eq_some_iff.1 hr).1; exact wrap_succ this (by omega)) hr).2 hp) (by simp -dsimp only [lp67x1, Mc.d, EVs, ↓EVd, ↓reduceIte, zA, zB, zC, zD, zE, zF, reduceBEq, reduceCtorEq, zG, zH, zI, zJ, zK, dcells, okc])
  cases ha : allI (rgAt m) 0 m.regs
  · obtain ⟨σ', rfl, k2⟩ := key.2 ha
    simp -dsimp only [EVq, k2, regsR, ha, EVs, ↓EVd, ↓reduceIte, zA, zB, zC, zD, zE, zF, reduceBEq, reduceCtorEq, zG, zH, zI, zJ, zK, dcells, okc]
  · obtain rfl := key.1 ha
    simp -dsimp only [EVq, Mc.d, regsR, ha, EVs, ↓EVd, ↓reduceIte, zA, zB, zC, zD, zE, zF, reduceBEq, reduceCtorEq, zG, zH, zI, zJ, zK, dcells, okc]
end Go.Proofs.Dv
set_option linter.unusedVariables false
set_option linter.unusedSimpArgs false
set_option maxRecDepth 100000
namespace Go.Proofs.Dv
open Go.RowKit
open Nat renaming reduceEqDiff → zA, reduceAdd → zB, reduceSub → zC, reduceLeDiff → zD, reduceLT → zE, reduceMul → zF
open Int renaming reduceToNat → zG, reduceLE → zH, reduceLT → zI
open List renaming set_cons_zero → zJ, set_cons_succ → zK
def unAt (m : Mc) (i : Nat) (u : Un) : Bool := (nameOK u.name && inB u.count 1 4) && (m.units.take i).all (fun q => !decide (q.name = u.name))
def unitsR (m : Mc) : Bool := allI (unAt m) 0 m.units && decide (0 < (m.units.length : Int))
def x_UnitsR (a : Mc) : List D := match a with | m => [.agg m.d]
theorem i_UnitsR : ∀ a b, x_UnitsR a = x_UnitsR b → a = b := by
  rintro m m' h
  first | simpa [x_UnitsR, INJ, and_assoc, Int.ofNat_inj] using h | (simp [x_UnitsR, INJ, and_assoc, Int.ofNat_inj] at h; simp_all)
open Classical in
noncomputable def s_UnitsR : List D → Option D := sOf x_UnitsR fun a => match a with | m => if (m.units.length ≤ 1000) then some (.v (.bool (unitsR m))) else none
theorem e_UnitsR {m : Mc} (hc : (m.units.length ≤ 1000)) : s_UnitsR [.agg m.d] = some (.v (.bool (unitsR m))) := (sOf_eq i_UnitsR m).trans (if_pos hc)
theorem R_UnitsR {C : Ctx} {F : IFun} (hspec : ∀ N, maxLen + 10 < N → ∀ (m : Mc), lenOK.lenOKs [.agg m.d] → (m.units.length ≤ 1000) → runE C N F [.agg m.d] = some (.v (.bool (unitsR m)))) : Runs C F (s_UnitsR) := runs_of i_UnitsR fun N hN m r hl hf => by
  simp only [Option.ite_none_right_eq_some, Option.some.injEq] at hf
  obtain ⟨hc, rfl⟩ := hf
  exact hspec N hN m hl hc
theorem r_okUnits (C : Ctx) (hNm : C.T 65 = some s_Name) (hW : C.T 66 = some s_in) : Runs C ir69 s_UnitsR := R_UnitsR fun N hN m hl hc => by
  have hml := maxLen_ge
  simp -dsimp only [runE, run_eq, ir69, Mc.d, EVs, ↓EVd, ↓reduceIte, zA, zB, zC, zD, zE, zF, reduceBEq, reduceCtorEq, zG, zH, zI, zJ, zK, dcells, okc]
  generalize hI : iter _ _ _ _ = I
  have body : ∀ (i : Nat) (r : Un), decide ((i : Int) < (m.units.length : Int)) = true → IntKind.i64.wrap ((i : Int) + 1) = ((i + 1 : Nat) : Int) → m.units[i]? = some r →
      (unAt m i r = true → stepE (trim [1, 3] 1) (ev C N lp69x1 ⟨[(1, .ptr 0 0), (3, .v (.int .i64 i))], [(0, .box m.d)], 1⟩) = some ⟨[(1, .ptr 0 0), (3, .v (.int .i64 ((i + 1 : Nat) : Int)))], [(0, .box m.d)], 1⟩) ∧
      (unAt m i r = false → rtV 2 (ev C N lp69x1 ⟨[(1, .ptr 0 0), (3, .v (.int .i64 i))], [(0, .box m.d)], 1⟩) = some (.v (.bool false))) := by
    intro i r hi hw hr
    have hil : i < m.units.length := (List.getElem?_eq_some_iff.1 hr).1
    have htl : (m.units.take i).length = i := by rw [List.length_take]; omega
    have e1 := @e_Name r.name
    have e2 := @e_in r.count 1 4
    cases c1 : nameOK r.name
    · refine ⟨fun h => by simp [unAt, c1] at h, fun _ => ?_⟩
      simp -dsimp only [EVq, lp69x1, Mc.d, Un.d, hi, hr, hNm, e1, c1, EVs, ↓EVd, ↓reduceIte, zA, zB, zC, zD, zE, zF, reduceBEq, reduceCtorEq, zG, zH, zI, zJ, zK, dcells, okc]
    cases c2 : inB r.count 1 4
    · refine ⟨fun h => by simp [unAt, c2] at h, fun _ => ?_⟩
      simp -dsimp only [EVq, lp69x1, Mc.d, Un.d, hi, hr, hNm, e1, c1, hW, e2, c2, EVs, ↓EVd, ↓reduceIte, zA, zB, zC, zD, zE, zF, reduceBEq, reduceCtorEq, zG, zH, zI, zJ, zK, dcells, okc]
    have inner : ∀ {σ : St} {J : Option (Ex × St)}, iter (ev C N lp69x0) (trim [1, 3, 4] 1) N σ = J → trim [1, 3, 4] 1 σ = some ⟨[(1, .ptr 0 0), (3, .v (.int .i64 i)), (4, .v (.int .i64 ((0 : Nat) : Int)))], [(0, .box m.d)], 1⟩ →
        ((m.units.take i).all (fun q => !decide (q.name = r.name)) = true → J = some (.ex 2, ⟨[(32, .v (.bool false)), (31, .v (.int .i64 i)), (30, .v (.int .i64 i)), (1, .ptr 0 0), (3, .v (.int .i64 i)), (4, .v (.int .i64 i))], [(0, .box m.d)], 1⟩)) ∧
        ((m.units.take i).all (fun q => !decide (q.name = r.name)) = false → ∃ σ', J = some (.rt, σ') ∧ lkf σ'.fr 2 = .v (.bool false)) := by
      intro σ J hJ h0
      have := rloopJ (e := 2) (ret := 2) (d := .v (.bool false)) (σe := ⟨[(32, .v (.bool false)), (31, .v (.int .i64 i)), (30, .v (.int .i64 i)), (1, .ptr 0 0), (3, .v (.int .i64 i)), (4, .v (.int .i64 i))], [(0, .box m.d)], 1⟩) hJ (m.units.take i) (fun j => ⟨[(1, .ptr 0 0), (3, .v (.int .i64 i)), (4, .v (.int .i64 j))], [(0, .box m.d)], 1⟩) (fun _ q => !decide (q.name = r.name)) (by omega) hN h0 ?_ ?_ ?_
      · rw [allI_all] at this
        exact this
      · intro j q hj hjw hq hp
        have hq' := take_get hq
        rw [htl] at hj
        have hp' : decide (q.name = r.name) = false := by simpa using hp
        simp -dsimp only [lp69x0, hj, hjw, hq', hr, hp', Mc.d, Un.d, EVs, ↓EVd, ↓reduceIte, zA, zB, zC, zD, zE, zF, reduceBEq, reduceCtorEq, zG, zH, zI, zJ, zK, dcells, okc]
      · intro j q hj hq hp
        have hq' := take_get hq
        rw [htl] at hj
        have hp' : decide (q.name = r.name) = true := by simpa using hp
        simp -dsimp only [EVq, lp69x0, hj, hq', hr, hp', Mc.d, Un.d, EVs, ↓EVd, ↓reduceIte, zA, zB, zC, zD, zE, zF, reduceBEq, reduceCtorEq, zG, zH, zI, zJ, zK, dcells, okc]
      · simp -dsimp only [lp69x0, htl, Mc.d, EVs, ↓EVd, ↓reduceIte, zA, zB, zC, zD, zE, zF, reduceBEq, reduceCtorEq, zG, zH, zI, zJ, zK, dcells, okc]
    cases c3 : (m.units.take i).all (fun q => !decide (q.name = r.name))
    · refine ⟨fun h => by simp [unAt, c3] at h, fun _ => ?_⟩
      simp -dsimp only [EVq, lp69x1, Mc.d, Un.d, hi, hr, hNm, e1, c1, hW, e2, c2, EVs, ↓EVd, ↓reduceIte, zA, zB, zC, zD, zE, zF, reduceBEq, reduceCtorEq, zG, zH, zI, zJ, zK, dcells, okc]
      generalize hJ : iter _ _ _ _ = J
      obtain ⟨σ', rfl, k2⟩ := (inner hJ (by simp -dsimp only [Mc.d, EVs, ↓EVd, ↓reduceIte, zA, zB, zC, zD, zE, zF, reduceBEq, reduceCtorEq, zG, zH, zI, zJ, zK, dcells, okc])).2 c3
      simp -dsimp only [EVq, k2, EVs, ↓EVd, ↓reduceIte, zA, zB, zC, zD, zE, zF, reduceBEq, reduceCtorEq, zG, zH, zI, zJ, zK, dcells, okc]
    · refine ⟨fun _ => ?_, fun h => by simp [unAt, c1, c2, c3] at h⟩
      simp -dsimp only [EVq, lp69x1, Mc.d, Un.d, hi, hr, hNm, e1, c1, hW, e2, c2, EVs, ↓EVd, ↓reduceIte, zA, zB, zC, zD, zE, zF, reduceBEq, reduceCtorEq, zG, zH, zI, zJ, zK, dcells, okc]
      generalize hJ : iter _ _ _ _ = J
      obtain rfl := (inner hJ (by simp -dsimp only [Mc.d, EVs, ↓EVd, ↓reduceIte, zA, zB, zC, zD, zE, zF, reduceBEq, reduceCtorEq, zG, zH, zI, zJ, zK, dcells, okc])).1 c3
      simp -dsimp only [EVq, Mc.d, hw, EVs, ↓EVd, ↓reduceIte, zA, zB, zC, zD, zE, zF, reduceBEq, reduceCtorEq, zG, zH, zI, zJ, zK, dcells, okc]
  have key := rloopJ (d := .v (.bool false)) (ret := 2) (e := 0) hI m.units (fun i => ⟨[(1, .ptr 0 0), (3, .v (.int .i64 i))], [(0, .box m.d)], 1⟩) (unAt m) (σe := ⟨[(9, .v (.bool false)), (8, .v (.int .i64 m.units.length)), (7, .lst false (m.units.map Un.d)), (6, .ptr 0 5), (5, .v (.int .i64 m.units.length)), (1, .ptr 0 0), (3, .v (.int .i64 m.units.length))], [(0, .box m.d)], 1⟩) (by omega) hN (by simp -dsimp only [Mc.d, EVs, ↓EVd, ↓reduceIte, zA, zB, zC, zD, zE, zF, reduceBEq, reduceCtorEq, zG, zH, zI, zJ, zK, dcells, okc]) (fun i r hi hw hr hp => (body i r hi hw hr).1 hp) (fun i r hi hr hp => (body i r hi (by have := (List.getElem?_eq_some_iff.1 hr).1; exact wrap_succ this (by omega)) hr).2 hp) (by simp -dsimp only [lp69x1, Mc.d, EVs, ↓EVd, ↓reduceIte, zA, zB, zC, zD, zE, zF, reduceBEq, reduceCtorEq, zG, zH, zI, zJ, zK, dcells, okc])
  cases ha : allI (unAt m) 0 m.units
  · obtain ⟨σ', rfl, k2⟩ := key.2 ha
    simp -dsimp only [EVq, k2, unitsR, ha, EVs, ↓EVd, ↓reduceIte, zA, zB, zC, zD, zE, zF, reduceBEq, reduceCtorEq, zG, zH, zI, zJ, zK, dcells, okc]
  · obtain rfl := key.1 ha
    simp -dsimp only [EVq, Mc.d, unitsR, ha, EVs, ↓EVd, ↓reduceIte, zA, zB, zC, zD, zE, zF, reduceBEq, reduceCtorEq, zG, zH, zI, zJ, zK, dcells, okc]
def W8p (w : Int) : Int := IntKind.i64.wrap (8 * w)
def pcR (w : Int) (p : Pc) : Bool := inB p.len 1 (W8p w) && inB p.at_ 0 (IntKind.i64.wrap (W8p w - p.len))
def x_PcsR (a : Opn × Int) : List D := match a with | (o, w) => [.agg o.d, .v (.int .i64 w)]
theorem i_PcsR : ∀ a b, x_PcsR a = x_PcsR b → a = b := by
  rintro ⟨o, w⟩ ⟨o', w'⟩ h
  first | simpa [x_PcsR, INJ, and_assoc, Int.ofNat_inj] using h | (simp [x_PcsR, INJ, and_assoc, Int.ofNat_inj] at h; simp_all)
noncomputable def s_PcsR : List D → Option D := sOf x_PcsR fun a => match a with | (o, w) => some (.v (.bool (o.pieces.all (pcR w))))
theorem e_PcsR {o : Opn} {w : Int} : s_PcsR [.agg o.d, .v (.int .i64 w)] = some (.v (.bool (o.pieces.all (pcR w)))) := sOf_eq i_PcsR (o, w)
theorem R_PcsR {C : Ctx} {F : IFun} (hspec : ∀ N, maxLen + 10 < N → ∀ (o : Opn) (w : Int), lenOK.lenOKs [.agg o.d, .v (.int .i64 w)] → runE C N F [.agg o.d, .v (.int .i64 w)] = some (.v (.bool (o.pieces.all (pcR w))))) : Runs C F s_PcsR := runs_of i_PcsR fun N hN a r hl hf => by
  obtain ⟨o, w⟩ := a
  simp only [Option.some.injEq] at hf
  subst hf
  exact hspec N hN o w hl
theorem r_okPieces (C : Ctx) (hW : C.T 66 = some s_in) : Runs C ir151 s_PcsR := R_PcsR fun N hN o w hl => by
  have hll : o.pieces.length ≤ maxLen := by
    simp only [Opn.d, EVl, List.length_map] at hl
    exact hl.1.2.2.2.2.1.1
  simp -dsimp only [runE, run_eq, ir151, Opn.d, EVs, ↓EVd, ↓reduceIte, zA, zB, zC, zD, zE, zF, reduceBEq, reduceCtorEq, zG, zH, zI, zJ, zK, dcells, okc]
  generalize hI : iter _ _ _ _ = I
  have hW8 : IntKind.i64.wrap (8 * w) = W8p w := rfl
  have key := rloopJ (d := .v (.bool false)) (ret := 4) (e := 0) hI o.pieces (fun i => ⟨[(1, .v (.int .i64 w)), (2, .ptr 0 0), (5, .v (.int .i64 i))], [(0, .box o.d)], 1⟩) (fun _ p => pcR w p) (σe := ⟨[(11, .v (.bool false)), (10, .v (.int .i64 o.pieces.length)), (9, .lst false (o.pieces.map Pc.d)), (8, .ptr 0 4), (7, .v (.int .i64 o.pieces.length)), (1, .v (.int .i64 w)), (2, .ptr 0 0), (5, .v (.int .i64 o.pieces.length))], [(0, .box o.d)], 1⟩) hll hN (by simp -dsimp only [Opn.d, EVs, ↓EVd, ↓reduceIte, zA, zB, zC, zD, zE, zF, reduceBEq, reduceCtorEq, zG, zH, zI, zJ, zK, dcells, okc]) ?_ ?_ (by simp -dsimp only [lp151x0, Opn.d, EVs, ↓EVd, ↓reduceIte, zA, zB, zC, zD, zE, zF, reduceBEq, reduceCtorEq, zG, zH, zI, zJ, zK, dcells, okc])
  · rw [allI_all] at key
    cases ha : o.pieces.all (pcR w)
    · obtain ⟨σ', rfl, k2⟩ := key.2 ha
      simp -dsimp only [EVq, k2, EVs, ↓EVd, ↓reduceIte, zA, zB, zC, zD, zE, zF, reduceBEq, reduceCtorEq, zG, zH, zI, zJ, zK, dcells, okc]
    · obtain rfl := key.1 ha
      simp -dsimp only [EVq, Opn.d, EVs, ↓EVd, ↓reduceIte, zA, zB, zC, zD, zE, zF, reduceBEq, reduceCtorEq, zG, zH, zI, zJ, zK, dcells, okc]
  · intro i p hi hw hp ht
    have e1 := @e_in p.len 1 (W8p w)
    have e2 := @e_in p.at_ 0 (IntKind.i64.wrap (W8p w - p.len))
    simp only [pcR, Bool.and_eq_true] at ht
    simp -dsimp only [lp151x0, Opn.d, Pc.d, hi, hw, hp, hW, hW8, e1, e2, ht.1, ht.2, EVs, ↓EVd, ↓reduceIte, zA, zB, zC, zD, zE, zF, reduceBEq, reduceCtorEq, zG, zH, zI, zJ, zK, dcells, okc]
  · intro i p hi hp ht
    have e1 := @e_in p.len 1 (W8p w)
    have e2 := @e_in p.at_ 0 (IntKind.i64.wrap (W8p w - p.len))
    cases t1 : inB p.len 1 (W8p w)
    · simp -dsimp only [EVq, lp151x0, Opn.d, Pc.d, hi, hp, hW, hW8, e1, t1, EVs, ↓EVd, ↓reduceIte, zA, zB, zC, zD, zE, zF, reduceBEq, reduceCtorEq, zG, zH, zI, zJ, zK, dcells, okc]
    · have t2 : inB p.at_ 0 (IntKind.i64.wrap (W8p w - p.len)) = false := by simpa [pcR, t1] using ht
      simp -dsimp only [EVq, lp151x0, Opn.d, Pc.d, hi, hp, hW, hW8, e1, e2, t1, t2, EVs, ↓EVd, ↓reduceIte, zA, zB, zC, zD, zE, zF, reduceBEq, reduceCtorEq, zG, zH, zI, zJ, zK, dcells, okc]
end Go.Proofs.Dv
set_option linter.unusedVariables false
set_option linter.unusedSimpArgs false
set_option maxRecDepth 100000
namespace Go.Proofs.Dv
open Go.RowKit
open Nat renaming reduceEqDiff → zA, reduceAdd → zB, reduceSub → zC, reduceLeDiff → zD, reduceLT → zE, reduceMul → zF
open Int renaming reduceToNat → zG, reduceLE → zH, reduceLT → zI
open List renaming set_cons_zero → zJ, set_cons_succ → zK
theorem rfindJ {X : Type} {f : St → Option (Ex × St)} {tr : St → Option St} {N : Nat} {σ σe : St} {ret e : Nat} {d : X → D} {J : Option (Ex × St)} (hJ : iter f tr N σ = J) (els : List X) (H : Nat → St) (p : X → Bool)
    (hl : els.length ≤ maxLen) (hN : maxLen + 10 < N) (h0 : tr σ = some (H 0))
    (hgo : ∀ (j : Nat) x, decide ((j : Int) < (els.length : Int)) = true → IntKind.i64.wrap ((j : Int) + 1) = ((j + 1 : Nat) : Int) → els[j]? = some x → p x = false → stepE tr (f (H j)) = some (H (j + 1)))
    (hst : ∀ (j : Nat) x, decide ((j : Int) < (els.length : Int)) = true → els[j]? = some x → p x = true → rtV ret (f (H j)) = some (d x))
    (hend : f (H els.length) = some (.ex e, σe)) :
    (els.find? p = none → J = some (.ex e, σe)) ∧ (∀ x, els.find? p = some x → ∃ σ', J = some (.rt, σ') ∧ lkf σ'.fr ret = d x) := by
  subst hJ
  have key : ∀ (xs pre : List X) (N : Nat) (σ : St), els = pre ++ xs → xs.length < N → tr σ = some (H pre.length) →
      (xs.find? p = none → iter f tr N σ = some (.ex e, σe)) ∧ (∀ x, xs.find? p = some x → ∃ σ', iter f tr N σ = some (.rt, σ') ∧ lkf σ'.fr ret = d x) := by
    intro xs
    induction xs with
    | nil =>
      intro pre N σ he hN h0
      obtain ⟨N, rfl⟩ : ∃ k, N = k + 1 := ⟨N - 1, by simp at hN; omega⟩
      have hl : els.length = pre.length := by rw [he]; simp
      rw [← hl] at h0
      refine ⟨fun _ => ?_, fun x h => by simp at h⟩
      simp only [iter, h0, Option.bind_some, hend]
    | cons x xs ih =>
      intro pre N σ he hN h0
      obtain ⟨N, rfl⟩ : ∃ k, N = k + 1 := ⟨N - 1, by simp at hN; omega⟩
      have hx : els[pre.length]? = some x := by rw [he]; simp
      have hlt' : pre.length < els.length := by rw [he]; simp
      have hlt : decide ((pre.length : Int) < (els.length : Int)) = true := by simp; exact hlt'
      have hw := wrap_succ hlt' hl
      cases hp : p x with
      | false =>
        have h1 := hgo _ x hlt hw hx hp
        cases hf : f (H pre.length) with
        | none => rw [hf] at h1; simp [stepE] at h1
        | some r =>
          obtain ⟨ex, σ'⟩ := r
          rw [hf] at h1
          cases ex with
          | nm =>
            have := ih (pre ++ [x]) N σ' (by rw [he]; simp) (by simp at hN; omega) (by simpa [stepE] using h1)
            have e1 : iter f tr (N + 1) σ = iter f tr N σ' := by simp only [iter, h0, Option.bind_some, hf]
            rw [e1]
            simpa [List.find?_cons, hp] using this
          | ex i => simp [stepE] at h1
          | rt => simp [stepE] at h1
      | true =>
        obtain ⟨σ', h1, h2⟩ := rtV_some (hst _ x hlt hx hp)
        refine ⟨fun h => by simp [List.find?_cons, hp] at h, fun y hy => ?_⟩
        simp [List.find?_cons, hp] at hy
        subst hy
        refine ⟨σ', ?_, h2⟩
        simp only [iter, h0, Option.bind_some, h1]
  exact key els [] N σ rfl (by omega) h0
def vrR (m : Mc) (i : Ins) (n : ByteArray) (w : Int) : Bool :=
  bif decide (n = strK [112, 99]) then decide (w = m.address) else
  match i.operands.find? (fun o => decide (o.name = n)) with
  | some o => decide (w = (wideO m o).getD 0)
  | none => match m.regs.find? (fun r => decide (strK [114, 46] ++ r.name = n)) with
    | some r => decide (w = r.width)
    | none => false
def VarZ (m : Mc) (i : Ins) : Prop := m.regs.length ≤ 1000 ∧ i.operands.length ≤ 1000 ∧ (∀ r ∈ m.regs, r.name.size ≤ 1000) ∧ ∀ o ∈ i.operands, (wideO m o).isSome = true
def x_VarR8 (a : Mc × Ins × ByteArray × Int) : List D := match a with | (m, i, n, w) => [.agg m.d, .agg i.d, .v (.string n), .v (.int .i64 w)]
theorem i_VarR8 : ∀ a b, x_VarR8 a = x_VarR8 b → a = b := by
  rintro ⟨m, i, n, w⟩ ⟨m', i', n', w'⟩ h
  first | simpa [x_VarR8, INJ, and_assoc, Int.ofNat_inj] using h | (simp [x_VarR8, INJ, and_assoc, Int.ofNat_inj] at h; simp_all)
open Classical in
noncomputable def s_VarR8 : List D → Option D := sOf x_VarR8 fun a => match a with | (m, i, n, w) => if (VarZ m i) then some (.v (.bool (vrR m i n w))) else none
theorem e_VarR8 {m : Mc} {i : Ins} {n : ByteArray} {w : Int} (hc : (VarZ m i)) : s_VarR8 [.agg m.d, .agg i.d, .v (.string n), .v (.int .i64 w)] = some (.v (.bool (vrR m i n w))) := (sOf_eq i_VarR8 (m, i, n, w)).trans (if_pos hc)
theorem R_VarR8 {C : Ctx} {F : IFun} (hspec : ∀ N, maxLen + 10 < N → ∀ (m : Mc) (i : Ins) (n : ByteArray) (w : Int), lenOK.lenOKs [.agg m.d, .agg i.d, .v (.string n), .v (.int .i64 w)] → (VarZ m i) → runE C N F [.agg m.d, .agg i.d, .v (.string n), .v (.int .i64 w)] = some (.v (.bool (vrR m i n w)))) : Runs C F (s_VarR8) := runs_of i_VarR8 fun N hN a r hl hf => by
  obtain ⟨m, i, n, w⟩ := a
  simp only [Option.ite_none_right_eq_some, Option.some.injEq] at hf
  obtain ⟨hc, rfl⟩ := hf
  exact hspec N hN m i n w hl hc
theorem r_variable8 (C : Ctx) (hw : C.T 156 = some s_WideO) : Runs C ir175 s_VarR8 := R_VarR8 fun N hN m i n w hl hc => by
  have hml := maxLen_ge
  obtain ⟨z1, z2, z3, z4⟩ := hc
  cases c1 : decide (n = strK [112, 99])
  case true => simp -dsimp only [runE, run_eq, ir175, Mc.d, Ins.d, strK_d, c1, vrR, EVs, ↓EVd, ↓reduceIte, zA, zB, zC, zD, zE, zF, reduceBEq, reduceCtorEq, zG, zH, zI, zJ, zK, dcells, okc]
  simp -dsimp only [runE, run_eq, ir175, Mc.d, Ins.d, strK_d, c1, EVs, ↓EVd, ↓reduceIte, zA, zB, zC, zD, zE, zF, reduceBEq, reduceCtorEq, zG, zH, zI, zJ, zK, dcells, okc]
  generalize hI : iter _ _ _ _ = I
  have k1 := rfindJ (ret := 8) (e := 0) (d := fun o => .v (.bool (decide (w = (wideO m o).getD 0)))) hI i.operands (fun j => ⟨[(2, .v (.string n)), (3, .v (.int .i64 w)), (4, .ptr 0 0), (5, .ptr 1 0), (9, .v (.int .i64 j))], [(1, .box i.d), (0, .box m.d)], 2⟩) (fun o => decide (o.name = n))
    (σe := ⟨[(21, .v (.bool false)), (20, .v (.int .i64 i.operands.length)), (19, .lst false (i.operands.map Opn.d)), (18, .ptr 1 3), (17, .v (.int .i64 i.operands.length)), (2, .v (.string n)), (3, .v (.int .i64 w)), (4, .ptr 0 0), (5, .ptr 1 0), (9, .v (.int .i64 i.operands.length))], [(1, .box i.d), (0, .box m.d)], 2⟩) (by omega) hN (by simp -dsimp only [Mc.d, Ins.d, EVs, ↓EVd, ↓reduceIte, zA, zB, zC, zD, zE, zF, reduceBEq, reduceCtorEq, zG, zH, zI, zJ, zK, dcells, okc]) ?_ ?_ (by simp -dsimp only [lp175x0, Mc.d, Ins.d, EVs, ↓EVd, ↓reduceIte, zA, zB, zC, zD, zE, zF, reduceBEq, reduceCtorEq, zG, zH, zI, zJ, zK, dcells, okc])
  · cases f1 : i.operands.find? (fun o => decide (o.name = n)) with
    | some o =>
      obtain ⟨σ', rfl, h2⟩ := k1.2 o f1
      have e : vrR m i n w = decide (w = (wideO m o).getD 0) := by simp only [vrR, c1, cond_false, f1]
      rw [e]
      simp -dsimp only [EVq, h2, EVs, ↓EVd, ↓reduceIte, zA, zB, zC, zD, zE, zF, reduceBEq, reduceCtorEq, zG, zH, zI, zJ, zK, dcells, okc]
    | none =>
      obtain rfl := k1.1 f1
      simp -dsimp only [EVq, Mc.d, Ins.d, EVs, ↓EVd, ↓reduceIte, zA, zB, zC, zD, zE, zF, reduceBEq, reduceCtorEq, zG, zH, zI, zJ, zK, dcells, okc]
      generalize hJ : iter _ _ _ _ = J
      have k2 := rfindJ (ret := 8) (e := 2) (d := fun r : Rg => .v (.bool (decide (w = r.width)))) hJ m.regs (fun j => ⟨[(2, .v (.string n)), (3, .v (.int .i64 w)), (4, .ptr 0 0), (10, .v (.int .i64 j))], [(1, .box i.d), (0, .box m.d)], 2⟩) (fun r => decide (strK [114, 46] ++ r.name = n))
        (σe := ⟨[(45, .v (.bool false)), (44, .v (.int .i64 m.regs.length)), (43, .lst false (m.regs.map Rg.d)), (42, .ptr 0 3), (41, .v (.int .i64 m.regs.length)), (2, .v (.string n)), (3, .v (.int .i64 w)), (4, .ptr 0 0), (10, .v (.int .i64 m.regs.length))], [(1, .box i.d), (0, .box m.d)], 2⟩) (by omega) hN (by simp -dsimp only [Mc.d, Ins.d, EVs, ↓EVd, ↓reduceIte, zA, zB, zC, zD, zE, zF, reduceBEq, reduceCtorEq, zG, zH, zI, zJ, zK, dcells, okc]) ?_ ?_ (by simp -dsimp only [lp175x1, Mc.d, Ins.d, EVs, ↓EVd, ↓reduceIte, zA, zB, zC, zD, zE, zF, reduceBEq, reduceCtorEq, zG, zH, zI, zJ, zK, dcells, okc])
      · cases f2 : m.regs.find? (fun r => decide (strK [114, 46] ++ r.name = n)) with
        | some r =>
          obtain ⟨σ', rfl, h2⟩ := k2.2 r f2
          have e : vrR m i n w = decide (w = r.width) := by simp only [vrR, c1, cond_false, f1, f2]
          rw [e]
          simp -dsimp only [EVq, h2, EVs, ↓EVd, ↓reduceIte, zA, zB, zC, zD, zE, zF, reduceBEq, reduceCtorEq, zG, zH, zI, zJ, zK, dcells, okc]
        | none =>
          obtain rfl := k2.1 f2
          have e : vrR m i n w = false := by simp only [vrR, c1, cond_false, f1, f2]
          rw [e]
          simp -dsimp only [EVq, EVs, ↓EVd, ↓reduceIte, zA, zB, zC, zD, zE, zF, reduceBEq, reduceCtorEq, zG, zH, zI, zJ, zK, dcells, okc]
      · intro j r hj hjw hr hp
        have hsz : decide ((strK [114, 46]).size + r.name.size ≤ 9223372036854775807) = true := decide_eq_true (by
          have := z3 r (List.mem_of_getElem? hr)
          have : (strK [114, 46]).size = 2 := rfl
          omega)
        simp -dsimp only [lp175x1, Mc.d, Ins.d, Rg.d, strK_d, hsz, hj, hjw, hr, hp, EVs, ↓EVd, ↓reduceIte, zA, zB, zC, zD, zE, zF, reduceBEq, reduceCtorEq, zG, zH, zI, zJ, zK, dcells, okc]
      · intro j r hj hr hp
        have hsz : decide ((strK [114, 46]).size + r.name.size ≤ 9223372036854775807) = true := decide_eq_true (by
          have := z3 r (List.mem_of_getElem? hr)
          have : (strK [114, 46]).size = 2 := rfl
          omega)
        simp -dsimp only [EVq, lp175x1, Mc.d, Ins.d, Rg.d, strK_d, hsz, hj, hr, hp, EVs, ↓EVd, ↓reduceIte, zA, zB, zC, zD, zE, zF, reduceBEq, reduceCtorEq, zG, zH, zI, zJ, zK, dcells, okc]
  · intro j o hj hjw ho hp
    simp -dsimp only [lp175x0, Mc.d, Ins.d, Opn.d, hj, hjw, ho, hp, EVs, ↓EVd, ↓reduceIte, zA, zB, zC, zD, zE, zF, reduceBEq, reduceCtorEq, zG, zH, zI, zJ, zK, dcells, okc]
  · intro j o hj ho hp
    have e1 := @e_WideO m o (z4 o (List.mem_of_getElem? ho))
    simp only [Mc.d, Opn.d] at e1
    simp -dsimp only [EVq, lp175x0, Mc.d, Ins.d, Opn.d, hj, ho, hp, hw, e1, EVs, ↓EVd, ↓reduceIte, zA, zB, zC, zD, zE, zF, reduceBEq, reduceCtorEq, zG, zH, zI, zJ, zK, dcells, okc]
def leafR (m : Mc) (i : Ins) (u : T) : Bool := if u.kind = 2 then vrR m i u.name u.width else if u.kind = 24 then decide (subW u 0 = m.address) else true
def knownR (m : Mc) (i : Ins) (t : T) : Bool := t.pre.all (leafR m i)
theorem knownR_eq (m : Mc) (i : Ins) (t : T) : knownR m i t = (leafR m i t && t.sub.all (knownR m i)) := by
  unfold knownR
  rw [T.pre_eq, List.all_cons, pres_all]
def x_Known (a : Mc × Ins × T) : List D := match a with | (m, i, t) => [.agg m.d, .agg i.d, .agg t.d]
theorem i_Known : ∀ a b, x_Known a = x_Known b → a = b := by
  rintro ⟨m, i, t⟩ ⟨m', i', t'⟩ h
  first | simpa [x_Known, INJ, and_assoc, Int.ofNat_inj] using h | (simp [x_Known, INJ, and_assoc, Int.ofNat_inj] at h; simp_all)
open Classical in
noncomputable def s_Known (n : Nat) : List D → Option D := sOf x_Known fun a => match a with | (m, i, t) => if (t.depth ≤ n ∧ LdOK t ∧ VarZ m i) then some (.v (.bool (knownR m i t))) else none
theorem e_Known {n : Nat} {m : Mc} {i : Ins} {t : T} (hc : (t.depth ≤ n ∧ LdOK t ∧ VarZ m i)) : s_Known n [.agg m.d, .agg i.d, .agg t.d] = some (.v (.bool (knownR m i t))) := (sOf_eq i_Known (m, i, t)).trans (if_pos hc)
theorem R_Known {n : Nat} {C : Ctx} {F : IFun} (hspec : ∀ N, maxLen + 10 < N → ∀ (m : Mc) (i : Ins) (t : T), lenOK.lenOKs [.agg m.d, .agg i.d, .agg t.d] → (t.depth ≤ n ∧ LdOK t ∧ VarZ m i) → runE C N F [.agg m.d, .agg i.d, .agg t.d] = some (.v (.bool (knownR m i t)))) : Runs C F (s_Known n) := runs_of i_Known fun N hN a r hl hf => by
  obtain ⟨m, i, t⟩ := a
  simp only [Option.ite_none_right_eq_some, Option.some.injEq] at hf
  obtain ⟨hc, rfl⟩ := hf
  exact hspec N hN m i t hl hc
theorem r_known (C : Ctx) (n : Nat) (hV : C.T 175 = some s_VarR8) (hK : C.T 166 = some (s_Known n)) : Runs C ir166 (s_Known (n + 1)) := R_Known fun N hN m i t hl hc => by
  obtain ⟨hd, ht, hz⟩ := hc
  have hll : t.sub.length ≤ maxLen := by
    simp only [T.d_eq t, EVl, List.length_map] at hl
    exact hl.2.2.1.2.2.2.2.2.1.1
  have eV := @e_VarR8 m i t.name t.width hz
  simp only [Mc.d, Ins.d] at eV
  have main : ∀ (K : Option (Ex × St) → Option D) (σ : St), trim [3, 4, 5, 7] 3 σ = some ⟨[(3, .ptr 0 0), (4, .ptr 1 0), (5, .ptr 2 0), (7, .v (.int .i64 ((0 : Nat) : Int)))], [(2, .box t.d), (1, .box i.d), (0, .box m.d)], 3⟩ →
      (K (some (.ex 0, ⟨[(38, .v (.bool false)), (37, .v (.int .i64 t.sub.length)), (36, .lst false (t.sub.map T.d)), (35, .ptr 2 5), (34, .v (.int .i64 t.sub.length)), (3, .ptr 0 0), (4, .ptr 1 0), (5, .ptr 2 0), (7, .v (.int .i64 t.sub.length))], [(2, .box t.d), (1, .box i.d), (0, .box m.d)], 3⟩)) = some (.v (.bool true))) →
      (∀ σ', lkf σ'.fr 6 = .v (.bool false) → K (some (.rt, σ')) = some (.v (.bool false))) →
      ∀ I, iter (ev C N lp166x0) (trim [3, 4, 5, 7] 3) N σ = I → K I = some (.v (.bool (t.sub.all (knownR m i)))) := by
    intro K σ h0 hK1 hK2 I hI
    have key := rloopJ (d := .v (.bool false)) (ret := 6) (e := 0) hI t.sub (fun j => ⟨[(3, .ptr 0 0), (4, .ptr 1 0), (5, .ptr 2 0), (7, .v (.int .i64 j))], [(2, .box t.d), (1, .box i.d), (0, .box m.d)], 3⟩) (fun _ u => knownR m i u)
      (σe := ⟨[(38, .v (.bool false)), (37, .v (.int .i64 t.sub.length)), (36, .lst false (t.sub.map T.d)), (35, .ptr 2 5), (34, .v (.int .i64 t.sub.length)), (3, .ptr 0 0), (4, .ptr 1 0), (5, .ptr 2 0), (7, .v (.int .i64 t.sub.length))], [(2, .box t.d), (1, .box i.d), (0, .box m.d)], 3⟩) hll hN h0 ?_ ?_ (by simp -dsimp only [lp166x0, Mc.d, Ins.d, T.d_eq, EVs, ↓EVd, ↓reduceIte, zA, zB, zC, zD, zE, zF, reduceBEq, reduceCtorEq, zG, zH, zI, zJ, zK, dcells, okc])
    · rw [allI_all] at key
      cases ha : t.sub.all (knownR m i)
      · obtain ⟨σ', rfl, k2⟩ := key.2 ha
        exact hK2 σ' k2
      · obtain rfl := key.1 ha
        exact hK1
    · intro j u hj hjw hu hp
      have hm := List.mem_of_getElem? hu
      have e1 := @e_Known n m i u ⟨sub_depth hm hd, ht.sub hm, hz⟩
      simp only [Mc.d, Ins.d, T.d_eq u] at e1
      simp -dsimp only [lp166x0, Mc.d, Ins.d, T.d_eq, hj, hjw, hu, hK, e1, hp, EVs, ↓EVd, ↓reduceIte, zA, zB, zC, zD, zE, zF, reduceBEq, reduceCtorEq, zG, zH, zI, zJ, zK, dcells, okc]
    · intro j u hj hu hp
      have hm := List.mem_of_getElem? hu
      have e1 := @e_Known n m i u ⟨sub_depth hm hd, ht.sub hm, hz⟩
      simp only [Mc.d, Ins.d, T.d_eq u] at e1
      simp -dsimp only [EVq, lp166x0, Mc.d, Ins.d, T.d_eq, hj, hu, hK, e1, hp, EVs, ↓EVd, ↓reduceIte, zA, zB, zC, zD, zE, zF, reduceBEq, reduceCtorEq, zG, zH, zI, zJ, zK, dcells, okc]
  rw [knownR_eq]
  cases g1 : decide (t.kind = 2)
  · have g1' : ¬ t.kind = 2 := by simpa using g1
    cases g2 : decide (t.kind = 24)
    · have g2' : ¬ t.kind = 24 := by simpa using g2
      have hlf : leafR m i t = true := by unfold leafR; rw [if_neg g1', if_neg g2']
      rw [hlf, Bool.true_and]
      simp -dsimp only [runE, run_eq, ir166, Mc.d, Ins.d, T.d_eq, g1, g2, EVs, ↓EVd, ↓reduceIte, zA, zB, zC, zD, zE, zF, reduceBEq, reduceCtorEq, zG, zH, zI, zJ, zK, dcells, okc]
      generalize hI : iter _ _ _ _ = I
      revert I
      refine main _ _ ?_ ?_ ?_
      · simp -dsimp only [Mc.d, Ins.d, T.d_eq, EVs, ↓EVd, ↓reduceIte, zA, zB, zC, zD, zE, zF, reduceBEq, reduceCtorEq, zG, zH, zI, zJ, zK, dcells, okc]
      · simp -dsimp only [Mc.d, Ins.d, T.d_eq, EVs, ↓EVd, ↓reduceIte, zA, zB, zC, zD, zE, zF, reduceBEq, reduceCtorEq, zG, zH, zI, zJ, zK, dcells, okc]
      · intro σ' h; simp -dsimp only [h, EVs, ↓EVd, ↓reduceIte, zA, zB, zC, zD, zE, zF, reduceBEq, reduceCtorEq, zG, zH, zI, zJ, zK, dcells, okc]
    · have g2' : t.kind = 24 := by simpa using g2
      obtain ⟨s0, hs0⟩ := ht t (by rw [T.pre_eq]; exact List.mem_cons_self) g2'
      have hsw : subW t 0 = s0.width := by simp [subW, hs0]
      have hlf : leafR m i t = decide (s0.width = m.address) := by unfold leafR; rw [if_neg g1', if_pos g2', hsw]
      rw [hlf]
      cases g3 : decide (s0.width = m.address)
      · simp -dsimp only [runE, run_eq, ir166, Mc.d, Ins.d, T.d_eq, g1, g2, hs0, g3, EVs, ↓EVd, ↓reduceIte, zA, zB, zC, zD, zE, zF, reduceBEq, reduceCtorEq, zG, zH, zI, zJ, zK, dcells, okc]
      · rw [Bool.true_and]
        simp -dsimp only [runE, run_eq, ir166, Mc.d, Ins.d, T.d_eq, g1, g2, hs0, g3, EVs, ↓EVd, ↓reduceIte, zA, zB, zC, zD, zE, zF, reduceBEq, reduceCtorEq, zG, zH, zI, zJ, zK, dcells, okc]
        generalize hI : iter _ _ _ _ = I
        revert I
        refine main _ _ ?_ ?_ ?_
        · simp -dsimp only [Mc.d, Ins.d, T.d_eq, EVs, ↓EVd, ↓reduceIte, zA, zB, zC, zD, zE, zF, reduceBEq, reduceCtorEq, zG, zH, zI, zJ, zK, dcells, okc]
        · simp -dsimp only [Mc.d, Ins.d, T.d_eq, EVs, ↓EVd, ↓reduceIte, zA, zB, zC, zD, zE, zF, reduceBEq, reduceCtorEq, zG, zH, zI, zJ, zK, dcells, okc]
        · intro σ' h; simp -dsimp only [h, EVs, ↓EVd, ↓reduceIte, zA, zB, zC, zD, zE, zF, reduceBEq, reduceCtorEq, zG, zH, zI, zJ, zK, dcells, okc]
  · have g1' : t.kind = 2 := by simpa using g1
    have g2 : decide (t.kind = 24) = false := decide_eq_false (by omega)
    have hlf : leafR m i t = vrR m i t.name t.width := by unfold leafR; rw [if_pos g1']
    rw [hlf]
    cases g3 : vrR m i t.name t.width
    · simp -dsimp only [runE, run_eq, ir166, Mc.d, Ins.d, T.d_eq, g1, hV, eV, g3, EVs, ↓EVd, ↓reduceIte, zA, zB, zC, zD, zE, zF, reduceBEq, reduceCtorEq, zG, zH, zI, zJ, zK, dcells, okc]
    · rw [Bool.true_and]
      simp -dsimp only [runE, run_eq, ir166, Mc.d, Ins.d, T.d_eq, g1, g2, hV, eV, g3, EVs, ↓EVd, ↓reduceIte, zA, zB, zC, zD, zE, zF, reduceBEq, reduceCtorEq, zG, zH, zI, zJ, zK, dcells, okc]
      generalize hI : iter _ _ _ _ = I
      revert I
      refine main _ _ ?_ ?_ ?_
      · simp -dsimp only [Mc.d, Ins.d, T.d_eq, EVs, ↓EVd, ↓reduceIte, zA, zB, zC, zD, zE, zF, reduceBEq, reduceCtorEq, zG, zH, zI, zJ, zK, dcells, okc]
      · simp -dsimp only [Mc.d, Ins.d, T.d_eq, EVs, ↓EVd, ↓reduceIte, zA, zB, zC, zD, zE, zF, reduceBEq, reduceCtorEq, zG, zH, zI, zJ, zK, dcells, okc]
      · intro σ' h; simp -dsimp only [h, EVs, ↓EVd, ↓reduceIte, zA, zB, zC, zD, zE, zF, reduceBEq, reduceCtorEq, zG, zH, zI, zJ, zK, dcells, okc]
end Go.Proofs.Dv
set_option linter.unusedVariables false
set_option linter.unusedSimpArgs false
set_option maxRecDepth 100000
namespace Go.Proofs.Dv
open Go.RowKit
open Nat renaming reduceEqDiff → zA, reduceAdd → zB, reduceSub → zC, reduceLeDiff → zD, reduceLT → zE, reduceMul → zF
open Int renaming reduceToNat → zG, reduceLE → zH, reduceLT → zI
open List renaming set_cons_zero → zJ, set_cons_succ → zK
theorem all_congr' {α : Type} {p q : α → Bool} : ∀ {l : List α}, (∀ x ∈ l, p x = q x) → l.all p = l.all q
  | [], _ => rfl
  | x :: l, h => by rw [List.all_cons, List.all_cons, h x List.mem_cons_self, all_congr' fun y hy => h y (List.mem_cons_of_mem _ hy)]
theorem formed_pre : ∀ t : T, t.formed = t.pre.all formedN := by
  intro t
  induction t using T.ind with
  | h t ih =>
    rw [T.formed_eq, T.pre_eq, List.all_cons, pres_all, Bool.and_comm, all_congr' ih]
theorem formed_ld {t : T} (h : t.formed = true) : LdOK t := by
  intro u hu hk
  rw [formed_pre] at h
  have := List.all_eq_true.1 h u hu
  have hl : (u.sub.length : Int) = 1 := by
    simp only [formedN, hk] at this
    revert this
    cases inB u.width 1 64 <;> simp
    intros
    omega
  exact ⟨u.sub[0]'(by omega), List.getElem?_eq_getElem (by omega)⟩
theorem chk02_ld {t : T} (h : chk02 t = 0) : LdOK t ∧ t.depth ≤ 60 := by
  unfold chk02 at h
  cases h1 : decide (400 < (t.size : Int)) || decide (60 < (t.depth : Int)) with
  | true => rw [h1] at h; simp at h
  | false =>
    cases h2 : t.formed with
    | false => rw [h1, h2] at h; simp at h
    | true =>
      simp only [Bool.or_eq_false_iff, decide_eq_false_iff_not] at h1
      exact ⟨formed_ld h2, by omega⟩
def fitR (m : Mc) (i : Ins) (t : T) : Bool := decide (chk02 t = 0) && knownR m i t
def x_FitR (a : Mc × Ins × T) : List D := match a with | (m, i, t) => [.agg m.d, .agg i.d, .agg t.d]
theorem i_FitR : ∀ a b, x_FitR a = x_FitR b → a = b := by
  rintro ⟨m, i, t⟩ ⟨m', i', t'⟩ h
  first | simpa [x_FitR, INJ, and_assoc, Int.ofNat_inj] using h | (simp [x_FitR, INJ, and_assoc, Int.ofNat_inj] at h; simp_all)
open Classical in
noncomputable def s_FitR : List D → Option D := sOf x_FitR fun a => match a with | (m, i, t) => if (t.depth ≤ 1000 ∧ t.size ≤ 1000000 ∧ t.wf ∧ VarZ m i) then some (.v (.bool (fitR m i t))) else none
theorem e_FitR {m : Mc} {i : Ins} {t : T} (hc : (t.depth ≤ 1000 ∧ t.size ≤ 1000000 ∧ t.wf ∧ VarZ m i)) : s_FitR [.agg m.d, .agg i.d, .agg t.d] = some (.v (.bool (fitR m i t))) := (sOf_eq i_FitR (m, i, t)).trans (if_pos hc)
theorem R_FitR {C : Ctx} {F : IFun} (hspec : ∀ N, maxLen + 10 < N → ∀ (m : Mc) (i : Ins) (t : T), lenOK.lenOKs [.agg m.d, .agg i.d, .agg t.d] → (t.depth ≤ 1000 ∧ t.size ≤ 1000000 ∧ t.wf ∧ VarZ m i) → runE C N F [.agg m.d, .agg i.d, .agg t.d] = some (.v (.bool (fitR m i t)))) : Runs C F (s_FitR) := runs_of i_FitR fun N hN a r hl hf => by
  obtain ⟨m, i, t⟩ := a
  simp only [Option.ite_none_right_eq_some, Option.some.injEq] at hf
  obtain ⟨hc, rfl⟩ := hf
  exact hspec N hN m i t hl hc
theorem r_Fits (C : Ctx) (hC : C.T 165 = some (s_Chk02 1000)) (hK : C.T 166 = some (s_Known 60)) : Runs C ir155 s_FitR := R_FitR fun N hN m i t hl hc => by
  have e1 := @e_Chk02 1000 t ⟨hc.1, by omega, hc.2.1, hc.2.2.1⟩
  cases g : decide (chk02 t = 0)
  · simp only [T.d_eq] at e1
    simp -dsimp only [runE, run_eq, ir155, Mc.d, Ins.d, T.d_eq, hC, e1, g, fitR, EVs, ↓EVd, ↓reduceIte, zA, zB, zC, zD, zE, zF, reduceBEq, reduceCtorEq, zG, zH, zI, zJ, zK, dcells, okc]
  · have h0 : chk02 t = 0 := by simpa using g
    have e2 := @e_Known 60 m i t ⟨(chk02_ld h0).2, (chk02_ld h0).1, hc.2.2.2⟩
    simp only [Mc.d, Ins.d, T.d_eq] at e1 e2
    simp -dsimp only [runE, run_eq, ir155, Mc.d, Ins.d, T.d_eq, hC, e1, g, hK, e2, fitR, EVs, ↓EVd, ↓reduceIte, zA, zB, zC, zD, zE, zF, reduceBEq, reduceCtorEq, zG, zH, zI, zJ, zK, dcells, okc]
end Go.Proofs.Dv
set_option linter.unusedVariables false
set_option linter.unusedSimpArgs false
set_option maxRecDepth 100000
namespace Go.Proofs.Dv
open Go.RowKit
open Nat renaming reduceEqDiff → zA, reduceAdd → zB, reduceSub → zC, reduceLeDiff → zD, reduceLT → zE, reduceMul → zF
open Int renaming reduceToNat → zG, reduceLE → zH, reduceLT → zI
open List renaming set_cons_zero → zJ, set_cons_succ → zK
def opKind (m : Mc) (i : Ins) (k : Nat) (o : Opn) : Bool :=
  let f := fieldOf o.pieces
  if o.kind = 1 then
    (inB o.bank 0 (IntKind.i64.wrap ((m.banks.length : Int) - 1)) && decide (o.scale = 0)) &&
    (if o.tied = -1 then decide (0 < f) && (decide (6 < f) || match m.banks[o.bank.toNat]? with | some b => decide ((b.regs.length : Int) ≤ p2 f.toNat) | none => false) else
     (inB o.tied 0 (IntKind.i64.wrap ((k : Int) - 1)) && !decide (0 < (o.pieces.length : Int))) && (match i.operands[o.tied.toNat]? with | some q => (decide (q.kind = 1) && decide (q.bank = o.bank)) && decide (q.tied = -1) | none => false))
  else if o.kind = 2 ∨ o.kind = 3 ∨ o.kind = 4 then (((decide (o.bank = 0) && decide (o.tied = -1)) && inB o.scale 0 3) && decide (0 < f)) && decide (IntKind.i64.wrap (f + o.scale) ≤ m.address)
  else false
def opHead (m : Mc) (o : Opn) : Bool := (nameOK o.name && !decide (o.name = strK [112, 99])) && o.pieces.all (pcR m.word)
def opR (m : Mc) (i : Ins) (k : Nat) (o : Opn) : Bool := opHead m o && ((i.operands.take k).all (fun q => !decide (q.name = o.name)) && opKind m i k o)
def opRk (m : Mc) (i : Ins) (k : Nat) : Bool := match i.operands[k]? with | some o => opR m i k o | none => false
def x_OpR (a : Mc × Ins × Nat) : List D := match a with | (m, i, k) => [.agg m.d, .agg i.d, .v (.int .i64 (k : Int))]
theorem i_OpR : ∀ a b, x_OpR a = x_OpR b → a = b := by
  rintro ⟨m, i, k⟩ ⟨m', i', k'⟩ h
  first | simpa [x_OpR, INJ, and_assoc, Int.ofNat_inj] using h | (simp [x_OpR, INJ, and_assoc, Int.ofNat_inj] at h; simp_all)
open Classical in
noncomputable def s_OpR : List D → Option D := sOf x_OpR fun a => match a with | (m, i, k) => if (k < i.operands.length ∧ i.operands.length ≤ 1000 ∧ m.banks.length ≤ 1000) then some (.v (.bool (opRk m i k))) else none
theorem e_OpR {m : Mc} {i : Ins} {k : Nat} (hc : (k < i.operands.length ∧ i.operands.length ≤ 1000 ∧ m.banks.length ≤ 1000)) : s_OpR [.agg m.d, .agg i.d, .v (.int .i64 (k : Int))] = some (.v (.bool (opRk m i k))) := (sOf_eq i_OpR (m, i, k)).trans (if_pos hc)
theorem R_OpR {C : Ctx} {F : IFun} (hspec : ∀ N, maxLen + 10 < N → ∀ (m : Mc) (i : Ins) (k : Nat), lenOK.lenOKs [.agg m.d, .agg i.d, .v (.int .i64 (k : Int))] → (k < i.operands.length ∧ i.operands.length ≤ 1000 ∧ m.banks.length ≤ 1000) → runE C N F [.agg m.d, .agg i.d, .v (.int .i64 (k : Int))] = some (.v (.bool (opRk m i k)))) : Runs C F (s_OpR) := runs_of i_OpR fun N hN a r hl hf => by
  obtain ⟨m, i, k⟩ := a
  simp only [Option.ite_none_right_eq_some, Option.some.injEq] at hf
  obtain ⟨hc, rfl⟩ := hf
  exact hspec N hN m i k hl hc
set_option maxHeartbeats 2000000 in
theorem r_okOperand (C : Ctx) (hNm : C.T 65 = some s_Name) (hP : C.T 151 = some s_PcsR) (hW : C.T 66 = some s_in) (hF : C.T 152 = some s_Fld) (hPw : C.T 153 = some s_Pow08) : Runs C ir110 s_OpR := R_OpR fun N hN m i k hl hc => by
  obtain ⟨hk, ho1, hb1⟩ := hc
  have hml := maxLen_ge
  have ho : i.operands[k]? = some (i.operands[k]) := List.getElem?_eq_getElem hk
  generalize i.operands[k] = o at ho
  have er : opRk m i k = opR m i k o := by simp only [opRk, ho]
  rw [er]
  have hkk : decide (0 ≤ (k : Int)) = true := decide_eq_true (by omega)
  have e1 := @e_Name o.name
  have e2 := @e_PcsR o m.word
  have e3 := @e_in o.bank 0 (IntKind.i64.wrap ((m.banks.length : Int) - 1))
  have e4 := @e_in o.tied 0 (IntKind.i64.wrap ((k : Int) - 1))
  have e5 := @e_in o.scale 0 3
  have e6 := @e_Fld o
  simp only [Opn.d] at e2 e6
  cases c1 : nameOK o.name
  · simp -dsimp only [runE, run_eq, ir110, Mc.d, Ins.d, Opn.d, ho, hkk, hNm, e1, c1, opR, opHead, EVs, ↓EVd, ↓reduceIte, zA, zB, zC, zD, zE, zF, reduceBEq, reduceCtorEq, zG, zH, zI, zJ, zK, dcells, okc]
  cases c2 : decide (o.name = strK [112, 99])
  case true => simp -dsimp only [runE, run_eq, ir110, Mc.d, Ins.d, Opn.d, ho, hkk, hNm, e1, c1, strK_d, c2, opR, opHead, EVs, ↓EVd, ↓reduceIte, zA, zB, zC, zD, zE, zF, reduceBEq, reduceCtorEq, zG, zH, zI, zJ, zK, dcells, okc]
  cases c3 : o.pieces.all (pcR m.word)
  · simp -dsimp only [runE, run_eq, ir110, Mc.d, Ins.d, Opn.d, ho, hkk, hNm, e1, c1, strK_d, c2, hP, e2, c3, opR, opHead, EVs, ↓EVd, ↓reduceIte, zA, zB, zC, zD, zE, zF, reduceBEq, reduceCtorEq, zG, zH, zI, zJ, zK, dcells, okc]
  have hhd : opHead m o = true := by simp [opHead, c1, c2, c3]
  rw [opR, hhd, Bool.true_and]
  simp -dsimp only [runE, run_eq, ir110, Mc.d, Ins.d, Opn.d, ho, hkk, hNm, e1, c1, strK_d, c2, hP, e2, c3, EVs, ↓EVd, ↓reduceIte, zA, zB, zC, zD, zE, zF, reduceBEq, reduceCtorEq, zG, zH, zI, zJ, zK, dcells, okc]
  generalize hI : iter _ _ _ _ = I
  have htl : (i.operands.take k).length = k := by rw [List.length_take]; omega
  have key := rloopJ (d := .v (.bool false)) (ret := 6) (e := 0) hI (i.operands.take k) (fun j => ⟨[(2, .v (.int .i64 k)), (3, .ptr 0 0), (4, .ptr 1 0), (7, .ptr 2 0), (8, .v (.int .i64 j))], [(2, .box o.d), (1, .box i.d), (0, .box m.d)], 3⟩) (fun _ q => !decide (q.name = o.name))
    (σe := ⟨[(34, .v (.bool false)), (33, .v (.int .i64 k)), (32, .v (.int .i64 k)), (2, .v (.int .i64 k)), (3, .ptr 0 0), (4, .ptr 1 0), (7, .ptr 2 0), (8, .v (.int .i64 k))], [(2, .box o.d), (1, .box i.d), (0, .box m.d)], 3⟩) (by omega) hN (by simp -dsimp only [Mc.d, Ins.d, Opn.d, EVs, ↓EVd, ↓reduceIte, zA, zB, zC, zD, zE, zF, reduceBEq, reduceCtorEq, zG, zH, zI, zJ, zK, dcells, okc]) ?_ ?_ (by simp -dsimp only [lp110x0, htl, Mc.d, Ins.d, Opn.d, EVs, ↓EVd, ↓reduceIte, zA, zB, zC, zD, zE, zF, reduceBEq, reduceCtorEq, zG, zH, zI, zJ, zK, dcells, okc])
  · rw [allI_all] at key
    cases c4 : (i.operands.take k).all (fun q => !decide (q.name = o.name))
    · obtain ⟨σ', rfl, k2⟩ := key.2 c4
      simp -dsimp only [k2, EVs, ↓EVd, ↓reduceIte, zA, zB, zC, zD, zE, zF, reduceBEq, reduceCtorEq, zG, zH, zI, zJ, zK, dcells, okc]
    obtain rfl := key.1 c4
    rw [Bool.true_and]
    unfold opKind
    cases g1 : decide (o.kind = 1)
    · have g1' : ¬ o.kind = 1 := by simpa using g1
      rw [if_neg g1']
      cases g2 : decide (o.kind = 2)
      case true =>
        rw [if_pos (.inl (by simpa using g2))]
        cases d1 : decide (o.bank = 0)
        case false => simp -dsimp only [Mc.d, Ins.d, Opn.d, hF, e6, hW, e3, e4, e5, g1, g2, d1, EVs, ↓EVd, ↓reduceIte, zA, zB, zC, zD, zE, zF, reduceBEq, reduceCtorEq, zG, zH, zI, zJ, zK, dcells, okc]
        cases d2 : decide (o.tied = -1)
        case false => simp -dsimp only [Mc.d, Ins.d, Opn.d, hF, e6, hW, e3, e4, e5, g1, g2, d1, d2, EVs, ↓EVd, ↓reduceIte, zA, zB, zC, zD, zE, zF, reduceBEq, reduceCtorEq, zG, zH, zI, zJ, zK, dcells, okc]
        cases d3 : inB o.scale 0 3
        case false => simp -dsimp only [Mc.d, Ins.d, Opn.d, hF, e6, hW, e3, e4, e5, g1, g2, d1, d2, d3, EVs, ↓EVd, ↓reduceIte, zA, zB, zC, zD, zE, zF, reduceBEq, reduceCtorEq, zG, zH, zI, zJ, zK, dcells, okc]
        cases d4 : decide (0 < fieldOf o.pieces)
        case false => simp -dsimp only [Mc.d, Ins.d, Opn.d, hF, e6, hW, e3, e4, e5, g1, g2, d1, d2, d3, d4, EVs, ↓EVd, ↓reduceIte, zA, zB, zC, zD, zE, zF, reduceBEq, reduceCtorEq, zG, zH, zI, zJ, zK, dcells, okc]
        simp -dsimp only [Mc.d, Ins.d, Opn.d, hF, e6, hW, e3, e4, e5, g1, g2, d1, d2, d3, d4, EVs, ↓EVd, ↓reduceIte, zA, zB, zC, zD, zE, zF, reduceBEq, reduceCtorEq, zG, zH, zI, zJ, zK, dcells, okc]
      cases g3 : decide (o.kind = 3)
      case true =>
        rw [if_pos (.inr (.inl (by simpa using g3)))]
        cases d1 : decide (o.bank = 0)
        case false => simp -dsimp only [Mc.d, Ins.d, Opn.d, hF, e6, hW, e3, e4, e5, g1, g2, g3, d1, EVs, ↓EVd, ↓reduceIte, zA, zB, zC, zD, zE, zF, reduceBEq, reduceCtorEq, zG, zH, zI, zJ, zK, dcells, okc]
        cases d2 : decide (o.tied = -1)
        case false => simp -dsimp only [Mc.d, Ins.d, Opn.d, hF, e6, hW, e3, e4, e5, g1, g2, g3, d1, d2, EVs, ↓EVd, ↓reduceIte, zA, zB, zC, zD, zE, zF, reduceBEq, reduceCtorEq, zG, zH, zI, zJ, zK, dcells, okc]
        cases d3 : inB o.scale 0 3
        case false => simp -dsimp only [Mc.d, Ins.d, Opn.d, hF, e6, hW, e3, e4, e5, g1, g2, g3, d1, d2, d3, EVs, ↓EVd, ↓reduceIte, zA, zB, zC, zD, zE, zF, reduceBEq, reduceCtorEq, zG, zH, zI, zJ, zK, dcells, okc]
        cases d4 : decide (0 < fieldOf o.pieces)
        case false => simp -dsimp only [Mc.d, Ins.d, Opn.d, hF, e6, hW, e3, e4, e5, g1, g2, g3, d1, d2, d3, d4, EVs, ↓EVd, ↓reduceIte, zA, zB, zC, zD, zE, zF, reduceBEq, reduceCtorEq, zG, zH, zI, zJ, zK, dcells, okc]
        simp -dsimp only [Mc.d, Ins.d, Opn.d, hF, e6, hW, e3, e4, e5, g1, g2, g3, d1, d2, d3, d4, EVs, ↓EVd, ↓reduceIte, zA, zB, zC, zD, zE, zF, reduceBEq, reduceCtorEq, zG, zH, zI, zJ, zK, dcells, okc]
      cases g4 : decide (o.kind = 4)
      case true =>
        rw [if_pos (.inr (.inr (by simpa using g4)))]
        cases d1 : decide (o.bank = 0)
        case false => simp -dsimp only [Mc.d, Ins.d, Opn.d, hF, e6, hW, e3, e4, e5, g1, g2, g3, g4, d1, EVs, ↓EVd, ↓reduceIte, zA, zB, zC, zD, zE, zF, reduceBEq, reduceCtorEq, zG, zH, zI, zJ, zK, dcells, okc]
        cases d2 : decide (o.tied = -1)
        case false => simp -dsimp only [Mc.d, Ins.d, Opn.d, hF, e6, hW, e3, e4, e5, g1, g2, g3, g4, d1, d2, EVs, ↓EVd, ↓reduceIte, zA, zB, zC, zD, zE, zF, reduceBEq, reduceCtorEq, zG, zH, zI, zJ, zK, dcells, okc]
        cases d3 : inB o.scale 0 3
        case false => simp -dsimp only [Mc.d, Ins.d, Opn.d, hF, e6, hW, e3, e4, e5, g1, g2, g3, g4, d1, d2, d3, EVs, ↓EVd, ↓reduceIte, zA, zB, zC, zD, zE, zF, reduceBEq, reduceCtorEq, zG, zH, zI, zJ, zK, dcells, okc]
        cases d4 : decide (0 < fieldOf o.pieces)
        case false => simp -dsimp only [Mc.d, Ins.d, Opn.d, hF, e6, hW, e3, e4, e5, g1, g2, g3, g4, d1, d2, d3, d4, EVs, ↓EVd, ↓reduceIte, zA, zB, zC, zD, zE, zF, reduceBEq, reduceCtorEq, zG, zH, zI, zJ, zK, dcells, okc]
        simp -dsimp only [Mc.d, Ins.d, Opn.d, hF, e6, hW, e3, e4, e5, g1, g2, g3, g4, d1, d2, d3, d4, EVs, ↓EVd, ↓reduceIte, zA, zB, zC, zD, zE, zF, reduceBEq, reduceCtorEq, zG, zH, zI, zJ, zK, dcells, okc]
      rw [if_neg (by simp at g2 g3 g4; simp [g2, g3, g4])]
      simp -dsimp only [Mc.d, Ins.d, Opn.d, hF, e6, hW, e3, e4, e5, g1, g2, g3, g4, EVs, ↓EVd, ↓reduceIte, zA, zB, zC, zD, zE, zF, reduceBEq, reduceCtorEq, zG, zH, zI, zJ, zK, dcells, okc]
    · have g1' : o.kind = 1 := by simpa using g1
      rw [if_pos g1']
      cases q1 : inB o.bank 0 (IntKind.i64.wrap ((m.banks.length : Int) - 1))
      · simp -dsimp only [Mc.d, Ins.d, Opn.d, hF, e6, hW, e3, e4, e5, g1, q1, EVs, ↓EVd, ↓reduceIte, zA, zB, zC, zD, zE, zF, reduceBEq, reduceCtorEq, zG, zH, zI, zJ, zK, dcells, okc]
      cases q2 : decide (o.scale = 0)
      · simp -dsimp only [Mc.d, Ins.d, Opn.d, hF, e6, hW, e3, e4, e5, g1, q1, q2, EVs, ↓EVd, ↓reduceIte, zA, zB, zC, zD, zE, zF, reduceBEq, reduceCtorEq, zG, zH, zI, zJ, zK, dcells, okc]
      obtain ⟨r1, b, r2⟩ := inB_get (l := m.banks) (by omega) q1
      cases g5 : decide (o.tied = -1)
      · have g5' : ¬ o.tied = -1 := by simpa using g5
        rw [if_neg g5']
        cases q3 : inB o.tied 0 (IntKind.i64.wrap ((k : Int) - 1))
        · simp -dsimp only [Mc.d, Ins.d, Opn.d, hF, e6, hW, e3, e4, e5, g1, q1, q2, g5, q3, EVs, ↓EVd, ↓reduceIte, zA, zB, zC, zD, zE, zF, reduceBEq, reduceCtorEq, zG, zH, zI, zJ, zK, dcells, okc]
        cases q4 : decide (0 < (o.pieces.length : Int))
        case true => simp -dsimp only [Mc.d, Ins.d, Opn.d, hF, e6, hW, e3, e4, e5, g1, q1, q2, g5, q3, q4, EVs, ↓EVd, ↓reduceIte, zA, zB, zC, zD, zE, zF, reduceBEq, reduceCtorEq, zG, zH, zI, zJ, zK, dcells, okc]
        have hq := q3
        simp only [inB, Bool.and_eq_true, decide_eq_true_eq] at hq
        rw [wr _ (by omega) (by omega)] at hq
        have q5 : decide (0 ≤ o.tied) = true := decide_eq_true hq.1
        have q6 : i.operands[o.tied.toNat]? = some (i.operands[o.tied.toNat]'(by omega)) := List.getElem?_eq_getElem (by omega)
        generalize i.operands[o.tied.toNat]'(by omega) = q at q6
        rw [q6]
        cases w1 : decide (q.kind = 1)
        · simp -dsimp only [Mc.d, Ins.d, Opn.d, hF, e6, hW, e3, e4, e5, g1, q1, q2, g5, q3, q4, q5, q6, w1, EVs, ↓EVd, ↓reduceIte, zA, zB, zC, zD, zE, zF, reduceBEq, reduceCtorEq, zG, zH, zI, zJ, zK, dcells, okc]
        cases w2 : decide (q.bank = o.bank)
        · simp -dsimp only [Mc.d, Ins.d, Opn.d, hF, e6, hW, e3, e4, e5, g1, q1, q2, g5, q3, q4, q5, q6, w1, w2, EVs, ↓EVd, ↓reduceIte, zA, zB, zC, zD, zE, zF, reduceBEq, reduceCtorEq, zG, zH, zI, zJ, zK, dcells, okc]
        simp -dsimp only [Mc.d, Ins.d, Opn.d, hF, e6, hW, e3, e4, e5, g1, q1, q2, g5, q3, q4, q5, q6, w1, w2, EVs, ↓EVd, ↓reduceIte, zA, zB, zC, zD, zE, zF, reduceBEq, reduceCtorEq, zG, zH, zI, zJ, zK, dcells, okc]
      · have g5' : o.tied = -1 := by simpa using g5
        rw [if_pos g5', r2]
        cases w1 : decide (0 < fieldOf o.pieces)
        · simp -dsimp only [Mc.d, Ins.d, Opn.d, hF, e6, hW, e3, e4, e5, g1, q1, q2, g5, w1, EVs, ↓EVd, ↓reduceIte, zA, zB, zC, zD, zE, zF, reduceBEq, reduceCtorEq, zG, zH, zI, zJ, zK, dcells, okc]
        cases w2 : decide (6 < fieldOf o.pieces)
        case true => simp -dsimp only [Mc.d, Ins.d, Opn.d, hF, e6, hW, e3, e4, e5, g1, q1, q2, g5, w1, w2, EVs, ↓EVd, ↓reduceIte, zA, zB, zC, zD, zE, zF, reduceBEq, reduceCtorEq, zG, zH, zI, zJ, zK, dcells, okc]
        have e7 := @e_Pow08 (fieldOf o.pieces) (by simp at w1 w2; omega)
        simp -dsimp only [Mc.d, Ins.d, Opn.d, hF, e6, hW, e3, e4, e5, Bk.d, g1, q1, q2, g5, w1, w2, hPw, e7, r1, r2, EVs, ↓EVd, ↓reduceIte, zA, zB, zC, zD, zE, zF, reduceBEq, reduceCtorEq, zG, zH, zI, zJ, zK, dcells, okc]
  · intro j q hj hjw hq hp
    have hq' := take_get hq
    rw [htl] at hj
    have hp' : decide (q.name = o.name) = false := by simpa using hp
    simp -dsimp only [lp110x0, hj, hjw, hq', hp', Mc.d, Ins.d, Opn.d, EVs, ↓EVd, ↓reduceIte, zA, zB, zC, zD, zE, zF, reduceBEq, reduceCtorEq, zG, zH, zI, zJ, zK, dcells, okc]
  · intro j q hj hq hp
    have hq' := take_get hq
    rw [htl] at hj
    have hp' : decide (q.name = o.name) = true := by simpa using hp
    simp -dsimp only [EVq, lp110x0, hj, hq', hp', Mc.d, Ins.d, Opn.d, EVs, ↓EVd, ↓reduceIte, zA, zB, zC, zD, zE, zF, reduceBEq, reduceCtorEq, zG, zH, zI, zJ, zK, dcells, okc]
end Go.Proofs.Dv
set_option linter.unusedVariables false
set_option linter.unusedSimpArgs false
set_option maxRecDepth 100000
namespace Go.Proofs.Dv
open Go.RowKit
open Nat renaming reduceEqDiff → zA, reduceAdd → zB, reduceSub → zC, reduceLeDiff → zD, reduceLT → zE, reduceMul → zF
open Int renaming reduceToNat → zG, reduceLE → zH, reduceLT → zI
open List renaming set_cons_zero → zJ, set_cons_succ → zK
def TZ (t : T) : Prop := t.depth ≤ 1000 ∧ t.size ≤ 1000000 ∧ t.wf
def effR1 (m : Mc) (i : Ins) (e : Ef) : Bool := (zeroT e.addr && (zeroT e.cond && fitR m i e.value)) &&
  (if e.operand = -1 then inB e.reg 0 (IntKind.i64.wrap ((m.regs.length : Int) - 1)) && decide (e.value.width = regW m e.reg) else
   decide (e.reg = 0) && (inB e.operand 0 (IntKind.i64.wrap ((i.operands.length : Int) - 1)) && (match i.operands[e.operand.toNat]? with | some o => decide (o.kind = 1) && decide (e.value.width = (wideO m o).getD 0) | none => false)))
def effR2 (m : Mc) (i : Ins) (e : Ef) : Bool := decide (e.operand = 0) && (decide (e.reg = 0) && (zeroT e.cond && (fitR m i e.addr && (decide (e.addr.width = m.address) && (fitR m i e.value && (decide (e.value.width = 8) || (decide (e.value.width = 16) || (decide (e.value.width = 32) || decide (e.value.width = 64)))))))))
def effR3 (m : Mc) (i : Ins) (e : Ef) : Bool := decide (e.operand = 0) && (decide (e.reg = 0) && (zeroT e.addr && (fitR m i e.value && (decide (e.value.width = m.address) && (zeroT e.cond || (fitR m i e.cond && decide (e.cond.width = 1)))))))
def effR4 (m : Mc) (i : Ins) (e : Ef) : Bool := decide (e.operand = 0) && (decide (e.reg = 0) && (zeroT e.addr && (zeroT e.cond && fitR m i e.value)))
def effR (m : Mc) (i : Ins) (e : Ef) : Bool := if e.kind = 1 then effR1 m i e else if e.kind = 2 then effR2 m i e else if e.kind = 3 then effR3 m i e else if e.kind = 4 then effR4 m i e else false
def x_EffR (a : Mc × Ins × Ef) : List D := match a with | (m, i, e) => [.agg m.d, .agg i.d, .agg e.d]
theorem i_EffR : ∀ a b, x_EffR a = x_EffR b → a = b := by
  rintro ⟨m, i, e⟩ ⟨m', i', e'⟩ h
  first | simpa [x_EffR, INJ, and_assoc, Int.ofNat_inj] using h | (simp [x_EffR, INJ, and_assoc, Int.ofNat_inj] at h; simp_all)
open Classical in
noncomputable def s_EffR : List D → Option D := sOf x_EffR fun a => match a with | (m, i, e) => if (VarZ m i ∧ TZ e.addr ∧ TZ e.value ∧ TZ e.cond) then some (.v (.bool (effR m i e))) else none
theorem e_EffR {m : Mc} {i : Ins} {e : Ef} (hc : (VarZ m i ∧ TZ e.addr ∧ TZ e.value ∧ TZ e.cond)) : s_EffR [.agg m.d, .agg i.d, .agg e.d] = some (.v (.bool (effR m i e))) := (sOf_eq i_EffR (m, i, e)).trans (if_pos hc)
theorem R_EffR {C : Ctx} {F : IFun} (hspec : ∀ N, maxLen + 10 < N → ∀ (m : Mc) (i : Ins) (e : Ef), lenOK.lenOKs [.agg m.d, .agg i.d, .agg e.d] → (VarZ m i ∧ TZ e.addr ∧ TZ e.value ∧ TZ e.cond) → runE C N F [.agg m.d, .agg i.d, .agg e.d] = some (.v (.bool (effR m i e)))) : Runs C F (s_EffR) := runs_of i_EffR fun N hN a r hl hf => by
  obtain ⟨m, i, e⟩ := a
  simp only [Option.ite_none_right_eq_some, Option.some.injEq] at hf
  obtain ⟨hc, rfl⟩ := hf
  exact hspec N hN m i e hl hc
set_option maxHeartbeats 4000000 in
theorem r_okEffect (C : Ctx) (hZ : C.T 154 = some s_ZeroT) (hFt : C.T 155 = some s_FitR) (hW : C.T 66 = some s_in) (hwd : C.T 156 = some s_WideO) : Runs C ir112 s_EffR := R_EffR fun N hN m i e hl hc => by
  obtain ⟨hv, t1, t2, t3⟩ := hc
  have hv' := hv
  obtain ⟨z1, z2, z3, z4⟩ := hv'
  have f1 := @e_FitR m i e.addr ⟨t1.1, t1.2.1, t1.2.2, hv⟩
  have f2 := @e_FitR m i e.value ⟨t2.1, t2.2.1, t2.2.2, hv⟩
  have f3 := @e_FitR m i e.cond ⟨t3.1, t3.2.1, t3.2.2, hv⟩
  have n1 := @e_ZeroT e.addr
  have n2 := @e_ZeroT e.cond
  have e3 := @e_in e.reg 0 (IntKind.i64.wrap ((m.regs.length : Int) - 1))
  have e4 := @e_in e.operand 0 (IntKind.i64.wrap ((i.operands.length : Int) - 1))
  simp only [Mc.d, Ins.d, T.d_eq] at f1 f2 f3 n1 n2
  unfold effR
  cases k1 : decide (e.kind = 1)
  · have k1' : ¬ e.kind = 1 := by simpa using k1
    rw [if_neg k1']
    cases k2 : decide (e.kind = 2)
    case true =>
      have k2' : e.kind = 2 := by simpa using k2
      rw [if_pos k2', effR2]
      cases a1 : decide (e.operand = 0)
      case false => simp -dsimp only [runE, run_eq, ir112, Mc.d, Ins.d, Ef.d, T.d_eq, hZ, n1, n2, hFt, f1, f2, f3, hW, e3, e4, k1, k2, a1, EVs, ↓EVd, ↓reduceIte, zA, zB, zC, zD, zE, zF, reduceBEq, reduceCtorEq, zG, zH, zI, zJ, zK, dcells, okc]
      cases a2 : decide (e.reg = 0)
      case false => simp -dsimp only [runE, run_eq, ir112, Mc.d, Ins.d, Ef.d, T.d_eq, hZ, n1, n2, hFt, f1, f2, f3, hW, e3, e4, k1, k2, a1, a2, EVs, ↓EVd, ↓reduceIte, zA, zB, zC, zD, zE, zF, reduceBEq, reduceCtorEq, zG, zH, zI, zJ, zK, dcells, okc]
      cases a3 : zeroT e.cond
      case false => simp -dsimp only [runE, run_eq, ir112, Mc.d, Ins.d, Ef.d, T.d_eq, hZ, n1, n2, hFt, f1, f2, f3, hW, e3, e4, k1, k2, a1, a2, a3, EVs, ↓EVd, ↓reduceIte, zA, zB, zC, zD, zE, zF, reduceBEq, reduceCtorEq, zG, zH, zI, zJ, zK, dcells, okc]
      cases a4 : fitR m i e.addr
      case false => simp -dsimp only [runE, run_eq, ir112, Mc.d, Ins.d, Ef.d, T.d_eq, hZ, n1, n2, hFt, f1, f2, f3, hW, e3, e4, k1, k2, a1, a2, a3, a4, EVs, ↓EVd, ↓reduceIte, zA, zB, zC, zD, zE, zF, reduceBEq, reduceCtorEq, zG, zH, zI, zJ, zK, dcells, okc]
      cases a5 : decide (e.addr.width = m.address)
      case false => simp -dsimp only [runE, run_eq, ir112, Mc.d, Ins.d, Ef.d, T.d_eq, hZ, n1, n2, hFt, f1, f2, f3, hW, e3, e4, k1, k2, a1, a2, a3, a4, a5, EVs, ↓EVd, ↓reduceIte, zA, zB, zC, zD, zE, zF, reduceBEq, reduceCtorEq, zG, zH, zI, zJ, zK, dcells, okc]
      cases a6 : fitR m i e.value
      case false => simp -dsimp only [runE, run_eq, ir112, Mc.d, Ins.d, Ef.d, T.d_eq, hZ, n1, n2, hFt, f1, f2, f3, hW, e3, e4, k1, k2, a1, a2, a3, a4, a5, a6, EVs, ↓EVd, ↓reduceIte, zA, zB, zC, zD, zE, zF, reduceBEq, reduceCtorEq, zG, zH, zI, zJ, zK, dcells, okc]
      cases b0 : decide (e.value.width = 8)
      case true => simp -dsimp only [runE, run_eq, ir112, Mc.d, Ins.d, Ef.d, T.d_eq, hZ, n1, n2, hFt, f1, f2, f3, hW, e3, e4, k1, k2, a1, a2, a3, a4, a5, a6, b0, EVs, ↓EVd, ↓reduceIte, zA, zB, zC, zD, zE, zF, reduceBEq, reduceCtorEq, zG, zH, zI, zJ, zK, dcells, okc]
      cases b1 : decide (e.value.width = 16)
      case true => simp -dsimp only [runE, run_eq, ir112, Mc.d, Ins.d, Ef.d, T.d_eq, hZ, n1, n2, hFt, f1, f2, f3, hW, e3, e4, k1, k2, a1, a2, a3, a4, a5, a6, b0, b1, EVs, ↓EVd, ↓reduceIte, zA, zB, zC, zD, zE, zF, reduceBEq, reduceCtorEq, zG, zH, zI, zJ, zK, dcells, okc]
      cases b2 : decide (e.value.width = 32)
      case true => simp -dsimp only [runE, run_eq, ir112, Mc.d, Ins.d, Ef.d, T.d_eq, hZ, n1, n2, hFt, f1, f2, f3, hW, e3, e4, k1, k2, a1, a2, a3, a4, a5, a6, b0, b1, b2, EVs, ↓EVd, ↓reduceIte, zA, zB, zC, zD, zE, zF, reduceBEq, reduceCtorEq, zG, zH, zI, zJ, zK, dcells, okc]
      simp -dsimp only [runE, run_eq, ir112, Mc.d, Ins.d, Ef.d, T.d_eq, hZ, n1, n2, hFt, f1, f2, f3, hW, e3, e4, k1, k2, a1, a2, a3, a4, a5, a6, b0, b1, b2, EVs, ↓EVd, ↓reduceIte, zA, zB, zC, zD, zE, zF, reduceBEq, reduceCtorEq, zG, zH, zI, zJ, zK, dcells, okc]
    have k2' : ¬ e.kind = 2 := by simpa using k2
    rw [if_neg k2']
    cases k3 : decide (e.kind = 3)
    case true =>
      have k3' : e.kind = 3 := by simpa using k3
      rw [if_pos k3', effR3]
      cases a1 : decide (e.operand = 0)
      case false => simp -dsimp only [runE, run_eq, ir112, Mc.d, Ins.d, Ef.d, T.d_eq, hZ, n1, n2, hFt, f1, f2, f3, hW, e3, e4, k1, k2, k3, a1, EVs, ↓EVd, ↓reduceIte, zA, zB, zC, zD, zE, zF, reduceBEq, reduceCtorEq, zG, zH, zI, zJ, zK, dcells, okc]
      cases a2 : decide (e.reg = 0)
      case false => simp -dsimp only [runE, run_eq, ir112, Mc.d, Ins.d, Ef.d, T.d_eq, hZ, n1, n2, hFt, f1, f2, f3, hW, e3, e4, k1, k2, k3, a1, a2, EVs, ↓EVd, ↓reduceIte, zA, zB, zC, zD, zE, zF, reduceBEq, reduceCtorEq, zG, zH, zI, zJ, zK, dcells, okc]
      cases a3 : zeroT e.addr
      case false => simp -dsimp only [runE, run_eq, ir112, Mc.d, Ins.d, Ef.d, T.d_eq, hZ, n1, n2, hFt, f1, f2, f3, hW, e3, e4, k1, k2, k3, a1, a2, a3, EVs, ↓EVd, ↓reduceIte, zA, zB, zC, zD, zE, zF, reduceBEq, reduceCtorEq, zG, zH, zI, zJ, zK, dcells, okc]
      cases a4 : fitR m i e.value
      case false => simp -dsimp only [runE, run_eq, ir112, Mc.d, Ins.d, Ef.d, T.d_eq, hZ, n1, n2, hFt, f1, f2, f3, hW, e3, e4, k1, k2, k3, a1, a2, a3, a4, EVs, ↓EVd, ↓reduceIte, zA, zB, zC, zD, zE, zF, reduceBEq, reduceCtorEq, zG, zH, zI, zJ, zK, dcells, okc]
      cases a5 : decide (e.value.width = m.address)
      case false => simp -dsimp only [runE, run_eq, ir112, Mc.d, Ins.d, Ef.d, T.d_eq, hZ, n1, n2, hFt, f1, f2, f3, hW, e3, e4, k1, k2, k3, a1, a2, a3, a4, a5, EVs, ↓EVd, ↓reduceIte, zA, zB, zC, zD, zE, zF, reduceBEq, reduceCtorEq, zG, zH, zI, zJ, zK, dcells, okc]
      cases b0 : zeroT e.cond
      case true => simp -dsimp only [runE, run_eq, ir112, Mc.d, Ins.d, Ef.d, T.d_eq, hZ, n1, n2, hFt, f1, f2, f3, hW, e3, e4, k1, k2, k3, a1, a2, a3, a4, a5, b0, EVs, ↓EVd, ↓reduceIte, zA, zB, zC, zD, zE, zF, reduceBEq, reduceCtorEq, zG, zH, zI, zJ, zK, dcells, okc]
      cases b1 : fitR m i e.cond
      case false => simp -dsimp only [runE, run_eq, ir112, Mc.d, Ins.d, Ef.d, T.d_eq, hZ, n1, n2, hFt, f1, f2, f3, hW, e3, e4, k1, k2, k3, a1, a2, a3, a4, a5, b0, b1, EVs, ↓EVd, ↓reduceIte, zA, zB, zC, zD, zE, zF, reduceBEq, reduceCtorEq, zG, zH, zI, zJ, zK, dcells, okc]
      simp -dsimp only [runE, run_eq, ir112, Mc.d, Ins.d, Ef.d, T.d_eq, hZ, n1, n2, hFt, f1, f2, f3, hW, e3, e4, k1, k2, k3, a1, a2, a3, a4, a5, b0, b1, EVs, ↓EVd, ↓reduceIte, zA, zB, zC, zD, zE, zF, reduceBEq, reduceCtorEq, zG, zH, zI, zJ, zK, dcells, okc]
    have k3' : ¬ e.kind = 3 := by simpa using k3
    rw [if_neg k3']
    cases k4 : decide (e.kind = 4)
    case true =>
      have k4' : e.kind = 4 := by simpa using k4
      rw [if_pos k4', effR4]
      cases a1 : decide (e.operand = 0)
      case false => simp -dsimp only [runE, run_eq, ir112, Mc.d, Ins.d, Ef.d, T.d_eq, hZ, n1, n2, hFt, f1, f2, f3, hW, e3, e4, k1, k2, k3, k4, a1, EVs, ↓EVd, ↓reduceIte, zA, zB, zC, zD, zE, zF, reduceBEq, reduceCtorEq, zG, zH, zI, zJ, zK, dcells, okc]
      cases a2 : decide (e.reg = 0)
      case false => simp -dsimp only [runE, run_eq, ir112, Mc.d, Ins.d, Ef.d, T.d_eq, hZ, n1, n2, hFt, f1, f2, f3, hW, e3, e4, k1, k2, k3, k4, a1, a2, EVs, ↓EVd, ↓reduceIte, zA, zB, zC, zD, zE, zF, reduceBEq, reduceCtorEq, zG, zH, zI, zJ, zK, dcells, okc]
      cases a3 : zeroT e.addr
      case false => simp -dsimp only [runE, run_eq, ir112, Mc.d, Ins.d, Ef.d, T.d_eq, hZ, n1, n2, hFt, f1, f2, f3, hW, e3, e4, k1, k2, k3, k4, a1, a2, a3, EVs, ↓EVd, ↓reduceIte, zA, zB, zC, zD, zE, zF, reduceBEq, reduceCtorEq, zG, zH, zI, zJ, zK, dcells, okc]
      cases a4 : zeroT e.cond
      case false => simp -dsimp only [runE, run_eq, ir112, Mc.d, Ins.d, Ef.d, T.d_eq, hZ, n1, n2, hFt, f1, f2, f3, hW, e3, e4, k1, k2, k3, k4, a1, a2, a3, a4, EVs, ↓EVd, ↓reduceIte, zA, zB, zC, zD, zE, zF, reduceBEq, reduceCtorEq, zG, zH, zI, zJ, zK, dcells, okc]
      simp -dsimp only [runE, run_eq, ir112, Mc.d, Ins.d, Ef.d, T.d_eq, hZ, n1, n2, hFt, f1, f2, f3, hW, e3, e4, k1, k2, k3, k4, a1, a2, a3, a4, EVs, ↓EVd, ↓reduceIte, zA, zB, zC, zD, zE, zF, reduceBEq, reduceCtorEq, zG, zH, zI, zJ, zK, dcells, okc]
    have k4' : ¬ e.kind = 4 := by simpa using k4
    rw [if_neg k4']
    simp -dsimp only [runE, run_eq, ir112, Mc.d, Ins.d, Ef.d, T.d_eq, hZ, n1, n2, hFt, f1, f2, f3, hW, e3, e4, k1, k2, k3, k4, EVs, ↓EVd, ↓reduceIte, zA, zB, zC, zD, zE, zF, reduceBEq, reduceCtorEq, zG, zH, zI, zJ, zK, dcells, okc]
  · have k1' : e.kind = 1 := by simpa using k1
    rw [if_pos k1', effR1]
    cases a1 : zeroT e.addr
    case false => simp -dsimp only [runE, run_eq, ir112, Mc.d, Ins.d, Ef.d, T.d_eq, hZ, n1, n2, hFt, f1, f2, f3, hW, e3, e4, k1, a1, EVs, ↓EVd, ↓reduceIte, zA, zB, zC, zD, zE, zF, reduceBEq, reduceCtorEq, zG, zH, zI, zJ, zK, dcells, okc]
    cases a2 : zeroT e.cond
    case false => simp -dsimp only [runE, run_eq, ir112, Mc.d, Ins.d, Ef.d, T.d_eq, hZ, n1, n2, hFt, f1, f2, f3, hW, e3, e4, k1, a1, a2, EVs, ↓EVd, ↓reduceIte, zA, zB, zC, zD, zE, zF, reduceBEq, reduceCtorEq, zG, zH, zI, zJ, zK, dcells, okc]
    cases a3 : fitR m i e.value
    case false => simp -dsimp only [runE, run_eq, ir112, Mc.d, Ins.d, Ef.d, T.d_eq, hZ, n1, n2, hFt, f1, f2, f3, hW, e3, e4, k1, a1, a2, a3, EVs, ↓EVd, ↓reduceIte, zA, zB, zC, zD, zE, zF, reduceBEq, reduceCtorEq, zG, zH, zI, zJ, zK, dcells, okc]
    cases c1 : decide (e.operand = -1)
    case true =>
      have c1' : e.operand = -1 := by simpa using c1
      rw [if_pos c1']
      cases c2 : inB e.reg 0 (IntKind.i64.wrap ((m.regs.length : Int) - 1))
      case false => simp -dsimp only [runE, run_eq, ir112, Mc.d, Ins.d, Ef.d, T.d_eq, hZ, n1, n2, hFt, f1, f2, f3, hW, e3, e4, k1, a1, a2, a3, c1, c2, EVs, ↓EVd, ↓reduceIte, zA, zB, zC, zD, zE, zF, reduceBEq, reduceCtorEq, zG, zH, zI, zJ, zK, dcells, okc]
      obtain ⟨r1, p, r2⟩ := inB_get (l := m.regs) (by omega) c2
      have w1 : regW m e.reg = p.width := by simp [regW, r2]
      rw [w1]
      simp -dsimp only [runE, run_eq, ir112, Mc.d, Ins.d, Ef.d, T.d_eq, hZ, n1, n2, hFt, f1, f2, f3, hW, e3, e4, k1, a1, a2, a3, c1, c2, r1, r2, Rg.d, EVs, ↓EVd, ↓reduceIte, zA, zB, zC, zD, zE, zF, reduceBEq, reduceCtorEq, zG, zH, zI, zJ, zK, dcells, okc]
    have c1' : ¬ e.operand = -1 := by simpa using c1
    rw [if_neg c1']
    cases c3 : decide (e.reg = 0)
    case false => simp -dsimp only [runE, run_eq, ir112, Mc.d, Ins.d, Ef.d, T.d_eq, hZ, n1, n2, hFt, f1, f2, f3, hW, e3, e4, k1, a1, a2, a3, c1, c3, EVs, ↓EVd, ↓reduceIte, zA, zB, zC, zD, zE, zF, reduceBEq, reduceCtorEq, zG, zH, zI, zJ, zK, dcells, okc]
    cases c4 : inB e.operand 0 (IntKind.i64.wrap ((i.operands.length : Int) - 1))
    case false => simp -dsimp only [runE, run_eq, ir112, Mc.d, Ins.d, Ef.d, T.d_eq, hZ, n1, n2, hFt, f1, f2, f3, hW, e3, e4, k1, a1, a2, a3, c1, c3, c4, EVs, ↓EVd, ↓reduceIte, zA, zB, zC, zD, zE, zF, reduceBEq, reduceCtorEq, zG, zH, zI, zJ, zK, dcells, okc]
    obtain ⟨r1, o, r2⟩ := inB_get (l := i.operands) (by omega) c4
    rw [r2]
    have e5 := @e_WideO m o (z4 o (List.mem_of_getElem? r2))
    simp only [Mc.d, Opn.d] at e5
    cases c5 : decide (o.kind = 1)
    case false => simp -dsimp only [runE, run_eq, ir112, Mc.d, Ins.d, Ef.d, T.d_eq, hZ, n1, n2, hFt, f1, f2, f3, hW, e3, e4, k1, a1, a2, a3, c1, c3, c4, r1, r2, Opn.d, c5, EVs, ↓EVd, ↓reduceIte, zA, zB, zC, zD, zE, zF, reduceBEq, reduceCtorEq, zG, zH, zI, zJ, zK, dcells, okc]
    simp -dsimp only [runE, run_eq, ir112, Mc.d, Ins.d, Ef.d, T.d_eq, hZ, n1, n2, hFt, f1, f2, f3, hW, e3, e4, k1, a1, a2, a3, c1, c3, c4, r1, r2, Opn.d, c5, hwd, e5, EVs, ↓EVd, ↓reduceIte, zA, zB, zC, zD, zE, zF, reduceBEq, reduceCtorEq, zG, zH, zI, zJ, zK, dcells, okc]
end Go.Proofs.Dv
set_option linter.unusedVariables false
set_option linter.unusedSimpArgs false
set_option maxRecDepth 100000
namespace Go.Proofs.Dv
open Go.RowKit
open Nat renaming reduceEqDiff → zA, reduceAdd → zB, reduceSub → zC, reduceLeDiff → zD, reduceLT → zE, reduceMul → zF
open Int renaming reduceToNat → zG, reduceLE → zH, reduceLT → zI
open List renaming set_cons_zero → zJ, set_cons_succ → zK
theorem few_gt {lim : Int} {n : Nat} : decide (lim < (n : Int)) = !fewB lim n ∨ lim < 0 := by
  by_cases h : lim < 0
  · exact .inr h
  · left
    unfold fewB
    by_cases h2 : lim < (n : Int)
    · rw [decide_eq_true h2, decide_eq_false (by omega)]; rfl
    · rw [decide_eq_false h2, decide_eq_true (by omega)]; rfl
theorem r_within8 (C : Ctx) : Runs C ir64 s_SmallM := R_SmallM fun N hN m hl => by
  have g : ∀ n : Nat, decide ((64 : Int) < (n : Int)) = !fewB 64 n := fun n => few_gt.resolve_right (by omega)
  have g16 : ∀ n : Nat, decide ((16 : Int) < (n : Int)) = !fewB 16 n := fun n => few_gt.resolve_right (by omega)
  have g8 : ∀ n : Nat, decide ((8 : Int) < (n : Int)) = !fewB 8 n := fun n => few_gt.resolve_right (by omega)
  have g4 : ∀ n : Nat, decide ((4 : Int) < (n : Int)) = !fewB 4 n := fun n => few_gt.resolve_right (by omega)
  have hlb : m.banks.length ≤ maxLen ∧ m.instrs.length ≤ maxLen := by
    simp only [Mc.d, EVl, List.length_map] at hl
    exact ⟨hl.1.2.2.2.2.1.1, hl.1.2.2.2.2.2.2.1.1⟩
  have hio : ∀ s ∈ m.instrs, s.operands.length ≤ maxLen := by
    intro s hs
    simp only [Mc.d, EVl, List.length_map] at hl
    have := (lenOKss_iff.1 hl.1.2.2.2.2.2.2.1.2) _ (List.mem_map_of_mem hs)
    simp only [Ins.d, EVl, List.length_map] at this
    exact this.2.2.2.1.1
  cases q0 : fewB 64 m.regs.length
  case false => simp -dsimp only [runE, run_eq, ir64, Mc.d, g, g16, g8, g4, q0, smallOK, EVs, ↓EVd, ↓reduceIte, zA, zB, zC, zD, zE, zF, reduceBEq, reduceCtorEq, zG, zH, zI, zJ, zK, dcells, okc]
  cases q1 : fewB 16 m.banks.length
  case false => simp -dsimp only [runE, run_eq, ir64, Mc.d, g, g16, g8, g4, q0, q1, smallOK, EVs, ↓EVd, ↓reduceIte, zA, zB, zC, zD, zE, zF, reduceBEq, reduceCtorEq, zG, zH, zI, zJ, zK, dcells, okc]
  cases q2 : fewB 8 m.units.length
  case false => simp -dsimp only [runE, run_eq, ir64, Mc.d, g, g16, g8, g4, q0, q1, q2, smallOK, EVs, ↓EVd, ↓reduceIte, zA, zB, zC, zD, zE, zF, reduceBEq, reduceCtorEq, zG, zH, zI, zJ, zK, dcells, okc]
  cases q3 : fewB 64 m.instrs.length
  case false => simp -dsimp only [runE, run_eq, ir64, Mc.d, g, g16, g8, g4, q0, q1, q2, q3, smallOK, EVs, ↓EVd, ↓reduceIte, zA, zB, zC, zD, zE, zF, reduceBEq, reduceCtorEq, zG, zH, zI, zJ, zK, dcells, okc]
  have er : smallOK m = ((m.banks.all fun b => fewB 64 b.regs.length) && m.instrs.all smI) := by simp only [smallOK, q0, q1, q2, q3, Bool.true_and, Bool.and_self]
  rw [er]
  simp -dsimp only [runE, run_eq, ir64, Mc.d, g, g16, g8, g4, q0, q1, q2, q3, EVs, ↓EVd, ↓reduceIte, zA, zB, zC, zD, zE, zF, reduceBEq, reduceCtorEq, zG, zH, zI, zJ, zK, dcells, okc]
  generalize hI : iter _ _ _ _ = I
  have k1 := rloopJ (d := .v (.bool false)) (ret := 2) (e := 0) hI m.banks (fun j => ⟨[(1, .ptr 0 0), (3, .v (.int .i64 j))], [(0, .box m.d)], 1⟩) (fun _ b => fewB 64 b.regs.length)
    (σe := ⟨[(32, .v (.bool false)), (31, .v (.int .i64 m.banks.length)), (30, .lst false (m.banks.map Bk.d)), (29, .ptr 0 4), (28, .v (.int .i64 m.banks.length)), (1, .ptr 0 0), (3, .v (.int .i64 m.banks.length))], [(0, .box m.d)], 1⟩) hlb.1 hN (by simp -dsimp only [Mc.d, EVs, ↓EVd, ↓reduceIte, zA, zB, zC, zD, zE, zF, reduceBEq, reduceCtorEq, zG, zH, zI, zJ, zK, dcells, okc]) ?_ ?_ (by simp -dsimp only [lp64x0, Mc.d, EVs, ↓EVd, ↓reduceIte, zA, zB, zC, zD, zE, zF, reduceBEq, reduceCtorEq, zG, zH, zI, zJ, zK, dcells, okc])
  · rw [allI_all] at k1
    cases ha : m.banks.all fun b => fewB 64 b.regs.length
    · obtain ⟨σ', rfl, h2⟩ := k1.2 ha
      simp -dsimp only [h2, EVs, ↓EVd, ↓reduceIte, zA, zB, zC, zD, zE, zF, reduceBEq, reduceCtorEq, zG, zH, zI, zJ, zK, dcells, okc]
    obtain rfl := k1.1 ha
    rw [Bool.true_and]
    simp -dsimp only [Mc.d, EVs, ↓EVd, ↓reduceIte, zA, zB, zC, zD, zE, zF, reduceBEq, reduceCtorEq, zG, zH, zI, zJ, zK, dcells, okc]
    generalize hJ : iter _ _ _ _ = J
    have inner : ∀ (i : Nat) (s : Ins), m.instrs[i]? = some s → ∀ {σ : St} {J : Option (Ex × St)}, iter (ev C N lp64x1) (trim [1, 4, 5] 1) N σ = J → trim [1, 4, 5] 1 σ = some ⟨[(1, .ptr 0 0), (4, .v (.int .i64 i)), (5, .v (.int .i64 ((0 : Nat) : Int)))], [(0, .box m.d)], 1⟩ →
        ((s.operands.all fun o => fewB 4 o.pieces.length) = true → J = some (.ex 4, ⟨[(76, .v (.bool false)), (75, .v (.int .i64 s.operands.length)), (74, .lst false (s.operands.map Opn.d)), (73, .rp (s.d.drop 3)), (72, .rp s.d), (71, .v (.int .i64 i)), (70, .lst false (m.instrs.map Ins.d)), (69, .ptr 0 6), (68, .v (.int .i64 s.operands.length)), (1, .ptr 0 0), (4, .v (.int .i64 i)), (5, .v (.int .i64 s.operands.length))], [(0, .box m.d)], 1⟩)) ∧
        ((s.operands.all fun o => fewB 4 o.pieces.length) = false → ∃ σ', J = some (.rt, σ') ∧ lkf σ'.fr 2 = .v (.bool false)) := by
      intro i s hs σ J hJ h0
      have := rloopJ (e := 4) (ret := 2) (d := .v (.bool false)) (σe := ⟨[(76, .v (.bool false)), (75, .v (.int .i64 s.operands.length)), (74, .lst false (s.operands.map Opn.d)), (73, .rp (s.d.drop 3)), (72, .rp s.d), (71, .v (.int .i64 i)), (70, .lst false (m.instrs.map Ins.d)), (69, .ptr 0 6), (68, .v (.int .i64 s.operands.length)), (1, .ptr 0 0), (4, .v (.int .i64 i)), (5, .v (.int .i64 s.operands.length))], [(0, .box m.d)], 1⟩) hJ s.operands (fun j => ⟨[(1, .ptr 0 0), (4, .v (.int .i64 i)), (5, .v (.int .i64 j))], [(0, .box m.d)], 1⟩) (fun _ o => fewB 4 o.pieces.length) (hio s (List.mem_of_getElem? hs)) hN h0 ?_ ?_ ?_
      · rw [allI_all] at this
        exact this
      · intro j o hj hjw ho hp
        simp -dsimp only [lp64x1, Mc.d, Ins.d, Opn.d, hs, hj, hjw, ho, g4, hp, EVs, ↓EVd, ↓reduceIte, zA, zB, zC, zD, zE, zF, reduceBEq, reduceCtorEq, zG, zH, zI, zJ, zK, dcells, okc]
      · intro j o hj ho hp
        simp -dsimp only [EVq, lp64x1, Mc.d, Ins.d, Opn.d, hs, hj, ho, g4, hp, EVs, ↓EVd, ↓reduceIte, zA, zB, zC, zD, zE, zF, reduceBEq, reduceCtorEq, zG, zH, zI, zJ, zK, dcells, okc]
      · simp -dsimp only [lp64x1, Mc.d, Ins.d, hs, EVs, ↓EVd, ↓reduceIte, zA, zB, zC, zD, zE, zF, reduceBEq, reduceCtorEq, zG, zH, zI, zJ, zK, dcells, okc]
    have body : ∀ (i : Nat) (s : Ins), decide ((i : Int) < (m.instrs.length : Int)) = true → IntKind.i64.wrap ((i : Int) + 1) = ((i + 1 : Nat) : Int) → m.instrs[i]? = some s →
        (smI s = true → stepE (trim [1, 4] 1) (ev C N lp64x2 ⟨[(1, .ptr 0 0), (4, .v (.int .i64 i))], [(0, .box m.d)], 1⟩) = some ⟨[(1, .ptr 0 0), (4, .v (.int .i64 ((i + 1 : Nat) : Int)))], [(0, .box m.d)], 1⟩) ∧
        (smI s = false → rtV 2 (ev C N lp64x2 ⟨[(1, .ptr 0 0), (4, .v (.int .i64 i))], [(0, .box m.d)], 1⟩) = some (.v (.bool false))) := by
      intro i s hi hw hs
      cases p1 : fewB 4 s.operands.length
      · refine ⟨fun h => by simp [smI, p1] at h, fun _ => ?_⟩
        simp -dsimp only [EVq, lp64x2, Mc.d, Ins.d, hi, hs, g4, p1, EVs, ↓EVd, ↓reduceIte, zA, zB, zC, zD, zE, zF, reduceBEq, reduceCtorEq, zG, zH, zI, zJ, zK, dcells, okc]
      cases p2 : fewB 4 s.effects.length
      · refine ⟨fun h => by simp [smI, p2] at h, fun _ => ?_⟩
        simp -dsimp only [EVq, lp64x2, Mc.d, Ins.d, hi, hs, g4, p1, p2, EVs, ↓EVd, ↓reduceIte, zA, zB, zC, zD, zE, zF, reduceBEq, reduceCtorEq, zG, zH, zI, zJ, zK, dcells, okc]
      cases p3 : s.operands.all fun o => fewB 4 o.pieces.length
      · refine ⟨fun h => by simp [smI, p3] at h, fun _ => ?_⟩
        simp -dsimp only [EVq, lp64x2, Mc.d, Ins.d, hi, hs, g4, p1, p2, EVs, ↓EVd, ↓reduceIte, zA, zB, zC, zD, zE, zF, reduceBEq, reduceCtorEq, zG, zH, zI, zJ, zK, dcells, okc]
        generalize hL : iter _ _ _ _ = L
        obtain ⟨σ', rfl, h2⟩ := (inner i s hs hL (by simp -dsimp only [Mc.d, EVs, ↓EVd, ↓reduceIte, zA, zB, zC, zD, zE, zF, reduceBEq, reduceCtorEq, zG, zH, zI, zJ, zK, dcells, okc])).2 p3
        simp -dsimp only [EVq, h2, EVs, ↓EVd, ↓reduceIte, zA, zB, zC, zD, zE, zF, reduceBEq, reduceCtorEq, zG, zH, zI, zJ, zK, dcells, okc]
      · refine ⟨fun _ => ?_, fun h => by simp [smI, p1, p2, p3] at h⟩
        simp -dsimp only [EVq, lp64x2, Mc.d, Ins.d, hi, hs, g4, p1, p2, EVs, ↓EVd, ↓reduceIte, zA, zB, zC, zD, zE, zF, reduceBEq, reduceCtorEq, zG, zH, zI, zJ, zK, dcells, okc]
        generalize hL : iter _ _ _ _ = L
        obtain rfl := (inner i s hs hL (by simp -dsimp only [Mc.d, EVs, ↓EVd, ↓reduceIte, zA, zB, zC, zD, zE, zF, reduceBEq, reduceCtorEq, zG, zH, zI, zJ, zK, dcells, okc])).1 p3
        simp -dsimp only [EVq, Mc.d, hw, EVs, ↓EVd, ↓reduceIte, zA, zB, zC, zD, zE, zF, reduceBEq, reduceCtorEq, zG, zH, zI, zJ, zK, dcells, okc]
    have k2 := rloopJ (d := .v (.bool false)) (ret := 2) (e := 2) hJ m.instrs (fun j => ⟨[(1, .ptr 0 0), (4, .v (.int .i64 j))], [(0, .box m.d)], 1⟩) (fun _ s => smI s)
      (σe := ⟨[(47, .v (.bool false)), (46, .v (.int .i64 m.instrs.length)), (45, .lst false (m.instrs.map Ins.d)), (44, .ptr 0 6), (43, .v (.int .i64 m.instrs.length)), (1, .ptr 0 0), (4, .v (.int .i64 m.instrs.length))], [(0, .box m.d)], 1⟩) hlb.2 hN (by simp -dsimp only [Mc.d, EVs, ↓EVd, ↓reduceIte, zA, zB, zC, zD, zE, zF, reduceBEq, reduceCtorEq, zG, zH, zI, zJ, zK, dcells, okc]) (fun i s hi hw hs hp => (body i s hi hw hs).1 hp) (fun i s hi hs hp => (body i s hi (wrap_succ (List.getElem?_eq_some_iff.1 hs).1 hlb.2) hs).2 hp) (by simp -dsimp only [lp64x2, Mc.d, EVs, ↓EVd, ↓reduceIte, zA, zB, zC, zD, zE, zF, reduceBEq, reduceCtorEq, zG, zH, zI, zJ, zK, dcells, okc])
    rw [allI_all] at k2
    cases hb : m.instrs.all smI
    · obtain ⟨σ', rfl, h2⟩ := k2.2 hb
      simp -dsimp only [h2, EVs, ↓EVd, ↓reduceIte, zA, zB, zC, zD, zE, zF, reduceBEq, reduceCtorEq, zG, zH, zI, zJ, zK, dcells, okc]
    · obtain rfl := k2.1 hb
      simp -dsimp only [Mc.d, EVs, ↓EVd, ↓reduceIte, zA, zB, zC, zD, zE, zF, reduceBEq, reduceCtorEq, zG, zH, zI, zJ, zK, dcells, okc]
  · intro j b hj hjw hb hp
    simp -dsimp only [lp64x0, Mc.d, Bk.d, hj, hjw, hb, g, hp, EVs, ↓EVd, ↓reduceIte, zA, zB, zC, zD, zE, zF, reduceBEq, reduceCtorEq, zG, zH, zI, zJ, zK, dcells, okc]
  · intro j b hj hb hp
    simp -dsimp only [EVq, lp64x0, Mc.d, Bk.d, hj, hb, g, hp, EVs, ↓EVd, ↓reduceIte, zA, zB, zC, zD, zE, zF, reduceBEq, reduceCtorEq, zG, zH, zI, zJ, zK, dcells, okc]
end Go.Proofs.Dv
set_option linter.unusedVariables false
set_option linter.unusedSimpArgs false
set_option maxRecDepth 100000
namespace Go.Proofs.Dv
open Go.RowKit
open Nat renaming reduceEqDiff → zA, reduceAdd → zB, reduceSub → zC, reduceLeDiff → zD, reduceLT → zE, reduceMul → zF
open Int renaming reduceToNat → zG, reduceLE → zH, reduceLT → zI
open List renaming set_cons_zero → zJ, set_cons_succ → zK
theorem rloopI {X : Type} {f : St → Option (Ex × St)} {tr : St → Option St} {N : Nat} {σ σe : St} {ret e : Nat} {d : D} {J : Option (Ex × St)} (hJ : iter f tr N σ = J) (Inv : Nat → Prop) (hI0 : Inv 0) (els : List X) (H : Nat → St) (p : Nat → X → Bool)
    (hl : els.length ≤ maxLen) (hN : maxLen + 10 < N) (h0 : tr σ = some (H 0))
    (hgo : ∀ (j : Nat) x, decide ((j : Int) < (els.length : Int)) = true → IntKind.i64.wrap ((j : Int) + 1) = ((j + 1 : Nat) : Int) → els[j]? = some x → Inv j → p j x = true → stepE tr (f (H j)) = some (H (j + 1)) ∧ Inv (j + 1))
    (hst : ∀ (j : Nat) x, decide ((j : Int) < (els.length : Int)) = true → els[j]? = some x → Inv j → p j x = false → rtV ret (f (H j)) = some d)
    (hend : f (H els.length) = some (.ex e, σe)) :
    (allI p 0 els = true → J = some (.ex e, σe)) ∧ (allI p 0 els = false → ∃ σ', J = some (.rt, σ') ∧ lkf σ'.fr ret = d) := by
  subst hJ
  have key : ∀ (xs pre : List X) (N : Nat) (σ : St), els = pre ++ xs → xs.length < N → tr σ = some (H pre.length) → Inv pre.length →
      (allI p pre.length xs = true → iter f tr N σ = some (.ex e, σe)) ∧ (allI p pre.length xs = false → ∃ σ', iter f tr N σ = some (.rt, σ') ∧ lkf σ'.fr ret = d) := by
    intro xs
    induction xs with
    | nil =>
      intro pre N σ he hN h0 hi
      obtain ⟨N, rfl⟩ : ∃ k, N = k + 1 := ⟨N - 1, by simp at hN; omega⟩
      have hl : els.length = pre.length := by rw [he]; simp
      rw [← hl] at h0
      refine ⟨fun _ => ?_, fun h => by simp [allI] at h⟩
      simp only [iter, h0, Option.bind_some, hend]
    | cons x xs ih =>
      intro pre N σ he hN h0 hi
      obtain ⟨N, rfl⟩ : ∃ k, N = k + 1 := ⟨N - 1, by simp at hN; omega⟩
      have hx : els[pre.length]? = some x := by rw [he]; simp
      have hlt' : pre.length < els.length := by rw [he]; simp
      have hlt : decide ((pre.length : Int) < (els.length : Int)) = true := by simp; exact hlt'
      have hw := wrap_succ hlt' hl
      cases hp : p pre.length x with
      | true =>
        obtain ⟨h1, hi1⟩ := hgo _ x hlt hw hx hi hp
        cases hf : f (H pre.length) with
        | none => rw [hf] at h1; simp [stepE] at h1
        | some r =>
          obtain ⟨ex, σ'⟩ := r
          rw [hf] at h1
          cases ex with
          | nm =>
            have := ih (pre ++ [x]) N σ' (by rw [he]; simp) (by simp at hN; omega) (by simpa [stepE] using h1) (by simpa using hi1)
            have e1 : iter f tr (N + 1) σ = iter f tr N σ' := by simp only [iter, h0, Option.bind_some, hf]
            rw [e1]
            simpa [allI, hp] using this
          | ex i => simp [stepE] at h1
          | rt => simp [stepE] at h1
      | false =>
        obtain ⟨σ', h1, h2⟩ := rtV_some (hst _ x hlt hx hi hp)
        refine ⟨fun h => by simp [allI, hp] at h, fun _ => ⟨σ', ?_, h2⟩⟩
        simp only [iter, h0, Option.bind_some, h1]
  exact key els [] N σ rfl (by omega) h0 hI0
def bkAt (m : Mc) (b : Bk) (j : Nat) (r : Int) : Bool := inB r 0 (IntKind.i64.wrap ((m.regs.length : Int) - 1)) && ((b.regs.take j).all (fun q => !decide (q = r)) && decide (regW m r = regW m (bank0 b)))
def bkR (m : Mc) (i : Nat) (b : Bk) : Bool := (nameOK b.name && !decide ((b.regs.length : Int) = 0)) && ((m.banks.take i).all (fun q => !decide (q.name = b.name)) && allI (bkAt m b) 0 b.regs)
def banksR (m : Mc) : Bool := allI (bkR m) 0 m.banks
theorem lp42b (C : Ctx) (N : Nat) (hN : maxLen + 10 < N) (hW : C.T 66 = some s_in) (m : Mc) (i : Nat) (b : Bk) (hl : m.regs.length ≤ 1000) (hb : b.regs.length ≤ 1000) {σ : St} {J : Option (Ex × St)} (hJ : iter (ev C N lp68x2) (trim [1, 3, 4, 6] 2) N σ = J)
    (h0 : trim [1, 3, 4, 6] 2 σ = some ⟨[(1, .ptr 0 0), (3, .v (.int .i64 i)), (4, .ptr 1 0), (6, .v (.int .i64 ((0 : Nat) : Int)))], [(1, .box b.d), (0, .box m.d)], 2⟩) :
    (allI (bkAt m b) 0 b.regs = true → J = some (.ex 4, ⟨[(48, .v (.bool false)), (47, .v (.int .i64 b.regs.length)), (46, .lst false (b.regs.map iD)), (45, .ptr 1 1), (44, .v (.int .i64 b.regs.length)), (1, .ptr 0 0), (3, .v (.int .i64 i)), (4, .ptr 1 0), (6, .v (.int .i64 b.regs.length))], [(1, .box b.d), (0, .box m.d)], 2⟩)) ∧
    (allI (bkAt m b) 0 b.regs = false → ∃ σ', J = some (.rt, σ') ∧ lkf σ'.fr 2 = .v (.bool false)) := by
  have hml := maxLen_ge
  have inner : ∀ (j : Nat) (r : Int), b.regs[j]? = some r → ∀ {σ : St} {J : Option (Ex × St)}, iter (ev C N lp68x1) (trim [1, 3, 4, 6, 7] 2) N σ = J → trim [1, 3, 4, 6, 7] 2 σ = some ⟨[(1, .ptr 0 0), (3, .v (.int .i64 i)), (4, .ptr 1 0), (6, .v (.int .i64 j)), (7, .v (.int .i64 ((0 : Nat) : Int)))], [(1, .box b.d), (0, .box m.d)], 2⟩ →
      ((b.regs.take j).all (fun q => !decide (q = r)) = true → J = some (.ex 6, ⟨[(64, .v (.bool false)), (63, .v (.int .i64 j)), (62, .v (.int .i64 j)), (1, .ptr 0 0), (3, .v (.int .i64 i)), (4, .ptr 1 0), (6, .v (.int .i64 j)), (7, .v (.int .i64 j))], [(1, .box b.d), (0, .box m.d)], 2⟩)) ∧
      ((b.regs.take j).all (fun q => !decide (q = r)) = false → ∃ σ', J = some (.rt, σ') ∧ lkf σ'.fr 2 = .v (.bool false)) := by
    intro j r hr σ J hJ h0
    have hjl : j < b.regs.length := (List.getElem?_eq_some_iff.1 hr).1
    have htl : (b.regs.take j).length = j := by rw [List.length_take]; omega
    have := rloopJ (e := 6) (ret := 2) (d := .v (.bool false)) (σe := ⟨[(64, .v (.bool false)), (63, .v (.int .i64 j)), (62, .v (.int .i64 j)), (1, .ptr 0 0), (3, .v (.int .i64 i)), (4, .ptr 1 0), (6, .v (.int .i64 j)), (7, .v (.int .i64 j))], [(1, .box b.d), (0, .box m.d)], 2⟩) hJ (b.regs.take j) (fun k => ⟨[(1, .ptr 0 0), (3, .v (.int .i64 i)), (4, .ptr 1 0), (6, .v (.int .i64 j)), (7, .v (.int .i64 k))], [(1, .box b.d), (0, .box m.d)], 2⟩) (fun _ q => !decide (q = r)) (by omega) hN h0 ?_ ?_ ?_
    · rw [allI_all] at this
      exact this
    · intro k q hk hkw hq hp
      have hq' := take_get hq
      rw [htl] at hk
      have hp' : decide (q = r) = false := by simpa using hp
      simp -dsimp only [lp68x1, hk, hkw, hq', hr, hp', Mc.d, Bk.d, iD, EVs, ↓EVd, ↓reduceIte, zA, zB, zC, zD, zE, zF, reduceBEq, reduceCtorEq, zG, zH, zI, zJ, zK, dcells, okc]
    · intro k q hk hq hp
      have hq' := take_get hq
      rw [htl] at hk
      have hp' : decide (q = r) = true := by simpa using hp
      simp -dsimp only [EVq, lp68x1, hk, hq', hr, hp', Mc.d, Bk.d, iD, EVs, ↓EVd, ↓reduceIte, zA, zB, zC, zD, zE, zF, reduceBEq, reduceCtorEq, zG, zH, zI, zJ, zK, dcells, okc]
    · simp -dsimp only [lp68x1, htl, Mc.d, Bk.d, EVs, ↓EVd, ↓reduceIte, zA, zB, zC, zD, zE, zF, reduceBEq, reduceCtorEq, zG, zH, zI, zJ, zK, dcells, okc]
  have fst : ∀ (j : Nat) (r : Int), b.regs[j]? = some r → (0 < j → decide (0 ≤ bank0 b) = true ∧ ∃ p, m.regs[(bank0 b).toNat]? = some p) → inB r 0 (IntKind.i64.wrap ((m.regs.length : Int) - 1)) = true →
      ∃ r0 p0, b.regs[0]? = some r0 ∧ bank0 b = r0 ∧ decide (0 ≤ r0) = true ∧ m.regs[r0.toNat]? = some p0 := by
    intro j r hr hinv hb
    obtain ⟨q1, p, q2⟩ := inB_get (l := m.regs) (by omega) hb
    by_cases hz : j = 0
    · subst hz; exact ⟨r, p, hr, by simp [bank0, hr], q1, q2⟩
    · obtain ⟨k1, p0, k2⟩ := hinv (by omega)
      have hjl : j < b.regs.length := (List.getElem?_eq_some_iff.1 hr).1
      have : b.regs[0]? = some (b.regs[0]'(by omega)) := List.getElem?_eq_getElem (by omega)
      simp only [bank0, this, Option.getD_some] at k1 k2
      exact ⟨_, p0, this, by simp [bank0, this], k1, k2⟩
  have body : ∀ (j : Nat) (r : Int), decide ((j : Int) < (b.regs.length : Int)) = true → IntKind.i64.wrap ((j : Int) + 1) = ((j + 1 : Nat) : Int) → b.regs[j]? = some r → (0 < j → decide (0 ≤ bank0 b) = true ∧ ∃ p, m.regs[(bank0 b).toNat]? = some p) →
      (bkAt m b j r = true → stepE (trim [1, 3, 4, 6] 2) (ev C N lp68x2 ⟨[(1, .ptr 0 0), (3, .v (.int .i64 i)), (4, .ptr 1 0), (6, .v (.int .i64 j))], [(1, .box b.d), (0, .box m.d)], 2⟩) = some ⟨[(1, .ptr 0 0), (3, .v (.int .i64 i)), (4, .ptr 1 0), (6, .v (.int .i64 ((j + 1 : Nat) : Int)))], [(1, .box b.d), (0, .box m.d)], 2⟩) ∧
      (bkAt m b j r = false → rtV 2 (ev C N lp68x2 ⟨[(1, .ptr 0 0), (3, .v (.int .i64 i)), (4, .ptr 1 0), (6, .v (.int .i64 j))], [(1, .box b.d), (0, .box m.d)], 2⟩) = some (.v (.bool false))) := by
    intro j r hj hw hr hinv
    have e1 := @e_in r 0 (IntKind.i64.wrap ((m.regs.length : Int) - 1))
    cases c1 : inB r 0 (IntKind.i64.wrap ((m.regs.length : Int) - 1))
    · refine ⟨fun h => by simp [bkAt, c1] at h, fun _ => ?_⟩
      simp -dsimp only [EVq, lp68x2, Mc.d, Bk.d, iD, hj, hr, hW, e1, c1, EVs, ↓EVd, ↓reduceIte, zA, zB, zC, zD, zE, zF, reduceBEq, reduceCtorEq, zG, zH, zI, zJ, zK, dcells, okc]
    cases c2 : (b.regs.take j).all (fun q => !decide (q = r))
    · refine ⟨fun h => by simp [bkAt, c2] at h, fun _ => ?_⟩
      simp -dsimp only [EVq, lp68x2, Mc.d, Bk.d, iD, hj, hr, hW, e1, c1, EVs, ↓EVd, ↓reduceIte, zA, zB, zC, zD, zE, zF, reduceBEq, reduceCtorEq, zG, zH, zI, zJ, zK, dcells, okc]
      generalize hL : iter _ _ _ _ = L
      obtain ⟨σ', rfl, h2⟩ := (inner j r hr hL (by simp -dsimp only [Mc.d, Bk.d, EVs, ↓EVd, ↓reduceIte, zA, zB, zC, zD, zE, zF, reduceBEq, reduceCtorEq, zG, zH, zI, zJ, zK, dcells, okc])).2 c2
      simp -dsimp only [EVq, h2, EVs, ↓EVd, ↓reduceIte, zA, zB, zC, zD, zE, zF, reduceBEq, reduceCtorEq, zG, zH, zI, zJ, zK, dcells, okc]
    obtain ⟨q1, p, q2⟩ := inB_get (l := m.regs) (by omega) c1
    obtain ⟨r0, p0, k1, k0, k2, k3⟩ := fst j r hr hinv c1
    have w1 : regW m r = p.width := by simp [regW, q2]
    have w2 : regW m r0 = p0.width := by simp [regW, k3]
    have eb : bkAt m b j r = decide (p.width = p0.width) := by unfold bkAt; rw [c1, c2, k0, w1, w2]; rfl
    rw [eb]
    cases c3 : decide (p.width = p0.width) <;> refine ⟨fun h => ?_, fun h => ?_⟩ <;> first
      | (simp at h; done)
      | (simp -dsimp only [EVq, lp68x2, Mc.d, Bk.d, iD, hj, hr, hW, e1, c1, EVs, ↓EVd, ↓reduceIte, zA, zB, zC, zD, zE, zF, reduceBEq, reduceCtorEq, zG, zH, zI, zJ, zK, dcells, okc]
         generalize hL : iter _ _ _ _ = L
         obtain rfl := (inner j r hr hL (by simp -dsimp only [Mc.d, Bk.d, EVs, ↓EVd, ↓reduceIte, zA, zB, zC, zD, zE, zF, reduceBEq, reduceCtorEq, zG, zH, zI, zJ, zK, dcells, okc])).1 c2
         simp -dsimp only [EVq, Mc.d, Bk.d, Rg.d, iD, hr, q1, q2, k1, k2, k3, c3, hw, EVs, ↓EVd, ↓reduceIte, zA, zB, zC, zD, zE, zF, reduceBEq, reduceCtorEq, zG, zH, zI, zJ, zK, dcells, okc])
  exact rloopI (d := .v (.bool false)) (ret := 2) (e := 4) hJ (fun j => 0 < j → decide (0 ≤ bank0 b) = true ∧ ∃ p, m.regs[(bank0 b).toNat]? = some p) (fun h => by omega) b.regs (fun j => ⟨[(1, .ptr 0 0), (3, .v (.int .i64 i)), (4, .ptr 1 0), (6, .v (.int .i64 j))], [(1, .box b.d), (0, .box m.d)], 2⟩) (bkAt m b) (by omega) hN h0
    (fun j r hj hw hr hi hp => ⟨(body j r hj hw hr hi).1 hp, fun _ => by
      simp only [bkAt, Bool.and_eq_true] at hp
      obtain ⟨r0, p0, _, k0, k2, k3⟩ := fst j r hr hi hp.1
      rw [k0]; exact ⟨k2, p0, k3⟩⟩)
    (fun j r hj hr hi hp => (body j r hj (wrap_succ (List.getElem?_eq_some_iff.1 hr).1 (by omega)) hr hi).2 hp) (by simp -dsimp only [lp68x2, Mc.d, Bk.d, EVs, ↓EVd, ↓reduceIte, zA, zB, zC, zD, zE, zF, reduceBEq, reduceCtorEq, zG, zH, zI, zJ, zK, dcells, okc])
def x_BanksR (a : Mc) : List D := match a with | m => [.agg m.d]
theorem i_BanksR : ∀ a b, x_BanksR a = x_BanksR b → a = b := by
  rintro m m' h
  first | simpa [x_BanksR, INJ, and_assoc, Int.ofNat_inj] using h | (simp [x_BanksR, INJ, and_assoc, Int.ofNat_inj] at h; simp_all)
open Classical in
noncomputable def s_BanksR : List D → Option D := sOf x_BanksR fun a => match a with | m => if (m.banks.length ≤ 1000 ∧ m.regs.length ≤ 1000 ∧ ∀ b ∈ m.banks, b.regs.length ≤ 1000) then some (.v (.bool (banksR m))) else none
theorem e_BanksR {m : Mc} (hc : (m.banks.length ≤ 1000 ∧ m.regs.length ≤ 1000 ∧ ∀ b ∈ m.banks, b.regs.length ≤ 1000)) : s_BanksR [.agg m.d] = some (.v (.bool (banksR m))) := (sOf_eq i_BanksR m).trans (if_pos hc)
theorem R_BanksR {C : Ctx} {F : IFun} (hspec : ∀ N, maxLen + 10 < N → ∀ (m : Mc), lenOK.lenOKs [.agg m.d] → (m.banks.length ≤ 1000 ∧ m.regs.length ≤ 1000 ∧ ∀ b ∈ m.banks, b.regs.length ≤ 1000) → runE C N F [.agg m.d] = some (.v (.bool (banksR m)))) : Runs C F (s_BanksR) := runs_of i_BanksR fun N hN m r hl hf => by
  simp only [Option.ite_none_right_eq_some, Option.some.injEq] at hf
  obtain ⟨hc, rfl⟩ := hf
  exact hspec N hN m hl hc
theorem r_okBanks (C : Ctx) (hNm : C.T 65 = some s_Name) (hW : C.T 66 = some s_in) : Runs C ir68 s_BanksR := R_BanksR fun N hN m hl hc => by
  obtain ⟨hb, hr, hbr⟩ := hc
  have hml := maxLen_ge
  simp -dsimp only [runE, run_eq, ir68, Mc.d, EVs, ↓EVd, ↓reduceIte, zA, zB, zC, zD, zE, zF, reduceBEq, reduceCtorEq, zG, zH, zI, zJ, zK, dcells, okc]
  generalize hI : iter _ _ _ _ = I
  have body : ∀ (i : Nat) (b : Bk), decide ((i : Int) < (m.banks.length : Int)) = true → IntKind.i64.wrap ((i : Int) + 1) = ((i + 1 : Nat) : Int) → m.banks[i]? = some b →
      (bkR m i b = true → stepE (trim [1, 3] 1) (ev C N lp68x3 ⟨[(1, .ptr 0 0), (3, .v (.int .i64 i))], [(0, .box m.d)], 1⟩) = some ⟨[(1, .ptr 0 0), (3, .v (.int .i64 ((i + 1 : Nat) : Int)))], [(0, .box m.d)], 1⟩) ∧
      (bkR m i b = false → rtV 2 (ev C N lp68x3 ⟨[(1, .ptr 0 0), (3, .v (.int .i64 i))], [(0, .box m.d)], 1⟩) = some (.v (.bool false))) := by
    intro i b hi hw hbi
    have hil : i < m.banks.length := (List.getElem?_eq_some_iff.1 hbi).1
    have hbl := hbr b (List.mem_of_getElem? hbi)
    have htl : (m.banks.take i).length = i := by rw [List.length_take]; omega
    have e1 := @e_Name b.name
    cases c1 : nameOK b.name
    · refine ⟨fun h => by simp [bkR, c1] at h, fun _ => ?_⟩
      simp -dsimp only [EVq, lp68x3, Mc.d, Bk.d, hi, hbi, hNm, e1, c1, EVs, ↓EVd, ↓reduceIte, zA, zB, zC, zD, zE, zF, reduceBEq, reduceCtorEq, zG, zH, zI, zJ, zK, dcells, okc]
    cases c2 : decide ((b.regs.length : Int) = 0)
    case true =>
      refine ⟨fun h => by (unfold bkR at h; rw [c1, c2] at h; simp at h), fun _ => ?_⟩
      simp -dsimp only [EVq, lp68x3, Mc.d, Bk.d, hi, hbi, hNm, e1, c1, c2, EVs, ↓EVd, ↓reduceIte, zA, zB, zC, zD, zE, zF, reduceBEq, reduceCtorEq, zG, zH, zI, zJ, zK, dcells, okc]
    have inner : ∀ {σ : St} {J : Option (Ex × St)}, iter (ev C N lp68x0) (trim [1, 3, 4, 5] 2) N σ = J → trim [1, 3, 4, 5] 2 σ = some ⟨[(1, .ptr 0 0), (3, .v (.int .i64 i)), (4, .ptr 1 0), (5, .v (.int .i64 ((0 : Nat) : Int)))], [(1, .box b.d), (0, .box m.d)], 2⟩ →
        ((m.banks.take i).all (fun q => !decide (q.name = b.name)) = true → J = some (.ex 2, ⟨[(32, .v (.bool false)), (31, .v (.int .i64 i)), (30, .v (.int .i64 i)), (1, .ptr 0 0), (3, .v (.int .i64 i)), (4, .ptr 1 0), (5, .v (.int .i64 i))], [(1, .box b.d), (0, .box m.d)], 2⟩)) ∧
        ((m.banks.take i).all (fun q => !decide (q.name = b.name)) = false → ∃ σ', J = some (.rt, σ') ∧ lkf σ'.fr 2 = .v (.bool false)) := by
      intro σ J hJ h0
      have := rloopJ (e := 2) (ret := 2) (d := .v (.bool false)) (σe := ⟨[(32, .v (.bool false)), (31, .v (.int .i64 i)), (30, .v (.int .i64 i)), (1, .ptr 0 0), (3, .v (.int .i64 i)), (4, .ptr 1 0), (5, .v (.int .i64 i))], [(1, .box b.d), (0, .box m.d)], 2⟩) hJ (m.banks.take i) (fun j => ⟨[(1, .ptr 0 0), (3, .v (.int .i64 i)), (4, .ptr 1 0), (5, .v (.int .i64 j))], [(1, .box b.d), (0, .box m.d)], 2⟩) (fun _ q => !decide (q.name = b.name)) (by omega) hN h0 ?_ ?_ ?_
      · rw [allI_all] at this
        exact this
      · intro j q hj hjw hq hp
        have hq' := take_get hq
        rw [htl] at hj
        have hp' : decide (q.name = b.name) = false := by simpa using hp
        simp -dsimp only [lp68x0, hj, hjw, hq', hp', Mc.d, Bk.d, EVs, ↓EVd, ↓reduceIte, zA, zB, zC, zD, zE, zF, reduceBEq, reduceCtorEq, zG, zH, zI, zJ, zK, dcells, okc]
      · intro j q hj hq hp
        have hq' := take_get hq
        rw [htl] at hj
        have hp' : decide (q.name = b.name) = true := by simpa using hp
        simp -dsimp only [EVq, lp68x0, hj, hq', hp', Mc.d, Bk.d, EVs, ↓EVd, ↓reduceIte, zA, zB, zC, zD, zE, zF, reduceBEq, reduceCtorEq, zG, zH, zI, zJ, zK, dcells, okc]
      · simp -dsimp only [lp68x0, htl, Mc.d, Bk.d, EVs, ↓EVd, ↓reduceIte, zA, zB, zC, zD, zE, zF, reduceBEq, reduceCtorEq, zG, zH, zI, zJ, zK, dcells, okc]
    cases c3 : (m.banks.take i).all (fun q => !decide (q.name = b.name))
    · refine ⟨fun h => by simp [bkR, c3] at h, fun _ => ?_⟩
      simp -dsimp only [EVq, lp68x3, Mc.d, Bk.d, hi, hbi, hNm, e1, c1, c2, EVs, ↓EVd, ↓reduceIte, zA, zB, zC, zD, zE, zF, reduceBEq, reduceCtorEq, zG, zH, zI, zJ, zK, dcells, okc]
      generalize hL : iter _ _ _ _ = L
      obtain ⟨σ', rfl, h2⟩ := (inner hL (by simp -dsimp only [Mc.d, Bk.d, EVs, ↓EVd, ↓reduceIte, zA, zB, zC, zD, zE, zF, reduceBEq, reduceCtorEq, zG, zH, zI, zJ, zK, dcells, okc])).2 c3
      simp -dsimp only [EVq, h2, EVs, ↓EVd, ↓reduceIte, zA, zB, zC, zD, zE, zF, reduceBEq, reduceCtorEq, zG, zH, zI, zJ, zK, dcells, okc]
    cases c4 : allI (bkAt m b) 0 b.regs
    · refine ⟨fun h => by simp [bkR, c4] at h, fun _ => ?_⟩
      simp -dsimp only [EVq, lp68x3, Mc.d, Bk.d, hi, hbi, hNm, e1, c1, c2, EVs, ↓EVd, ↓reduceIte, zA, zB, zC, zD, zE, zF, reduceBEq, reduceCtorEq, zG, zH, zI, zJ, zK, dcells, okc]
      generalize hL : iter _ _ _ _ = L
      obtain rfl := (inner hL (by simp -dsimp only [Mc.d, Bk.d, EVs, ↓EVd, ↓reduceIte, zA, zB, zC, zD, zE, zF, reduceBEq, reduceCtorEq, zG, zH, zI, zJ, zK, dcells, okc])).1 c3
      simp -dsimp only [EVq, Mc.d, Bk.d, EVs, ↓EVd, ↓reduceIte, zA, zB, zC, zD, zE, zF, reduceBEq, reduceCtorEq, zG, zH, zI, zJ, zK, dcells, okc]
      generalize hL2 : iter _ _ _ _ = L2
      obtain ⟨σ', rfl, h2⟩ := (lp42b C N hN hW m i b hr hbl hL2 (by simp -dsimp only [Mc.d, Bk.d, EVs, ↓EVd, ↓reduceIte, zA, zB, zC, zD, zE, zF, reduceBEq, reduceCtorEq, zG, zH, zI, zJ, zK, dcells, okc])).2 c4
      simp -dsimp only [EVq, h2, EVs, ↓EVd, ↓reduceIte, zA, zB, zC, zD, zE, zF, reduceBEq, reduceCtorEq, zG, zH, zI, zJ, zK, dcells, okc]
    · refine ⟨fun _ => ?_, fun h => by (unfold bkR at h; rw [c1, c2, c3, c4] at h; simp at h)⟩
      simp -dsimp only [EVq, lp68x3, Mc.d, Bk.d, hi, hbi, hNm, e1, c1, c2, EVs, ↓EVd, ↓reduceIte, zA, zB, zC, zD, zE, zF, reduceBEq, reduceCtorEq, zG, zH, zI, zJ, zK, dcells, okc]
      generalize hL : iter _ _ _ _ = L
      obtain rfl := (inner hL (by simp -dsimp only [Mc.d, Bk.d, EVs, ↓EVd, ↓reduceIte, zA, zB, zC, zD, zE, zF, reduceBEq, reduceCtorEq, zG, zH, zI, zJ, zK, dcells, okc])).1 c3
      simp -dsimp only [EVq, Mc.d, Bk.d, EVs, ↓EVd, ↓reduceIte, zA, zB, zC, zD, zE, zF, reduceBEq, reduceCtorEq, zG, zH, zI, zJ, zK, dcells, okc]
      generalize hL2 : iter _ _ _ _ = L2
      obtain rfl := (lp42b C N hN hW m i b hr hbl hL2 (by simp -dsimp only [Mc.d, Bk.d, EVs, ↓EVd, ↓reduceIte, zA, zB, zC, zD, zE, zF, reduceBEq, reduceCtorEq, zG, zH, zI, zJ, zK, dcells, okc])).1 c4
      simp -dsimp only [EVq, Mc.d, Bk.d, hw, EVs, ↓EVd, ↓reduceIte, zA, zB, zC, zD, zE, zF, reduceBEq, reduceCtorEq, zG, zH, zI, zJ, zK, dcells, okc]
  have key := rloopJ (d := .v (.bool false)) (ret := 2) (e := 0) hI m.banks (fun i => ⟨[(1, .ptr 0 0), (3, .v (.int .i64 i))], [(0, .box m.d)], 1⟩) (bkR m) (σe := ⟨[(12, .v (.bool false)), (11, .v (.int .i64 m.banks.length)), (10, .lst false (m.banks.map Bk.d)), (9, .ptr 0 4), (8, .v (.int .i64 m.banks.length)), (1, .ptr 0 0), (3, .v (.int .i64 m.banks.length))], [(0, .box m.d)], 1⟩) (by omega) hN (by simp -dsimp only [Mc.d, EVs, ↓EVd, ↓reduceIte, zA, zB, zC, zD, zE, zF, reduceBEq, reduceCtorEq, zG, zH, zI, zJ, zK, dcells, okc]) (fun i r hi hw hr hp => (body i r hi hw hr).1 hp) (fun i r hi hr hp => (body i r hi (wrap_succ (List.getElem?_eq_some_iff.1 hr).1 (by omega)) hr).2 hp) (by simp -dsimp only [lp68x3, Mc.d, EVs, ↓EVd, ↓reduceIte, zA, zB, zC, zD, zE, zF, reduceBEq, reduceCtorEq, zG, zH, zI, zJ, zK, dcells, okc])
  cases ha : allI (bkR m) 0 m.banks
  · obtain ⟨σ', rfl, k2⟩ := key.2 ha
    simp -dsimp only [EVq, k2, banksR, ha, EVs, ↓EVd, ↓reduceIte, zA, zB, zC, zD, zE, zF, reduceBEq, reduceCtorEq, zG, zH, zI, zJ, zK, dcells, okc]
  · obtain rfl := key.1 ha
    simp -dsimp only [EVq, Mc.d, banksR, ha, EVs, ↓EVd, ↓reduceIte, zA, zB, zC, zD, zE, zF, reduceBEq, reduceCtorEq, zG, zH, zI, zJ, zK, dcells, okc]
end Go.Proofs.Dv
set_option linter.unusedVariables false
set_option linter.unusedSimpArgs false
set_option maxRecDepth 100000
namespace Go.Proofs.Dv
open Go.RowKit
open Nat renaming reduceEqDiff → zA, reduceAdd → zB, reduceSub → zC, reduceLeDiff → zD, reduceLT → zE, reduceMul → zF
open Int renaming reduceToNat → zG, reduceLE → zH, reduceLT → zI
open List renaming set_cons_zero → zJ, set_cons_succ → zK
def pSt (b : Int) (n : Int) (p : Pc) : Int := if inB b p.at_ (IntKind.i64.wrap (IntKind.i64.wrap (p.at_ + p.len) - 1)) = true then IntKind.i64.wrap (n + 1) else n
def oSt (b : Int) (n : Int) (o : Opn) : Int := o.pieces.foldl (pSt b) n
def apB (i : Ins) (b : Int) : Int := i.operands.foldl (oSt b) (bitI i.mask b)
theorem lp54p (C : Ctx) (N : Nat) (hN : maxLen + 10 < N) (hW : C.T 66 = some s_in) (m : Mc) (i : Ins) (b n : Int) (j : Nat) (o : Opn) (ho : i.operands[j]? = some o) (hp : o.pieces.length ≤ 1000) {σ : St} {J : Option (Ex × St)} (hJ : iter (ev C N lp111x0) (trim [2, 3, 5, 6, 7, 8] 2) N σ = J)
    (h0 : trim [2, 3, 5, 6, 7, 8] 2 σ = some ⟨[(2, .ptr 0 0), (3, .ptr 1 0), (5, .v (.int .i64 b)), (6, .v (.int .i64 n)), (7, .v (.int .i64 j)), (8, .v (.int .i64 ((0 : Nat) : Int)))], [(1, .box i.d), (0, .box m.d)], 2⟩) :
    J = some (.ex 4, ⟨[(36, .v (.bool false)), (35, .v (.int .i64 o.pieces.length)), (34, .lst false (o.pieces.map Pc.d)), (33, .rp (o.d.drop 4)), (32, .rp o.d), (31, .v (.int .i64 j)), (30, .lst false (i.operands.map Opn.d)), (29, .ptr 1 3), (28, .v (.int .i64 o.pieces.length)), (2, .ptr 0 0), (3, .ptr 1 0), (5, .v (.int .i64 b)), (6, .v (.int .i64 (oSt b n o))), (7, .v (.int .i64 j)), (8, .v (.int .i64 o.pieces.length))], [(1, .box i.d), (0, .box m.d)], 2⟩) := by
  have hml := maxLen_ge
  refine iter_all (K := fun I => I) o.pieces (fun k n => ⟨[(2, .ptr 0 0), (3, .ptr 1 0), (5, .v (.int .i64 b)), (6, .v (.int .i64 n)), (7, .v (.int .i64 j)), (8, .v (.int .i64 k))], [(1, .box i.d), (0, .box m.d)], 2⟩) (pSt b) (fun _ _ => True) n (by omega) hN h0 trivial ?_ ?_ J hJ
  · intro k n p hk hkw hpk _
    refine ⟨?_, trivial⟩
    have e1 := @e_in b p.at_ (IntKind.i64.wrap (IntKind.i64.wrap (p.at_ + p.len) - 1))
    unfold pSt
    cases c : inB b p.at_ (IntKind.i64.wrap (IntKind.i64.wrap (p.at_ + p.len) - 1))
    · rw [if_neg (by simp)]
      simp -dsimp only [lp111x0, Mc.d, Ins.d, Opn.d, Pc.d, ho, hk, hkw, hpk, hW, e1, c, EVs, ↓EVd, ↓reduceIte, zA, zB, zC, zD, zE, zF, reduceBEq, reduceCtorEq, zG, zH, zI, zJ, zK, dcells, okc]
    · rw [if_pos rfl]
      simp -dsimp only [lp111x0, Mc.d, Ins.d, Opn.d, Pc.d, ho, hk, hkw, hpk, hW, e1, c, EVs, ↓EVd, ↓reduceIte, zA, zB, zC, zD, zE, zF, reduceBEq, reduceCtorEq, zG, zH, zI, zJ, zK, dcells, okc]
  · intro _
    simp -dsimp only [lp111x0, Mc.d, Ins.d, Opn.d, ho, oSt, EVs, ↓EVd, ↓reduceIte, zA, zB, zC, zD, zE, zF, reduceBEq, reduceCtorEq, zG, zH, zI, zJ, zK, dcells, okc]
theorem lp54o (C : Ctx) (N : Nat) (hN : maxLen + 10 < N) (hW : C.T 66 = some s_in) (m : Mc) (i : Ins) (b n : Int) (hop : i.operands.length ≤ 1000) (hp : ∀ o ∈ i.operands, o.pieces.length ≤ 1000) {σ : St} {J : Option (Ex × St)} (hJ : iter (ev C N lp111x1) (trim [2, 3, 5, 6, 7] 2) N σ = J)
    (h0 : trim [2, 3, 5, 6, 7] 2 σ = some ⟨[(2, .ptr 0 0), (3, .ptr 1 0), (5, .v (.int .i64 b)), (6, .v (.int .i64 n)), (7, .v (.int .i64 ((0 : Nat) : Int)))], [(1, .box i.d), (0, .box m.d)], 2⟩) :
    J = some (.ex 2, ⟨[(25, .v (.bool false)), (24, .v (.int .i64 i.operands.length)), (23, .lst false (i.operands.map Opn.d)), (22, .ptr 1 3), (21, .v (.int .i64 i.operands.length)), (2, .ptr 0 0), (3, .ptr 1 0), (5, .v (.int .i64 b)), (6, .v (.int .i64 (i.operands.foldl (oSt b) n))), (7, .v (.int .i64 i.operands.length))], [(1, .box i.d), (0, .box m.d)], 2⟩) := by
  have hml := maxLen_ge
  refine iter_all (K := fun I => I) i.operands (fun k n => ⟨[(2, .ptr 0 0), (3, .ptr 1 0), (5, .v (.int .i64 b)), (6, .v (.int .i64 n)), (7, .v (.int .i64 k))], [(1, .box i.d), (0, .box m.d)], 2⟩) (oSt b) (fun _ _ => True) n (by omega) hN h0 trivial ?_ ?_ J hJ
  · intro k n o hk hkw ho _
    refine ⟨?_, trivial⟩
    simp -dsimp only [lp111x1, Mc.d, Ins.d, hk, hkw, EVs, ↓EVd, ↓reduceIte, zA, zB, zC, zD, zE, zF, reduceBEq, reduceCtorEq, zG, zH, zI, zJ, zK, dcells, okc]
    generalize hL : iter _ _ _ _ = L
    obtain rfl := lp54p C N hN hW m i b n k o ho (hp o (List.mem_of_getElem? ho)) hL (by simp -dsimp only [Mc.d, Ins.d, EVs, ↓EVd, ↓reduceIte, zA, zB, zC, zD, zE, zF, reduceBEq, reduceCtorEq, zG, zH, zI, zJ, zK, dcells, okc])
    simp -dsimp only [Mc.d, Ins.d, hkw, EVs, ↓EVd, ↓reduceIte, zA, zB, zC, zD, zE, zF, reduceBEq, reduceCtorEq, zG, zH, zI, zJ, zK, dcells, okc]
  · intro _
    simp -dsimp only [lp111x1, Mc.d, Ins.d, EVs, ↓EVd, ↓reduceIte, zA, zB, zC, zD, zE, zF, reduceBEq, reduceCtorEq, zG, zH, zI, zJ, zK, dcells, okc]
def apR (m : Mc) (i : Ins) : Bool := allI (fun j (_ : Nat) => !decide (1 < apB i (j : Int))) 0 (List.range (W8 m).toNat)
def x_ApR (a : Mc × Ins) : List D := match a with | (m, i) => [.agg m.d, .agg i.d]
theorem i_ApR : ∀ a b, x_ApR a = x_ApR b → a = b := by
  rintro ⟨m, i⟩ ⟨m', i'⟩ h
  first | simpa [x_ApR, INJ, and_assoc, Int.ofNat_inj] using h | (simp [x_ApR, INJ, and_assoc, Int.ofNat_inj] at h; simp_all)
open Classical in
noncomputable def s_ApR : List D → Option D := sOf x_ApR fun a => match a with | (m, i) => if (inB m.word 1 4 = true ∧ 0 ≤ i.mask ∧ i.mask < 18446744073709551616 ∧ i.operands.length ≤ 1000 ∧ ∀ o ∈ i.operands, o.pieces.length ≤ 1000) then some (.v (.bool (apR m i))) else none
theorem e_ApR {m : Mc} {i : Ins} (hc : (inB m.word 1 4 = true ∧ 0 ≤ i.mask ∧ i.mask < 18446744073709551616 ∧ i.operands.length ≤ 1000 ∧ ∀ o ∈ i.operands, o.pieces.length ≤ 1000)) : s_ApR [.agg m.d, .agg i.d] = some (.v (.bool (apR m i))) := (sOf_eq i_ApR (m, i)).trans (if_pos hc)
theorem R_ApR {C : Ctx} {F : IFun} (hspec : ∀ N, maxLen + 10 < N → ∀ (m : Mc) (i : Ins), lenOK.lenOKs [.agg m.d, .agg i.d] → (inB m.word 1 4 = true ∧ 0 ≤ i.mask ∧ i.mask < 18446744073709551616 ∧ i.operands.length ≤ 1000 ∧ ∀ o ∈ i.operands, o.pieces.length ≤ 1000) → runE C N F [.agg m.d, .agg i.d] = some (.v (.bool (apR m i)))) : Runs C F (s_ApR) := runs_of i_ApR fun N hN a r hl hf => by
  obtain ⟨m, i⟩ := a
  simp only [Option.ite_none_right_eq_some, Option.some.injEq] at hf
  obtain ⟨hc, rfl⟩ := hf
  exact hspec N hN m i hl hc
theorem r_apart (C : Ctx) (hW : C.T 66 = some s_in) (hB : C.T 95 = some s_BitS) : Runs C ir111 s_ApR := R_ApR fun N hN m i hl hc => by
  obtain ⟨hw, hm1, hm2, ho, hp⟩ := hc
  have hml := maxLen_ge
  have hw8 : 8 ≤ W8 m ∧ W8 m ≤ 32 := by
    simp only [inB, Bool.and_eq_true, decide_eq_true_eq] at hw
    simp only [W8]; rw [wr _ (by omega) (by omega)]; omega
  have hW8 : IntKind.i64.wrap (8 * m.word) = W8 m := rfl
  have hlen : ((List.range (W8 m).toNat).length : Int) = W8 m := by simp; omega
  simp -dsimp only [runE, run_eq, ir111, Mc.d, Ins.d, EVs, ↓EVd, ↓reduceIte, zA, zB, zC, zD, zE, zF, reduceBEq, reduceCtorEq, zG, zH, zI, zJ, zK, dcells, okc]
  generalize hI : iter _ _ _ _ = I
  have key := rloopJ (d := .v (.bool false)) (ret := 4) (e := 0) hI (List.range (W8 m).toNat) (fun j => ⟨[(2, .ptr 0 0), (3, .ptr 1 0), (5, .v (.int .i64 j))], [(1, .box i.d), (0, .box m.d)], 2⟩) (fun j _ => !decide (1 < apB i (j : Int)))
    (σe := ⟨[(14, .v (.bool false)), (13, .v (.int .i64 (W8 m))), (12, .v (.int .i64 m.word)), (11, .ptr 0 1), (10, .v (.int .i64 (W8 m))), (2, .ptr 0 0), (3, .ptr 1 0), (5, .v (.int .i64 (W8 m)))], [(1, .box i.d), (0, .box m.d)], 2⟩) (by simp; omega) hN (by simp -dsimp only [Mc.d, Ins.d, EVs, ↓EVd, ↓reduceIte, zA, zB, zC, zD, zE, zF, reduceBEq, reduceCtorEq, zG, zH, zI, zJ, zK, dcells, okc]) ?_ ?_ ?_
  · cases ha : apR m i
    · obtain ⟨σ', rfl, k2⟩ := key.2 ha
      simp -dsimp only [k2, EVs, ↓EVd, ↓reduceIte, zA, zB, zC, zD, zE, zF, reduceBEq, reduceCtorEq, zG, zH, zI, zJ, zK, dcells, okc]
    · obtain rfl := key.1 ha
      simp -dsimp only [Mc.d, EVs, ↓EVd, ↓reduceIte, zA, zB, zC, zD, zE, zF, reduceBEq, reduceCtorEq, zG, zH, zI, zJ, zK, dcells, okc]
  · intro j x hj hjw hx hpj
    rw [hlen] at hj
    have hjb : (j : Int) ≤ 1000 := by simp only [decide_eq_true_eq] at hj; omega
    have e1 := @e_BitS i.mask (j : Int) ⟨hm1, hm2, by omega, hjb⟩
    have hpj' : decide (1 < apB i (j : Int)) = false := by simpa using hpj
    simp -dsimp only [lp111x2, Mc.d, Ins.d, hW8, hj, hB, e1, EVs, ↓EVd, ↓reduceIte, zA, zB, zC, zD, zE, zF, reduceBEq, reduceCtorEq, zG, zH, zI, zJ, zK, dcells, okc]
    generalize hL : iter _ _ _ _ = L
    obtain rfl := lp54o C N hN hW m i j (bitI i.mask j) ho hp hL (by simp -dsimp only [Mc.d, Ins.d, EVs, ↓EVd, ↓reduceIte, zA, zB, zC, zD, zE, zF, reduceBEq, reduceCtorEq, zG, zH, zI, zJ, zK, dcells, okc])
    rw [show i.operands.foldl (oSt (j : Int)) (bitI i.mask (j : Int)) = apB i j from rfl]
    simp -dsimp only [Mc.d, Ins.d, hpj', hjw, EVs, ↓EVd, ↓reduceIte, zA, zB, zC, zD, zE, zF, reduceBEq, reduceCtorEq, zG, zH, zI, zJ, zK, dcells, okc]
  · intro j x hj hx hpj
    rw [hlen] at hj
    have hjb : (j : Int) ≤ 1000 := by simp only [decide_eq_true_eq] at hj; omega
    have e1 := @e_BitS i.mask (j : Int) ⟨hm1, hm2, by omega, hjb⟩
    have hpj' : decide (1 < apB i (j : Int)) = true := by simpa using hpj
    simp -dsimp only [EVq, lp111x2, Mc.d, Ins.d, hW8, hj, hB, e1, EVs, ↓EVd, ↓reduceIte, zA, zB, zC, zD, zE, zF, reduceBEq, reduceCtorEq, zG, zH, zI, zJ, zK, dcells, okc]
    generalize hL : iter _ _ _ _ = L
    obtain rfl := lp54o C N hN hW m i j (bitI i.mask j) ho hp hL (by simp -dsimp only [Mc.d, Ins.d, EVs, ↓EVd, ↓reduceIte, zA, zB, zC, zD, zE, zF, reduceBEq, reduceCtorEq, zG, zH, zI, zJ, zK, dcells, okc])
    rw [show i.operands.foldl (oSt (j : Int)) (bitI i.mask (j : Int)) = apB i j from rfl]
    simp -dsimp only [EVq, Mc.d, Ins.d, hpj', EVs, ↓EVd, ↓reduceIte, zA, zB, zC, zD, zE, zF, reduceBEq, reduceCtorEq, zG, zH, zI, zJ, zK, dcells, okc]
  · rw [hlen]
    simp -dsimp only [lp111x2, Mc.d, Ins.d, hW8, EVs, ↓EVd, ↓reduceIte, zA, zB, zC, zD, zE, zF, reduceBEq, reduceCtorEq, zG, zH, zI, zJ, zK, dcells, okc]
end Go.Proofs.Dv
set_option linter.unusedVariables false
set_option linter.unusedSimpArgs false
set_option maxRecDepth 100000
namespace Go.Proofs.Dv
open Go.RowKit
open Nat renaming reduceEqDiff → zA, reduceAdd → zB, reduceSub → zC, reduceLeDiff → zD, reduceLT → zE, reduceMul → zF
open Int renaming reduceToNat → zG, reduceLE → zH, reduceLT → zI
open List renaming set_cons_zero → zJ, set_cons_succ → zK
def kndF (k : Int) (n : Int) (e : Ef) : Int := if e.kind = k then IntKind.i64.wrap (n + 1) else n
def kndN (k : Int) (es : List Ef) : Int := es.foldl (kndF k) 0
def bitsR (i : Ins) : Bool := allI (fun j (_ : Nat) => !decide (bitI i.mask (j : Int) < bitI i.match_ (j : Int))) 0 (List.range 64)
def opsR (m : Mc) (i : Ins) : Bool := allI (fun k (_ : Opn) => opRk m i k) 0 i.operands
def tailR (m : Mc) (i : Ins) : Bool := inB i.unit 0 (IntKind.i64.wrap ((m.units.length : Int) - 1)) && (inB i.busy 1 15 && (inB i.latency 1 15 && (inB i.slots 0 2 && (decide (i.slots = 0) || decide (kndN 3 i.effects = 1)))))
def insR (m : Mc) (i : Ins) : Bool := decide (i.mask < p2 (W8 m).toNat) && (bitsR i && (opsR m i && (apR m i && (i.effects.all (effR m i) && (!(decide (1 < kndN 3 i.effects) || (decide (0 < kndN 4 i.effects) && decide (1 < (i.effects.length : Int)))) && tailR m i)))))
theorem lp44b (C : Ctx) (N : Nat) (hN : maxLen + 10 < N) (hB : C.T 95 = some s_BitS) (m : Mc) (i : Ins) (h1 : 0 ≤ i.mask ∧ i.mask < 18446744073709551616) (h2 : 0 ≤ i.match_ ∧ i.match_ < 18446744073709551616) {σ : St} {J : Option (Ex × St)} (hJ : iter (ev C N lp70x0) (trim [2, 3, 5] 2) N σ = J)
    (h0 : trim [2, 3, 5] 2 σ = some ⟨[(2, .ptr 0 0), (3, .ptr 1 0), (5, .v (.int .i64 ((0 : Nat) : Int)))], [(1, .box i.d), (0, .box m.d)], 2⟩) :
    (bitsR i = true → J = some (.ex 0, ⟨[(18, .v (.bool false)), (17, .v (.int .i64 64)), (2, .ptr 0 0), (3, .ptr 1 0), (5, .v (.int .i64 64))], [(1, .box i.d), (0, .box m.d)], 2⟩)) ∧ (bitsR i = false → ∃ σ', J = some (.rt, σ') ∧ lkf σ'.fr 4 = .v (.bool false)) := by
  have hml := maxLen_ge
  have hlen : ((List.range 64).length : Int) = 64 := by simp
  refine rloopJ (d := .v (.bool false)) (ret := 4) (e := 0) hJ (List.range 64) (fun j => ⟨[(2, .ptr 0 0), (3, .ptr 1 0), (5, .v (.int .i64 j))], [(1, .box i.d), (0, .box m.d)], 2⟩) (fun j _ => !decide (bitI i.mask (j : Int) < bitI i.match_ (j : Int))) (by simp; omega) hN h0 ?_ ?_ ?_
  · intro j x hj hjw hx hp
    rw [hlen] at hj
    have hjb : (j : Int) ≤ 1000 := by simp only [decide_eq_true_eq] at hj; omega
    have e1 := @e_BitS i.mask (j : Int) ⟨h1.1, h1.2, by omega, hjb⟩
    have e2 := @e_BitS i.match_ (j : Int) ⟨h2.1, h2.2, by omega, hjb⟩
    have hp' : decide (bitI i.mask (j : Int) < bitI i.match_ (j : Int)) = false := by simpa using hp
    simp -dsimp only [lp70x0, Mc.d, Ins.d, hj, hjw, hB, e1, e2, hp', EVs, ↓EVd, ↓reduceIte, zA, zB, zC, zD, zE, zF, reduceBEq, reduceCtorEq, zG, zH, zI, zJ, zK, dcells, okc]
  · intro j x hj hx hp
    rw [hlen] at hj
    have hjb : (j : Int) ≤ 1000 := by simp only [decide_eq_true_eq] at hj; omega
    have e1 := @e_BitS i.mask (j : Int) ⟨h1.1, h1.2, by omega, hjb⟩
    have e2 := @e_BitS i.match_ (j : Int) ⟨h2.1, h2.2, by omega, hjb⟩
    have hp' : decide (bitI i.mask (j : Int) < bitI i.match_ (j : Int)) = true := by simpa using hp
    simp -dsimp only [EVq, lp70x0, Mc.d, Ins.d, hj, hB, e1, e2, hp', EVs, ↓EVd, ↓reduceIte, zA, zB, zC, zD, zE, zF, reduceBEq, reduceCtorEq, zG, zH, zI, zJ, zK, dcells, okc]
  · rw [hlen]
    simp -dsimp only [lp70x0, Mc.d, Ins.d, EVs, ↓EVd, ↓reduceIte, zA, zB, zC, zD, zE, zF, reduceBEq, reduceCtorEq, zG, zH, zI, zJ, zK, dcells, okc]
theorem lp44o (C : Ctx) (N : Nat) (hN : maxLen + 10 < N) (hO : C.T 110 = some s_OpR) (m : Mc) (i : Ins) (ho : i.operands.length ≤ 1000) (hb : m.banks.length ≤ 1000) {σ : St} {J : Option (Ex × St)} (hJ : iter (ev C N lp70x1) (trim [2, 3, 6] 2) N σ = J)
    (h0 : trim [2, 3, 6] 2 σ = some ⟨[(2, .ptr 0 0), (3, .ptr 1 0), (6, .v (.int .i64 ((0 : Nat) : Int)))], [(1, .box i.d), (0, .box m.d)], 2⟩) :
    (opsR m i = true → J = some (.ex 2, ⟨[(34, .v (.bool false)), (33, .v (.int .i64 i.operands.length)), (32, .lst false (i.operands.map Opn.d)), (31, .ptr 1 3), (30, .v (.int .i64 i.operands.length)), (2, .ptr 0 0), (3, .ptr 1 0), (6, .v (.int .i64 i.operands.length))], [(1, .box i.d), (0, .box m.d)], 2⟩)) ∧ (opsR m i = false → ∃ σ', J = some (.rt, σ') ∧ lkf σ'.fr 4 = .v (.bool false)) := by
  have hml := maxLen_ge
  refine rloopJ (d := .v (.bool false)) (ret := 4) (e := 2) hJ i.operands (fun j => ⟨[(2, .ptr 0 0), (3, .ptr 1 0), (6, .v (.int .i64 j))], [(1, .box i.d), (0, .box m.d)], 2⟩) (fun k _ => opRk m i k) (by omega) hN h0 ?_ ?_ ?_
  · intro j x hj hjw hx hp
    have e1 := @e_OpR m i j ⟨(List.getElem?_eq_some_iff.1 hx).1, ho, hb⟩
    simp only [Mc.d, Ins.d] at e1
    simp -dsimp only [lp70x1, Mc.d, Ins.d, hj, hjw, hO, e1, hp, EVs, ↓EVd, ↓reduceIte, zA, zB, zC, zD, zE, zF, reduceBEq, reduceCtorEq, zG, zH, zI, zJ, zK, dcells, okc]
  · intro j x hj hx hp
    have e1 := @e_OpR m i j ⟨(List.getElem?_eq_some_iff.1 hx).1, ho, hb⟩
    simp only [Mc.d, Ins.d] at e1
    simp -dsimp only [EVq, lp70x1, Mc.d, Ins.d, hj, hO, e1, hp, EVs, ↓EVd, ↓reduceIte, zA, zB, zC, zD, zE, zF, reduceBEq, reduceCtorEq, zG, zH, zI, zJ, zK, dcells, okc]
  · simp -dsimp only [lp70x1, Mc.d, Ins.d, EVs, ↓EVd, ↓reduceIte, zA, zB, zC, zD, zE, zF, reduceBEq, reduceCtorEq, zG, zH, zI, zJ, zK, dcells, okc]
theorem knd_take {k : Int} {es : List Ef} {j : Nat} {e : Ef} (h : es[j]? = some e) : kndN k (es.take (j + 1)) = kndF k (kndN k (es.take j)) e := by
  obtain ⟨hj, rfl⟩ := List.getElem?_eq_some_iff.1 h
  rw [List.take_succ_eq_append_getElem hj, kndN, List.foldl_append]
  rfl
theorem lp44e (C : Ctx) (N : Nat) (hN : maxLen + 10 < N) (hE : C.T 112 = some s_EffR) (m : Mc) (i : Ins) (he : i.effects.length ≤ 1000) (hv : VarZ m i) (hz : ∀ e ∈ i.effects, TZ e.addr ∧ TZ e.value ∧ TZ e.cond) {σ : St} {J : Option (Ex × St)} (hJ : iter (ev C N lp70x2) (trim [2, 3, 7, 8, 9] 2) N σ = J)
    (h0 : trim [2, 3, 7, 8, 9] 2 σ = some ⟨[(2, .ptr 0 0), (3, .ptr 1 0), (7, .v (.int .i64 0)), (8, .v (.int .i64 0)), (9, .v (.int .i64 ((0 : Nat) : Int)))], [(1, .box i.d), (0, .box m.d)], 2⟩) :
    (i.effects.all (effR m i) = true → J = some (.ex 4, ⟨[(50, .v (.bool false)), (49, .v (.int .i64 i.effects.length)), (48, .lst false (i.effects.map Ef.d)), (47, .ptr 1 4), (46, .v (.int .i64 i.effects.length)), (2, .ptr 0 0), (3, .ptr 1 0), (7, .v (.int .i64 (kndN 3 i.effects))), (8, .v (.int .i64 (kndN 4 i.effects))), (9, .v (.int .i64 i.effects.length))], [(1, .box i.d), (0, .box m.d)], 2⟩)) ∧ (i.effects.all (effR m i) = false → ∃ σ', J = some (.rt, σ') ∧ lkf σ'.fr 4 = .v (.bool false)) := by
  have hml := maxLen_ge
  rw [← allI_all (p := effR m i) i.effects 0]
  refine rloopJ (d := .v (.bool false)) (ret := 4) (e := 4) hJ i.effects (fun j => ⟨[(2, .ptr 0 0), (3, .ptr 1 0), (7, .v (.int .i64 (kndN 3 (i.effects.take j)))), (8, .v (.int .i64 (kndN 4 (i.effects.take j)))), (9, .v (.int .i64 j))], [(1, .box i.d), (0, .box m.d)], 2⟩) (fun _ e => effR m i e) (by omega) hN h0 ?_ ?_ ?_
  · intro j e hj hjw hej hp
    have hm := List.mem_of_getElem? hej
    have e1 := @e_EffR m i e ⟨hv, (hz e hm).1, (hz e hm).2.1, (hz e hm).2.2⟩
    simp only [Mc.d, Ins.d, Ef.d, T.d_eq, List.cons_append, List.nil_append] at e1
    rw [knd_take hej, knd_take hej]
    unfold kndF
    cases g3 : decide (e.kind = 3)
    · have g3' : ¬ e.kind = 3 := by simpa using g3
      rw [if_neg g3']
      cases g4 : decide (e.kind = 4)
      · have g4' : ¬ e.kind = 4 := by simpa using g4
        rw [if_neg g4']
        simp -dsimp only [lp70x2, Mc.d, Ins.d, Ef.d, T.d_eq, hj, hjw, hej, hE, e1, hp, g3, g4, EVs, ↓EVd, ↓reduceIte, zA, zB, zC, zD, zE, zF, reduceBEq, reduceCtorEq, zG, zH, zI, zJ, zK, dcells, okc]
      · have g4' : e.kind = 4 := by simpa using g4
        rw [if_pos g4']
        simp -dsimp only [lp70x2, Mc.d, Ins.d, Ef.d, T.d_eq, hj, hjw, hej, hE, e1, hp, g3, g4, EVs, ↓EVd, ↓reduceIte, zA, zB, zC, zD, zE, zF, reduceBEq, reduceCtorEq, zG, zH, zI, zJ, zK, dcells, okc]
    · have g3' : e.kind = 3 := by simpa using g3
      have g4 : decide (e.kind = 4) = false := decide_eq_false (by omega)
      rw [if_pos g3', if_neg (by omega)]
      simp -dsimp only [lp70x2, Mc.d, Ins.d, Ef.d, T.d_eq, hj, hjw, hej, hE, e1, hp, g3, g4, EVs, ↓EVd, ↓reduceIte, zA, zB, zC, zD, zE, zF, reduceBEq, reduceCtorEq, zG, zH, zI, zJ, zK, dcells, okc]
  · intro j e hj hej hp
    have hm := List.mem_of_getElem? hej
    have e1 := @e_EffR m i e ⟨hv, (hz e hm).1, (hz e hm).2.1, (hz e hm).2.2⟩
    simp only [Mc.d, Ins.d, Ef.d, T.d_eq, List.cons_append, List.nil_append] at e1
    simp -dsimp only [EVq, lp70x2, Mc.d, Ins.d, Ef.d, T.d_eq, hj, hej, hE, e1, hp, EVs, ↓EVd, ↓reduceIte, zA, zB, zC, zD, zE, zF, reduceBEq, reduceCtorEq, zG, zH, zI, zJ, zK, dcells, okc]
  · rw [List.take_length]
    simp -dsimp only [lp70x2, Mc.d, Ins.d, EVs, ↓EVd, ↓reduceIte, zA, zB, zC, zD, zE, zF, reduceBEq, reduceCtorEq, zG, zH, zI, zJ, zK, dcells, okc]
def IZ (m : Mc) (i : Ins) : Prop := inB m.word 1 4 = true ∧ (0 ≤ i.mask ∧ i.mask < 18446744073709551616) ∧ (0 ≤ i.match_ ∧ i.match_ < 18446744073709551616) ∧ i.operands.length ≤ 1000 ∧ i.effects.length ≤ 1000 ∧ m.banks.length ≤ 1000 ∧ (∀ o ∈ i.operands, o.pieces.length ≤ 1000) ∧ (opsR m i = true → VarZ m i) ∧ ∀ e ∈ i.effects, TZ e.addr ∧ TZ e.value ∧ TZ e.cond
def x_InsR (a : Mc × Ins) : List D := match a with | (m, i) => [.agg m.d, .agg i.d]
theorem i_InsR : ∀ a b, x_InsR a = x_InsR b → a = b := by
  rintro ⟨m, i⟩ ⟨m', i'⟩ h
  first | simpa [x_InsR, INJ, and_assoc, Int.ofNat_inj] using h | (simp [x_InsR, INJ, and_assoc, Int.ofNat_inj] at h; simp_all)
open Classical in
noncomputable def s_InsR : List D → Option D := sOf x_InsR fun a => match a with | (m, i) => if (IZ m i) then some (.v (.bool (insR m i))) else none
theorem e_InsR {m : Mc} {i : Ins} (hc : (IZ m i)) : s_InsR [.agg m.d, .agg i.d] = some (.v (.bool (insR m i))) := (sOf_eq i_InsR (m, i)).trans (if_pos hc)
theorem R_InsR {C : Ctx} {F : IFun} (hspec : ∀ N, maxLen + 10 < N → ∀ (m : Mc) (i : Ins), lenOK.lenOKs [.agg m.d, .agg i.d] → (IZ m i) → runE C N F [.agg m.d, .agg i.d] = some (.v (.bool (insR m i)))) : Runs C F (s_InsR) := runs_of i_InsR fun N hN a r hl hf => by
  obtain ⟨m, i⟩ := a
  simp only [Option.ite_none_right_eq_some, Option.some.injEq] at hf
  obtain ⟨hc, rfl⟩ := hf
  exact hspec N hN m i hl hc
theorem r_okInstr (C : Ctx) (hBl : C.T 94 = some s_Below) (hB : C.T 95 = some s_BitS) (hO : C.T 110 = some s_OpR) (hA : C.T 111 = some s_ApR) (hE : C.T 112 = some s_EffR) (hW : C.T 66 = some s_in) : Runs C ir70 s_InsR := R_InsR fun N hN m i hl hc => by
  obtain ⟨hw, h1, h2, ho, he, hb, hp, hv, hz⟩ := hc
  have hw8 : 8 ≤ W8 m ∧ W8 m ≤ 32 := by
    simp only [inB, Bool.and_eq_true, decide_eq_true_eq] at hw
    simp only [W8]; rw [wr _ (by omega) (by omega)]; omega
  have hW8 : IntKind.i64.wrap (8 * m.word) = W8 m := rfl
  have eB := @e_Below i.mask (W8 m) ⟨h1.1, h1.2, by omega, by omega⟩
  unfold insR
  cases c1 : decide (i.mask < p2 (W8 m).toNat)
  · simp -dsimp only [runE, run_eq, ir70, Mc.d, Ins.d, hW8, hBl, eB, c1, EVs, ↓EVd, ↓reduceIte, zA, zB, zC, zD, zE, zF, reduceBEq, reduceCtorEq, zG, zH, zI, zJ, zK, dcells, okc]
  simp -dsimp only [runE, run_eq, ir70, Mc.d, Ins.d, hW8, hBl, eB, c1, EVs, ↓EVd, ↓reduceIte, zA, zB, zC, zD, zE, zF, reduceBEq, reduceCtorEq, zG, zH, zI, zJ, zK, dcells, okc]
  generalize hI : iter _ _ _ _ = I
  have k1 := lp44b C N hN hB m i h1 h2 hI (by simp -dsimp only [Mc.d, Ins.d, EVs, ↓EVd, ↓reduceIte, zA, zB, zC, zD, zE, zF, reduceBEq, reduceCtorEq, zG, zH, zI, zJ, zK, dcells, okc])
  cases c2 : bitsR i
  · obtain ⟨σ', rfl, q⟩ := k1.2 c2
    simp -dsimp only [q, EVs, ↓EVd, ↓reduceIte, zA, zB, zC, zD, zE, zF, reduceBEq, reduceCtorEq, zG, zH, zI, zJ, zK, dcells, okc]
  obtain rfl := k1.1 c2
  simp -dsimp only [Mc.d, Ins.d, EVs, ↓EVd, ↓reduceIte, zA, zB, zC, zD, zE, zF, reduceBEq, reduceCtorEq, zG, zH, zI, zJ, zK, dcells, okc]
  generalize hJ : iter _ _ _ _ = J
  have k2 := lp44o C N hN hO m i ho hb hJ (by simp -dsimp only [Mc.d, Ins.d, EVs, ↓EVd, ↓reduceIte, zA, zB, zC, zD, zE, zF, reduceBEq, reduceCtorEq, zG, zH, zI, zJ, zK, dcells, okc])
  cases c3 : opsR m i
  · obtain ⟨σ', rfl, q⟩ := k2.2 c3
    simp -dsimp only [q, EVs, ↓EVd, ↓reduceIte, zA, zB, zC, zD, zE, zF, reduceBEq, reduceCtorEq, zG, zH, zI, zJ, zK, dcells, okc]
  obtain rfl := k2.1 c3
  have eA := @e_ApR m i ⟨hw, h1.1, h1.2, ho, hp⟩
  simp only [Mc.d, Ins.d] at eA
  cases c4 : apR m i
  · simp -dsimp only [Mc.d, Ins.d, hA, eA, c4, EVs, ↓EVd, ↓reduceIte, zA, zB, zC, zD, zE, zF, reduceBEq, reduceCtorEq, zG, zH, zI, zJ, zK, dcells, okc]
  simp -dsimp only [Mc.d, Ins.d, hA, eA, c4, EVs, ↓EVd, ↓reduceIte, zA, zB, zC, zD, zE, zF, reduceBEq, reduceCtorEq, zG, zH, zI, zJ, zK, dcells, okc]
  generalize hL : iter _ _ _ _ = L
  have k3 := lp44e C N hN hE m i he (hv c3) hz hL (by simp -dsimp only [Mc.d, Ins.d, EVs, ↓EVd, ↓reduceIte, zA, zB, zC, zD, zE, zF, reduceBEq, reduceCtorEq, zG, zH, zI, zJ, zK, dcells, okc])
  cases c5 : i.effects.all (effR m i)
  · obtain ⟨σ', rfl, q⟩ := k3.2 c5
    simp -dsimp only [q, EVs, ↓EVd, ↓reduceIte, zA, zB, zC, zD, zE, zF, reduceBEq, reduceCtorEq, zG, zH, zI, zJ, zK, dcells, okc]
  obtain rfl := k3.1 c5
  have e1 := @e_in i.unit 0 (IntKind.i64.wrap ((m.units.length : Int) - 1))
  have e2 := @e_in i.busy 1 15
  have e3 := @e_in i.latency 1 15
  have e4 := @e_in i.slots 0 2
  unfold tailR
  cases d1 : decide (1 < kndN 3 i.effects)
  case true => simp -dsimp only [Mc.d, Ins.d, hW, e1, e2, e3, e4, d1, EVs, ↓EVd, ↓reduceIte, zA, zB, zC, zD, zE, zF, reduceBEq, reduceCtorEq, zG, zH, zI, zJ, zK, dcells, okc]
  cases d2 : decide (0 < kndN 4 i.effects)
  case false =>
    cases t1 : inB i.unit 0 (IntKind.i64.wrap ((m.units.length : Int) - 1))
    case false => simp -dsimp only [Mc.d, Ins.d, hW, e1, e2, e3, e4, d1, d2, t1, EVs, ↓EVd, ↓reduceIte, zA, zB, zC, zD, zE, zF, reduceBEq, reduceCtorEq, zG, zH, zI, zJ, zK, dcells, okc]
    cases t2 : inB i.busy 1 15
    case false => simp -dsimp only [Mc.d, Ins.d, hW, e1, e2, e3, e4, d1, d2, t1, t2, EVs, ↓EVd, ↓reduceIte, zA, zB, zC, zD, zE, zF, reduceBEq, reduceCtorEq, zG, zH, zI, zJ, zK, dcells, okc]
    cases t3 : inB i.latency 1 15
    case false => simp -dsimp only [Mc.d, Ins.d, hW, e1, e2, e3, e4, d1, d2, t1, t2, t3, EVs, ↓EVd, ↓reduceIte, zA, zB, zC, zD, zE, zF, reduceBEq, reduceCtorEq, zG, zH, zI, zJ, zK, dcells, okc]
    cases t4 : inB i.slots 0 2
    case false => simp -dsimp only [Mc.d, Ins.d, hW, e1, e2, e3, e4, d1, d2, t1, t2, t3, t4, EVs, ↓EVd, ↓reduceIte, zA, zB, zC, zD, zE, zF, reduceBEq, reduceCtorEq, zG, zH, zI, zJ, zK, dcells, okc]
    cases t5 : decide (i.slots = 0)
    case true => simp -dsimp only [Mc.d, Ins.d, hW, e1, e2, e3, e4, d1, d2, t1, t2, t3, t4, t5, EVs, ↓EVd, ↓reduceIte, zA, zB, zC, zD, zE, zF, reduceBEq, reduceCtorEq, zG, zH, zI, zJ, zK, dcells, okc]
    simp -dsimp only [Mc.d, Ins.d, hW, e1, e2, e3, e4, d1, d2, t1, t2, t3, t4, t5, EVs, ↓EVd, ↓reduceIte, zA, zB, zC, zD, zE, zF, reduceBEq, reduceCtorEq, zG, zH, zI, zJ, zK, dcells, okc]
  cases d3 : decide (1 < (i.effects.length : Int))
  case true => simp -dsimp only [Mc.d, Ins.d, hW, e1, e2, e3, e4, d1, d2, d3, EVs, ↓EVd, ↓reduceIte, zA, zB, zC, zD, zE, zF, reduceBEq, reduceCtorEq, zG, zH, zI, zJ, zK, dcells, okc]
  cases t1 : inB i.unit 0 (IntKind.i64.wrap ((m.units.length : Int) - 1))
  case false => simp -dsimp only [Mc.d, Ins.d, hW, e1, e2, e3, e4, d1, d2, d3, t1, EVs, ↓EVd, ↓reduceIte, zA, zB, zC, zD, zE, zF, reduceBEq, reduceCtorEq, zG, zH, zI, zJ, zK, dcells, okc]
  cases t2 : inB i.busy 1 15
  case false => simp -dsimp only [Mc.d, Ins.d, hW, e1, e2, e3, e4, d1, d2, d3, t1, t2, EVs, ↓EVd, ↓reduceIte, zA, zB, zC, zD, zE, zF, reduceBEq, reduceCtorEq, zG, zH, zI, zJ, zK, dcells, okc]
  cases t3 : inB i.latency 1 15
  case false => simp -dsimp only [Mc.d, Ins.d, hW, e1, e2, e3, e4, d1, d2, d3, t1, t2, t3, EVs, ↓EVd, ↓reduceIte, zA, zB, zC, zD, zE, zF, reduceBEq, reduceCtorEq, zG, zH, zI, zJ, zK, dcells, okc]
  cases t4 : inB i.slots 0 2
  case false => simp -dsimp only [Mc.d, Ins.d, hW, e1, e2, e3, e4, d1, d2, d3, t1, t2, t3, t4, EVs, ↓EVd, ↓reduceIte, zA, zB, zC, zD, zE, zF, reduceBEq, reduceCtorEq, zG, zH, zI, zJ, zK, dcells, okc]
  cases t5 : decide (i.slots = 0)
  case true => simp -dsimp only [Mc.d, Ins.d, hW, e1, e2, e3, e4, d1, d2, d3, t1, t2, t3, t4, t5, EVs, ↓EVd, ↓reduceIte, zA, zB, zC, zD, zE, zF, reduceBEq, reduceCtorEq, zG, zH, zI, zJ, zK, dcells, okc]
  simp -dsimp only [Mc.d, Ins.d, hW, e1, e2, e3, e4, d1, d2, d3, t1, t2, t3, t4, t5, EVs, ↓EVd, ↓reduceIte, zA, zB, zC, zD, zE, zF, reduceBEq, reduceCtorEq, zG, zH, zI, zJ, zK, dcells, okc]
end Go.Proofs.Dv
set_option linter.unusedVariables false
set_option linter.unusedSimpArgs false
set_option maxRecDepth 100000
namespace Go.Proofs.Dv
open Go.RowKit
open Nat renaming reduceEqDiff → zA, reduceAdd → zB, reduceSub → zC, reduceLeDiff → zD, reduceLT → zE, reduceMul → zF
open Int renaming reduceToNat → zG, reduceLE → zH, reduceLT → zI
open List renaming set_cons_zero → zJ, set_cons_succ → zK
theorem allI_get {X : Type} {p : Nat → X → Bool} : ∀ (l : List X) (k : Nat), allI p k l = true → ∀ (i : Nat) (x : X), l[i]? = some x → p (k + i) x = true
  | [], k, _, i, x, h => by simp at h
  | y :: l, k, h, i, x, hx => by
    simp only [allI, Bool.and_eq_true] at h
    cases i with
    | zero => simp at hx; subst hx; exact h.1
    | succ i =>
      have := allI_get l (k + 1) h.2 i x (by simpa using hx)
      rwa [show k + (i + 1) = k + 1 + i by omega]
theorem opKind_bank {m : Mc} {i : Ins} {k : Nat} {o : Opn} (h : opKind m i k o = true) (hk : o.kind = 1) : inB o.bank 0 (IntKind.i64.wrap ((m.banks.length : Int) - 1)) = true := by
  unfold opKind at h
  simp only [if_pos hk, Bool.and_eq_true] at h
  exact h.1.1
theorem banksR_regs {m : Mc} (hl : m.regs.length ≤ 1000000) (h : banksR m = true) : ∀ b ∈ m.banks, ∃ r g, b.regs[0]? = some r ∧ atI m.regs r = some g := by
  intro b hb
  obtain ⟨i, hi, rfl⟩ := List.mem_iff_getElem.1 hb
  have h1 := allI_get m.banks 0 h i _ (List.getElem?_eq_getElem hi)
  simp only [bkR, Bool.and_eq_true, Bool.not_eq_true', decide_eq_false_iff_not] at h1
  have hlen : 0 < m.banks[i].regs.length := by have := h1.1.2; omega
  have e : m.banks[i].regs[0]? = some (m.banks[i].regs[0]'hlen) := List.getElem?_eq_getElem hlen
  have h2 := allI_get _ 0 h1.2.2 0 _ e
  simp only [bkAt, Bool.and_eq_true] at h2
  obtain ⟨q1, g, q2⟩ := inB_get hl h2.1
  exact ⟨_, g, e, by unfold atI; rw [if_pos (by simpa using q1), q2]⟩
theorem regsR_names {m : Mc} (h : regsR m = true) : ∀ r ∈ m.regs, r.name.size ≤ 1000 := by
  intro r hr
  obtain ⟨i, hi, rfl⟩ := List.mem_iff_getElem.1 hr
  simp only [regsR, Bool.and_eq_true] at h
  have h1 := allI_get m.regs 0 h.1 i _ (List.getElem?_eq_getElem hi)
  simp only [rgAt, Bool.and_eq_true] at h1
  have := name_size h1.1.1
  omega
theorem varZ_of {m : Mc} {i : Ins} (h1 : m.regs.length ≤ 1000) (h2 : m.banks.length ≤ 1000) (h3 : i.operands.length ≤ 1000) (hr : regsR m = true) (hb : banksR m = true) (ho : opsR m i = true) : VarZ m i := by
  refine ⟨h1, h3, regsR_names hr, fun o hom => wide_of (by omega) (banksR_regs (by omega) hb) fun hk => ?_⟩
  obtain ⟨k, hk', rfl⟩ := List.mem_iff_getElem.1 hom
  have h4 := allI_get i.operands 0 ho k _ (List.getElem?_eq_getElem hk')
  simp only [Nat.zero_add, opRk, List.getElem?_eq_getElem hk', opR, Bool.and_eq_true] at h4
  exact opKind_bank h4.2.2 hk
def headR (m : Mc) : Bool := nameOK m.name && (inB m.word 1 4 && ((decide (m.address = 16) || decide (m.address = 32)) && (regsR m && (banksR m && unitsR m))))
def insAt (m : Mc) (j : Nat) (i : Ins) : Bool := (nameOK i.name && insR m i) && (m.instrs.take j).all (fun q => !decide (q.name = i.name))
def chkR (m : Mc) : Int := bif !smallOK m then 4 else bif headR m && allI (insAt m) 0 m.instrs then 0 else 8
def MZ (m : Mc) : Prop := ∀ i ∈ m.instrs, (0 ≤ i.mask ∧ i.mask < 18446744073709551616) ∧ (0 ≤ i.match_ ∧ i.match_ < 18446744073709551616) ∧ ∀ e ∈ i.effects, TZ e.addr ∧ TZ e.value ∧ TZ e.cond
theorem lp20n (C : Ctx) (N : Nat) (hN : maxLen + 10 < N) (m : Mc) (i : Nat) (s : Ins) (hil : i < m.instrs.length) (hl : m.instrs.length ≤ 1000) {σ : St} {J : Option (Ex × St)} (hJ : iter (ev C N lp15x0) (trim [1, 3, 4, 5] 2) N σ = J)
    (h0 : trim [1, 3, 4, 5] 2 σ = some ⟨[(1, .ptr 0 0), (3, .v (.int .i64 i)), (4, .ptr 1 0), (5, .v (.int .i64 ((0 : Nat) : Int)))], [(1, .box s.d), (0, .box m.d)], 2⟩) :
    ((m.instrs.take i).all (fun q => !decide (q.name = s.name)) = true → J = some (.ex 2, ⟨[(68, .v (.bool false)), (67, .v (.int .i64 i)), (66, .v (.int .i64 i)), (1, .ptr 0 0), (3, .v (.int .i64 i)), (4, .ptr 1 0), (5, .v (.int .i64 i))], [(1, .box s.d), (0, .box m.d)], 2⟩)) ∧
    ((m.instrs.take i).all (fun q => !decide (q.name = s.name)) = false → ∃ σ', J = some (.rt, σ') ∧ lkf σ'.fr 2 = .v (.int .i64 8)) := by
  have hml := maxLen_ge
  have htl : (m.instrs.take i).length = i := by rw [List.length_take]; omega
  have := rloopJ (e := 2) (ret := 2) (d := .v (.int .i64 8)) (σe := ⟨[(68, .v (.bool false)), (67, .v (.int .i64 i)), (66, .v (.int .i64 i)), (1, .ptr 0 0), (3, .v (.int .i64 i)), (4, .ptr 1 0), (5, .v (.int .i64 i))], [(1, .box s.d), (0, .box m.d)], 2⟩) hJ (m.instrs.take i) (fun j => ⟨[(1, .ptr 0 0), (3, .v (.int .i64 i)), (4, .ptr 1 0), (5, .v (.int .i64 j))], [(1, .box s.d), (0, .box m.d)], 2⟩) (fun _ q => !decide (q.name = s.name)) (by omega) hN h0 ?_ ?_ ?_
  · rw [allI_all] at this
    exact this
  · intro j q hj hjw hq hp
    have hq' := take_get hq
    rw [htl] at hj
    have hp' : decide (q.name = s.name) = false := by simpa using hp
    simp -dsimp only [lp15x0, hj, hjw, hq', hp', Mc.d, Ins.d, EVs, ↓EVd, ↓reduceIte, zA, zB, zC, zD, zE, zF, reduceBEq, reduceCtorEq, zG, zH, zI, zJ, zK, dcells, okc]
  · intro j q hj hq hp
    have hq' := take_get hq
    rw [htl] at hj
    have hp' : decide (q.name = s.name) = true := by simpa using hp
    simp -dsimp only [EVq, lp15x0, hj, hq', hp', Mc.d, Ins.d, EVs, ↓EVd, ↓reduceIte, zA, zB, zC, zD, zE, zF, reduceBEq, reduceCtorEq, zG, zH, zI, zJ, zK, dcells, okc]
  · simp -dsimp only [lp15x0, htl, Mc.d, Ins.d, EVs, ↓EVd, ↓reduceIte, zA, zB, zC, zD, zE, zF, reduceBEq, reduceCtorEq, zG, zH, zI, zJ, zK, dcells, okc]
def x_ChkR (a : Mc) : List D := match a with | m => [.agg m.d]
theorem i_ChkR : ∀ a b, x_ChkR a = x_ChkR b → a = b := by
  rintro m m' h
  first | simpa [x_ChkR, INJ, and_assoc, Int.ofNat_inj] using h | (simp [x_ChkR, INJ, and_assoc, Int.ofNat_inj] at h; simp_all)
open Classical in
noncomputable def s_ChkR : List D → Option D := sOf x_ChkR fun a => match a with | m => if (MZ m) then some (.v (.int .i64 (chkR m))) else none
theorem e_ChkR {m : Mc} (hc : (MZ m)) : s_ChkR [.agg m.d] = some (.v (.int .i64 (chkR m))) := (sOf_eq i_ChkR m).trans (if_pos hc)
theorem R_ChkR {C : Ctx} {F : IFun} (hspec : ∀ N, maxLen + 10 < N → ∀ (m : Mc), lenOK.lenOKs [.agg m.d] → (MZ m) → runE C N F [.agg m.d] = some (.v (.int .i64 (chkR m)))) : Runs C F (s_ChkR) := runs_of i_ChkR fun N hN m r hl hf => by
  simp only [Option.ite_none_right_eq_some, Option.some.injEq] at hf
  obtain ⟨hc, rfl⟩ := hf
  exact hspec N hN m hl hc
theorem r_Check8 (C : Ctx) (hS : C.T 64 = some s_SmallM) (hNm : C.T 65 = some s_Name) (hW : C.T 66 = some s_in) (hR : C.T 67 = some s_RegsR) (hB : C.T 68 = some s_BanksR) (hU : C.T 69 = some s_UnitsR) (hIn : C.T 70 = some s_InsR) : Runs C ir15 s_ChkR := R_ChkR fun N hN m hl hc => by
  have hml := maxLen_ge
  have eS := @e_SmallM m
  simp only [Mc.d] at eS
  cases hsm : smallOK m
  · simp -dsimp only [runE, run_eq, ir15, Mc.d, hS, eS, hsm, chkR, EVs, ↓EVd, ↓reduceIte, zA, zB, zC, zD, zE, zF, reduceBEq, reduceCtorEq, zG, zH, zI, zJ, zK, dcells, okc]
  have hsz := hsm
  simp only [smallOK, Bool.and_eq_true, List.all_eq_true] at hsz
  obtain ⟨⟨⟨⟨z1, z2⟩, z3⟩, z4⟩, z5, z6⟩ := hsz
  have z1 := fewB_le z1
  have z2 := fewB_le z2
  have z3 := fewB_le z3
  have z4 := fewB_le z4
  have zb : ∀ b ∈ m.banks, b.regs.length ≤ 1000 := fun b hb => by have := fewB_le (z5 b hb); omega
  have e1 := @e_Name m.name
  have e2 := @e_in m.word 1 4
  have e3 := @e_RegsR m (by omega)
  have e4 := @e_BanksR m ⟨by omega, by omega, zb⟩
  have e5 := @e_UnitsR m (by omega)
  simp only [Mc.d] at e3 e4 e5
  cases c1 : nameOK m.name
  · simp -dsimp only [runE, run_eq, ir15, Mc.d, hS, eS, hsm, hNm, e1, c1, chkR, headR, EVs, ↓EVd, ↓reduceIte, zA, zB, zC, zD, zE, zF, reduceBEq, reduceCtorEq, zG, zH, zI, zJ, zK, dcells, okc]
  cases c2 : inB m.word 1 4
  · simp -dsimp only [runE, run_eq, ir15, Mc.d, hS, eS, hsm, hNm, e1, c1, hW, e2, c2, chkR, headR, EVs, ↓EVd, ↓reduceIte, zA, zB, zC, zD, zE, zF, reduceBEq, reduceCtorEq, zG, zH, zI, zJ, zK, dcells, okc]
  have iz : regsR m = true → banksR m = true → ∀ i ∈ m.instrs, IZ m i := by
    intro c5 c6 i hi
    have hs := z6 i hi
    simp only [smI, Bool.and_eq_true, List.all_eq_true] at hs
    obtain ⟨⟨a1, a2⟩, a3⟩ := hs
    have a1 := fewB_le a1
    have a2 := fewB_le a2
    obtain ⟨y1, y2, y3⟩ := hc i hi
    exact ⟨c2, y1, y2, by omega, by omega, by omega, fun o ho => by have := fewB_le (a3 o ho); omega, fun h => varZ_of (by omega) (by omega) (by omega) c5 c6 h, y3⟩
  have body : regsR m = true → banksR m = true → ∀ (j : Nat) (i : Ins), decide ((j : Int) < (m.instrs.length : Int)) = true → IntKind.i64.wrap ((j : Int) + 1) = ((j + 1 : Nat) : Int) → m.instrs[j]? = some i →
      (insAt m j i = true → stepE (trim [1, 3] 1) (ev C N lp15x1 ⟨[(1, .ptr 0 0), (3, .v (.int .i64 j))], [(0, .box m.d)], 1⟩) = some ⟨[(1, .ptr 0 0), (3, .v (.int .i64 ((j + 1 : Nat) : Int)))], [(0, .box m.d)], 1⟩) ∧
      (insAt m j i = false → rtV 2 (ev C N lp15x1 ⟨[(1, .ptr 0 0), (3, .v (.int .i64 j))], [(0, .box m.d)], 1⟩) = some (.v (.int .i64 8))) := by
    intro c5 c6 j i hj hw hi
    have hil : j < m.instrs.length := (List.getElem?_eq_some_iff.1 hi).1
    have n1 := @e_Name i.name
    have n2 := @e_InsR m i (iz c5 c6 i (List.mem_of_getElem? hi))
    simp only [Mc.d, Ins.d] at n2
    cases d1 : nameOK i.name
    · refine ⟨fun h => by simp [insAt, d1] at h, fun _ => ?_⟩
      simp -dsimp only [EVq, lp15x1, Mc.d, Ins.d, hj, hi, hNm, n1, d1, EVs, ↓EVd, ↓reduceIte, zA, zB, zC, zD, zE, zF, reduceBEq, reduceCtorEq, zG, zH, zI, zJ, zK, dcells, okc]
    cases d2 : insR m i
    · refine ⟨fun h => by simp [insAt, d2] at h, fun _ => ?_⟩
      simp -dsimp only [EVq, lp15x1, Mc.d, Ins.d, hj, hi, hNm, n1, d1, hIn, n2, d2, EVs, ↓EVd, ↓reduceIte, zA, zB, zC, zD, zE, zF, reduceBEq, reduceCtorEq, zG, zH, zI, zJ, zK, dcells, okc]
    cases d3 : (m.instrs.take j).all (fun q => !decide (q.name = i.name))
    · refine ⟨fun h => by simp [insAt, d3] at h, fun _ => ?_⟩
      simp -dsimp only [EVq, lp15x1, Mc.d, Ins.d, hj, hi, hNm, n1, d1, hIn, n2, d2, EVs, ↓EVd, ↓reduceIte, zA, zB, zC, zD, zE, zF, reduceBEq, reduceCtorEq, zG, zH, zI, zJ, zK, dcells, okc]
      generalize hL : iter _ _ _ _ = L
      obtain ⟨σ', rfl, h2⟩ := (lp20n C N hN m j i hil (by omega) hL (by simp -dsimp only [Mc.d, Ins.d, EVs, ↓EVd, ↓reduceIte, zA, zB, zC, zD, zE, zF, reduceBEq, reduceCtorEq, zG, zH, zI, zJ, zK, dcells, okc])).2 d3
      simp -dsimp only [EVq, h2, EVs, ↓EVd, ↓reduceIte, zA, zB, zC, zD, zE, zF, reduceBEq, reduceCtorEq, zG, zH, zI, zJ, zK, dcells, okc]
    · refine ⟨fun _ => ?_, fun h => by simp [insAt, d1, d2, d3] at h⟩
      simp -dsimp only [EVq, lp15x1, Mc.d, Ins.d, hj, hi, hNm, n1, d1, hIn, n2, d2, EVs, ↓EVd, ↓reduceIte, zA, zB, zC, zD, zE, zF, reduceBEq, reduceCtorEq, zG, zH, zI, zJ, zK, dcells, okc]
      generalize hL : iter _ _ _ _ = L
      obtain rfl := (lp20n C N hN m j i hil (by omega) hL (by simp -dsimp only [Mc.d, Ins.d, EVs, ↓EVd, ↓reduceIte, zA, zB, zC, zD, zE, zF, reduceBEq, reduceCtorEq, zG, zH, zI, zJ, zK, dcells, okc])).1 d3
      simp -dsimp only [EVq, Mc.d, Ins.d, hw, EVs, ↓EVd, ↓reduceIte, zA, zB, zC, zD, zE, zF, reduceBEq, reduceCtorEq, zG, zH, zI, zJ, zK, dcells, okc]
  cases c3 : decide (m.address = 16) <;> cases c4 : decide (m.address = 32)
  case false.false => simp -dsimp only [runE, run_eq, ir15, Mc.d, hS, eS, hsm, hNm, e1, c1, hW, e2, c2, c3, c4, chkR, headR, EVs, ↓EVd, ↓reduceIte, zA, zB, zC, zD, zE, zF, reduceBEq, reduceCtorEq, zG, zH, zI, zJ, zK, dcells, okc]
  case true.true => simp at c3 c4; omega
  all_goals
    cases c5 : regsR m
    case false => simp -dsimp only [runE, run_eq, ir15, Mc.d, hS, eS, hsm, hNm, e1, c1, hW, e2, c2, c3, c4, hR, e3, c5, chkR, headR, EVs, ↓EVd, ↓reduceIte, zA, zB, zC, zD, zE, zF, reduceBEq, reduceCtorEq, zG, zH, zI, zJ, zK, dcells, okc]
    cases c6 : banksR m
    case false => simp -dsimp only [runE, run_eq, ir15, Mc.d, hS, eS, hsm, hNm, e1, c1, hW, e2, c2, c3, c4, hR, e3, c5, hB, e4, c6, chkR, headR, EVs, ↓EVd, ↓reduceIte, zA, zB, zC, zD, zE, zF, reduceBEq, reduceCtorEq, zG, zH, zI, zJ, zK, dcells, okc]
    cases c7 : unitsR m
    case false => simp -dsimp only [runE, run_eq, ir15, Mc.d, hS, eS, hsm, hNm, e1, c1, hW, e2, c2, c3, c4, hR, e3, c5, hB, e4, c6, hU, e5, c7, chkR, headR, EVs, ↓EVd, ↓reduceIte, zA, zB, zC, zD, zE, zF, reduceBEq, reduceCtorEq, zG, zH, zI, zJ, zK, dcells, okc]
    have hhd : headR m = true := by simp only [headR, c1, c2, c3, c4, c5, c6, c7]; rfl
    simp -dsimp only [runE, run_eq, ir15, Mc.d, hS, eS, hsm, hNm, e1, c1, hW, e2, c2, c3, c4, hR, e3, c5, hB, e4, c6, hU, e5, c7, EVs, ↓EVd, ↓reduceIte, zA, zB, zC, zD, zE, zF, reduceBEq, reduceCtorEq, zG, zH, zI, zJ, zK, dcells, okc]
    generalize hI : iter _ _ _ _ = I
    have key := rloopJ (d := .v (.int .i64 8)) (ret := 2) (e := 0) hI m.instrs (fun i => ⟨[(1, .ptr 0 0), (3, .v (.int .i64 i))], [(0, .box m.d)], 1⟩) (insAt m) (σe := ⟨[(48, .v (.bool false)), (47, .v (.int .i64 m.instrs.length)), (46, .lst false (m.instrs.map Ins.d)), (45, .ptr 0 6), (44, .v (.int .i64 m.instrs.length)), (1, .ptr 0 0), (3, .v (.int .i64 m.instrs.length))], [(0, .box m.d)], 1⟩) (by omega) hN (by simp -dsimp only [Mc.d, EVs, ↓EVd, ↓reduceIte, zA, zB, zC, zD, zE, zF, reduceBEq, reduceCtorEq, zG, zH, zI, zJ, zK, dcells, okc]) (fun i r hi hw hr hp => (body c5 c6 i r hi hw hr).1 hp) (fun i r hi hr hp => (body c5 c6 i r hi (wrap_succ (List.getElem?_eq_some_iff.1 hr).1 (by omega)) hr).2 hp) (by simp -dsimp only [lp15x1, Mc.d, EVs, ↓EVd, ↓reduceIte, zA, zB, zC, zD, zE, zF, reduceBEq, reduceCtorEq, zG, zH, zI, zJ, zK, dcells, okc])
    cases ha : allI (insAt m) 0 m.instrs
    · obtain ⟨σ', rfl, k2⟩ := key.2 ha
      simp -dsimp only [k2, chkR, hsm, hhd, ha, EVs, ↓EVd, ↓reduceIte, zA, zB, zC, zD, zE, zF, reduceBEq, reduceCtorEq, zG, zH, zI, zJ, zK, dcells, okc]
    · obtain rfl := key.1 ha
      simp -dsimp only [Mc.d, chkR, hsm, hhd, ha, EVs, ↓EVd, ↓reduceIte, zA, zB, zC, zD, zE, zF, reduceBEq, reduceCtorEq, zG, zH, zI, zJ, zK, dcells, okc]
end Go.Proofs.Dv
set_option linter.unusedVariables false
set_option linter.unusedSimpArgs false
namespace Go.Proofs.Dv
theorem has_map {α β : Type} [DecidableEq β] (f : α → β) (x : β) : ∀ l : List α, (!has x (l.map f)) = l.all fun q => !decide (f q = x)
  | [] => rfl
  | y :: l => by
    have ih := has_map f x l
    simp only [has, List.map_cons, List.any_cons, List.all_cons, Bool.not_or] at ih ⊢
    rw [ih]
    congr 2
    exact decide_eq_decide.2 eq_comm
theorem has_all {β : Type} [DecidableEq β] (x : β) (l : List β) : (!has x l) = l.all fun q => !decide (q = x) := by
  have := has_map id x l
  simpa using this
theorem fold_names {α : Type} (nm : α → ByteArray) (P : List ByteArray → α → Bool) (l : List α) : ∀ (xs pre : List α) (ok : Bool), l = pre ++ xs →
    (xs.foldl (fun (a : Bool × List ByteArray) x => (a.1 && P a.2 x, a.2 ++ [nm x])) (ok, pre.map nm)).1 = (ok && allI (fun i x => P ((l.take i).map nm) x) pre.length xs)
  | [], pre, ok, h => by simp [allI]
  | x :: xs, pre, ok, h => by
    have ih := fold_names nm P l xs (pre ++ [x]) (ok && P (pre.map nm) x) (by rw [h]; simp)
    simp only [List.foldl_cons, allI]
    rw [List.map_append, List.map_singleton] at ih
    rw [ih, List.length_append, List.length_singleton, h, List.take_left', Bool.and_assoc]
    rfl
theorem fold_idx {α : Type} (q : Nat → α → Bool) : ∀ (xs : List α) (n : Nat) (ok : Bool), (xs.foldl (fun (a : Nat × Bool) x => (a.1 + 1, a.2 && q a.1 x)) (n, ok)).2 = (ok && allI q n xs)
  | [], n, ok => by simp [allI]
  | x :: xs, n, ok => by rw [List.foldl_cons, fold_idx q xs, allI, Bool.and_assoc]
theorem allI_congr {X : Type} {p q : Nat → X → Bool} : ∀ (l : List X) (k : Nat), (∀ j x, l[j]? = some x → p (k + j) x = q (k + j) x) → allI p k l = allI q k l
  | [], _, _ => rfl
  | x :: l, k, h => by
    have h0 := h 0 x rfl
    rw [allI, allI, show p k x = q k x from h0, allI_congr l (k + 1) fun j y hy => ?_]
    have := h (j + 1) y (by simpa using hy)
    rwa [show k + 1 + j = k + (j + 1) by omega]
theorem regs_eq (m : Mc) : regsOK m = regsR m := by
  unfold regsOK regsR
  have := fold_names Rg.name (fun ns r => freshB ns r.name && inB r.width 1 64 && regRest m r) m.regs m.regs [] true rfl
  simp only [List.map_nil, List.length_nil, Bool.true_and] at this
  rw [show regF m = (fun (a : Bool × List ByteArray) r => (a.1 && (freshB a.2 r.name && inB r.width 1 64 && regRest m r), a.2 ++ [Rg.name r])) from rfl, this, Bool.and_comm]
  congr 1
  refine allI_congr _ _ (fun i r _ => ?_)
  simp only [rgAt, freshB, has_map]
  cases nameOK r.name <;> cases inB r.width 1 64 <;> cases regRest m r <;> simp
theorem units_eq (m : Mc) : unitsOK m = unitsR m := by
  unfold unitsOK unitsR
  have := fold_names Un.name (fun ns u => unitOK ns u) m.units m.units [] true rfl
  simp only [List.map_nil, List.length_nil, Bool.true_and] at this
  rw [show unitF = (fun (a : Bool × List ByteArray) u => (a.1 && unitOK a.2 u, a.2 ++ [Un.name u])) from rfl, this, Bool.and_comm]
  congr 1
  refine allI_congr _ _ (fun i r _ => ?_)
  simp only [unAt, unitOK, freshB, has_map]
  cases nameOK r.name <;> cases inB r.count 1 4 <;> simp
theorem bank_eq (m : Mc) (b : Bk) (x : Bool) : (b.regs.foldl (bankRF m b) (0, x)).2 = (x && allI (bkAt m b) 0 b.regs) := by
  have e : bankRF m b = fun (a : Nat × Bool) r => (a.1 + 1, a.2 && bkAt m b a.1 r) := by
    funext a r
    simp only [bankRF, bkAt, has_all, Bool.and_assoc]
  rw [e]
  exact fold_idx _ _ _ _
theorem banks_eq (m : Mc) : banksOK m = banksR m := by
  unfold banksOK banksR
  have := fold_names Bk.name (fun ns b => (freshB ns b.name && decide (0 < (b.regs.length : Int))) && allI (bkAt m b) 0 b.regs) m.banks m.banks [] true rfl
  simp only [List.map_nil, List.length_nil, Bool.true_and] at this
  rw [show bankF m = (fun (a : Bool × List ByteArray) b => (a.1 && ((freshB a.2 b.name && decide (0 < (b.regs.length : Int))) && allI (bkAt m b) 0 b.regs), a.2 ++ [Bk.name b])) from ?_, this]
  · refine allI_congr _ _ (fun i b _ => ?_)
    simp only [bkR, freshB, has_map, gt0]
    cases nameOK b.name <;> cases decide ((b.regs.length : Int) = 0) <;> simp
  · funext a b
    simp only [bankF, bank_eq, Bool.and_assoc]
end Go.Proofs.Dv
set_option linter.unusedVariables false
set_option linter.unusedSimpArgs false
namespace Go.Proofs.Dv
open Go.RowKit
open Nat renaming reduceEqDiff → zA, reduceAdd → zB, reduceSub → zC, reduceLeDiff → zD, reduceLT → zE, reduceMul → zF
open Int renaming reduceToNat → zG, reduceLE → zH, reduceLT → zI
open List renaming set_cons_zero → zJ, set_cons_succ → zK
theorem bv_nat (a : Nat) : BitVec.ofInt 64 (a : Int) = BitVec.ofNat 64 a := BitVec.ofInt_natCast ..
theorem uand_nat {a b : Nat} (ha : a < 2 ^ 64) (hb : b < 2 ^ 64) : uand (a : Int) (b : Int) = ((a &&& b : Nat) : Int) := by
  have hlt : a &&& b < 2 ^ 64 := Nat.and_lt_two_pow a hb
  unfold uand
  show IntKind.u64.wrap ((BitVec.ofInt 64 (a : Int) &&& BitVec.ofInt 64 (b : Int)).toNat : Int) = _
  rw [bv_nat, bv_nat, BitVec.toNat_and, BitVec.toNat_ofNat, BitVec.toNat_ofNat, Nat.mod_eq_of_lt ha, Nat.mod_eq_of_lt hb]
  exact wu _ (by omega) (by omega)
theorem uor_nat {a b : Nat} (ha : a < 2 ^ 64) (hb : b < 2 ^ 64) : uor (a : Int) (b : Int) = ((a ||| b : Nat) : Int) := by
  have hlt : a ||| b < 2 ^ 64 := Nat.or_lt_two_pow ha hb
  unfold uor
  show IntKind.u64.wrap ((BitVec.ofInt 64 (a : Int) ||| BitVec.ofInt 64 (b : Int)).toNat : Int) = _
  rw [bv_nat, bv_nat, BitVec.toNat_or, BitVec.toNat_ofNat, BitVec.toNat_ofNat, Nat.mod_eq_of_lt ha, Nat.mod_eq_of_lt hb]
  exact wu _ (by omega) (by omega)
theorem bit_lt {a i n : Nat} (ha : a < 2 ^ n) (h : a.testBit i = true) : i < n := by
  rcases Nat.lt_or_ge i n with h' | h'
  · exact h'
  · have := Nat.testBit_lt_two_pow (Nat.lt_of_lt_of_le ha (Nat.pow_le_pow_right (by omega) h'))
    rw [this] at h; simp at h
theorem uandn_zero {a b : Nat} (ha : a < 2 ^ 64) : uandn (a : Int) (b : Int) = 0 ↔ ∀ i, i < 64 → a.testBit i = true → b.testBit i = true := by
  have e : uandn (a : Int) (b : Int) = (((BitVec.ofNat 64 a &&& ~~~ BitVec.ofNat 64 b).toNat : Nat) : Int) := by
    unfold uandn
    show IntKind.u64.wrap ((BitVec.ofInt 64 (a : Int) &&& ~~~ BitVec.ofInt 64 (b : Int)).toNat : Int) = _
    rw [bv_nat, bv_nat]
    exact wu _ (Int.natCast_nonneg _) (by have := (BitVec.ofNat 64 a &&& ~~~ BitVec.ofNat 64 b).isLt; omega)
  rw [e]
  constructor
  · intro h i hi64 hi
    have h0 : (BitVec.ofNat 64 a &&& ~~~ BitVec.ofNat 64 b) = 0#64 := BitVec.eq_of_toNat_eq (by simpa using Int.ofNat_eq_zero.1 h)
    have := congrArg (fun v => v.getLsbD i) h0
    simp only [BitVec.getLsbD_and, BitVec.getLsbD_not, BitVec.getLsbD_ofNat, hi64, hi, decide_true, Bool.true_and, BitVec.getLsbD_zero, Nat.zero_testBit, Bool.not_eq_false'] at this
    exact this
  · intro h
    have h0 : (BitVec.ofNat 64 a &&& ~~~ BitVec.ofNat 64 b) = 0#64 := by
      apply BitVec.eq_of_getLsbD_eq
      intro i hi
      simp only [BitVec.getLsbD_and, BitVec.getLsbD_not, BitVec.getLsbD_ofNat, hi, decide_true, Bool.true_and, BitVec.getLsbD_zero, Nat.zero_testBit]
      have := h i hi
      cases ha : a.testBit i with
      | false => rfl
      | true => rw [this ha]; rfl
    rw [h0]; rfl
def TB (T : Nat) (c : Nat → Nat) : Prop := T < 2 ^ 64 ∧ ∀ b, c b ≤ 1 ∧ T.testBit b = decide (c b = 1)
theorem step_bits {T n : Nat} {c d : Nat → Nat} (hT : TB T c) (hn : TB n d) : (uand (T : Int) (n : Int) = 0 ↔ ∀ b, c b + d b ≤ 1) ∧ ((∀ b, c b + d b ≤ 1) → ∃ T' : Nat, uor (T : Int) (n : Int) = (T' : Int) ∧ TB T' fun b => c b + d b) := by
  refine ⟨?_, fun h => ⟨T ||| n, uor_nat hT.1 hn.1, Nat.or_lt_two_pow hT.1 hn.1, fun b => ⟨h b, ?_⟩⟩⟩
  · rw [uand_nat hT.1 hn.1]
    constructor
    · intro h b
      have h0 : T &&& n = 0 := Int.ofNat_eq_zero.1 h
      have := congrArg (fun x : Nat => x.testBit b) h0
      simp only [Nat.testBit_and, (hT.2 b).2, (hn.2 b).2, Nat.zero_testBit, Bool.and_eq_false_iff, decide_eq_false_iff_not] at this
      have h1 := (hT.2 b).1
      have h2 := (hn.2 b).1
      omega
    · intro h
      have h0 : T &&& n = 0 := by
        apply Nat.eq_of_testBit_eq
        intro b
        simp only [Nat.testBit_and, (hT.2 b).2, (hn.2 b).2, Nat.zero_testBit, Bool.and_eq_false_iff, decide_eq_false_iff_not]
        have := h b
        omega
      rw [h0]; rfl
  · rw [Nat.testBit_or, (hT.2 b).2, (hn.2 b).2, ← Bool.decide_or]
    have := h b
    refine decide_eq_decide.2 ?_
    show c b = 1 ∨ d b = 1 ↔ c b + d b = 1
    omega
def pin (b : Nat) (p : Pc) : Bool := inB (b : Int) p.at_ (p.at_ + p.len - 1)
def PO (W : Int) (p : Pc) : Prop := 1 ≤ p.len ∧ p.len ≤ W ∧ 0 ≤ p.at_ ∧ p.at_ ≤ W - p.len
theorem pcOK_iff {m : Mc} (hW : W8 m ≤ 32) {p : Pc} : pcOK m p = true ↔ PO (W8 m) p := by
  unfold pcOK PO
  simp only [Bool.and_eq_true, inB_iff, decide_eq_true_eq]
  constructor
  · rintro ⟨⟨h1, h2⟩, h3, h4⟩
    rw [wr] at h4 <;> omega
  · rintro ⟨h1, h2, h3, h4⟩
    rw [wr] <;> omega
theorem pcM_bits {W : Int} (hW : W ≤ 32) {p : Pc} (h : PO W p) : ∃ n : Nat, pcM p = (n : Int) ∧ TB n fun b => (pin b p).toNat := by
  obtain ⟨h1, h2, h3, h4⟩ := h
  obtain ⟨L, hL⟩ : ∃ L : Nat, p.len = L := ⟨p.len.toNat, by omega⟩
  obtain ⟨A, hA⟩ : ∃ A : Nat, p.at_ = A := ⟨p.at_.toNat, by omega⟩
  have hlt : (2 ^ L - 1) * 2 ^ A < 2 ^ 64 := by
    have a1 : (2 ^ L - 1) * 2 ^ A ≤ 2 ^ L * 2 ^ A := Nat.mul_le_mul_right _ (Nat.sub_le _ _)
    rw [← Nat.pow_add] at a1
    have a2 : 2 ^ (L + A) ≤ 2 ^ 32 := Nat.pow_le_pow_right (by omega) (by omega)
    have a3 : 2 ^ 32 < 2 ^ 64 := by decide
    omega
  have hc : ((2 : Int) ^ L - 1) = ((2 ^ L - 1 : Nat) : Int) := by
    have := Nat.one_le_two_pow (n := L)
    rw [Int.natCast_sub this, Int.natCast_pow]; rfl
  refine ⟨(2 ^ L - 1) * 2 ^ A, ?_, hlt, fun b => ⟨Bool.toNat_le _, ?_⟩⟩
  · have e1 : min A 64 = A := by omega
    unfold pcM ushl mskI
    rw [if_pos (inB_iff.2 (by omega)), hL, hA, Int.toNat_natCast, Int.toNat_natCast]
    show IntKind.u64.wrap ((2 ^ L - 1) * 2 ^ min A 64) = _
    rw [e1, hc, show ((2 : Int) ^ A) = ((2 ^ A : Nat) : Int) by rw [Int.natCast_pow]; rfl, ← Int.natCast_mul]
    exact wu _ (Int.natCast_nonneg _) (by omega)
  · rw [← Nat.shiftLeft_eq, Nat.testBit_shiftLeft, Nat.testBit_two_pow_sub_one]
    have : pin b p = decide (A ≤ b ∧ b < A + L) := by
      unfold pin inB
      rw [hL, hA, ← Bool.decide_and]
      exact decide_eq_decide.2 (by omega)
    show (decide (b ≥ A) && decide (b - A < L)) = decide ((pin b p).toNat = 1)
    rw [this]
    by_cases h5 : A ≤ b ∧ b < A + L
    · rw [decide_eq_true h5, decide_eq_true h5.1, decide_eq_true (show b - A < L by omega)]; rfl
    · rw [decide_eq_false h5, Bool.eq_iff_iff]
      simp only [Bool.and_eq_true, decide_eq_true_eq, Bool.toNat_false]
      omega
def pcn (b : Nat) (ps : List Pc) : Nat := (ps.map fun p => (pin b p).toNat).sum
theorem pcn_cons {b : Nat} {p : Pc} {ps : List Pc} : pcn b (p :: ps) = (pin b p).toNat + pcn b ps := by simp [pcn]
theorem scan_f {m : Mc} {X : Int} {a : Bool × Int} : ∀ {ps : List Pc}, scan (β := Unit) (tst (pcT m) pcU fun _ _ => ()) (false, X) ps = .go a → a.1 = false
  | [], h => by simp only [scan, Sc.go.injEq] at h; rw [← h]
  | p :: ps, h => by simp [scan, tst, pcT] at h
theorem scan_pcs (m : Mc) (hW : W8 m ≤ 32) : ∀ (ps : List Pc) (T : Nat) (c : Nat → Nat), TB T c →
    ((∀ p ∈ ps, pcOK m p = true) ∧ (∀ b, c b + pcn b ps ≤ 1) → ∃ T' : Nat, scan (β := Unit) (tst (pcT m) pcU fun _ _ => ()) (true, (T : Int)) ps = .go (true, (T' : Int)) ∧ TB T' fun b => c b + pcn b ps) ∧
    (∀ a, scan (β := Unit) (tst (pcT m) pcU fun _ _ => ()) (true, (T : Int)) ps = .go a → a.1 = true → (∀ p ∈ ps, pcOK m p = true) ∧ (∀ b, c b + pcn b ps ≤ 1))
  | [], T, c, hT => ⟨fun _ => ⟨T, rfl, hT⟩, fun a _ _ => ⟨fun p hp => by simp at hp, fun b => (hT.2 b).1⟩⟩
  | p :: ps, T, c, hT => by
    cases hp : pcOK m p with
    | false =>
      refine ⟨fun h => ?_, fun a h => ?_⟩
      · have := h.1 p List.mem_cons_self
        rw [hp] at this; simp at this
      · simp [scan, tst, pcT, hp] at h
    | true =>
      obtain ⟨n, hn, hb⟩ := pcM_bits hW ((pcOK_iff hW).1 hp)
      obtain ⟨s1, s2⟩ := step_bits hT hb
      have e : scan (β := Unit) (tst (pcT m) pcU fun _ _ => ()) (true, (T : Int)) (p :: ps) = scan (tst (pcT m) pcU fun _ _ => ()) (decide (uand (T : Int) (n : Int) = 0), uor (T : Int) (n : Int)) ps := by
        simp only [scan, tst, pcT, hp, Bool.and_self, if_true, pcU, hn]
      rw [e]
      by_cases hd : ∀ b, c b + (pin b p).toNat ≤ 1
      · obtain ⟨T', hT', hTB⟩ := s2 hd
        rw [decide_eq_true (s1.2 hd), hT']
        obtain ⟨i1, i2⟩ := scan_pcs m hW ps T' _ hTB
        simp only [pcn_cons, ← Nat.add_assoc]
        refine ⟨fun h => i1 ⟨fun q hq => h.1 q (List.mem_cons_of_mem _ hq), h.2⟩, fun a h ha => ?_⟩
        obtain ⟨j1, j2⟩ := i2 a h ha
        exact ⟨fun q hq => by rcases List.mem_cons.1 hq with rfl | hq; exact hp; exact j1 q hq, j2⟩
      · rw [decide_eq_false (fun h => hd (s1.1 h))]
        refine ⟨fun h => ?_, fun a h ha => ?_⟩
        · exact (hd fun b => by have := h.2 b; rw [pcn_cons] at this; omega).elim
        · rw [scan_f h] at ha; simp at ha
theorem opTail_f {m : Mc} {i : Ins} {k : Nat} {o : Opn} {T : Int} : (opTail m i k o (false, T)).1 = false := by
  cases h : (opTail m i k o (false, T)).1 with
  | false => rfl
  | true => exact absurd (opTail_ok h).1 (by simp)
theorem opTail_t {m : Mc} {i : Ins} {k : Nat} {o : Opn} {T : Int} : (opTail m i k o (true, T)).1 = opKind m i k o ∧ ((opTail m i k o (true, T)).1 = true → (opTail m i k o (true, T)).2 = T) := by
  have hpow : ∀ (f n : Int), (decide (0 < f) && (decide (6 < f) || decide (n ≤ IntKind.i64.wrap (1 * 2 ^ (min f.toNat IntKind.i64.bits))))) = (decide (0 < f) && (decide (6 < f) || decide (n ≤ p2 f.toNat))) := by
    intro f n
    by_cases h : 0 < f ∧ ¬ 6 < f
    · have : f = 1 ∨ f = 2 ∨ f = 3 ∨ f = 4 ∨ f = 5 ∨ f = 6 := by omega
      rcases this with rfl | rfl | rfl | rfl | rfl | rfl <;> rfl
    · by_cases h1 : 0 < f
      · have h2 : 6 < f := by omega
        simp [h1, h2]
      · simp [h1]
  unfold opTail opKind
  simp only [Bool.true_and]
  by_cases hk : o.kind = 1
  · simp only [hk, if_true]
    cases hb : (inB o.bank 0 (IntKind.i64.wrap ((m.banks.length : Int) - 1)) && decide (o.scale = 0)) with
    | false => simp
    | true =>
      simp only [Bool.true_eq_false, if_false, Bool.true_and]
      by_cases ht : o.tied = -1
      · simp only [ht, if_true]
        refine ⟨?_, fun _ => trivial⟩
        cases m.banks[o.bank.toNat]? with
        | none => rfl
        | some b => exact hpow _ _
      · simp only [ht, if_false]
        have hg : decide ((o.pieces.length : Int) = 0) = !decide (0 < (o.pieces.length : Int)) := by rw [gt0]; simp
        rw [hg]
        cases (inB o.tied 0 (IntKind.i64.wrap ((k : Int) - 1)) && !decide (0 < (o.pieces.length : Int))) with
        | false => simp
        | true =>
          simp only [Bool.true_eq_false, if_false, Bool.true_and]
          refine ⟨?_, fun _ => trivial⟩
          cases i.operands[o.tied.toNat]? with
          | none => rfl
          | some q => simp only [Bool.and_assoc]
  · simp only [hk, if_false]
    by_cases h2 : o.kind = 2 ∨ o.kind = 3 ∨ o.kind = 4
    · simp only [h2, if_true, Bool.and_assoc]
      exact ⟨trivial, fun _ => trivial⟩
    · simp only [h2, if_false]
      exact ⟨trivial, fun _ => trivial⟩
theorem opS_eq {m : Mc} (hW : W8 m ≤ 32) (i : Ins) (k : Nat) (o : Opn) :
    ((opS m i k o true).1 = true ↔ o.pieces.all (pcR m.word) = true ∧ (∀ b, pcn b o.pieces ≤ 1) ∧ opKind m i k o = true) ∧
    ((opS m i k o true).1 = true → ∃ F : Nat, (opS m i k o true).2 = (F : Int) ∧ TB F fun b => pcn b o.pieces) := by
  have h0 : TB 0 fun _ => 0 := ⟨by decide, fun b => ⟨by show (0 : Nat) ≤ 1; omega, by simp⟩⟩
  obtain ⟨s1, s2⟩ := scan_pcs m hW o.pieces 0 _ h0
  simp only [Nat.zero_add] at s1 s2
  have hall : o.pieces.all (pcR m.word) = true ↔ ∀ p ∈ o.pieces, pcOK m p = true := by
    rw [List.all_eq_true]; exact Iff.rfl
  rw [hall]
  by_cases hg : (∀ p ∈ o.pieces, pcOK m p = true) ∧ (∀ b, pcn b o.pieces ≤ 1)
  · obtain ⟨T', e, hTB⟩ := s1 hg
    have e2 : opS m i k o true = opTail m i k o (true, (T' : Int)) := by
      unfold opS pcS
      rw [show ((true, (0 : Int)) : Bool × Int) = (true, ((0 : Nat) : Int)) from rfl, e]
    rw [e2, opTail_t.1]
    refine ⟨⟨fun h => ⟨hg.1, hg.2, h⟩, fun h => h.2.2⟩, fun h => ⟨T', opTail_t.2 (by rw [opTail_t.1]; exact h), hTB⟩⟩
  · have e2 : (opS m i k o true).1 = false := by
      unfold opS pcS
      rw [show ((true, (0 : Int)) : Bool × Int) = (true, ((0 : Nat) : Int)) from rfl]
      cases hs : scan (β := Unit) (tst (pcT m) pcU fun _ _ => ()) (true, ((0 : Nat) : Int)) o.pieces with
      | out b => rfl
      | go a =>
        obtain ⟨a1, a2⟩ := a
        cases a1 with
        | false => exact opTail_f
        | true => exact (hg (s2 _ hs rfl)).elim
    rw [e2]
    refine ⟨⟨fun h => by simp at h, fun h => (hg ⟨h.1, h.2.1⟩).elim⟩, fun h => by simp at h⟩
def pcns (b : Nat) (os : List Opn) : Nat := (os.map fun o => pcn b o.pieces).sum
theorem pcns_cons {b : Nat} {o : Opn} {os : List Opn} : pcns b (o :: os) = pcn b o.pieces + pcns b os := by simp [pcns]
theorem ops_fold (m : Mc) (i : Ins) (hW : W8 m ≤ 32) : ∀ (os pre : List Opn) (T : Nat) (c : Nat → Nat), i.operands = pre ++ os → TB T c →
    ((os.foldl (opStep m i) (pre.length, true, strK [112, 99] :: pre.map Opn.name, (T : Int))).2.1 = true ↔ allI (opR m i) pre.length os = true ∧ ∀ b, c b + pcns b os ≤ 1)
  | [], pre, T, c, hi, hT => by
    simp only [List.foldl_nil, allI, true_and, true_iff]
    exact fun b => (hT.2 b).1
  | o :: os, pre, T, c, hi, hT => by
    rw [List.foldl_cons, allI]
    have htake : i.operands.take pre.length = pre := by rw [hi, List.take_left']; rfl
    have hfr : freshB (strK [112, 99] :: pre.map Opn.name) o.name = (nameOK o.name && !decide (o.name = strK [112, 99]) && pre.all fun q => !decide (q.name = o.name)) := by
      unfold freshB
      rw [show has o.name (strK [112, 99] :: pre.map Opn.name) = (decide (o.name = strK [112, 99]) || has o.name (pre.map Opn.name)) from rfl, Bool.not_or, has_map, Bool.and_assoc]
    have hR : opR m i pre.length o = true ↔ freshB (strK [112, 99] :: pre.map Opn.name) o.name = true ∧ o.pieces.all (pcR m.word) = true ∧ opKind m i pre.length o = true := by
      unfold opR opHead
      rw [hfr, htake]
      simp only [Bool.and_eq_true]
      constructor
      · rintro ⟨⟨⟨a, b⟩, c⟩, d, e⟩; exact ⟨⟨⟨a, b⟩, d⟩, c, e⟩
      · rintro ⟨⟨⟨a, b⟩, d⟩, c, e⟩; exact ⟨⟨⟨a, b⟩, c⟩, d, e⟩
    rw [Bool.and_eq_true, hR]
    have hstop : ∀ (X : Nat × Bool × List ByteArray × Int), X.2.1 = false → ¬ (os.foldl (opStep m i) X).2.1 = true := fun X hX h => by
      rw [(opsF_ok _ _ h).1] at hX; simp at hX
    cases hf : freshB (strK [112, 99] :: pre.map Opn.name) o.name with
    | false =>
      refine ⟨fun h => (hstop _ ?_ h).elim, fun h => ?_⟩
      · simp only [opStep, hf, Bool.and_false]
        cases ho : (opS m i pre.length o false).1 with
        | false => rfl
        | true => have := (opS_ok ho).1; simp at this
      · simp at h
    | true =>
      obtain ⟨o1, o2⟩ := opS_eq hW i pre.length o
      have e : opStep m i (pre.length, true, strK [112, 99] :: pre.map Opn.name, (T : Int)) o = (pre.length + 1, (opS m i pre.length o true).1 && decide (uand (T : Int) (opS m i pre.length o true).2 = 0), (strK [112, 99] :: pre.map Opn.name) ++ [o.name], uor (T : Int) (opS m i pre.length o true).2) := by
        simp only [opStep, hf, Bool.and_self]
      rw [e]
      cases hg : (opS m i pre.length o true).1 with
      | false =>
        refine ⟨fun h => (hstop _ (by simp) h).elim, fun h => ?_⟩
        have : (opS m i pre.length o true).1 = true := o1.2 ⟨h.1.1.2.1, fun b => by have := h.2 b; rw [pcns_cons] at this; omega, h.1.1.2.2⟩
        rw [hg] at this; simp at this
      | true =>
        obtain ⟨F, hF, hFB⟩ := o2 hg
        obtain ⟨s1, s2⟩ := step_bits hT hFB
        rw [hF]
        by_cases hd : ∀ b, c b + pcn b o.pieces ≤ 1
        · obtain ⟨T', hT', hTB⟩ := s2 hd
          rw [decide_eq_true (s1.2 hd), hT']
          have ih := ops_fold m i hW os (pre ++ [o]) T' _ (by rw [hi]; simp) hTB
          simp only [List.length_append, List.length_singleton, List.map_append, List.map_singleton] at ih
          simp only [Bool.and_self, List.cons_append]
          rw [ih]
          simp only [pcns_cons, ← Nat.add_assoc]
          have hq := o1.1 hg
          exact ⟨fun h => ⟨⟨⟨trivial, hq.1, hq.2.2⟩, h.1⟩, h.2⟩, fun h => ⟨h.1.2, h.2⟩⟩
        · rw [decide_eq_false (fun h => hd (s1.1 h))]
          refine ⟨fun h => (hstop _ (by simp) h).elim, fun h => ?_⟩
          exact (hd fun b => by have := h.2 b; rw [pcns_cons] at this; omega).elim
theorem pSt_fold {b : Nat} (hp' : ∀ p : Pc, PO 32 p → IntKind.i64.wrap (IntKind.i64.wrap (p.at_ + p.len) - 1) = p.at_ + p.len - 1) : ∀ (ps : List Pc) (n : Nat), n + ps.length ≤ 100000000 → (∀ p ∈ ps, PO 32 p) → ps.foldl (pSt b) (n : Int) = ((n + pcn b ps : Nat) : Int)
  | [], n, _, _ => by simp [pcn]
  | p :: ps, n, hn, hp => by
    have hl : n + 1 + ps.length ≤ 100000000 := by simp only [List.length_cons] at hn; omega
    have hp1 := hp' p (hp p List.mem_cons_self)
    have e : pSt b (n : Int) p = ((n + (pin b p).toNat : Nat) : Int) := by
      unfold pSt pin
      rw [hp1]
      cases inB (b : Int) p.at_ (p.at_ + p.len - 1) with
      | false => simp
      | true => simp only [if_true, Bool.toNat_true]; rw [wr] <;> omega
    rw [List.foldl_cons, e, pSt_fold hp' ps _ (by have := (pin b p).toNat_le; omega) (fun q hq => hp q (List.mem_cons_of_mem _ hq)), pcn_cons, Nat.add_assoc]
theorem pcn_le {b : Nat} : ∀ ps : List Pc, pcn b ps ≤ ps.length
  | [] => by simp [pcn]
  | p :: ps => by rw [pcn_cons]; have := pcn_le (b := b) ps; have := (pin b p).toNat_le; simp only [List.length_cons]; omega
theorem oSt_fold {b : Nat} (hp' : ∀ p : Pc, PO 32 p → IntKind.i64.wrap (IntKind.i64.wrap (p.at_ + p.len) - 1) = p.at_ + p.len - 1) : ∀ (os : List Opn) (n : Nat), n + os.length * 1001 ≤ 100000000 → (∀ o ∈ os, o.pieces.length ≤ 1000 ∧ ∀ p ∈ o.pieces, PO 32 p) → os.foldl (oSt b) (n : Int) = ((n + pcns b os : Nat) : Int)
  | [], n, _, _ => by simp [pcns]
  | o :: os, n, hn, hp => by
    have hl : n + 1000 + os.length * 1001 ≤ 100000000 := by simp only [List.length_cons] at hn; omega
    obtain ⟨h1, h2⟩ := hp o List.mem_cons_self
    have e : oSt b (n : Int) o = ((n + pcn b o.pieces : Nat) : Int) := pSt_fold hp' o.pieces n (by omega) h2
    have := pcn_le (b := b) o.pieces
    rw [List.foldl_cons, e, oSt_fold hp' os _ (by omega) (fun q hq => hp q (List.mem_cons_of_mem _ hq)), pcns_cons, Nat.add_assoc]
theorem bitI_nat {X b : Nat} : bitI (X : Int) (b : Int) = ((X.testBit b).toNat : Int) := by
  unfold bitI
  rw [Int.toNat_natCast, Int.toNat_natCast, Nat.testBit_eq_decide_div_mod_eq]
  rcases Nat.mod_two_eq_zero_or_one (X / 2 ^ b) with h | h <;> rw [h] <;> rfl
theorem allI_range {p : Nat → Bool} : ∀ (n k : Nat), allI (fun j (_ : Nat) => p j) k (List.range' k n) = true ↔ ∀ j, k ≤ j → j < k + n → p j = true
  | 0, k => by simp [allI]; intro j h1 h2; omega
  | n + 1, k => by
    rw [List.range'_succ, allI, Bool.and_eq_true, allI_range n (k + 1)]
    constructor
    · rintro ⟨h1, h2⟩ j hj hj'
      rcases Nat.eq_or_lt_of_le hj with rfl | h
      · exact h1
      · exact h2 j (by omega) (by omega)
    · exact fun h => ⟨h k (Nat.le_refl _) (by omega), fun j h1 h2 => h j (by omega) (by omega)⟩
theorem allI_range0 {p : Nat → Bool} {n : Nat} : allI (fun j (_ : Nat) => p j) 0 (List.range n) = true ↔ ∀ j, j < n → p j = true := by
  rw [List.range_eq_range', allI_range]
  simp
theorem opsR_eq (m : Mc) (i : Ins) : opsR m i = allI (opR m i) 0 i.operands := by
  unfold opsR
  refine allI_congr _ _ fun j o ho => ?_
  simp only [opRk, Nat.zero_add, ho]
theorem opsR_pcs {m : Mc} {i : Ins} (hW : W8 m ≤ 32) (h : opsR m i = true) : ∀ o ∈ i.operands, ∀ p ∈ o.pieces, PO (W8 m) p := by
  rw [opsR_eq] at h
  intro o ho p hp
  obtain ⟨j, e⟩ := List.mem_iff_getElem?.1 ho
  have := allI_get _ _ h j o e
  simp only [opR, opHead, Bool.and_eq_true, List.all_eq_true] at this
  exact (pcOK_iff hW).1 (this.1.2 p hp)
theorem pcn_out {b : Nat} {W : Int} (hb : W ≤ b) : ∀ {ps : List Pc}, (∀ p ∈ ps, PO W p) → pcn b ps = 0
  | [], _ => rfl
  | p :: ps, h => by
    obtain ⟨h1, h2, h3, h4⟩ := h p List.mem_cons_self
    have : pin b p = false := by
      unfold pin inB
      simp only [Bool.and_eq_false_iff, decide_eq_false_iff_not]
      omega
    rw [pcn_cons, this, pcn_out hb fun q hq => h q (List.mem_cons_of_mem _ hq)]; rfl
theorem pcns_out {b : Nat} {W : Int} (hb : W ≤ b) : ∀ {os : List Opn}, (∀ o ∈ os, ∀ p ∈ o.pieces, PO W p) → pcns b os = 0
  | [], _ => rfl
  | o :: os, h => by
    rw [pcns_cons, pcn_out hb (h o List.mem_cons_self), pcns_out hb fun q hq => h q (List.mem_cons_of_mem _ hq)]
theorem apR_iff {m : Mc} {i : Ins} {X : Nat} (hW : W8 m ≤ 32) (hX : i.mask = X) (hXl : (X : Int) < p2 (W8 m).toNat) (hop : i.operands.length ≤ 1000) (hp : ∀ o ∈ i.operands, o.pieces.length ≤ 1000) (hR : opsR m i = true) :
    apR m i = true ↔ ∀ b, (X.testBit b).toNat + pcns b i.operands ≤ 1 := by
  have hpo := opsR_pcs hW hR
  have hpo32 : ∀ o ∈ i.operands, ∀ p ∈ o.pieces, PO 32 p := fun o ho p hq => by
    obtain ⟨h1, h2, h3, h4⟩ := hpo o ho p hq
    exact ⟨h1, by omega, h3, by omega⟩
  have hww : ∀ p : Pc, PO 32 p → IntKind.i64.wrap (IntKind.i64.wrap (p.at_ + p.len) - 1) = p.at_ + p.len - 1 := by
    rintro p ⟨h1, h2, h3, h4⟩
    rw [wr (p.at_ + p.len), wr] <;> omega
  have hap : ∀ b : Nat, apB i (b : Int) = (((X.testBit b).toNat + pcns b i.operands : Nat) : Int) := by
    intro b
    unfold apB
    rw [hX, bitI_nat]
    exact oSt_fold hww _ _ (by have := (X.testBit b).toNat_le; omega) fun o ho => ⟨hp o ho, hpo32 o ho⟩
  unfold apR
  rw [allI_range0]
  have hXn : X < 2 ^ (W8 m).toNat := by
    unfold p2 at hXl
    have : ((2 ^ (W8 m).toNat : Nat) : Int) = 2 ^ (W8 m).toNat := by rw [Int.natCast_pow]; rfl
    omega
  constructor
  · intro h b
    by_cases hb : b < (W8 m).toNat
    · have := h b hb
      rw [hap] at this
      simp only [Bool.not_eq_true', decide_eq_false_iff_not] at this
      omega
    · have h1 : X.testBit b = false := by
        cases hx : X.testBit b with
        | false => rfl
        | true => exact (hb (bit_lt hXn hx)).elim
      rw [h1, pcns_out (b := b) (W := W8 m) (by omega) hpo]; decide
  · intro h b hb
    rw [hap]
    have := h b
    simp only [Bool.not_eq_true', decide_eq_false_iff_not]
    omega
theorem W8_eq {m : Mc} (h : inB m.word 1 4 = true) : W8 m = 8 * m.word := by
  rw [inB_iff] at h
  exact wr _ (by omega) (by omega)
theorem below_iff {X : Nat} {n : Int} (hn : n = 8 ∨ n = 16 ∨ n = 24 ∨ n = 32) (hX : X < 2 ^ 64) : uandn (X : Int) (mskI n) = 0 ↔ (X : Int) < p2 n.toNat := by
  obtain ⟨k, rfl, hk⟩ : ∃ k : Nat, n = k ∧ k ≤ 32 ∧ 1 ≤ k := ⟨n.toNat, by omega, by omega, by omega⟩
  have hm : mskI (k : Int) = ((2 ^ k - 1 : Nat) : Int) := by
    unfold mskI
    rw [if_pos (inB_iff.2 (by omega)), Int.toNat_natCast]
    have := Nat.one_le_two_pow (n := k)
    rw [Int.natCast_sub this, Int.natCast_pow]; rfl
  rw [hm, uandn_zero hX]
  unfold p2
  rw [Int.toNat_natCast, show ((2 : Int) ^ k) = ((2 ^ k : Nat) : Int) by rw [Int.natCast_pow]; rfl, Int.ofNat_lt]
  constructor
  · intro h
    apply Nat.lt_pow_two_of_testBit
    intro i hi
    cases hx : X.testBit i with
    | false => rfl
    | true =>
      have := h i (bit_lt hX hx) hx
      rw [Nat.testBit_two_pow_sub_one] at this
      simp only [decide_eq_true_eq] at this
      omega
  · intro h i _ hi
    rw [Nat.testBit_two_pow_sub_one]
    exact decide_eq_true (bit_lt h hi)
theorem bitsR_iff {i : Ins} {X Y : Nat} (hX : i.mask = X) (hY : i.match_ = Y) (hYl : Y < 2 ^ 64) : bitsR i = true ↔ uandn (Y : Int) (X : Int) = 0 := by
  unfold bitsR
  rw [allI_range0, uandn_zero hYl, hX, hY]
  refine forall_congr' fun b => forall_congr' fun _ => ?_
  rw [bitI_nat, bitI_nat]
  cases X.testBit b <;> cases Y.testBit b <;> simp
theorem ops_eq {m : Mc} {i : Ins} (hw : inB m.word 1 4 = true) (hM : 0 ≤ i.mask ∧ i.mask < 18446744073709551616) (hN : 0 ≤ i.match_ ∧ i.match_ < 18446744073709551616) (hop : i.operands.length ≤ 1000) (hp : ∀ o ∈ i.operands, o.pieces.length ≤ 1000) (ok : Bool) :
    (opsS m i ok).2.1 = (ok && (decide (i.mask < p2 (W8 m).toNat) && (bitsR i && (opsR m i && apR m i)))) := by
  have hW8 := W8_eq hw
  rw [inB_iff] at hw
  have hW : W8 m ≤ 32 := by omega
  obtain ⟨X, hX⟩ : ∃ X : Nat, i.mask = X := ⟨i.mask.toNat, by omega⟩
  obtain ⟨Y, hY⟩ : ∃ Y : Nat, i.match_ = Y := ⟨i.match_.toNat, by omega⟩
  have hXl : X < 2 ^ 64 := by omega
  have hYl : Y < 2 ^ 64 := by omega
  have h1 : decide (uandn i.mask (mskI (W8 m)) = 0) = decide (i.mask < p2 (W8 m).toNat) := decide_eq_decide.2 (by rw [hX]; exact below_iff (by omega) hXl)
  have h2 : decide (uandn i.match_ i.mask = 0) = bitsR i := by
    rw [Bool.eq_iff_iff, bitsR_iff hX hY hYl, decide_eq_true_eq, hX, hY]
  have h3 : TB X fun b => (X.testBit b).toNat := ⟨hXl, fun b => ⟨Bool.toNat_le _, by show X.testBit b = decide ((X.testBit b).toNat = 1); cases X.testBit b <;> rfl⟩⟩
  unfold opsS
  rw [h1, h2]
  have hfold := ops_fold m i hW i.operands [] X _ rfl h3
  simp only [List.length_nil, List.map_nil] at hfold
  cases hc : (ok && (decide (i.mask < p2 (W8 m).toNat) && bitsR i)) with
  | false =>
    have hstop : (i.operands.foldl (opStep m i) (0, false, [strK [112, 99]], i.mask)).2.1 = false := by
      cases h : (i.operands.foldl (opStep m i) (0, false, [strK [112, 99]], i.mask)).2.1 with
      | false => rfl
      | true => exact absurd (opsF_ok _ _ h).1 (by simp)
    rw [hstop]
    rw [← Bool.and_assoc, ← Bool.and_assoc, Bool.and_assoc ok, hc]; rfl
  | true =>
    rw [← Bool.and_assoc, ← Bool.and_assoc, Bool.and_assoc ok, hc, Bool.true_and, Bool.eq_iff_iff, hX, hfold, ← opsR_eq, Bool.and_eq_true]
    simp only [Bool.and_eq_true, decide_eq_true_eq] at hc
    refine and_congr_right fun hR => (apR_iff hW hX (by rw [← hX]; exact hc.2.1) hop hp hR).symm
end Go.Proofs.Dv
set_option linter.unusedVariables false
set_option linter.unusedSimpArgs false
namespace Go.Proofs.Dv
open Go.RowKit
open Nat renaming reduceEqDiff → zA, reduceAdd → zB, reduceSub → zC, reduceLeDiff → zD, reduceLT → zE, reduceMul → zF
open Int renaming reduceToNat → zG, reduceLE → zH, reduceLT → zI
open List renaming set_cons_zero → zJ, set_cons_succ → zK
theorem inB64 {n : Int} : inB n 1 64 = true ↔ 1 ≤ n ∧ n ≤ 64 := inB_iff
theorem node_eq (t : T) (hk : 0 ≤ t.kind) (hs : ∀ u ∈ t.sub, inB u.width 1 64 = true) : nodeOK t = formedN t := by
  unfold nodeOK formedN
  cases hw : inB t.width 1 64 with
  | false => rfl
  | true =>
    simp only [Bool.not_true, cond_false]
    by_cases h24 : 24 < t.kind
    · have hr := row_gt (show 24 < t.kind.toNat by omega)
      have h1 : ¬ t.kind = 1 := by omega
      have h2 : ¬ t.kind = 2 := by omega
      simp [partsOf, hr, h1, h2, h24]
    · have hw' := inB64.1 hw
      have key : t.kind = 0 ∨ t.kind = 1 ∨ t.kind = 2 ∨ t.kind = 3 ∨ t.kind = 4 ∨ t.kind = 5 ∨ t.kind = 6 ∨ t.kind = 7 ∨ t.kind = 8 ∨ t.kind = 9 ∨ t.kind = 10 ∨ t.kind = 11 ∨ t.kind = 12 ∨ t.kind = 13 ∨ t.kind = 14 ∨ t.kind = 15 ∨ t.kind = 16 ∨ t.kind = 17 ∨ t.kind = 18 ∨ t.kind = 19 ∨ t.kind = 20 ∨ t.kind = 21 ∨ t.kind = 22 ∨ t.kind = 23 ∨ t.kind = 24 := by omega
      have hp : ∀ k : Nat, partsOf k = (rowOf k).2.1 := fun _ => rfl
      have hh : ∀ k : Nat, howOf k = (rowOf k).2.2 := fun _ => rfl
      have hlow : ∀ (l w s : Int), 1 ≤ w → w ≤ 64 → inB s 1 64 = true → (decide (0 ≤ l) && inB s 1 64 && decide (w ≤ s) && decide (l ≤ IntKind.i64.wrap (s - w))) = (decide (0 ≤ l) && decide (l ≤ s) && decide (IntKind.i64.wrap (l + w) ≤ s)) := by
        intro l w s h1 h2 h3
        have h4 := inB64.1 h3
        rw [h3, wr (s - w) (by omega) (by omega)]
        by_cases h5 : 0 ≤ l ∧ l ≤ s
        · rw [wr (l + w) (by omega) (by omega), Bool.eq_iff_iff]
          simp only [Bool.and_eq_true, decide_eq_true_eq, and_true]
          omega
        · rw [Bool.eq_iff_iff]
          simp only [Bool.and_eq_true, decide_eq_true_eq, and_true]
          omega
      rcases len5 t.sub with hq | ⟨a, hq⟩ | ⟨a, b, hq⟩ | ⟨a, b, c, hq⟩ | ⟨a, b, c, d, r, hq⟩
      case inr.inr.inr.inr =>
        have q1 : ∀ k : Int, k ≤ 3 → decide ((t.sub.length : Int) = k) = false := fun k hk => decide_eq_false (by rw [hq]; simp only [List.length_cons]; omega)
        rcases key with h | h | h | h | h | h | h | h | h | h | h | h | h | h | h | h | h | h | h | h | h | h | h | h | h
        all_goals
          rw [h]
          simp [hp, hh, rowOf, tabR, Int.reduceToNat, q1]
          try simp [hq]
      all_goals
        rw [hq] at hs
        simp only [List.mem_cons, forall_eq_or_imp, List.not_mem_nil, false_implies, implies_true, and_true] at hs
        rcases key with h | h | h | h | h | h | h | h | h | h | h | h | h | h | h | h | h | h | h | h | h | h | h | h | h
      all_goals
        rw [h]
        first
          | (simp [hp, hh, rowOf, tabR, widthsOK, subW, hq, hs, Int.reduceToNat]; done)
          | (simp [hp, hh, rowOf, tabR, widthsOK, subW, hq, hs, Int.reduceToNat, Bool.and_assoc]; done)
          | (have := hlow t.low t.width _ hw'.1 hw'.2 hs; simp [hp, hh, rowOf, tabR, widthsOK, subW, hq, hs, Int.reduceToNat, Bool.and_assoc] at this ⊢; simp [this]; done)
          | (simp [hp, hh, rowOf, tabR, widthsOK, subW, hq, hs, Int.reduceToNat, Bool.and_assoc]; exact Bool.and_left_comm _ _ _)
          | skip
theorem pre_node (hn : ∀ (t : T), 0 ≤ t.kind → (∀ u ∈ t.sub, inB u.width 1 64 = true) → nodeOK t = formedN t) : ∀ t : T, (∀ u ∈ t.pre, 0 ≤ u.kind) → t.pre.all nodeOK = t.pre.all formedN := by
  intro t
  induction t using T.ind with
  | h t ih =>
    intro hk
    have hs : t.sub.all (fun u => u.pre.all nodeOK) = t.sub.all (fun u => u.pre.all formedN) := all_congr' fun u hu => ih u hu fun v hv => hk v (by rw [T.pre_eq]; exact List.mem_cons_of_mem _ (mem_pres hu hv))
    rw [T.pre_eq, List.all_cons, List.all_cons, pres_all, pres_all, hs]
    cases hf : t.sub.all (fun u => u.pre.all formedN) with
    | false => simp
    | true =>
      rw [hn t (hk t (by rw [T.pre_eq]; exact List.mem_cons_self)) fun u hu => ?_]
      have h1 := List.all_eq_true.1 hf u hu
      rw [T.pre_eq, List.all_cons, Bool.and_eq_true] at h1
      have h2 := h1.1
      unfold formedN at h2
      cases hw : inB u.width 1 64 with
      | true => rfl
      | false => rw [hw] at h2; simp at h2
theorem formed_width {t : T} (h : t.pre.all formedN = true) : ∀ u ∈ t.pre, inB u.width 1 64 = true := by
  intro u hu
  have h2 := List.all_eq_true.1 h u hu
  unfold formedN at h2
  cases hw : inB u.width 1 64 with
  | true => rfl
  | false => rw [hw] at h2; simp at h2
def aV (m : List (ByteArray × Int)) (n : ByteArray) : Option Int := (aF n m 0).map (·.2)
theorem aF_shift (n : ByteArray) : ∀ (m : List (ByteArray × Int)) (i : Nat), aF n m i = (aF n m 0).map fun p => (p.1 + i, p.2)
  | [], i => rfl
  | (k, w) :: m, i => by
    unfold aF
    by_cases h : n = k
    · simp [h]
    · rw [if_neg h, if_neg h, aF_shift n m (i + 1), aF_shift n m (0 + 1), Option.map_map]
      congr 1
      funext p
      simp only [Function.comp]
      congr 1
      omega
theorem aV_nil (n : ByteArray) : aV [] n = none := rfl
theorem aV_cons (n k : ByteArray) (w : Int) (m : List (ByteArray × Int)) : aV ((k, w) :: m) n = if n = k then some w else aV m n := by
  unfold aV
  rw [aF]
  by_cases h : n = k
  · simp [h]
  · rw [if_neg h, if_neg h, aF_shift, Option.map_map]; rfl
theorem aPut_nil (n : ByteArray) (w : Int) : aPut [] n w = [(n, w)] := rfl
theorem aPut_cons (n k : ByteArray) (w v : Int) (m : List (ByteArray × Int)) : aPut ((k, v) :: m) n w = if n = k then (n, w) :: m else (k, v) :: aPut m n w := by
  unfold aPut
  rw [aF]
  by_cases h : n = k
  · simp [h]
  · rw [if_neg h, if_neg h, aF_shift]
    cases aF n m 0 with
    | none => rfl
    | some p => rfl
theorem aV_put (n k : ByteArray) (w : Int) : ∀ m : List (ByteArray × Int), aV (aPut m k w) n = if n = k then some w else aV m n
  | [] => by rw [aPut_nil, aV_cons]
  | (j, v) :: m => by
    rw [aPut_cons]
    by_cases h : k = j
    · rw [if_pos h, aV_cons, aV_cons]
      subst h
      by_cases h2 : n = k
      · rw [if_pos h2, if_pos h2]
      · rw [if_neg h2, if_neg h2, if_neg h2]
    · rw [if_neg h, aV_cons, aV_put n k w m, aV_cons]
      by_cases h2 : n = j
      · subst h2
        rw [if_pos rfl, if_neg (fun e => h e.symm), if_pos rfl]
      · rw [if_neg h2, if_neg h2]
theorem aGet_eq (m : List (ByteArray × Int)) (n : ByteArray) : aGet m n = (aV m n).getD 0 := rfl
def vBn (us : List T) : List Bn := us.flatMap fun u => if u.kind = 2 then [⟨u.name, u.width, 0⟩] else []
mutual
theorem vars_pre : ∀ t : T, t.vars = vBn t.pre
  | .mk k w b n l s => by
    rw [T.vars_eq, T.pre_eq]
    simp only [T.sub, vBn, List.flatMap_cons]
    rw [varss_pre s]; rfl
theorem varss_pre : ∀ s : List T, T.varss s = vBn (T.pres s)
  | [] => by rw [T.varss, T.pres]; rfl
  | t :: ts => by
    rw [T.varss, pres_cons, vars_pre t, varss_pre ts]
    simp [vBn]
end
theorem varsOK_all (l : List Bn) : ∀ (xs : List Bn) (k : Nat), scOK (scan (tst (okAt l) (fun i _ => i + 1) fun _ _ => ()) k xs) = allI (okAt l) k xs
  | [], k => rfl
  | x :: xs, k => by
    simp only [scan, tst, allI]
    cases okAt l k x with
    | false => rfl
    | true => simp only [if_true, Bool.true_and]; exact varsOK_all l xs (k + 1)
theorem vU_eq (m : List (ByteArray × Int)) (u : T) : vU m u = if u.kind = 2 then aPut m u.name u.width else m := rfl
theorem vT_eq (m : List (ByteArray × Int)) (u : T) : vT m u = if u.kind = 2 then (match aV m u.name with | some w => decide (w = u.width) | none => true) else true := by
  unfold vT aV
  cases aF u.name m 0 with
  | none => rfl
  | some p => rfl
theorem vok_go (l : List Bn) : ∀ (xs : List T) (seen : List Bn) (m : List (ByteArray × Int)), l = seen ++ vBn xs →
    (∀ n, (∀ w, aV m n = some w → (∃ y ∈ seen, y.name = n) ∧ ∀ y ∈ seen, y.name = n → y.width = w) ∧ (aV m n = none → ∀ y ∈ seen, ¬ y.name = n)) →
    scOK (scan (tst vT vU fun m _ => m) m xs) = allI (okAt l) seen.length (vBn xs)
  | [], seen, m, _, _ => rfl
  | u :: xs, seen, m, hl, hm => by
    by_cases hk : u.kind = 2
    · have e1 : vBn (u :: xs) = ⟨u.name, u.width, 0⟩ :: vBn xs := by simp [vBn, hk]
      rw [e1] at hl ⊢
      have htake : l.take seen.length = seen := by rw [hl, List.take_left']; rfl
      have hok : okAt l seen.length ⟨u.name, u.width, 0⟩ = vT m u := by
        unfold okAt
        rw [htake, vT_eq, if_pos hk, Bool.eq_iff_iff, List.all_eq_true]
        simp only [agreeB, Bool.not_eq_true', Bool.and_eq_false_iff, decide_eq_false_iff_not, Bool.not_eq_false', decide_eq_true_eq]
        cases ha : aV m u.name with
        | none =>
          simp only [iff_true]
          exact fun y hy => .inl ((hm u.name).2 ha y hy)
        | some w =>
          obtain ⟨⟨y0, h1, h2⟩, h3⟩ := (hm u.name).1 w ha
          simp only [decide_eq_true_eq]
          constructor
          · intro h
            rcases h y0 h1 with h4 | h4
            · exact (h4 h2).elim
            · rw [← h4, h3 y0 h1 h2]
          · intro h y hy
            by_cases h4 : y.name = u.name
            · exact .inr (by rw [h3 y hy h4, h])
            · exact .inl h4
      simp only [scan, tst, allI, hok]
      cases ht : vT m u with
      | false => rfl
      | true =>
        simp only [if_true, Bool.true_and]
        rw [vok_go l xs (seen ++ [⟨u.name, u.width, 0⟩]) (vU m u) (by rw [hl]; simp) ?_, List.length_append, List.length_singleton]
        intro n
        rw [vU_eq, if_pos hk, aV_put]
        by_cases hn : n = u.name
        · rw [if_pos hn]
          refine ⟨fun w hw => ?_, fun h => by simp at h⟩
          simp only [Option.some.injEq] at hw
          subst hw
          refine ⟨⟨_, List.mem_append_right _ List.mem_cons_self, hn.symm⟩, fun y hy hyn => ?_⟩
          rcases List.mem_append.1 hy with hy | hy
          · rw [vT_eq, if_pos hk] at ht
            cases ha : aV m u.name with
            | none => exact ((hm u.name).2 ha y hy (by rw [hyn, hn])).elim
            | some w =>
              rw [ha] at ht
              simp only [decide_eq_true_eq] at ht
              rw [((hm u.name).1 w ha).2 y hy (by rw [hyn, hn]), ht]
          · simp only [List.mem_singleton] at hy
            rw [hy]
        · rw [if_neg hn]
          refine ⟨fun w hw => ?_, fun h y hy => ?_⟩
          · obtain ⟨⟨y0, h1, h2⟩, h3⟩ := (hm n).1 w hw
            refine ⟨⟨y0, List.mem_append_left _ h1, h2⟩, fun y hy hyn => ?_⟩
            rcases List.mem_append.1 hy with hy | hy
            · exact h3 y hy hyn
            · simp only [List.mem_singleton] at hy
              subst hy
              exact (hn hyn.symm).elim
          · rcases List.mem_append.1 hy with hy | hy
            · exact (hm n).2 h y hy
            · simp only [List.mem_singleton] at hy
              subst hy
              exact fun e => hn e.symm
    · have e1 : vBn (u :: xs) = vBn xs := by simp [vBn, hk]
      have e2 : vT m u = true := by rw [vT_eq, if_neg hk]
      have e3 : vU m u = m := by rw [vU_eq, if_neg hk]
      rw [e1] at hl ⊢
      simp only [scan, tst, e2, if_true, e3]
      exact vok_go l xs seen m hl hm
theorem vok_eq (t : T) : vok t = varsOK t.vars := by
  unfold vok vScan varsOK
  rw [varsOK_all, vars_pre]
  exact vok_go _ t.pre [] [] rfl fun n => ⟨fun w hw => by simp [aV_nil] at hw, fun _ y hy => by simp at hy⟩
theorem chkT_eq {t : T} (hk : ∀ u ∈ t.pre, 0 ≤ u.kind) : chkT t = chk02 t := by
  unfold chkT chk02
  rw [pre_node node_eq t hk, ← formed_pre, vok_eq]
  cases decide (400 < (t.size : Int)) <;> cases decide (60 < (t.depth : Int)) <;> rfl
theorem chk02_formed {t : T} (h : chk02 t = 0) : t.pre.all formedN = true := by
  rw [← formed_pre]
  unfold chk02 at h
  cases h1 : (decide (400 < (t.size : Int)) || decide (60 < (t.depth : Int))) with
  | true => rw [h1] at h; simp at h
  | false =>
    rw [h1] at h
    cases h2 : t.formed with
    | true => rfl
    | false => rw [h2] at h; simp at h
end Go.Proofs.Dv
set_option linter.unusedVariables false
set_option linter.unusedSimpArgs false
namespace Go.Proofs.Dv
open Go.RowKit
open Nat renaming reduceEqDiff → zA, reduceAdd → zB, reduceSub → zC, reduceLeDiff → zD, reduceLT → zE, reduceMul → zF
open Int renaming reduceToNat → zG, reduceLE → zH, reduceLT → zI
open List renaming set_cons_zero → zJ, set_cons_succ → zK
theorem aV_fold {α : Type} (f : α → ByteArray) (g : α → Int) (n : ByteArray) : ∀ (xs : List α) (vs : List (ByteArray × Int)), xs.Pairwise (fun x y => ¬ f x = f y) →
    aV (xs.foldl (fun vs x => aPut vs (f x) (g x)) vs) n = match xs.find? (fun x => decide (f x = n)) with | some x => some (g x) | none => aV vs n
  | [], vs, _ => rfl
  | x :: xs, vs, h => by
    rw [List.pairwise_cons] at h
    rw [List.foldl_cons, aV_fold f g n xs _ h.2, List.find?_cons]
    by_cases hx : f x = n
    · have : xs.find? (fun x => decide (f x = n)) = none := by
        rw [List.find?_eq_none]
        intro y hy
        have := h.1 y hy
        simp only [decide_eq_true_eq]
        rw [← hx]
        exact fun e => this e.symm
      rw [this, decide_eq_true hx]
      simp only [aV_put, if_pos hx.symm]
    · rw [decide_eq_false hx]
      cases xs.find? (fun x => decide (f x = n)) with
      | some y => rfl
      | none => simp only [aV_put, if_neg (fun e => hx (Eq.symm e))]
theorem pair_names {α : Type} (f : α → ByteArray) (l : List α) (h : ∀ j x, l[j]? = some x → (l.take j).all (fun q => !decide (f q = f x)) = true) : l.Pairwise (fun x y => ¬ f x = f y) := by
  rw [List.pairwise_iff_getElem]
  intro i j hi hj hij
  have := List.all_eq_true.1 (h j l[j] (List.getElem?_eq_getElem hj)) l[i] (List.mem_take_iff_getElem.2 ⟨i, by omega, rfl⟩)
  simpa using this
theorem regs_pair {m : Mc} (h : regsR m = true) : m.regs.Pairwise (fun x y => ¬ x.name = y.name) := by
  refine pair_names Rg.name _ fun j x hx => ?_
  simp only [regsR, Bool.and_eq_true] at h
  have h1 := allI_get m.regs 0 h.1 j x hx
  simp only [Nat.zero_add, rgAt, Bool.and_eq_true] at h1
  exact h1.2.1
theorem ops_get {m : Mc} {i : Ins} (h : opsR m i = true) {j : Nat} {o : Opn} (ho : i.operands[j]? = some o) : opR m i j o = true := by
  rw [opsR_eq] at h
  have := allI_get _ _ h j o ho
  rwa [Nat.zero_add] at this
theorem ops_pair {m : Mc} {i : Ins} (h : opsR m i = true) : i.operands.Pairwise (fun x y => ¬ x.name = y.name) := by
  refine pair_names Opn.name _ fun j x hx => ?_
  have := ops_get h hx
  simp only [opR, Bool.and_eq_true] at this
  exact this.2.1
theorem ops_pc {m : Mc} {i : Ins} (h : opsR m i = true) : ∀ o ∈ i.operands, ¬ o.name = strK [112, 99] := by
  intro o ho
  obtain ⟨j, hj⟩ := List.mem_iff_getElem?.1 ho
  have := ops_get h hj
  simp only [opR, opHead, Bool.and_eq_true, Bool.not_eq_true', decide_eq_false_iff_not] at this
  exact this.1.1.2
theorem rdot_pc (x : ByteArray) : ¬ strK [114, 46] ++ x = strK [112, 99] := by
  intro h
  have h1 := congrArg (fun b : ByteArray => b.data.toList) h
  simp [strK] at h1
theorem app_inj {p x y : ByteArray} (h : p ++ x = p ++ y) : x = y := by
  have h1 := congrArg (fun b : ByteArray => b.data.toList) h
  simp only [ByteArray.data_append, Array.toList_append, List.append_cancel_left_eq] at h1
  cases x; cases y
  simp only at h1
  congr 1
  exact Array.toList_inj.1 h1
theorem var_eq {m : Mc} {i : Ins} {n : ByteArray} {w : Int} (hr : regsR m = true) (ho : opsR m i = true) (hw : inB w 1 64 = true) : decide (aGet (varsM m i) n = w) = vrR m i n w := by
  have h1 : aV (varsM m i) n = match i.operands.find? (fun o => decide (o.name = n)) with
      | some o => some ((wideO m o).getD 0)
      | none => match m.regs.find? (fun r => decide (strK [114, 46] ++ r.name = n)) with
        | some r => some r.width
        | none => if n = strK [112, 99] then some m.address else none := by
    unfold varsM
    rw [aV_fold Opn.name (fun o => (wideO m o).getD 0) n _ _ (ops_pair ho), aV_fold (fun r : Rg => strK [114, 46] ++ r.name) Rg.width n _ _ ((regs_pair hr).imp fun h e => h (app_inj e)), aV_put, aV_nil]
    cases i.operands.find? (fun o => decide (o.name = n)) with
    | some o => rfl
    | none => cases m.regs.find? (fun r => decide (strK [114, 46] ++ r.name = n)) <;> rfl
  rw [aGet_eq, h1]
  unfold vrR
  have hw1 := (inB64.1 hw).1
  by_cases hn : n = strK [112, 99]
  · have e1 : i.operands.find? (fun o => decide (o.name = n)) = none := by
      rw [List.find?_eq_none]
      intro o hom
      simp only [decide_eq_true_eq, hn]
      exact ops_pc ho o hom
    have e2 : m.regs.find? (fun r => decide (strK [114, 46] ++ r.name = n)) = none := by
      rw [List.find?_eq_none]
      intro r _
      simp only [decide_eq_true_eq, hn]
      exact rdot_pc _
    rw [e1, e2, decide_eq_true hn, cond_true]
    simp only [if_pos hn, Option.getD_some]
    exact deq_comm
  · rw [decide_eq_false hn, cond_false]
    cases i.operands.find? (fun o => decide (o.name = n)) with
    | some o => exact deq_comm
    | none =>
      simp only
      cases m.regs.find? (fun r => decide (strK [114, 46] ++ r.name = n)) with
      | some r => exact deq_comm
      | none =>
        simp only [if_neg hn, Option.getD_none]
        exact decide_eq_false (by omega)
theorem fit_eq {m : Mc} {i : Ins} (hr : regsR m = true) (ho : opsR m i = true) {t : T} (hk : ∀ u ∈ t.pre, 0 ≤ u.kind) : fitB m (varsM m i) t = fitR m i t := by
  unfold fitB fitR
  rw [chkT_eq hk]
  cases hc : decide (chk02 t = 0) with
  | false => rfl
  | true =>
    rw [Bool.true_and, Bool.true_and]
    have hw := formed_width (chk02_formed (of_decide_eq_true hc))
    unfold lvOK knownR
    refine all_congr' fun u hu => ?_
    unfold leafB leafR
    by_cases h2 : u.kind = 2
    · rw [if_pos h2, if_pos h2]
      exact var_eq hr ho (hw u hu)
    · rw [if_neg h2, if_neg h2]
theorem eff_eq {m : Mc} {i : Ins} (hr : regsR m = true) (ho : opsR m i = true) {e : Ef} (t1 : TOK e.addr) (t2 : TOK e.value) (t3 : TOK e.cond) : effOK m i (varsM m i) e = effR m i e := by
  have f1 := fit_eq hr ho t1.2.2.1
  have f2 := fit_eq hr ho t2.2.2.1
  have f3 := fit_eq hr ho t3.2.2.1
  unfold effOK effR
  by_cases k1 : e.kind = 1
  · simp only [effB, effW, effR1, k1, if_true, decide_true, Bool.true_or, Bool.true_and, f2]
    by_cases h1 : e.operand = -1
    · rw [h1]
      have h2 : inB (-1) 0 (IntKind.i64.wrap ((i.operands.length : Int) - 1)) = false := rfl
      cases inB e.reg 0 (IntKind.i64.wrap ((m.regs.length : Int) - 1)) <;> cases zeroT e.addr <;> cases zeroT e.cond <;> cases fitR m i e.value <;> simp [h2]
    · cases inB e.operand 0 (IntKind.i64.wrap ((i.operands.length : Int) - 1)) <;> cases zeroT e.addr <;> cases zeroT e.cond <;> cases fitR m i e.value <;> cases decide (e.reg = 0) <;> simp [h1]
      cases i.operands[e.operand.toNat]? <;> rfl
  · have k1' : decide (e.kind = 1) = false := decide_eq_false k1
    by_cases k2 : e.kind = 2
    · simp only [effB, effS, effR2, k1, k2, if_true, if_false, f1, f2, k1', Bool.false_or]
      have hh : has e.value.width [8, 16, 32, 64] = (decide (e.value.width = 8) || (decide (e.value.width = 16) || (decide (e.value.width = 32) || decide (e.value.width = 64)))) := by
        simp [has]
      rw [hh]
      simp only [Int.reduceEq, decide_false, Bool.false_or]
      cases decide (e.operand = 0) <;> cases decide (e.reg = 0) <;> cases zeroT e.cond <;> cases fitR m i e.addr <;> cases fitR m i e.value <;> simp
    · by_cases k3 : e.kind = 3
      · simp only [effB, effJ, effR3, k1, k2, k3, if_true, if_false, f1, f2, f3, k1', Bool.false_or]
        simp only [Int.reduceEq, decide_false, Bool.false_or, if_false]
        cases decide (e.operand = 0) <;> cases decide (e.reg = 0) <;> cases zeroT e.addr <;> cases fitR m i e.value <;> simp
      · by_cases k4 : e.kind = 4
        · simp only [effB, effR4, k4, if_true, if_false, f2]
          simp only [Int.reduceEq, decide_false, Bool.false_or, if_false]
          cases decide (e.operand = 0) <;> cases decide (e.reg = 0) <;> cases zeroT e.addr <;> cases zeroT e.cond <;> cases fitR m i e.value <;> simp
        · simp only [effB, k1, k2, k3, k4, if_false, Bool.and_false]
theorem bF_shift (n : Int) : ∀ (m : List (Int × Int)) (i : Nat), bF n m i = (bF n m 0).map fun p => (p.1 + i, p.2)
  | [], i => rfl
  | (k, w) :: m, i => by
    unfold bF
    by_cases h : n = k
    · simp [h]
    · rw [if_neg h, if_neg h, bF_shift n m (i + 1), bF_shift n m (0 + 1), Option.map_map]
      congr 1
      funext p
      simp only [Function.comp]
      congr 1
      omega
theorem bGet_cons (n k w : Int) (m : List (Int × Int)) : bGet ((k, w) :: m) n = if n = k then w else bGet m n := by
  unfold bGet
  rw [bF]
  by_cases h : n = k
  · simp [h]
  · rw [if_neg h, if_neg h, bF_shift, Option.map_map]; rfl
theorem bPut_cons (n k w v : Int) (m : List (Int × Int)) : bPut ((k, v) :: m) n w = if n = k then (n, w) :: m else (k, v) :: bPut m n w := by
  unfold bPut
  rw [bF]
  by_cases h : n = k
  · simp [h]
  · rw [if_neg h, if_neg h, bF_shift]
    cases bF n m 0 with
    | none => rfl
    | some p => rfl
theorem bGet_put (n k w : Int) : ∀ m : List (Int × Int), bGet (bPut m k w) n = if n = k then w else bGet m n
  | [] => by
    show bGet [(k, w)] n = _
    rw [bGet_cons]
  | (j, v) :: m => by
    rw [bPut_cons]
    by_cases h : k = j
    · rw [if_pos h, bGet_cons, bGet_cons]
      subst h
      by_cases h2 : n = k
      · rw [if_pos h2, if_pos h2]
      · rw [if_neg h2, if_neg h2, if_neg h2]
    · rw [if_neg h, bGet_cons, bGet_put n k w m, bGet_cons]
      by_cases h2 : n = j
      · subst h2
        rw [if_pos rfl, if_neg (fun e => h e.symm), if_pos rfl]
      · rw [if_neg h2, if_neg h2]
theorem cnt_go (k : Int) : ∀ (es : List Ef) (c : List (Int × Int)), bGet (es.foldl (fun c e => bPut c e.kind (IntKind.i64.wrap (bGet c e.kind + 1))) c) k = es.foldl (kndF k) (bGet c k)
  | [], c => rfl
  | e :: es, c => by
    rw [List.foldl_cons, cnt_go k es, List.foldl_cons, bGet_put]
    unfold kndF
    by_cases h : e.kind = k
    · rw [if_pos h.symm, if_pos h, h]
    · rw [if_neg (fun e => h e.symm), if_neg h]
theorem cnt_eq (k : Int) (es : List Ef) : bGet (cntE es) k = kndN k es := cnt_go k es []
theorem knd_bound (k : Int) : ∀ (es : List Ef) (n : Nat), n + es.length ≤ 1000000 → ∃ r : Nat, es.foldl (kndF k) (n : Int) = (r : Int) ∧ r ≤ n + es.length
  | [], n, _ => ⟨n, rfl, by simp⟩
  | e :: es, n, h => by
    simp only [List.length_cons] at h
    rw [List.foldl_cons]
    unfold kndF
    by_cases hk : e.kind = k
    · rw [if_pos hk, wr _ (by omega) (by omega)]
      obtain ⟨r, h1, h2⟩ := knd_bound k es (n + 1) (by omega)
      exact ⟨r, h1, by simp only [List.length_cons]; omega⟩
    · rw [if_neg hk]
      obtain ⟨r, h1, h2⟩ := knd_bound k es n (by omega)
      exact ⟨r, h1, by simp only [List.length_cons]; omega⟩
theorem tail_eq {m : Mc} {i : Ins} (he : i.effects.length ≤ 1000) : insTail m i = (!(decide (1 < kndN 3 i.effects) || (decide (0 < kndN 4 i.effects) && decide (1 < (i.effects.length : Int)))) && tailR m i) := by
  unfold insTail tailR
  rw [cnt_eq, cnt_eq, ← Bool.and_assoc]
  congr 1
  obtain ⟨r, h1, h2⟩ := knd_bound 4 i.effects 0 (by omega)
  have h3 : kndN 4 i.effects = (r : Int) := h1
  rw [h3, Bool.eq_iff_iff]
  simp only [Bool.and_eq_true, Bool.or_eq_true, decide_eq_true_eq, Bool.not_eq_true', Bool.or_eq_false_iff, Bool.and_eq_false_iff, decide_eq_false_iff_not]
  omega
theorem ins_eq {m : Mc} {i : Ins} (hw : inB m.word 1 4 = true) (hr : regsR m = true) (hM : 0 ≤ i.mask ∧ i.mask < 18446744073709551616) (hN : 0 ≤ i.match_ ∧ i.match_ < 18446744073709551616) (hz : InsZ i) (ok : Bool) : insOK m i ok = (ok && insR m i) := by
  unfold insOK insR
  rw [ops_eq hw hM hN hz.1 hz.2.2.1 ok, tail_eq hz.2.1]
  cases ho : opsR m i with
  | false => simp
  | true =>
    rw [all_congr' fun e he => eff_eq hr ho (hz.2.2.2 e he).1 (hz.2.2.2 e he).2.1 (hz.2.2.2 e he).2.2]
    simp only [Bool.and_assoc, Bool.true_and]
theorem head_eq (m : Mc) : headOK m = headR m := by
  unfold headOK headR
  rw [regs_eq, banks_eq, units_eq]
  simp only [Bool.and_assoc]
theorem chk_eq {m : Mc} (hz : MZ m) (ht : ∀ i ∈ m.instrs, ∀ e ∈ i.effects, TOK e.addr ∧ TOK e.value ∧ TOK e.cond) : chkM m = chkR m := by
  unfold chkM chkR
  cases hs : smallOK m with
  | false => rfl
  | true =>
    simp only [Bool.not_true, cond_false]
    congr 1
    unfold machOK
    rw [head_eq]
    cases hh : headR m with
    | false => rw [insF_false]; rfl
    | true =>
      have hsz := hs
      simp only [smallOK, Bool.and_eq_true, List.all_eq_true] at hsz
      obtain ⟨_, _, z6⟩ := hsz
      have zi : ∀ i ∈ m.instrs, InsZ i := by
        intro i hi
        have := z6 i hi
        simp only [smI, Bool.and_eq_true, List.all_eq_true] at this
        obtain ⟨⟨a1, a2⟩, a3⟩ := this
        have a1 := fewB_le a1
        have a2 := fewB_le a2
        exact ⟨by omega, by omega, fun o ho => by have := fewB_le (a3 o ho); omega, ht i hi⟩
      simp only [headR, Bool.and_eq_true] at hh
      obtain ⟨_, hw, _, hr, _⟩ := hh
      have hfold : ∀ (l : List Ins) (a : Bool × List ByteArray), (∀ i ∈ l, i ∈ m.instrs) → l.foldl (insF m) a = l.foldl (fun (a : Bool × List ByteArray) i => (a.1 && (freshB a.2 i.name && insR m i), a.2 ++ [Ins.name i])) a := by
        intro l
        induction l with
        | nil => intro a _; rfl
        | cons i l ih =>
          intro a hl
          have hi := hl i List.mem_cons_self
          rw [List.foldl_cons, List.foldl_cons, ih _ fun j hj => hl j (List.mem_cons_of_mem _ hj)]
          congr 1
          unfold insF
          rw [ins_eq hw hr (hz i hi).1 (hz i hi).2.1 (zi i hi), Bool.and_assoc]
      have := fold_names Ins.name (fun ns i => freshB ns i.name && insR m i) m.instrs m.instrs [] true rfl
      simp only [List.map_nil, List.length_nil, Bool.true_and] at this
      rw [hfold _ _ fun _ h => h, this, Bool.true_and]
      refine allI_congr _ _ (fun j i _ => ?_)
      simp only [insAt, freshB, has_map]
      cases nameOK i.name <;> cases insR m i <;> simp
end Go.Proofs.Dv
