/- A part of the proof of one statement about the given program: a verified evaluator of the model's code, and contracts of functions (ZA ZB ZC ZD). No condition of its own. -/
import Derived.Test.YtkfjdlbkmomffaaGreatDoorV04
set_option linter.unusedVariables false
set_option linter.unusedSimpArgs false
set_option linter.defProp false
set_option linter.constructorNameAsVariable false
set_option linter.unusedVariables false
set_option linter.unusedSimpArgs false
set_option maxRecDepth 100000
namespace Go.Proofs.Dv
open Go.RowKit
open Nat renaming reduceEqDiff → zA, reduceAdd → zB, reduceSub → zC, reduceLeDiff → zD, reduceLT → zE, reduceMul → zF
open Int renaming reduceToNat → zG, reduceLE → zH, reduceLT → zI
open List renaming set_cons_zero → zJ, set_cons_succ → zK
def idxP {α : Type} (p : α → Bool) (l : List α) : Int := match scan (tst (fun _ y => !p y) (fun (i : Nat) _ => i + 1) (fun i _ => (i : Int))) 0 l with
  | .go _ => -1
  | .out k => k
def findD (c i : Int) : D := .tup [.v (.int .i64 (bif decide (c = 0) then (bif decide (i < 0) then 0 else i) else 0)), .v (.int .i64 (bif decide (c = 0) then (bif decide (i < 0) then 6 else 0) else c))]
def TOKs (m : Mc) : Prop := ∀ i ∈ m.instrs, ∀ e ∈ i.effects, TOK e.addr ∧ TOK e.value ∧ TOK e.cond
theorem idxP_neg {α : Type} {p : α → Bool} {l : List α} : decide (idxP p l < 0) = !l.any p := by
  have key : ∀ (l : List α) (i : Nat), decide ((match scan (tst (fun _ y => !p y) (fun (i : Nat) _ => i + 1) (fun i _ => (i : Int))) i l with | .go _ => -1 | .out k => k) < 0) = !l.any p := by
    intro l
    induction l with
    | nil => intro i; rfl
    | cons y l ih =>
      intro i
      simp only [scan, tst, List.any_cons]
      cases hp : p y
      · simp only [Bool.not_false, if_true, Bool.false_or]; exact ih (i + 1)
      · simp
  exact key l 0
theorem c_clR (C : Ctx) (N : Nat) (r : Rg) (s : ByteArray) (id nx : Nat) (hp : List (Nat × Blk)) (hk : Hk nx hp) (hid : id < nx) (hl : lkh hp id = some (.box [.v (.string s)])) :
    gcr nx (run C N ir81 [.agg r.d, .ptr id 0] hp nx) = some (.v (.bool (decide (r.name = s))), hp, nx) := by
  have h1 : (id = nx) = False := by simp; omega
  have ha := hk.a
  have hb := hk.b
  simp -dsimp only [run_eq, ir81, Rg.d, hl, h1, ha, hb, EVs, ↓EVd, ↓reduceIte, zA, zB, zC, zD, zE, zF, reduceBEq, reduceCtorEq, zG, zH, zI, zJ, zK, dcells, okc]
theorem c_clI (C : Ctx) (N : Nat) (r : Ins) (s : ByteArray) (id nx : Nat) (hp : List (Nat × Blk)) (hk : Hk nx hp) (hid : id < nx) (hl : lkh hp id = some (.box [.v (.string s)])) :
    gcr nx (run C N ir83 [.agg r.d, .ptr id 0] hp nx) = some (.v (.bool (decide (r.name = s))), hp, nx) := by
  have h1 : (id = nx) = False := by simp; omega
  have ha := hk.a
  have hb := hk.b
  simp -dsimp only [run_eq, ir83, Ins.d, hl, h1, ha, hb, EVs, ↓EVd, ↓reduceIte, zA, zB, zC, zD, zE, zF, reduceBEq, reduceCtorEq, zG, zH, zI, zJ, zK, dcells, okc]
theorem c_IdxFR (C : Ctx) (N : Nat) (hN : maxLen + 10 < N) (f : Nat) (hT : C.T f = none) (p : Rg → Bool)
    (ts : List Rg) (b : Bool) (id nx : Nat) (hp : List (Nat × Blk)) (hk : Hk nx hp) (hid : id < nx) (hcal : ∀ t : Rg, C.cal f [.agg t.d, .ptr id 0] hp nx = some (.v (.bool (p t)), hp, nx)) (hl' : ts.length ≤ maxLen) :
    gcr nx (run C N ir121 [.lst b (ts.map Rg.d), .fn f [.ptr id 0]] hp nx) = some (.v (.int .i64 (idxP p ts)), hp, nx) := by
  have ha := hk.a
  have hb := hk.b
  have h1 : decide (id < nx) = true := decide_eq_true hid
  simp -dsimp only [run_eq, ir121, EVs, ↓EVd, ↓reduceIte, zA, zB, zC, zD, zE, zF, reduceBEq, reduceCtorEq, zG, zH, zI, zJ, zK, dcells, okc]
  generalize hI : iter _ _ _ _ = I
  revert I
  refine iter_test ts (fun i _ => ⟨[(0, .lst b (ts.map Rg.d)), (1, .fn f [.ptr id 0]), (7, .v (.int .i64 ts.length)), (8, .v (.int .i64 i))], hp, nx⟩) (fun (_ : Nat) y => !p y) (fun i _ => i + 1) (fun i _ => (i : Int)) (fun i a => a = i) 0 hl' hN ?_ rfl ?_ ?_ ?_
  · simp -dsimp only [ha, hb, h1, EVs, ↓EVd, ↓reduceIte, zA, zB, zC, zD, zE, zF, reduceBEq, reduceCtorEq, zG, zH, zI, zJ, zK, dcells, okc]
  · rintro _ i y hi hw hy rfl
    refine ⟨?_, fun _ => rfl⟩
    have hc := hcal y
    simp only [Rg.d] at hc
    simp -dsimp only [lp121x0, hi, hw, hy, Rg.d, hT, hc, ha, hb, h1, EVs, ↓EVd, ↓reduceIte, zA, zB, zC, zD, zE, zF, reduceBEq, reduceCtorEq, zG, zH, zI, zJ, zK, dcells, okc]
    repeat' ((first | with_reducible refine gb_split (fun _ => ?_) (fun _ => ?_) | with_reducible refine gb_splitr (fun _ => ?_) (fun _ => ?_)) <;> (try simp -dsimp only [lp121x0, hi, hw, hy, Rg.d, hT, hc, ha, hb, h1, EVs, ↓EVd, ↓reduceIte, zA, zB, zC, zD, zE, zF, reduceBEq, reduceCtorEq, zG, zH, zI, zJ, zK, dcells, okc, *]))
  · rintro _ i y hi hy rfl hs
    have hc := hcal y
    simp only [Rg.d] at hc
    simp -dsimp only [lp121x0, hi, hy, Rg.d, hT, hc, idxP, hs, ha, hb, EVs, ↓EVd, ↓reduceIte, zA, zB, zC, zD, zE, zF, reduceBEq, reduceCtorEq, zG, zH, zI, zJ, zK, dcells, okc]
    repeat' ((first | with_reducible refine gb_split (fun _ => ?_) (fun _ => ?_) | with_reducible refine gb_splitr (fun _ => ?_) (fun _ => ?_)) <;> (try simp -dsimp only [lp121x0, hi, hy, Rg.d, hT, hc, idxP, hs, ha, hb, EVs, ↓EVd, ↓reduceIte, zA, zB, zC, zD, zE, zF, reduceBEq, reduceCtorEq, zG, zH, zI, zJ, zK, dcells, okc, *]))
  · rintro _ rfl hs
    simp -dsimp only [lp121x0, idxP, hs, ha, hb, EVs, ↓EVd, ↓reduceIte, zA, zB, zC, zD, zE, zF, reduceBEq, reduceCtorEq, zG, zH, zI, zJ, zK, dcells, okc]
theorem c_IdxFI (C : Ctx) (N : Nat) (hN : maxLen + 10 < N) (f : Nat) (hT : C.T f = none) (p : Ins → Bool)
    (ts : List Ins) (b : Bool) (id nx : Nat) (hp : List (Nat × Blk)) (hk : Hk nx hp) (hid : id < nx) (hcal : ∀ t : Ins, C.cal f [.agg t.d, .ptr id 0] hp nx = some (.v (.bool (p t)), hp, nx)) (hl' : ts.length ≤ maxLen) :
    gcr nx (run C N ir122 [.lst b (ts.map Ins.d), .fn f [.ptr id 0]] hp nx) = some (.v (.int .i64 (idxP p ts)), hp, nx) := by
  have ha := hk.a
  have hb := hk.b
  have h1 : decide (id < nx) = true := decide_eq_true hid
  simp -dsimp only [run_eq, ir122, EVs, ↓EVd, ↓reduceIte, zA, zB, zC, zD, zE, zF, reduceBEq, reduceCtorEq, zG, zH, zI, zJ, zK, dcells, okc]
  generalize hI : iter _ _ _ _ = I
  revert I
  refine iter_test ts (fun i _ => ⟨[(0, .lst b (ts.map Ins.d)), (1, .fn f [.ptr id 0]), (7, .v (.int .i64 ts.length)), (8, .v (.int .i64 i))], hp, nx⟩) (fun (_ : Nat) y => !p y) (fun i _ => i + 1) (fun i _ => (i : Int)) (fun i a => a = i) 0 hl' hN ?_ rfl ?_ ?_ ?_
  · simp -dsimp only [ha, hb, h1, EVs, ↓EVd, ↓reduceIte, zA, zB, zC, zD, zE, zF, reduceBEq, reduceCtorEq, zG, zH, zI, zJ, zK, dcells, okc]
  · rintro _ i y hi hw hy rfl
    refine ⟨?_, fun _ => rfl⟩
    have hc := hcal y
    simp only [Ins.d] at hc
    simp -dsimp only [lp122x0, hi, hw, hy, Ins.d, hT, hc, ha, hb, h1, EVs, ↓EVd, ↓reduceIte, zA, zB, zC, zD, zE, zF, reduceBEq, reduceCtorEq, zG, zH, zI, zJ, zK, dcells, okc]
    repeat' ((first | with_reducible refine gb_split (fun _ => ?_) (fun _ => ?_) | with_reducible refine gb_splitr (fun _ => ?_) (fun _ => ?_)) <;> (try simp -dsimp only [lp122x0, hi, hw, hy, Ins.d, hT, hc, ha, hb, h1, EVs, ↓EVd, ↓reduceIte, zA, zB, zC, zD, zE, zF, reduceBEq, reduceCtorEq, zG, zH, zI, zJ, zK, dcells, okc, *]))
  · rintro _ i y hi hy rfl hs
    have hc := hcal y
    simp only [Ins.d] at hc
    simp -dsimp only [lp122x0, hi, hy, Ins.d, hT, hc, idxP, hs, ha, hb, EVs, ↓EVd, ↓reduceIte, zA, zB, zC, zD, zE, zF, reduceBEq, reduceCtorEq, zG, zH, zI, zJ, zK, dcells, okc]
    repeat' ((first | with_reducible refine gb_split (fun _ => ?_) (fun _ => ?_) | with_reducible refine gb_splitr (fun _ => ?_) (fun _ => ?_)) <;> (try simp -dsimp only [lp122x0, hi, hy, Ins.d, hT, hc, idxP, hs, ha, hb, EVs, ↓EVd, ↓reduceIte, zA, zB, zC, zD, zE, zF, reduceBEq, reduceCtorEq, zG, zH, zI, zJ, zK, dcells, okc, *]))
  · rintro _ rfl hs
    simp -dsimp only [lp122x0, idxP, hs, ha, hb, EVs, ↓EVd, ↓reduceIte, zA, zB, zC, zD, zE, zF, reduceBEq, reduceCtorEq, zG, zH, zI, zJ, zK, dcells, okc]
def hS (m : Mc) (s : ByteArray) : List (Nat × Blk) := [(1, .box [.v (.string s)]), (0, .box m.d)]
theorem hS_hk (m : Mc) (s : ByteArray) : Hk 3 ((2, .box m.d) :: hS m s) := ⟨by simp -dsimp only [hS, Mc.d, EVs, ↓EVd, ↓reduceIte, zA, zB, zC, zD, zE, zF, reduceBEq, reduceCtorEq, zG, zH, zI, zJ, zK, dcells, okc], by simp -dsimp only [hS, Mc.d, EVs, ↓EVd, ↓reduceIte, zA, zB, zC, zD, zE, zF, reduceBEq, reduceCtorEq, zG, zH, zI, zJ, zK, dcells, okc]⟩
theorem c_findR (C : Ctx) (N : Nat) (m : Mc) (s : ByteArray) (k : Int) (t1 : TOKs m) (hM : C.T 14 = some s_ChkM) (hT : C.T 121 = none)
    (hcal : C.cal 121 [.lst false (m.regs.map Rg.d), .fn 81 [.ptr 1 0]] ((2, .box m.d) :: hS m s) 3 = some (.v (.int .i64 k), (2, .box m.d) :: hS m s, 3)) :
    gcr 2 (run C N ir80 [.agg m.d, .lst false (m.regs.map Rg.d), .fn 81 [.ptr 1 0]] (hS m s) 2) = some (findD (chkM m) k, hS m s, 2) := by
  have eM := @e_ChkM m t1
  simp only [Mc.d, hS] at eM hcal
  unfold findD
  cases h0 : decide (chkM m = 0)
  · simp -dsimp only [run_eq, ir80, hS, Mc.d, hM, eM, h0, EVs, ↓EVd, ↓reduceIte, zA, zB, zC, zD, zE, zF, reduceBEq, reduceCtorEq, zG, zH, zI, zJ, zK, dcells, okc]
  have h0' : chkM m = 0 := by simpa using h0
  cases h1 : decide (k < 0)
  · simp -dsimp only [run_eq, ir80, hS, Mc.d, hM, eM, h0, h0', hT, hcal, h1, EVs, ↓EVd, ↓reduceIte, zA, zB, zC, zD, zE, zF, reduceBEq, reduceCtorEq, zG, zH, zI, zJ, zK, dcells, okc]
  · simp -dsimp only [run_eq, ir80, hS, Mc.d, hM, eM, h0, h0', hT, hcal, h1, EVs, ↓EVd, ↓reduceIte, zA, zB, zC, zD, zE, zF, reduceBEq, reduceCtorEq, zG, zH, zI, zJ, zK, dcells, okc]
theorem c_findI (C : Ctx) (N : Nat) (m : Mc) (s : ByteArray) (k : Int) (t1 : TOKs m) (hM : C.T 14 = some s_ChkM) (hT : C.T 122 = none)
    (hcal : C.cal 122 [.lst false (m.instrs.map Ins.d), .fn 83 [.ptr 1 0]] ((2, .box m.d) :: hS m s) 3 = some (.v (.int .i64 k), (2, .box m.d) :: hS m s, 3)) :
    gcr 2 (run C N ir82 [.agg m.d, .lst false (m.instrs.map Ins.d), .fn 83 [.ptr 1 0]] (hS m s) 2) = some (findD (chkM m) k, hS m s, 2) := by
  have eM := @e_ChkM m t1
  simp only [Mc.d, hS] at eM hcal
  unfold findD
  cases h0 : decide (chkM m = 0)
  · simp -dsimp only [run_eq, ir82, hS, Mc.d, hM, eM, h0, EVs, ↓EVd, ↓reduceIte, zA, zB, zC, zD, zE, zF, reduceBEq, reduceCtorEq, zG, zH, zI, zJ, zK, dcells, okc]
  have h0' : chkM m = 0 := by simpa using h0
  cases h1 : decide (k < 0)
  · simp -dsimp only [run_eq, ir82, hS, Mc.d, hM, eM, h0, h0', hT, hcal, h1, EVs, ↓EVd, ↓reduceIte, zA, zB, zC, zD, zE, zF, reduceBEq, reduceCtorEq, zG, zH, zI, zJ, zK, dcells, okc]
  · simp -dsimp only [run_eq, ir82, hS, Mc.d, hM, eM, h0, h0', hT, hcal, h1, EVs, ↓EVd, ↓reduceIte, zA, zB, zC, zD, zE, zF, reduceBEq, reduceCtorEq, zG, zH, zI, zJ, zK, dcells, okc]
def regI (m : Mc) (s : ByteArray) : Int := idxP (fun r : Rg => decide (r.name = s)) m.regs
def insI (m : Mc) (s : ByteArray) : Int := idxP (fun r : Ins => decide (r.name = s)) m.instrs
def x_RegF (a : Mc × ByteArray) : List D := match a with | (m, s) => [.agg m.d, .v (.string s)]
theorem i_RegF : ∀ a b, x_RegF a = x_RegF b → a = b := by
  rintro ⟨m, s⟩ ⟨m', s'⟩ h
  first | simpa [x_RegF, INJ, and_assoc, Int.ofNat_inj] using h | (simp [x_RegF, INJ, and_assoc, Int.ofNat_inj] at h; simp_all)
open Classical in
noncomputable def s_RegF : List D → Option D := sOf x_RegF fun a => match a with | (m, s) => if (TOKs m) then some (findD (chkM m) (regI m s)) else none
theorem e_RegF {m : Mc} {s : ByteArray} (hc : (TOKs m)) : s_RegF [.agg m.d, .v (.string s)] = some (findD (chkM m) (regI m s)) := (sOf_eq i_RegF (m, s)).trans (if_pos hc)
theorem R_RegF {C : Ctx} {F : IFun} (hspec : ∀ N, maxLen + 10 < N → ∀ (m : Mc) (s : ByteArray), lenOK.lenOKs [.agg m.d, .v (.string s)] → (TOKs m) → runE C N F [.agg m.d, .v (.string s)] = some (findD (chkM m) (regI m s))) : Runs C F (s_RegF) := runs_of i_RegF fun N hN a r hl hf => by
  obtain ⟨m, s⟩ := a
  simp only [Option.ite_none_right_eq_some, Option.some.injEq] at hf
  obtain ⟨hc, rfl⟩ := hf
  exact hspec N hN m s hl hc
theorem r_Register (C : Ctx) (hT : C.T 80 = none) (hcal : ∀ (m : Mc) (s : ByteArray), TOKs m → m.regs.length ≤ maxLen → C.cal 80 [.agg m.d, .lst false (m.regs.map Rg.d), .fn 81 [.ptr 1 0]] (hS m s) 2 = some (findD (chkM m) (regI m s), hS m s, 2)) : Runs C ir18 s_RegF := R_RegF fun N hN m s hl hc => by
  have hll : m.regs.length ≤ maxLen := by simp only [Mc.d, EVl, List.length_map] at hl; exact hl.1.2.2.2.1.1
  have h1 := hcal m s hc hll
  simp only [Mc.d, hS, findD] at h1
  simp -dsimp only [runE, run_eq, ir18, Mc.d, hT, h1, findD, EVs, ↓EVd, ↓reduceIte, zA, zB, zC, zD, zE, zF, reduceBEq, reduceCtorEq, zG, zH, zI, zJ, zK, dcells, okc]
def x_InsF (a : Mc × ByteArray) : List D := match a with | (m, s) => [.agg m.d, .v (.string s)]
theorem i_InsF : ∀ a b, x_InsF a = x_InsF b → a = b := by
  rintro ⟨m, s⟩ ⟨m', s'⟩ h
  first | simpa [x_InsF, INJ, and_assoc, Int.ofNat_inj] using h | (simp [x_InsF, INJ, and_assoc, Int.ofNat_inj] at h; simp_all)
open Classical in
noncomputable def s_InsF : List D → Option D := sOf x_InsF fun a => match a with | (m, s) => if (TOKs m) then some (findD (chkM m) (insI m s)) else none
theorem e_InsF {m : Mc} {s : ByteArray} (hc : (TOKs m)) : s_InsF [.agg m.d, .v (.string s)] = some (findD (chkM m) (insI m s)) := (sOf_eq i_InsF (m, s)).trans (if_pos hc)
theorem R_InsF {C : Ctx} {F : IFun} (hspec : ∀ N, maxLen + 10 < N → ∀ (m : Mc) (s : ByteArray), lenOK.lenOKs [.agg m.d, .v (.string s)] → (TOKs m) → runE C N F [.agg m.d, .v (.string s)] = some (findD (chkM m) (insI m s))) : Runs C F (s_InsF) := runs_of i_InsF fun N hN a r hl hf => by
  obtain ⟨m, s⟩ := a
  simp only [Option.ite_none_right_eq_some, Option.some.injEq] at hf
  obtain ⟨hc, rfl⟩ := hf
  exact hspec N hN m s hl hc
theorem r_Instruction (C : Ctx) (hT : C.T 82 = none) (hcal : ∀ (m : Mc) (s : ByteArray), TOKs m → m.instrs.length ≤ maxLen → C.cal 82 [.agg m.d, .lst false (m.instrs.map Ins.d), .fn 83 [.ptr 1 0]] (hS m s) 2 = some (findD (chkM m) (insI m s), hS m s, 2)) : Runs C ir20 s_InsF := R_InsF fun N hN m s hl hc => by
  have hll : m.instrs.length ≤ maxLen := by simp only [Mc.d, EVl, List.length_map] at hl; exact hl.1.2.2.2.2.2.2.1.1
  have h1 := hcal m s hc hll
  simp only [Mc.d, hS, findD] at h1
  simp -dsimp only [runE, run_eq, ir20, Mc.d, hT, h1, findD, EVs, ↓EVd, ↓reduceIte, zA, zB, zC, zD, zE, zF, reduceBEq, reduceCtorEq, zG, zH, zI, zJ, zK, dcells, okc]
def x_RegF8 (a : Mc × ByteArray) : List D := match a with | (m, s) => [.agg m.d, .v (.string s)]
theorem i_RegF8 : ∀ a b, x_RegF8 a = x_RegF8 b → a = b := by
  rintro ⟨m, s⟩ ⟨m', s'⟩ h
  first | simpa [x_RegF8, INJ, and_assoc, Int.ofNat_inj] using h | (simp [x_RegF8, INJ, and_assoc, Int.ofNat_inj] at h; simp_all)
open Classical in
noncomputable def s_RegF8 : List D → Option D := sOf x_RegF8 fun a => match a with | (m, s) => if (MZ m) then some (findD (chkR m) (regI m s)) else none
theorem e_RegF8 {m : Mc} {s : ByteArray} (hc : (MZ m)) : s_RegF8 [.agg m.d, .v (.string s)] = some (findD (chkR m) (regI m s)) := (sOf_eq i_RegF8 (m, s)).trans (if_pos hc)
theorem R_RegF8 {C : Ctx} {F : IFun} (hspec : ∀ N, maxLen + 10 < N → ∀ (m : Mc) (s : ByteArray), lenOK.lenOKs [.agg m.d, .v (.string s)] → (MZ m) → runE C N F [.agg m.d, .v (.string s)] = some (findD (chkR m) (regI m s))) : Runs C F (s_RegF8) := runs_of i_RegF8 fun N hN a r hl hf => by
  obtain ⟨m, s⟩ := a
  simp only [Option.ite_none_right_eq_some, Option.some.injEq] at hf
  obtain ⟨hc, rfl⟩ := hf
  exact hspec N hN m s hl hc
theorem r_Register8 (C : Ctx) (hM : C.T 15 = some s_ChkR) : Runs C ir19 s_RegF8 := R_RegF8 fun N hN m s hl hc => by
  have hll : m.regs.length ≤ maxLen := by simp only [Mc.d, EVl, List.length_map] at hl; exact hl.1.2.2.2.1.1
  have eM := @e_ChkR m hc
  simp only [Mc.d] at eM
  unfold findD
  cases h0 : decide (chkR m = 0)
  · simp -dsimp only [runE, run_eq, ir19, Mc.d, hM, eM, h0, EVs, ↓EVd, ↓reduceIte, zA, zB, zC, zD, zE, zF, reduceBEq, reduceCtorEq, zG, zH, zI, zJ, zK, dcells, okc]
  simp -dsimp only [runE, run_eq, ir19, Mc.d, hM, eM, h0, EVs, ↓EVd, ↓reduceIte, zA, zB, zC, zD, zE, zF, reduceBEq, reduceCtorEq, zG, zH, zI, zJ, zK, dcells, okc]
  generalize hI : iter _ _ _ _ = I
  revert I
  refine iter_test m.regs (fun j _ => ⟨[(1, .v (.string s)), (2, .ptr 0 0), (7, .v (.int .i64 j))], [(0, .box m.d)], 1⟩) (fun (_ : Nat) (r : Rg) => !decide (r.name = s)) (fun i _ => i + 1) (fun i _ => (i : Int)) (fun i a => a = i) 0 hll hN ?_ rfl ?_ ?_ ?_
  · simp -dsimp only [Mc.d, EVs, ↓EVd, ↓reduceIte, zA, zB, zC, zD, zE, zF, reduceBEq, reduceCtorEq, zG, zH, zI, zJ, zK, dcells, okc]
  · rintro _ j r hj hjw hr rfl
    refine ⟨?_, fun _ => rfl⟩
    simp -dsimp only [lp19x0, hj, hjw, hr, Mc.d, Rg.d, EVs, ↓EVd, ↓reduceIte, zA, zB, zC, zD, zE, zF, reduceBEq, reduceCtorEq, zG, zH, zI, zJ, zK, dcells, okc]
    repeat' ((first | with_reducible refine gb_split (fun _ => ?_) (fun _ => ?_) | with_reducible refine gb_splitr (fun _ => ?_) (fun _ => ?_)) <;> (try simp -dsimp only [lp19x0, hj, hjw, hr, Mc.d, Rg.d, EVs, ↓EVd, ↓reduceIte, zA, zB, zC, zD, zE, zF, reduceBEq, reduceCtorEq, zG, zH, zI, zJ, zK, dcells, okc, *]))
  · rintro _ j r hj hr rfl hs
    have hi : regI m s = (j : Int) := by unfold regI idxP; rw [hs]
    have hn : decide ((j : Int) < 0) = false := decide_eq_false (by omega)
    simp -dsimp only [lp19x0, hj, hr, Mc.d, Rg.d, hi, hn, EVs, ↓EVd, ↓reduceIte, zA, zB, zC, zD, zE, zF, reduceBEq, reduceCtorEq, zG, zH, zI, zJ, zK, dcells, okc]
    repeat' ((first | with_reducible refine gb_split (fun _ => ?_) (fun _ => ?_) | with_reducible refine gb_splitr (fun _ => ?_) (fun _ => ?_)) <;> (try simp -dsimp only [lp19x0, hj, hr, Mc.d, Rg.d, hi, hn, EVs, ↓EVd, ↓reduceIte, zA, zB, zC, zD, zE, zF, reduceBEq, reduceCtorEq, zG, zH, zI, zJ, zK, dcells, okc, *]))
  · rintro _ rfl hs
    have hi : regI m s = -1 := by unfold regI idxP; rw [hs]
    have hn : decide ((-1 : Int) < 0) = true := rfl
    simp -dsimp only [lp19x0, Mc.d, hi, hn, EVs, ↓EVd, ↓reduceIte, zA, zB, zC, zD, zE, zF, reduceBEq, reduceCtorEq, zG, zH, zI, zJ, zK, dcells, okc]
def x_InsF8 (a : Mc × ByteArray) : List D := match a with | (m, s) => [.agg m.d, .v (.string s)]
theorem i_InsF8 : ∀ a b, x_InsF8 a = x_InsF8 b → a = b := by
  rintro ⟨m, s⟩ ⟨m', s'⟩ h
  first | simpa [x_InsF8, INJ, and_assoc, Int.ofNat_inj] using h | (simp [x_InsF8, INJ, and_assoc, Int.ofNat_inj] at h; simp_all)
open Classical in
noncomputable def s_InsF8 : List D → Option D := sOf x_InsF8 fun a => match a with | (m, s) => if (MZ m) then some (findD (chkR m) (insI m s)) else none
theorem e_InsF8 {m : Mc} {s : ByteArray} (hc : (MZ m)) : s_InsF8 [.agg m.d, .v (.string s)] = some (findD (chkR m) (insI m s)) := (sOf_eq i_InsF8 (m, s)).trans (if_pos hc)
theorem R_InsF8 {C : Ctx} {F : IFun} (hspec : ∀ N, maxLen + 10 < N → ∀ (m : Mc) (s : ByteArray), lenOK.lenOKs [.agg m.d, .v (.string s)] → (MZ m) → runE C N F [.agg m.d, .v (.string s)] = some (findD (chkR m) (insI m s))) : Runs C F (s_InsF8) := runs_of i_InsF8 fun N hN a r hl hf => by
  obtain ⟨m, s⟩ := a
  simp only [Option.ite_none_right_eq_some, Option.some.injEq] at hf
  obtain ⟨hc, rfl⟩ := hf
  exact hspec N hN m s hl hc
theorem r_Instruction8 (C : Ctx) (hM : C.T 15 = some s_ChkR) : Runs C ir21 s_InsF8 := R_InsF8 fun N hN m s hl hc => by
  have hll : m.instrs.length ≤ maxLen := by simp only [Mc.d, EVl, List.length_map] at hl; exact hl.1.2.2.2.2.2.2.1.1
  have eM := @e_ChkR m hc
  simp only [Mc.d] at eM
  unfold findD
  cases h0 : decide (chkR m = 0)
  · simp -dsimp only [runE, run_eq, ir21, Mc.d, hM, eM, h0, EVs, ↓EVd, ↓reduceIte, zA, zB, zC, zD, zE, zF, reduceBEq, reduceCtorEq, zG, zH, zI, zJ, zK, dcells, okc]
  simp -dsimp only [runE, run_eq, ir21, Mc.d, hM, eM, h0, EVs, ↓EVd, ↓reduceIte, zA, zB, zC, zD, zE, zF, reduceBEq, reduceCtorEq, zG, zH, zI, zJ, zK, dcells, okc]
  generalize hI : iter _ _ _ _ = I
  revert I
  refine iter_test m.instrs (fun j _ => ⟨[(1, .v (.string s)), (2, .ptr 0 0), (7, .v (.int .i64 j))], [(0, .box m.d)], 1⟩) (fun (_ : Nat) (r : Ins) => !decide (r.name = s)) (fun i _ => i + 1) (fun i _ => (i : Int)) (fun i a => a = i) 0 hll hN ?_ rfl ?_ ?_ ?_
  · simp -dsimp only [Mc.d, EVs, ↓EVd, ↓reduceIte, zA, zB, zC, zD, zE, zF, reduceBEq, reduceCtorEq, zG, zH, zI, zJ, zK, dcells, okc]
  · rintro _ j r hj hjw hr rfl
    refine ⟨?_, fun _ => rfl⟩
    simp -dsimp only [lp21x0, hj, hjw, hr, Mc.d, Ins.d, EVs, ↓EVd, ↓reduceIte, zA, zB, zC, zD, zE, zF, reduceBEq, reduceCtorEq, zG, zH, zI, zJ, zK, dcells, okc]
    repeat' ((first | with_reducible refine gb_split (fun _ => ?_) (fun _ => ?_) | with_reducible refine gb_splitr (fun _ => ?_) (fun _ => ?_)) <;> (try simp -dsimp only [lp21x0, hj, hjw, hr, Mc.d, Ins.d, EVs, ↓EVd, ↓reduceIte, zA, zB, zC, zD, zE, zF, reduceBEq, reduceCtorEq, zG, zH, zI, zJ, zK, dcells, okc, *]))
  · rintro _ j r hj hr rfl hs
    have hi : insI m s = (j : Int) := by unfold insI idxP; rw [hs]
    have hn : decide ((j : Int) < 0) = false := decide_eq_false (by omega)
    simp -dsimp only [lp21x0, hj, hr, Mc.d, Ins.d, hi, hn, EVs, ↓EVd, ↓reduceIte, zA, zB, zC, zD, zE, zF, reduceBEq, reduceCtorEq, zG, zH, zI, zJ, zK, dcells, okc]
    repeat' ((first | with_reducible refine gb_split (fun _ => ?_) (fun _ => ?_) | with_reducible refine gb_splitr (fun _ => ?_) (fun _ => ?_)) <;> (try simp -dsimp only [lp21x0, hj, hr, Mc.d, Ins.d, hi, hn, EVs, ↓EVd, ↓reduceIte, zA, zB, zC, zD, zE, zF, reduceBEq, reduceCtorEq, zG, zH, zI, zJ, zK, dcells, okc, *]))
  · rintro _ rfl hs
    have hi : insI m s = -1 := by unfold insI idxP; rw [hs]
    have hn : decide ((-1 : Int) < 0) = true := rfl
    simp -dsimp only [lp21x0, Mc.d, hi, hn, EVs, ↓EVd, ↓reduceIte, zA, zB, zC, zD, zE, zF, reduceBEq, reduceCtorEq, zG, zH, zI, zJ, zK, dcells, okc]
end Go.Proofs.Dv
set_option linter.unusedVariables false
set_option linter.unusedSimpArgs false
set_option maxRecDepth 100000
namespace Go.Proofs.Dv
open Go.RowKit
open Nat renaming reduceEqDiff → zA, reduceAdd → zB, reduceSub → zC, reduceLeDiff → zD, reduceLT → zE, reduceMul → zF
open Int renaming reduceToNat → zG, reduceLE → zH, reduceLT → zI
open List renaming set_cons_zero → zJ, set_cons_succ → zK
def topsAux : Nat → List Rg → List Int
  | _, [] => []
  | i, r :: rs => if r.of_ = -1 then (i : Int) :: topsAux (i + 1) rs else topsAux (i + 1) rs
def topsL (m : Mc) : List Int := topsAux 0 m.regs
def topStep (a : Nat × List Int) (r : Rg) : Nat × List Int := (a.1 + 1, if r.of_ = -1 then a.2 ++ [(a.1 : Int)] else a.2)
theorem tops_fold : ∀ (rs : List Rg) (i : Nat) (l : List Int), (rs.foldl topStep (i, l)).2 = l ++ topsAux i rs
  | [], i, l => by simp [topsAux]
  | r :: rs, i, l => by
    rw [List.foldl_cons, topsAux]
    by_cases h : r.of_ = -1
    · rw [if_pos h, topStep, if_pos h, tops_fold rs]; simp
    · rw [if_neg h, topStep, if_neg h, tops_fold rs]
theorem tops_mem {x : Int} : ∀ (rs : List Rg) (k : Nat), x ∈ topsAux k rs ↔ ∃ (j : Nat) (r : Rg), rs[j]? = some r ∧ r.of_ = -1 ∧ x = ((k + j : Nat) : Int)
  | [], k => by simp [topsAux]
  | r :: rs, k => by
    rw [topsAux]
    have ih := tops_mem (x := x) rs (k + 1)
    constructor
    · intro h
      have h2 : (r.of_ = -1 ∧ x = (k : Int)) ∨ x ∈ topsAux (k + 1) rs := by
        split at h
        · rename_i hr
          rcases List.mem_cons.1 h with h | h
          · exact .inl ⟨hr, h⟩
          · exact .inr h
        · exact .inr h
      rcases h2 with ⟨hr, hx⟩ | h2
      · exact ⟨0, r, rfl, hr, hx⟩
      · obtain ⟨j, q, h3, h4, h5⟩ := ih.1 h2
        exact ⟨j + 1, q, by simpa using h3, h4, by rw [h5]; congr 1; omega⟩
    · rintro ⟨j, q, h3, h4, h5⟩
      cases j with
      | zero =>
        simp only [List.getElem?_cons_zero, Option.some.injEq] at h3
        subst h3
        rw [if_pos h4, h5]
        exact List.mem_cons_self
      | succ j =>
        have : x ∈ topsAux (k + 1) rs := ih.2 ⟨j, q, by simpa using h3, h4, by rw [h5]; congr 1; omega⟩
        split
        · exact List.mem_cons_of_mem _ this
        · exact this
theorem tops_sorted : ∀ (rs : List Rg) (k : Nat), (topsAux k rs).Pairwise (fun a b => a < b)
  | [], k => by rw [topsAux]; exact List.Pairwise.nil
  | r :: rs, k => by
    rw [topsAux]
    split
    · refine List.pairwise_cons.2 ⟨fun x hx => ?_, tops_sorted rs (k + 1)⟩
      obtain ⟨j, _, _, _, h⟩ := (tops_mem rs (k + 1)).1 hx
      rw [h]; omega
    · exact tops_sorted rs (k + 1)
theorem tops_len : ∀ (rs : List Rg) (k : Nat), (topsAux k rs).length ≤ rs.length
  | [], k => by simp [topsAux]
  | r :: rs, k => by
    rw [topsAux]
    have := tops_len rs (k + 1)
    split <;> simp only [List.length_cons] <;> omega
def x_TopsF (a : Mc) : List D := match a with | m => [.agg m.d]
theorem i_TopsF : ∀ a b, x_TopsF a = x_TopsF b → a = b := by
  rintro m m' h
  first | simpa [x_TopsF, INJ, and_assoc, Int.ofNat_inj] using h | (simp [x_TopsF, INJ, and_assoc, Int.ofNat_inj] at h; simp_all)
open Classical in
noncomputable def s_TopsF : List D → Option D := sOf x_TopsF fun a => match a with | m => if (m.regs.length ≤ 1000) then some (.lst false ((topsL m).map iD)) else none
theorem e_TopsF {m : Mc} (hc : (m.regs.length ≤ 1000)) : s_TopsF [.agg m.d] = some (.lst false ((topsL m).map iD)) := (sOf_eq i_TopsF m).trans (if_pos hc)
theorem R_TopsF {C : Ctx} {F : IFun} (hspec : ∀ N, maxLen + 10 < N → ∀ (m : Mc), lenOK.lenOKs [.agg m.d] → (m.regs.length ≤ 1000) → runE C N F [.agg m.d] = some (.lst false ((topsL m).map iD))) : Runs C F (s_TopsF) := runs_of i_TopsF fun N hN m r hl hf => by
  simp only [Option.ite_none_right_eq_some, Option.some.injEq] at hf
  obtain ⟨hc, rfl⟩ := hf
  exact hspec N hN m hl hc
theorem r_tops (C : Ctx) : Runs C ir84 s_TopsF := R_TopsF fun N hN m hl hc => by
  have hml := maxLen_ge
  have e0 : topsL m = (m.regs.foldl topStep (0, [])).2 := by rw [tops_fold]; rfl
  rw [e0]
  simp -dsimp only [runE, run_eq, ir84, Mc.d, EVs, ↓EVd, ↓reduceIte, zA, zB, zC, zD, zE, zF, reduceBEq, reduceCtorEq, zG, zH, zI, zJ, zK, dcells, okc]
  generalize hI : iter _ _ _ _ = I
  revert I
  refine iter_all m.regs (fun j a => ⟨[(3, .own 1 a.2.length), (7, .lst false (m.regs.map Rg.d)), (8, .v (.int .i64 m.regs.length)), (9, .v (.int .i64 j))], [(1, .row 1 (a.2.map iD)), (0, .box m.d)], 2⟩) topStep (fun j a => a.1 = j ∧ a.2.length ≤ j) (0, []) (by omega) hN ?_ ⟨rfl, Nat.le_refl _⟩ ?_ ?_
  · simp -dsimp only [Mc.d, EVs, ↓EVd, ↓reduceIte, zA, zB, zC, zD, zE, zF, reduceBEq, reduceCtorEq, zG, zH, zI, zJ, zK, dcells, okc]
  · rintro j ⟨a, l⟩ r hj hjw hr ⟨h1, h2⟩
    simp only at h1 h2
    subst h1
    have hil := (List.getElem?_eq_some_iff.1 hr).1
    have hb' : decide ((l.length + 1) * 8 ≤ 140737488355328) = true := decide_eq_true (by omega)
    refine ⟨?_, rfl, ?_⟩
    · by_cases h : r.of_ = -1
      · have h' : decide (r.of_ = -1) = true := decide_eq_true h
        have hst : topStep (a, l) r = (a + 1, l ++ [(a : Int)]) := by simp only [topStep, if_pos h]
        rw [hst]
        simp -dsimp only [lp84x0, Mc.d, Rg.d, iD, hj, hjw, hr, h', hb', List.length_append, List.map_append, EVs, ↓EVd, ↓reduceIte, zA, zB, zC, zD, zE, zF, reduceBEq, reduceCtorEq, zG, zH, zI, zJ, zK, dcells, okc]
      · have h' : decide (r.of_ = -1) = false := decide_eq_false h
        have hst : topStep (a, l) r = (a + 1, l) := by simp only [topStep, if_neg h]
        rw [hst]
        simp -dsimp only [lp84x0, Mc.d, Rg.d, iD, hj, hjw, hr, h', EVs, ↓EVd, ↓reduceIte, zA, zB, zC, zD, zE, zF, reduceBEq, reduceCtorEq, zG, zH, zI, zJ, zK, dcells, okc]
    · unfold topStep
      simp only
      split
      · simp only [List.length_append, List.length_singleton]; omega
      · omega
  · rintro ⟨h1, h2⟩
    simp -dsimp only [lp84x0, Mc.d, EVs, ↓EVd, ↓reduceIte, zA, zB, zC, zD, zE, zF, reduceBEq, reduceCtorEq, zG, zH, zI, zJ, zK, dcells, okc]
theorem r_Tops8 (C : Ctx) : Runs C ir85 s_TopsF := R_TopsF fun N hN m hl hc => by
  have hml := maxLen_ge
  have e0 : topsL m = (m.regs.foldl topStep (0, [])).2 := by rw [tops_fold]; rfl
  rw [e0]
  simp -dsimp only [runE, run_eq, ir85, Mc.d, EVs, ↓EVd, ↓reduceIte, zA, zB, zC, zD, zE, zF, reduceBEq, reduceCtorEq, zG, zH, zI, zJ, zK, dcells, okc]
  generalize hI : iter _ _ _ _ = I
  revert I
  refine iter_all m.regs (fun j a => ⟨[(1, .ptr 0 0), (3, .own 1 a.2.length), (4, .v (.int .i64 j))], [(1, .row 1 (a.2.map iD)), (0, .box m.d)], 2⟩) topStep (fun j a => a.1 = j ∧ a.2.length ≤ j) (0, []) (by omega) hN ?_ ⟨rfl, Nat.le_refl _⟩ ?_ ?_
  · simp -dsimp only [Mc.d, EVs, ↓EVd, ↓reduceIte, zA, zB, zC, zD, zE, zF, reduceBEq, reduceCtorEq, zG, zH, zI, zJ, zK, dcells, okc]
  · rintro j ⟨a, l⟩ r hj hjw hr ⟨h1, h2⟩
    simp only at h1 h2
    subst h1
    have hil := (List.getElem?_eq_some_iff.1 hr).1
    have hb' : decide ((l.length + 1) * 8 ≤ 140737488355328) = true := decide_eq_true (by omega)
    refine ⟨?_, rfl, ?_⟩
    · by_cases h : r.of_ = -1
      · have h' : decide (r.of_ = -1) = true := decide_eq_true h
        have hst : topStep (a, l) r = (a + 1, l ++ [(a : Int)]) := by simp only [topStep, if_pos h]
        rw [hst]
        simp -dsimp only [lp85x0, Mc.d, Rg.d, iD, hj, hjw, hr, h', hb', List.length_append, List.map_append, EVs, ↓EVd, ↓reduceIte, zA, zB, zC, zD, zE, zF, reduceBEq, reduceCtorEq, zG, zH, zI, zJ, zK, dcells, okc]
      · have h' : decide (r.of_ = -1) = false := decide_eq_false h
        have hst : topStep (a, l) r = (a + 1, l) := by simp only [topStep, if_neg h]
        rw [hst]
        simp -dsimp only [lp85x0, Mc.d, Rg.d, iD, hj, hjw, hr, h', EVs, ↓EVd, ↓reduceIte, zA, zB, zC, zD, zE, zF, reduceBEq, reduceCtorEq, zG, zH, zI, zJ, zK, dcells, okc]
    · unfold topStep
      simp only
      split
      · simp only [List.length_append, List.length_singleton]; omega
      · omega
  · rintro ⟨h1, h2⟩
    simp -dsimp only [lp85x0, Mc.d, EVs, ↓EVd, ↓reduceIte, zA, zB, zC, zD, zE, zF, reduceBEq, reduceCtorEq, zG, zH, zI, zJ, zK, dcells, okc]
def rootsD (m : Mc) (c : Int) : D := .tup [if c = 0 then .lst false ((topsL m).map iD) else .lst true [], .v (.int .i64 c)]
theorem chkM_regs {m : Mc} (h : chkM m = 0) : m.regs.length ≤ 64 := by
  unfold chkM at h
  cases hs : smallOK m with
  | false => rw [hs] at h; simp at h
  | true =>
    simp only [smallOK, Bool.and_eq_true] at hs
    have := fewB_le hs.1.1.1.1
    omega
theorem chkR_regs {m : Mc} (h : chkR m = 0) : m.regs.length ≤ 64 := by
  unfold chkR at h
  cases hs : smallOK m with
  | false => rw [hs] at h; simp at h
  | true =>
    simp only [smallOK, Bool.and_eq_true] at hs
    have := fewB_le hs.1.1.1.1
    omega
def x_RootsF (a : Mc) : List D := match a with | m => [.agg m.d]
theorem i_RootsF : ∀ a b, x_RootsF a = x_RootsF b → a = b := by
  rintro m m' h
  first | simpa [x_RootsF, INJ, and_assoc, Int.ofNat_inj] using h | (simp [x_RootsF, INJ, and_assoc, Int.ofNat_inj] at h; simp_all)
open Classical in
noncomputable def s_RootsF : List D → Option D := sOf x_RootsF fun a => match a with | m => if (TOKs m) then some (rootsD m (chkM m)) else none
theorem e_RootsF {m : Mc} (hc : (TOKs m)) : s_RootsF [.agg m.d] = some (rootsD m (chkM m)) := (sOf_eq i_RootsF m).trans (if_pos hc)
theorem R_RootsF {C : Ctx} {F : IFun} (hspec : ∀ N, maxLen + 10 < N → ∀ (m : Mc), lenOK.lenOKs [.agg m.d] → (TOKs m) → runE C N F [.agg m.d] = some (rootsD m (chkM m))) : Runs C F (s_RootsF) := runs_of i_RootsF fun N hN m r hl hf => by
  simp only [Option.ite_none_right_eq_some, Option.some.injEq] at hf
  obtain ⟨hc, rfl⟩ := hf
  exact hspec N hN m hl hc
theorem r_Roots (C : Ctx) (hM : C.T 14 = some s_ChkM) (hT : C.T 84 = some s_TopsF) : Runs C ir22 s_RootsF := R_RootsF fun N hN m hl hc => by
  have eM := @e_ChkM m hc
  simp only [Mc.d] at eM
  unfold rootsD
  cases h0 : decide (chkM m = 0)
  · rw [if_neg (by simpa using h0)]
    simp -dsimp only [runE, run_eq, ir22, Mc.d, hM, eM, h0, EVs, ↓EVd, ↓reduceIte, zA, zB, zC, zD, zE, zF, reduceBEq, reduceCtorEq, zG, zH, zI, zJ, zK, dcells, okc]
  · have h0' : chkM m = 0 := by simpa using h0
    have eT := @e_TopsF m (by have := chkM_regs h0'; omega)
    simp only [Mc.d] at eT
    rw [if_pos h0']
    simp -dsimp only [runE, run_eq, ir22, Mc.d, hM, eM, h0, h0', hT, eT, EVs, ↓EVd, ↓reduceIte, zA, zB, zC, zD, zE, zF, reduceBEq, reduceCtorEq, zG, zH, zI, zJ, zK, dcells, okc]
def x_RootsF8 (a : Mc) : List D := match a with | m => [.agg m.d]
theorem i_RootsF8 : ∀ a b, x_RootsF8 a = x_RootsF8 b → a = b := by
  rintro m m' h
  first | simpa [x_RootsF8, INJ, and_assoc, Int.ofNat_inj] using h | (simp [x_RootsF8, INJ, and_assoc, Int.ofNat_inj] at h; simp_all)
open Classical in
noncomputable def s_RootsF8 : List D → Option D := sOf x_RootsF8 fun a => match a with | m => if (MZ m) then some (rootsD m (chkR m)) else none
theorem e_RootsF8 {m : Mc} (hc : (MZ m)) : s_RootsF8 [.agg m.d] = some (rootsD m (chkR m)) := (sOf_eq i_RootsF8 m).trans (if_pos hc)
theorem R_RootsF8 {C : Ctx} {F : IFun} (hspec : ∀ N, maxLen + 10 < N → ∀ (m : Mc), lenOK.lenOKs [.agg m.d] → (MZ m) → runE C N F [.agg m.d] = some (rootsD m (chkR m))) : Runs C F (s_RootsF8) := runs_of i_RootsF8 fun N hN m r hl hf => by
  simp only [Option.ite_none_right_eq_some, Option.some.injEq] at hf
  obtain ⟨hc, rfl⟩ := hf
  exact hspec N hN m hl hc
theorem r_Roots8 (C : Ctx) (hM : C.T 15 = some s_ChkR) (hT : C.T 85 = some s_TopsF) : Runs C ir23 s_RootsF8 := R_RootsF8 fun N hN m hl hc => by
  have eM := @e_ChkR m hc
  simp only [Mc.d] at eM
  unfold rootsD
  cases h0 : decide (chkR m = 0)
  · rw [if_neg (by simpa using h0)]
    simp -dsimp only [runE, run_eq, ir23, Mc.d, hM, eM, h0, EVs, ↓EVd, ↓reduceIte, zA, zB, zC, zD, zE, zF, reduceBEq, reduceCtorEq, zG, zH, zI, zJ, zK, dcells, okc]
  · have h0' : chkR m = 0 := by simpa using h0
    have eT := @e_TopsF m (by have := chkR_regs h0'; omega)
    simp only [Mc.d] at eT
    rw [if_pos h0']
    simp -dsimp only [runE, run_eq, ir23, Mc.d, hM, eM, h0, h0', hT, eT, EVs, ↓EVd, ↓reduceIte, zA, zB, zC, zD, zE, zF, reduceBEq, reduceCtorEq, zG, zH, zI, zJ, zK, dcells, okc]
def x_NaN (a : Int) : List D := match a with | x => [.v (.int .i64 x)]
theorem i_NaN : ∀ a b, x_NaN a = x_NaN b → a = b := by
  rintro x x' h
  first | simpa [x_NaN, INJ, and_assoc, Int.ofNat_inj] using h | (simp [x_NaN, INJ, and_assoc, Int.ofNat_inj] at h; simp_all)
noncomputable def s_NaN : List D → Option D := sOf x_NaN fun a => match a with | x => some (.v (.bool false))
theorem e_NaN {x : Int} : s_NaN [.v (.int .i64 x)] = some (.v (.bool false)) := sOf_eq i_NaN x
theorem R_NaN {C : Ctx} {F : IFun} (hspec : ∀ N, maxLen + 10 < N → ∀ (x : Int), lenOK.lenOKs [.v (.int .i64 x)] → runE C N F [.v (.int .i64 x)] = some (.v (.bool false))) : Runs C F s_NaN := runs_of i_NaN fun N hN x r hl hf => by
  simp only [Option.some.injEq] at hf
  subst hf
  exact hspec N hN x hl
theorem r_isNaNc (C : Ctx) : Runs C ir158 s_NaN := R_NaN fun N hN x hl => by
  have hd : decide (x = x) = true := decide_eq_true rfl
  simp -dsimp only [runE, run_eq, ir158, hd, EVs, ↓EVd, ↓reduceIte, zA, zB, zC, zD, zE, zF, reduceBEq, reduceCtorEq, zG, zH, zI, zJ, zK, dcells, okc]
theorem r_isNaNs (C : Ctx) : Runs C ir124 s_NaN := R_NaN fun N hN x hl => by
  have hd : decide (x = x) = true := decide_eq_true rfl
  simp -dsimp only [runE, run_eq, ir124, hd, EVs, ↓EVd, ↓reduceIte, zA, zB, zC, zD, zE, zF, reduceBEq, reduceCtorEq, zG, zH, zI, zJ, zK, dcells, okc]
def x_LessI (a : Int × Int) : List D := match a with | (x, y) => [.v (.int .i64 x), .v (.int .i64 y)]
theorem i_LessI : ∀ a b, x_LessI a = x_LessI b → a = b := by
  rintro ⟨x, y⟩ ⟨x', y'⟩ h
  first | simpa [x_LessI, INJ, and_assoc, Int.ofNat_inj] using h | (simp [x_LessI, INJ, and_assoc, Int.ofNat_inj] at h; simp_all)
noncomputable def s_LessI : List D → Option D := sOf x_LessI fun a => match a with | (x, y) => some (.v (.bool (decide (x < y))))
theorem e_LessI {x : Int} {y : Int} : s_LessI [.v (.int .i64 x), .v (.int .i64 y)] = some (.v (.bool (decide (x < y)))) := sOf_eq i_LessI (x, y)
theorem R_LessI {C : Ctx} {F : IFun} (hspec : ∀ N, maxLen + 10 < N → ∀ (x : Int) (y : Int), lenOK.lenOKs [.v (.int .i64 x), .v (.int .i64 y)] → runE C N F [.v (.int .i64 x), .v (.int .i64 y)] = some (.v (.bool (decide (x < y))))) : Runs C F s_LessI := runs_of i_LessI fun N hN a r hl hf => by
  obtain ⟨x, y⟩ := a
  simp only [Option.some.injEq] at hf
  subst hf
  exact hspec N hN x y hl
theorem r_Less (C : Ctx) (hT : C.T 158 = some s_NaN) : Runs C ir123 s_LessI := R_LessI fun N hN x y hl => by
  simp -dsimp only [runE, run_eq, ir123, hT, e_NaN, EVs, ↓EVd, ↓reduceIte, zA, zB, zC, zD, zE, zF, reduceBEq, reduceCtorEq, zG, zH, zI, zJ, zK, dcells, okc]
end Go.Proofs.Dv
set_option linter.unusedVariables false
set_option linter.unusedSimpArgs false
set_option maxRecDepth 100000
namespace Go.Proofs.Dv
open Go.RowKit
open Nat renaming reduceEqDiff → zA, reduceAdd → zB, reduceSub → zC, reduceLeDiff → zD, reduceLT → zE, reduceMul → zF
open Int renaming reduceToNat → zG, reduceLE → zH, reduceLT → zI
open List renaming set_cons_zero → zJ, set_cons_succ → zK
theorem res_3 {fr : List (Nat × D)} {hp : List (Nat × Blk)} {r s t : RV} : resDs fr hp [r, s, t] = bd (resD fr hp r) fun a => bd (resD fr hp s) fun b => bd (resD fr hp t) fun c => some (.tup [a, b, c]) := by
  simp only [resDs, List.mapM_cons, List.mapM_nil, bd]
  cases resD fr hp r <;> cases resD fr hp s <;> cases resD fr hp t <;> rfl
theorem res_4 {fr : List (Nat × D)} {hp : List (Nat × Blk)} {r s t u : RV} : resDs fr hp [r, s, t, u] = bd (resD fr hp r) fun a => bd (resD fr hp s) fun b => bd (resD fr hp t) fun c => bd (resD fr hp u) fun d => some (.tup [a, b, c, d]) := by
  simp only [resDs, List.mapM_cons, List.mapM_nil, bd]
  cases resD fr hp r <;> cases resD fr hp s <;> cases resD fr hp t <;> cases resD fr hp u <;> rfl
theorem idx_at {x : Int} : ∀ (l : List Int) (n k : Nat), (∀ j y, j < k → l[j]? = some y → ¬ y = x) → l[k]? = some x → idx x l n = ((n + k : Nat) : Int)
  | [], n, k, _, h => by simp at h
  | y :: l, n, k, hn, h => by
    rw [idx]
    cases k with
    | zero =>
      simp only [List.getElem?_cons_zero, Option.some.injEq] at h
      rw [if_pos h.symm]; rfl
    | succ k =>
      have := hn 0 y (by omega) rfl
      rw [if_neg (fun e => this e.symm), idx_at l (n + 1) k (fun j z hj hz => hn (j + 1) z (by omega) (by simpa using hz)) (by simpa using h)]
      congr 1; omega
def bsH (l : List Int) (x : Int) (i j : Nat) : St := ⟨[(0, .lst false (l.map iD)), (1, .v (.int .i64 x)), (6, .v (.int .i64 l.length)), (7, .v (.int .i64 i)), (8, .v (.int .i64 j))], [], 0⟩
def bsE (l : List Int) (x : Int) (e : Nat) : St := ⟨[(15, .v (.bool false)), (14, .v (.int .i64 e)), (13, .v (.int .i64 e)), (0, .lst false (l.map iD)), (1, .v (.int .i64 x)), (6, .v (.int .i64 l.length)), (7, .v (.int .i64 e)), (8, .v (.int .i64 e))], [], 0⟩
theorem bs_loop (C : Ctx) (N : Nat) (hL : C.T 123 = some s_LessI) (l : List Int) (x : Int) (hl : l.length ≤ 1000) (hs : ∀ (a b : Nat) (y z : Int), a < b → l[a]? = some y → l[b]? = some z → y < z) : ∀ (d i j N' : Nat) (σ : St), j ≤ l.length → i ≤ j → j - i ≤ d → d < N' →
    (∀ (k : Nat) y, k < i → l[k]? = some y → y < x) → (∀ (k : Nat) y, j ≤ k → l[k]? = some y → x ≤ y) → trim [0, 1, 6, 7, 8] 0 σ = some (bsH l x i j) →
    ∃ e : Nat, e ≤ l.length ∧ (∀ (k : Nat) y, k < e → l[k]? = some y → y < x) ∧ (∀ (k : Nat) y, e ≤ k → l[k]? = some y → x ≤ y) ∧ iter (ev C N lp86x0) (trim [0, 1, 6, 7, 8] 0) N' σ = some (.ex 0, bsE l x e) := by
  intro d
  induction d with
  | zero =>
    intro i j N' σ hj hij hd hN h1 h2 h0
    obtain ⟨N', rfl⟩ : ∃ k, N' = k + 1 := ⟨N' - 1, by omega⟩
    obtain rfl : i = j := by omega
    refine ⟨i, hj, h1, h2, ?_⟩
    simp only [iter, h0, Option.bind_some]
    have : ev C N lp86x0 (bsH l x i i) = some (.ex 0, bsE l x i) := by simp -dsimp only [lp86x0, bsH, bsE, EVs, ↓EVd, ↓reduceIte, zA, zB, zC, zD, zE, zF, reduceBEq, reduceCtorEq, zG, zH, zI, zJ, zK, dcells, okc]
    rw [this]
  | succ d ih =>
    intro i j N' σ hj hij hd hN h1 h2 h0
    obtain ⟨N', rfl⟩ : ∃ k, N' = k + 1 := ⟨N' - 1, by omega⟩
    by_cases he : i = j
    · subst he
      refine ⟨i, hj, h1, h2, ?_⟩
      simp only [iter, h0, Option.bind_some]
      have : ev C N lp86x0 (bsH l x i i) = some (.ex 0, bsE l x i) := by simp -dsimp only [lp86x0, bsH, bsE, EVs, ↓EVd, ↓reduceIte, zA, zB, zC, zD, zE, zF, reduceBEq, reduceCtorEq, zG, zH, zI, zJ, zK, dcells, okc]
      rw [this]
    · have hlt : i < j := by omega
      have hh : (i + j) / 2 < l.length := by omega
      obtain ⟨y, hy⟩ : ∃ y, l[(i + j) / 2]? = some y := ⟨_, List.getElem?_eq_getElem hh⟩
      have d1 : decide ((i : Int) < (j : Int)) = true := decide_eq_true (by omega)
      have w1 : IntKind.i64.wrap ((i : Int) + (j : Int)) = ((i + j : Nat) : Int) := wr _ (by omega) (by omega)
      have w2 : IntKind.u64.wrap ((i + j : Nat) : Int) = ((i + j : Nat) : Int) := wu _ (by omega) (by omega)
      have w3 : ((i + j : Nat) : Int).fdiv (2 ^ (min 1 IntKind.u64.bits)) = (((i + j) / 2 : Nat) : Int) := by
        show ((i + j : Nat) : Int).fdiv 2 = _
        rw [Int.fdiv_eq_ediv_of_nonneg _ (by omega)]; rfl
      have w4 : IntKind.i64.wrap (((i + j) / 2 : Nat) : Int) = (((i + j) / 2 : Nat) : Int) := wr _ (by omega) (by omega)
      have w5 : IntKind.i64.wrap ((((i + j) / 2 : Nat) : Int) + 1) = (((i + j) / 2 + 1 : Nat) : Int) := wr _ (by omega) (by omega)
      have d2 : decide (0 ≤ (((i + j) / 2 : Nat) : Int)) = true := decide_eq_true (by omega)
      have eL := @e_LessI y x
      generalize hgen : (i + j) / 2 = h at *
      have hit : ∀ (i' j' : Nat), stepE (trim [0, 1, 6, 7, 8] 0) (ev C N lp86x0 (bsH l x i j)) = some (bsH l x i' j') → j' ≤ l.length → i' ≤ j' → j' - i' ≤ d →
          (∀ (k : Nat) y, k < i' → l[k]? = some y → y < x) → (∀ (k : Nat) y, j' ≤ k → l[k]? = some y → x ≤ y) →
          ∃ e : Nat, e ≤ l.length ∧ (∀ (k : Nat) y, k < e → l[k]? = some y → y < x) ∧ (∀ (k : Nat) y, e ≤ k → l[k]? = some y → x ≤ y) ∧ iter (ev C N lp86x0) (trim [0, 1, 6, 7, 8] 0) (N' + 1) σ = some (.ex 0, bsE l x e) := by
        intro i' j' hst g1 g2 g3 g4 g5
        cases hf : ev C N lp86x0 (bsH l x i j) with
        | none => rw [hf] at hst; simp [stepE] at hst
        | some r =>
          obtain ⟨ex, σ'⟩ := r
          rw [hf] at hst
          cases ex with
          | nm =>
            obtain ⟨e, e1, e2, e3, e4⟩ := ih i' j' N' σ' g1 g2 g3 (by omega) g4 g5 (by simpa [stepE] using hst)
            refine ⟨e, e1, e2, e3, ?_⟩
            rw [← e4]
            simp only [iter, h0, Option.bind_some, hf]
          | ex i => simp [stepE] at hst
          | rt => simp [stepE] at hst
      cases c1 : decide (y < x)
      · have c1' : ¬ y < x := by simpa using c1
        refine hit i h ?_ (by omega) (by omega) (by omega) h1 fun k z hk hz => ?_
        · simp -dsimp only [lp86x0, bsH, d1, w1, w2, w3, w4, d2, hy, iD, hL, eL, c1, EVs, ↓EVd, ↓reduceIte, zA, zB, zC, zD, zE, zF, reduceBEq, reduceCtorEq, zG, zH, zI, zJ, zK, dcells, okc]
        · rcases Nat.eq_or_lt_of_le hk with e | e
          · subst e; rw [hy] at hz; simp only [Option.some.injEq] at hz; omega
          · have := hs _ _ _ _ e hy hz; omega
      · have c1' : y < x := by simpa using c1
        refine hit (h + 1) j ?_ (by omega) (by omega) (by omega) (fun k z hk hz => ?_) h2
        · simp -dsimp only [lp86x0, bsH, d1, w1, w2, w3, w4, w5, d2, hy, iD, hL, eL, c1, EVs, ↓EVd, ↓reduceIte, zA, zB, zC, zD, zE, zF, reduceBEq, reduceCtorEq, zG, zH, zI, zJ, zK, dcells, okc]
        · rcases Nat.eq_or_lt_of_le (show k ≤ h by omega) with e | e
          · subst e; rw [hy] at hz; simp only [Option.some.injEq] at hz; omega
          · have := hs _ _ _ _ e hz hy; omega
theorem bs_loopJ (C : Ctx) (N : Nat) (hL : C.T 123 = some s_LessI) (l : List Int) (x : Int) (hl : l.length ≤ 1000) (hs : ∀ (a b : Nat) (y z : Int), a < b → l[a]? = some y → l[b]? = some z → y < z) (hN : 1010 < N) {σ : St} {J : Option (Ex × St)}
    (hJ : iter (ev C N lp86x0) (trim [0, 1, 6, 7, 8] 0) N σ = J) (h0 : trim [0, 1, 6, 7, 8] 0 σ = some (bsH l x 0 l.length)) :
    ∃ e : Nat, (∀ (k : Nat) y, k < e → l[k]? = some y → y < x) ∧ (∀ (k : Nat) y, e ≤ k → l[k]? = some y → x ≤ y) ∧ J = some (.ex 0, bsE l x e) := by
  obtain ⟨e, _, e2, e3, e4⟩ := bs_loop C N hL l x hl hs l.length 0 l.length N σ (Nat.le_refl _) (Nat.zero_le _) (by omega) (by omega) (fun k y hk _ => by omega) (fun k y hk hy => by have := (List.getElem?_eq_some_iff.1 hy).1; omega) h0
  exact ⟨e, e2, e3, hJ.symm.trans e4⟩
def x_BS (a : (List Int) × Int) : List D := match a with | (l, x) => [.lst false (l.map iD), .v (.int .i64 x)]
theorem i_BS : ∀ a b, x_BS a = x_BS b → a = b := by
  rintro ⟨l, x⟩ ⟨l', x'⟩ h
  first | simpa [x_BS, INJ, and_assoc, Int.ofNat_inj] using h | (simp [x_BS, INJ, and_assoc, Int.ofNat_inj] at h; simp_all)
open Classical in
noncomputable def s_BS : List D → Option D := sOf x_BS fun a => match a with | (l, x) => if (l.Pairwise (fun a b => a < b) ∧ x ∈ l ∧ l.length ≤ 1000) then some (.tup [.v (.int .i64 (idx x l 0)), .v (.bool true)]) else none
theorem e_BS {l : List Int} {x : Int} (hc : (l.Pairwise (fun a b => a < b) ∧ x ∈ l ∧ l.length ≤ 1000)) : s_BS [.lst false (l.map iD), .v (.int .i64 x)] = some (.tup [.v (.int .i64 (idx x l 0)), .v (.bool true)]) := (sOf_eq i_BS (l, x)).trans (if_pos hc)
theorem R_BS {C : Ctx} {F : IFun} (hspec : ∀ N, maxLen + 10 < N → ∀ (l : List Int) (x : Int), lenOK.lenOKs [.lst false (l.map iD), .v (.int .i64 x)] → (l.Pairwise (fun a b => a < b) ∧ x ∈ l ∧ l.length ≤ 1000) → runE C N F [.lst false (l.map iD), .v (.int .i64 x)] = some (.tup [.v (.int .i64 (idx x l 0)), .v (.bool true)])) : Runs C F (s_BS) := runs_of i_BS fun N hN a r hl hf => by
  obtain ⟨l, x⟩ := a
  simp only [Option.ite_none_right_eq_some, Option.some.injEq] at hf
  obtain ⟨hc, rfl⟩ := hf
  exact hspec N hN l x hl hc
theorem r_BinarySearch (C : Ctx) (hL : C.T 123 = some s_LessI) (hn : C.T 124 = some s_NaN) : Runs C ir86 s_BS := R_BS fun N hN l x hl hc => by
  obtain ⟨c1, c2, c3⟩ := hc
  have hml := maxLen_ge
  have hs : ∀ (a b : Nat) (y z : Int), a < b → l[a]? = some y → l[b]? = some z → y < z := by
    intro a b y z hab ha hb
    obtain ⟨ha1, rfl⟩ := List.getElem?_eq_some_iff.1 ha
    obtain ⟨hb1, rfl⟩ := List.getElem?_eq_some_iff.1 hb
    exact List.pairwise_iff_getElem.1 c1 a b ha1 hb1 hab
  simp -dsimp only [runE, run_eq, ir86, EVs, ↓EVd, ↓reduceIte, zA, zB, zC, zD, zE, zF, reduceBEq, reduceCtorEq, zG, zH, zI, zJ, zK, dcells, okc]
  generalize hI : iter _ _ _ _ = I
  obtain ⟨e, e2, e3, rfl⟩ := bs_loopJ C N hL l x c3 hs (by omega) hI (by simp -dsimp only [bsH, EVs, ↓EVd, ↓reduceIte, zA, zB, zC, zD, zE, zF, reduceBEq, reduceCtorEq, zG, zH, zI, zJ, zK, dcells, okc])
  obtain ⟨p, hp⟩ := List.mem_iff_getElem?.1 c2
  have hpl := (List.getElem?_eq_some_iff.1 hp).1
  have hep : e = p := by
    rcases Nat.lt_trichotomy e p with h | h | h
    · obtain ⟨z, hz⟩ : ∃ z, l[e]? = some z := ⟨_, List.getElem?_eq_getElem (by omega)⟩
      have h1 := e3 e z (Nat.le_refl _) hz
      have h2 := hs e p z x h hz hp
      omega
    · exact h
    · have := e2 p x h hp; omega
  subst hep
  have hi : idx x l 0 = (e : Int) := by
    rw [idx_at l 0 e (fun j y hj hy => by have := e2 j y hj hy; omega) hp, Nat.zero_add]
  have d1 : decide ((e : Int) < (l.length : Int)) = true := decide_eq_true (by omega)
  have d2 : decide (0 ≤ (e : Int)) = true := decide_eq_true (by omega)
  have d3 : decide (x = x) = true := decide_eq_true rfl
  rw [hi]
  simp -dsimp only [bsE, d1, d2, hp, iD, d3, EVs, ↓EVd, ↓reduceIte, zA, zB, zC, zD, zE, zF, reduceBEq, reduceCtorEq, zG, zH, zI, zJ, zK, dcells, okc]
def topOf (r : Rg) (reg : Int) : Int := if r.of_ = -1 then reg else r.of_
def RegZ (m : Mc) : Prop := m.regs.length ≤ 1000 ∧ ∀ (i : Nat) (r : Rg), m.regs[i]? = some r → (1 ≤ r.width ∧ r.width ≤ 64 ∧ 0 ≤ r.low ∧ r.low + r.width ≤ 64) ∧ (r.of_ = -1 ∨ (0 ≤ r.of_ ∧ ∃ p, m.regs[r.of_.toNat]? = some p ∧ p.of_ = -1))
theorem top_mem {m : Mc} (hz : RegZ m) {reg : Int} (h0 : decide (0 ≤ reg) = true) {r : Rg} (hr : m.regs[reg.toNat]? = some r) : topOf r reg ∈ topsL m := by
  have h0' : 0 ≤ reg := by simpa using h0
  rw [topsL, tops_mem]
  unfold topOf
  by_cases h : r.of_ = -1
  · rw [if_pos h]; exact ⟨reg.toNat, r, hr, h, by omega⟩
  · rw [if_neg h]
    rcases (hz.2 _ _ hr).2 with h1 | ⟨h1, p, h2, h3⟩
    · exact (h h1).elim
    · exact ⟨r.of_.toNat, p, h2, h3, by omega⟩
def pieceP (m : Mc) (reg : Int) (r : Rg) : Int := idx (topOf r reg) (topsL m) 0
def partD (m : Mc) (reg c : Int) : D := bif !decide (c = 0) then .tup [.v (.int .i64 0), .v (.int .i64 0), .v (.int .i64 0), .v (.int .i64 c)] else
  bif !inB reg 0 (IntKind.i64.wrap ((m.regs.length : Int) - 1)) then .tup [.v (.int .i64 0), .v (.int .i64 0), .v (.int .i64 0), .v (.int .i64 2)] else
  match m.regs[reg.toNat]? with
  | some r => .tup [.v (.int .i64 (pieceP m reg r)), .v (.int .i64 r.low), .v (.int .i64 r.width), .v (.int .i64 0)]
  | none => .junk
def x_PartF (a : Mc × Int) : List D := match a with | (m, reg) => [.agg m.d, .v (.int .i64 reg)]
theorem i_PartF : ∀ a b, x_PartF a = x_PartF b → a = b := by
  rintro ⟨m, reg⟩ ⟨m', reg'⟩ h
  first | simpa [x_PartF, INJ, and_assoc, Int.ofNat_inj] using h | (simp [x_PartF, INJ, and_assoc, Int.ofNat_inj] at h; simp_all)
open Classical in
noncomputable def s_PartF : List D → Option D := sOf x_PartF fun a => match a with | (m, reg) => if (TOKs m ∧ (chkM m = 0 → RegZ m)) then some (partD m reg (chkM m)) else none
theorem e_PartF {m : Mc} {reg : Int} (hc : (TOKs m ∧ (chkM m = 0 → RegZ m))) : s_PartF [.agg m.d, .v (.int .i64 reg)] = some (partD m reg (chkM m)) := (sOf_eq i_PartF (m, reg)).trans (if_pos hc)
theorem R_PartF {C : Ctx} {F : IFun} (hspec : ∀ N, maxLen + 10 < N → ∀ (m : Mc) (reg : Int), lenOK.lenOKs [.agg m.d, .v (.int .i64 reg)] → (TOKs m ∧ (chkM m = 0 → RegZ m)) → runE C N F [.agg m.d, .v (.int .i64 reg)] = some (partD m reg (chkM m))) : Runs C F (s_PartF) := runs_of i_PartF fun N hN a r hl hf => by
  obtain ⟨m, reg⟩ := a
  simp only [Option.ite_none_right_eq_some, Option.some.injEq] at hf
  obtain ⟨hc, rfl⟩ := hf
  exact hspec N hN m reg hl hc
theorem r_Part (C : Ctx) (hM : C.T 14 = some s_ChkM) (hW : C.T 58 = some s_in) (hT : C.T 84 = some s_TopsF) (hB : C.T 86 = some s_BS) : Runs C ir24 s_PartF := R_PartF fun N hN m reg hl hc => by
  obtain ⟨t1, t2⟩ := hc
  have eM := @e_ChkM m t1
  simp only [Mc.d] at eM
  have eW := @e_in reg 0 (IntKind.i64.wrap ((m.regs.length : Int) - 1))
  unfold partD
  cases h0 : decide (chkM m = 0)
  · simp -dsimp only [runE, run_eq, res_4, ir24, Mc.d, hM, eM, h0, EVs, ↓EVd, ↓reduceIte, zA, zB, zC, zD, zE, zF, reduceBEq, reduceCtorEq, zG, zH, zI, zJ, zK, dcells, okc]
  have hz := t2 (by simpa using h0)
  cases h1 : inB reg 0 (IntKind.i64.wrap ((m.regs.length : Int) - 1))
  · simp -dsimp only [runE, run_eq, res_4, ir24, Mc.d, hM, eM, h0, hW, eW, h1, EVs, ↓EVd, ↓reduceIte, zA, zB, zC, zD, zE, zF, reduceBEq, reduceCtorEq, zG, zH, zI, zJ, zK, dcells, okc]
  obtain ⟨hge, r, hr⟩ := inB_get (by have := hz.1; omega) h1
  have eT := @e_TopsF m hz.1
  simp only [Mc.d] at eT
  have eB := @e_BS (topsL m) (topOf r reg) ⟨tops_sorted _ _, top_mem hz hge hr, by have := tops_len m.regs 0; have := hz.1; show (topsAux 0 m.regs).length ≤ 1000; omega⟩
  rw [hr]
  simp only [Bool.not_true, cond_false]
  unfold pieceP
  by_cases h : r.of_ = -1
  · have ht : topOf r reg = reg := by unfold topOf; rw [if_pos h]
    rw [ht] at eB ⊢
    have h' : decide (0 ≤ r.of_) = false := decide_eq_false (by omega)
    simp -dsimp only [runE, run_eq, res_4, ir24, Mc.d, Rg.d, hM, eM, h0, hW, eW, h1, hge, hr, h', hT, eT, hB, eB, EVs, ↓EVd, ↓reduceIte, zA, zB, zC, zD, zE, zF, reduceBEq, reduceCtorEq, zG, zH, zI, zJ, zK, dcells, okc]
  · have ht : topOf r reg = r.of_ := by unfold topOf; rw [if_neg h]
    rw [ht] at eB ⊢
    have h' : decide (0 ≤ r.of_) = true := decide_eq_true (by rcases (hz.2 _ _ hr).2 with h1 | ⟨h1, _⟩; exact (h h1).elim; exact h1)
    simp -dsimp only [runE, run_eq, res_4, ir24, Mc.d, Rg.d, hM, eM, h0, hW, eW, h1, hge, hr, h', hT, eT, hB, eB, EVs, ↓EVd, ↓reduceIte, zA, zB, zC, zD, zE, zF, reduceBEq, reduceCtorEq, zG, zH, zI, zJ, zK, dcells, okc]
def pieceD (m : Mc) (reg : Int) : D := match m.regs[reg.toNat]? with
  | some r => .tup [.v (.int .i64 (pieceP m reg r)), .v (.int .i64 r.low), .v (.int .i64 r.width)]
  | none => .junk
def x_PieceF (a : Mc × Int) : List D := match a with | (m, reg) => [.agg m.d, .v (.int .i64 reg)]
theorem i_PieceF : ∀ a b, x_PieceF a = x_PieceF b → a = b := by
  rintro ⟨m, reg⟩ ⟨m', reg'⟩ h
  first | simpa [x_PieceF, INJ, and_assoc, Int.ofNat_inj] using h | (simp [x_PieceF, INJ, and_assoc, Int.ofNat_inj] at h; simp_all)
open Classical in
noncomputable def s_PieceF : List D → Option D := sOf x_PieceF fun a => match a with | (m, reg) => if (RegZ m ∧ inB reg 0 (IntKind.i64.wrap ((m.regs.length : Int) - 1)) = true) then some (pieceD m reg) else none
theorem e_PieceF {m : Mc} {reg : Int} (hc : (RegZ m ∧ inB reg 0 (IntKind.i64.wrap ((m.regs.length : Int) - 1)) = true)) : s_PieceF [.agg m.d, .v (.int .i64 reg)] = some (pieceD m reg) := (sOf_eq i_PieceF (m, reg)).trans (if_pos hc)
theorem R_PieceF {C : Ctx} {F : IFun} (hspec : ∀ N, maxLen + 10 < N → ∀ (m : Mc) (reg : Int), lenOK.lenOKs [.agg m.d, .v (.int .i64 reg)] → (RegZ m ∧ inB reg 0 (IntKind.i64.wrap ((m.regs.length : Int) - 1)) = true) → runE C N F [.agg m.d, .v (.int .i64 reg)] = some (pieceD m reg)) : Runs C F (s_PieceF) := runs_of i_PieceF fun N hN a r hl hf => by
  obtain ⟨m, reg⟩ := a
  simp only [Option.ite_none_right_eq_some, Option.some.injEq] at hf
  obtain ⟨hc, rfl⟩ := hf
  exact hspec N hN m reg hl hc
theorem r_Piece (C : Ctx) (hT : C.T 85 = some s_TopsF) : Runs C ir87 s_PieceF := R_PieceF fun N hN m reg hl hc => by
  obtain ⟨hz, h1⟩ := hc
  obtain ⟨hge, r, hr⟩ := inB_get (by have := hz.1; omega) h1
  have eT := @e_TopsF m hz.1
  simp only [Mc.d] at eT
  have hml := maxLen_ge
  have htl : (topsL m).length ≤ 1000 := by have := tops_len m.regs 0; have := hz.1; show (topsAux 0 m.regs).length ≤ 1000; omega
  have hm := top_mem hz hge hr
  unfold pieceD
  rw [hr]
  have hloop : ∀ (t : Int), t ∈ topsL m → ∀ {β : Type} (K : Option (Ex × St) → Option β) (σ : St) (v : β), trim [7, 8, 9, 10] 2 σ = some ⟨[(7, .ptr 1 0), (8, .v (.int .i64 t)), (9, .lst false ((topsL m).map iD)), (10, .v (.int .i64 ((0 : Nat) : Int)))], [(1, .box r.d), (0, .box m.d)], 2⟩ →
      (∀ j : Nat, idx t (topsL m) 0 = (j : Int) → ∀ x, (topsL m)[j]? = some x → outK K (ev C N lp87x0 ⟨[(7, .ptr 1 0), (8, .v (.int .i64 t)), (9, .lst false ((topsL m).map iD)), (10, .v (.int .i64 j))], [(1, .box r.d), (0, .box m.d)], 2⟩) = gb (!decide (t = x)) (fun _ => none) fun _ => some v) →
      ∀ I, iter (ev C N lp87x0) (trim [7, 8, 9, 10] 2) N σ = I → K I = some v := by
    intro t htm β K σ v h0 hout
    refine iter_test (topsL m) (fun j _ => ⟨[(7, .ptr 1 0), (8, .v (.int .i64 t)), (9, .lst false ((topsL m).map iD)), (10, .v (.int .i64 j))], [(1, .box r.d), (0, .box m.d)], 2⟩) (fun _ y => !decide (t = y)) (fun i _ => i + 1) (fun i _ => (i : Int)) (fun i a => a = i) 0 (by omega) hN h0 rfl ?_ ?_ ?_
    · rintro j _ x hj hjw hx rfl
      refine ⟨?_, fun _ => rfl⟩
      have hc := @deq_comm x t
      simp -dsimp only [lp87x0, hj, hjw, hx, iD, Mc.d, Rg.d, hc, EVs, ↓EVd, ↓reduceIte, zA, zB, zC, zD, zE, zF, reduceBEq, reduceCtorEq, zG, zH, zI, zJ, zK, dcells, okc]
      repeat' ((first | with_reducible refine gb_split (fun _ => ?_) (fun _ => ?_) | with_reducible refine gb_splitr (fun _ => ?_) (fun _ => ?_)) <;> (try simp -dsimp only [lp87x0, hj, hjw, hx, iD, Mc.d, Rg.d, hc, EVs, ↓EVd, ↓reduceIte, zA, zB, zC, zD, zE, zF, reduceBEq, reduceCtorEq, zG, zH, zI, zJ, zK, dcells, okc, *]))
    · rintro j _ x hj hx rfl hs
      exact hout j (by rw [idx_scan, show ((0 : Nat) : Int) = 0 from rfl, hs]) x hx
    · rintro _ rfl hs
      have : idx t (topsL m) 0 = -1 := by rw [idx_scan, show ((0 : Nat) : Int) = 0 from rfl, hs]
      have h2 := idx_nonneg t (topsL m) 0
      rw [this] at h2
      have h3 : has t (topsL m) = true := by
        unfold has; rw [List.any_eq_true]; exact ⟨t, htm, by simp⟩
      rw [h3] at h2
      simp at h2
  unfold pieceP
  by_cases h : r.of_ = -1
  · have ht : topOf r reg = reg := by unfold topOf; rw [if_pos h]
    rw [ht] at hm
    simp only [ht]
    have h' : decide (r.of_ = -1) = true := decide_eq_true h
    simp -dsimp only [runE, run_eq, res_3, ir87, Mc.d, Rg.d, hge, hr, h', hT, eT, EVs, ↓EVd, ↓reduceIte, zA, zB, zC, zD, zE, zF, reduceBEq, reduceCtorEq, zG, zH, zI, zJ, zK, dcells, okc]
    generalize hI : iter _ _ _ _ = I
    revert I
    refine hloop reg hm _ _ _ ?_ ?_
    · simp -dsimp only [Mc.d, Rg.d, EVs, ↓EVd, ↓reduceIte, zA, zB, zC, zD, zE, zF, reduceBEq, reduceCtorEq, zG, zH, zI, zJ, zK, dcells, okc]
    · intro j hj x hx
      have hc := @deq_comm x reg
      have hjl : decide ((j : Int) < ((topsL m).length : Int)) = true := decide_eq_true (by have := (List.getElem?_eq_some_iff.1 hx).1; omega)
      simp -dsimp only [lp87x0, hjl, hx, iD, Mc.d, Rg.d, hc, hj, res_3, EVs, ↓EVd, ↓reduceIte, zA, zB, zC, zD, zE, zF, reduceBEq, reduceCtorEq, zG, zH, zI, zJ, zK, dcells, okc]
      repeat' ((first | with_reducible refine gb_split (fun _ => ?_) (fun _ => ?_) | with_reducible refine gb_splitr (fun _ => ?_) (fun _ => ?_)) <;> (try simp -dsimp only [lp87x0, hjl, hx, iD, Mc.d, Rg.d, hc, hj, res_3, EVs, ↓EVd, ↓reduceIte, zA, zB, zC, zD, zE, zF, reduceBEq, reduceCtorEq, zG, zH, zI, zJ, zK, dcells, okc, *]))
  · have ht : topOf r reg = r.of_ := by unfold topOf; rw [if_neg h]
    rw [ht] at hm
    simp only [ht]
    have h' : decide (r.of_ = -1) = false := decide_eq_false h
    simp -dsimp only [runE, run_eq, res_3, ir87, Mc.d, Rg.d, hge, hr, h', hT, eT, EVs, ↓EVd, ↓reduceIte, zA, zB, zC, zD, zE, zF, reduceBEq, reduceCtorEq, zG, zH, zI, zJ, zK, dcells, okc]
    generalize hI : iter _ _ _ _ = I
    revert I
    refine hloop r.of_ hm _ _ _ ?_ ?_
    · simp -dsimp only [Mc.d, Rg.d, EVs, ↓EVd, ↓reduceIte, zA, zB, zC, zD, zE, zF, reduceBEq, reduceCtorEq, zG, zH, zI, zJ, zK, dcells, okc]
    · intro j hj x hx
      have hc := @deq_comm x r.of_
      have hjl : decide ((j : Int) < ((topsL m).length : Int)) = true := decide_eq_true (by have := (List.getElem?_eq_some_iff.1 hx).1; omega)
      simp -dsimp only [lp87x0, hjl, hx, iD, Mc.d, Rg.d, hc, hj, res_3, EVs, ↓EVd, ↓reduceIte, zA, zB, zC, zD, zE, zF, reduceBEq, reduceCtorEq, zG, zH, zI, zJ, zK, dcells, okc]
      repeat' ((first | with_reducible refine gb_split (fun _ => ?_) (fun _ => ?_) | with_reducible refine gb_splitr (fun _ => ?_) (fun _ => ?_)) <;> (try simp -dsimp only [lp87x0, hjl, hx, iD, Mc.d, Rg.d, hc, hj, res_3, EVs, ↓EVd, ↓reduceIte, zA, zB, zC, zD, zE, zF, reduceBEq, reduceCtorEq, zG, zH, zI, zJ, zK, dcells, okc, *]))
def x_PartF8 (a : Mc × Int) : List D := match a with | (m, reg) => [.agg m.d, .v (.int .i64 reg)]
theorem i_PartF8 : ∀ a b, x_PartF8 a = x_PartF8 b → a = b := by
  rintro ⟨m, reg⟩ ⟨m', reg'⟩ h
  first | simpa [x_PartF8, INJ, and_assoc, Int.ofNat_inj] using h | (simp [x_PartF8, INJ, and_assoc, Int.ofNat_inj] at h; simp_all)
open Classical in
noncomputable def s_PartF8 : List D → Option D := sOf x_PartF8 fun a => match a with | (m, reg) => if (MZ m ∧ (chkR m = 0 → RegZ m)) then some (partD m reg (chkR m)) else none
theorem e_PartF8 {m : Mc} {reg : Int} (hc : (MZ m ∧ (chkR m = 0 → RegZ m))) : s_PartF8 [.agg m.d, .v (.int .i64 reg)] = some (partD m reg (chkR m)) := (sOf_eq i_PartF8 (m, reg)).trans (if_pos hc)
theorem R_PartF8 {C : Ctx} {F : IFun} (hspec : ∀ N, maxLen + 10 < N → ∀ (m : Mc) (reg : Int), lenOK.lenOKs [.agg m.d, .v (.int .i64 reg)] → (MZ m ∧ (chkR m = 0 → RegZ m)) → runE C N F [.agg m.d, .v (.int .i64 reg)] = some (partD m reg (chkR m))) : Runs C F (s_PartF8) := runs_of i_PartF8 fun N hN a r hl hf => by
  obtain ⟨m, reg⟩ := a
  simp only [Option.ite_none_right_eq_some, Option.some.injEq] at hf
  obtain ⟨hc, rfl⟩ := hf
  exact hspec N hN m reg hl hc
theorem r_Part8 (C : Ctx) (hM : C.T 15 = some s_ChkR) (hW : C.T 66 = some s_in) (hP : C.T 87 = some s_PieceF) : Runs C ir25 s_PartF8 := R_PartF8 fun N hN m reg hl hc => by
  obtain ⟨t1, t2⟩ := hc
  have eM := @e_ChkR m t1
  simp only [Mc.d] at eM
  have eW := @e_in reg 0 (IntKind.i64.wrap ((m.regs.length : Int) - 1))
  unfold partD
  cases h0 : decide (chkR m = 0)
  · simp -dsimp only [runE, run_eq, res_4, ir25, Mc.d, hM, eM, h0, EVs, ↓EVd, ↓reduceIte, zA, zB, zC, zD, zE, zF, reduceBEq, reduceCtorEq, zG, zH, zI, zJ, zK, dcells, okc]
  have hz := t2 (by simpa using h0)
  cases h1 : inB reg 0 (IntKind.i64.wrap ((m.regs.length : Int) - 1))
  · simp -dsimp only [runE, run_eq, res_4, ir25, Mc.d, hM, eM, h0, hW, eW, h1, Int.reduceEq, EVs, ↓EVd, ↓reduceIte, zA, zB, zC, zD, zE, zF, reduceBEq, reduceCtorEq, zG, zH, zI, zJ, zK, dcells, okc]
  obtain ⟨hge, r, hr⟩ := inB_get (by have := hz.1; omega) h1
  have eP := @e_PieceF m reg ⟨hz, h1⟩
  unfold pieceD at eP
  rw [hr] at eP ⊢
  simp only [Mc.d] at eP
  simp -dsimp only [runE, run_eq, res_4, ir25, Mc.d, hM, eM, h0, hW, eW, h1, hP, eP, EVs, ↓EVd, ↓reduceIte, zA, zB, zC, zD, zE, zF, reduceBEq, reduceCtorEq, zG, zH, zI, zJ, zK, dcells, okc]
def ovB (m : Mc) (a b : Int) : Bool := match m.regs[a.toNat]?, m.regs[b.toNat]? with
  | some r, some q => decide (pieceP m a r = pieceP m b q) && (decide (r.low < q.low + q.width) && decide (q.low < r.low + r.width))
  | _, _ => false
def ovD (m : Mc) (a b c : Int) : D := bif !decide (c = 0) then .tup [.v (.bool false), .v (.int .i64 c)] else
  bif !inB a 0 (IntKind.i64.wrap ((m.regs.length : Int) - 1)) || !inB b 0 (IntKind.i64.wrap ((m.regs.length : Int) - 1)) then .tup [.v (.bool false), .v (.int .i64 2)] else .tup [.v (.bool (ovB m a b)), .v (.int .i64 0)]
def x_OverF (a : Mc × Int × Int) : List D := match a with | (m, a, b) => [.agg m.d, .v (.int .i64 a), .v (.int .i64 b)]
theorem i_OverF : ∀ a b, x_OverF a = x_OverF b → a = b := by
  rintro ⟨m, a, b⟩ ⟨m', a', b'⟩ h
  first | simpa [x_OverF, INJ, and_assoc, Int.ofNat_inj] using h | (simp [x_OverF, INJ, and_assoc, Int.ofNat_inj] at h; simp_all)
open Classical in
noncomputable def s_OverF : List D → Option D := sOf x_OverF fun a => match a with | (m, a, b) => if (TOKs m ∧ (chkM m = 0 → RegZ m)) then some (ovD m a b (chkM m)) else none
theorem e_OverF {m : Mc} {a : Int} {b : Int} (hc : (TOKs m ∧ (chkM m = 0 → RegZ m))) : s_OverF [.agg m.d, .v (.int .i64 a), .v (.int .i64 b)] = some (ovD m a b (chkM m)) := (sOf_eq i_OverF (m, a, b)).trans (if_pos hc)
theorem R_OverF {C : Ctx} {F : IFun} (hspec : ∀ N, maxLen + 10 < N → ∀ (m : Mc) (a : Int) (b : Int), lenOK.lenOKs [.agg m.d, .v (.int .i64 a), .v (.int .i64 b)] → (TOKs m ∧ (chkM m = 0 → RegZ m)) → runE C N F [.agg m.d, .v (.int .i64 a), .v (.int .i64 b)] = some (ovD m a b (chkM m))) : Runs C F (s_OverF) := runs_of i_OverF fun N hN a r hl hf => by
  obtain ⟨m, a, b⟩ := a
  simp only [Option.ite_none_right_eq_some, Option.some.injEq] at hf
  obtain ⟨hc, rfl⟩ := hf
  exact hspec N hN m a b hl hc
theorem r_Overlap (C : Ctx) (hP : C.T 24 = some s_PartF) : Runs C ir26 s_OverF := R_OverF fun N hN m a b hl hc => by
  have e1 := @e_PartF m a hc
  have e2 := @e_PartF m b hc
  obtain ⟨t1, t2⟩ := hc
  unfold partD at e1 e2
  simp only [Mc.d] at e1 e2
  unfold ovD
  cases h0 : decide (chkM m = 0)
  · rw [h0] at e1 e2
    simp only [Bool.not_false, cond_true] at e1 e2
    simp -dsimp only [runE, run_eq, ir26, Mc.d, hP, e1, h0, EVs, ↓EVd, ↓reduceIte, zA, zB, zC, zD, zE, zF, reduceBEq, reduceCtorEq, zG, zH, zI, zJ, zK, dcells, okc]
  have hz := t2 (by simpa using h0)
  rw [h0] at e1 e2
  simp only [Bool.not_true, cond_false] at e1 e2
  cases h1 : inB a 0 (IntKind.i64.wrap ((m.regs.length : Int) - 1))
  · rw [h1] at e1
    simp only [Bool.not_false, cond_true] at e1
    simp -dsimp only [runE, run_eq, ir26, Mc.d, hP, e1, h0, h1, Int.reduceEq, EVs, ↓EVd, ↓reduceIte, zA, zB, zC, zD, zE, zF, reduceBEq, reduceCtorEq, zG, zH, zI, zJ, zK, dcells, okc]
  obtain ⟨_, r, hr⟩ := inB_get (by have := hz.1; omega) h1
  rw [h1, hr] at e1
  simp only [Bool.not_true, cond_false] at e1
  cases h2 : inB b 0 (IntKind.i64.wrap ((m.regs.length : Int) - 1))
  · rw [h2] at e2
    simp only [Bool.not_false, cond_true] at e2
    simp -dsimp only [runE, run_eq, ir26, Mc.d, hP, e1, e2, h0, h1, h2, Int.reduceEq, EVs, ↓EVd, ↓reduceIte, zA, zB, zC, zD, zE, zF, reduceBEq, reduceCtorEq, zG, zH, zI, zJ, zK, dcells, okc]
  obtain ⟨_, q, hq⟩ := inB_get (by have := hz.1; omega) h2
  rw [h2, hq] at e2
  simp only [Bool.not_true, cond_false] at e2
  have hov : ovB m a b = (decide (pieceP m a r = pieceP m b q) && decide (max r.low q.low < min (r.low + r.width) (q.low + q.width))) := by
    unfold ovB
    rw [hr, hq]
    obtain ⟨⟨x1, x2, x3, x4⟩, _⟩ := hz.2 _ _ hr
    obtain ⟨⟨y1, y2, y3, y4⟩, _⟩ := hz.2 _ _ hq
    show (_ && _) = (_ && _)
    congr 1
    rw [← Bool.decide_and]
    exact decide_eq_decide.2 (by omega)
  rw [hov]
  obtain ⟨⟨x1, x2, x3, x4⟩, _⟩ := hz.2 _ _ hr
  obtain ⟨⟨y1, y2, y3, y4⟩, _⟩ := hz.2 _ _ hq
  have w1 : IntKind.i64.wrap (r.low + r.width) = r.low + r.width := wr _ (by omega) (by omega)
  have w2 : IntKind.i64.wrap (q.low + q.width) = q.low + q.width := wr _ (by omega) (by omega)
  cases h3 : decide (pieceP m a r = pieceP m b q)
  · simp -dsimp only [runE, run_eq, ir26, Mc.d, hP, e1, e2, h0, h1, h2, h3, EVs, ↓EVd, ↓reduceIte, zA, zB, zC, zD, zE, zF, reduceBEq, reduceCtorEq, zG, zH, zI, zJ, zK, dcells, okc]
  · simp -dsimp only [runE, run_eq, ir26, Mc.d, hP, e1, e2, h0, h1, h2, h3, w1, w2, EVs, ↓EVd, ↓reduceIte, zA, zB, zC, zD, zE, zF, reduceBEq, reduceCtorEq, zG, zH, zI, zJ, zK, dcells, okc]
def x_OverF8 (a : Mc × Int × Int) : List D := match a with | (m, a, b) => [.agg m.d, .v (.int .i64 a), .v (.int .i64 b)]
theorem i_OverF8 : ∀ a b, x_OverF8 a = x_OverF8 b → a = b := by
  rintro ⟨m, a, b⟩ ⟨m', a', b'⟩ h
  first | simpa [x_OverF8, INJ, and_assoc, Int.ofNat_inj] using h | (simp [x_OverF8, INJ, and_assoc, Int.ofNat_inj] at h; simp_all)
open Classical in
noncomputable def s_OverF8 : List D → Option D := sOf x_OverF8 fun a => match a with | (m, a, b) => if (MZ m ∧ (chkR m = 0 → RegZ m)) then some (ovD m a b (chkR m)) else none
theorem e_OverF8 {m : Mc} {a : Int} {b : Int} (hc : (MZ m ∧ (chkR m = 0 → RegZ m))) : s_OverF8 [.agg m.d, .v (.int .i64 a), .v (.int .i64 b)] = some (ovD m a b (chkR m)) := (sOf_eq i_OverF8 (m, a, b)).trans (if_pos hc)
theorem R_OverF8 {C : Ctx} {F : IFun} (hspec : ∀ N, maxLen + 10 < N → ∀ (m : Mc) (a : Int) (b : Int), lenOK.lenOKs [.agg m.d, .v (.int .i64 a), .v (.int .i64 b)] → (MZ m ∧ (chkR m = 0 → RegZ m)) → runE C N F [.agg m.d, .v (.int .i64 a), .v (.int .i64 b)] = some (ovD m a b (chkR m))) : Runs C F (s_OverF8) := runs_of i_OverF8 fun N hN a r hl hf => by
  obtain ⟨m, a, b⟩ := a
  simp only [Option.ite_none_right_eq_some, Option.some.injEq] at hf
  obtain ⟨hc, rfl⟩ := hf
  exact hspec N hN m a b hl hc
theorem r_Overlap8 (C : Ctx) (hM : C.T 15 = some s_ChkR) (hW : C.T 66 = some s_in) (hP : C.T 87 = some s_PieceF) : Runs C ir27 s_OverF8 := R_OverF8 fun N hN m a b hl hc => by
  obtain ⟨t1, t2⟩ := hc
  have eM := @e_ChkR m t1
  simp only [Mc.d] at eM
  have eW1 := @e_in a 0 (IntKind.i64.wrap ((m.regs.length : Int) - 1))
  have eW2 := @e_in b 0 (IntKind.i64.wrap ((m.regs.length : Int) - 1))
  unfold ovD
  cases h0 : decide (chkR m = 0)
  · simp -dsimp only [runE, run_eq, ir27, Mc.d, hM, eM, h0, EVs, ↓EVd, ↓reduceIte, zA, zB, zC, zD, zE, zF, reduceBEq, reduceCtorEq, zG, zH, zI, zJ, zK, dcells, okc]
  have hz := t2 (by simpa using h0)
  cases h1 : inB a 0 (IntKind.i64.wrap ((m.regs.length : Int) - 1))
  · simp -dsimp only [runE, run_eq, ir27, Mc.d, hM, eM, h0, hW, eW1, h1, Int.reduceEq, EVs, ↓EVd, ↓reduceIte, zA, zB, zC, zD, zE, zF, reduceBEq, reduceCtorEq, zG, zH, zI, zJ, zK, dcells, okc]
  cases h2 : inB b 0 (IntKind.i64.wrap ((m.regs.length : Int) - 1))
  · simp -dsimp only [runE, run_eq, ir27, Mc.d, hM, eM, h0, hW, eW1, h1, eW2, h2, Int.reduceEq, EVs, ↓EVd, ↓reduceIte, zA, zB, zC, zD, zE, zF, reduceBEq, reduceCtorEq, zG, zH, zI, zJ, zK, dcells, okc]
  obtain ⟨_, r, hr⟩ := inB_get (by have := hz.1; omega) h1
  obtain ⟨_, q, hq⟩ := inB_get (by have := hz.1; omega) h2
  have eP := @e_PieceF m a ⟨hz, h1⟩
  have eQ := @e_PieceF m b ⟨hz, h2⟩
  unfold pieceD at eP eQ
  rw [hr] at eP
  rw [hq] at eQ
  simp only [Mc.d] at eP eQ
  obtain ⟨⟨x1, x2, x3, x4⟩, _⟩ := hz.2 _ _ hr
  obtain ⟨⟨y1, y2, y3, y4⟩, _⟩ := hz.2 _ _ hq
  have w1 : IntKind.i64.wrap (r.low + r.width) = r.low + r.width := wr _ (by omega) (by omega)
  have w2 : IntKind.i64.wrap (q.low + q.width) = q.low + q.width := wr _ (by omega) (by omega)
  have hov : ovB m a b = (decide (pieceP m a r = pieceP m b q) && (decide (r.low < q.low + q.width) && decide (q.low < r.low + r.width))) := by
    unfold ovB; rw [hr, hq]
  rw [hov]
  cases h3 : decide (pieceP m a r = pieceP m b q)
  · simp -dsimp only [runE, run_eq, ir27, Mc.d, hM, eM, h0, hW, eW1, h1, eW2, h2, hP, eP, eQ, h3, EVs, ↓EVd, ↓reduceIte, zA, zB, zC, zD, zE, zF, reduceBEq, reduceCtorEq, zG, zH, zI, zJ, zK, dcells, okc]
  cases h4 : decide (r.low < q.low + q.width)
  · simp -dsimp only [runE, run_eq, ir27, Mc.d, hM, eM, h0, hW, eW1, h1, eW2, h2, hP, eP, eQ, h3, w1, w2, h4, EVs, ↓EVd, ↓reduceIte, zA, zB, zC, zD, zE, zF, reduceBEq, reduceCtorEq, zG, zH, zI, zJ, zK, dcells, okc]
  · simp -dsimp only [runE, run_eq, ir27, Mc.d, hM, eM, h0, hW, eW1, h1, eW2, h2, hP, eP, eQ, h3, w1, w2, h4, EVs, ↓EVd, ↓reduceIte, zA, zB, zC, zD, zE, zF, reduceBEq, reduceCtorEq, zG, zH, zI, zJ, zK, dcells, okc]
end Go.Proofs.Dv
set_option linter.unusedVariables false
set_option linter.unusedSimpArgs false
set_option maxRecDepth 100000
namespace Go.Proofs.Dv
open Go.RowKit
open Nat renaming reduceEqDiff → zA, reduceAdd → zB, reduceSub → zC, reduceLeDiff → zD, reduceLT → zE, reduceMul → zF
open Int renaming reduceToNat → zG, reduceLE → zH, reduceLT → zI
open List renaming set_cons_zero → zJ, set_cons_succ → zK
theorem chk_regsR {m : Mc} (h : chkR m = 0) : regsR m = true := by
  unfold chkR at h
  cases hs : smallOK m with
  | false => rw [hs] at h; simp at h
  | true =>
    rw [hs] at h
    simp only [Bool.not_true, cond_false] at h
    cases hh : headR m && allI (insAt m) 0 m.instrs with
    | false => rw [hh] at h; simp at h
    | true =>
      simp only [headR, Bool.and_eq_true] at hh
      exact hh.1.2.2.2.1
theorem chk_regz {m : Mc} (h : chkR m = 0) : RegZ m := by
  have h64 := chkR_regs h
  have hr := chk_regsR h
  simp only [regsR, Bool.and_eq_true] at hr
  refine ⟨by omega, fun i r hi => ?_⟩
  have h1 := allI_get _ _ hr.1 i r hi
  simp only [Nat.zero_add, rgAt, Bool.and_eq_true] at h1
  obtain ⟨⟨_, hw⟩, _, hrest⟩ := h1
  have hw := inB_iff.1 hw
  unfold regRest at hrest
  cases g : decide (r.of_ = -1) with
  | true =>
    rw [g, cond_true] at hrest
    have hlow : r.low = 0 := by simpa using hrest
    exact ⟨by omega, .inl (by simpa using g)⟩
  | false =>
    rw [g, cond_false] at hrest
    cases g2 : inB r.of_ 0 (IntKind.i64.wrap ((m.regs.length : Int) - 1)) with
    | false => rw [g2] at hrest; simp at hrest
    | true =>
      obtain ⟨hge, p, hp⟩ := inB_get (by omega) g2
      rw [g2, hp] at hrest
      simp only [Bool.not_true, cond_false, Bool.and_eq_true, decide_eq_true_eq] at hrest
      obtain ⟨k1, k2, k3, k4⟩ := hrest
      have k3 := inB_iff.1 k3
      have k4 := inB_iff.1 k4
      rw [wr _ (by omega) (by omega)] at k4
      exact ⟨by omega, .inr ⟨by simpa using hge, p, hp, k1⟩⟩
theorem part_tup (m : Mc) (a c : Int) (hz : c = 0 → RegZ m) : ∃ p q t u : Int, partD m a c = .tup [.v (.int .i64 p), .v (.int .i64 q), .v (.int .i64 t), .v (.int .i64 u)] := by
  unfold partD
  cases h0 : decide (c = 0) with
  | false => exact ⟨_, _, _, _, rfl⟩
  | true =>
    have hz := hz (by simpa using h0)
    simp only [Bool.not_true, cond_false]
    cases h1 : inB a 0 (IntKind.i64.wrap ((m.regs.length : Int) - 1)) with
    | false => exact ⟨_, _, _, _, rfl⟩
    | true =>
      obtain ⟨_, r, hr⟩ := inB_get (by have := hz.1; omega) h1
      rw [hr]
      exact ⟨_, _, _, _, rfl⟩
theorem over_tup (m : Mc) (a b c : Int) : ∃ (z : Bool) (e : Int), ovD m a b c = .tup [.v (.bool z), .v (.int .i64 e)] := by
  unfold ovD
  cases decide (c = 0) with
  | false => exact ⟨_, _, rfl⟩
  | true =>
    simp only [Bool.not_true, cond_false]
    cases (!inB a 0 (IntKind.i64.wrap ((m.regs.length : Int) - 1)) || !inB b 0 (IntKind.i64.wrap ((m.regs.length : Int) - 1))) <;> exact ⟨_, _, rfl⟩
theorem roots_tup (m : Mc) (c : Int) (h : c = 0 → m.regs.length ≤ 1000) : ∃ (f : Bool) (L : List Int) (e : Int), L.length ≤ 1000 ∧ rootsD m c = .tup [.lst f (L.map iD), .v (.int .i64 e)] := by
  unfold rootsD
  by_cases h0 : c = 0
  · rw [if_pos h0]
    exact ⟨_, topsL m, _, by have := tops_len m.regs 0; have := h h0; show (topsAux 0 m.regs).length ≤ 1000; omega, rfl⟩
  · rw [if_neg h0]
    exact ⟨true, [], _, by simp, rfl⟩
def x_LawParts (a : Mc × Int × Int × ByteArray) : List D := match a with | (m, a, b, s) => [.agg m.d, .v (.int .i64 a), .v (.int .i64 b), .v (.string s)]
theorem i_LawParts : ∀ a b, x_LawParts a = x_LawParts b → a = b := by
  rintro ⟨m, a, b, s⟩ ⟨m', a', b', s'⟩ h
  first | simpa [x_LawParts, INJ, and_assoc, Int.ofNat_inj] using h | (simp [x_LawParts, INJ, and_assoc, Int.ofNat_inj] at h; simp_all)
open Classical in
noncomputable def s_LawParts : List D → Option D := sOf x_LawParts fun a => match a with | (m, a, b, s) => if (m.tw) then some (.v (.bool true)) else none
theorem e_LawParts {m : Mc} {a : Int} {b : Int} {s : ByteArray} (hc : (m.tw)) : s_LawParts [.agg m.d, .v (.int .i64 a), .v (.int .i64 b), .v (.string s)] = some (.v (.bool true)) := (sOf_eq i_LawParts (m, a, b, s)).trans (if_pos hc)
theorem R_LawParts {C : Ctx} {F : IFun} (hspec : ∀ N, maxLen + 10 < N → ∀ (m : Mc) (a : Int) (b : Int) (s : ByteArray), lenOK.lenOKs [.agg m.d, .v (.int .i64 a), .v (.int .i64 b), .v (.string s)] → (m.tw) → runE C N F [.agg m.d, .v (.int .i64 a), .v (.int .i64 b), .v (.string s)] = some (.v (.bool true))) : Runs C F (s_LawParts) := runs_of i_LawParts fun N hN a r hl hf => by
  obtain ⟨m, a, b, s⟩ := a
  simp only [Option.ite_none_right_eq_some, Option.some.injEq] at hf
  obtain ⟨hc, rfl⟩ := hf
  exact hspec N hN m a b s hl hc
set_option maxHeartbeats 4000000 in
theorem r_MachineParts (C : Ctx) (hG : C.T 11 = some s_GreatM) (h1 : C.T 18 = some s_RegF) (h2 : C.T 19 = some s_RegF8) (h3 : C.T 20 = some s_InsF) (h4 : C.T 21 = some s_InsF8) (h5 : C.T 22 = some s_RootsF) (h6 : C.T 23 = some s_RootsF8) (h7 : C.T 24 = some s_PartF) (h8 : C.T 25 = some s_PartF8) (h9 : C.T 26 = some s_OverF) (h10 : C.T 27 = some s_OverF8) : Runs C ir4 s_LawParts := R_LawParts fun N hN m a b s hl hc => by
  have eG := @e_GreatM m
  simp only [Mc.d] at eG
  cases g1 : greatM m
  case true => simp -dsimp only [runE, run_eq, ir4, Mc.d, hG, eG, g1, EVs, ↓EVd, ↓reduceIte, zA, zB, zC, zD, zE, zF, reduceBEq, reduceCtorEq, zG, zH, zI, zJ, zK, dcells, okc]
  cases g2 : decide ((100 : Int) < (s.size : Int))
  case true => simp -dsimp only [runE, run_eq, ir4, Mc.d, hG, eG, g1, g2, EVs, ↓EVd, ↓reduceIte, zA, zB, zC, zD, zE, zF, reduceBEq, reduceCtorEq, zG, zH, zI, zJ, zK, dcells, okc]
  have hlm : lenOK.lenOKs m.d := by simp only [EVl] at hl; exact hl.1
  obtain ⟨t1, t2⟩ := great_terms g1 hc hlm
  have hck := chk_eq t1 t2
  have hz : chkM m = 0 → RegZ m := fun h => chk_regz (hck ▸ h)
  have hz8 : chkR m = 0 → RegZ m := chk_regz
  have k1 := @e_RegF m s t2
  have k2 := @e_RegF8 m s t1
  have k3 := @e_InsF m s t2
  have k4 := @e_InsF8 m s t1
  have k5 := @e_RootsF m t2
  have k6 := @e_RootsF8 m t1
  have k7 := @e_PartF m a ⟨t2, hz⟩
  have k8 := @e_PartF8 m a ⟨t1, hz8⟩
  have k9 := @e_OverF m a b ⟨t2, hz⟩
  have k10 := @e_OverF8 m a b ⟨t1, hz8⟩
  rw [← hck] at k2 k4 k6 k8 k10
  obtain ⟨i1, e1, q1⟩ : ∃ i e : Int, findD (chkM m) (regI m s) = .tup [.v (.int .i64 i), .v (.int .i64 e)] := ⟨_, _, rfl⟩
  obtain ⟨i2, e2, q2⟩ : ∃ i e : Int, findD (chkM m) (insI m s) = .tup [.v (.int .i64 i), .v (.int .i64 e)] := ⟨_, _, rfl⟩
  obtain ⟨f, L, e3, hL, q3⟩ := roots_tup m (chkM m) fun h => by have := chkM_regs h; omega
  obtain ⟨p, q, t, u, q4⟩ := part_tup m a (chkM m) hz
  obtain ⟨z, e4, q5⟩ := over_tup m a b (chkM m)
  rw [q1] at k1 k2
  rw [q2] at k3 k4
  rw [q3] at k5 k6
  rw [q4] at k7 k8
  rw [q5] at k9 k10
  simp only [Mc.d] at k1 k2 k3 k4 k5 k6 k7 k8 k9 k10
  have hd : ∀ x : Int, decide (x = x) = true := fun x => decide_eq_true rfl
  have hml := maxLen_ge
  simp -dsimp only [runE, run_eq, ir4, Mc.d, hG, eG, g1, g2, h1, k1, h2, k2, h3, k3, h4, k4, h5, k5, h6, k6, h7, k7, h8, k8, h9, k9, h10, k10, hd, EVs, ↓EVd, ↓reduceIte, zA, zB, zC, zD, zE, zF, reduceBEq, reduceCtorEq, zG, zH, zI, zJ, zK, dcells, okc]
  generalize hI : iter _ _ _ _ = I
  revert I
  refine iter_all L (fun j _ => ⟨[(9, .v (.int .i64 i1)), (10, .v (.int .i64 e1)), (11, .v (.int .i64 i1)), (12, .v (.int .i64 e1)), (13, .v (.int .i64 i2)), (14, .v (.int .i64 e2)), (15, .v (.int .i64 i2)), (16, .v (.int .i64 e2)), (17, .lst f (L.map iD)), (18, .v (.int .i64 e3)), (19, .lst f (L.map iD)), (20, .v (.int .i64 e3)), (21, .v (.int .i64 p)), (22, .v (.int .i64 q)), (23, .v (.int .i64 t)), (24, .v (.int .i64 u)), (25, .v (.int .i64 p)), (26, .v (.int .i64 q)), (27, .v (.int .i64 t)), (28, .v (.int .i64 u)), (29, .v (.bool z)), (30, .v (.int .i64 e4)), (31, .v (.bool z)), (32, .v (.int .i64 e4)), (33, .v (.bool true)), (34, .v (.int .i64 j))], [(0, .box m.d)], 1⟩) (fun (_ : Unit) _ => ()) (fun _ _ => True) () (by omega) hN ?_ trivial ?_ ?_
  · simp -dsimp only [Mc.d, EVs, ↓EVd, ↓reduceIte, zA, zB, zC, zD, zE, zF, reduceBEq, reduceCtorEq, zG, zH, zI, zJ, zK, dcells, okc]
  · intro j _ x hj hjw hx _
    refine ⟨?_, trivial⟩
    simp -dsimp only [lp4x0, hj, hjw, hx, iD, Mc.d, hd, EVs, ↓EVd, ↓reduceIte, zA, zB, zC, zD, zE, zF, reduceBEq, reduceCtorEq, zG, zH, zI, zJ, zK, dcells, okc]
  · intro _
    simp -dsimp only [lp4x0, Mc.d, hd, EVs, ↓EVd, ↓reduceIte, zA, zB, zC, zD, zE, zF, reduceBEq, reduceCtorEq, zG, zH, zI, zJ, zK, dcells, okc]
end Go.Proofs.Dv
