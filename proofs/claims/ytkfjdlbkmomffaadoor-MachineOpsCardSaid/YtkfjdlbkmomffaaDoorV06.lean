/- A part of the proof of one statement about the given program: a verified evaluator of the model's code, and contracts of functions (QK QP). No condition of its own. -/
import Derived.Test.YtkfjdlbkmomffaaDoorProg
import Derived.KernelRfl
import Derived.Test.YtkfjdlbkmomffaaDoorV05
set_option linter.unusedVariables false
set_option linter.unusedSimpArgs false
set_option linter.defProp false
set_option linter.constructorNameAsVariable false
namespace Go.Proofs.Dv
noncomputable def PP : Program := Tryd.prog
theorem PPm : PP.follows .mixedOrders = true := by kernel_rfl
theorem k3 : fchk PP 3 ir3 = true := by kernel_rfl
theorem k4 : fchk PP 4 ir4 = true := by kernel_rfl
theorem k5 : fchk PP 5 ir5 = true := by kernel_rfl
theorem k6 : fchk PP 6 ir6 = true := by kernel_rfl
theorem k7 : fchk PP 7 ir7 = true := by kernel_rfl
theorem k8 : fchk PP 8 ir8 = true := by kernel_rfl
theorem k9 : fchk PP 9 ir9 = true := by kernel_rfl
theorem k10 : fchk PP 10 ir10 = true := by kernel_rfl
theorem k11 : fchk PP 11 ir11 = true := by kernel_rfl
theorem k12 : fchk PP 12 ir12 = true := by kernel_rfl
theorem k13 : fchk PP 13 ir13 = true := by kernel_rfl
theorem k14 : fchk PP 14 ir14 = true := by kernel_rfl
theorem k15 : fchk PP 15 ir15 = true := by kernel_rfl
theorem k16 : fchk PP 16 ir16 = true := by kernel_rfl
theorem k17 : fchk PP 17 ir17 = true := by kernel_rfl
theorem k18 : fchk PP 18 ir18 = true := by kernel_rfl
theorem k19 : fchk PP 19 ir19 = true := by kernel_rfl
theorem k20 : fchk PP 20 ir20 = true := by kernel_rfl
theorem k21 : fchk PP 21 ir21 = true := by kernel_rfl
theorem k22 : fchk PP 22 ir22 = true := by kernel_rfl
theorem k23 : fchk PP 23 ir23 = true := by kernel_rfl
theorem k24 : fchk PP 24 ir24 = true := by kernel_rfl
theorem k25 : fchk PP 25 ir25 = true := by kernel_rfl
theorem k26 : fchk PP 26 ir26 = true := by kernel_rfl
theorem k27 : fchk PP 27 ir27 = true := by kernel_rfl
theorem k28 : fchk PP 28 ir28 = true := by kernel_rfl
theorem k29 : fchk PP 29 ir29 = true := by kernel_rfl
theorem k30 : fchk PP 30 ir30 = true := by kernel_rfl
theorem k31 : fchk PP 31 ir31 = true := by kernel_rfl
theorem k32 : fchk PP 32 ir32 = true := by kernel_rfl
theorem k33 : fchk PP 33 ir33 = true := by kernel_rfl
theorem k34 : fchk PP 34 ir34 = true := by kernel_rfl
theorem k35 : fchk PP 35 ir35 = true := by kernel_rfl
theorem k36 : fchk PP 36 ir36 = true := by kernel_rfl
theorem k37 : fchk PP 37 ir37 = true := by kernel_rfl
theorem k38 : fchk PP 38 ir38 = true := by kernel_rfl
theorem k39 : fchk PP 39 ir39 = true := by kernel_rfl
theorem k40 : fchk PP 40 ir40 = true := by kernel_rfl
theorem k41 : fchk PP 41 ir41 = true := by kernel_rfl
theorem k42 : fchk PP 42 ir42 = true := by kernel_rfl
theorem k43 : fchk PP 43 ir43 = true := by kernel_rfl
theorem k44 : fchk PP 44 ir44 = true := by kernel_rfl
theorem k45 : fchk PP 45 ir45 = true := by kernel_rfl
theorem k46 : fchk PP 46 ir46 = true := by kernel_rfl
theorem k47 : fchk PP 47 ir47 = true := by kernel_rfl
theorem k48 : fchk PP 48 ir48 = true := by kernel_rfl
theorem k49 : fchk PP 49 ir49 = true := by kernel_rfl
theorem k50 : fchk PP 50 ir50 = true := by kernel_rfl
theorem k51 : fchk PP 51 ir51 = true := by kernel_rfl
theorem k52 : fchk PP 52 ir52 = true := by kernel_rfl
theorem k53 : fchk PP 53 ir53 = true := by kernel_rfl
theorem k54 : fchk PP 54 ir54 = true := by kernel_rfl
theorem k55 : fchk PP 55 ir55 = true := by kernel_rfl
theorem k56 : fchk PP 56 ir56 = true := by kernel_rfl
theorem k57 : fchk PP 57 ir57 = true := by kernel_rfl
theorem k58 : fchk PP 58 ir58 = true := by kernel_rfl
theorem k59 : fchk PP 59 ir59 = true := by kernel_rfl
theorem k60 : fchk PP 60 ir60 = true := by kernel_rfl
theorem k61 : fchk PP 61 ir61 = true := by kernel_rfl
theorem k62 : fchk PP 62 ir62 = true := by kernel_rfl
theorem k63 : fchk PP 63 ir63 = true := by kernel_rfl
theorem k64 : fchk PP 64 ir64 = true := by kernel_rfl
theorem k65 : fchk PP 65 ir65 = true := by kernel_rfl
theorem k66 : fchk PP 66 ir66 = true := by kernel_rfl
theorem k67 : fchk PP 67 ir67 = true := by kernel_rfl
theorem k68 : fchk PP 68 ir68 = true := by kernel_rfl
theorem k69 : fchk PP 69 ir69 = true := by kernel_rfl
theorem k70 : fchk PP 70 ir70 = true := by kernel_rfl
theorem k71 : fchk PP 71 ir71 = true := by kernel_rfl
theorem k72 : fchk PP 72 ir72 = true := by kernel_rfl
theorem k73 : fchk PP 73 ir73 = true := by kernel_rfl
theorem k74 : fchk PP 74 ir74 = true := by kernel_rfl
theorem k75 : fchk PP 75 ir75 = true := by kernel_rfl
theorem k76 : fchk PP 76 ir76 = true := by kernel_rfl
theorem k77 : fchk PP 77 ir77 = true := by kernel_rfl
theorem k78 : fchk PP 78 ir78 = true := by kernel_rfl
theorem k79 : fchk PP 79 ir79 = true := by kernel_rfl
theorem k80 : fchk PP 80 ir80 = true := by kernel_rfl
theorem k81 : fchk PP 81 ir81 = true := by kernel_rfl
theorem k82 : fchk PP 82 ir82 = true := by kernel_rfl
theorem k83 : fchk PP 83 ir83 = true := by kernel_rfl
theorem k84 : fchk PP 84 ir84 = true := by kernel_rfl
theorem k85 : fchk PP 85 ir85 = true := by kernel_rfl
theorem k86 : fchk PP 86 ir86 = true := by kernel_rfl
theorem k87 : fchk PP 87 ir87 = true := by kernel_rfl
theorem k88 : fchk PP 88 ir88 = true := by kernel_rfl
theorem k89 : fchk PP 89 ir89 = true := by kernel_rfl
theorem k90 : fchk PP 90 ir90 = true := by kernel_rfl
theorem k91 : fchk PP 91 ir91 = true := by kernel_rfl
theorem k92 : fchk PP 92 ir92 = true := by kernel_rfl
theorem k93 : fchk PP 93 ir93 = true := by kernel_rfl
theorem k94 : fchk PP 94 ir94 = true := by kernel_rfl
theorem k95 : fchk PP 95 ir95 = true := by kernel_rfl
theorem k96 : fchk PP 96 ir96 = true := by kernel_rfl
theorem k97 : fchk PP 97 ir97 = true := by kernel_rfl
end Go.Proofs.Dv
set_option linter.unusedVariables false
set_option linter.unusedSimpArgs false
set_option maxRecDepth 100000
namespace Go.Proofs.Dv
open Go.RowKit
def NN : Nat := maxLen + 11
theorem NNl : maxLen + 10 < NN := by unfold NN; omega
def gG : Nat → Option (List D) := fun g => if g = 0 then some tabD else none
open Classical in
noncomputable def gI : Nat → List D → Option (List (List D)) := fun gf caps => if h : gf = 79 ∧ ∃ t : T, caps = [.rp t.d] then some (h.2.choose.pre.map fun u => [.agg u.d]) else none
theorem gI_eq (t : T) : gI 79 [.rp t.d] = some (t.pre.map fun u => [.agg u.d]) := by
  have h : 79 = 79 ∧ ∃ u : T, [D.rp t.d] = [.rp u.d] := ⟨rfl, t, rfl⟩
  unfold gI
  rw [dif_pos h]
  exact (fun u (hu : [D.rp t.d] = [.rp u.d]) => by
    injection hu with h4
    injection h4 with h5
    rw [T.inj t u h5] : ∀ u : T, [D.rp t.d] = [.rp u.d] → some (u.pre.map fun u => [D.agg u.d]) = some (t.pre.map fun u => [D.agg u.d])) _ h.2.choose_spec
theorem gI_ok : ∀ gf caps xs, gI gf caps = some xs → IterOK PP gf caps xs := by
  intro gf caps xs h
  unfold gI at h
  split at h
  · rename_i hx
    obtain ⟨rfl, t, rfl⟩ := hx
    have := gI_eq t
    unfold gI at this
    rw [dif_pos ⟨rfl, t, rfl⟩] at this
    rw [h] at this
    simp only [Option.some.injEq] at this
    subst this
    exact nodes_iter k80 k79 t
  · simp at h
noncomputable def cx (ts : List (Nat × (List D → Option D))) (fs : List (Nat × IFun)) (k : Nat) : Ctx := ⟨gG, lookF ts, calF gG (lookF ts) gI NN fs k, gI⟩
def AllP : List (Nat × (List D → Option D)) → Prop
  | [] => True
  | p :: l => PureC PP gG p.1 p.2 ∧ AllP l
theorem allP : ∀ {l : List (Nat × (List D → Option D))}, AllP l → ∀ p ∈ l, PureC PP gG p.1 p.2
  | [], _, p, hp => by simp at hp
  | q :: l, h, p, hp => by
    rcases List.mem_cons.1 hp with rfl | hp
    · exact h.1
    · exact allP h.2 p hp
def AllF : List (Nat × IFun) → Prop
  | [] => True
  | p :: l => fchk PP p.1 p.2 = true ∧ AllF l
theorem allF : ∀ {l : List (Nat × IFun)}, AllF l → ∀ p ∈ l, fchk PP p.1 p.2 = true
  | [], _, p, hp => by simp at hp
  | q :: l, h, p, hp => by
    rcases List.mem_cons.1 hp with rfl | hp
    · exact h.1
    · exact allF h.2 p hp
theorem pur {f : Nat} {F : IFun} {s : List D → Option D} {ts : List (Nat × (List D → Option D))} {fs : List (Nat × IFun)} (k : Nat) (hT : AllP ts) (hf : AllF fs) (h : fchk PP f F = true) (hr : Runs (cx ts fs k) F s) : PureC PP gG f s :=
  pure_ok (N := NN) (C := cx ts fs k) (ctx_ok PPm gI_ok (allP hT) (allF hf) k) PPm h fun ds r hl hs => by
    have h1 := hr NN NNl ds r hl hs
    unfold runE at h1
    cases hx : run (cx ts fs k) NN F ds [] 0 with
    | none => rw [hx] at h1; simp [bd] at h1
    | some x =>
      obtain ⟨d, hp', nx'⟩ := x
      rw [hx] at h1
      exact ⟨d, hp', nx', rfl, h1⟩
theorem pnone {f : Nat} {F : IFun} {s : List D → Option D} (h : fchk PP f F = true) (hs : ∀ ds r, s ds = some r → False) : PureC PP gG f s := by
  refine pur (ts := []) (fs := []) 0 trivial trivial h fun N hN ds r _ h => (hs ds r h).elim
theorem cal_eq {ts : List (Nat × (List D → Option D))} {fs : List (Nat × IFun)} {k f : Nat} {F : IFun} (h : lookF fs f = some F) (ds : List D) (hp : List (Nat × Blk)) (nx : Nat) : (cx ts fs (k + 1)).cal f ds hp nx = gcr nx (run (cx ts fs k) NN F ds hp nx) := by
  show (match lookF fs f with | some F => gcr nx (run ⟨gG, lookF ts, calF gG (lookF ts) gI NN fs k, gI⟩ NN F ds hp nx) | none => none) = _
  rw [h]; rfl
theorem p23 : ∀ n, PureC PP gG 23 (s_Cnt n)
  | 0 => pnone k23 fun ds r h => by
    obtain ⟨a, rfl, hf⟩ := sOf_inv i_Cnt h
    simp only [Option.ite_none_right_eq_some] at hf
    omega
  | n + 1 => pur (ts := [(23, (s_Cnt n))]) (fs := []) 0 (⟨(p23 n), trivial⟩) trivial k23 (r_count _ n rfl)
theorem p24 : ∀ n, PureC PP gG 24 (s_Long n)
  | 0 => pnone k24 fun ds r h => by
    obtain ⟨a, rfl, hf⟩ := sOf_inv i_Long h
    simp only [Option.ite_none_right_eq_some] at hf
    have := T.depth_pos a; omega
  | n + 1 => pur (ts := [(24, (s_Long n))]) (fs := []) 0 (⟨(p24 n), trivial⟩) trivial k24 (r_long _ n rfl)
theorem p11 : PureC PP gG 11 s_Great02 := pur (ts := [(23, (s_Cnt 81)), (24, (s_Long 80))]) (fs := []) 0 (⟨(p23 81), (p24 80), trivial⟩) trivial k11 (r_Great02 _ rfl rfl)
theorem p25 : ∀ n, PureC PP gG 25 (s_Siz n)
  | 0 => pnone k25 fun ds r h => by
    obtain ⟨a, rfl, hf⟩ := sOf_inv i_Siz h
    simp only [Option.ite_none_right_eq_some] at hf
    have := T.depth_pos a; omega
  | n + 1 => pur (ts := [(25, (s_Siz n))]) (fs := []) 0 (⟨(p25 n), trivial⟩) trivial k25 (r_Size02 _ n rfl)
theorem p12 : PureC PP gG 12 s_NodesM := pur (ts := [(25, (s_Siz 80))]) (fs := []) 0 (⟨(p25 80), trivial⟩) trivial k12 (r_Nodes _ rfl)
theorem p4 : PureC PP gG 4 s_GreatM := pur (ts := [(11, s_Great02), (12, s_NodesM)]) (fs := []) 0 (⟨p11, p12, trivial⟩) trivial k4 (r_Great8 _ rfl rfl)
theorem p57 : PureC PP gG 57 s_Max2 := pur (ts := []) (fs := []) 0 (trivial) trivial k57 (r_Max _)
theorem p47 : PureC PP gG 47 s_Few := pur (ts := [(57, s_Max2)]) (fs := []) 0 (⟨p57, trivial⟩) trivial k47 (r_fewer _ rfl)
theorem p28 : PureC PP gG 28 s_SmallM := pur (ts := [(47, s_Few)]) (fs := []) 0 (⟨p47, trivial⟩) trivial k28 (r_small _ rfl)
theorem p17 : PureC PP gG 17 s_in := pur (ts := []) (fs := []) 0 (trivial) trivial k17 (r_within _)
theorem p30 : PureC PP gG 30 s_Name := pur (ts := []) (fs := []) 0 (trivial) trivial k30 (r_Name _)
theorem p58 : PureC PP gG 58 s_IdxS := pur (ts := []) (fs := []) 0 (trivial) trivial k58 (R_IndexS _)
theorem p48 : PureC PP gG 48 s_HasS := pur (ts := [(58, s_IdxS)]) (fs := []) 0 (⟨p58, trivial⟩) trivial k48 (R_ContainsS _ rfl)
theorem p37 : PureC PP gG 37 s_IdxI := pur (ts := []) (fs := []) 0 (trivial) trivial k37 (R_IndexI _)
theorem p19 : PureC PP gG 19 s_HasI := pur (ts := [(37, s_IdxI)]) (fs := []) 0 (⟨p37, trivial⟩) trivial k19 (R_ContainsI _ rfl)
theorem p26 : PureC PP gG 26 s_wide := pur (ts := []) (fs := []) 0 (trivial) trivial k26 (r_bwide _)
theorem p13 : PureC PP gG 13 s_Mask := pur (ts := [(26, s_wide)]) (fs := []) 0 (⟨p26, trivial⟩) trivial k13 (r_Mask _ rfl)
theorem p36 : PureC PP gG 36 s_Fld := pur (ts := []) (fs := []) 0 (trivial) trivial k36 (r_field _)
theorem p59 : PureC PP gG 59 s_WideO := pur (ts := []) (fs := []) 0 (trivial) trivial k59 (r_mwide _)
theorem p61 : PureC PP gG 61 s_ZeroTs := pur (ts := []) (fs := []) 0 (trivial) trivial k61 (r_none _)
theorem p70 : PureC PP gG 70 s_SizN :=
  pur (ts := []) (fs := [(72, ir72)]) 1 trivial ⟨k72, trivial⟩ k70 (r_SizN _ rfl (fun t hp nx => by rw [cal_eq rfl]; exact c_nodes _ NN t nx hp) gI_eq)
theorem p71 : ∀ n, PureC PP gG 71 (s_Dep n)
  | 0 => pnone k71 fun ds r h => by
    obtain ⟨a, rfl, hf⟩ := sOf_inv i_Dep h
    simp only [Option.ite_none_right_eq_some] at hf
    have := T.depth_pos a; omega
  | n + 1 => pur (ts := [(71, (s_Dep n))]) (fs := []) 0 (⟨(p71 n), trivial⟩) trivial k71 (r_Depth _ n rfl)
theorem p81 : PureC PP gG 81 s_wide := pur (ts := []) (fs := []) 0 (trivial) trivial k81 (r_twide _)
theorem p82 : PureC PP gG 82 s_Shaped := pur (ts := []) (fs := []) 0 (trivial) trivial k82 (r_shaped _ rfl)
theorem p83 : PureC PP gG 83 s_Ok := pur (ts := [(26, s_wide), (13, s_Mask)]) (fs := []) 0 (⟨p26, p13, trivial⟩) trivial k83 (r_Ok _ rfl rfl)
theorem p97 : PureC PP gG 97 s_HasP := pur (ts := []) (fs := []) 0 (trivial) trivial k97 (r_HasPrefix _)
theorem p95 : PureC PP gG 95 s_TrimP := pur (ts := [(97, s_HasP)]) (fs := []) 0 (⟨p97, trivial⟩) trivial k95 (r_TrimPrefixI _ rfl)
theorem p90 : PureC PP gG 90 s_TrimP := pur (ts := [(95, s_TrimP)]) (fs := []) 0 (⟨p95, trivial⟩) trivial k90 (r_TrimPrefix _ rfl)
theorem p84 : PureC PP gG 84 s_VarOK := pur (ts := [(90, s_TrimP), (30, s_Name)]) (fs := []) 0 (⟨p90, p30, trivial⟩) trivial k84 (r_variable _ rfl rfl)
theorem p93 : PureC PP gG 93 s_LoadOK := pur (ts := []) (fs := []) 0 (trivial) trivial k93 (r_loadable _)
theorem p85 : PureC PP gG 85 s_Widths :=
  pur (ts := [(81, s_wide), (93, s_LoadOK)]) (fs := [(91, ir91), (96, ir96), (92, ir92)]) 3 ⟨p81, p93, trivial⟩ ⟨k91, k96, k92, trivial⟩ k85 (r_widths _ rfl rfl rfl fun w ts b id nx hp hl hk hid hlk => by
    rw [cal_eq rfl]
    refine c_ContainsFuncT _ NN rfl 92 _ ts b id nx hp hk ?_
    rw [cal_eq rfl]
    refine c_IndexFuncT _ NN NNl 92 w rfl (fun y => !decide (y.width = w)) ts b id nx hp hk hid (fun t => ?_) hl
    rw [cal_eq rfl]
    exact c_widths1 _ NN t w id nx hp hk hid hlk)
theorem p73 : PureC PP gG 73 s_NodeOK := pur (ts := [(81, s_wide), (82, s_Shaped), (83, s_Ok), (84, s_VarOK), (85, s_Widths)]) (fs := []) 0 (⟨p81, p82, p83, p84, p85, trivial⟩) trivial k73 (r_node _ rfl rfl rfl rfl rfl)
theorem p66 : PureC PP gG 66 (s_ChkT 1000) :=
  pur (ts := [(70, s_SizN), (71, s_Dep 1000), (73, s_NodeOK)]) (fs := [(72, ir72), (74, ir74)]) 2 ⟨p70, p71 1000, p73, trivial⟩ ⟨k72, k74, trivial⟩ k66 (r_ChkT _ 1000 rfl rfl rfl rfl rfl
    (fun t hp nx => by rw [cal_eq rfl]; exact c_nodes _ NN t nx hp)
    (fun t => by rw [cal_eq rfl]; exact c_variables _ NN t rfl (fun t hp nx => by rw [cal_eq rfl]; exact c_nodes _ NN t nx hp) gI_eq) gI_eq)
noncomputable def mts : List (Nat × (List D → Option D)) := [(28, s_SmallM), (17, s_in), (30, s_Name), (48, s_HasS), (19, s_HasI), (13, s_Mask), (36, s_Fld), (59, s_WideO), (61, s_ZeroTs), (66, s_ChkT 1000)]
def mfs : List (Nat × IFun) := [(29, ir29), (34, ir34), (31, ir31), (32, ir32), (33, ir33), (35, ir35), (49, ir49), (50, ir50), (51, ir51), (60, ir60), (67, ir67)]
theorem m_must (k : Nat) : MustC (cx mts mfs (k + 1)) := ⟨rfl, fun hk bs hl ok => by rw [cal_eq rfl]; exact c_must _ NN NNl hk bs hl ok⟩
theorem m_fresh (k : Nat) : FreshC (cx mts mfs (k + 1)) := ⟨rfl, fun hk ns hl s => by rw [cal_eq rfl]; exact c_fresh _ NN rfl rfl hk ns hl s⟩
theorem m_regs (k : Nat) : RegsC (cx mts mfs (k + 2)) := ⟨rfl, fun m hl ok => by rw [cal_eq rfl]; exact c_regs _ NN NNl (m_must k) (m_fresh k) rfl m hl ok⟩
theorem m_banks (k : Nat) : BanksC (cx mts mfs (k + 2)) := ⟨rfl, fun m hl hr hb ok => by rw [cal_eq rfl]; exact c_banks _ NN NNl (m_must k) (m_fresh k) rfl rfl m hl hr hb ok⟩
theorem m_units (k : Nat) : UnitsC (cx mts mfs (k + 2)) := ⟨rfl, fun m hl ok => by rw [cal_eq rfl]; exact c_units _ NN NNl (m_must k) (m_fresh k) rfl m hl ok⟩
theorem m_operand (k : Nat) : OperandC (cx mts mfs (k + 2)) := ⟨rfl, fun hk i j o ho hp hb hop ok hw => by rw [cal_eq rfl]; exact c_operand _ NN NNl (m_must k) rfl rfl rfl hk i j o ho hp hb hop ok hw⟩
theorem m_mvars (k : Nat) : MvarsC (cx mts mfs (k + 1)) := ⟨rfl, fun hk i ok hr hop hn hw => by rw [cal_eq rfl]; exact c_mvars _ NN NNl rfl hk i ok hr hop hn hw⟩
theorem m_leaves : ∀ n k : Nat, LeavesC (cx mts mfs (k + n + 2)) n
  | 0, k => ⟨rfl, fun hk t hd ht hl ok => by rw [cal_eq rfl]; exact c_leaves _ NN NNl 0 (m_must _) rfl (fun n' h => by omega) hk t hd ht hl ok⟩
  | n + 1, k => ⟨rfl, fun hk t hd ht hl ok => by
      rw [cal_eq rfl]
      exact c_leaves _ NN NNl (n + 1) (m_must _) rfl (fun n' h => by
        have e : n' = n := by omega
        subst e
        exact m_leaves _ k) hk t hd ht hl ok⟩
theorem m_fits : FitsC (cx mts mfs 63) := ⟨rfl, fun hk t ht ok => by rw [cal_eq rfl]; exact c_fits _ NN NNl (m_must 61) (m_leaves 60 0) rfl hk t ht ok⟩
theorem m_effect : EffectC (cx mts mfs 64) := ⟨rfl, fun hk i e hr hop hw t1 t2 t3 ok => by rw [cal_eq rfl]; exact c_effect _ NN (m_must 62) m_fits rfl rfl rfl rfl hk i e hr hop hw t1 t2 t3 ok⟩
theorem m_instr : InstrC (cx mts mfs 65) := ⟨rfl, fun hk i hz hr hb ok hw hn hbk => by rw [cal_eq rfl]; exact c_instr _ NN NNl (m_must 63) (m_fresh 63) (m_operand 62) (m_mvars 63) m_effect rfl rfl hk i hz hr hb ok hw hn hbk⟩
theorem p16 : PureC PP gG 16 s_ChkM :=
  pur (ts := mts) (fs := mfs) 65 ⟨p28, p17, p30, p48, p19, p13, p36, p59, p61, p66, trivial⟩ ⟨k29, k34, k31, k32, k33, k35, k49, k50, k51, k60, k67, trivial⟩ k16
    (r_ChkM _ rfl (m_must 64) (m_fresh 64) (m_regs 63) (m_banks 63) (m_units 63) m_instr rfl rfl)
theorem p18 : PureC PP gG 18 s_Rng := pur (ts := [(36, s_Fld), (17, s_in)]) (fs := []) 0 (⟨p36, p17, trivial⟩) trivial k18 (r_ranged _ rfl rfl)
theorem p8 : PureC PP gG 8 s_COp := pur (ts := [(16, s_ChkM), (17, s_in), (18, s_Rng), (19, s_HasI)]) (fs := []) 0 (⟨p16, p17, p18, p19, trivial⟩) trivial k8 (r_CheckOp _ rfl rfl rfl rfl)
theorem p5 : PureC PP gG 5 s_VarsMv := pur (ts := [(8, s_COp), (13, s_Mask)]) (fs := []) 0 (⟨p8, p13, trivial⟩) trivial k5 (r_VarsM _ rfl rfl)
theorem p38 : PureC PP gG 38 s_SmallM := pur (ts := []) (fs := []) 0 (trivial) trivial k38 (r_within8 _)
theorem p39 : PureC PP gG 39 s_Name := pur (ts := []) (fs := []) 0 (trivial) trivial k39 (r_Name01 _)
theorem p40 : PureC PP gG 40 s_in := pur (ts := []) (fs := []) 0 (trivial) trivial k40 (r_In _)
theorem p41 : PureC PP gG 41 s_RegsR := pur (ts := [(39, s_Name), (40, s_in)]) (fs := []) 0 (⟨p39, p40, trivial⟩) trivial k41 (r_okRegs _ rfl rfl)
theorem p42 : PureC PP gG 42 s_BanksR := pur (ts := [(39, s_Name), (40, s_in)]) (fs := []) 0 (⟨p39, p40, trivial⟩) trivial k42 (r_okBanks _ rfl rfl)
theorem p43 : PureC PP gG 43 s_UnitsR := pur (ts := [(39, s_Name), (40, s_in)]) (fs := []) 0 (⟨p39, p40, trivial⟩) trivial k43 (r_okUnits _ rfl rfl)
theorem p14 : PureC PP gG 14 s_Below := pur (ts := []) (fs := []) 0 (trivial) trivial k14 (r_Below _)
theorem p52 : PureC PP gG 52 s_BitS := pur (ts := []) (fs := []) 0 (trivial) trivial k52 (r_Bit _)
theorem p62 : PureC PP gG 62 s_PcsR := pur (ts := [(40, s_in)]) (fs := []) 0 (⟨p40, trivial⟩) trivial k62 (r_okPieces _ rfl)
theorem p56 : PureC PP gG 56 s_Fld := pur (ts := []) (fs := []) 0 (trivial) trivial k56 (r_Field08 _)
theorem p27 : PureC PP gG 27 s_Pow08 := pur (ts := []) (fs := []) 0 (trivial) trivial k27 (r_Power08 _)
theorem p53 : PureC PP gG 53 s_OpR := pur (ts := [(39, s_Name), (62, s_PcsR), (40, s_in), (56, s_Fld), (27, s_Pow08)]) (fs := []) 0 (⟨p39, p62, p40, p56, p27, trivial⟩) trivial k53 (r_okOperand _ rfl rfl rfl rfl rfl)
theorem p54 : PureC PP gG 54 s_ApR := pur (ts := [(40, s_in), (52, s_BitS)]) (fs := []) 0 (⟨p40, p52, trivial⟩) trivial k54 (r_apart _ rfl rfl)
theorem p63 : PureC PP gG 63 s_ZeroT := pur (ts := []) (fs := []) 0 (trivial) trivial k63 (r_none08 _)
theorem p75 : ∀ n, PureC PP gG 75 (s_Dep n)
  | 0 => pnone k75 fun ds r h => by
    obtain ⟨a, rfl, hf⟩ := sOf_inv i_Dep h
    simp only [Option.ite_none_right_eq_some] at hf
    have := T.depth_pos a; omega
  | n + 1 => pur (ts := [(75, (s_Dep n))]) (fs := []) 0 (⟨(p75 n), trivial⟩) trivial k75 (r_Depth02 _ n rfl)
theorem p86 : PureC PP gG 86 s_wide := pur (ts := []) (fs := []) 0 (trivial) trivial k86 (r_Wide01 _)
theorem p94 : PureC PP gG 94 s_Pow01 := pur (ts := []) (fs := []) 0 (trivial) trivial k94 (r_Power01 _)
theorem p87 : PureC PP gG 87 s_OkC := pur (ts := [(86, s_wide), (94, s_Pow01)]) (fs := []) 0 (⟨p86, p94, trivial⟩) trivial k87 (r_Ok01 _ rfl rfl)
theorem p88 : PureC PP gG 88 s_VarOK := pur (ts := [(39, s_Name)]) (fs := []) 0 (⟨p39, trivial⟩) trivial k88 (r_Variable02 _ rfl)
theorem p89 : PureC PP gG 89 s_LoadOK := pur (ts := []) (fs := []) 0 (trivial) trivial k89 (r_loads _)
theorem p76 : ∀ n, PureC PP gG 76 (s_Formed n)
  | 0 => pnone k76 fun ds r h => by
    obtain ⟨a, rfl, hf⟩ := sOf_inv i_Formed h
    simp only [Option.ite_none_right_eq_some] at hf
    have := T.depth_pos a; omega
  | n + 1 => pur (ts := [(76, (s_Formed n)), (86, s_wide), (87, s_OkC), (88, s_VarOK), (89, s_LoadOK)]) (fs := []) 0 (⟨(p76 n), p86, p87, p88, p89, trivial⟩) trivial k76 (r_Formed _ n rfl rfl rfl rfl rfl)
theorem p77 : ∀ n, PureC PP gG 77 (s_Vars n)
  | 0 => pnone k77 fun ds r h => by
    obtain ⟨a, rfl, hf⟩ := sOf_inv i_Vars h
    simp only [Option.ite_none_right_eq_some] at hf
    have := T.depth_pos a; omega
  | n + 1 => pur (ts := [(77, (s_Vars n))]) (fs := []) 0 (⟨(p77 n), trivial⟩) trivial k77 (r_list _ n rfl)
theorem p68 (n : Nat) : PureC PP gG 68 (s_Chk02 n) := pur (ts := [(25, (s_Siz n)), (75, (s_Dep n)), (76, (s_Formed n)), (77, (s_Vars n))]) (fs := []) 0 (⟨(p25 n), (p75 n), (p76 n), (p77 n), trivial⟩) trivial k68 (r_Check02 _ n rfl rfl rfl rfl)
theorem p65 : PureC PP gG 65 s_WideO := pur (ts := []) (fs := []) 0 (trivial) trivial k65 (r_Wide08 _)
theorem p78 : PureC PP gG 78 s_VarR8 := pur (ts := [(65, s_WideO)]) (fs := []) 0 (⟨p65, trivial⟩) trivial k78 (r_variable8 _ rfl)
theorem p69 : ∀ n, PureC PP gG 69 (s_Known n)
  | 0 => pnone k69 fun ds r h => by
    obtain ⟨a, rfl, hf⟩ := sOf_inv i_Known h
    simp only [Option.ite_none_right_eq_some] at hf
    obtain ⟨_, _, t⟩ := a; have := T.depth_pos t; simp only at hf; omega
  | n + 1 => pur (ts := [(78, s_VarR8), (69, (s_Known n))]) (fs := []) 0 (⟨p78, (p69 n), trivial⟩) trivial k69 (r_known _ n rfl rfl)
theorem p64 : PureC PP gG 64 s_FitR := pur (ts := [(68, (s_Chk02 1000)), (69, (s_Known 60))]) (fs := []) 0 (⟨(p68 1000), (p69 60), trivial⟩) trivial k64 (r_Fits _ rfl rfl)
theorem p55 : PureC PP gG 55 s_EffR := pur (ts := [(63, s_ZeroT), (64, s_FitR), (40, s_in), (65, s_WideO)]) (fs := []) 0 (⟨p63, p64, p40, p65, trivial⟩) trivial k55 (r_okEffect _ rfl rfl rfl rfl)
theorem p44 : PureC PP gG 44 s_InsR := pur (ts := [(14, s_Below), (52, s_BitS), (53, s_OpR), (54, s_ApR), (55, s_EffR), (40, s_in)]) (fs := []) 0 (⟨p14, p52, p53, p54, p55, p40, trivial⟩) trivial k44 (r_okInstr _ rfl rfl rfl rfl rfl rfl)
theorem p20 : PureC PP gG 20 s_ChkR := pur (ts := [(38, s_SmallM), (39, s_Name), (40, s_in), (41, s_RegsR), (42, s_BanksR), (43, s_UnitsR), (44, s_InsR)]) (fs := []) 0 (⟨p38, p39, p40, p41, p42, p43, p44, trivial⟩) trivial k20 (r_Check8 _ rfl rfl rfl rfl rfl rfl rfl)
theorem p45 : PureC PP gG 45 s_Rng := pur (ts := [(56, s_Fld), (40, s_in), (27, s_Pow08)]) (fs := []) 0 (⟨p56, p40, p27, trivial⟩) trivial k45 (r_Ranged8 _ rfl rfl rfl)
theorem p46 : PureC PP gG 46 s_PlaceO := pur (ts := []) (fs := []) 0 (trivial) trivial k46 (r_Place _)
theorem p21 : PureC PP gG 21 s_Sui := pur (ts := [(40, s_in), (45, s_Rng), (46, s_PlaceO)]) (fs := []) 0 (⟨p40, p45, p46, trivial⟩) trivial k21 (r_Suits _ rfl rfl rfl)
theorem p9 : PureC PP gG 9 s_COpR := pur (ts := [(20, s_ChkR), (21, s_Sui)]) (fs := []) 0 (⟨p20, p21, trivial⟩) trivial k9 (r_CheckOp8 _ rfl rfl)
theorem p15 : PureC PP gG 15 s_Mdl := pur (ts := [(27, s_Pow08)]) (fs := []) 0 (⟨p27, trivial⟩) trivial k15 (r_Modulo _ rfl)
theorem p6 : PureC PP gG 6 s_VarsRv := pur (ts := [(9, s_COpR), (14, s_Below), (15, s_Mdl)]) (fs := []) 0 (⟨p9, p14, p15, trivial⟩) trivial k6 (r_VarsR _ rfl rfl rfl)
theorem p7 : PureC PP gG 7 s_SameB := pur (ts := []) (fs := []) 0 (trivial) trivial k7 (r_SameBound _)
theorem p22 : PureC PP gG 22 s_SameI := pur (ts := []) (fs := []) 0 (trivial) trivial k22 (r_sameInts _)
theorem p10 : PureC PP gG 10 s_SameO := pur (ts := [(22, s_SameI)]) (fs := []) 0 (⟨p22, trivial⟩) trivial k10 (r_SameOp _ rfl)
theorem p3 : PureC PP gG 3 s_LawOps := pur (ts := [(4, s_GreatM), (5, s_VarsMv), (6, s_VarsRv), (7, s_SameB), (8, s_COp), (9, s_COpR), (10, s_SameO)]) (fs := []) 0 (⟨p4, p5, p6, p7, p8, p9, p10, trivial⟩) trivial k3 (r_MachineOps _ rfl rfl rfl rfl rfl rfl rfl)
end Go.Proofs.Dv
