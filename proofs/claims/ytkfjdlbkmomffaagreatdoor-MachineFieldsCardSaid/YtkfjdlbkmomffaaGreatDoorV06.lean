/- A part of the proof of one statement about the given program: a verified evaluator of the model's code, and contracts of functions (QK QP). No condition of its own. -/
import Derived.Test.YtkfjdlbkmomffaaGreatDoorProg
import Derived.KernelRfl
import Derived.Test.YtkfjdlbkmomffaaGreatDoorV05
set_option linter.unusedVariables false
set_option linter.unusedSimpArgs false
set_option linter.defProp false
set_option linter.constructorNameAsVariable false
namespace Go.Proofs.Dv
noncomputable def PP : Program := Tryz.prog
theorem PPm : PP.follows .mixedOrders = true := by kernel_rfl
theorem k10 : fchk PP 10 ir10 = true := by kernel_rfl
theorem k11 : fchk PP 11 ir11 = true := by kernel_rfl
theorem k14 : fchk PP 14 ir14 = true := by kernel_rfl
theorem k18 : fchk PP 18 ir18 = true := by kernel_rfl
theorem k20 : fchk PP 20 ir20 = true := by kernel_rfl
theorem k22 : fchk PP 22 ir22 = true := by kernel_rfl
theorem k24 : fchk PP 24 ir24 = true := by kernel_rfl
theorem k26 : fchk PP 26 ir26 = true := by kernel_rfl
theorem k28 : fchk PP 28 ir28 = true := by kernel_rfl
theorem k30 : fchk PP 30 ir30 = true := by kernel_rfl
theorem k33 : fchk PP 33 ir33 = true := by kernel_rfl
theorem k34 : fchk PP 34 ir34 = true := by kernel_rfl
theorem k35 : fchk PP 35 ir35 = true := by kernel_rfl
theorem k36 : fchk PP 36 ir36 = true := by kernel_rfl
theorem k37 : fchk PP 37 ir37 = true := by kernel_rfl
theorem k39 : fchk PP 39 ir39 = true := by kernel_rfl
theorem k40 : fchk PP 40 ir40 = true := by kernel_rfl
theorem k55 : fchk PP 55 ir55 = true := by kernel_rfl
theorem k56 : fchk PP 56 ir56 = true := by kernel_rfl
theorem k57 : fchk PP 57 ir57 = true := by kernel_rfl
theorem k58 : fchk PP 58 ir58 = true := by kernel_rfl
theorem k59 : fchk PP 59 ir59 = true := by kernel_rfl
theorem k60 : fchk PP 60 ir60 = true := by kernel_rfl
theorem k61 : fchk PP 61 ir61 = true := by kernel_rfl
theorem k62 : fchk PP 62 ir62 = true := by kernel_rfl
theorem k63 : fchk PP 63 ir63 = true := by kernel_rfl
theorem k80 : fchk PP 80 ir80 = true := by kernel_rfl
theorem k81 : fchk PP 81 ir81 = true := by kernel_rfl
theorem k82 : fchk PP 82 ir82 = true := by kernel_rfl
theorem k83 : fchk PP 83 ir83 = true := by kernel_rfl
theorem k84 : fchk PP 84 ir84 = true := by kernel_rfl
theorem k86 : fchk PP 86 ir86 = true := by kernel_rfl
theorem k88 : fchk PP 88 ir88 = true := by kernel_rfl
theorem k89 : fchk PP 89 ir89 = true := by kernel_rfl
theorem k92 : fchk PP 92 ir92 = true := by kernel_rfl
theorem k93 : fchk PP 93 ir93 = true := by kernel_rfl
theorem k96 : fchk PP 96 ir96 = true := by kernel_rfl
theorem k98 : fchk PP 98 ir98 = true := by kernel_rfl
theorem k99 : fchk PP 99 ir99 = true := by kernel_rfl
theorem k100 : fchk PP 100 ir100 = true := by kernel_rfl
theorem k101 : fchk PP 101 ir101 = true := by kernel_rfl
theorem k102 : fchk PP 102 ir102 = true := by kernel_rfl
theorem k103 : fchk PP 103 ir103 = true := by kernel_rfl
theorem k104 : fchk PP 104 ir104 = true := by kernel_rfl
theorem k105 : fchk PP 105 ir105 = true := by kernel_rfl
theorem k106 : fchk PP 106 ir106 = true := by kernel_rfl
theorem k107 : fchk PP 107 ir107 = true := by kernel_rfl
theorem k108 : fchk PP 108 ir108 = true := by kernel_rfl
theorem k109 : fchk PP 109 ir109 = true := by kernel_rfl
theorem k121 : fchk PP 121 ir121 = true := by kernel_rfl
theorem k122 : fchk PP 122 ir122 = true := by kernel_rfl
theorem k123 : fchk PP 123 ir123 = true := by kernel_rfl
theorem k124 : fchk PP 124 ir124 = true := by kernel_rfl
theorem k125 : fchk PP 125 ir125 = true := by kernel_rfl
theorem k126 : fchk PP 126 ir126 = true := by kernel_rfl
theorem k127 : fchk PP 127 ir127 = true := by kernel_rfl
theorem k128 : fchk PP 128 ir128 = true := by kernel_rfl
theorem k129 : fchk PP 129 ir129 = true := by kernel_rfl
theorem k132 : fchk PP 132 ir132 = true := by kernel_rfl
theorem k133 : fchk PP 133 ir133 = true := by kernel_rfl
theorem k134 : fchk PP 134 ir134 = true := by kernel_rfl
theorem k135 : fchk PP 135 ir135 = true := by kernel_rfl
theorem k136 : fchk PP 136 ir136 = true := by kernel_rfl
theorem k137 : fchk PP 137 ir137 = true := by kernel_rfl
theorem k138 : fchk PP 138 ir138 = true := by kernel_rfl
theorem k139 : fchk PP 139 ir139 = true := by kernel_rfl
theorem k140 : fchk PP 140 ir140 = true := by kernel_rfl
theorem k141 : fchk PP 141 ir141 = true := by kernel_rfl
theorem k142 : fchk PP 142 ir142 = true := by kernel_rfl
theorem k143 : fchk PP 143 ir143 = true := by kernel_rfl
theorem k144 : fchk PP 144 ir144 = true := by kernel_rfl
theorem k145 : fchk PP 145 ir145 = true := by kernel_rfl
theorem k146 : fchk PP 146 ir146 = true := by kernel_rfl
theorem k147 : fchk PP 147 ir147 = true := by kernel_rfl
theorem k148 : fchk PP 148 ir148 = true := by kernel_rfl
theorem k149 : fchk PP 149 ir149 = true := by kernel_rfl
theorem k150 : fchk PP 150 ir150 = true := by kernel_rfl
theorem k158 : fchk PP 158 ir158 = true := by kernel_rfl
theorem k159 : fchk PP 159 ir159 = true := by kernel_rfl
theorem k160 : fchk PP 160 ir160 = true := by kernel_rfl
theorem k161 : fchk PP 161 ir161 = true := by kernel_rfl
theorem k162 : fchk PP 162 ir162 = true := by kernel_rfl
theorem k163 : fchk PP 163 ir163 = true := by kernel_rfl
theorem k164 : fchk PP 164 ir164 = true := by kernel_rfl
theorem k167 : fchk PP 167 ir167 = true := by kernel_rfl
theorem k168 : fchk PP 168 ir168 = true := by kernel_rfl
theorem k169 : fchk PP 169 ir169 = true := by kernel_rfl
theorem k170 : fchk PP 170 ir170 = true := by kernel_rfl
theorem k171 : fchk PP 171 ir171 = true := by kernel_rfl
theorem k176 : fchk PP 176 ir176 = true := by kernel_rfl
theorem k177 : fchk PP 177 ir177 = true := by kernel_rfl
theorem k178 : fchk PP 178 ir178 = true := by kernel_rfl
theorem k179 : fchk PP 179 ir179 = true := by kernel_rfl
theorem k180 : fchk PP 180 ir180 = true := by kernel_rfl
theorem k181 : fchk PP 181 ir181 = true := by kernel_rfl
theorem k186 : fchk PP 186 ir186 = true := by kernel_rfl
theorem k187 : fchk PP 187 ir187 = true := by kernel_rfl
theorem k188 : fchk PP 188 ir188 = true := by kernel_rfl
theorem k189 : fchk PP 189 ir189 = true := by kernel_rfl
theorem k191 : fchk PP 191 ir191 = true := by kernel_rfl
theorem k192 : fchk PP 192 ir192 = true := by kernel_rfl
theorem k193 : fchk PP 193 ir193 = true := by kernel_rfl
end Go.Proofs.Dv
set_option linter.unusedVariables false
set_option linter.unusedSimpArgs false
set_option maxRecDepth 100000
namespace Go.Proofs.Dv
open Go.RowKit
def NN : Nat := maxLen + 11
theorem NNl : maxLen + 10 < NN := by unfold NN; omega
def gG : Nat → Option (List D) := fun g => if g = 0 then some tabD else none
open Classical in
noncomputable def gI : Nat → List D → Option (List (List D)) := fun gf caps => if h : gf = 176 ∧ ∃ t : T, caps = [.rp t.d] then some (h.2.choose.pre.map fun u => [.agg u.d]) else none
theorem gI_eq (t : T) : gI 176 [.rp t.d] = some (t.pre.map fun u => [.agg u.d]) := by
  have h : 176 = 176 ∧ ∃ u : T, [D.rp t.d] = [.rp u.d] := ⟨rfl, t, rfl⟩
  unfold gI
  rw [dif_pos h]
  exact (fun u (hu : [D.rp t.d] = [.rp u.d]) => by
    injection hu with h4
    injection h4 with h5
    rw [T.inj t u h5] : ∀ u : T, [D.rp t.d] = [.rp u.d] → some (u.pre.map fun u => [D.agg u.d]) = some (t.pre.map fun u => [D.agg u.d])) _ h.2.choose_spec
theorem gI_ok : ∀ gf caps xs, gI gf caps = some xs → IterOK PP gf caps xs := by
  intro gf caps xs h
  unfold gI at h
  split at h
  · rename_i hx
    obtain ⟨rfl, t, rfl⟩ := hx
    have := gI_eq t
    unfold gI at this
    rw [dif_pos ⟨rfl, t, rfl⟩] at this
    rw [h] at this
    simp only [Option.some.injEq] at this
    subst this
    exact nodes_iter k177 k176 t
  · simp at h
noncomputable def cx (ts : List (Nat × (List D → Option D))) (fs : List (Nat × IFun)) (k : Nat) : Ctx := ⟨gG, lookF ts, calF gG (lookF ts) gI NN fs k, gI⟩
def AllP : List (Nat × (List D → Option D)) → Prop
  | [] => True
  | p :: l => PureC PP gG p.1 p.2 ∧ AllP l
theorem allP : ∀ {l : List (Nat × (List D → Option D))}, AllP l → ∀ p ∈ l, PureC PP gG p.1 p.2
  | [], _, p, hp => by simp at hp
  | q :: l, h, p, hp => by
    rcases List.mem_cons.1 hp with rfl | hp
    · exact h.1
    · exact allP h.2 p hp
def AllF : List (Nat × IFun) → Prop
  | [] => True
  | p :: l => fchk PP p.1 p.2 = true ∧ AllF l
theorem allF : ∀ {l : List (Nat × IFun)}, AllF l → ∀ p ∈ l, fchk PP p.1 p.2 = true
  | [], _, p, hp => by simp at hp
  | q :: l, h, p, hp => by
    rcases List.mem_cons.1 hp with rfl | hp
    · exact h.1
    · exact allF h.2 p hp
theorem pur {f : Nat} {F : IFun} {s : List D → Option D} {ts : List (Nat × (List D → Option D))} {fs : List (Nat × IFun)} (k : Nat) (hT : AllP ts) (hf : AllF fs) (h : fchk PP f F = true) (hr : Runs (cx ts fs k) F s) : PureC PP gG f s :=
  pure_ok (N := NN) (C := cx ts fs k) (ctx_ok PPm gI_ok (allP hT) (allF hf) k) PPm h fun ds r hl hs => by
    have h1 := hr NN NNl ds r hl hs
    unfold runE at h1
    cases hx : run (cx ts fs k) NN F ds [] 0 with
    | none => rw [hx] at h1; simp [bd] at h1
    | some x =>
      obtain ⟨d, hp', nx'⟩ := x
      rw [hx] at h1
      exact ⟨d, hp', nx', rfl, h1⟩
theorem purP {f : Nat} {F : IFun} {s : List D → Option D} {ts : List (Nat × (List D → Option D))} {fs : List (Nat × IFun)} (k : Nat) (hT : AllP ts) (hf : AllF fs) (h : fchk PP f F = true) (hr : RunsP (cx ts fs k) F s) : PureC PP gG f s :=
  pure_okP (N := NN) (C := cx ts fs k) (ctx_ok PPm gI_ok (allP hT) (allF hf) k) PPm h fun ds r hl hs => by
    have h1 := hr NN NNl ds r hl hs
    unfold runP at h1
    cases hx : run (cx ts fs k) NN F ds [] 0 with
    | none => rw [hx] at h1; simp [bd] at h1
    | some x =>
      obtain ⟨d, hp', nx'⟩ := x
      rw [hx] at h1
      exact ⟨d, hp', nx', rfl, h1⟩
theorem pnone {f : Nat} {F : IFun} {s : List D → Option D} (h : fchk PP f F = true) (hs : ∀ ds r, s ds = some r → False) : PureC PP gG f s := by
  refine pur (ts := []) (fs := []) 0 trivial trivial h fun N hN ds r _ h => (hs ds r h).elim
theorem cal_eq {ts : List (Nat × (List D → Option D))} {fs : List (Nat × IFun)} {k f : Nat} {F : IFun} (h : lookF fs f = some F) (ds : List D) (hp : List (Nat × Blk)) (nx : Nat) : (cx ts fs (k + 1)).cal f ds hp nx = gcr nx (run (cx ts fs k) NN F ds hp nx) := by
  show (match lookF fs f with | some F => gcr nx (run ⟨gG, lookF ts, calF gG (lookF ts) gI NN fs k, gI⟩ NN F ds hp nx) | none => none) = _
  rw [h]; rfl
theorem lookF_mem {α : Type} : ∀ (l : List (Nat × α)) (i : Nat) (x : α), lookF l i = some x → (i, x) ∈ l
  | [], i, x, h => by simp [lookF] at h
  | (j, y) :: l, i, x, h => by
    simp only [lookF] at h
    split at h
    · rename_i hij
      simp only [Option.some.injEq] at h
      subst hij h
      exact List.mem_cons_self
    · exact List.mem_cons_of_mem _ (lookF_mem l i x h)
theorem p33 : PureC PP gG 33 s_Given := by
  have h1 := g1_ev gG gI
  have h0 := g0_ev gG gI
  cases hs : tG gG gI (maxLen + 11) gfs gcs 8 33 with
  | none => rw [hs] at h1; simp at h1
  | some s0 =>
    rw [hs] at h1 h0
    simp only [Option.bind_some, Option.map_eq_some_iff] at h1 h0
    have a1 : AllF gfs := ⟨k33, k96, k98, k132, k133, k134, k135, k136, k137, k138, k139, k140, k141, k143, k160, k161, k162, trivial⟩
    have a2 : AllF gcs := ⟨k126, k127, k128, k129, k142, k159, trivial⟩
    refine PureC.weak (tG_ok PPm gI_ok (fun f F h => allF a1 _ (lookF_mem _ _ _ h)) (fun f F h => allF a2 _ (lookF_mem _ _ _ h)) 8 _ _ hs) fun ds r h => ?_
    unfold s_Given at h
    split at h
    · rename_i k
      split at h
      · rename_i e
        simp only [Option.some.injEq] at h
        obtain ⟨r0, x, y⟩ := h1
        subst e h
        exact ⟨r0, x, y.symm⟩
      · split at h
        · rename_i e
          simp only [Option.some.injEq] at h
          obtain ⟨r0, x, y⟩ := h0
          subst e h
          exact ⟨r0, x, y.symm⟩
        · simp at h
    · simp at h
theorem p146 : PureC PP gG 146 s_Max2 := pur (ts := []) (fs := []) 0 (trivial) trivial k146 (r_Max _)
theorem p105 : PureC PP gG 105 s_Few := pur (ts := [(146, s_Max2)]) (fs := []) 0 (⟨p146, trivial⟩) trivial k105 (r_fewer _ rfl)
theorem p55 : PureC PP gG 55 s_SmallM := pur (ts := [(105, s_Few)]) (fs := []) 0 (⟨p105, trivial⟩) trivial k55 (r_small _ rfl)
theorem p58 : PureC PP gG 58 s_in := pur (ts := []) (fs := []) 0 (trivial) trivial k58 (r_within _)
theorem p57 : PureC PP gG 57 s_Name := pur (ts := []) (fs := []) 0 (trivial) trivial k57 (r_Name _)
theorem p147 : PureC PP gG 147 s_IdxS := pur (ts := []) (fs := []) 0 (trivial) trivial k147 (R_IndexS _)
theorem p106 : PureC PP gG 106 s_HasS := pur (ts := [(147, s_IdxS)]) (fs := []) 0 (⟨p147, trivial⟩) trivial k106 (R_ContainsS _ rfl)
theorem p145 : PureC PP gG 145 s_IdxI := pur (ts := []) (fs := []) 0 (trivial) trivial k145 (R_IndexI _)
theorem p100 : PureC PP gG 100 s_HasI := pur (ts := [(145, s_IdxI)]) (fs := []) 0 (⟨p145, trivial⟩) trivial k100 (R_ContainsI _ rfl)
theorem p125 : PureC PP gG 125 s_wide := pur (ts := []) (fs := []) 0 (trivial) trivial k125 (r_bwide _)
theorem p89 : PureC PP gG 89 s_Mask := pur (ts := [(125, s_wide)]) (fs := []) 0 (⟨p125, trivial⟩) trivial k89 (r_Mask _ rfl)
theorem p144 : PureC PP gG 144 s_Fld := pur (ts := []) (fs := []) 0 (trivial) trivial k144 (r_field _)
theorem p148 : PureC PP gG 148 s_WideO := pur (ts := []) (fs := []) 0 (trivial) trivial k148 (r_mwide _)
theorem p150 : PureC PP gG 150 s_ZeroTs := pur (ts := []) (fs := []) 0 (trivial) trivial k150 (r_none _)
theorem p167 : PureC PP gG 167 s_SizN :=
  pur (ts := []) (fs := [(169, ir169)]) 1 trivial ⟨k169, trivial⟩ k167 (r_SizN _ rfl (fun t hp nx => by rw [cal_eq rfl]; exact c_nodes _ NN t nx hp) gI_eq)
theorem p168 : ∀ n, PureC PP gG 168 (s_Dep n)
  | 0 => pnone k168 fun ds r h => by
    obtain ⟨a, rfl, hf⟩ := sOf_inv i_Dep h
    simp only [Option.ite_none_right_eq_some] at hf
    have := T.depth_pos a; omega
  | n + 1 => pur (ts := [(168, (s_Dep n))]) (fs := []) 0 (⟨(p168 n), trivial⟩) trivial k168 (r_Depth _ n rfl)
theorem p178 : PureC PP gG 178 s_wide := pur (ts := []) (fs := []) 0 (trivial) trivial k178 (r_twide _)
theorem p179 : PureC PP gG 179 s_Shaped := pur (ts := []) (fs := []) 0 (trivial) trivial k179 (r_shaped _ rfl)
theorem p92 : PureC PP gG 92 s_Ok := pur (ts := [(125, s_wide), (89, s_Mask)]) (fs := []) 0 (⟨p125, p89, trivial⟩) trivial k92 (r_Ok _ rfl rfl)
theorem p193 : PureC PP gG 193 s_HasP := pur (ts := []) (fs := []) 0 (trivial) trivial k193 (r_HasPrefix _)
theorem p191 : PureC PP gG 191 s_TrimP := pur (ts := [(193, s_HasP)]) (fs := []) 0 (⟨p193, trivial⟩) trivial k191 (r_TrimPrefixI _ rfl)
theorem p186 : PureC PP gG 186 s_TrimP := pur (ts := [(191, s_TrimP)]) (fs := []) 0 (⟨p191, trivial⟩) trivial k186 (r_TrimPrefix _ rfl)
theorem p180 : PureC PP gG 180 s_VarOK := pur (ts := [(186, s_TrimP), (57, s_Name)]) (fs := []) 0 (⟨p186, p57, trivial⟩) trivial k180 (r_variable _ rfl rfl)
theorem p189 : PureC PP gG 189 s_LoadOK := pur (ts := []) (fs := []) 0 (trivial) trivial k189 (r_loadable _)
theorem p181 : PureC PP gG 181 s_Widths :=
  pur (ts := [(178, s_wide), (189, s_LoadOK)]) (fs := [(187, ir187), (192, ir192), (188, ir188)]) 3 ⟨p178, p189, trivial⟩ ⟨k187, k192, k188, trivial⟩ k181 (r_widths _ rfl rfl rfl fun w ts b id nx hp hl hk hid hlk => by
    rw [cal_eq rfl]
    refine c_ContainsFuncT _ NN rfl 188 _ ts b id nx hp hk ?_
    rw [cal_eq rfl]
    refine c_IndexFuncT _ NN NNl 188 w rfl (fun y => !decide (y.width = w)) ts b id nx hp hk hid (fun t => ?_) hl
    rw [cal_eq rfl]
    exact c_widths1 _ NN t w id nx hp hk hid hlk)
theorem p170 : PureC PP gG 170 s_NodeOK := pur (ts := [(178, s_wide), (179, s_Shaped), (92, s_Ok), (180, s_VarOK), (181, s_Widths)]) (fs := []) 0 (⟨p178, p179, p92, p180, p181, trivial⟩) trivial k170 (r_node _ rfl rfl rfl rfl rfl)
theorem p163 : PureC PP gG 163 (s_ChkT 1000) :=
  pur (ts := [(167, s_SizN), (168, s_Dep 1000), (170, s_NodeOK)]) (fs := [(169, ir169), (171, ir171)]) 2 ⟨p167, p168 1000, p170, trivial⟩ ⟨k169, k171, trivial⟩ k163 (r_ChkT _ 1000 rfl rfl rfl rfl rfl
    (fun t hp nx => by rw [cal_eq rfl]; exact c_nodes _ NN t nx hp)
    (fun t => by rw [cal_eq rfl]; exact c_variables _ NN t rfl (fun t hp nx => by rw [cal_eq rfl]; exact c_nodes _ NN t nx hp) gI_eq) gI_eq)
noncomputable def mts : List (Nat × (List D → Option D)) := [(55, s_SmallM), (58, s_in), (57, s_Name), (106, s_HasS), (100, s_HasI), (89, s_Mask), (144, s_Fld), (148, s_WideO), (150, s_ZeroTs), (163, s_ChkT 1000)]
def mfs : List (Nat × IFun) := [(56, ir56), (62, ir62), (59, ir59), (60, ir60), (61, ir61), (63, ir63), (107, ir107), (108, ir108), (109, ir109), (149, ir149), (164, ir164)]
theorem m_must (k : Nat) : MustC (cx mts mfs (k + 1)) := ⟨rfl, fun hk bs hl ok => by rw [cal_eq rfl]; exact c_must _ NN NNl hk bs hl ok⟩
theorem m_fresh (k : Nat) : FreshC (cx mts mfs (k + 1)) := ⟨rfl, fun hk ns hl s => by rw [cal_eq rfl]; exact c_fresh _ NN rfl rfl hk ns hl s⟩
theorem m_regs (k : Nat) : RegsC (cx mts mfs (k + 2)) := ⟨rfl, fun m hl ok => by rw [cal_eq rfl]; exact c_regs _ NN NNl (m_must k) (m_fresh k) rfl m hl ok⟩
theorem m_banks (k : Nat) : BanksC (cx mts mfs (k + 2)) := ⟨rfl, fun m hl hr hb ok => by rw [cal_eq rfl]; exact c_banks _ NN NNl (m_must k) (m_fresh k) rfl rfl m hl hr hb ok⟩
theorem m_units (k : Nat) : UnitsC (cx mts mfs (k + 2)) := ⟨rfl, fun m hl ok => by rw [cal_eq rfl]; exact c_units _ NN NNl (m_must k) (m_fresh k) rfl m hl ok⟩
theorem m_operand (k : Nat) : OperandC (cx mts mfs (k + 2)) := ⟨rfl, fun hk i j o ho hp hb hop ok hw => by rw [cal_eq rfl]; exact c_operand _ NN NNl (m_must k) rfl rfl rfl hk i j o ho hp hb hop ok hw⟩
theorem m_mvars (k : Nat) : MvarsC (cx mts mfs (k + 1)) := ⟨rfl, fun hk i ok hr hop hn hw => by rw [cal_eq rfl]; exact c_mvars _ NN NNl rfl hk i ok hr hop hn hw⟩
theorem m_leaves : ∀ n k : Nat, LeavesC (cx mts mfs (k + n + 2)) n
  | 0, k => ⟨rfl, fun hk t hd ht hl ok => by rw [cal_eq rfl]; exact c_leaves _ NN NNl 0 (m_must _) rfl (fun n' h => by omega) hk t hd ht hl ok⟩
  | n + 1, k => ⟨rfl, fun hk t hd ht hl ok => by
      rw [cal_eq rfl]
      exact c_leaves _ NN NNl (n + 1) (m_must _) rfl (fun n' h => by
        have e : n' = n := by omega
        subst e
        exact m_leaves _ k) hk t hd ht hl ok⟩
theorem m_fits : FitsC (cx mts mfs 63) := ⟨rfl, fun hk t ht ok => by rw [cal_eq rfl]; exact c_fits _ NN NNl (m_must 61) (m_leaves 60 0) rfl hk t ht ok⟩
theorem m_effect : EffectC (cx mts mfs 64) := ⟨rfl, fun hk i e hr hop hw t1 t2 t3 ok => by rw [cal_eq rfl]; exact c_effect _ NN (m_must 62) m_fits rfl rfl rfl rfl hk i e hr hop hw t1 t2 t3 ok⟩
theorem m_instr : InstrC (cx mts mfs 65) := ⟨rfl, fun hk i hz hr hb ok hw hn hbk => by rw [cal_eq rfl]; exact c_instr _ NN NNl (m_must 63) (m_fresh 63) (m_operand 62) (m_mvars 63) m_effect rfl rfl hk i hz hr hb ok hw hn hbk⟩
theorem p14 : PureC PP gG 14 s_ChkM :=
  pur (ts := mts) (fs := mfs) 65 ⟨p55, p58, p57, p106, p100, p89, p144, p148, p150, p163, trivial⟩ ⟨k56, k62, k59, k60, k61, k63, k107, k108, k109, k149, k164, trivial⟩ k14
    (r_ChkM _ rfl (m_must 64) (m_fresh 64) (m_regs 63) (m_banks 63) (m_units 63) m_instr rfl rfl)
theorem p18 : PureC PP gG 18 s_RegF :=
  pur (ts := [(14, s_ChkM)]) (fs := [(80, ir80), (121, ir121), (81, ir81)]) 3 ⟨p14, trivial⟩ ⟨k80, k121, k81, trivial⟩ k18 (r_Register _ rfl fun m s t1 hl => by
    rw [cal_eq rfl]
    refine c_findR _ NN m s (regI m s) t1 rfl rfl ?_
    rw [cal_eq rfl]
    exact c_IdxFR _ NN NNl 81 rfl (fun r => decide (r.name = s)) m.regs false 1 3 _ (hS_hk m s) (by omega) (fun t => by rw [cal_eq rfl]; exact c_clR _ NN t s 1 3 _ (hS_hk m s) (by omega) rfl) hl)
theorem p84 : PureC PP gG 84 s_TopsF := pur (ts := []) (fs := []) 0 (trivial) trivial k84 (r_tops _)
theorem p22 : PureC PP gG 22 s_RootsF := pur (ts := [(14, s_ChkM), (84, s_TopsF)]) (fs := []) 0 (⟨p14, p84, trivial⟩) trivial k22 (r_Roots _ rfl rfl)
theorem p158 : PureC PP gG 158 s_NaN := pur (ts := []) (fs := []) 0 (trivial) trivial k158 (r_isNaNc _)
theorem p123 : PureC PP gG 123 s_LessI := pur (ts := [(158, s_NaN)]) (fs := []) 0 (⟨p158, trivial⟩) trivial k123 (r_Less _ rfl)
theorem p124 : PureC PP gG 124 s_NaN := pur (ts := []) (fs := []) 0 (trivial) trivial k124 (r_isNaNs _)
theorem p86 : PureC PP gG 86 s_BS := pur (ts := [(123, s_LessI), (124, s_NaN)]) (fs := []) 0 (⟨p123, p124, trivial⟩) trivial k86 (r_BinarySearch _ rfl rfl)
theorem p24 : PureC PP gG 24 s_PartF := pur (ts := [(14, s_ChkM), (58, s_in), (84, s_TopsF), (86, s_BS)]) (fs := []) 0 (⟨p14, p58, p84, p86, trivial⟩) trivial k24 (r_Part _ rfl rfl rfl rfl)
theorem p88 : PureC PP gG 88 s_LocF := pur (ts := [(24, s_PartF), (84, s_TopsF), (92, s_Ok)]) (fs := []) 0 (⟨p24, p84, p92, trivial⟩) trivial k88 (r_locate _ rfl rfl rfl)
theorem p30 : PureC PP gG 30 s_WriteF :=
  purP (ts := [(88, s_LocF), (89, s_Mask), (92, s_Ok)]) (fs := [(93, ir93)]) 1 ⟨p88, p89, p92, trivial⟩ ⟨k93, trivial⟩ k30 (r_Write _ rfl rfl rfl rfl fun f rs nx hp a b => by rw [cal_eq rfl]; exact c_clone _ NN f rs nx hp a b)
theorem p26 : PureC PP gG 26 s_OverF := pur (ts := [(24, s_PartF)]) (fs := []) 0 (⟨p24, trivial⟩) trivial k26 (r_Overlap _ rfl)
theorem p20 : PureC PP gG 20 s_InsF :=
  pur (ts := [(14, s_ChkM)]) (fs := [(82, ir82), (122, ir122), (83, ir83)]) 3 ⟨p14, trivial⟩ ⟨k82, k122, k83, trivial⟩ k20 (r_Instruction _ rfl fun m s t1 hl => by
    rw [cal_eq rfl]
    refine c_findI _ NN m s (insI m s) t1 rfl rfl ?_
    rw [cal_eq rfl]
    exact c_IdxFI _ NN NNl 83 rfl (fun r => decide (r.name = s)) m.instrs false 1 3 _ (hS_hk m s) (by omega) (fun t => by rw [cal_eq rfl]; exact c_clI _ NN t s 1 3 _ (hS_hk m s) (by omega) rfl) hl)
theorem p28 : PureC PP gG 28 s_ReadF := pur (ts := [(88, s_LocF), (89, s_Mask)]) (fs := []) 0 (⟨p88, p89, trivial⟩) trivial k28 (r_Read _ rfl rfl)
theorem p101 : PureC PP gG 101 s_Reads := pur (ts := [(33, s_Given), (28, s_ReadF)]) (fs := []) 0 (⟨p33, p28, trivial⟩) trivial k101 (r_reads _ rfl rfl)
theorem p99 : PureC PP gG 99 s_Rng := pur (ts := [(144, s_Fld), (58, s_in)]) (fs := []) 0 (⟨p144, p58, trivial⟩) trivial k99 (r_ranged _ rfl rfl)
theorem p36 : PureC PP gG 36 s_COp := pur (ts := [(14, s_ChkM), (58, s_in), (99, s_Rng), (100, s_HasI)]) (fs := []) 0 (⟨p14, p58, p99, p100, trivial⟩) trivial k36 (r_CheckOp _ rfl rfl rfl rfl)
theorem p35 : PureC PP gG 35 s_Fits := pur (ts := [(33, s_Given), (20, s_InsF), (36, wk2 s_COp)]) (fs := []) 0 ⟨p33, p20, PureC.wk2 p36, trivial⟩ trivial k35 (r_fits _ rfl rfl rfl)
theorem p34 : PureC PP gG 34 s_VarsMv := pur (ts := [(36, s_COp), (89, s_Mask)]) (fs := []) 0 (⟨p36, p89, trivial⟩) trivial k34 (r_VarsM _ rfl rfl)
theorem p37 : PureC PP gG 37 s_Alive := pur (ts := [(33, s_Given), (18, s_RegF), (22, s_RootsF), (30, s_WriteF), (26, s_OverF), (20, s_InsF), (34, wk2 s_VarsMv), (101, s_Reads), (35, s_Fits)]) (fs := []) 0 ⟨p33, p18, p22, p30, p26, p20, PureC.wk2 p34, p101, p35, trivial⟩ trivial k37 (r_alive _ rfl rfl rfl rfl rfl rfl rfl rfl rfl)
theorem p102 : ∀ n, PureC PP gG 102 (s_Cnt n)
  | 0 => pnone k102 fun ds r h => by
    obtain ⟨a, rfl, hf⟩ := sOf_inv i_Cnt h
    simp only [Option.ite_none_right_eq_some] at hf
    omega
  | n + 1 => pur (ts := [(102, (s_Cnt n))]) (fs := []) 0 (⟨(p102 n), trivial⟩) trivial k102 (r_count _ n rfl)
theorem p103 : ∀ n, PureC PP gG 103 (s_Long n)
  | 0 => pnone k103 fun ds r h => by
    obtain ⟨a, rfl, hf⟩ := sOf_inv i_Long h
    simp only [Option.ite_none_right_eq_some] at hf
    have := T.depth_pos a; omega
  | n + 1 => pur (ts := [(103, (s_Long n))]) (fs := []) 0 (⟨(p103 n), trivial⟩) trivial k103 (r_long _ n rfl)
theorem p39 : PureC PP gG 39 s_Great02 := pur (ts := [(102, (s_Cnt 81)), (103, (s_Long 80))]) (fs := []) 0 (⟨(p102 81), (p103 80), trivial⟩) trivial k39 (r_Great02 _ rfl rfl)
theorem p104 : ∀ n, PureC PP gG 104 (s_Siz n)
  | 0 => pnone k104 fun ds r h => by
    obtain ⟨a, rfl, hf⟩ := sOf_inv i_Siz h
    simp only [Option.ite_none_right_eq_some] at hf
    have := T.depth_pos a; omega
  | n + 1 => pur (ts := [(104, (s_Siz n))]) (fs := []) 0 (⟨(p104 n), trivial⟩) trivial k104 (r_Size02 _ n rfl)
theorem p40 : PureC PP gG 40 s_NodesM := pur (ts := [(104, (s_Siz 80))]) (fs := []) 0 (⟨(p104 80), trivial⟩) trivial k40 (r_Nodes _ rfl)
theorem p11 : PureC PP gG 11 s_GreatM := pur (ts := [(39, s_Great02), (40, s_NodesM)]) (fs := []) 0 (⟨p39, p40, trivial⟩) trivial k11 (r_Great8 _ rfl rfl)
theorem p10 : PureC PP gG 10 s_LawFields := pur (ts := [(37, s_Alive), (11, s_GreatM), (34, s_VarsMv), (36, s_COp)]) (fs := []) 0 (⟨p37, p11, p34, p36, trivial⟩) trivial k10 (r_MachineFields _ rfl rfl rfl rfl)
end Go.Proofs.Dv
