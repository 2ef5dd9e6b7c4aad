/- A part of the proof of one statement about the given program: a verified evaluator of the model's code, and contracts of functions (Dvk Dvy WA WB WC WD WE WF WG WH WI WJ WK WV Dvr WX WM WN WO WP WQ). No condition of its own. -/
import Derived.Test.YtkfjdlbkmomffaaGreatDoorV02
set_option linter.unusedVariables false
set_option linter.unusedSimpArgs false
set_option linter.defProp false
set_option linter.constructorNameAsVariable false
set_option linter.unusedVariables false
set_option linter.defProp false
set_option linter.unusedSimpArgs false
namespace Go.Proofs.Dv
open Go.RowKit
def EV0 := And.intro @bd_some (And.intro @bd_none (And.intro @sq_nm (And.intro @sq_ex (And.intro @sq_rt (And.intro @bk_nm (And.intro @bk_rt (And.intro @bk_ex (And.intro @gb_t (And.intro @gb_f (And.intro @gd_b (And.intro @gd_c (And.intro @gd_t (And.intro @cn_b (And.intro @ld_ptr (And.intro @ldB_1 (And.intro @ldB_2 (And.intro @ld_rp1 (And.intro @ld_rp2 (And.intro @fa_ptr (And.intro @fa_rp (And.intro @el_lst (And.intro @el_own (And.intro @rowE_row (And.intro @pk_b (And.intro @len_str (And.intro @ext_tup (And.intro @fld_1 (And.intro @fld_2 (And.intro @nilc_ptr (And.intro @nilc_rp (And.intro @nilc_fn (And.intro @cv_int (And.intro @mx_int (And.intro @st_ptr (And.intro @stB_box (And.intro @app_own (And.intro @call_fn (And.intro @cT_some (@cT_none)))))))))))))))))))))))))))))))))))))))
def EV1 := And.intro @o_nil (And.intro @hpl_t (And.intro @hpl_f (And.intro @o_gd (And.intro @o_mv (And.intro @o_pick (And.intro @o_ld (And.intro @o_fa (And.intro @o_ia (And.intro @o_fld (And.intro @o_nilc (And.intro @o_ext (And.intro @o_bi (And.intro @o_un (And.intro @o_cv (And.intro @o_len (And.intro @o_lens (And.intro @o_mx (And.intro @o_bld (And.intro @o_mkf (And.intro @o_call (And.intro @o_box (And.intro @o_alc (And.intro @o_st (And.intro @o_msl (And.intro @o_iaa (And.intro @o_ixs (And.intro @o_sls (And.intro @o_mmk (And.intro @o_mlk (And.intro @o_mup (And.intro @o_men (And.intro @o_mes (And.intro @o_slc (And.intro @mapE_map (And.intro @mp_mp (And.intro @mlkR_some (And.intro @mlkR_none (And.intro @mlk_v (@mset_some)))))))))))))))))))))))))))))))))))))))
def EV2 := And.intro @mset_none (And.intro @mup_v (And.intro @menR_some (And.intro @menR_none (And.intro @men_v (And.intro @mes_v (And.intro @kone_int (And.intro @kone_bool (And.intro @isK_int (And.intro @isK_str (And.intro @intD_int (And.intro @bnd_none (And.intro @bnd_some (And.intro @lkf_cons (And.intro @lkh_cons (And.intro @uph_cons (And.intro @put_s (And.intro @put_n (And.intro @evO_t (And.intro @evO_k (And.intro @evO_f (And.intro @Kd_int (And.intro @Kd_bool (And.intro @Kd_str (And.intro @Kd_nilS (And.intro @bi_add (And.intro @bi_sub (And.intro @bi_mul (And.intro @bi_lss (And.intro @bi_leq (And.intro @bi_gtr (And.intro @bi_geq (And.intro @bi_eql (And.intro @bi_neq (And.intro @bi_seq (And.intro @bi_sne (And.intro @bi_beq (And.intro @bi_bne (And.intro @bi_and (@bi_or)))))))))))))))))))))))))))))))))))))))
def EV3 := And.intro @bi_anot (And.intro @bi_aeq (And.intro @bi_ane (And.intro @eqc_nil (And.intro @eqc_int (And.intro @eqc_str (And.intro @un_neg (And.intro @un_not (And.intro @c_skip (And.intro @c_ret (And.intro @c_exit (And.intro @c_reg (And.intro @c_seq (And.intro @c_cond (And.intro @c_blk (And.intro @c_loop (And.intro @exs_nil (And.intro @exs_cons (And.intro @ex_v (And.intro @ex_lst (And.intro @ex_rp (And.intro @ex_agg (And.intro @ex_fn (And.intro @ex_own (And.intro @o_apq (And.intro @fn2_fn (And.intro @rn_nil (And.intro @rn_cons (And.intro @rnK_nm (And.intro @rnK_ex (And.intro @rnK_rt (@nmB_nm)))))))))))))))))))))))))))))))
def EVd := And.intro @bd_some' (And.intro @bd_none' (And.intro @sq_nm' (And.intro @sq_ex' (And.intro @sq_rt' (And.intro @bk_nm' (And.intro @bk_rt' (And.intro @bk_ex' (And.intro @gb_t' (And.intro @gb_f' (And.intro @gd_b' (And.intro @gd_c' (And.intro @gd_t' (And.intro @cn_b' (And.intro @call_fn' (And.intro @cT_some' (@cT_none'))))))))))))))))
def EVc := And.intro @List.map_cons.{0, 0} (And.intro @List.map_nil.{0, 0} (And.intro @List.cons_append.{0} (And.intro @List.nil_append.{0} (And.intro @List.append_nil.{0} (And.intro @List.take_succ_cons.{0} (And.intro @List.take_zero.{0} (And.intro @List.drop_succ_cons.{0} (And.intro @List.drop_zero.{0} (And.intro @List.length_cons.{0} (And.intro @List.length_nil.{0} (And.intro @List.all_cons.{0} (And.intro @List.all_nil.{0} (And.intro @List.getElem?_cons_succ.{0} (And.intro @List.getElem?_cons_zero.{0} (And.intro @List.length_map.{0, 0} (And.intro @List.getElem?_map.{0, 0} (And.intro @Option.map_some.{0, 0} (And.intro @Option.bind_some.{0, 0} (And.intro @Bool.and_true (And.intro @Bool.true_and (And.intro @Bool.and_self (And.intro @Bool.not_true (And.intro @Bool.not_false (And.intro @Bool.or_true (And.intro @Bool.or_false (And.intro @Bool.true_or (And.intro @Bool.false_or (And.intro @and_self (And.intro @true_and (And.intro @and_true (And.intro @beq_self_eq_true.{0} (And.intro @Int.toNat_natCast (And.intro @Nat.le_refl (And.intro @Bool.false_eq_true (And.intro @Bool.and_false (And.intro @Bool.false_and (And.intro @Bool.or_self (And.intro @decide_true (And.intro @decide_false (And.intro @Int.natCast_nonneg (And.intro @Nat.lt_irrefl (And.intro @List.drop_nil.{0} (@List.take_nil.{0})))))))))))))))))))))))))))))))))))))))))))
theorem EVl : (∀ {x : Value}, lenOK (.v x) ↔ True) ∧ (∀ {ds : List D}, lenOK (.agg ds) ↔ lenOK.lenOKs ds) ∧ (∀ {ex : Bool} {es : List (List D)}, lenOK (.lst ex es) ↔ es.length ≤ maxLen ∧ lenOK.lenOKss es) ∧ (∀ {ds : List D}, lenOK (.rp ds) ↔ lenOK.lenOKs ds) ∧
    (∀ {f : Nat} {ds : List D}, lenOK (.fn f ds) ↔ lenOK.lenOKs ds) ∧ (∀ {ds : List D}, lenOK (.tup ds) ↔ lenOK.lenOKs ds) ∧ (lenOK.lenOKs [] ↔ True) ∧ (∀ {d : D} {ds : List D}, lenOK.lenOKs (d :: ds) ↔ lenOK d ∧ lenOK.lenOKs ds) := by
  refine ⟨?_, ?_, ?_, ?_, ?_, ?_, ?_, ?_⟩ <;> intros <;> simp only [lenOK, lenOK.lenOKs]
inductive Sc (α β : Type) where
  | go (a : α)
  | out (b : β)
def scan {α β X : Type} (g : α → X → Sc α β) : α → List X → Sc α β
  | a, [] => .go a
  | a, x :: xs => match g a x with
    | .go a' => scan g a' xs
    | .out b => .out b
theorem wrap_i64 {n : Int} (h : -9223372036854775808 ≤ n) (h' : n ≤ 9223372036854775807) : IntKind.i64.wrap n = n := by
  rw [IntKind.wrap_i64]; omega
theorem wrap_succ {i n : Nat} (h : i < n) (hn : n ≤ maxLen) : IntKind.i64.wrap ((i : Int) + 1) = ((i + 1 : Nat) : Int) := by
  rw [IntKind.wrap_i64]; simp only [maxLen] at hn; omega
def runE (C : Ctx) (N : Nat) (F : IFun) (ds : List D) : Option D := bd (run C N F ds [] 0) fun r => expo r.2.1 r.1
def Runs (C : Ctx) (F : IFun) (s : List D → Option D) : Prop := ∀ N, maxLen + 10 < N → ∀ ds r, lenOK.lenOKs ds → s ds = some r → runE C N F ds = some r
def fin (rs : List RV) : Option (Ex × St) → Option (D × List (Nat × Blk) × Nat)
  | some (.nm, σ) | some (.rt, σ) => bd (resDs σ.fr σ.hp rs) fun d => some (d, σ.hp, σ.nx)
  | _ => none
theorem fin_nm {F : List RV} {σ : St} : fin F (some (.nm, σ)) = bd (resDs σ.fr σ.hp F) fun d => some (d, σ.hp, σ.nx) := nr rfl
theorem fin_rt {F : List RV} {σ : St} : fin F (some (.rt, σ)) = bd (resDs σ.fr σ.hp F) fun d => some (d, σ.hp, σ.nx) := nr rfl
def zn : Nat → List D → List (Nat × D)
  | _, [] => []
  | k, d :: ds => (k, d) :: zn (k + 1) ds
theorem zn_nil {k : Nat} : zn k [] = [] := nr rfl
theorem zn_cons {k : Nat} {d : D} {ds : List D} : zn k (d :: ds) = (k, d) :: zn (k + 1) ds := nr rfl
theorem zn_eq : ∀ (ds : List D) (k : Nat), (List.range' k ds.length).zip ds = zn k ds
  | [], k => by simp [zn]
  | d :: ds, k => by rw [List.length_cons, List.range'_succ, List.zip_cons_cons, zn_eq ds (k + 1)]; rfl
theorem run_eq {C : Ctx} {N np : Nat} {res : List RV} {body : IC} {args : List D} {hp : List (Nat × Blk)} {nx : Nat} (h : args.length = np) :
    run C N ⟨np, res, body⟩ args hp nx = fin res (ev C N body ⟨zn 0 args, hp, nx⟩) := by
  subst h
  rw [← zn_eq args 0, ← List.range_eq_range']
  simp only [run, if_true, fin]
  cases ev C N body ⟨(List.range args.length).zip args, hp, nx⟩ with
  | none => rfl
  | some r =>
    obtain ⟨e, σ⟩ := r
    cases e <;> (try rfl) <;> (simp only [bd]; cases resDs σ.fr σ.hp res <;> rfl)
theorem res_0 {fr : List (Nat × D)} {hp : List (Nat × Blk)} : resDs fr hp [] = some (.tup []) := nr rfl
theorem res_1 {fr : List (Nat × D)} {hp : List (Nat × Blk)} {r : RV} : resDs fr hp [r] = resD fr hp r := nr rfl
theorem res_2 {fr : List (Nat × D)} {hp : List (Nat × Blk)} {r s : RV} : resDs fr hp [r, s] = bd (resD fr hp r) fun a => bd (resD fr hp s) fun b => some (.tup [a, b]) := by
  simp only [resDs, List.mapM_cons, List.mapM_nil, bd]
  cases resD fr hp r <;> cases resD fr hp s <;> rfl
theorem res_t {fr : List (Nat × D)} {hp : List (Nat × Blk)} {i : Nat} : resD fr hp (.t i) = some (lkf fr i) := nr rfl
def rcD (hp : List (Nat × Blk)) (ag : Bool) (n : Nat) : D → Option D
  | .ptr id off => ldB ag n off (lkh hp id)
  | _ => none
theorem rc_ptr {hp : List (Nat × Blk)} {ag : Bool} {n id off : Nat} : rcD hp ag n (.ptr id off) = ldB ag n off (lkh hp id) := nr rfl
theorem res_c {fr : List (Nat × D)} {hp : List (Nat × Blk)} {ag : Bool} {n i : Nat} : resD fr hp (.cell ag n i) = rcD hp ag n (lkf fr i) := by
  simp only [resD, rcD]
  generalize lkf fr i = g
  cases g with
  | ptr id off =>
    simp only [ldB]
    generalize lkh hp id = q
    rcases q with _ | ⟨cs | ⟨z, els⟩ | es⟩ <;> rfl
  | _ => rfl
theorem bd_gb {α β : Type} {c : Bool} {A B : Unit → Option α} {k : α → Option β} {_ : Dm A} {_ : Dm B} {_ : Dm k} : bd (gb c A B) k = gb c (fun _ => bd (A ()) k) (fun _ => bd (B ()) k) := by cases c <;> rfl
theorem sq_gb {c : Bool} {A B : Unit → Option (Ex × St)} {k : St → Option (Ex × St)} {_ : Dm A} {_ : Dm B} {_ : Dm k} : sq (gb c A B) k = gb c (fun _ => sq (A ()) k) (fun _ => sq (B ()) k) := by cases c <;> rfl
theorem bk_gb {c : Bool} {A B : Unit → Option (Ex × St)} {i : Nat} {_ : Dm A} {_ : Dm B} : bk i (gb c A B) = gb c (fun _ => bk i (A ())) (fun _ => bk i (B ())) := by cases c <;> rfl
theorem fin_gb {F : List RV} {c : Bool} {A B : Unit → Option (Ex × St)} {_ : Dm A} {_ : Dm B} : fin F (gb c A B) = gb c (fun _ => fin F (A ())) (fun _ => fin F (B ())) := by cases c <;> rfl
theorem nmB_gb {K : St → Option (Ex × St)} {c : Bool} {A B : Unit → Option (Ex × St)} {_ : Dm A} {_ : Dm B} : nmB K (gb c A B) = gb c (fun _ => nmB K (A ())) (fun _ => nmB K (B ())) := by cases c <;> rfl
theorem rnK_gb {f : List D → St → Option (Ex × St)} {tr : St → Option St} {xs : List (List D)} {σ : St} {c : Bool} {A B : Unit → Option (Ex × St)} {_ : Dm A} {_ : Dm B} : rnK f tr xs σ (gb c A B) = gb c (fun _ => rnK f tr xs σ (A ())) (fun _ => rnK f tr xs σ (B ())) := by cases c <;> rfl
theorem gcr_gb {nx : Nat} {c : Bool} {A B : Unit → Option (D × List (Nat × Blk) × Nat)} {_ : Dm A} {_ : Dm B} : gcr nx (gb c A B) = gb c (fun _ => gcr nx (A ())) (fun _ => gcr nx (B ())) := by cases c <;> rfl
theorem gb_split {α : Type} {c : Bool} {A B : Unit → Option α} {_ : Dm A} {_ : Dm B} {r : Option α} (h : c = true → A () = r) (h' : c = false → B () = r) : gb c A B = r := by cases c; exact h' rfl; exact h rfl
theorem gb_splitr {α : Type} {c : Bool} {A B : Unit → Option α} {_ : Dm A} {_ : Dm B} {r : Option α} (h : c = true → r = A ()) (h' : c = false → r = B ()) : r = gb c A B := by cases c; exact h' rfl; exact h rfl
theorem ia_g {sz : Nat} {es : Option (List (List D))} {k : IntKind} {i : Int} : iaD sz es (.v (.int k i)) = gb (decide (0 ≤ i)) (fun _ => bd es fun es => bd es[i.toNat]? fun e => gb (decide (e.length = sz)) (fun _ => some (.rp e)) fun _ => none) fun _ => none := by
  rw [ia_int]
  simp only [gb, bd, decide_eq_true_eq]
theorem ixs_g {s : ByteArray} {k : IntKind} {i : Int} : ixsD (.v (.string s)) (.v (.int k i)) = gb (decide (0 ≤ i)) (fun _ => bd s.data[i.toNat]? fun b => some (.v (.int .u8 (b.toNat : Int)))) fun _ => none := by
  rw [ixs_int]
  simp only [gb, decide_eq_true_eq, bd]
  split
  · cases s.data[i.toNat]? <;> rfl
  · rfl
theorem gquo {k : IntKind} {a b : Int} : evBi .quo .int (.v (.int k a)) (.v (.int k b)) = gb (decide (b = 0)) (fun _ => none) fun _ => some (.v (.int k (k.wrap (a.tdiv b)))) := by rw [bi_quo]; simp only [gb, decide_eq_true_eq]
theorem grem {k : IntKind} {a b : Int} : evBi .rem .int (.v (.int k a)) (.v (.int k b)) = gb (decide (b = 0)) (fun _ => none) fun _ => some (.v (.int k (a.tmod b))) := by rw [bi_rem]; simp only [gb, decide_eq_true_eq]
theorem gshl {k k' : IntKind} {a b : Int} : evBi .shl .int (.v (.int k a)) (.v (.int k' b)) = gb (decide (b < 0)) (fun _ => none) fun _ => some (.v (.int k (k.wrap (a * 2 ^ (min b.toNat k.bits))))) := by rw [bi_shl]; simp only [gb, decide_eq_true_eq]
theorem gshr {k k' : IntKind} {a b : Int} : evBi .shr .int (.v (.int k a)) (.v (.int k' b)) = gb (decide (b < 0)) (fun _ => none) fun _ => some (.v (.int k (a.fdiv (2 ^ (min b.toNat k.bits))))) := by rw [bi_shr]; simp only [gb, decide_eq_true_eq]
theorem gsadd {a b : ByteArray} : evBi .add .str (.v (.string a)) (.v (.string b)) = gb (decide (a.size + b.size ≤ 9223372036854775807)) (fun _ => some (.v (.string (a ++ b)))) fun _ => none := by rw [bi_sadd]; simp only [gb, decide_eq_true_eq]
theorem gappB {hp : List (Nat × Blk)} {nx sz bytes id n z : Nat} {news els : List (List D)} : appB hp nx sz bytes id n news (some (.row z els)) = gb (decide (z = sz) && decide (els.length = n) && decide ((n + news.length) * bytes ≤ 140737488355328)) (fun _ => some (.own id (n + news.length), uph hp id (.row sz (els ++ news)), nx)) fun _ => none := by
  rw [appB_row]; simp only [gb, Bool.and_eq_true, decide_eq_true_eq, and_assoc]
theorem gapp {hp : List (Nat × Blk)} {nx sz bytes : Nat} {news es : List (List D)} : appD hp nx sz bytes news (.lst true es) = gb ((es.isEmpty || !news.isEmpty) && (es.all fun e => e.length == sz) && decide ((es.length + news.length) * bytes ≤ 140737488355328)) (fun _ => some (.own nx (es.length + news.length), (nx, .row sz (es ++ news)) :: hp, nx + 1)) fun _ => none := by
  rw [app_lst]; simp only [gb, Bool.and_eq_true, decide_eq_true_eq, and_assoc]
theorem gapq {sz bytes : Nat} {news es : List (List D)} : apqD sz bytes news (.lst true es) = gb ((news.all fun e => e.length == sz) && decide (0 < sz) && (es.isEmpty || !news.isEmpty) && (es.all fun e => e.length == sz) && decide ((es.length + news.length) * bytes ≤ 140737488355328)) (fun _ => some (.lst false (es ++ news))) fun _ => none := by
  rw [apq_lst]; simp only [gb]
theorem gmsl {hp : List (Nat × Blk)} {nx sz bytes : Nat} {zero : List K} {n c : Int} : mslD hp nx sz bytes zero (.v (.int .i64 n)) (.v (.int .i64 c)) = gb (decide (0 ≤ n) && decide (n ≤ c) && decide (c * bytes ≤ 140737488355328) && decide (zero.length = sz) && decide (0 < sz)) (fun _ => some (.own nx n.toNat, (nx, .row sz (List.replicate n.toNat (zero.map K.d))) :: hp, nx + 1)) fun _ => none := by
  rw [msl_int]; simp only [gb, Bool.and_eq_true, decide_eq_true_eq, and_assoc]
theorem gslc {b : Bool} {es : List (List D)} {k : IntKind} {h : Int} : slcD (.lst b es) (.v (.int k h)) = gb (decide (0 ≤ h) && decide (h ≤ (es.length : Int))) (fun _ => some (.lst false (es.take h.toNat))) fun _ => none := by
  rw [slc_v]; simp only [gb, Bool.and_eq_true, decide_eq_true_eq]
theorem giaa {n sz : Nat} {x : D} {k : IntKind} {i : Int} : iaaD n sz x (.v (.int k i)) = gb (decide (0 ≤ i) && decide (i < (n : Int))) (fun _ => faD (i.toNat * sz) x) fun _ => none := by
  rw [iaa_int]; simp only [gb, Bool.and_eq_true, decide_eq_true_eq]
theorem gsls {lo hi : Int → Option Int} {s : ByteArray} : slsD lo hi (.v (.string s)) = bd (lo 0) fun l => bd (hi s.size) fun h => gb (decide (0 ≤ l) && decide (l ≤ h) && decide (h ≤ (s.size : Int))) (fun _ => some (.v (.string (s.extract l.toNat h.toNat)))) fun _ => none := by
  rw [sls_str]; simp only [gb, bd, Bool.and_eq_true, decide_eq_true_eq, and_assoc]
section
variable {C : Ctx} {fr : List (Nat × D)} {hp : List (Nat × Blk)} {nx : Nat} {d : Option Nat} {os : List Iop} {l : Bool} {x y : Opd}
theorem gbsl {sz len : Nat} {zero : List K} {parts : List (Nat × Opd)} : evOps C (⟨d, .bsl sz zero len parts, none, l⟩ :: os) ⟨fr, hp, nx⟩ =
    bd (expo.expos (hpl l hp) (parts.map fun (_, x) => evO C fr x)) fun ds => gb ((ds.all fun d => (dcells d).length == sz && (dcells d).all okc) && decide (len * sz ≤ 16777216) && decide (0 < sz))
        (fun _ => evOps C os ⟨put d (.lst true (elems (zero.map K.d) ((parts.map (·.1)).zip ds) len)) fr, hp, nx⟩) fun _ => none := by
  rw [o_bsl]; simp only [gb, bd]
theorem gbso {sz len : Nat} {zero : List K} {parts : List (Nat × Opd)} : evOps C (⟨d, .bso sz zero len parts, none, false⟩ :: os) ⟨fr, hp, nx⟩ =
    bd (expo.expos hp (parts.map fun (_, x) => evO C fr x)) fun ds => gb ((ds.all fun d => (dcells d).length == sz && (dcells d).all okc) && decide (len * sz ≤ 16777216) && decide (0 < sz) && decide (0 < len))
        (fun _ => evOps C os ⟨put d (.own nx len) fr, (nx, .row sz (elems (zero.map K.d) ((parts.map (·.1)).zip ds) len)) :: hp, nx + 1⟩) fun _ => none := by
  simp only [evOps, want, isQ, evE, bd, Bool.false_eq_true, if_false]
  cases expo.expos hp (parts.map fun (_, x) => evO C fr x) with
  | none => rfl
  | some ds =>
    simp only [Option.bind_some, gb]
    split <;> rfl
theorem goapp {sz bytes : Nat} : evOps C (⟨d, .app sz bytes x y, none, false⟩ :: os) ⟨fr, hp, nx⟩ = bd (elD hp (evO C fr y)) fun news =>
    gb ((news.all fun e => e.length == sz) && decide (0 < sz)) (fun _ => bd (appD hp nx sz bytes news (evO C fr x)) fun r => evOps C os ⟨put d r.1 fr, r.2.1, r.2.2⟩) fun _ => none := by
  rw [o_app]; simp only [gb, bd]
end
theorem clb : (∀ {x : Value}, cl (.v x) = true) ∧ (∀ {b : Bool} {es : List (List D)}, cl (.lst b es) = true) ∧ (∀ {cs : List D}, cl (.rp cs) = true) ∧ (∀ {ds : List D}, cl (.agg ds) = cl.cls ds) ∧ (∀ {f : Nat} {ds : List D}, cl (.fn f ds) = cl.cls ds) ∧ (∀ {ds : List D}, cl (.tup ds) = cl.cls ds) ∧ (cl.cls [] = true) ∧ (∀ {d : D} {ds : List D}, cl.cls (d :: ds) = (cl d && cl.cls ds)) := by
  refine ⟨?_, ?_, ?_, ?_, ?_, ?_, ?_, ?_⟩ <;> intros <;> first | rfl | (simp only [cl]; done) | (simp only [cl.cls]; done)
theorem plb : (∀ {k : IntKind} {n : Int}, plain (.int k n) = true) ∧ (∀ {b : Bool}, plain (.bool b) = true) ∧ (∀ {s : ByteArray}, plain (.string s) = true) := ⟨rfl, rfl, rfl⟩
theorem emp : (∀ {a : List D} {l : List (List D)}, (a :: l).isEmpty = false) ∧ (([] : List (List D)).isEmpty = true) := ⟨rfl, rfl⟩
theorem elm : (∀ {zero : List D} {d : D}, elems zero [(0, d)] 1 = [dcells d]) ∧ (∀ {zero : List D} {d e : D}, elems zero [(0, d), (1, e)] 2 = [dcells d, dcells e]) ∧ (∀ {zero : List D} {d e f : D}, elems zero [(0, d), (1, e), (2, f)] 3 = [dcells d, dcells e, dcells f]) ∧ (∀ {zero : List D} {d e f g : D}, elems zero [(0, d), (1, e), (2, f), (3, g)] 4 = [dcells d, dcells e, dcells f, dcells g]) ∧
    (∀ {zero : List D} {d e f g h : D}, elems zero [(0, d), (1, e), (2, f), (3, g), (4, h)] 5 = [dcells d, dcells e, dcells f, dcells g, dcells h]) ∧ (∀ {zero : List D}, elems zero [] 0 = []) ∧ (∀ {a : Nat} {b : D} {as : List Nat} {bs : List D}, (a :: as).zip (b :: bs) = (a, b) :: as.zip bs) ∧ (∀ {bs : List D}, ([] : List Nat).zip bs = []) := by
  refine ⟨?_, ?_, ?_, ?_, ?_, ?_, ?_, ?_⟩ <;> intros <;> rfl
theorem flt2 : (∀ {id : Nat}, rmh [] id = []) ∧ (∀ {id i : Nat} {b : Blk} {hp : List (Nat × Blk)}, rmh ((i, b) :: hp) id = bif decide (i = id) then rmh hp id else (i, b) :: rmh hp id) := by
  refine ⟨rfl, ?_⟩
  intros id i b hp
  unfold rmh
  rw [List.filter_cons]
  by_cases h : i = id
  · simp [h]
  · simp [h]
theorem frb : (∀ {hp : List (Nat × Blk)}, frz hp [] = some (hp, [])) ∧ (∀ {hp : List (Nat × Blk)} {b : Bool} {es : List (List D)} {ds : List D}, frz hp (.lst b es :: ds) = bd (frz hp ds) fun r => some (r.1, .lst b es :: r.2)) ∧ (∀ {hp : List (Nat × Blk)} {x : Value} {ds : List D}, frz hp (.v x :: ds) = bd (frz hp ds) fun r => some (r.1, .v x :: r.2)) ∧
    (∀ {hp : List (Nat × Blk)} {id : Nat} {ds : List D}, frz hp (.ptr id 0 :: ds) = bd (match lkh hp id with | some (.box cells) => some cells | _ => none) fun cells => gb (cl.cls cells) (fun _ => bd (frz (rmh hp id) ds) fun r => some (r.1, .rp cells :: r.2)) fun _ => none) := by
  refine ⟨?_, ?_, ?_, ?_⟩ <;> intros <;> simp only [frz, cl, if_true, bd]
  · rename_i hp b es ds; cases frz hp ds <;> rfl
  · rename_i hp x ds; cases frz hp ds <;> rfl
  · rename_i hp id ds
    generalize lkh hp id = q
    rcases q with _ | ⟨cs | ⟨z, els⟩ | es⟩
    · rfl
    · simp only [gb, Option.bind_some]
      split
      · cases frz (rmh hp id) ds <;> rfl
      · rfl
    · rfl
    · rfl
theorem gcr_g {nx nx' : Nat} {d : D} {hp' : List (Nat × Blk)} : gcr nx (some (d, hp', nx')) = gb (idlt nx d && hplt nx hp') (fun _ => some (d, hp'.filter (fun p => decide (p.1 < nx)), nx)) fun _ => some (d, hp', nx') := by
  simp only [gcr, gb]
def stepE (tr : St → Option St) : Option (Ex × St) → Option St
  | some (.nm, σ) => tr σ
  | _ => none
theorem stepE_nm {tr : St → Option St} {σ : St} : stepE tr (some (.nm, σ)) = tr σ := nr rfl
theorem stepE_ex {tr : St → Option St} {σ : St} {i : Nat} : stepE tr (some (.ex i, σ)) = none := nr rfl
theorem stepE_rt {tr : St → Option St} {σ : St} : stepE tr (some (.rt, σ)) = none := nr rfl
theorem gb_not {α : Type} {c : Bool} {A B : Unit → Option α} {_ : Dm A} {_ : Dm B} : gb (!c) A B = gb c B A := by cases c <;> rfl
theorem gb_and {α : Type} {c d : Bool} {A B : Unit → Option α} {_ : Dm A} {_ : Dm B} : gb (c && d) A B = gb c (fun _ => gb d A B) B := by cases c <;> rfl
theorem gb_or {α : Type} {c d : Bool} {A B : Unit → Option α} {_ : Dm A} {_ : Dm B} : gb (c || d) A B = gb c A (fun _ => gb d A B) := by cases c <;> rfl
theorem stepE_gb {tr : St → Option St} {c : Bool} {A B : Unit → Option (Ex × St)} {_ : Dm A} {_ : Dm B} : stepE tr (gb c A B) = gb c (fun _ => stepE tr (A ())) (fun _ => stepE tr (B ())) := by cases c <;> rfl
def GE (G : Option (Ex × St) → Prop) : Option (Ex × St) → Prop
  | some (.ex i, σ) => G (some (.ex i, σ))
  | some (.rt, σ) => G (some (.rt, σ))
  | _ => False
theorem GE_ex {G : Option (Ex × St) → Prop} {σ : St} {i : Nat} : GE G (some (.ex i, σ)) = G (some (.ex i, σ)) := nr rfl
theorem GE_rt {G : Option (Ex × St) → Prop} {σ : St} : GE G (some (.rt, σ)) = G (some (.rt, σ)) := nr rfl
theorem iter_rule {α β X : Type} {f : St → Option (Ex × St)} {tr : St → Option St} {N : Nat} {σ : St} {G : Option (Ex × St) → Prop} (els : List X) (H : Nat → α → St) (g : α → X → Sc α β) (Inv : Nat → α → Prop) (a0 : α)
    (hl : els.length ≤ maxLen) (hN : maxLen + 10 < N) (h0 : tr σ = some (H 0 a0)) (hi : Inv 0 a0)
    (hgo : ∀ (i : Nat) a x a', decide ((i : Int) < (els.length : Int)) = true → IntKind.i64.wrap ((i : Int) + 1) = ((i + 1 : Nat) : Int) → els[i]? = some x → Inv i a → g a x = .go a' → stepE tr (f (H i a)) = some (H (i + 1) a') ∧ Inv (i + 1) a')
    (hout : ∀ (i : Nat) a x b, decide ((i : Int) < (els.length : Int)) = true → IntKind.i64.wrap ((i : Int) + 1) = ((i + 1 : Nat) : Int) → els[i]? = some x → Inv i a → g a x = .out b → scan g a0 els = .out b → GE G (f (H i a)))
    (hend : ∀ a, Inv els.length a → scan g a0 els = .go a → GE G (f (H els.length a))) : ∀ I, iter f tr N σ = I → G I := by
  have ge : ∀ {r : Option (Ex × St)}, GE G r → ∃ e σ', r = some (e, σ') ∧ e ≠ .nm ∧ G (some (e, σ')) := by
    intro r h
    rcases r with _ | ⟨e, σ'⟩
    · exact h.elim
    · cases e with
      | nm => exact h.elim
      | ex i => exact ⟨_, _, rfl, by simp, h⟩
      | rt => exact ⟨_, _, rfl, by simp, h⟩
  rintro I rfl
  have key : ∀ (xs pre : List X) (N : Nat) (σ : St) (a : α), els = pre ++ xs → xs.length < N → Inv pre.length a → tr σ = some (H pre.length a) → scan g a xs = scan g a0 els → G (iter f tr N σ) := by
    intro xs
    induction xs with
    | nil =>
      intro pre N σ a he hN hi h0 hs
      obtain ⟨N, rfl⟩ : ∃ k, N = k + 1 := ⟨N - 1, by simp at hN; omega⟩
      have hl : els.length = pre.length := by rw [he]; simp
      rw [← hl] at hi h0
      obtain ⟨e, σ', h1, h2, h3⟩ := ge (hend a hi hs.symm)
      have : iter f tr (N + 1) σ = some (e, σ') := by
        simp only [iter, h0, Option.bind_some, h1]
        cases e <;> first | exact absurd rfl h2 | rfl
      rw [this]; exact h3
    | cons x xs ih =>
      intro pre N σ a he hN hi h0 hs
      obtain ⟨N, rfl⟩ : ∃ k, N = k + 1 := ⟨N - 1, by simp at hN; omega⟩
      have hx : els[pre.length]? = some x := by rw [he]; simp
      have hlt' : pre.length < els.length := by rw [he]; simp
      have hlt : decide ((pre.length : Int) < (els.length : Int)) = true := by simp; exact hlt'
      have hw := wrap_succ hlt' hl
      simp only [scan] at hs
      cases hg : g a x with
      | go a' =>
        rw [hg] at hs
        obtain ⟨h1, h2⟩ := hgo _ a x a' hlt hw hx hi hg
        cases hf : f (H pre.length a) with
        | none => rw [hf] at h1; simp [stepE] at h1
        | some r =>
          obtain ⟨e, σ'⟩ := r
          rw [hf] at h1
          cases e with
          | nm =>
            have := ih (pre ++ [x]) N σ' a' (by rw [he]; simp) (by simp at hN; omega) (by simpa using h2) (by simpa [stepE] using h1) hs
            have e : iter f tr (N + 1) σ = iter f tr N σ' := by simp only [iter, h0, Option.bind_some, hf]
            rw [e]; exact this
          | ex i => simp [stepE] at h1
          | rt => simp [stepE] at h1
      | out b =>
        rw [hg] at hs
        obtain ⟨e, σ', h1, h2, h3⟩ := ge (hout _ a x b hlt hw hx hi hg hs.symm)
        have : iter f tr (N + 1) σ = some (e, σ') := by
          simp only [iter, h0, Option.bind_some, h1]
          cases e <;> first | exact absurd rfl h2 | rfl
        rw [this]; exact h3
  exact key els [] N σ a0 rfl (by omega) hi h0 rfl
def outK {β : Type} (K : Option (Ex × St) → Option β) (x : Option (Ex × St)) [Dm K] : Option β := match x with
  | some (.ex i, σ) => K (some (.ex i, σ))
  | some (.rt, σ) => K (some (.rt, σ))
  | _ => none
theorem outK_nm {β : Type} {K : Option (Ex × St) → Option β} {σ : St} {_ : Dm K} : outK K (some (.nm, σ)) = none := nr rfl
theorem outK_ex {β : Type} {K : Option (Ex × St) → Option β} {σ : St} {i : Nat} {_ : Dm K} : outK K (some (.ex i, σ)) = K (some (.ex i, σ)) := nr rfl
theorem outK_rt {β : Type} {K : Option (Ex × St) → Option β} {σ : St} {_ : Dm K} : outK K (some (.rt, σ)) = K (some (.rt, σ)) := nr rfl
theorem outK_gb {β : Type} {K : Option (Ex × St) → Option β} {c : Bool} {A B : Unit → Option (Ex × St)} {_ : Dm A} {_ : Dm B} {_ : Dm K} : outK K (gb c A B) = gb c (fun _ => outK K (A ())) (fun _ => outK K (B ())) := by cases c <;> rfl
theorem GE_of {β : Type} {K : Option (Ex × St) → Option β} {r : β} {x : Option (Ex × St)} (h : outK K x = some r) : GE (fun I => K I = some r) x := by
  rcases x with _ | ⟨e, σ⟩
  · simp [outK] at h
  · cases e with
    | nm => simp [outK] at h
    | ex i => exact h
    | rt => exact h
theorem maxLen_ge : 1000000 ≤ maxLen := by simp [maxLen]
def tst {α β X : Type} (t : α → X → Bool) (u : α → X → α) (v : α → X → β) (a : α) (x : X) : Sc α β := if t a x = true then .go (u a x) else .out (v a x)
theorem iter_test {α β γ X : Type} {f : St → Option (Ex × St)} {tr : St → Option St} {N : Nat} {σ : St} {K : Option (Ex × St) → Option γ} {r : γ} (els : List X) (H : Nat → α → St) (t : α → X → Bool) (u : α → X → α) (v : α → X → β) (Inv : Nat → α → Prop) (a0 : α)
    (hl : els.length ≤ maxLen) (hN : maxLen + 10 < N) (h0 : tr σ = some (H 0 a0)) (hi : Inv 0 a0)
    (hgo : ∀ (i : Nat) a x, decide ((i : Int) < (els.length : Int)) = true → IntKind.i64.wrap ((i : Int) + 1) = ((i + 1 : Nat) : Int) → els[i]? = some x → Inv i a → (stepE tr (f (H i a)) = gb (t a x) (fun _ => some (H (i + 1) (u a x))) fun _ => none) ∧ (t a x = true → Inv (i + 1) (u a x)))
    (hout : ∀ (i : Nat) a x, decide ((i : Int) < (els.length : Int)) = true → els[i]? = some x → Inv i a → scan (tst t u v) a0 els = .out (v a x) → outK K (f (H i a)) = gb (t a x) (fun _ => none) fun _ => some r)
    (hend : ∀ a, Inv els.length a → scan (tst t u v) a0 els = .go a → outK K (f (H els.length a)) = some r) : ∀ I, iter f tr N σ = I → K I = some r := by
  refine iter_rule (G := fun I => K I = some r) els H (tst t u v) Inv a0 hl hN h0 hi ?_ ?_ ?_
  · intro i a x a' h1 h2 h3 h4 h5
    obtain ⟨k1, k2⟩ := hgo i a x h1 h2 h3 h4
    unfold tst at h5
    split at h5
    · rename_i ht
      simp only [Sc.go.injEq] at h5
      subst h5
      rw [ht] at k1
      exact ⟨k1, k2 ht⟩
    · simp at h5
  · intro i a x b h1 h2 h3 h4 h5 h6
    unfold tst at h5
    split at h5
    · simp at h5
    · rename_i ht
      simp only [Sc.out.injEq] at h5
      subst h5
      have := hout i a x h1 h3 h4 h6
      rw [Bool.not_eq_true] at ht
      rw [ht] at this
      exact GE_of this
  · intro a h1 h2
    exact GE_of (hend a h1 h2)
theorem iter_test2 {α β γ X : Type} {f : St → Option (Ex × St)} {tr : St → Option St} {N : Nat} {σ : St} {K : Option (Ex × St) → Option γ} {r : γ} (els : List X) (H : Nat → α → St) (t : α → X → Bool) (u : α → X → α) (v : α → X → β) (Inv : Nat → α → Prop) (a0 : α)
    (hl : els.length ≤ maxLen) (hN : maxLen + 10 < N) (h0 : tr σ = some (H 0 a0)) (hi : Inv 0 a0)
    (hgo : ∀ (i : Nat) a x, decide ((i : Int) < (els.length : Int)) = true → IntKind.i64.wrap ((i : Int) + 1) = ((i + 1 : Nat) : Int) → els[i]? = some x → Inv i a → t a x = true → (stepE tr (f (H i a)) = some (H (i + 1) (u a x))) ∧ Inv (i + 1) (u a x))
    (hout : ∀ (i : Nat) a x, decide ((i : Int) < (els.length : Int)) = true → els[i]? = some x → Inv i a → t a x = false → scan (tst t u v) a0 els = .out (v a x) → outK K (f (H i a)) = some r)
    (hend : ∀ a, Inv els.length a → scan (tst t u v) a0 els = .go a → outK K (f (H els.length a)) = some r) : ∀ I, iter f tr N σ = I → K I = some r := by
  refine iter_rule (G := fun I => K I = some r) els H (tst t u v) Inv a0 hl hN h0 hi ?_ ?_ ?_
  · intro i a x a' h1 h2 h3 h4 h5
    unfold tst at h5
    split at h5
    · rename_i ht
      simp only [Sc.go.injEq] at h5
      subst h5
      exact hgo i a x h1 h2 h3 h4 ht
    · simp at h5
  · intro i a x b h1 h2 h3 h4 h5 h6
    unfold tst at h5
    split at h5
    · simp at h5
    · rename_i ht
      simp only [Sc.out.injEq] at h5
      subst h5
      exact GE_of (hout i a x h1 h3 h4 (by simpa using ht) h6)
  · intro a h1 h2
    exact GE_of (hend a h1 h2)
theorem iter_all {α γ X : Type} {f : St → Option (Ex × St)} {tr : St → Option St} {N : Nat} {σ : St} {K : Option (Ex × St) → Option γ} {r : γ} (els : List X) (H : Nat → α → St) (u : α → X → α) (Inv : Nat → α → Prop) (a0 : α)
    (hl : els.length ≤ maxLen) (hN : maxLen + 10 < N) (h0 : tr σ = some (H 0 a0)) (hi : Inv 0 a0)
    (hgo : ∀ (i : Nat) a x, decide ((i : Int) < (els.length : Int)) = true → IntKind.i64.wrap ((i : Int) + 1) = ((i + 1 : Nat) : Int) → els[i]? = some x → Inv i a → (stepE tr (f (H i a)) = some (H (i + 1) (u a x))) ∧ (Inv (i + 1) (u a x)))
    (hend : Inv els.length (els.foldl u a0) → outK K (f (H els.length (els.foldl u a0))) = some r) : ∀ I, iter f tr N σ = I → K I = some r := by
  have hs : ∀ (xs : List X) (a : α), scan (β := Unit) (fun a x => .go (u a x)) a xs = .go (xs.foldl u a) := by
    intro xs
    induction xs with
    | nil => intro a; rfl
    | cons x xs ih => intro a; simp only [scan, List.foldl_cons]; exact ih _
  refine iter_rule (β := Unit) (G := fun I => K I = some r) els H (fun a x => .go (u a x)) Inv a0 hl hN h0 hi ?_ ?_ ?_
  · intro i a x a' h1 h2 h3 h4 h5
    simp only [Sc.go.injEq] at h5
    subst h5
    exact hgo i a x h1 h2 h3 h4
  · intro i a x b h1 h2 h3 h4 h5
    simp at h5
  · intro a h1 h2
    rw [hs] at h2
    simp only [Sc.go.injEq] at h2
    subst h2
    exact GE_of (hend h1)
theorem trim_eq {keep : List Nat} {n nx : Nat} {fr : List (Nat × D)} {hp : List (Nat × Blk)} : trim keep n ⟨fr, hp, nx⟩ = gb ((keep.all fun s => idlt n (lkf fr s)) && hplt n hp) (fun _ => some ⟨keep.map fun s => (s, lkf fr s), hp.filter (fun p => decide (p.1 < n)), n⟩) fun _ => none := by
  unfold trim gb; rfl
theorem idl : (∀ {n : Nat} {x : Value}, idlt n (.v x) = true) ∧ (∀ {n : Nat} {b : Bool} {es : List (List D)}, idlt n (.lst b es) = true) ∧ (∀ {n : Nat} {cs : List D}, idlt n (.rp cs) = true) ∧ (∀ {n : Nat}, idlt n .junk = true) ∧ (∀ {n : Nat} {ds : List D}, idlt n (.agg ds) = idlt.idlts n ds) ∧
    (∀ {n f : Nat} {ds : List D}, idlt n (.fn f ds) = idlt.idlts n ds) ∧ (∀ {n : Nat} {ds : List D}, idlt n (.tup ds) = idlt.idlts n ds) ∧ (∀ {n i o : Nat}, idlt n (.own i o) = decide (i < n)) ∧ (∀ {n i o : Nat}, idlt n (.ptr i o) = decide (i < n)) ∧ (∀ {n i : Nat}, idlt n (.mp i) = decide (i < n)) ∧
    (∀ {n : Nat}, idlt.idlts n [] = true) ∧ (∀ {n : Nat} {d : D} {ds : List D}, idlt.idlts n (d :: ds) = (idlt n d && idlt.idlts n ds)) ∧
    (∀ {n : Nat}, hplt n [] = true) ∧ (∀ {n i : Nat} {cells : List D} {hp : List (Nat × Blk)}, hplt n ((i, .box cells) :: hp) = ((decide (n ≤ i) || idlt.idlts n cells) && hplt n hp)) ∧
    (∀ {n i z : Nat} {els : List (List D)} {hp : List (Nat × Blk)}, hplt n ((i, .row z els) :: hp) = hplt n hp) ∧ (∀ {n i : Nat} {es : List (Value × Value)} {hp : List (Nat × Blk)}, hplt n ((i, .map es) :: hp) = hplt n hp) := by
  have h : ∀ {n : Nat} (cells : List D), cells.all (idlt n) = idlt.idlts n cells := by
    intro n cells
    induction cells with
    | nil => rfl
    | cons d ds ih => simp only [List.all_cons, ih, idlt.idlts]
  refine ⟨?_, ?_, ?_, ?_, ?_, ?_, ?_, ?_, ?_, ?_, ?_, ?_, ?_, ?_, ?_, ?_⟩ <;> intros <;> first | rfl | (simp only [hplt, h]; done) | (simp only [hplt]; done) | (simp only [idlt]; done) | (simp only [idlt.idlts]; done)
theorem flt : (∀ {n : Nat}, ([] : List (Nat × Blk)).filter (fun p => decide (p.1 < n)) = []) ∧ (∀ {n i : Nat} {b : Blk} {hp : List (Nat × Blk)}, ((i, b) :: hp).filter (fun p => decide (p.1 < n)) = bif decide (i < n) then (i, b) :: hp.filter (fun p => decide (p.1 < n)) else hp.filter (fun p => decide (p.1 < n))) := by
  refine ⟨rfl, ?_⟩
  intros
  rw [List.filter_cons]
  simp only [cond_eq_ite]
theorem arith : (∀ {a : Int}, decide (a < a) = false) ∧ ((0 : Nat) : Int) = 0 ∧ (∀ {a : Int}, decide (a ≤ a) = true) := ⟨by simp, rfl, by simp⟩
theorem ex_tup {hp : List (Nat × Blk)} {ds : List D} : expo hp (.tup ds) = bd (expo.expos hp ds) fun e => some (.tup e) := by
  simp only [expo, bd]; cases expo.expos hp ds <;> rfl
def ownE (d : D) (A B : Unit → Option (Ex × St)) [Dm A] [Dm B] : Option (Ex × St) := match d with
  | .lst true [] => A ()
  | _ => B ()
theorem own_l {A B : Unit → Option (Ex × St)} {_ : Dm A} {_ : Dm B} : ownE (.lst true []) A B = A () := nr rfl
theorem own_o {A B : Unit → Option (Ex × St)} {_ : Dm A} {_ : Dm B} {i n : Nat} : ownE (.own i n) A B = B () := nr rfl
theorem c_own {C : Ctx} {N t sz nx : Nat} {a : IC} {fr : List (Nat × D)} {hp : List (Nat × Blk)} : ev C N (.own t sz a) ⟨fr, hp, nx⟩ = ownE (lkf fr t) (fun _ => ev C N a ⟨(t, .own nx 0) :: fr, (nx, .row sz []) :: hp, nx + 1⟩) (fun _ => ev C N a ⟨fr, hp, nx⟩) := by
  simp only [ev, ownE]
  generalize lkf fr t = g
  cases g with
  | lst ex es => cases ex <;> cases es <;> rfl
  | _ => rfl
def obK (hp : List (Nat × Blk)) (off : Nat) (d : D) (A : Nat → Nat → List D → Option (Ex × St)) (B : Unit → Option (Ex × St)) [Dm A] [Dm B] : Option (Ex × St) := match cellOf hp off d with
  | some (id, o, cells) => A id o cells
  | none => B ()
def ob2 (id k : Nat) (b : Option Blk) (A : Nat → Nat → List D → Option (Ex × St)) (B : Unit → Option (Ex × St)) [Dm A] [Dm B] : Option (Ex × St) := match b with
  | some (.box cells) => match cells[k]? with
    | some (.lst true []) => A id k cells
    | _ => B ()
  | _ => B ()
def ob3 (id k : Nat) (cells : List D) (c : Option D) (A : Nat → Nat → List D → Option (Ex × St)) (B : Unit → Option (Ex × St)) [Dm A] [Dm B] : Option (Ex × St) := match c with
  | some (.lst true []) => A id k cells
  | _ => B ()
section
variable {A : Nat → Nat → List D → Option (Ex × St)} {B : Unit → Option (Ex × St)} {_ : Dm A} {_ : Dm B}
theorem ob_ptr {hp : List (Nat × Blk)} {off id o : Nat} : obK hp off (.ptr id o) A B = ob2 id (o + off) (lkh hp id) A B := by
  simp only [obK, cellOf, ob2]
  cases lkh hp id with
  | none => rfl
  | some b =>
    cases b with
    | box cells =>
      simp only
      generalize cells[o + off]? = q
      rcases q with _ | d
      · rfl
      · cases d with
        | lst ex es => cases ex <;> cases es <;> rfl
        | _ => rfl
    | row z els => rfl
    | map es => rfl
theorem ob_box {id k : Nat} {cells : List D} : ob2 id k (some (.box cells)) A B = ob3 id k cells cells[k]? A B := by simp only [ob2, ob3]
theorem ob_l {id k : Nat} {cells : List D} : ob3 id k cells (some (.lst true [])) A B = A id k cells := nr rfl
theorem ob_o {id k i n : Nat} {cells : List D} : ob3 id k cells (some (.own i n)) A B = B () := nr rfl
end
theorem c_ownb {C : Ctx} {N t off sz nx : Nat} {a : IC} {fr : List (Nat × D)} {hp : List (Nat × Blk)} : ev C N (.ownb t off sz a) ⟨fr, hp, nx⟩ = obK hp off (lkf fr t) (fun id o cells => ev C N a ⟨fr, (nx, .row sz []) :: uph hp id (.box (cells.set o (.own nx 0))), nx + 1⟩) (fun _ => ev C N a ⟨fr, hp, nx⟩) := by
  simp only [ev, obK]
  split <;> rename_i h <;> rw [h]
def fzE (hp : List (Nat × Blk)) (d : D) (A : Nat → List D → Option (Ex × St)) [Dm A] : Option (Ex × St) := match d with
  | .ptr id 0 => match lkh hp id with
    | some (.box cells) => if cl.cls cells then A id cells else none
    | _ => none
  | _ => none
def fz2 (id : Nat) (b : Option Blk) (A : Nat → List D → Option (Ex × St)) [Dm A] : Option (Ex × St) := match b with
  | some (.box cells) => if cl.cls cells then A id cells else none
  | _ => none
theorem fz_ptr {hp : List (Nat × Blk)} {id : Nat} {A : Nat → List D → Option (Ex × St)} {_ : Dm A} : fzE hp (.ptr id 0) A = fz2 id (lkh hp id) A := nr rfl
theorem fz_box {id : Nat} {cells : List D} {A : Nat → List D → Option (Ex × St)} {_ : Dm A} : fz2 id (some (.box cells)) A = gb (cl.cls cells) (fun _ => A id cells) fun _ => none := by simp only [fz2, gb]
theorem c_fz {C : Ctx} {N t nx : Nat} {a : IC} {fr : List (Nat × D)} {hp : List (Nat × Blk)} : ev C N (.fz t a) ⟨fr, hp, nx⟩ = fzE hp (lkf fr t) (fun id cells => ev C N a ⟨(t, .rp cells) :: fr, rmh hp id, nx⟩) := by
  simp only [ev, fzE]
  generalize lkf fr t = g
  cases g with
  | ptr id o =>
    cases o with
    | zero =>
      simp only
      generalize lkh hp id = q
      rcases q with _ | ⟨cs | ⟨z, els⟩ | es⟩ <;> rfl
    | succ o => rfl
  | _ => rfl
def gD : Option (List D) → D
  | some cs => .rp cs
  | none => .junk
theorem gD_some {cs : List D} : gD (some cs) = .rp cs := nr rfl
theorem evO_g {C : Ctx} {fr : List (Nat × D)} {g : Nat} : evO C fr (.g g) = gD (C.G g) := by
  simp only [evO]; cases C.G g <;> rfl
theorem natc : ((1 : Nat) : Int) = 1 ∧ ((2 : Nat) : Int) = 2 ∧ ((3 : Nat) : Int) = 3 ∧ ((4 : Nat) : Int) = 4 ∧ ((5 : Nat) : Int) = 5 ∧ ((6 : Nat) : Int) = 6 ∧ ((7 : Nat) : Int) = 7 ∧ ((8 : Nat) : Int) = 8 ∧ ((25 : Nat) : Int) = 25 := ⟨rfl, rfl, rfl, rfl, rfl, rfl, rfl, rfl, rfl⟩
theorem natc0 : ((0 : Nat) : Int) = 0 := rfl
theorem natl : (∀ {n k : Nat}, decide (n + k < n) = false) ∧ (∀ {n k : Nat}, decide (n ≤ n + k) = true) ∧ (∀ {n : Nat}, decide (n < n) = false) ∧ (∀ {n : Nat}, decide (n ≤ n) = true) ∧ (∀ {n k : Nat}, (n + (k + 1) = n) = False) ∧ (∀ {n k : Nat}, (n = n + (k + 1)) = False) := by
  refine ⟨?_, ?_, ?_, ?_, ?_, ?_⟩ <;> intros <;> simp
theorem cnd : (∀ {α : Type} {a b : α}, (bif true then a else b) = a) ∧ (∀ {α : Type} {a b : α}, (bif false then a else b) = b) := ⟨fun {α a b} => nr rfl, fun {α a b} => nr rfl⟩
def EVr := And.intro @fin_nm (And.intro @fin_rt (And.intro @zn_nil (And.intro @zn_cons (And.intro @res_0 (And.intro @res_1 (And.intro @res_2 (And.intro @res_t (And.intro @res_c (And.intro @rc_ptr (And.intro @bd_gb (And.intro @sq_gb (And.intro @bk_gb (And.intro @fin_gb (And.intro @nmB_gb (And.intro @rnK_gb (And.intro @gcr_gb (And.intro @ia_g (And.intro @ixs_g (And.intro @stepE_nm (And.intro @stepE_ex (And.intro @stepE_rt (And.intro @gb_not (And.intro @gb_and (And.intro @gb_or (And.intro @stepE_gb (And.intro @GE_ex (And.intro @GE_rt (And.intro @outK_nm (And.intro @outK_ex (And.intro @outK_rt (And.intro @outK_gb (And.intro @trim_eq (And.intro @idl (And.intro @flt (And.intro @arith (And.intro @natl (And.intro @natc (And.intro @own_l (And.intro @own_o (And.intro @c_own (And.intro @ob_ptr (And.intro @ob_box (And.intro @ob_l (And.intro @ob_o (And.intro @c_ownb (And.intro @fz_ptr (And.intro @fz_box (And.intro @c_fz (And.intro @ex_tup (And.intro @gD_some (And.intro @evO_g (And.intro @cnd (And.intro @gquo (And.intro @grem (And.intro @gshl (And.intro @gshr (And.intro @gsadd (And.intro @gappB (And.intro @gapp (And.intro @gapq (And.intro @gmsl (And.intro @gslc (And.intro @giaa (And.intro @gsls (And.intro @gbsl (And.intro @gbso (And.intro @goapp (And.intro @clb (And.intro @plb (And.intro @emp (And.intro @elm (And.intro @flt2 (And.intro @frb (@gcr_g))))))))))))))))))))))))))))))))))))))))))))))))))))))))))))))))))))))))))
def EVs := And.intro EVr (And.intro EVc (And.intro EV0 (And.intro EV1 (And.intro EV2 (EV3)))))
end Go.Proofs.Dv
set_option linter.unusedVariables false
set_option linter.unusedSimpArgs false
namespace Go.Proofs.Dv
open Go.RowKit
inductive T where
  | mk (kind width bits : Int) (name : ByteArray) (low : Int) (sub : List T)
def T.kind : T → Int | .mk k _ _ _ _ _ => k
def T.width : T → Int | .mk _ w _ _ _ _ => w
def T.bits : T → Int | .mk _ _ b _ _ _ => b
def T.name : T → ByteArray | .mk _ _ _ n _ _ => n
def T.low : T → Int | .mk _ _ _ _ l _ => l
def T.sub : T → List T | .mk _ _ _ _ _ s => s
mutual
def T.d : T → List D
  | .mk k w b n l s => [.v (.int .u8 k), .v (.int .i64 w), .v (.int .u64 b), .v (.string n), .v (.int .i64 l), .lst false (T.ds s)]
def T.ds : List T → List (List D)
  | [] => []
  | t :: ts => T.d t :: T.ds ts
end
theorem T.ds_map (s : List T) : T.ds s = s.map T.d := by
  induction s with
  | nil => rw [T.ds]; rfl
  | cons t ts ih => rw [T.ds, ih]; rfl
theorem T.d_eq (t : T) : t.d = [.v (.int .u8 t.kind), .v (.int .i64 t.width), .v (.int .u64 t.bits), .v (.string t.name), .v (.int .i64 t.low), .lst false (t.sub.map T.d)] := by
  cases t with
  | mk k w b n l s => rw [T.d, T.ds_map]; rfl
theorem T.ind {P : T → Prop} (h : ∀ t : T, (∀ u ∈ t.sub, P u) → P t) : ∀ t, P t := by
  have : ∀ (n : Nat) (t : T), SizeOf.sizeOf t ≤ n → P t := by
    intro n
    induction n with
    | zero => intro t ht; cases t; simp at ht
    | succ n ih =>
      intro t ht
      refine h t fun u hu => ih u ?_
      cases t with
      | mk k w b nm l s =>
        have := List.sizeOf_lt_of_mem hu
        simp only [T.sub] at this
        simp only [T.mk.sizeOf_spec] at ht
        omega
  exact fun t => this _ t (Nat.le_refl _)
theorem map_inj {α β : Type} {f : α → β} : ∀ {xs ys : List α}, (∀ x ∈ xs, ∀ y, f x = f y → x = y) → xs.map f = ys.map f → xs = ys
  | [], [], _, _ => rfl
  | [], y :: ys, _, h => by simp at h
  | x :: xs, [], _, h => by simp at h
  | x :: xs, y :: ys, hf, h => by
    simp only [List.map_cons, List.cons.injEq] at h
    rw [hf x List.mem_cons_self y h.1, map_inj (fun x hx => hf x (List.mem_cons_of_mem _ hx)) h.2]
theorem T.inj : ∀ t u : T, t.d = u.d → t = u := by
  intro t
  induction t using T.ind with
  | h t ih =>
    intro u h
    rw [T.d_eq, T.d_eq] at h
    simp only [List.cons.injEq, D.v.injEq, Value.int.injEq, Value.string.injEq, D.lst.injEq, true_and, and_true] at h
    obtain ⟨h1, h2, h3, h4, h5, h6⟩ := h
    have h7 := map_inj (fun x hx y hxy => ih x hx y hxy) h6
    cases t; cases u
    simp only [T.kind, T.width, T.bits, T.name, T.low, T.sub] at h1 h2 h3 h4 h5 h7
    subst h1 h2 h3 h4 h5 h7
    rfl
structure Pc where
  at_ : Int
  len : Int
def Pc.d (p : Pc) : List D := [.v (.int .i64 p.at_), .v (.int .i64 p.len)]
structure Opn where
  name : ByteArray
  kind : Int
  bank : Int
  scale : Int
  pieces : List Pc
  tied : Int
def Opn.d (o : Opn) : List D := [.v (.string o.name), .v (.int .u8 o.kind), .v (.int .i64 o.bank), .v (.int .i64 o.scale), .lst false (o.pieces.map Pc.d), .v (.int .i64 o.tied)]
structure Rg where
  name : ByteArray
  width : Int
  of_ : Int
  low : Int
def Rg.d (r : Rg) : List D := [.v (.string r.name), .v (.int .i64 r.width), .v (.int .i64 r.of_), .v (.int .i64 r.low)]
def iD (n : Int) : List D := [.v (.int .i64 n)]
def uD (n : Int) : List D := [.v (.int .u64 n)]
def strD (s : ByteArray) : List D := [.v (.string s)]
structure Bk where
  name : ByteArray
  regs : List Int
def Bk.d (b : Bk) : List D := [.v (.string b.name), .lst false (b.regs.map iD)]
structure Un where
  name : ByteArray
  count : Int
def Un.d (u : Un) : List D := [.v (.string u.name), .v (.int .i64 u.count)]
structure Ef where
  kind : Int
  operand : Int
  reg : Int
  addr : T
  value : T
  cond : T
def Ef.d (x : Ef) : List D := .v (.int .u8 x.kind) :: .v (.int .i64 x.operand) :: .v (.int .i64 x.reg) :: (x.addr.d ++ (x.value.d ++ x.cond.d))
structure Ins where
  name : ByteArray
  mask : Int
  match_ : Int
  operands : List Opn
  effects : List Ef
  unit : Int
  busy : Int
  latency : Int
  slots : Int
def Ins.d (s : Ins) : List D := [.v (.string s.name), .v (.int .u64 s.mask), .v (.int .u64 s.match_), .lst false (s.operands.map Opn.d), .lst false (s.effects.map Ef.d), .v (.int .i64 s.unit), .v (.int .i64 s.busy), .v (.int .i64 s.latency), .v (.int .i64 s.slots)]
structure Mc where
  name : ByteArray
  word : Int
  address : Int
  regs : List Rg
  banks : List Bk
  units : List Un
  instrs : List Ins
def Mc.d (m : Mc) : List D := [.v (.string m.name), .v (.int .i64 m.word), .v (.int .i64 m.address), .lst false (m.regs.map Rg.d), .lst false (m.banks.map Bk.d), .lst false (m.units.map Un.d), .lst false (m.instrs.map Ins.d)]
structure Mo where
  instr : Int
  args : List Int
def Mo.d (o : Mo) : List D := [.v (.int .i64 o.instr), .lst false (o.args.map iD)]
structure Bn where
  name : ByteArray
  width : Int
  bits : Int
def Bn.d (b : Bn) : List D := [.v (.string b.name), .v (.int .i64 b.width), .v (.int .u64 b.bits)]
theorem Pc.inj (p q : Pc) (h : p.d = q.d) : p = q := by cases p; cases q; simp [Pc.d] at h; simp [h]
theorem iD_inj (p q : Int) (h : iD p = iD q) : p = q := by simpa [iD] using h
theorem uD_inj (p q : Int) (h : uD p = uD q) : p = q := by simpa [uD] using h
theorem strD_inj (p q : ByteArray) (h : strD p = strD q) : p = q := by simpa [strD] using h
theorem Opn.inj (p q : Opn) (h : p.d = q.d) : p = q := by
  cases p; cases q
  simp only [Opn.d, List.cons.injEq, D.v.injEq, Value.int.injEq, Value.string.injEq, D.lst.injEq, true_and, and_true] at h
  obtain ⟨rfl, rfl, rfl, rfl, h, rfl⟩ := h
  rw [map_inj (fun x _ y => Pc.inj x y) h]
theorem Rg.inj (p q : Rg) (h : p.d = q.d) : p = q := by cases p; cases q; simp [Rg.d] at h; simp [h]
theorem Bk.inj (p q : Bk) (h : p.d = q.d) : p = q := by
  cases p; cases q
  simp only [Bk.d, List.cons.injEq, D.v.injEq, Value.int.injEq, Value.string.injEq, D.lst.injEq, true_and, and_true] at h
  obtain ⟨rfl, h⟩ := h
  rw [map_inj (fun x _ y => iD_inj x y) h]
theorem Un.inj (p q : Un) (h : p.d = q.d) : p = q := by cases p; cases q; simp [Un.d] at h; simp [h]
theorem T.d_len (t : T) : t.d.length = 6 := by rw [T.d_eq]; rfl
theorem Ef.inj (p q : Ef) (h : p.d = q.d) : p = q := by
  cases p; cases q
  simp only [Ef.d, List.cons.injEq, D.v.injEq, Value.int.injEq, true_and] at h
  obtain ⟨rfl, rfl, rfl, h⟩ := h
  have h1 := List.append_inj h (by rw [T.d_len, T.d_len])
  have h2 := List.append_inj h1.2 (by rw [T.d_len, T.d_len])
  rw [T.inj _ _ h1.1, T.inj _ _ h2.1, T.inj _ _ h2.2]
theorem Ins.inj (p q : Ins) (h : p.d = q.d) : p = q := by
  cases p; cases q
  simp only [Ins.d, List.cons.injEq, D.v.injEq, Value.int.injEq, Value.string.injEq, D.lst.injEq, true_and, and_true] at h
  obtain ⟨rfl, rfl, rfl, h, h', rfl, rfl, rfl, rfl⟩ := h
  rw [map_inj (fun x _ y => Opn.inj x y) h, map_inj (fun x _ y => Ef.inj x y) h']
theorem Mc.inj (p q : Mc) (h : p.d = q.d) : p = q := by
  cases p; cases q
  simp only [Mc.d, List.cons.injEq, D.v.injEq, Value.int.injEq, Value.string.injEq, D.lst.injEq, true_and, and_true] at h
  obtain ⟨rfl, rfl, rfl, h1, h2, h3, h4⟩ := h
  rw [map_inj (fun x _ y => Rg.inj x y) h1, map_inj (fun x _ y => Bk.inj x y) h2, map_inj (fun x _ y => Un.inj x y) h3, map_inj (fun x _ y => Ins.inj x y) h4]
theorem Mo.inj (p q : Mo) (h : p.d = q.d) : p = q := by
  cases p; cases q
  simp only [Mo.d, List.cons.injEq, D.v.injEq, Value.int.injEq, D.lst.injEq, true_and, and_true] at h
  obtain ⟨rfl, h⟩ := h
  rw [map_inj (fun x _ y => iD_inj x y) h]
theorem Bn.inj (p q : Bn) (h : p.d = q.d) : p = q := by cases p; cases q; simp [Bn.d] at h; simp [h]
theorem map_iff {α β : Type} {f : α → β} (hf : ∀ x y, f x = f y → x = y) {l l' : List α} : l.map f = l'.map f ↔ l = l' := ⟨map_inj fun x _ y => hf x y, fun h => by rw [h]⟩
theorem INJ : (∀ {p q : Pc}, p.d = q.d ↔ p = q) ∧ (∀ {p q : Opn}, p.d = q.d ↔ p = q) ∧ (∀ {p q : Rg}, p.d = q.d ↔ p = q) ∧ (∀ {p q : Bk}, p.d = q.d ↔ p = q) ∧ (∀ {p q : Un}, p.d = q.d ↔ p = q) ∧ (∀ {p q : T}, p.d = q.d ↔ p = q) ∧ (∀ {p q : Ef}, p.d = q.d ↔ p = q) ∧ (∀ {p q : Ins}, p.d = q.d ↔ p = q) ∧ (∀ {p q : Mc}, p.d = q.d ↔ p = q) ∧ (∀ {p q : Mo}, p.d = q.d ↔ p = q) ∧ (∀ {p q : Bn}, p.d = q.d ↔ p = q) ∧
    (∀ {p q : List Pc}, p.map Pc.d = q.map Pc.d ↔ p = q) ∧ (∀ {p q : List Int}, p.map iD = q.map iD ↔ p = q) ∧ (∀ {p q : List ByteArray}, p.map strD = q.map strD ↔ p = q) ∧ (∀ {p q : List T}, p.map T.d = q.map T.d ↔ p = q) ∧ (∀ {p q : List Bn}, p.map Bn.d = q.map Bn.d ↔ p = q) ∧ (∀ {p q : List Opn}, p.map Opn.d = q.map Opn.d ↔ p = q) ∧ (∀ {p q : List Int}, p.map uD = q.map uD ↔ p = q) :=
  ⟨⟨Pc.inj _ _, fun h => by rw [h]⟩, ⟨Opn.inj _ _, fun h => by rw [h]⟩, ⟨Rg.inj _ _, fun h => by rw [h]⟩, ⟨Bk.inj _ _, fun h => by rw [h]⟩, ⟨Un.inj _ _, fun h => by rw [h]⟩, ⟨T.inj _ _, fun h => by rw [h]⟩, ⟨Ef.inj _ _, fun h => by rw [h]⟩, ⟨Ins.inj _ _, fun h => by rw [h]⟩, ⟨Mc.inj _ _, fun h => by rw [h]⟩, ⟨Mo.inj _ _, fun h => by rw [h]⟩, ⟨Bn.inj _ _, fun h => by rw [h]⟩,
    map_iff Pc.inj, map_iff iD_inj, map_iff strD_inj, map_iff T.inj, map_iff Bn.inj, map_iff Opn.inj, map_iff uD_inj⟩
noncomputable def sOf {α : Type} (e : α → List D) (f : α → Option D) : List D → Option D := by
  classical
  exact fun ds => if h : ∃ a, e a = ds then f h.choose else none
theorem sOf_eq {α : Type} {e : α → List D} {f : α → Option D} (hi : ∀ a b, e a = e b → a = b) (a : α) : sOf e f (e a) = f a := by
  classical
  unfold sOf
  have h : ∃ b, e b = e a := ⟨a, rfl⟩
  rw [dif_pos h]
  exact congrArg f (hi _ _ h.choose_spec)
theorem sOf_inv {α : Type} {e : α → List D} {f : α → Option D} {ds : List D} {r : D} (hi : ∀ a b, e a = e b → a = b) (h : sOf e f ds = some r) : ∃ a, ds = e a ∧ f a = some r := by
  classical
  unfold sOf at h
  split at h
  · rename_i hx
    exact ⟨_, hx.choose_spec.symm, h⟩
  · simp at h
theorem runs_of {C : Ctx} {F : IFun} {α : Type} {e : α → List D} {f : α → Option D} (hi : ∀ a b, e a = e b → a = b) (h : ∀ N, maxLen + 10 < N → ∀ a r, lenOK.lenOKs (e a) → f a = some r → runE C N F (e a) = some r) : Runs C F (sOf e f) := by
  intro N hN ds r hl hs
  obtain ⟨a, rfl, hf⟩ := sOf_inv hi hs
  exact h N hN a r hl hf
end Go.Proofs.Dv
set_option linter.unusedVariables false
set_option linter.unusedSimpArgs false
set_option maxRecDepth 100000
namespace Go.Proofs.Dv
open Go.RowKit
open Nat renaming reduceEqDiff → zA, reduceAdd → zB, reduceSub → zC, reduceLeDiff → zD, reduceLT → zE, reduceMul → zF
open Int renaming reduceToNat → zG, reduceLE → zH, reduceLT → zI
open List renaming set_cons_zero → zJ, set_cons_succ → zK
def inB (n a b : Int) : Bool := decide (a ≤ n) && decide (n ≤ b)
def e3 (x : Int × Int × Int) : List D := [.v (.int .i64 x.1), .v (.int .i64 x.2.1), .v (.int .i64 x.2.2)]
def s_in : List D → Option D
  | [.v (.int .i64 n), .v (.int .i64 a), .v (.int .i64 b)] => some (.v (.bool (inB n a b)))
  | _ => none
theorem e_in {n a b : Int} : s_in [.v (.int .i64 n), .v (.int .i64 a), .v (.int .i64 b)] = some (.v (.bool (inB n a b))) := nr rfl
theorem r_within (C : Ctx) : Runs C ir58 s_in := by
  intro N hN ds r hl hs
  unfold s_in at hs
  split at hs
  · rename_i n a b
    simp only [Option.some.injEq] at hs
    subst hs
    simp -dsimp only [runE, run_eq, ir58, inB, EVs, ↓EVd, ↓reduceIte, zA, zB, zC, zD, zE, zF, reduceBEq, reduceCtorEq, zG, zH, zI, zJ, zK, dcells, okc]
    repeat' ((first | with_reducible refine gb_split (fun _ => ?_) (fun _ => ?_) | with_reducible refine gb_splitr (fun _ => ?_) (fun _ => ?_)) <;> (try simp -dsimp only [ir58, inB, EVs, ↓EVd, ↓reduceIte, zA, zB, zC, zD, zE, zF, reduceBEq, reduceCtorEq, zG, zH, zI, zJ, zK, dcells, okc, *]))
  · simp at hs
def s_wide : List D → Option D
  | [.v (.int .i64 n)] => some (.v (.bool (inB n 1 64)))
  | _ => none
theorem e_wide {n : Int} : s_wide [.v (.int .i64 n)] = some (.v (.bool (inB n 1 64))) := nr rfl
theorem r_bwide (C : Ctx) : Runs C ir125 s_wide := by
  intro N hN ds r hl hs
  unfold s_wide at hs
  split at hs
  · rename_i n
    simp only [Option.some.injEq] at hs
    subst hs
    simp -dsimp only [runE, run_eq, ir125, inB, EVs, ↓EVd, ↓reduceIte, zA, zB, zC, zD, zE, zF, reduceBEq, reduceCtorEq, zG, zH, zI, zJ, zK, dcells, okc]
    repeat' ((first | with_reducible refine gb_split (fun _ => ?_) (fun _ => ?_) | with_reducible refine gb_splitr (fun _ => ?_) (fun _ => ?_)) <;> (try simp -dsimp only [ir125, inB, EVs, ↓EVd, ↓reduceIte, zA, zB, zC, zD, zE, zF, reduceBEq, reduceCtorEq, zG, zH, zI, zJ, zK, dcells, okc, *]))
  · simp at hs
theorem r_twide (C : Ctx) : Runs C ir178 s_wide := by
  intro N hN ds r hl hs
  unfold s_wide at hs
  split at hs
  · rename_i n
    simp only [Option.some.injEq] at hs
    subst hs
    simp -dsimp only [runE, run_eq, ir178, inB, EVs, ↓EVd, ↓reduceIte, zA, zB, zC, zD, zE, zF, reduceBEq, reduceCtorEq, zG, zH, zI, zJ, zK, dcells, okc]
    repeat' ((first | with_reducible refine gb_split (fun _ => ?_) (fun _ => ?_) | with_reducible refine gb_splitr (fun _ => ?_) (fun _ => ?_)) <;> (try simp -dsimp only [ir178, inB, EVs, ↓EVd, ↓reduceIte, zA, zB, zC, zD, zE, zF, reduceBEq, reduceCtorEq, zG, zH, zI, zJ, zK, dcells, okc, *]))
  · simp at hs
theorem inB_iff {n a b : Int} : inB n a b = true ↔ a ≤ n ∧ n ≤ b := by simp [inB]
theorem wr (k : Int) (h : -9223372036854775808 ≤ k) (h' : k ≤ 9223372036854775807) : IntKind.i64.wrap k = k := wrap_i64 h h'
def mskI (n : Int) : Int := if inB n 1 64 = true then 2 ^ n.toNat - 1 else 0
def s_Mask : List D → Option D
  | [.v (.int .i64 n)] => some (.v (.int .u64 (mskI n)))
  | _ => none
theorem e_Mask {n : Int} : s_Mask [.v (.int .i64 n)] = some (.v (.int .u64 (mskI n))) := nr rfl
theorem msk_shr (n : Nat) (h : 1 ≤ n) (h' : n ≤ 64) : (18446744073709551615 : Int).fdiv (2 ^ (64 - n)) = 2 ^ n - 1 := by
  have : ∀ n : Fin 64, (18446744073709551615 : Int).fdiv (2 ^ (64 - (n.val + 1))) = 2 ^ (n.val + 1) - 1 := by decide
  have := this ⟨n - 1, by omega⟩
  simp only at this
  rwa [show n - 1 + 1 = n by omega] at this
theorem r_Mask (C : Ctx) (hT : C.T 125 = some s_wide) : Runs C ir89 s_Mask := by
  intro N hN ds r hl hs
  unfold s_Mask at hs
  split at hs
  · rename_i n
    simp only [Option.some.injEq] at hs
    subst hs
    cases h : inB n 1 64
    · simp -dsimp only [runE, run_eq, ir89, hT, e_wide, mskI, h, EVs, ↓EVd, ↓reduceIte, zA, zB, zC, zD, zE, zF, reduceBEq, reduceCtorEq, zG, zH, zI, zJ, zK, dcells, okc]
    · have h2 := inB_iff.1 h
      have h3 : IntKind.i64.wrap (64 - n) = 64 - n := wr _ (by omega) (by omega)
      have h4 : decide (64 - n < 0) = false := by first | exact decide_eq_true (by omega) | exact decide_eq_false (by omega)
      simp -dsimp only [runE, run_eq, ir89, hT, e_wide, mskI, h, h3, h4, EVs, ↓EVd, ↓reduceIte, zA, zB, zC, zD, zE, zF, reduceBEq, reduceCtorEq, zG, zH, zI, zJ, zK, dcells, okc]
      obtain ⟨k, rfl⟩ : ∃ k : Nat, n = k := ⟨n.toNat, by omega⟩
      have h5 : min (64 - (k : Int)).toNat IntKind.u64.bits = 64 - k := by
        rw [show IntKind.u64.bits = 64 from rfl]; omega
      rw [h5, msk_shr k (by omega) (by omega)]
      simp
  · simp at hs
def okI (w x : Int) : Bool := inB w 1 64 && decide (x ≤ mskI w)
def s_Ok : List D → Option D
  | [.v (.int .i64 w), .v (.int .u64 x)] => some (.v (.bool (okI w x)))
  | _ => none
theorem e_Ok {w x : Int} : s_Ok [.v (.int .i64 w), .v (.int .u64 x)] = some (.v (.bool (okI w x))) := nr rfl
theorem r_Ok (C : Ctx) (hT : C.T 125 = some s_wide) (hM : C.T 89 = some s_Mask) : Runs C ir92 s_Ok := by
  intro N hN ds r hl hs
  unfold s_Ok at hs
  split at hs
  · rename_i w x
    simp only [Option.some.injEq] at hs
    subst hs
    simp -dsimp only [runE, run_eq, ir92, hT, e_wide, hM, e_Mask, okI, EVs, ↓EVd, ↓reduceIte, zA, zB, zC, zD, zE, zF, reduceBEq, reduceCtorEq, zG, zH, zI, zJ, zK, dcells, okc]
    repeat' ((first | with_reducible refine gb_split (fun _ => ?_) (fun _ => ?_) | with_reducible refine gb_splitr (fun _ => ?_) (fun _ => ?_)) <;> (try simp -dsimp only [ir92, hT, e_wide, hM, e_Mask, okI, EVs, ↓EVd, ↓reduceIte, zA, zB, zC, zD, zE, zF, reduceBEq, reduceCtorEq, zG, zH, zI, zJ, zK, dcells, okc, *]))
  · simp at hs
def letter (b : UInt8) : Bool := (decide ((97 : Int) ≤ b.toNat) && decide ((b.toNat : Int) ≤ 122)) || (decide ((65 : Int) ≤ b.toNat) && decide ((b.toNat : Int) ≤ 90))
def other (b : UInt8) : Bool := (decide ((48 : Int) ≤ b.toNat) && decide ((b.toNat : Int) ≤ 57)) || decide ((b.toNat : Int) = 95)
def chOK (i : Nat) (b : UInt8) : Bool := letter b || (!decide (i = 0) && other b)
def scOK {α β : Type} : Sc α β → Bool
  | .go _ => true
  | .out _ => false
theorem sc_go {α β : Type} {a : α} : scOK (.go a : Sc α β) = true := nr rfl
theorem sc_out {α β : Type} {b : β} : scOK (.out b : Sc α β) = false := nr rfl
def nameOK (s : ByteArray) : Bool := decide (1 ≤ s.size) && decide (s.size ≤ 24) && scOK (scan (tst chOK (fun i _ => i + 1) fun _ _ => ()) 0 s.data.toList)
def s_Name : List D → Option D
  | [.v (.string s)] => some (.v (.bool (nameOK s)))
  | _ => none
theorem e_Name {s : ByteArray} : s_Name [.v (.string s)] = some (.v (.bool (nameOK s))) := nr rfl
theorem bsz (s : ByteArray) : s.size = s.data.toList.length := by rw [Array.length_toList]; rfl
theorem byt {s : ByteArray} {i : Nat} {b : UInt8} (h : s.data.toList[i]? = some b) : s.data[i]? = some b := by simpa using h
theorem r_Name (C : Ctx) : Runs C ir57 s_Name := by
  intro N hN ds r hl hs
  unfold s_Name at hs
  split at hs
  · rename_i s
    simp only [Option.some.injEq] at hs
    subst hs
    by_cases h1 : s.size < 1
    · have h2 : decide ((s.size : Int) < 1) = true := by first | exact decide_eq_true (by omega) | exact decide_eq_false (by omega)
      have h3 : decide (1 ≤ s.size) = false := by first | exact decide_eq_true (by omega) | exact decide_eq_false (by omega)
      simp -dsimp only [runE, run_eq, ir57, nameOK, h2, h3, EVs, ↓EVd, ↓reduceIte, zA, zB, zC, zD, zE, zF, reduceBEq, reduceCtorEq, zG, zH, zI, zJ, zK, dcells, okc]
    by_cases h4 : 24 < s.size
    · have h2 : decide ((s.size : Int) < 1) = false := by first | exact decide_eq_true (by omega) | exact decide_eq_false (by omega)
      have h3 : decide ((24 : Int) < s.size) = true := by first | exact decide_eq_true (by omega) | exact decide_eq_false (by omega)
      have h5 : decide (s.size ≤ 24) = false := by first | exact decide_eq_true (by omega) | exact decide_eq_false (by omega)
      simp -dsimp only [runE, run_eq, ir57, nameOK, h2, h3, h5, EVs, ↓EVd, ↓reduceIte, zA, zB, zC, zD, zE, zF, reduceBEq, reduceCtorEq, zG, zH, zI, zJ, zK, dcells, okc]
    have h2 : decide ((s.size : Int) < 1) = false := by first | exact decide_eq_true (by omega) | exact decide_eq_false (by omega)
    have h3 : decide ((24 : Int) < s.size) = false := by first | exact decide_eq_true (by omega) | exact decide_eq_false (by omega)
    have h5 : decide (1 ≤ s.size) = true := by first | exact decide_eq_true (by omega) | exact decide_eq_false (by omega)
    have h6 : decide (s.size ≤ 24) = true := by first | exact decide_eq_true (by omega) | exact decide_eq_false (by omega)
    simp -dsimp only [runE, run_eq, ir57, nameOK, h2, h3, h5, h6, EVs, ↓EVd, ↓reduceIte, zA, zB, zC, zD, zE, zF, reduceBEq, reduceCtorEq, zG, zH, zI, zJ, zK, dcells, okc]
    clear h2 h3 h5 h6
    rw [bsz] at h1 h4
    simp only [bsz]
    generalize hI : iter _ _ _ _ = I
    revert I
    refine iter_test s.data.toList (fun i _ => ⟨[(0, .v (.string s)), (15, .v (.int .i64 s.data.toList.length)), (16, .v (.int .i64 i))], [], 0⟩) chOK (fun i _ => i + 1) (fun _ _ => ()) (fun i a => a = i) 0 (by have := maxLen_ge; omega) hN ?_ rfl ?_ ?_ ?_
    · simp -dsimp only [EVs, ↓EVd, ↓reduceIte, zA, zB, zC, zD, zE, zF, reduceBEq, reduceCtorEq, zG, zH, zI, zJ, zK, dcells, okc]
    · rintro _ i b hi hw hb rfl
      refine ⟨?_, fun _ => rfl⟩
      have hb' := byt hb
      have hz : decide ((i : Int) = 0) = decide (i = 0) := by simp
      simp -dsimp only [lp57x0, hb', hi, hw, hz, chOK, letter, other, bsz, EVs, ↓EVd, ↓reduceIte, zA, zB, zC, zD, zE, zF, reduceBEq, reduceCtorEq, zG, zH, zI, zJ, zK, dcells, okc]
      repeat' ((first | with_reducible refine gb_split (fun _ => ?_) (fun _ => ?_) | with_reducible refine gb_splitr (fun _ => ?_) (fun _ => ?_)) <;> (try simp -dsimp only [lp57x0, hb', hi, hw, hz, chOK, letter, other, bsz, EVs, ↓EVd, ↓reduceIte, zA, zB, zC, zD, zE, zF, reduceBEq, reduceCtorEq, zG, zH, zI, zJ, zK, dcells, okc, *]))
      all_goals (simp only [decide_eq_true_eq, decide_eq_false_iff_not] at *; omega)
    · rintro _ i b hi hb rfl hs
      have hb' := byt hb
      have hz : decide ((i : Int) = 0) = decide (i = 0) := by simp
      simp -dsimp only [lp57x0, hb', hi, hz, chOK, letter, other, hs, sc_go, sc_out, EVs, ↓EVd, ↓reduceIte, zA, zB, zC, zD, zE, zF, reduceBEq, reduceCtorEq, zG, zH, zI, zJ, zK, dcells, okc]
      repeat' ((first | with_reducible refine gb_split (fun _ => ?_) (fun _ => ?_) | with_reducible refine gb_splitr (fun _ => ?_) (fun _ => ?_)) <;> (try simp -dsimp only [lp57x0, hb', hi, hz, chOK, letter, other, hs, sc_go, sc_out, EVs, ↓EVd, ↓reduceIte, zA, zB, zC, zD, zE, zF, reduceBEq, reduceCtorEq, zG, zH, zI, zJ, zK, dcells, okc, *]))
      all_goals (simp only [decide_eq_true_eq, decide_eq_false_iff_not] at *; omega)
    · rintro _ rfl hs
      simp -dsimp only [lp57x0, hs, sc_go, sc_out, EVs, ↓EVd, ↓reduceIte, zA, zB, zC, zD, zE, zF, reduceBEq, reduceCtorEq, zG, zH, zI, zJ, zK, dcells, okc]
  · simp at hs
end Go.Proofs.Dv
set_option linter.unusedVariables false
set_option linter.unusedSimpArgs false
set_option maxRecDepth 100000
namespace Go.Proofs.Dv
open Go.RowKit
open Nat renaming reduceEqDiff → zA, reduceAdd → zB, reduceSub → zC, reduceLeDiff → zD, reduceLT → zE, reduceMul → zF
open Int renaming reduceToNat → zG, reduceLE → zH, reduceLT → zI
open List renaming set_cons_zero → zJ, set_cons_succ → zK
def idx {α : Type} [DecidableEq α] (x : α) : List α → Nat → Int
  | [], _ => -1
  | y :: ys, i => if x = y then (i : Int) else idx x ys (i + 1)
theorem idx_scan {α : Type} [DecidableEq α] (x : α) : ∀ (l : List α) (i : Nat), idx x l i = match scan (tst (fun _ y => !decide (x = y)) (fun i _ => i + 1) (fun i _ => (i : Int))) i l with | .go _ => -1 | .out k => k
  | [], i => rfl
  | y :: ys, i => by
    simp only [idx, scan, tst]
    by_cases h : x = y
    · simp [h]
    · simp only [h, if_false, decide_false, Bool.not_false, if_true]
      exact idx_scan x ys (i + 1)
def has {α : Type} [DecidableEq α] (x : α) (l : List α) : Bool := l.any fun y => decide (x = y)
theorem idx_nonneg {α : Type} [DecidableEq α] (x : α) : ∀ (l : List α) (i : Nat), decide (0 ≤ idx x l i) = has x l
  | [], i => by simp [idx, has]
  | y :: ys, i => by
    have ih := idx_nonneg x ys (i + 1)
    simp only [has] at ih
    simp only [idx, has, List.any_cons]
    by_cases h : x = y
    · simp [h]
    · simp only [h, if_false, ih, decide_false, Bool.false_or]
theorem r_IndexI (C : Ctx) (N : Nat) (hN : maxLen + 10 < N) (b : Bool) (l : List Int) (x : Int) (hl : l.length ≤ maxLen) : runE C N ir145 [.lst b (l.map iD), .v (.int .i64 x)] = some (.v (.int .i64 (idx x l 0))) := by
  simp -dsimp only [runE, run_eq, ir145, EVs, ↓EVd, ↓reduceIte, zA, zB, zC, zD, zE, zF, reduceBEq, reduceCtorEq, zG, zH, zI, zJ, zK, dcells, okc]
  generalize hI : iter _ _ _ _ = I
  revert I
  refine iter_test l (fun i _ => ⟨[(0, .lst b (l.map iD)), (1, .v (.int .i64 x)), (7, .v (.int .i64 l.length)), (8, .v (.int .i64 i))], [], 0⟩) (fun _ y => !decide (x = y)) (fun i _ => i + 1) (fun i _ => (i : Int)) (fun i a => a = i) 0 hl hN ?_ rfl ?_ ?_ ?_
  · simp -dsimp only [EVs, ↓EVd, ↓reduceIte, zA, zB, zC, zD, zE, zF, reduceBEq, reduceCtorEq, zG, zH, zI, zJ, zK, dcells, okc]
  · rintro _ i y hi hw hy rfl
    refine ⟨?_, fun _ => rfl⟩
    simp -dsimp only [lp145x0, hi, hw, hy, iD, EVs, ↓EVd, ↓reduceIte, zA, zB, zC, zD, zE, zF, reduceBEq, reduceCtorEq, zG, zH, zI, zJ, zK, dcells, okc]
    repeat' ((first | with_reducible refine gb_split (fun _ => ?_) (fun _ => ?_) | with_reducible refine gb_splitr (fun _ => ?_) (fun _ => ?_)) <;> (try simp -dsimp only [lp145x0, hi, hw, hy, iD, EVs, ↓EVd, ↓reduceIte, zA, zB, zC, zD, zE, zF, reduceBEq, reduceCtorEq, zG, zH, zI, zJ, zK, dcells, okc, *]))
  · rintro _ i y hi hy rfl hs
    simp -dsimp only [lp145x0, hi, hy, iD, idx_scan, hs, EVs, ↓EVd, ↓reduceIte, zA, zB, zC, zD, zE, zF, reduceBEq, reduceCtorEq, zG, zH, zI, zJ, zK, dcells, okc]
    repeat' ((first | with_reducible refine gb_split (fun _ => ?_) (fun _ => ?_) | with_reducible refine gb_splitr (fun _ => ?_) (fun _ => ?_)) <;> (try simp -dsimp only [lp145x0, hi, hy, iD, idx_scan, hs, EVs, ↓EVd, ↓reduceIte, zA, zB, zC, zD, zE, zF, reduceBEq, reduceCtorEq, zG, zH, zI, zJ, zK, dcells, okc, *]))
  · rintro _ rfl hs
    simp -dsimp only [lp145x0, idx_scan, hs, EVs, ↓EVd, ↓reduceIte, zA, zB, zC, zD, zE, zF, reduceBEq, reduceCtorEq, zG, zH, zI, zJ, zK, dcells, okc]
theorem r_IndexS (C : Ctx) (N : Nat) (hN : maxLen + 10 < N) (b : Bool) (l : List ByteArray) (x : ByteArray) (hl : l.length ≤ maxLen) : runE C N ir147 [.lst b (l.map strD), .v (.string x)] = some (.v (.int .i64 (idx x l 0))) := by
  simp -dsimp only [runE, run_eq, ir147, EVs, ↓EVd, ↓reduceIte, zA, zB, zC, zD, zE, zF, reduceBEq, reduceCtorEq, zG, zH, zI, zJ, zK, dcells, okc]
  generalize hI : iter _ _ _ _ = I
  revert I
  refine iter_test l (fun i _ => ⟨[(0, .lst b (l.map strD)), (1, .v (.string x)), (7, .v (.int .i64 l.length)), (8, .v (.int .i64 i))], [], 0⟩) (fun _ y => !decide (x = y)) (fun i _ => i + 1) (fun i _ => (i : Int)) (fun i a => a = i) 0 hl hN ?_ rfl ?_ ?_ ?_
  · simp -dsimp only [EVs, ↓EVd, ↓reduceIte, zA, zB, zC, zD, zE, zF, reduceBEq, reduceCtorEq, zG, zH, zI, zJ, zK, dcells, okc]
  · rintro _ i y hi hw hy rfl
    refine ⟨?_, fun _ => rfl⟩
    simp -dsimp only [lp147x0, hi, hw, hy, strD, EVs, ↓EVd, ↓reduceIte, zA, zB, zC, zD, zE, zF, reduceBEq, reduceCtorEq, zG, zH, zI, zJ, zK, dcells, okc]
    repeat' ((first | with_reducible refine gb_split (fun _ => ?_) (fun _ => ?_) | with_reducible refine gb_splitr (fun _ => ?_) (fun _ => ?_)) <;> (try simp -dsimp only [lp147x0, hi, hw, hy, strD, EVs, ↓EVd, ↓reduceIte, zA, zB, zC, zD, zE, zF, reduceBEq, reduceCtorEq, zG, zH, zI, zJ, zK, dcells, okc, *]))
  · rintro _ i y hi hy rfl hs
    simp -dsimp only [lp147x0, hi, hy, strD, idx_scan, hs, EVs, ↓EVd, ↓reduceIte, zA, zB, zC, zD, zE, zF, reduceBEq, reduceCtorEq, zG, zH, zI, zJ, zK, dcells, okc]
    repeat' ((first | with_reducible refine gb_split (fun _ => ?_) (fun _ => ?_) | with_reducible refine gb_splitr (fun _ => ?_) (fun _ => ?_)) <;> (try simp -dsimp only [lp147x0, hi, hy, strD, idx_scan, hs, EVs, ↓EVd, ↓reduceIte, zA, zB, zC, zD, zE, zF, reduceBEq, reduceCtorEq, zG, zH, zI, zJ, zK, dcells, okc, *]))
  · rintro _ rfl hs
    simp -dsimp only [lp147x0, idx_scan, hs, EVs, ↓EVd, ↓reduceIte, zA, zB, zC, zD, zE, zF, reduceBEq, reduceCtorEq, zG, zH, zI, zJ, zK, dcells, okc]
def x_IdxI (a : Bool × (List Int) × Int) : List D := match a with | (b, l, x) => [.lst b (l.map iD), .v (.int .i64 x)]
theorem i_IdxI : ∀ a b, x_IdxI a = x_IdxI b → a = b := by
  rintro ⟨b, l, x⟩ ⟨b', l', x'⟩ h
  first | simpa [x_IdxI, INJ, and_assoc, Int.ofNat_inj] using h | (simp [x_IdxI, INJ, and_assoc, Int.ofNat_inj] at h; simp_all)
noncomputable def s_IdxI : List D → Option D := sOf x_IdxI fun a => match a with | (b, l, x) => some (.v (.int .i64 (idx x l 0)))
theorem e_IdxI {b : Bool} {l : List Int} {x : Int} : s_IdxI [.lst b (l.map iD), .v (.int .i64 x)] = some (.v (.int .i64 (idx x l 0))) := sOf_eq i_IdxI (b, l, x)
theorem R_IdxI {C : Ctx} {F : IFun} (hspec : ∀ N, maxLen + 10 < N → ∀ (b : Bool) (l : List Int) (x : Int), lenOK.lenOKs [.lst b (l.map iD), .v (.int .i64 x)] → runE C N F [.lst b (l.map iD), .v (.int .i64 x)] = some (.v (.int .i64 (idx x l 0)))) : Runs C F s_IdxI := runs_of i_IdxI fun N hN a r hl hf => by
  obtain ⟨b, l, x⟩ := a
  simp only [Option.some.injEq] at hf
  subst hf
  exact hspec N hN b l x hl
theorem R_IndexI (C : Ctx) : Runs C ir145 s_IdxI := R_IdxI fun N hN b l x hl => r_IndexI C N hN b l x (by simp only [EVl, List.length_map] at hl; exact hl.1.1)
def x_IdxS (a : Bool × (List ByteArray) × ByteArray) : List D := match a with | (b, l, x) => [.lst b (l.map strD), .v (.string x)]
theorem i_IdxS : ∀ a b, x_IdxS a = x_IdxS b → a = b := by
  rintro ⟨b, l, x⟩ ⟨b', l', x'⟩ h
  first | simpa [x_IdxS, INJ, and_assoc, Int.ofNat_inj] using h | (simp [x_IdxS, INJ, and_assoc, Int.ofNat_inj] at h; simp_all)
noncomputable def s_IdxS : List D → Option D := sOf x_IdxS fun a => match a with | (b, l, x) => some (.v (.int .i64 (idx x l 0)))
theorem e_IdxS {b : Bool} {l : List ByteArray} {x : ByteArray} : s_IdxS [.lst b (l.map strD), .v (.string x)] = some (.v (.int .i64 (idx x l 0))) := sOf_eq i_IdxS (b, l, x)
theorem R_IdxS {C : Ctx} {F : IFun} (hspec : ∀ N, maxLen + 10 < N → ∀ (b : Bool) (l : List ByteArray) (x : ByteArray), lenOK.lenOKs [.lst b (l.map strD), .v (.string x)] → runE C N F [.lst b (l.map strD), .v (.string x)] = some (.v (.int .i64 (idx x l 0)))) : Runs C F s_IdxS := runs_of i_IdxS fun N hN a r hl hf => by
  obtain ⟨b, l, x⟩ := a
  simp only [Option.some.injEq] at hf
  subst hf
  exact hspec N hN b l x hl
theorem R_IndexS (C : Ctx) : Runs C ir147 s_IdxS := R_IdxS fun N hN b l x hl => r_IndexS C N hN b l x (by simp only [EVl, List.length_map] at hl; exact hl.1.1)
def x_HasI (a : Bool × (List Int) × Int) : List D := match a with | (b, l, x) => [.lst b (l.map iD), .v (.int .i64 x)]
theorem i_HasI : ∀ a b, x_HasI a = x_HasI b → a = b := by
  rintro ⟨b, l, x⟩ ⟨b', l', x'⟩ h
  first | simpa [x_HasI, INJ, and_assoc, Int.ofNat_inj] using h | (simp [x_HasI, INJ, and_assoc, Int.ofNat_inj] at h; simp_all)
noncomputable def s_HasI : List D → Option D := sOf x_HasI fun a => match a with | (b, l, x) => some (.v (.bool (has x l)))
theorem e_HasI {b : Bool} {l : List Int} {x : Int} : s_HasI [.lst b (l.map iD), .v (.int .i64 x)] = some (.v (.bool (has x l))) := sOf_eq i_HasI (b, l, x)
theorem R_HasI {C : Ctx} {F : IFun} (hspec : ∀ N, maxLen + 10 < N → ∀ (b : Bool) (l : List Int) (x : Int), lenOK.lenOKs [.lst b (l.map iD), .v (.int .i64 x)] → runE C N F [.lst b (l.map iD), .v (.int .i64 x)] = some (.v (.bool (has x l)))) : Runs C F s_HasI := runs_of i_HasI fun N hN a r hl hf => by
  obtain ⟨b, l, x⟩ := a
  simp only [Option.some.injEq] at hf
  subst hf
  exact hspec N hN b l x hl
theorem R_ContainsI (C : Ctx) (hT : C.T 145 = some s_IdxI) : Runs C ir100 s_HasI := R_HasI fun N hN b l x hl => by
  simp -dsimp only [ir100, runE, run_eq, hT, e_IdxI, idx_nonneg, EVs, ↓EVd, ↓reduceIte, zA, zB, zC, zD, zE, zF, reduceBEq, reduceCtorEq, zG, zH, zI, zJ, zK, dcells, okc]
  repeat' ((first | with_reducible refine gb_split (fun _ => ?_) (fun _ => ?_) | with_reducible refine gb_splitr (fun _ => ?_) (fun _ => ?_)) <;> (try simp -dsimp only [ir100, runE, run_eq, hT, e_IdxI, idx_nonneg, EVs, ↓EVd, ↓reduceIte, zA, zB, zC, zD, zE, zF, reduceBEq, reduceCtorEq, zG, zH, zI, zJ, zK, dcells, okc, *]))
def x_HasS (a : Bool × (List ByteArray) × ByteArray) : List D := match a with | (b, l, x) => [.lst b (l.map strD), .v (.string x)]
theorem i_HasS : ∀ a b, x_HasS a = x_HasS b → a = b := by
  rintro ⟨b, l, x⟩ ⟨b', l', x'⟩ h
  first | simpa [x_HasS, INJ, and_assoc, Int.ofNat_inj] using h | (simp [x_HasS, INJ, and_assoc, Int.ofNat_inj] at h; simp_all)
noncomputable def s_HasS : List D → Option D := sOf x_HasS fun a => match a with | (b, l, x) => some (.v (.bool (has x l)))
theorem e_HasS {b : Bool} {l : List ByteArray} {x : ByteArray} : s_HasS [.lst b (l.map strD), .v (.string x)] = some (.v (.bool (has x l))) := sOf_eq i_HasS (b, l, x)
theorem R_HasS {C : Ctx} {F : IFun} (hspec : ∀ N, maxLen + 10 < N → ∀ (b : Bool) (l : List ByteArray) (x : ByteArray), lenOK.lenOKs [.lst b (l.map strD), .v (.string x)] → runE C N F [.lst b (l.map strD), .v (.string x)] = some (.v (.bool (has x l)))) : Runs C F s_HasS := runs_of i_HasS fun N hN a r hl hf => by
  obtain ⟨b, l, x⟩ := a
  simp only [Option.some.injEq] at hf
  subst hf
  exact hspec N hN b l x hl
theorem R_ContainsS (C : Ctx) (hT : C.T 147 = some s_IdxS) : Runs C ir106 s_HasS := R_HasS fun N hN b l x hl => by
  simp -dsimp only [ir106, runE, run_eq, hT, e_IdxS, idx_nonneg, EVs, ↓EVd, ↓reduceIte, zA, zB, zC, zD, zE, zF, reduceBEq, reduceCtorEq, zG, zH, zI, zJ, zK, dcells, okc]
  repeat' ((first | with_reducible refine gb_split (fun _ => ?_) (fun _ => ?_) | with_reducible refine gb_splitr (fun _ => ?_) (fun _ => ?_)) <;> (try simp -dsimp only [ir106, runE, run_eq, hT, e_IdxS, idx_nonneg, EVs, ↓EVd, ↓reduceIte, zA, zB, zC, zD, zE, zF, reduceBEq, reduceCtorEq, zG, zH, zI, zJ, zK, dcells, okc, *]))
end Go.Proofs.Dv
set_option linter.unusedVariables false
set_option linter.unusedSimpArgs false
set_option maxRecDepth 100000
namespace Go.Proofs.Dv
open Go.RowKit
open Nat renaming reduceEqDiff → zA, reduceAdd → zB, reduceSub → zC, reduceLeDiff → zD, reduceLT → zE, reduceMul → zF
open Int renaming reduceToNat → zG, reduceLE → zH, reduceLT → zI
open List renaming set_cons_zero → zJ, set_cons_succ → zK
theorem wu (k : Int) (h : 0 ≤ k) (h' : k < 18446744073709551616) : IntKind.u64.wrap k = k := by
  rw [show IntKind.u64.wrap k = k % 18446744073709551616 from by simp [IntKind.wrap, IntKind.bits, IntKind.signed]]; omega
def x_Max2 (a : Int × Int) : List D := match a with | (a, b) => [.lst false [[.v (.int .i64 a)], [.v (.int .i64 b)]]]
theorem i_Max2 : ∀ a b, x_Max2 a = x_Max2 b → a = b := by
  rintro ⟨a, b⟩ ⟨a', b'⟩ h
  first | simpa [x_Max2, INJ, and_assoc, Int.ofNat_inj] using h | (simp [x_Max2, INJ, and_assoc, Int.ofNat_inj] at h; simp_all)
noncomputable def s_Max2 : List D → Option D := sOf x_Max2 fun a => match a with | (a, b) => some (.v (.int .i64 (max a b)))
theorem e_Max2 {a : Int} {b : Int} : s_Max2 [.lst false [[.v (.int .i64 a)], [.v (.int .i64 b)]]] = some (.v (.int .i64 (max a b))) := sOf_eq i_Max2 (a, b)
theorem R_Max2 {C : Ctx} {F : IFun} (hspec : ∀ N, maxLen + 10 < N → ∀ (a : Int) (b : Int), lenOK.lenOKs [.lst false [[.v (.int .i64 a)], [.v (.int .i64 b)]]] → runE C N F [.lst false [[.v (.int .i64 a)], [.v (.int .i64 b)]]] = some (.v (.int .i64 (max a b)))) : Runs C F s_Max2 := runs_of i_Max2 fun N hN a r hl hf => by
  obtain ⟨a, b⟩ := a
  simp only [Option.some.injEq] at hf
  subst hf
  exact hspec N hN a b hl
theorem r_Max (C : Ctx) : Runs C ir146 s_Max2 := R_Max2 fun N hN a b hl => by
  simp -dsimp only [runE, run_eq, ir146, EVs, ↓EVd, ↓reduceIte, zA, zB, zC, zD, zE, zF, reduceBEq, reduceCtorEq, zG, zH, zI, zJ, zK, dcells, okc]
  generalize hI : iter _ _ _ _ = I
  revert I
  refine iter_all [b] (fun i m => ⟨[(0, .lst false [[.v (.int .i64 a)], [.v (.int .i64 b)]]), (3, .v (.int .i64 m)), (4, .v (.int .i64 ((i + 1 : Nat) : Int)))], [], 0⟩) (fun m x => max m x) (fun _ _ => True) a (by have := maxLen_ge; simp; omega) hN ?_ trivial ?_ ?_
  · simp -dsimp only [EVs, ↓EVd, ↓reduceIte, zA, zB, zC, zD, zE, zF, reduceBEq, reduceCtorEq, zG, zH, zI, zJ, zK, dcells, okc]
  · intro i m x hi hw hx _
    have h0 : i = 0 := by simp at hi; omega
    subst h0
    simp at hx
    subst hx
    refine ⟨?_, trivial⟩
    have h2 : IntKind.i64.wrap (1 + 1) = 2 := by decide
    simp -dsimp only [lp146x0, hi, hw, h2, EVs, ↓EVd, ↓reduceIte, zA, zB, zC, zD, zE, zF, reduceBEq, reduceCtorEq, zG, zH, zI, zJ, zK, dcells, okc]
  · intro _
    simp -dsimp only [lp146x0, List.foldl, EVs, ↓EVd, ↓reduceIte, zA, zB, zC, zD, zE, zF, reduceBEq, reduceCtorEq, zG, zH, zI, zJ, zK, dcells, okc]
def x_Few (a : Int × Int) : List D := match a with | (m, n) => [.v (.int .i64 m), .lst true [[.v (.int .i64 n)]]]
theorem i_Few : ∀ a b, x_Few a = x_Few b → a = b := by
  rintro ⟨m, n⟩ ⟨m', n'⟩ h
  first | simpa [x_Few, INJ, and_assoc, Int.ofNat_inj] using h | (simp [x_Few, INJ, and_assoc, Int.ofNat_inj] at h; simp_all)
noncomputable def s_Few : List D → Option D := sOf x_Few fun a => match a with | (m, n) => some (.v (.bool (decide (max n 0 ≤ m))))
theorem e_Few {m : Int} {n : Int} : s_Few [.v (.int .i64 m), .lst true [[.v (.int .i64 n)]]] = some (.v (.bool (decide (max n 0 ≤ m)))) := sOf_eq i_Few (m, n)
theorem R_Few {C : Ctx} {F : IFun} (hspec : ∀ N, maxLen + 10 < N → ∀ (m : Int) (n : Int), lenOK.lenOKs [.v (.int .i64 m), .lst true [[.v (.int .i64 n)]]] → runE C N F [.v (.int .i64 m), .lst true [[.v (.int .i64 n)]]] = some (.v (.bool (decide (max n 0 ≤ m))))) : Runs C F s_Few := runs_of i_Few fun N hN a r hl hf => by
  obtain ⟨m, n⟩ := a
  simp only [Option.some.injEq] at hf
  subst hf
  exact hspec N hN m n hl
theorem r_fewer (C : Ctx) (hT : C.T 146 = some s_Max2) : Runs C ir105 s_Few := R_Few fun N hN m n hl => by
  simp -dsimp only [runE, run_eq, ir105, hT, e_Max2, Nat.reduceMul, EVs, ↓EVd, ↓reduceIte, zA, zB, zC, zD, zE, zF, reduceBEq, reduceCtorEq, zG, zH, zI, zJ, zK, dcells, okc]
def hasP (s p : ByteArray) : Bool := decide ((p.size : Int) ≤ s.size) && decide (s.extract 0 p.size = p)
def trimP (s p : ByteArray) : ByteArray := if hasP s p = true then s.extract p.size s.size else s
def x_HasP (a : ByteArray × ByteArray) : List D := match a with | (s, p) => [.v (.string s), .v (.string p)]
theorem i_HasP : ∀ a b, x_HasP a = x_HasP b → a = b := by
  rintro ⟨s, p⟩ ⟨s', p'⟩ h
  first | simpa [x_HasP, INJ, and_assoc, Int.ofNat_inj] using h | (simp [x_HasP, INJ, and_assoc, Int.ofNat_inj] at h; simp_all)
noncomputable def s_HasP : List D → Option D := sOf x_HasP fun a => match a with | (s, p) => some (.v (.bool (hasP s p)))
theorem e_HasP {s : ByteArray} {p : ByteArray} : s_HasP [.v (.string s), .v (.string p)] = some (.v (.bool (hasP s p))) := sOf_eq i_HasP (s, p)
theorem R_HasP {C : Ctx} {F : IFun} (hspec : ∀ N, maxLen + 10 < N → ∀ (s : ByteArray) (p : ByteArray), lenOK.lenOKs [.v (.string s), .v (.string p)] → runE C N F [.v (.string s), .v (.string p)] = some (.v (.bool (hasP s p)))) : Runs C F s_HasP := runs_of i_HasP fun N hN a r hl hf => by
  obtain ⟨s, p⟩ := a
  simp only [Option.some.injEq] at hf
  subst hf
  exact hspec N hN s p hl
theorem r_HasPrefix (C : Ctx) : Runs C ir193 s_HasP := R_HasP fun N hN s p hl => by
  simp -dsimp only [runE, run_eq, ir193, hasP, EVs, ↓EVd, ↓reduceIte, zA, zB, zC, zD, zE, zF, reduceBEq, reduceCtorEq, zG, zH, zI, zJ, zK, dcells, okc]
  repeat' ((first | with_reducible refine gb_split (fun _ => ?_) (fun _ => ?_) | with_reducible refine gb_splitr (fun _ => ?_) (fun _ => ?_)) <;> (try simp -dsimp only [runE, run_eq, ir193, hasP, EVs, ↓EVd, ↓reduceIte, zA, zB, zC, zD, zE, zF, reduceBEq, reduceCtorEq, zG, zH, zI, zJ, zK, dcells, okc, *]))
def x_TrimP (a : ByteArray × ByteArray) : List D := match a with | (s, p) => [.v (.string s), .v (.string p)]
theorem i_TrimP : ∀ a b, x_TrimP a = x_TrimP b → a = b := by
  rintro ⟨s, p⟩ ⟨s', p'⟩ h
  first | simpa [x_TrimP, INJ, and_assoc, Int.ofNat_inj] using h | (simp [x_TrimP, INJ, and_assoc, Int.ofNat_inj] at h; simp_all)
noncomputable def s_TrimP : List D → Option D := sOf x_TrimP fun a => match a with | (s, p) => some (.v (.string (trimP s p)))
theorem e_TrimP {s : ByteArray} {p : ByteArray} : s_TrimP [.v (.string s), .v (.string p)] = some (.v (.string (trimP s p))) := sOf_eq i_TrimP (s, p)
theorem R_TrimP {C : Ctx} {F : IFun} (hspec : ∀ N, maxLen + 10 < N → ∀ (s : ByteArray) (p : ByteArray), lenOK.lenOKs [.v (.string s), .v (.string p)] → runE C N F [.v (.string s), .v (.string p)] = some (.v (.string (trimP s p)))) : Runs C F s_TrimP := runs_of i_TrimP fun N hN a r hl hf => by
  obtain ⟨s, p⟩ := a
  simp only [Option.some.injEq] at hf
  subst hf
  exact hspec N hN s p hl
theorem r_TrimPrefixI (C : Ctx) (hT : C.T 193 = some s_HasP) : Runs C ir191 s_TrimP := R_TrimP fun N hN s p hl => by
  cases h : hasP s p
  · simp -dsimp only [runE, run_eq, ir191, hT, e_HasP, trimP, h, EVs, ↓EVd, ↓reduceIte, zA, zB, zC, zD, zE, zF, reduceBEq, reduceCtorEq, zG, zH, zI, zJ, zK, dcells, okc]
    repeat' ((first | with_reducible refine gb_split (fun _ => ?_) (fun _ => ?_) | with_reducible refine gb_splitr (fun _ => ?_) (fun _ => ?_)) <;> (try simp -dsimp only [runE, run_eq, ir191, hT, e_HasP, trimP, h, EVs, ↓EVd, ↓reduceIte, zA, zB, zC, zD, zE, zF, reduceBEq, reduceCtorEq, zG, zH, zI, zJ, zK, dcells, okc, *]))
  · have h2 : decide ((p.size : Int) ≤ s.size) = true := by simp only [hasP, Bool.and_eq_true] at h; exact h.1
    simp -dsimp only [runE, run_eq, ir191, hT, e_HasP, trimP, h, h2, EVs, ↓EVd, ↓reduceIte, zA, zB, zC, zD, zE, zF, reduceBEq, reduceCtorEq, zG, zH, zI, zJ, zK, dcells, okc]
    repeat' ((first | with_reducible refine gb_split (fun _ => ?_) (fun _ => ?_) | with_reducible refine gb_splitr (fun _ => ?_) (fun _ => ?_)) <;> (try simp -dsimp only [runE, run_eq, ir191, hT, e_HasP, trimP, h, h2, EVs, ↓EVd, ↓reduceIte, zA, zB, zC, zD, zE, zF, reduceBEq, reduceCtorEq, zG, zH, zI, zJ, zK, dcells, okc, *]))
theorem r_TrimPrefix (C : Ctx) (hT : C.T 191 = some s_TrimP) : Runs C ir186 s_TrimP := R_TrimP fun N hN s p hl => by
  simp -dsimp only [runE, run_eq, ir186, hT, e_TrimP, EVs, ↓EVd, ↓reduceIte, zA, zB, zC, zD, zE, zF, reduceBEq, reduceCtorEq, zG, zH, zI, zJ, zK, dcells, okc]
  repeat' ((first | with_reducible refine gb_split (fun _ => ?_) (fun _ => ?_) | with_reducible refine gb_splitr (fun _ => ?_) (fun _ => ?_)) <;> (try simp -dsimp only [runE, run_eq, ir186, hT, e_TrimP, EVs, ↓EVd, ↓reduceIte, zA, zB, zC, zD, zE, zF, reduceBEq, reduceCtorEq, zG, zH, zI, zJ, zK, dcells, okc, *]))
def rdot : ByteArray := ⟨[UInt8.ofNat 114, UInt8.ofNat 46].toArray⟩
def varOK (s : ByteArray) : Bool := nameOK (trimP s rdot)
def x_VarOK (a : ByteArray) : List D := match a with | s => [.v (.string s)]
theorem i_VarOK : ∀ a b, x_VarOK a = x_VarOK b → a = b := by
  rintro s s' h
  first | simpa [x_VarOK, INJ, and_assoc, Int.ofNat_inj] using h | (simp [x_VarOK, INJ, and_assoc, Int.ofNat_inj] at h; simp_all)
noncomputable def s_VarOK : List D → Option D := sOf x_VarOK fun a => match a with | s => some (.v (.bool (varOK s)))
theorem e_VarOK {s : ByteArray} : s_VarOK [.v (.string s)] = some (.v (.bool (varOK s))) := sOf_eq i_VarOK s
theorem R_VarOK {C : Ctx} {F : IFun} (hspec : ∀ N, maxLen + 10 < N → ∀ (s : ByteArray), lenOK.lenOKs [.v (.string s)] → runE C N F [.v (.string s)] = some (.v (.bool (varOK s)))) : Runs C F s_VarOK := runs_of i_VarOK fun N hN s r hl hf => by
  simp only [Option.some.injEq] at hf
  subst hf
  exact hspec N hN s hl
theorem r_variable (C : Ctx) (hT : C.T 186 = some s_TrimP) (hN : C.T 57 = some s_Name) : Runs C ir180 s_VarOK := R_VarOK fun N hN' s hl => by
  simp -dsimp only [runE, run_eq, ir180, hT, e_TrimP, hN, e_Name, varOK, rdot, EVs, ↓EVd, ↓reduceIte, zA, zB, zC, zD, zE, zF, reduceBEq, reduceCtorEq, zG, zH, zI, zJ, zK, dcells, okc]
  repeat' ((first | with_reducible refine gb_split (fun _ => ?_) (fun _ => ?_) | with_reducible refine gb_splitr (fun _ => ?_) (fun _ => ?_)) <;> (try simp -dsimp only [runE, run_eq, ir180, hT, e_TrimP, hN, e_Name, varOK, rdot, EVs, ↓EVd, ↓reduceIte, zA, zB, zC, zD, zE, zF, reduceBEq, reduceCtorEq, zG, zH, zI, zJ, zK, dcells, okc, *]))
def loadOK (w : Int) : Bool := decide (w = 8) || decide (w = 16) || decide (w = 32) || decide (w = 64)
def x_LoadOK (a : Int) : List D := match a with | w => [.v (.int .i64 w)]
theorem i_LoadOK : ∀ a b, x_LoadOK a = x_LoadOK b → a = b := by
  rintro w w' h
  first | simpa [x_LoadOK, INJ, and_assoc, Int.ofNat_inj] using h | (simp [x_LoadOK, INJ, and_assoc, Int.ofNat_inj] at h; simp_all)
noncomputable def s_LoadOK : List D → Option D := sOf x_LoadOK fun a => match a with | w => some (.v (.bool (loadOK w)))
theorem e_LoadOK {w : Int} : s_LoadOK [.v (.int .i64 w)] = some (.v (.bool (loadOK w))) := sOf_eq i_LoadOK w
theorem R_LoadOK {C : Ctx} {F : IFun} (hspec : ∀ N, maxLen + 10 < N → ∀ (w : Int), lenOK.lenOKs [.v (.int .i64 w)] → runE C N F [.v (.int .i64 w)] = some (.v (.bool (loadOK w)))) : Runs C F s_LoadOK := runs_of i_LoadOK fun N hN w r hl hf => by
  simp only [Option.some.injEq] at hf
  subst hf
  exact hspec N hN w hl
theorem r_loadable (C : Ctx) : Runs C ir189 s_LoadOK := R_LoadOK fun N hN w hl => by
  simp -dsimp only [runE, run_eq, ir189, loadOK, EVs, ↓EVd, ↓reduceIte, zA, zB, zC, zD, zE, zF, reduceBEq, reduceCtorEq, zG, zH, zI, zJ, zK, dcells, okc]
  repeat' ((first | with_reducible refine gb_split (fun _ => ?_) (fun _ => ?_) | with_reducible refine gb_splitr (fun _ => ?_) (fun _ => ?_)) <;> (try simp -dsimp only [runE, run_eq, ir189, loadOK, EVs, ↓EVd, ↓reduceIte, zA, zB, zC, zD, zE, zF, reduceBEq, reduceCtorEq, zG, zH, zI, zJ, zK, dcells, okc, *]))
end Go.Proofs.Dv
set_option linter.unusedVariables false
set_option linter.unusedSimpArgs false
set_option maxRecDepth 100000
namespace Go.Proofs.Dv
open Go.RowKit
open Nat renaming reduceEqDiff → zA, reduceAdd → zB, reduceSub → zC, reduceLeDiff → zD, reduceLT → zE, reduceMul → zF
open Int renaming reduceToNat → zG, reduceLE → zH, reduceLT → zI
open List renaming set_cons_zero → zJ, set_cons_succ → zK
def p2 (n : Nat) : Int := 2 ^ n
theorem p2_succ (n : Nat) : p2 (n + 1) = p2 n + p2 n := by unfold p2; rw [Int.pow_succ]; omega
theorem p2_pos (n : Nat) : 0 < p2 n := by unfold p2; exact Int.pow_pos (by omega)
theorem p2_mono {a b : Nat} (h : a ≤ b) : p2 a ≤ p2 b := by
  obtain ⟨k, rfl⟩ := Nat.exists_eq_add_of_le h
  induction k with
  | zero => simp
  | succ k ih => rw [show a + (k + 1) = a + k + 1 by omega, p2_succ]; have := ih (by omega); have := p2_pos (a + k); omega
theorem p2_62 : p2 62 = 4611686018427387904 := by decide
def bitI (x i : Int) : Int := ((x.toNat / 2 ^ i.toNat % 2 : Nat) : Int)
end Go.Proofs.Dv
set_option linter.unusedVariables false
set_option linter.unusedSimpArgs false
set_option maxRecDepth 100000
namespace Go.Proofs.Dv
open Go.RowKit
open Nat renaming reduceEqDiff → zA, reduceAdd → zB, reduceSub → zC, reduceLeDiff → zD, reduceLT → zE, reduceMul → zF
open Int renaming reduceToNat → zG, reduceLE → zH, reduceLT → zI
open List renaming set_cons_zero → zJ, set_cons_succ → zK
def fieldOf (ps : List Pc) : Int := ps.foldl (fun n p => IntKind.i64.wrap (n + p.len)) 0
def x_Fld (a : Opn) : List D := match a with | o => [.agg o.d]
theorem i_Fld : ∀ a b, x_Fld a = x_Fld b → a = b := by
  rintro o o' h
  first | simpa [x_Fld, INJ, and_assoc, Int.ofNat_inj] using h | (simp [x_Fld, INJ, and_assoc, Int.ofNat_inj] at h; simp_all)
noncomputable def s_Fld : List D → Option D := sOf x_Fld fun a => match a with | o => some (.v (.int .i64 (fieldOf o.pieces)))
theorem e_Fld {o : Opn} : s_Fld [.agg o.d] = some (.v (.int .i64 (fieldOf o.pieces))) := sOf_eq i_Fld o
theorem R_Fld {C : Ctx} {F : IFun} (hspec : ∀ N, maxLen + 10 < N → ∀ (o : Opn), lenOK.lenOKs [.agg o.d] → runE C N F [.agg o.d] = some (.v (.int .i64 (fieldOf o.pieces)))) : Runs C F s_Fld := runs_of i_Fld fun N hN o r hl hf => by
  simp only [Option.some.injEq] at hf
  subst hf
  exact hspec N hN o hl
theorem r_field (C : Ctx) : Runs C ir144 s_Fld := R_Fld fun N hN o hl => by
  have hl' : o.pieces.length ≤ maxLen := by simp only [Opn.d, EVl, List.length_map] at hl; exact hl.1.2.2.2.2.1.1
  simp -dsimp only [runE, ir144, run_eq, Opn.d, EVs, ↓EVd, ↓reduceIte, zA, zB, zC, zD, zE, zF, reduceBEq, reduceCtorEq, zG, zH, zI, zJ, zK, dcells, okc]
  generalize hI : iter _ _ _ _ = I
  revert I
  refine iter_all o.pieces (fun i n => ⟨[(2, .v (.int .i64 n)), (6, .lst false (o.pieces.map Pc.d)), (7, .v (.int .i64 o.pieces.length)), (8, .v (.int .i64 i))], [(0, .box o.d)], 1⟩) (fun n p => IntKind.i64.wrap (n + p.len)) (fun _ _ => True) 0 hl' hN ?_ trivial ?_ ?_
  · simp -dsimp only [Opn.d, EVs, ↓EVd, ↓reduceIte, zA, zB, zC, zD, zE, zF, reduceBEq, reduceCtorEq, zG, zH, zI, zJ, zK, dcells, okc]
  · intro i n p hi hw hp _
    refine ⟨?_, trivial⟩
    simp -dsimp only [lp144x0, hp, Pc.d, hi, hw, Opn.d, EVs, ↓EVd, ↓reduceIte, zA, zB, zC, zD, zE, zF, reduceBEq, reduceCtorEq, zG, zH, zI, zJ, zK, dcells, okc]
  · intro _
    simp -dsimp only [lp144x0, fieldOf, EVs, ↓EVd, ↓reduceIte, zA, zB, zC, zD, zE, zF, reduceBEq, reduceCtorEq, zG, zH, zI, zJ, zK, dcells, okc]
def zeroT (t : T) : Bool := decide (t.kind = 0) && decide (t.width = 0) && decide (t.bits = 0) && decide (t.name = ⟨[].toArray⟩) && decide (t.low = 0) && decide ((t.sub.length : Int) = 0)
def x_ZeroTs (a : (List T)) : List D := match a with | ts => [.lst true (ts.map T.d)]
theorem i_ZeroTs : ∀ a b, x_ZeroTs a = x_ZeroTs b → a = b := by
  rintro ts ts' h
  first | simpa [x_ZeroTs, INJ, and_assoc, Int.ofNat_inj] using h | (simp [x_ZeroTs, INJ, and_assoc, Int.ofNat_inj] at h; simp_all)
noncomputable def s_ZeroTs : List D → Option D := sOf x_ZeroTs fun a => match a with | ts => some (.v (.bool (ts.all zeroT)))
theorem e_ZeroTs {ts : List T} : s_ZeroTs [.lst true (ts.map T.d)] = some (.v (.bool (ts.all zeroT))) := sOf_eq i_ZeroTs ts
theorem R_ZeroTs {C : Ctx} {F : IFun} (hspec : ∀ N, maxLen + 10 < N → ∀ (ts : List T), lenOK.lenOKs [.lst true (ts.map T.d)] → runE C N F [.lst true (ts.map T.d)] = some (.v (.bool (ts.all zeroT)))) : Runs C F s_ZeroTs := runs_of i_ZeroTs fun N hN ts r hl hf => by
  simp only [Option.some.injEq] at hf
  subst hf
  exact hspec N hN ts hl
theorem scan_all {α : Type} (p : α → Bool) : ∀ (l : List α), scOK (scan (tst (fun (_ : Unit) x => p x) (fun a _ => a) (fun _ _ => ())) () l) = l.all p
  | [] => rfl
  | x :: l => by
    simp only [scan, tst, List.all_cons]
    cases p x
    · rfl
    · simp only [if_true, Bool.true_and]; exact scan_all p l
theorem all_out {α : Type} {p : α → Bool} {l : List α} {u : Unit} (h : scan (tst (fun (_ : Unit) x => p x) (fun a _ => a) (fun _ _ => ())) () l = .out u) : l.all p = false := by rw [← scan_all, h]; rfl
theorem all_go {α : Type} {p : α → Bool} {l : List α} {u : Unit} (h : scan (β := Unit) (tst (fun (_ : Unit) x => p x) (fun a _ => a) (fun _ _ => ())) () l = .go u) : l.all p = true := by rw [← scan_all, h]; rfl
theorem gt0 {n : Nat} : decide ((0 : Int) < n) = !decide ((n : Int) = 0) := by
  by_cases h : n = 0
  · subst h; rfl
  · rw [decide_eq_true (by omega), decide_eq_false (by omega)]; rfl
theorem r_none (C : Ctx) : Runs C ir150 s_ZeroTs := R_ZeroTs fun N hN ts hl => by
  have hl' : ts.length ≤ maxLen := by simp only [EVl, List.length_map] at hl; exact hl.1.1
  simp -dsimp only [runE, run_eq, ir150, EVs, ↓EVd, ↓reduceIte, zA, zB, zC, zD, zE, zF, reduceBEq, reduceCtorEq, zG, zH, zI, zJ, zK, dcells, okc]
  generalize hI : iter _ _ _ _ = I
  revert I
  refine iter_test ts (fun i _ => ⟨[(5, .lst true (ts.map T.d)), (6, .v (.int .i64 ts.length)), (7, .v (.int .i64 i))], [], 0⟩) (fun (_ : Unit) x => zeroT x) (fun a _ => a) (fun _ _ => ()) (fun _ _ => True) () hl' hN ?_ trivial ?_ ?_ ?_
  · simp -dsimp only [EVs, ↓EVd, ↓reduceIte, zA, zB, zC, zD, zE, zF, reduceBEq, reduceCtorEq, zG, zH, zI, zJ, zK, dcells, okc]
  · intro i _ t hi hw ht _
    refine ⟨?_, fun _ => trivial⟩
    simp -dsimp only [lp150x0, hi, hw, ht, T.d_eq, zeroT, gt0, EVs, ↓EVd, ↓reduceIte, zA, zB, zC, zD, zE, zF, reduceBEq, reduceCtorEq, zG, zH, zI, zJ, zK, dcells, okc]
    repeat' ((first | with_reducible refine gb_split (fun _ => ?_) (fun _ => ?_) | with_reducible refine gb_splitr (fun _ => ?_) (fun _ => ?_)) <;> (try simp -dsimp only [lp150x0, hi, hw, ht, T.d_eq, zeroT, gt0, EVs, ↓EVd, ↓reduceIte, zA, zB, zC, zD, zE, zF, reduceBEq, reduceCtorEq, zG, zH, zI, zJ, zK, dcells, okc, *]))
  · intro i _ t hi ht _ hs
    simp -dsimp only [lp150x0, hi, ht, T.d_eq, zeroT, gt0, all_out hs, EVs, ↓EVd, ↓reduceIte, zA, zB, zC, zD, zE, zF, reduceBEq, reduceCtorEq, zG, zH, zI, zJ, zK, dcells, okc]
    repeat' ((first | with_reducible refine gb_split (fun _ => ?_) (fun _ => ?_) | with_reducible refine gb_splitr (fun _ => ?_) (fun _ => ?_)) <;> (try simp -dsimp only [lp150x0, hi, ht, T.d_eq, zeroT, gt0, all_out hs, EVs, ↓EVd, ↓reduceIte, zA, zB, zC, zD, zE, zF, reduceBEq, reduceCtorEq, zG, zH, zI, zJ, zK, dcells, okc, *]))
  · intro _ _ hs
    simp -dsimp only [lp150x0, all_go hs, EVs, ↓EVd, ↓reduceIte, zA, zB, zC, zD, zE, zF, reduceBEq, reduceCtorEq, zG, zH, zI, zJ, zK, dcells, okc]
theorem e_None1 {t : T} : s_ZeroTs [.lst true [t.d]] = some (.v (.bool (zeroT t))) := (e_ZeroTs (ts := [t])).trans (by simp)
theorem e_None2 {t u : T} : s_ZeroTs [.lst true [t.d, u.d]] = some (.v (.bool (zeroT t && zeroT u))) := (e_ZeroTs (ts := [t, u])).trans (by simp)
def atI {α : Type} (l : List α) (i : Int) : Option α := if 0 ≤ i then l[i.toNat]? else none
theorem at_some {α : Type} {l : List α} {i : Int} {x : α} (h : atI l i = some x) : decide (0 ≤ i) = true ∧ l[i.toNat]? = some x := by
  unfold atI at h
  split at h
  · rename_i hi; exact ⟨decide_eq_true hi, h⟩
  · simp at h
def wideO (m : Mc) (o : Opn) : Option Int := if o.kind = 1 then (atI m.banks o.bank).bind fun b => (b.regs[0]?).bind fun r => (atI m.regs r).map (·.width) else some m.address
theorem wideO_some {m : Mc} {o : Opn} (hk : o.kind = 1) (h : (wideO m o).isSome = true) : ∃ b r g, atI m.banks o.bank = some b ∧ b.regs[0]? = some r ∧ atI m.regs r = some g ∧ wideO m o = some g.width := by
  unfold wideO at h ⊢
  rw [if_pos hk] at h ⊢
  cases h1 : atI m.banks o.bank with
  | none => rw [h1] at h; simp at h
  | some b =>
    rw [h1] at h
    simp only [Option.bind_some] at h ⊢
    cases h2 : b.regs[0]? with
    | none => rw [h2] at h; simp at h
    | some r =>
      rw [h2] at h
      simp only [Option.bind_some] at h ⊢
      cases h3 : atI m.regs r with
      | none => rw [h3] at h; simp at h
      | some g => exact ⟨b, r, g, rfl, h2, h3, rfl⟩
def x_WideO (a : Mc × Opn) : List D := match a with | (m, o) => [.agg m.d, .agg o.d]
theorem i_WideO : ∀ a b, x_WideO a = x_WideO b → a = b := by
  rintro ⟨m, o⟩ ⟨m', o'⟩ h
  first | simpa [x_WideO, INJ, and_assoc, Int.ofNat_inj] using h | (simp [x_WideO, INJ, and_assoc, Int.ofNat_inj] at h; simp_all)
open Classical in
noncomputable def s_WideO : List D → Option D := sOf x_WideO fun a => match a with | (m, o) => if ((wideO m o).isSome = true) then some (.v (.int .i64 ((wideO m o).getD 0))) else none
theorem e_WideO {m : Mc} {o : Opn} (hc : ((wideO m o).isSome = true)) : s_WideO [.agg m.d, .agg o.d] = some (.v (.int .i64 ((wideO m o).getD 0))) := (sOf_eq i_WideO (m, o)).trans (if_pos hc)
theorem R_WideO {C : Ctx} {F : IFun} (hspec : ∀ N, maxLen + 10 < N → ∀ (m : Mc) (o : Opn), lenOK.lenOKs [.agg m.d, .agg o.d] → ((wideO m o).isSome = true) → runE C N F [.agg m.d, .agg o.d] = some (.v (.int .i64 ((wideO m o).getD 0)))) : Runs C F (s_WideO) := runs_of i_WideO fun N hN a r hl hf => by
  obtain ⟨m, o⟩ := a
  simp only [Option.ite_none_right_eq_some, Option.some.injEq] at hf
  obtain ⟨hc, rfl⟩ := hf
  exact hspec N hN m o hl hc
theorem r_mwide (C : Ctx) : Runs C ir148 s_WideO := R_WideO fun N hN m o hl hc => by
  by_cases hk : o.kind = 1
  · obtain ⟨b, r, g, h1, h2, h3, h4⟩ := wideO_some hk hc
    have h1 := at_some h1
    have h3 := at_some h3
    simp -dsimp only [runE, run_eq, ir148, Mc.d, Opn.d, hk, h1.1, h1.2, Bk.d, h2, iD, h3.1, h3.2, Rg.d, h4, Option.getD_some, EVs, ↓EVd, ↓reduceIte, zA, zB, zC, zD, zE, zF, reduceBEq, reduceCtorEq, zG, zH, zI, zJ, zK, dcells, okc]
    repeat' ((first | with_reducible refine gb_split (fun _ => ?_) (fun _ => ?_) | with_reducible refine gb_splitr (fun _ => ?_) (fun _ => ?_)) <;> (try simp -dsimp only [runE, run_eq, ir148, Mc.d, Opn.d, hk, h1.1, h1.2, Bk.d, h2, iD, h3.1, h3.2, Rg.d, h4, Option.getD_some, EVs, ↓EVd, ↓reduceIte, zA, zB, zC, zD, zE, zF, reduceBEq, reduceCtorEq, zG, zH, zI, zJ, zK, dcells, okc, *]))
  · have h4 : wideO m o = some m.address := by unfold wideO; rw [if_neg hk]
    have hk' : decide (o.kind = 1) = false := decide_eq_false hk
    simp -dsimp only [runE, run_eq, ir148, Mc.d, Opn.d, hk', h4, Option.getD_some, EVs, ↓EVd, ↓reduceIte, zA, zB, zC, zD, zE, zF, reduceBEq, reduceCtorEq, zG, zH, zI, zJ, zK, dcells, okc]
    repeat' ((first | with_reducible refine gb_split (fun _ => ?_) (fun _ => ?_) | with_reducible refine gb_splitr (fun _ => ?_) (fun _ => ?_)) <;> (try simp -dsimp only [runE, run_eq, ir148, Mc.d, Opn.d, hk', h4, Option.getD_some, EVs, ↓EVd, ↓reduceIte, zA, zB, zC, zD, zE, zF, reduceBEq, reduceCtorEq, zG, zH, zI, zJ, zK, dcells, okc, *]))
theorem deq_comm {a b : Int} : decide (a = b) = decide (b = a) := decide_eq_decide.2 eq_comm
end Go.Proofs.Dv
set_option linter.unusedVariables false
set_option linter.unusedSimpArgs false
set_option maxRecDepth 100000
namespace Go.Proofs.Dv
open Go.RowKit
open Nat renaming reduceEqDiff → zA, reduceAdd → zB, reduceSub → zC, reduceLeDiff → zD, reduceLT → zE, reduceMul → zF
open Int renaming reduceToNat → zG, reduceLE → zH, reduceLT → zI
open List renaming set_cons_zero → zJ, set_cons_succ → zK
def tabR : List (List Nat × Int × Int) := [([], 0, 0), ([], 0, 0), ([], 0, 0), ([110, 111, 116], 1, 1), ([110, 101, 103], 1, 1), ([97, 100, 100], 2, 1), ([115, 117, 98], 2, 1), ([109, 117, 108], 2, 1), ([97, 110, 100], 2, 1), ([111, 114], 2, 1), ([120, 111, 114], 2, 1), ([115, 104, 108], 2, 1), ([115, 104, 114], 2, 1), ([115, 97, 114], 2, 1), ([117, 100, 105, 118], 2, 1), ([117, 114, 101, 109], 2, 1), ([101, 113], 2, 2), ([117, 108, 116], 2, 2), ([115, 108, 116], 2, 2), ([105, 116, 101], 3, 3), ([99, 111, 110, 99, 97, 116], 2, 4), ([101, 120, 116, 114, 97, 99, 116], 1, 5), ([122, 101, 120, 116], 1, 6), ([115, 101, 120, 116], 1, 6), ([108, 111, 97, 100], 1, 7)]
def rowD (r : List Nat × Int × Int) : List D := [.v (.string ⟨(r.1.map UInt8.ofNat).toArray⟩), .v (.int .i64 r.2.1), .v (.int .i64 r.2.2)]
def tabD : List D := (tabR.map rowD).flatten
def rowOf (k : Nat) : List Nat × Int × Int := (tabR[k]?).getD ([], 0, 0)
def wordOf (k : Nat) : ByteArray := ⟨((rowOf k).1.map UInt8.ofNat).toArray⟩
def partsOf (k : Nat) : Int := (rowOf k).2.1
def howOf (k : Nat) : Int := (rowOf k).2.2
theorem flat_drop {α : Type} {sz : Nat} : ∀ {es : List (List α)}, (∀ e ∈ es, e.length = sz) → ∀ i e, es[i]? = some e → es.flatten.drop (i * sz) = e ++ (es.drop (i + 1)).flatten
  | [], _, i, e, h => by simp at h
  | x :: es, hs, i, e, h => by
    cases i with
    | zero => simp at h; subst h; simp
    | succ i =>
      have hx := hs x List.mem_cons_self
      rw [List.flatten_cons, show (i + 1) * sz = x.length + i * sz by rw [Nat.add_mul, hx]; omega, List.drop_length_add_append]
      rw [flat_drop (fun e he => hs e (List.mem_cons_of_mem _ he)) i e (by simpa using h)]
      simp
theorem tab_at (k : Nat) (h : k ≤ 24) : ∃ rest, tabD.drop (k * 3) = .v (.string (wordOf k)) :: .v (.int .i64 (partsOf k)) :: .v (.int .i64 (howOf k)) :: rest := by
  have hl : k < tabR.length := by show k < 25; omega
  have hg : tabR[k]? = some (rowOf k) := by unfold rowOf; rw [List.getElem?_eq_getElem hl]; rfl
  have := flat_drop (sz := 3) (es := tabR.map rowD) (by intro e he; obtain ⟨r, _, rfl⟩ := List.mem_map.1 he; rfl) k (rowD (rowOf k)) (by rw [List.getElem?_map, hg]; rfl)
  exact ⟨_, this⟩
theorem row_gt {k : Nat} (h : 24 < k) : rowOf k = ([], 0, 0) := by
  unfold rowOf
  rw [List.getElem?_eq_none (by show 25 ≤ k; omega)]
  rfl
def x_Shaped (a : Int) : List D := match a with | k => [.v (.int .u8 k)]
theorem i_Shaped : ∀ a b, x_Shaped a = x_Shaped b → a = b := by
  rintro k k' h
  first | simpa [x_Shaped, INJ, and_assoc, Int.ofNat_inj] using h | (simp [x_Shaped, INJ, and_assoc, Int.ofNat_inj] at h; simp_all)
open Classical in
noncomputable def s_Shaped : List D → Option D := sOf x_Shaped fun a => match a with | k => if (0 ≤ k) then some (.tup [.agg [.v (.string (wordOf k.toNat)), .v (.int .i64 (partsOf k.toNat)), .v (.int .i64 (howOf k.toNat))], .v (.bool (decide (0 < partsOf k.toNat)))]) else none
theorem e_Shaped {k : Int} (hc : (0 ≤ k)) : s_Shaped [.v (.int .u8 k)] = some (.tup [.agg [.v (.string (wordOf k.toNat)), .v (.int .i64 (partsOf k.toNat)), .v (.int .i64 (howOf k.toNat))], .v (.bool (decide (0 < partsOf k.toNat)))]) := (sOf_eq i_Shaped k).trans (if_pos hc)
theorem R_Shaped {C : Ctx} {F : IFun} (hspec : ∀ N, maxLen + 10 < N → ∀ (k : Int), lenOK.lenOKs [.v (.int .u8 k)] → (0 ≤ k) → runE C N F [.v (.int .u8 k)] = some (.tup [.agg [.v (.string (wordOf k.toNat)), .v (.int .i64 (partsOf k.toNat)), .v (.int .i64 (howOf k.toNat))], .v (.bool (decide (0 < partsOf k.toNat)))])) : Runs C F (s_Shaped) := runs_of i_Shaped fun N hN k r hl hf => by
  simp only [Option.ite_none_right_eq_some, Option.some.injEq] at hf
  obtain ⟨hc, rfl⟩ := hf
  exact hspec N hN k hl hc
theorem r_shaped (C : Ctx) (hG : C.G 0 = some tabD) : Runs C ir179 s_Shaped := R_Shaped fun N hN k hl hc => by
  by_cases h : 24 < k
  · have h1 : decide (24 < k) = true := decide_eq_true h
    have h2 := row_gt (show 24 < k.toNat by omega)
    simp -dsimp only [runE, run_eq, ir179, h1, wordOf, partsOf, howOf, h2, layd, EVs, ↓EVd, ↓reduceIte, zA, zB, zC, zD, zE, zF, reduceBEq, reduceCtorEq, zG, zH, zI, zJ, zK, dcells, okc]
  · have h1 : decide (24 < k) = false := decide_eq_false h
    have h2 : decide (0 ≤ k) = true := decide_eq_true hc
    have h3 : decide (k < 25) = true := decide_eq_true (by omega)
    obtain ⟨rest, hr⟩ := tab_at k.toNat (by omega)
    simp -dsimp only [runE, run_eq, ir179, h1, hG, h2, h3, hr, EVs, ↓EVd, ↓reduceIte, zA, zB, zC, zD, zE, zF, reduceBEq, reduceCtorEq, zG, zH, zI, zJ, zK, dcells, okc]
structure Hk (nx : Nat) (hp : List (Nat × Blk)) : Prop where
  a : hplt nx hp = true
  b : hp.filter (fun p => decide (p.1 < nx)) = hp
theorem c_widths1 (C : Ctx) (N : Nat) (t : T) (w : Int) (id nx : Nat) (hp : List (Nat × Blk)) (hk : Hk nx hp) (hid : id < nx) (hl : lkh hp id = some (.box [.v (.int .i64 w)])) :
    gcr nx (run C N ir188 [.agg t.d, .ptr id 0] hp nx) = some (.v (.bool (!decide (t.width = w))), hp, nx) := by
  have h1 : (id = nx) = False := by simp; omega
  have ha := hk.a
  have hb := hk.b
  simp -dsimp only [run_eq, ir188, T.d_eq, hl, h1, ha, hb, EVs, ↓EVd, ↓reduceIte, zA, zB, zC, zD, zE, zF, reduceBEq, reduceCtorEq, zG, zH, zI, zJ, zK, dcells, okc]
theorem c_IndexFuncT (C : Ctx) (N : Nat) (hN : maxLen + 10 < N) (f : Nat) (w : Int) (hT : C.T f = none) (p : T → Bool)
    (ts : List T) (b : Bool) (id nx : Nat) (hp : List (Nat × Blk)) (hk : Hk nx hp) (hid : id < nx) (hcal : ∀ t, C.cal f [.agg t.d, .ptr id 0] hp nx = some (.v (.bool (p t)), hp, nx)) (hl' : ts.length ≤ maxLen) :
    ∃ k : Int, gcr nx (run C N ir192 [.lst b (ts.map T.d), .fn f [.ptr id 0]] hp nx) = some (.v (.int .i64 k), hp, nx) ∧ decide (0 ≤ k) = ts.any p := by
  have hs : ∀ (l : List T) (i : Nat), decide (0 ≤ (match scan (tst (fun _ y => !p y) (fun (i : Nat) _ => i + 1) (fun i _ => (i : Int))) i l with | .go _ => -1 | .out k => k)) = l.any p := by
    intro l
    induction l with
    | nil => intro i; rfl
    | cons y l ih =>
      intro i
      simp only [scan, tst, List.any_cons]
      cases hp : p y
      · simp only [Bool.not_false, if_true, Bool.false_or]; exact ih (i + 1)
      · simp
  refine ⟨_, ?_, hs ts 0⟩
  have ha := hk.a
  have hb := hk.b
  have h1 : decide (id < nx) = true := decide_eq_true hid
  simp -dsimp only [run_eq, ir192, EVs, ↓EVd, ↓reduceIte, zA, zB, zC, zD, zE, zF, reduceBEq, reduceCtorEq, zG, zH, zI, zJ, zK, dcells, okc]
  generalize hI : iter _ _ _ _ = I
  revert I
  refine iter_test ts (fun i _ => ⟨[(0, .lst b (ts.map T.d)), (1, .fn f [.ptr id 0]), (7, .v (.int .i64 ts.length)), (8, .v (.int .i64 i))], hp, nx⟩) (fun (_ : Nat) y => !p y) (fun i _ => i + 1) (fun i _ => (i : Int)) (fun i a => a = i) 0 hl' hN ?_ rfl ?_ ?_ ?_
  · simp -dsimp only [ha, hb, h1, EVs, ↓EVd, ↓reduceIte, zA, zB, zC, zD, zE, zF, reduceBEq, reduceCtorEq, zG, zH, zI, zJ, zK, dcells, okc]
  · rintro _ i y hi hw hy rfl
    refine ⟨?_, fun _ => rfl⟩
    have hc := hcal y
    have hlen := T.d_len y
    simp only [T.d_eq] at hc
    simp -dsimp only [lp192x0, hi, hw, hy, T.d_eq, hT, hc, ha, hb, h1, EVs, ↓EVd, ↓reduceIte, zA, zB, zC, zD, zE, zF, reduceBEq, reduceCtorEq, zG, zH, zI, zJ, zK, dcells, okc]
    repeat' ((first | with_reducible refine gb_split (fun _ => ?_) (fun _ => ?_) | with_reducible refine gb_splitr (fun _ => ?_) (fun _ => ?_)) <;> (try simp -dsimp only [lp192x0, hi, hw, hy, T.d_eq, hT, hc, ha, hb, h1, EVs, ↓EVd, ↓reduceIte, zA, zB, zC, zD, zE, zF, reduceBEq, reduceCtorEq, zG, zH, zI, zJ, zK, dcells, okc, *]))
  · rintro _ i y hi hy rfl hs
    have hc := hcal y
    simp only [T.d_eq] at hc
    simp -dsimp only [lp192x0, hi, hy, T.d_eq, hT, hc, hs, ha, hb, EVs, ↓EVd, ↓reduceIte, zA, zB, zC, zD, zE, zF, reduceBEq, reduceCtorEq, zG, zH, zI, zJ, zK, dcells, okc]
    repeat' ((first | with_reducible refine gb_split (fun _ => ?_) (fun _ => ?_) | with_reducible refine gb_splitr (fun _ => ?_) (fun _ => ?_)) <;> (try simp -dsimp only [lp192x0, hi, hy, T.d_eq, hT, hc, hs, ha, hb, EVs, ↓EVd, ↓reduceIte, zA, zB, zC, zD, zE, zF, reduceBEq, reduceCtorEq, zG, zH, zI, zJ, zK, dcells, okc, *]))
  · rintro _ rfl hs
    simp -dsimp only [lp192x0, hs, ha, hb, EVs, ↓EVd, ↓reduceIte, zA, zB, zC, zD, zE, zF, reduceBEq, reduceCtorEq, zG, zH, zI, zJ, zK, dcells, okc]
theorem c_ContainsFuncT (C : Ctx) (N : Nat) (hT : C.T 192 = none) (f : Nat) (p : Bool) (ts : List T) (b : Bool) (id nx : Nat) (hp : List (Nat × Blk)) (hk : Hk nx hp)
    (hcal : ∃ k : Int, C.cal 192 [.lst b (ts.map T.d), .fn f [.ptr id 0]] hp nx = some (.v (.int .i64 k), hp, nx) ∧ decide (0 ≤ k) = p) :
    gcr nx (run C N ir187 [.lst b (ts.map T.d), .fn f [.ptr id 0]] hp nx) = some (.v (.bool p), hp, nx) := by
  obtain ⟨k, h1, h2⟩ := hcal
  have ha := hk.a
  have hb := hk.b
  simp -dsimp only [run_eq, ir187, hT, h1, h2, ha, hb, EVs, ↓EVd, ↓reduceIte, zA, zB, zC, zD, zE, zF, reduceBEq, reduceCtorEq, zG, zH, zI, zJ, zK, dcells, okc]
def subW (t : T) (i : Nat) : Int := ((t.sub[i]?).map T.width).getD 0
def widthsOK (t : T) (h : Int) : Bool :=
  if h = 1 then t.sub.all (fun y => decide (y.width = t.width))
  else if h = 2 then decide (t.width = 1) && decide (subW t 1 = subW t 0)
  else if h = 3 then decide (subW t 0 = 1) && decide (subW t 1 = t.width) && decide (subW t 2 = t.width)
  else if h = 4 then inB (subW t 0) 1 64 && inB (subW t 1) 1 64 && decide (IntKind.i64.wrap (subW t 0 + subW t 1) = t.width)
  else if h = 5 then decide (0 ≤ t.low) && inB (subW t 0) 1 64 && decide (t.width ≤ subW t 0) && decide (t.low ≤ IntKind.i64.wrap (subW t 0 - t.width))
  else if h = 6 then decide (subW t 0 ≤ t.width) else loadOK t.width
def needs (h : Int) : Nat := if h = 2 then 2 else if h = 3 then 3 else if h = 4 then 2 else 1
def x_Widths (a : T × Int) : List D := match a with | (t, h) => [.agg t.d, .v (.int .i64 h)]
theorem i_Widths : ∀ a b, x_Widths a = x_Widths b → a = b := by
  rintro ⟨t, h⟩ ⟨t', h'⟩ h
  first | simpa [x_Widths, INJ, and_assoc, Int.ofNat_inj] using h | (simp [x_Widths, INJ, and_assoc, Int.ofNat_inj] at h; simp_all)
open Classical in
noncomputable def s_Widths : List D → Option D := sOf x_Widths fun a => match a with | (t, h) => if (1 ≤ h ∧ h ≤ 7 ∧ needs h ≤ t.sub.length) then some (.v (.bool (widthsOK t h))) else none
theorem e_Widths {t : T} {h : Int} (hc : (1 ≤ h ∧ h ≤ 7 ∧ needs h ≤ t.sub.length)) : s_Widths [.agg t.d, .v (.int .i64 h)] = some (.v (.bool (widthsOK t h))) := (sOf_eq i_Widths (t, h)).trans (if_pos hc)
theorem R_Widths {C : Ctx} {F : IFun} (hspec : ∀ N, maxLen + 10 < N → ∀ (t : T) (h : Int), lenOK.lenOKs [.agg t.d, .v (.int .i64 h)] → (1 ≤ h ∧ h ≤ 7 ∧ needs h ≤ t.sub.length) → runE C N F [.agg t.d, .v (.int .i64 h)] = some (.v (.bool (widthsOK t h)))) : Runs C F (s_Widths) := runs_of i_Widths fun N hN a r hl hf => by
  obtain ⟨t, h⟩ := a
  simp only [Option.ite_none_right_eq_some, Option.some.injEq] at hf
  obtain ⟨hc, rfl⟩ := hf
  exact hspec N hN t h hl hc
theorem sub_at {t : T} {i : Nat} (h : i < t.sub.length) : ∃ a, t.sub[i]? = some a ∧ subW t i = a.width := ⟨t.sub[i], List.getElem?_eq_getElem h, by simp [subW, List.getElem?_eq_getElem h]⟩
theorem r_widths (C : Ctx) (hT : C.T 187 = none) (hw : C.T 178 = some s_wide) (hL : C.T 189 = some s_LoadOK)
    (hcal : ∀ (w : Int) (ts : List T) (b : Bool) (id nx : Nat) (hp : List (Nat × Blk)), ts.length ≤ maxLen → Hk nx hp → id < nx → lkh hp id = some (.box [.v (.int .i64 w)]) →
      C.cal 187 [.lst b (ts.map T.d), .fn 188 [.ptr id 0]] hp nx = some (.v (.bool (ts.any fun y => !decide (y.width = w))), hp, nx)) : Runs C ir181 s_Widths := R_Widths fun N hN t h hl hc => by
  have hl' : t.sub.length ≤ maxLen := by simp only [T.d_eq, EVl, List.length_map] at hl; exact hl.1.2.2.2.2.2.1.1
  obtain ⟨a, ha, ha'⟩ := sub_at (t := t) (i := 0) (by have := hc.2.2; unfold needs at this; split at this; omega; split at this; omega; split at this <;> omega)
  have hh : h = 1 ∨ h = 2 ∨ h = 3 ∨ h = 4 ∨ h = 5 ∨ h = 6 ∨ h = 7 := by omega
  rcases hh with rfl | rfl | rfl | rfl | rfl | rfl | rfl
  · have h1 := hcal t.width t.sub false 1 2 [(1, .box [.v (.int .i64 t.width)]), (0, .box t.d)] hl' ⟨by simp -dsimp only [T.d_eq, EVs, ↓EVd, ↓reduceIte, zA, zB, zC, zD, zE, zF, reduceBEq, reduceCtorEq, zG, zH, zI, zJ, zK, dcells, okc], by simp -dsimp only [EVs, ↓EVd, ↓reduceIte, zA, zB, zC, zD, zE, zF, reduceBEq, reduceCtorEq, zG, zH, zI, zJ, zK, dcells, okc]⟩ (by omega) rfl
    have h2 : (!t.sub.any fun y => !decide (y.width = t.width)) = t.sub.all fun y => decide (y.width = t.width) := by
      rw [List.all_eq_not_any_not]
    simp only [T.d_eq] at h1
    simp -dsimp only [runE, run_eq, ir181, T.d_eq, ha, hT, h1, widthsOK, h2, EVs, ↓EVd, ↓reduceIte, zA, zB, zC, zD, zE, zF, reduceBEq, reduceCtorEq, zG, zH, zI, zJ, zK, dcells, okc]
    repeat' ((first | with_reducible refine gb_split (fun _ => ?_) (fun _ => ?_) | with_reducible refine gb_splitr (fun _ => ?_) (fun _ => ?_)) <;> (try simp -dsimp only [runE, run_eq, ir181, T.d_eq, ha, hT, h1, widthsOK, h2, EVs, ↓EVd, ↓reduceIte, zA, zB, zC, zD, zE, zF, reduceBEq, reduceCtorEq, zG, zH, zI, zJ, zK, dcells, okc, *]))
  · obtain ⟨b, hb, hb'⟩ := sub_at (t := t) (i := 1) (by have := hc.2.2; simp [needs] at this; omega)
    have hq : decide ((2 : Int) = 1) = false := rfl
    simp -dsimp only [runE, run_eq, ir181, T.d_eq, ha, hb, widthsOK, ha', hb', hq, Int.reduceEq, EVs, ↓EVd, ↓reduceIte, zA, zB, zC, zD, zE, zF, reduceBEq, reduceCtorEq, zG, zH, zI, zJ, zK, dcells, okc]
    repeat' ((first | with_reducible refine gb_split (fun _ => ?_) (fun _ => ?_) | with_reducible refine gb_splitr (fun _ => ?_) (fun _ => ?_)) <;> (try simp -dsimp only [runE, run_eq, ir181, T.d_eq, ha, hb, widthsOK, ha', hb', hq, Int.reduceEq, EVs, ↓EVd, ↓reduceIte, zA, zB, zC, zD, zE, zF, reduceBEq, reduceCtorEq, zG, zH, zI, zJ, zK, dcells, okc, *]))
  · obtain ⟨b, hb, hb'⟩ := sub_at (t := t) (i := 1) (by have := hc.2.2; simp [needs] at this; omega)
    obtain ⟨c, hc1, hc'⟩ := sub_at (t := t) (i := 2) (by have := hc.2.2; simp [needs] at this; omega)
    simp -dsimp only [runE, run_eq, ir181, T.d_eq, ha, hb, hc1, widthsOK, ha', hb', hc', Int.reduceEq, EVs, ↓EVd, ↓reduceIte, zA, zB, zC, zD, zE, zF, reduceBEq, reduceCtorEq, zG, zH, zI, zJ, zK, dcells, okc]
    repeat' ((first | with_reducible refine gb_split (fun _ => ?_) (fun _ => ?_) | with_reducible refine gb_splitr (fun _ => ?_) (fun _ => ?_)) <;> (try simp -dsimp only [runE, run_eq, ir181, T.d_eq, ha, hb, hc1, widthsOK, ha', hb', hc', Int.reduceEq, EVs, ↓EVd, ↓reduceIte, zA, zB, zC, zD, zE, zF, reduceBEq, reduceCtorEq, zG, zH, zI, zJ, zK, dcells, okc, *]))
  · obtain ⟨b, hb, hb'⟩ := sub_at (t := t) (i := 1) (by have := hc.2.2; simp [needs] at this; omega)
    simp -dsimp only [runE, run_eq, ir181, T.d_eq, ha, hb, hw, e_wide, widthsOK, ha', hb', Int.reduceEq, EVs, ↓EVd, ↓reduceIte, zA, zB, zC, zD, zE, zF, reduceBEq, reduceCtorEq, zG, zH, zI, zJ, zK, dcells, okc]
    repeat' ((first | with_reducible refine gb_split (fun _ => ?_) (fun _ => ?_) | with_reducible refine gb_splitr (fun _ => ?_) (fun _ => ?_)) <;> (try simp -dsimp only [runE, run_eq, ir181, T.d_eq, ha, hb, hw, e_wide, widthsOK, ha', hb', Int.reduceEq, EVs, ↓EVd, ↓reduceIte, zA, zB, zC, zD, zE, zF, reduceBEq, reduceCtorEq, zG, zH, zI, zJ, zK, dcells, okc, *]))
  · simp -dsimp only [runE, run_eq, ir181, T.d_eq, ha, hw, e_wide, widthsOK, ha', Int.reduceEq, EVs, ↓EVd, ↓reduceIte, zA, zB, zC, zD, zE, zF, reduceBEq, reduceCtorEq, zG, zH, zI, zJ, zK, dcells, okc]
    repeat' ((first | with_reducible refine gb_split (fun _ => ?_) (fun _ => ?_) | with_reducible refine gb_splitr (fun _ => ?_) (fun _ => ?_)) <;> (try simp -dsimp only [runE, run_eq, ir181, T.d_eq, ha, hw, e_wide, widthsOK, ha', Int.reduceEq, EVs, ↓EVd, ↓reduceIte, zA, zB, zC, zD, zE, zF, reduceBEq, reduceCtorEq, zG, zH, zI, zJ, zK, dcells, okc, *]))
  · simp -dsimp only [runE, run_eq, ir181, T.d_eq, ha, widthsOK, ha', Int.reduceEq, EVs, ↓EVd, ↓reduceIte, zA, zB, zC, zD, zE, zF, reduceBEq, reduceCtorEq, zG, zH, zI, zJ, zK, dcells, okc]
    repeat' ((first | with_reducible refine gb_split (fun _ => ?_) (fun _ => ?_) | with_reducible refine gb_splitr (fun _ => ?_) (fun _ => ?_)) <;> (try simp -dsimp only [runE, run_eq, ir181, T.d_eq, ha, widthsOK, ha', Int.reduceEq, EVs, ↓EVd, ↓reduceIte, zA, zB, zC, zD, zE, zF, reduceBEq, reduceCtorEq, zG, zH, zI, zJ, zK, dcells, okc, *]))
  · simp -dsimp only [runE, run_eq, ir181, T.d_eq, ha, widthsOK, hL, e_LoadOK, Int.reduceEq, EVs, ↓EVd, ↓reduceIte, zA, zB, zC, zD, zE, zF, reduceBEq, reduceCtorEq, zG, zH, zI, zJ, zK, dcells, okc]
    repeat' ((first | with_reducible refine gb_split (fun _ => ?_) (fun _ => ?_) | with_reducible refine gb_splitr (fun _ => ?_) (fun _ => ?_)) <;> (try simp -dsimp only [runE, run_eq, ir181, T.d_eq, ha, widthsOK, hL, e_LoadOK, Int.reduceEq, EVs, ↓EVd, ↓reduceIte, zA, zB, zC, zD, zE, zF, reduceBEq, reduceCtorEq, zG, zH, zI, zJ, zK, dcells, okc, *]))
end Go.Proofs.Dv
set_option linter.unusedVariables false
set_option linter.unusedSimpArgs false
set_option maxRecDepth 100000
namespace Go.Proofs.Dv
open Go.RowKit
open Nat renaming reduceEqDiff → zA, reduceAdd → zB, reduceSub → zC, reduceLeDiff → zD, reduceLT → zE, reduceMul → zF
open Int renaming reduceToNat → zG, reduceLE → zH, reduceLT → zI
open List renaming set_cons_zero → zJ, set_cons_succ → zK
mutual
def T.depth : T → Nat
  | .mk _ _ _ _ _ s => T.depths s + 1
def T.depths : List T → Nat
  | [] => 0
  | t :: ts => max (T.depth t) (T.depths ts)
end
mutual
def T.size : T → Nat
  | .mk _ _ _ _ _ s => T.sizes s + 1
def T.sizes : List T → Nat
  | [] => 0
  | t :: ts => T.size t + T.sizes ts
end
theorem T.depth_eq (t : T) : t.depth = T.depths t.sub + 1 := by cases t; rw [T.depth]; rfl
theorem T.size_eq (t : T) : t.size = T.sizes t.sub + 1 := by cases t; rw [T.size]; rfl
theorem depths_mem {u : T} : ∀ {s : List T}, u ∈ s → u.depth ≤ T.depths s
  | t :: ts, h => by
    rw [T.depths]
    rcases List.mem_cons.1 h with rfl | h
    · exact Nat.le_max_left _ _
    · exact Nat.le_trans (depths_mem h) (Nat.le_max_right _ _)
theorem sizes_mem {u : T} : ∀ {s : List T}, u ∈ s → u.size ≤ T.sizes s
  | t :: ts, h => by
    rw [T.sizes]
    rcases List.mem_cons.1 h with rfl | h
    · exact Nat.le_add_right _ _
    · exact Nat.le_trans (sizes_mem h) (Nat.le_add_left _ _)
theorem T.depth_pos (t : T) : 1 ≤ t.depth := by rw [T.depth_eq]; omega
theorem sub_depth {t u : T} {n : Nat} (h : u ∈ t.sub) (hd : t.depth ≤ n + 1) : u.depth ≤ n := by have := depths_mem h; rw [T.depth_eq] at hd; omega
theorem fold_depths : ∀ (s : List T) (a : Nat), s.foldl (fun (d : Int) u => max d (u.depth : Int)) (a : Int) = ((max a (T.depths s) : Nat) : Int)
  | [], a => by simp [T.depths]
  | t :: ts, a => by
    rw [List.foldl_cons, show max (a : Int) (t.depth : Int) = ((max a t.depth : Nat) : Int) by omega, fold_depths ts]
    rw [T.depths]
    congr 1; omega
theorem fold_sizes : ∀ (s : List T) (a : Nat), a + T.sizes s ≤ maxLen → s.foldl (fun (d : Int) u => IntKind.i64.wrap (d + (u.size : Int))) (a : Int) = ((a + T.sizes s : Nat) : Int)
  | [], a, _ => by simp [T.sizes]
  | t :: ts, a, h => by
    rw [T.sizes] at h ⊢
    rw [List.foldl_cons, show IntKind.i64.wrap ((a : Int) + (t.size : Int)) = ((a + t.size : Nat) : Int) by rw [wr] <;> simp only [maxLen] at h <;> omega, fold_sizes ts _ (by omega)]
    congr 1; omega
def x_Dep (a : T) : List D := match a with | t => [.agg t.d]
theorem i_Dep : ∀ a b, x_Dep a = x_Dep b → a = b := by
  rintro t t' h
  first | simpa [x_Dep, INJ, and_assoc, Int.ofNat_inj] using h | (simp [x_Dep, INJ, and_assoc, Int.ofNat_inj] at h; simp_all)
open Classical in
noncomputable def s_Dep (n : Nat) : List D → Option D := sOf x_Dep fun a => match a with | t => if (t.depth ≤ n ∧ n ≤ 1000) then some (.v (.int .i64 t.depth)) else none
theorem e_Dep {n : Nat} {t : T} (hc : (t.depth ≤ n ∧ n ≤ 1000)) : s_Dep n [.agg t.d] = some (.v (.int .i64 t.depth)) := (sOf_eq i_Dep t).trans (if_pos hc)
theorem R_Dep {n : Nat} {C : Ctx} {F : IFun} (hspec : ∀ N, maxLen + 10 < N → ∀ (t : T), lenOK.lenOKs [.agg t.d] → (t.depth ≤ n ∧ n ≤ 1000) → runE C N F [.agg t.d] = some (.v (.int .i64 t.depth))) : Runs C F (s_Dep n) := runs_of i_Dep fun N hN t r hl hf => by
  simp only [Option.ite_none_right_eq_some, Option.some.injEq] at hf
  obtain ⟨hc, rfl⟩ := hf
  exact hspec N hN t hl hc
theorem r_Depth (C : Ctx) (n : Nat) (hT : C.T 168 = some (s_Dep n)) : Runs C ir168 (s_Dep (n + 1)) := R_Dep fun N hN t hl hc => by
  have hl' : t.sub.length ≤ maxLen := by simp only [T.d_eq, EVl, List.length_map] at hl; exact hl.1.2.2.2.2.2.1.1
  simp -dsimp only [runE, run_eq, ir168, T.d_eq, EVs, ↓EVd, ↓reduceIte, zA, zB, zC, zD, zE, zF, reduceBEq, reduceCtorEq, zG, zH, zI, zJ, zK, dcells, okc]
  generalize hI : iter _ _ _ _ = I
  revert I
  refine iter_all t.sub (fun i d => ⟨[(3, .v (.int .i64 d)), (7, .lst false (t.sub.map T.d)), (8, .v (.int .i64 t.sub.length)), (9, .v (.int .i64 i))], [(0, .box t.d)], 1⟩) (fun d u => max d (u.depth : Int)) (fun _ _ => True) 0 hl' hN ?_ trivial ?_ ?_
  · simp -dsimp only [T.d_eq, EVs, ↓EVd, ↓reduceIte, zA, zB, zC, zD, zE, zF, reduceBEq, reduceCtorEq, zG, zH, zI, zJ, zK, dcells, okc]
  · intro i d u hi hw hu _
    have e1 := @e_Dep n u ⟨sub_depth (List.mem_of_getElem? hu) hc.1, by omega⟩
    simp only [T.d_eq u] at e1
    refine ⟨?_, trivial⟩
    simp -dsimp only [lp168x0, hu, hi, hw, T.d_eq, hT, e1, EVs, ↓EVd, ↓reduceIte, zA, zB, zC, zD, zE, zF, reduceBEq, reduceCtorEq, zG, zH, zI, zJ, zK, dcells, okc]
  · intro _
    have hf := fold_depths t.sub 0
    have h2 : IntKind.i64.wrap (((max 0 (T.depths t.sub) : Nat) : Int) + 1) = (t.depth : Int) := by
      have := t.depth_eq
      rw [wr] <;> omega
    simp only [natc0] at hf
    rw [hf]
    simp -dsimp only [lp168x0, T.d_eq, h2, EVs, ↓EVd, ↓reduceIte, zA, zB, zC, zD, zE, zF, reduceBEq, reduceCtorEq, zG, zH, zI, zJ, zK, dcells, okc]
def x_Siz (a : T) : List D := match a with | t => [.agg t.d]
theorem i_Siz : ∀ a b, x_Siz a = x_Siz b → a = b := by
  rintro t t' h
  first | simpa [x_Siz, INJ, and_assoc, Int.ofNat_inj] using h | (simp [x_Siz, INJ, and_assoc, Int.ofNat_inj] at h; simp_all)
open Classical in
noncomputable def s_Siz (n : Nat) : List D → Option D := sOf x_Siz fun a => match a with | t => if (t.depth ≤ n ∧ t.size ≤ 1000000) then some (.v (.int .i64 t.size)) else none
theorem e_Siz {n : Nat} {t : T} (hc : (t.depth ≤ n ∧ t.size ≤ 1000000)) : s_Siz n [.agg t.d] = some (.v (.int .i64 t.size)) := (sOf_eq i_Siz t).trans (if_pos hc)
theorem R_Siz {n : Nat} {C : Ctx} {F : IFun} (hspec : ∀ N, maxLen + 10 < N → ∀ (t : T), lenOK.lenOKs [.agg t.d] → (t.depth ≤ n ∧ t.size ≤ 1000000) → runE C N F [.agg t.d] = some (.v (.int .i64 t.size))) : Runs C F (s_Siz n) := runs_of i_Siz fun N hN t r hl hf => by
  simp only [Option.ite_none_right_eq_some, Option.some.injEq] at hf
  obtain ⟨hc, rfl⟩ := hf
  exact hspec N hN t hl hc
theorem r_Size02 (C : Ctx) (n : Nat) (hT : C.T 104 = some (s_Siz n)) : Runs C ir104 (s_Siz (n + 1)) := R_Siz fun N hN t hl hc => by
  have hl' : t.sub.length ≤ maxLen := by simp only [T.d_eq, EVl, List.length_map] at hl; exact hl.1.2.2.2.2.2.1.1
  simp -dsimp only [runE, run_eq, ir104, T.d_eq, EVs, ↓EVd, ↓reduceIte, zA, zB, zC, zD, zE, zF, reduceBEq, reduceCtorEq, zG, zH, zI, zJ, zK, dcells, okc]
  generalize hI : iter _ _ _ _ = I
  revert I
  refine iter_all t.sub (fun i d => ⟨[(1, .ptr 0 0), (3, .v (.int .i64 d)), (4, .v (.int .i64 i))], [(0, .box t.d)], 1⟩) (fun d u => IntKind.i64.wrap (d + (u.size : Int))) (fun _ _ => True) 1 hl' hN ?_ trivial ?_ ?_
  · simp -dsimp only [T.d_eq, EVs, ↓EVd, ↓reduceIte, zA, zB, zC, zD, zE, zF, reduceBEq, reduceCtorEq, zG, zH, zI, zJ, zK, dcells, okc]
  · intro i d u hi hw hu _
    have hm := List.mem_of_getElem? hu
    have e1 := @e_Siz n u ⟨sub_depth hm hc.1, by have := sizes_mem hm; have := t.size_eq; omega⟩
    simp only [T.d_eq u] at e1
    refine ⟨?_, trivial⟩
    simp -dsimp only [lp104x0, hu, hi, hw, T.d_eq, hT, e1, EVs, ↓EVd, ↓reduceIte, zA, zB, zC, zD, zE, zF, reduceBEq, reduceCtorEq, zG, zH, zI, zJ, zK, dcells, okc]
  · intro _
    have := t.size_eq
    have := maxLen_ge
    have hf := fold_sizes t.sub 1 (by omega)
    have h2 : ((1 + T.sizes t.sub : Nat) : Int) = (t.size : Int) := by omega
    simp only [natc] at hf
    rw [hf, h2]
    simp -dsimp only [lp104x0, T.d_eq, EVs, ↓EVd, ↓reduceIte, zA, zB, zC, zD, zE, zF, reduceBEq, reduceCtorEq, zG, zH, zI, zJ, zK, dcells, okc]
end Go.Proofs.Dv
set_option linter.unusedVariables false
set_option linter.unusedSimpArgs false
set_option maxRecDepth 100000
namespace Go.Proofs.Dv
open Go.RowKit
open Nat renaming reduceEqDiff → zA, reduceAdd → zB, reduceSub → zC, reduceLeDiff → zD, reduceLT → zE, reduceMul → zF
open Int renaming reduceToNat → zG, reduceLE → zH, reduceLT → zI
open List renaming set_cons_zero → zJ, set_cons_succ → zK
def formedN (t : T) : Bool :=
  bif !inB t.width 1 64 then false else
  bif decide (t.kind = 1) then decide ((t.sub.length : Int) = 0) && decide (t.name = ⟨[].toArray⟩) && decide (t.low = 0) && okI t.width t.bits else
  bif decide (t.kind = 2) then decide ((t.sub.length : Int) = 0) && decide (t.bits = 0) && decide (t.low = 0) && varOK t.name else
  bif decide (t.kind < 3) || decide (24 < t.kind) || !decide (t.bits = 0) || !decide (t.name = ⟨[].toArray⟩) || (!decide (t.low = 0) && !decide (t.kind = 21)) || decide ((t.sub.length : Int) = 0) then false else
  bif decide (t.kind = 3) || decide (t.kind = 4) then decide ((t.sub.length : Int) = 1) && decide (subW t 0 = t.width) else
  bif decide (t.kind = 16) || decide (t.kind = 17) || decide (t.kind = 18) then decide ((t.sub.length : Int) = 2) && decide (t.width = 1) && decide (subW t 1 = subW t 0) else
  bif decide (t.kind = 19) then decide ((t.sub.length : Int) = 3) && decide (subW t 0 = 1) && decide (subW t 1 = t.width) && decide (subW t 2 = t.width) else
  bif decide (t.kind = 20) then decide ((t.sub.length : Int) = 2) && decide (IntKind.i64.wrap (subW t 0 + subW t 1) = t.width) else
  bif decide (t.kind = 21) then decide ((t.sub.length : Int) = 1) && decide (0 ≤ t.low) && decide (t.low ≤ subW t 0) && decide (IntKind.i64.wrap (t.low + t.width) ≤ subW t 0) else
  bif decide (t.kind = 22) || decide (t.kind = 23) then decide ((t.sub.length : Int) = 1) && decide (subW t 0 ≤ t.width) else
  bif decide (t.kind = 24) then decide ((t.sub.length : Int) = 1) && loadOK t.width else
  decide ((t.sub.length : Int) = 2) && decide (subW t 0 = t.width) && decide (subW t 1 = t.width)
mutual
def T.formed : T → Bool
  | .mk k w b n l s => T.formeds s && formedN (.mk k w b n l s)
def T.formeds : List T → Bool
  | [] => true
  | t :: ts => T.formed t && T.formeds ts
end
theorem T.formeds_all (s : List T) : T.formeds s = s.all T.formed := by
  induction s with
  | nil => rw [T.formeds]; rfl
  | cons t ts ih => rw [T.formeds, ih]; rfl
theorem T.formed_eq (t : T) : t.formed = (t.sub.all T.formed && formedN t) := by cases t; rw [T.formed, T.formeds_all]; rfl
mutual
def T.wf : T → Prop
  | .mk _ _ b _ _ s => (0 ≤ b ∧ b < 18446744073709551616) ∧ T.wfs s
def T.wfs : List T → Prop
  | [] => True
  | t :: ts => T.wf t ∧ T.wfs ts
end
theorem len5 {α : Type} (l : List α) : l = [] ∨ (∃ a, l = [a]) ∨ (∃ a b, l = [a, b]) ∨ (∃ a b c, l = [a, b, c]) ∨ (∃ a b c d r, l = a :: b :: c :: d :: r) := by
  rcases l with _ | ⟨a, _ | ⟨b, _ | ⟨c, _ | ⟨d, r⟩⟩⟩⟩
  · exact .inl rfl
  · exact .inr (.inl ⟨_, rfl⟩)
  · exact .inr (.inr (.inl ⟨_, _, rfl⟩))
  · exact .inr (.inr (.inr (.inl ⟨_, _, _, rfl⟩)))
  · exact .inr (.inr (.inr (.inr ⟨_, _, _, _, _, rfl⟩)))
end Go.Proofs.Dv
set_option linter.unusedVariables false
set_option linter.unusedSimpArgs false
set_option maxRecDepth 100000
namespace Go.Proofs.Dv
open Go.RowKit
open Nat renaming reduceEqDiff → zA, reduceAdd → zB, reduceSub → zC, reduceLeDiff → zD, reduceLT → zE, reduceMul → zF
open Int renaming reduceToNat → zG, reduceLE → zH, reduceLT → zI
open List renaming set_cons_zero → zJ, set_cons_succ → zK
def nodeOK (t : T) : Bool :=
  bif !inB t.width 1 64 then false else
  bif !decide (0 < partsOf t.kind.toNat) then (decide ((t.sub.length : Int) = 0) && decide (t.low = 0)) && ((decide (t.kind = 1) && decide (t.name = ⟨[].toArray⟩) && okI t.width t.bits) || (decide (t.kind = 2) && decide (t.bits = 0) && varOK t.name)) else
  decide (t.bits = 0) && decide (t.name = ⟨[].toArray⟩) && (decide (t.low = 0) || decide (howOf t.kind.toNat = 5)) && decide ((t.sub.length : Int) = partsOf t.kind.toNat) && widthsOK t (howOf t.kind.toNat)
theorem tab_needs (k : Nat) (h : 0 < partsOf k) : 1 ≤ howOf k ∧ howOf k ≤ 7 ∧ (needs (howOf k) : Int) ≤ partsOf k := by
  by_cases hk : k ≤ 24
  · have : ∀ k : Fin 25, 0 < partsOf k.val → 1 ≤ howOf k.val ∧ howOf k.val ≤ 7 ∧ (needs (howOf k.val) : Int) ≤ partsOf k.val := by decide
    exact this ⟨k, by omega⟩ h
  · simp [partsOf, row_gt (show 24 < k by omega)] at h
def x_NodeOK (a : T) : List D := match a with | t => [.agg t.d]
theorem i_NodeOK : ∀ a b, x_NodeOK a = x_NodeOK b → a = b := by
  rintro t t' h
  first | simpa [x_NodeOK, INJ, and_assoc, Int.ofNat_inj] using h | (simp [x_NodeOK, INJ, and_assoc, Int.ofNat_inj] at h; simp_all)
open Classical in
noncomputable def s_NodeOK : List D → Option D := sOf x_NodeOK fun a => match a with | t => if (0 ≤ t.kind) then some (.v (.bool (nodeOK t))) else none
theorem e_NodeOK {t : T} (hc : (0 ≤ t.kind)) : s_NodeOK [.agg t.d] = some (.v (.bool (nodeOK t))) := (sOf_eq i_NodeOK t).trans (if_pos hc)
theorem R_NodeOK {C : Ctx} {F : IFun} (hspec : ∀ N, maxLen + 10 < N → ∀ (t : T), lenOK.lenOKs [.agg t.d] → (0 ≤ t.kind) → runE C N F [.agg t.d] = some (.v (.bool (nodeOK t)))) : Runs C F (s_NodeOK) := runs_of i_NodeOK fun N hN t r hl hf => by
  simp only [Option.ite_none_right_eq_some, Option.some.injEq] at hf
  obtain ⟨hc, rfl⟩ := hf
  exact hspec N hN t hl hc
set_option maxHeartbeats 4000000 in
theorem r_node (C : Ctx) (hw : C.T 178 = some s_wide) (hS : C.T 179 = some s_Shaped) (hO : C.T 92 = some s_Ok) (hV : C.T 180 = some s_VarOK) (hW : C.T 181 = some s_Widths) : Runs C ir170 s_NodeOK := R_NodeOK fun N hN t hl hc => by
  have eS := @e_Shaped t.kind hc
  have hd := T.d_eq t
  by_cases h1 : 0 < partsOf t.kind.toNat
  · have h1' : decide (0 < partsOf t.kind.toNat) = true := decide_eq_true h1
    have hn := tab_needs _ h1
    by_cases h2 : (t.sub.length : Int) = partsOf t.kind.toNat
    · have h2' : decide ((t.sub.length : Int) = partsOf t.kind.toNat) = true := decide_eq_true h2
      have eW := @e_Widths t (howOf t.kind.toNat) ⟨hn.1, hn.2.1, by omega⟩
      simp only [T.d_eq] at eW
      simp -dsimp only [runE, run_eq, ir170, T.d_eq, hw, e_wide, hS, eS, hW, eW, h1', h2', nodeOK, EVs, ↓EVd, ↓reduceIte, zA, zB, zC, zD, zE, zF, reduceBEq, reduceCtorEq, zG, zH, zI, zJ, zK, dcells, okc]
      repeat' ((first | with_reducible refine gb_split (fun _ => ?_) (fun _ => ?_) | with_reducible refine gb_splitr (fun _ => ?_) (fun _ => ?_)) <;> (try simp -dsimp only [runE, run_eq, ir170, T.d_eq, hw, e_wide, hS, eS, hW, eW, h1', h2', nodeOK, EVs, ↓EVd, ↓reduceIte, zA, zB, zC, zD, zE, zF, reduceBEq, reduceCtorEq, zG, zH, zI, zJ, zK, dcells, okc, *]))
    · have h2' : decide ((t.sub.length : Int) = partsOf t.kind.toNat) = false := decide_eq_false h2
      simp -dsimp only [runE, run_eq, ir170, T.d_eq, hw, e_wide, hS, eS, h1', h2', nodeOK, EVs, ↓EVd, ↓reduceIte, zA, zB, zC, zD, zE, zF, reduceBEq, reduceCtorEq, zG, zH, zI, zJ, zK, dcells, okc]
      repeat' ((first | with_reducible refine gb_split (fun _ => ?_) (fun _ => ?_) | with_reducible refine gb_splitr (fun _ => ?_) (fun _ => ?_)) <;> (try simp -dsimp only [runE, run_eq, ir170, T.d_eq, hw, e_wide, hS, eS, h1', h2', nodeOK, EVs, ↓EVd, ↓reduceIte, zA, zB, zC, zD, zE, zF, reduceBEq, reduceCtorEq, zG, zH, zI, zJ, zK, dcells, okc, *]))
  · have h1' : decide (0 < partsOf t.kind.toNat) = false := decide_eq_false h1
    simp -dsimp only [runE, run_eq, ir170, T.d_eq, hw, e_wide, hS, eS, hO, e_Ok, hV, e_VarOK, h1', nodeOK, EVs, ↓EVd, ↓reduceIte, zA, zB, zC, zD, zE, zF, reduceBEq, reduceCtorEq, zG, zH, zI, zJ, zK, dcells, okc]
    repeat' ((first | with_reducible refine gb_split (fun _ => ?_) (fun _ => ?_) | with_reducible refine gb_splitr (fun _ => ?_) (fun _ => ?_)) <;> (try simp -dsimp only [runE, run_eq, ir170, T.d_eq, hw, e_wide, hS, eS, hO, e_Ok, hV, e_VarOK, h1', nodeOK, EVs, ↓EVd, ↓reduceIte, zA, zB, zC, zD, zE, zF, reduceBEq, reduceCtorEq, zG, zH, zI, zJ, zK, dcells, okc, *]))
mutual
def T.vars : T → List Bn
  | .mk k w _ n _ s => (if k = 2 then [⟨n, w, 0⟩] else []) ++ T.varss s
def T.varss : List T → List Bn
  | [] => []
  | t :: ts => T.vars t ++ T.varss ts
end
theorem T.vars_eq (t : T) : t.vars = (if t.kind = 2 then [⟨t.name, t.width, 0⟩] else []) ++ T.varss t.sub := by cases t; rw [T.vars]; rfl
end Go.Proofs.Dv
set_option linter.unusedVariables false
set_option linter.unusedSimpArgs false
set_option maxRecDepth 100000
namespace Go.Proofs.Dv
open Go.RowKit
open Nat renaming reduceEqDiff → zA, reduceAdd → zB, reduceSub → zC, reduceLeDiff → zD, reduceLT → zE, reduceMul → zF
open Int renaming reduceToNat → zG, reduceLE → zH, reduceLT → zI
open List renaming set_cons_zero → zJ, set_cons_succ → zK
def agreeB (x y : Bn) : Bool := !(decide (x.name = y.name) && !decide (x.width = y.width))
def okAt (l : List Bn) (i : Nat) (x : Bn) : Bool := (l.take i).all fun y => agreeB y x
def varsOK (l : List Bn) : Bool := scOK (scan (tst (okAt l) (fun i _ => i + 1) fun _ _ => ()) 0 l)
def chk02 (t : T) : Int := bif decide (400 < (t.size : Int)) || decide (60 < (t.depth : Int)) then 4 else bif !t.formed then 8 else bif !varsOK t.vars then 14 else 0
end Go.Proofs.Dv
set_option linter.unusedVariables false
set_option linter.unusedSimpArgs false
set_option maxRecDepth 100000
namespace Go.Proofs.Dv
open Go.RowKit
open Nat renaming reduceEqDiff → zA, reduceAdd → zB, reduceSub → zC, reduceLeDiff → zD, reduceLT → zE, reduceMul → zF
open Int renaming reduceToNat → zG, reduceLE → zH, reduceLT → zI
open List renaming set_cons_zero → zJ, set_cons_succ → zK
def cntG (f : T → Int → Int × Bool) (lim : Int) (a : Int) (u : T) : Sc Int (Int × Bool) :=
  if a ≤ lim then (if (f u (lim - a)).2 = true then .go (a + (f u (lim - a)).1) else .out (a, false)) else .out (a, true)
def cntR : Sc Int (Int × Bool) → Int × Bool
  | .go n => (n, true)
  | .out p => p
def countF : Nat → T → Int → Int × Bool
  | 0, _, _ => (1, false)
  | d + 1, t, lim => cntR (scan (cntG (countF d) lim) 1 t.sub)
theorem cnt_bound (f : T → Int → Int × Bool) (lim : Int) (hf : ∀ u l, 0 ≤ l → l ≤ lim → 1 ≤ (f u l).1 ∧ (f u l).1 ≤ l + 1) : ∀ (s : List T) (a : Int), 1 ≤ a → a ≤ lim + 1 → 1 ≤ (cntR (scan (cntG f lim) a s)).1 ∧ (cntR (scan (cntG f lim) a s)).1 ≤ lim + 1
  | [], a, h1, h2 => ⟨h1, h2⟩
  | u :: us, a, h1, h2 => by
    simp only [scan, cntG]
    by_cases ha : a ≤ lim
    · have := hf u (lim - a) (by omega) (by omega)
      rw [if_pos ha]
      by_cases hb : (f u (lim - a)).2 = true
      · rw [if_pos hb]; exact cnt_bound f lim hf us _ (by omega) (by omega)
      · rw [if_neg hb]; exact ⟨h1, h2⟩
    · rw [if_neg ha]; exact ⟨h1, h2⟩
theorem count_bound : ∀ (d : Nat) (t : T) (lim : Int), 0 ≤ lim → 1 ≤ (countF d t lim).1 ∧ (countF d t lim).1 ≤ lim + 1
  | 0, t, lim, h => by simp only [countF]; omega
  | d + 1, t, lim, h => cnt_bound (countF d) lim (fun u l h _ => count_bound d u l h) t.sub 1 (by omega) (by omega)
theorem count_all (d : Nat) (hd : ∀ (t : T) (lim : Int), 0 ≤ lim → (countF d t lim).2 = true → (countF d t lim).1 ≤ lim → t.depth ≤ d ∧ (t.size : Int) = (countF d t lim).1) (lim : Int) : ∀ (s : List T) (a : Int), 1 ≤ a → (cntR (scan (cntG (countF d) lim) a s)).2 = true → (cntR (scan (cntG (countF d) lim) a s)).1 ≤ lim →
    T.depths s ≤ d ∧ (a + T.sizes s : Int) = (cntR (scan (cntG (countF d) lim) a s)).1
  | [], a, h1, h2, h3 => by simp [scan, cntR, T.depths, T.sizes]
  | u :: us, a, h1, h2, h3 => by
    simp only [scan, cntG] at h2 h3 ⊢
    by_cases ha : a ≤ lim
    · rw [if_pos ha] at h2 h3 ⊢
      by_cases hb : (countF d u (lim - a)).2 = true
      · rw [if_pos hb] at h2 h3 ⊢
        dsimp only at h2 h3 ⊢
        have hbd := count_bound d u (lim - a) (by omega)
        obtain ⟨k1, k2⟩ := count_all d hd lim us _ (by omega) h2 h3
        have hle : (countF d u (lim - a)).1 ≤ lim - a := by
          have : (0 : Int) ≤ T.sizes us := Int.natCast_nonneg _
          omega
        obtain ⟨k3, k4⟩ := hd u (lim - a) (by omega) hb hle
        rw [T.depths, T.sizes]
        refine ⟨by omega, ?_⟩
        rw [← k2]
        omega
      · rw [if_neg hb] at h2
        simp [cntR] at h2
    · rw [if_neg ha] at h3
      simp only [cntR] at h3
      exact absurd h3 ha
theorem count_size : ∀ (d : Nat) (t : T) (lim : Int), 0 ≤ lim → (countF d t lim).2 = true → (countF d t lim).1 ≤ lim → t.depth ≤ d ∧ (t.size : Int) = (countF d t lim).1
  | 0, t, lim, _, h, _ => by simp [countF] at h
  | d + 1, t, lim, h0, h1, h2 => by
    obtain ⟨k1, k2⟩ := count_all d (count_size d) lim t.sub 1 (by omega) h1 h2
    refine ⟨by rw [T.depth_eq]; omega, ?_⟩
    rw [T.size_eq]
    simp only [countF]
    omega
def x_Cnt (a : T × Int × Nat) : List D := match a with | (t, lim, dp) => [.agg t.d, .v (.int .i64 lim), .v (.int .i64 (dp : Int))]
theorem i_Cnt : ∀ a b, x_Cnt a = x_Cnt b → a = b := by
  rintro ⟨t, lim, dp⟩ ⟨t', lim', dp'⟩ h
  first | simpa [x_Cnt, INJ, and_assoc, Int.ofNat_inj] using h | (simp [x_Cnt, INJ, and_assoc, Int.ofNat_inj] at h; simp_all)
open Classical in
noncomputable def s_Cnt (n : Nat) : List D → Option D := sOf x_Cnt fun a => match a with | (t, lim, dp) => if (dp < n ∧ n ≤ 1000 ∧ 0 ≤ lim ∧ lim ≤ 500) then some (.tup [.v (.int .i64 (countF dp t lim).1), .v (.bool (countF dp t lim).2)]) else none
theorem e_Cnt {n : Nat} {t : T} {lim : Int} {dp : Nat} (hc : (dp < n ∧ n ≤ 1000 ∧ 0 ≤ lim ∧ lim ≤ 500)) : s_Cnt n [.agg t.d, .v (.int .i64 lim), .v (.int .i64 (dp : Int))] = some (.tup [.v (.int .i64 (countF dp t lim).1), .v (.bool (countF dp t lim).2)]) := (sOf_eq i_Cnt (t, lim, dp)).trans (if_pos hc)
theorem R_Cnt {n : Nat} {C : Ctx} {F : IFun} (hspec : ∀ N, maxLen + 10 < N → ∀ (t : T) (lim : Int) (dp : Nat), lenOK.lenOKs [.agg t.d, .v (.int .i64 lim), .v (.int .i64 (dp : Int))] → (dp < n ∧ n ≤ 1000 ∧ 0 ≤ lim ∧ lim ≤ 500) → runE C N F [.agg t.d, .v (.int .i64 lim), .v (.int .i64 (dp : Int))] = some (.tup [.v (.int .i64 (countF dp t lim).1), .v (.bool (countF dp t lim).2)])) : Runs C F (s_Cnt n) := runs_of i_Cnt fun N hN a r hl hf => by
  obtain ⟨t, lim, dp⟩ := a
  simp only [Option.ite_none_right_eq_some, Option.some.injEq] at hf
  obtain ⟨hc, rfl⟩ := hf
  exact hspec N hN t lim dp hl hc
theorem r_count (C : Ctx) (n : Nat) (hT : C.T 102 = some (s_Cnt n)) : Runs C ir102 (s_Cnt (n + 1)) := R_Cnt fun N hN t lim dp hl hc => by
  have hl' : t.sub.length ≤ maxLen := by simp only [T.d_eq, EVl, List.length_map] at hl; exact hl.1.2.2.2.2.2.1.1
  cases dp with
  | zero => simp -dsimp only [runE, run_eq, ir102, T.d_eq, countF, EVs, ↓EVd, ↓reduceIte, zA, zB, zC, zD, zE, zF, reduceBEq, reduceCtorEq, zG, zH, zI, zJ, zK, dcells, okc]
  | succ dp =>
    have h0 : decide (((dp + 1 : Nat) : Int) = 0) = false := decide_eq_false (by omega)
    have hd1 : IntKind.i64.wrap (((dp + 1 : Nat) : Int) - 1) = (dp : Int) := by rw [wr] <;> omega
    simp -dsimp only [runE, run_eq, ir102, T.d_eq, h0, EVs, ↓EVd, ↓reduceIte, zA, zB, zC, zD, zE, zF, reduceBEq, reduceCtorEq, zG, zH, zI, zJ, zK, dcells, okc]
    generalize hI : iter _ _ _ _ = I
    revert I
    have rnd : ∀ (i : Nat) (a : Int) (u : T), t.sub[i]? = some u → 1 ≤ a → a ≤ lim → C.T 102 = some (s_Cnt n) ∧ s_Cnt n [.agg [.v (.int .u8 u.kind), .v (.int .i64 u.width), .v (.int .u64 u.bits), .v (.string u.name), .v (.int .i64 u.low), .lst false (u.sub.map T.d)], .v (.int .i64 (lim - a)), .v (.int .i64 (dp : Int))] = some (.tup [.v (.int .i64 (countF dp u (lim - a)).1), .v (.bool (countF dp u (lim - a)).2)]) ∧ IntKind.i64.wrap (lim - a) = lim - a ∧ IntKind.i64.wrap (a + (countF dp u (lim - a)).1) = a + (countF dp u (lim - a)).1 := by
      intro i a u hu h1 h2
      have e1 := @e_Cnt n u (lim - a) dp ⟨by omega, by omega, by omega, by omega⟩
      simp only [T.d_eq u] at e1
      have hb := count_bound dp u (lim - a) (by omega)
      exact ⟨hT, e1, by rw [wr] <;> omega, by rw [wr] <;> omega⟩
    refine iter_rule t.sub (fun i (a : Int) => ⟨[(1, .v (.int .i64 lim)), (2, .v (.int .i64 ((dp + 1 : Nat) : Int))), (3, .ptr 0 0), (8, .v (.int .i64 a)), (9, .v (.int .i64 i))], [(0, .box t.d)], 1⟩) (cntG (countF dp) lim) (fun _ a => 1 ≤ a ∧ a ≤ lim + 1) 1 hl' hN ?_ ⟨by omega, by omega⟩ ?_ ?_ ?_
    · simp -dsimp only [T.d_eq, EVs, ↓EVd, ↓reduceIte, zA, zB, zC, zD, zE, zF, reduceBEq, reduceCtorEq, zG, zH, zI, zJ, zK, dcells, okc]
    · intro i a u a' hi hw hu hinv hg
      unfold cntG at hg
      split at hg
      · rename_i hle
        have hle' : decide (a ≤ lim) = true := decide_eq_true hle
        obtain ⟨q1, q2, q3, q4⟩ := rnd i a u hu hinv.1 hle
        have hb := count_bound dp u (lim - a) (by omega)
        split at hg
        · rename_i h2
          simp only [Sc.go.injEq] at hg
          subst hg
          refine ⟨?_, by omega, by omega⟩
          simp -dsimp only [lp102x0, hi, hw, hu, T.d_eq, q1, q2, q3, q4, hle', hd1, h2, EVs, ↓EVd, ↓reduceIte, zA, zB, zC, zD, zE, zF, reduceBEq, reduceCtorEq, zG, zH, zI, zJ, zK, dcells, okc]
        · simp at hg
      · simp at hg
    · intro i a u b hi hw hu hinv hg hs
      refine GE_of ?_
      have hr : countF (dp + 1) t lim = b := by simp only [countF, hs, cntR]
      rw [hr]
      unfold cntG at hg
      split at hg
      · rename_i hle
        have hle' : decide (a ≤ lim) = true := decide_eq_true hle
        obtain ⟨q1, q2, q3, q4⟩ := rnd i a u hu hinv.1 hle
        split at hg
        · simp at hg
        · rename_i h2
          simp only [Sc.out.injEq] at hg
          subst hg
          have h2 : (countF dp u (lim - a)).2 = false := by simpa using h2
          simp -dsimp only [lp102x0, hi, hw, hu, T.d_eq, q1, q2, q3, q4, hle', hd1, h2, EVs, ↓EVd, ↓reduceIte, zA, zB, zC, zD, zE, zF, reduceBEq, reduceCtorEq, zG, zH, zI, zJ, zK, dcells, okc]
      · rename_i hle
        have hle' : decide (a ≤ lim) = false := decide_eq_false hle
        simp only [Sc.out.injEq] at hg
        subst hg
        simp -dsimp only [lp102x0, hi, hw, hu, T.d_eq, hle', EVs, ↓EVd, ↓reduceIte, zA, zB, zC, zD, zE, zF, reduceBEq, reduceCtorEq, zG, zH, zI, zJ, zK, dcells, okc]
    · intro a hinv hs
      refine GE_of ?_
      have hr : countF (dp + 1) t lim = (a, true) := by simp only [countF, hs, cntR]
      rw [hr]
      simp -dsimp only [lp102x0, T.d_eq, EVs, ↓EVd, ↓reduceIte, zA, zB, zC, zD, zE, zF, reduceBEq, reduceCtorEq, zG, zH, zI, zJ, zK, dcells, okc]
mutual
def T.long : T → Bool
  | .mk _ _ _ n _ s => T.longs s || decide ((200 : Int) < n.size)
def T.longs : List T → Bool
  | [] => false
  | t :: ts => T.long t || T.longs ts
end
theorem T.longs_any (s : List T) : T.longs s = s.any T.long := by
  induction s with
  | nil => rw [T.longs]; rfl
  | cons t ts ih => rw [T.longs, ih]; rfl
theorem T.long_eq (t : T) : t.long = (t.sub.any T.long || decide ((200 : Int) < t.name.size)) := by cases t; rw [T.long, T.longs_any]; rfl
def x_Long (a : T) : List D := match a with | t => [.agg t.d]
theorem i_Long : ∀ a b, x_Long a = x_Long b → a = b := by
  rintro t t' h
  first | simpa [x_Long, INJ, and_assoc, Int.ofNat_inj] using h | (simp [x_Long, INJ, and_assoc, Int.ofNat_inj] at h; simp_all)
open Classical in
noncomputable def s_Long (n : Nat) : List D → Option D := sOf x_Long fun a => match a with | t => if (t.depth ≤ n) then some (.v (.bool t.long)) else none
theorem e_Long {n : Nat} {t : T} (hc : (t.depth ≤ n)) : s_Long n [.agg t.d] = some (.v (.bool t.long)) := (sOf_eq i_Long t).trans (if_pos hc)
theorem R_Long {n : Nat} {C : Ctx} {F : IFun} (hspec : ∀ N, maxLen + 10 < N → ∀ (t : T), lenOK.lenOKs [.agg t.d] → (t.depth ≤ n) → runE C N F [.agg t.d] = some (.v (.bool t.long))) : Runs C F (s_Long n) := runs_of i_Long fun N hN t r hl hf => by
  simp only [Option.ite_none_right_eq_some, Option.some.injEq] at hf
  obtain ⟨hc, rfl⟩ := hf
  exact hspec N hN t hl hc
theorem any_all {α : Type} (p : α → Bool) (l : List α) : l.any p = !l.all fun x => !p x := by rw [List.any_eq_not_all_not]
theorem r_long (C : Ctx) (n : Nat) (hT : C.T 103 = some (s_Long n)) : Runs C ir103 (s_Long (n + 1)) := R_Long fun N hN t hl hc => by
  have hl' : t.sub.length ≤ maxLen := by simp only [T.d_eq, EVl, List.length_map] at hl; exact hl.1.2.2.2.2.2.1.1
  rw [T.long_eq, any_all]
  simp -dsimp only [runE, run_eq, ir103, T.d_eq, EVs, ↓EVd, ↓reduceIte, zA, zB, zC, zD, zE, zF, reduceBEq, reduceCtorEq, zG, zH, zI, zJ, zK, dcells, okc]
  generalize hI : iter _ _ _ _ = I
  revert I
  refine iter_test t.sub (fun i _ => ⟨[(1, .ptr 0 0), (3, .v (.int .i64 i))], [(0, .box t.d)], 1⟩) (fun (_ : Unit) u => !u.long) (fun a _ => a) (fun _ _ => ()) (fun _ _ => True) () hl' hN ?_ trivial ?_ ?_ ?_
  · simp -dsimp only [T.d_eq, EVs, ↓EVd, ↓reduceIte, zA, zB, zC, zD, zE, zF, reduceBEq, reduceCtorEq, zG, zH, zI, zJ, zK, dcells, okc]
  · intro i _ u hi hw hu _
    have e1 := @e_Long n u (sub_depth (List.mem_of_getElem? hu) hc)
    simp only [T.d_eq u] at e1
    refine ⟨?_, fun _ => trivial⟩
    simp -dsimp only [lp103x0, hu, hi, hw, T.d_eq, hT, e1, EVs, ↓EVd, ↓reduceIte, zA, zB, zC, zD, zE, zF, reduceBEq, reduceCtorEq, zG, zH, zI, zJ, zK, dcells, okc]
    repeat' ((first | with_reducible refine gb_split (fun _ => ?_) (fun _ => ?_) | with_reducible refine gb_splitr (fun _ => ?_) (fun _ => ?_)) <;> (try simp -dsimp only [lp103x0, hu, hi, hw, T.d_eq, hT, e1, EVs, ↓EVd, ↓reduceIte, zA, zB, zC, zD, zE, zF, reduceBEq, reduceCtorEq, zG, zH, zI, zJ, zK, dcells, okc, *]))
  · intro i _ u hi hu _ hs
    have e1 := @e_Long n u (sub_depth (List.mem_of_getElem? hu) hc)
    simp only [T.d_eq u] at e1
    have hq := all_out hs
    simp -dsimp only [lp103x0, hu, hi, T.d_eq, hT, e1, hq, EVs, ↓EVd, ↓reduceIte, zA, zB, zC, zD, zE, zF, reduceBEq, reduceCtorEq, zG, zH, zI, zJ, zK, dcells, okc]
    repeat' ((first | with_reducible refine gb_split (fun _ => ?_) (fun _ => ?_) | with_reducible refine gb_splitr (fun _ => ?_) (fun _ => ?_)) <;> (try simp -dsimp only [lp103x0, hu, hi, T.d_eq, hT, e1, hq, EVs, ↓EVd, ↓reduceIte, zA, zB, zC, zD, zE, zF, reduceBEq, reduceCtorEq, zG, zH, zI, zJ, zK, dcells, okc, *]))
  · intro _ _ hs
    have hq := all_go hs
    simp -dsimp only [lp103x0, hq, T.d_eq, EVs, ↓EVd, ↓reduceIte, zA, zB, zC, zD, zE, zF, reduceBEq, reduceCtorEq, zG, zH, zI, zJ, zK, dcells, okc]
def greatT (t : T) : Bool := !(countF 80 t 500).2 || decide (500 < (countF 80 t 500).1) || t.long
def x_Great02 (a : T) : List D := match a with | t => [.agg t.d]
theorem i_Great02 : ∀ a b, x_Great02 a = x_Great02 b → a = b := by
  rintro t t' h
  first | simpa [x_Great02, INJ, and_assoc, Int.ofNat_inj] using h | (simp [x_Great02, INJ, and_assoc, Int.ofNat_inj] at h; simp_all)
noncomputable def s_Great02 : List D → Option D := sOf x_Great02 fun a => match a with | t => some (.v (.bool (greatT t)))
theorem e_Great02 {t : T} : s_Great02 [.agg t.d] = some (.v (.bool (greatT t))) := sOf_eq i_Great02 t
theorem R_Great02 {C : Ctx} {F : IFun} (hspec : ∀ N, maxLen + 10 < N → ∀ (t : T), lenOK.lenOKs [.agg t.d] → runE C N F [.agg t.d] = some (.v (.bool (greatT t)))) : Runs C F s_Great02 := runs_of i_Great02 fun N hN t r hl hf => by
  simp only [Option.some.injEq] at hf
  subst hf
  exact hspec N hN t hl
theorem great_small {t : T} (h : greatT t = false) : t.depth ≤ 80 ∧ t.size ≤ 500 ∧ t.long = false := by
  simp only [greatT, Bool.or_eq_false_iff, Bool.not_eq_false', decide_eq_false_iff_not] at h
  have := count_size 80 t 500 (by omega) h.1.1 (by omega)
  exact ⟨this.1, by omega, h.2⟩
theorem r_Great02 (C : Ctx) (hT : C.T 102 = some (s_Cnt 81)) (hL : C.T 103 = some (s_Long 80)) : Runs C ir39 s_Great02 := R_Great02 fun N hN t hl => by
  have e1 := @e_Cnt 81 t 500 80 ⟨by omega, by omega, by omega, by omega⟩
  have h80 : ((80 : Nat) : Int) = 80 := rfl
  simp only [T.d_eq, h80] at e1
  cases h1 : (countF 80 t 500).2
  · simp -dsimp only [runE, run_eq, ir39, T.d_eq, hT, e1, h1, greatT, EVs, ↓EVd, ↓reduceIte, zA, zB, zC, zD, zE, zF, reduceBEq, reduceCtorEq, zG, zH, zI, zJ, zK, dcells, okc]
  by_cases h2 : 500 < (countF 80 t 500).1
  · have h2' : decide (500 < (countF 80 t 500).1) = true := decide_eq_true h2
    simp -dsimp only [runE, run_eq, ir39, T.d_eq, hT, e1, h1, h2', greatT, EVs, ↓EVd, ↓reduceIte, zA, zB, zC, zD, zE, zF, reduceBEq, reduceCtorEq, zG, zH, zI, zJ, zK, dcells, okc]
  · have h2' : decide (500 < (countF 80 t 500).1) = false := decide_eq_false h2
    have := count_size 80 t 500 (by omega) h1 (by omega)
    have e2 := @e_Long 80 t this.1
    simp only [T.d_eq] at e2
    simp -dsimp only [runE, run_eq, ir39, T.d_eq, hT, e1, h1, h2', hL, e2, greatT, EVs, ↓EVd, ↓reduceIte, zA, zB, zC, zD, zE, zF, reduceBEq, reduceCtorEq, zG, zH, zI, zJ, zK, dcells, okc]
end Go.Proofs.Dv
set_option linter.unusedVariables false
set_option linter.unusedSimpArgs false
set_option maxRecDepth 100000
namespace Go.Proofs.Dv
open Go.RowKit
open Nat renaming reduceEqDiff → zA, reduceAdd → zB, reduceSub → zC, reduceLeDiff → zD, reduceLT → zE, reduceMul → zF
open Int renaming reduceToNat → zG, reduceLE → zH, reduceLT → zI
open List renaming set_cons_zero → zJ, set_cons_succ → zK
mutual
def T.pre : T → List T
  | .mk k w b n l s => .mk k w b n l s :: T.pres s
def T.pres : List T → List T
  | [] => []
  | t :: ts => T.pre t ++ T.pres ts
end
theorem T.pre_eq (t : T) : t.pre = t :: T.pres t.sub := by cases t; rw [T.pre]; rfl
section
variable {P : Program} {J : Nat → (Nat → Nat → Prop) → World → Prop} {Jx : World → Prop} {L l : Nat} {xs : List (List D)}
def Vis (P : Program) (J : Nat → (Nat → Nat → Prop) → World → Prop) (Jx : World → Prop) (l : Nat) (xs : List (List D)) (t : T) : Prop :=
  ∀ (k : Nat) (S : Nat → Nat → Prop) (X : World) (v : Value), (∀ b o, S b o → b < X.heap.size) → J k S X → (∀ i u, t.pre[i]? = some u → xs[k + i]? = some [.agg u.d]) → Rd X S none (.agg t.d) v →
    Calls P 177 #[v, .func (.yield l) #[] #[]] X (Vp J Jx (k + t.pre.length) S X)
theorem fchk_body {f : Nat} {F : IFun} (h : fchk P f F = true) : callable P f = true ∧ ∃ fn c, P.funcs[f]? = some fn ∧ fn.body = some c ∧ F.np ≤ fn.ntmps ∧ reseqs P fn.results.toList F.res = true ∧ chk P fn.ntmps F.body c = true := by
  unfold fchk at h
  split at h
  · rename_i fn hf
    simp only [Bool.and_eq_true, bne_iff_ne, ne_eq, decide_eq_true_eq] at h
    obtain ⟨⟨⟨h1, h2⟩, h3⟩, h4⟩ := h
    split at h4
    · rename_i c hb
      exact ⟨by simp [callable, hf, hb, h1], fn, c, hf, hb, h2, h3, h4⟩
    · simp at h4
  · simp at h
theorem res_tmp {fn : Func} {t : Nat} (h : reseqs P fn.results.toList [.t t] = true) (a : Act) (w : World) : (results fn a.tmps).run P w = .ok (a.tmps.getD t undef) w := by
  have e : fn.results = #[.tmp t] := by
    have : fn.results.toList = [.tmp t] := by
      cases hh : fn.results.toList with
      | nil => rw [hh] at h; simp [reseqs] at h
      | cons y l =>
        rw [hh] at h
        cases l with
        | nil =>
          cases y <;> simp [reseqs, reseq] at h
          rw [h]
        | cons z l => simp [reseqs] at h
    rw [← Array.toList_inj, this]
  simp [results, e]
theorem fz_args {T : Nat → Nat → Prop} {X : World} {v w : Value} {d e : D} {n : Nat} (hT : ∀ b o, T b o → b < X.heap.size) (hv : Rd X T none d v) (hw : Rd X T none e w) (hn : 2 ≤ n) : Fz T n [(0, d), (1, e)] { tmps := #[v, w] ++ Array.replicate (n - 2) undef, defers := [] } X := by
  have mono : ∀ {d : D} {v : Value}, Rd X T none d v → RdS T X.heap.size mp0 [] 0 X d v := fun h => (Rd.mono (fun _ _ _ _ h => h) (fun b o h => .inl ⟨hT b o h, h⟩) _ none none _ (fun E h => by cases h) h).open_
  refine ⟨hT, fun t => ?_, by simp; omega, rfl⟩
  simp only [lkf]
  split
  · rename_i h; subst h; simpa [Array.getElem?_append] using mono hv
  · split
    · rename_i h; subst h; simpa [Array.getElem?_append] using mono hw
    · exact Rd_junk
theorem d_okc (t : T) : (t.d).all okc = true := by rw [T.d_eq]; rfl
theorem d_cls (t : T) : cl.cls t.d = true := by rw [T.d_eq]; rfl
theorem pre_head (t : T) : t.pre[0]? = some t := by rw [T.pre_eq]; rfl
theorem pres_cons (t : T) (ts : List T) : T.pres (t :: ts) = t.pre ++ T.pres ts := by rw [T.pres]
theorem visit_ok (hf : fchk P 177 ir177 = true) (hJT : ∀ k T X Y, J k T X → Turn L X Y → J k (newT T X Y) Y) (hJX : ∀ X Y, Jx X → Turn L X Y → Jx Y)
    (hy : ∀ k x T X ds, xs[k]? = some ds → Args X T none x ds → J k T X → YieldAt Fence.wide 0 P l x X fun e Y =>
      (e = .returned (.bool true) ∧ J (k + 1) T Y ∧ X.heap.size ≤ Y.heap.size ∧ (∀ b o u, T b o → X.cell? ⟨b, o, none⟩ = some u → Y.cell? ⟨b, o, none⟩ = some u)) ∨ (e = .returned (.bool false) ∧ Jx Y)) : ∀ t, Vis P J Jx l xs t := by
  obtain ⟨hcl, fn, c, h1, h2, h3, h4, h5⟩ := fchk_body hf
  obtain ⟨c1, c2, rfl, k1, k2⟩ := chk_seq h5
  obtain ⟨c3, c4, rfl, k3, k4⟩ := chk_seq k2
  obtain ⟨c5, c6, rfl, k5, k6⟩ := chk_seq k4
  obtain ⟨c7, c8, rfl, k7, k8⟩ := chk_seq k5
  obtain ⟨c9, rfl, k9⟩ := chk_blk k8
  obtain ⟨c10, rfl, k10⟩ := chk_loop k9
  obtain ⟨c11, c12, rfl, k11, k12⟩ := chk_seq k6
  have := chk_ret k12
  subst this
  intro t
  induction t using T.ind with
  | h t ih =>
    intro k S X v hT hJ hxs hv
    refine callsIn_wide.1 (callsIn_of_wp (F := Fence.wide) (n := 0) h1 h2 trivial ?_ rfl)
    have hF := fz_args (w := .func (.yield l) #[] #[]) (e := .v (.func (.yield l) #[] #[])) hT hv (Rd_v.2 ⟨rfl, rfl⟩) h3
    have hll : t.sub.length ≤ maxLen := by
      have := Rd.lenOK _ _ _ hv
      simp only [T.d_eq, lenOK, lenOK.lenOKs, List.length_map] at this
      exact this.2.2.2.2.2.1.1
    have fin : ∀ (T' : Nat → Nat → Prop) (a : Act) (Y : World) (fr : List (Nat × D)) (b : Bool), Fz T' fn.ntmps fr a Y → lkf fr 4 = .v (.bool b) → Vp J Jx (k + t.pre.length) S X (.returned (.bool b)) Y → bodyPost P fn (Vp J Jx (k + t.pre.length) S X) .ret a Y := by
      intro T' a Y fr b hF hl hV
      have hv := (Rd_v.1 (hF.rd0 hl rfl)).1
      exact ⟨hF.2.2.2, _, res_tmp h4 a Y, by rw [hv]; exact hV⟩
    have finF : ∀ (T' : Nat → Nat → Prop) (a : Act) (Y : World) (fr : List (Nat × D)), Jx Y → Fz T' fn.ntmps fr a Y → lkf fr 4 = .v (.bool false) → bodyPost P fn (Vp J Jx (k + t.pre.length) S X) .ret a Y := fun T' a Y fr hx hF hl => fin T' a Y fr false hF hl (.inr ⟨rfl, hx⟩)
    refine wpIn_seq ?_
    refine fz_reg (σ' := ⟨[(4, .v (.bool false)), (2, .ptr 0 0), (0, .agg t.d), (1, .v (.func (.yield l) #[] #[]))], [(0, .box t.d)], 1⟩) k1 (by simpa using hF) (by simp [evOps, want, isQ, evQ, evE, evO, lkf, put, K.d, K.val, hpl, dcells, d_okc, -List.all_eq_true]) fun a1 X1 hb1 hF1 => ?_
    have e1 : fzF ⟨[(4, .v (.bool false)), (2, .ptr 0 0), (0, .agg t.d), (1, .v (.func (.yield l) #[] #[]))], [(0, .box t.d)], 1⟩ = [(4, .v (.bool false)), (2, .rp t.d), (0, .agg t.d), (1, .v (.func (.yield l) #[] #[]))] := by
      simp [fzF, fzD, lkh, d_cls, cl]
    rw [e1] at hF1
    have hs1 : ∀ b o, S b o → newT S X X1 b o := fun b o h => .inl h
    have hk1 : Kp S X X1 := Kp.of_below hT hb1
    refine wpIn_seq ?_
    refine callcond (is1 := [⟨some 7, .mv (.t 1), none, false⟩, ⟨some 8, .ld true 6 (.t 2), none, false⟩]) (k' := k + 1) (σ1 := ⟨[(8, .agg t.d), (7, .v (.func (.yield l) #[] #[])), (4, .v (.bool false)), (2, .rp t.d), (0, .agg t.d), (1, .v (.func (.yield l) #[] #[]))], [], 0⟩) hJT hJX k3 (hJT _ _ _ _ hJ (Below.turn (L := L) hb1)) hF1
      (by simp [evOps, want, isQ, evQ, evO, lkf, put, hpl, T.d_eq]) ?_ ?_ ?_
    ·
      intro a2 X2 T2 hJ2 hF2 hs2 o ho hd next Q hn
      obtain ⟨dst, op, ty, pos, after, gd⟩ := o
      simp only at ho hd
      subst hd
      obtain ⟨f, as, ts, rfl, q1, q2⟩ := opeq_call ho
      rw [oeq_t q1, oeqs_1 q2]
      refine yield_op (l := l) (d := .agg t.d) hF2 (by simp [fzF, fzD, lkf, cl]) (by simp [fzF, fzD, lkf, cl, d_cls]) (by simp [cl, d_cls]) fun v hv => ?_
      have hx := hxs 0 t (pre_head t)
      obtain ⟨fn', tmps, assign, body, q3, q4⟩ := hy k #[v] T2 X2 [.agg t.d] hx ⟨rfl, fun j hj => by
        have : j = 0 := by simp at hj; omega
        subst this
        exact ⟨v, rfl, hv⟩⟩ hJ2
      refine ⟨fn', tmps, assign, body, q3, RoundIn.mono q4 fun e Y hq => ?_⟩
      rcases hq with ⟨rfl, r1, r2, r3⟩ | ⟨rfl, r1⟩
      · exact ⟨true, rfl, hn true Y (.inl ⟨rfl, T2, r1, fun _ _ h => h, fun b o h => Nat.lt_of_lt_of_le (hF2.1 b o h) r2, r2, r3⟩)⟩
      · exact ⟨false, rfl, hn false Y (.inr ⟨rfl, r1⟩)⟩
    ·
      intro T3 a3 X3 hJ3 hF3 hs3 hk3
      have hk3 := hk1.trans hs1 hk3
      have hs3 : ∀ b o, S b o → T3 b o := fun b o h => hs3 b o (hs1 b o h)
      refine wpIn_seq ?_
      refine wpIn_seq ?_
      refine fz_reg (fr := [(2, .rp t.d), (1, .v (.func (.yield l) #[] #[]))]) (σ' := ⟨[(14, .v (.int .i64 0)), (13, .v (.int .i64 t.sub.length)), (12, .lst false (t.sub.map T.d)), (11, .rp (t.d.drop 5)), (2, .rp t.d), (1, .v (.func (.yield l) #[] #[]))], [], 0⟩) k7 (hF3.sub (by simp [fzF, fzD, lkf, cl])) (by simp [evOps, want, isQ, evQ, evO, lkf, put, hpl, T.d_eq, K.d, K.val]) fun a4 X4 hb4 hF4 => ?_
      have hk4 := hk3.trans hs3 (Kp.of_below hF3.1 hb4)
      have hJ4 := hJT _ _ _ _ hJ3 (Below.turn (L := L) hb4)
      obtain ⟨c13, c14, rfl, k13, k14⟩ := chk_seq k10
      obtain ⟨c15, c16, rfl, k15, k16⟩ := chk_seq k14
      obtain ⟨c17, c18, rfl, k17, k18⟩ := chk_seq k16
      obtain ⟨xo, y1, y2, rfl, k19, k20, k21⟩ := chk_cond k15
      have := chk_skip k20
      subst this
      have := chk_exit k21
      subst this
      have := oeq_t k19
      subst this
      obtain ⟨c22, rfl, k22⟩ := chk_blk k17
      obtain ⟨c23, c24, rfl, k23, k24⟩ := chk_seq k22
      have key : ∀ (us done : List T), done ++ us = t.sub → ∀ (k' : Nat) (S' : Nat → Nat → Prop) (a : Act) (Y : World), J k' S' Y → (∀ i u, (T.pres us)[i]? = some u → xs[k' + i]? = some [.agg u.d]) → k' + (T.pres us).length = k + t.pre.length →
          Fz S' fn.ntmps [(14, .v (.int .i64 done.length)), (13, .v (.int .i64 t.sub.length)), (12, .lst false (t.sub.map T.d)), (1, .v (.func (.yield l) #[] #[]))] a Y → (∀ b o, S b o → S' b o) → Kp S X Y →
          Code.roundsIn Fence.wide 0 P (c13.seq ((Code.cond (.tmp 15) .skip (.exit 0)).seq ((Code.block 1 (c23.seq c24)).seq c18))) (Exit.inBlock 0 (Exit.then ((c11.seq .ret).wpIn Fence.wide 0 P (bodyPost P fn (Vp J Jx (k + t.pre.length) S X))) (bodyPost P fn (Vp J Jx (k + t.pre.length) S X)))) (us.length + 1) a Y := by
        intro us
        induction us with
        | nil =>
          intro done hd k' S' a Y hJ' hx hk' hF' hs' hkp
          rw [roundsIn_succ]
          refine wpIn_seq ?_
          have hlen : ¬ ((done.length : Int) < (t.sub.length : Int)) := by rw [← hd]; simp
          refine fz_reg (σ' := ⟨[(15, .v (.bool false)), (14, .v (.int .i64 done.length)), (13, .v (.int .i64 t.sub.length)), (12, .lst false (t.sub.map T.d)), (1, .v (.func (.yield l) #[] #[]))], [], 0⟩) k13 hF' ?_ fun a5 X5 hb5 hF5 => ?_
          · simp [evOps, want, isQ, evQ, evO, lkf, put, hpl, evBi, evInt, hlen]
          have hv5 := (Rd_v.1 (hF5.rd0 (t := 15) (d := .v (.bool false)) (by simp [fzF, fzD, lkf, cl]) rfl)).1
          refine wpIn_seq ?_
          refine wpIn_cond_false hv5 (wpIn_exit ?_)
          refine wpIn_seq ?_
          refine fz_reg (fr := []) (σ' := ⟨[(4, .v (.bool true))], [], 0⟩) k11 (hF5.sub (by simp)) (by simp [evOps, want, isQ, evQ, evO, put, hpl, K.d, K.val]) fun a6 X6 hb6 hF6 => ?_
          refine wpIn_ret ?_
          have hJ6 := hJT _ _ _ _ (hJT _ _ _ _ hJ' (Below.turn (L := L) hb5)) (Below.turn (L := L) hb6)
          have e6 : k' = k + t.pre.length := by simpa [T.pres] using hk'
          rw [e6] at hJ6
          refine fin _ a6 X6 _ true hF6 (by simp [fzF, fzD, lkf, cl]) (.inl ⟨rfl, _, hJ6, fun b o h => .inl (.inl (hs' b o h)), hF6.1, ?_⟩)
          exact (hkp.trans hs' (Kp.of_below hF'.1 hb5)).trans (fun b o h => .inl (hs' b o h)) (Kp.of_below hF5.1 hb6)
        | cons u us ihl =>
          intro done hd k' S' a Y hJ' hx hk' hF' hs' hkp
          rw [pres_cons] at hx hk'
          rw [roundsIn_succ]
          refine wpIn_seq ?_
          have hlen : (done.length : Int) < (t.sub.length : Int) := by rw [← hd]; simp; omega
          have hget : t.sub[done.length]? = some u := by rw [← hd]; simp
          have hmem : u ∈ t.sub := List.mem_of_getElem? hget
          refine fz_reg (σ' := ⟨[(15, .v (.bool true)), (14, .v (.int .i64 done.length)), (13, .v (.int .i64 t.sub.length)), (12, .lst false (t.sub.map T.d)), (1, .v (.func (.yield l) #[] #[]))], [], 0⟩) k13 hF' ?_ fun a5 X5 hb5 hF5 => ?_
          · simp [evOps, want, isQ, evQ, evO, lkf, put, hpl, evBi, evInt, hlen]
          have hv5 := (Rd_v.1 (hF5.rd0 (t := 15) (d := .v (.bool true)) (by simp [fzF, fzD, lkf, cl]) rfl)).1
          refine wpIn_seq ?_
          refine wpIn_cond_true hv5 (wpIn_skip ?_)
          refine wpIn_seq ?_
          refine wpIn_block ?_
          refine wpIn_seq ?_
          have hJ5 := hJT _ _ _ _ hJ' (Below.turn (L := L) hb5)
          have hk5 := hkp.trans hs' (Kp.of_below hF'.1 hb5)
          have hsz : u.d.length = 6 := by rw [T.d_eq]; rfl
          refine fz_reg (fr := [(14, .v (.int .i64 done.length)), (13, .v (.int .i64 t.sub.length)), (12, .lst false (t.sub.map T.d)), (1, .v (.func (.yield l) #[] #[]))]) (σ' := ⟨[(6, .ptr 0 0), (17, .agg u.d), (16, .rp u.d), (14, .v (.int .i64 done.length)), (13, .v (.int .i64 t.sub.length)), (12, .lst false (t.sub.map T.d)), (1, .v (.func (.yield l) #[] #[]))], [(0, .box u.d)], 1⟩) k23 (hF5.sub (by simp [fzF, fzD, lkf, cl])) ?_ fun a6 X6 hb6 hF6 => ?_
          · simp [evOps, want, isQ, evQ, evE, evO, lkf, lkh, uph, put, hpl, intOf', hget, hsz, dcells, d_okc, K.d, K.val, List.take_of_length_le, -List.all_eq_true]
          have hJ6 := hJT _ _ _ _ hJ5 (Below.turn (L := L) hb6)
          have hk6 := hk5.trans (fun b o h => .inl (hs' b o h)) (Kp.of_below hF5.1 hb6)
          refine callcond (is1 := [⟨some 18, .ld true 6 (.t 6), none, false⟩, ⟨some 19, .mv (.t 1), none, false⟩]) (k' := k' + u.pre.length) (σ1 := ⟨[(19, .v (.func (.yield l) #[] #[])), (18, .agg u.d), (6, .rp u.d), (14, .v (.int .i64 done.length)), (13, .v (.int .i64 t.sub.length)), (12, .lst false (t.sub.map T.d)), (1, .v (.func (.yield l) #[] #[]))], [], 0⟩) hJT hJX k24 hJ6 (fr := [(6, .rp u.d), (14, .v (.int .i64 done.length)), (13, .v (.int .i64 t.sub.length)), (12, .lst false (t.sub.map T.d)), (1, .v (.func (.yield l) #[] #[]))]) (hF6.sub (by simp [fzF, fzD, lkf, lkh, cl, d_cls]))
            (by simp [evOps, want, isQ, evQ, evO, lkf, put, hpl, hsz, List.take_of_length_le]) ?_ ?_ ?_
          ·
            intro a7 X7 T7 hJ7 hF7 hs7 o ho hd next Q hn
            obtain ⟨dst, op, ty, pos, after, gd⟩ := o
            simp only at ho hd
            subst hd
            obtain ⟨f, as, ts, rfl, q1, q2⟩ := opeq_call ho
            rw [oeq_f q1, oeqs_2 q2]
            have hv := hF7.rd0 (t := 18) (d := .agg u.d) (by simp [fzF, fzD, lkf, cl, d_cls]) (by simp [cl, d_cls])
            have hw := (Rd_v.1 (hF7.rd0 (t := 19) (d := .v (.func (.yield l) #[] #[])) (by simp [fzF, fzD, lkf, cl]) rfl)).1
            refine call_op hcl ?_
            have := ih u hmem k' T7 X7 _ hF7.1 hJ7 (fun i w hi => hx i w (by rw [List.getElem?_append_left (List.getElem?_eq_some_iff.1 hi).1]; exact hi)) hv
            have e8 : a7.eval (.tmp 18) = a7.tmps.getD 18 undef := rfl
            have e9 : a7.eval (.tmp 19) = a7.tmps.getD 19 undef := rfl
            have e7 : (#[Operand.tmp 18, Operand.tmp 19].map a7.eval) = #[a7.tmps.getD 18 undef, .func (.yield l) #[] #[]] := by
              rw [← hw, ← e8, ← e9]; simp
            rw [e7]
            refine Calls.mono this fun e Y hV => ?_
            rcases id hV with ⟨rfl, _⟩ | ⟨rfl, _⟩
            · exact ⟨_, rfl, hn true Y hV⟩
            · exact ⟨_, rfl, hn false Y hV⟩
          ·
            intro T8 a8 X8 hJ8 hF8 hs8 hk8
            have hs8' : ∀ b o, S b o → T8 b o := fun b o h => hs8 b o (.inl (.inl (hs' b o h)))
            have hk8' := hk6.trans (fun b o h => .inl (.inl (hs' b o h))) hk8
            refine fz_reg (fr := [(14, .v (.int .i64 done.length)), (13, .v (.int .i64 t.sub.length)), (12, .lst false (t.sub.map T.d)), (1, .v (.func (.yield l) #[] #[]))]) (σ' := ⟨[(14, .v (.int .i64 ((done ++ [u]).length : Int))), (22, .v (.int .i64 ((done ++ [u]).length : Int))), (14, .v (.int .i64 done.length)), (13, .v (.int .i64 t.sub.length)), (12, .lst false (t.sub.map T.d)), (1, .v (.func (.yield l) #[] #[]))], [], 0⟩) k18 (hF8.sub (by simp [fzF, fzD, lkf, cl])) ?_ fun a9 X9 hb9 hF9 => ?_
            · have hw : IntKind.i64.wrap ((done.length : Int) + 1) = ((done ++ [u]).length : Int) := by
                have := hlen
                have hm : maxLen ≤ 9223372036854775807 := by decide
                rw [List.length_append, List.length_singleton, wr] <;> omega
              simp only [evOps, want, isQ, evQ, evO, lkf, put, hpl, evBi, evInt, K.d, K.val, if_true, Option.bind_some, Option.map_some, hw]
            have hJ9 := hJT _ _ _ _ hJ8 (Below.turn (L := L) hb9)
            refine ihl (done ++ [u]) (by rw [← hd]; simp) (k' + u.pre.length) _ a9 X9 hJ9 (fun i w hi => ?_) (by rw [← hk']; simp; omega) (hF9.sub (by simp [fzF, fzD, lkf, cl])) (fun b o h => .inl (hs8' b o h)) (hk8'.trans hs8' (Kp.of_below hF8.1 hb9))
            have := hx (u.pre.length + i) w (by rw [List.getElem?_append_right (by omega)]; simpa using hi)
            rw [← this]; congr 1; omega
          · exact finF
      refine wpIn_block ?_
      refine wpIn_loop_rounds (t.sub.length + 1) ?_
      refine key t.sub [] rfl (k + 1) _ a4 X4 hJ4 (fun i u hi => ?_) ?_ (hF4.sub (by simp [fzF, fzD, lkf, cl])) (fun b o h => .inl (hs3 b o h)) hk4
      · have := hxs (i + 1) u (by rw [T.pre_eq]; simpa using hi)
        rw [← this]; congr 1; omega
      · rw [T.pre_eq]; simp; omega
    · exact finF
theorem res_nil {fn : Func} (h : reseqs P fn.results.toList [] = true) (a : Act) (w : World) : ∃ v, (results fn a.tmps).run P w = .ok v w := by
  have e : fn.results = #[] := by
    have : fn.results.toList = [] := by
      cases hh : fn.results.toList with
      | nil => rfl
      | cons y l => rw [hh] at h; simp [reseqs] at h
    rw [← Array.toList_inj, this]
  simp [results, e]
end
theorem nodes_iter {P : Program} (hf : fchk P 177 ir177 = true) (hg : fchk P 176 ir176 = true) (t : T) : IterOK P 176 [.rp t.d] (t.pre.map fun u => [.agg u.d]) := by
  obtain ⟨hcl, fn, c, h1, h2, h3, h4, h5⟩ := fchk_body hg
  have hcv := (fchk_body hf).1
  refine ⟨hcl, fun w S cs hS hA l J Jx W hb hJT hJX hy hJ => ?_⟩
  obtain ⟨x, hx1, hx2⟩ := hA.2 0 (by simp)
  have hcs : cs = #[x] := by
    have hsz := hA.1
    apply Array.ext
    · simpa using hsz
    · intro i hi hj
      have : i = 0 := by simp at hsz; omega
      subst this
      rw [Array.getElem?_eq_getElem hi] at hx1
      simpa using hx1
  have hS' : ∀ b o, S b o → b < W.heap.size := fun b o h => Nat.lt_of_lt_of_le (hS b o h) hb.size
  have hxW : Rd W S none (.rp t.d) x := Rd.mono (fun b o u _ h => (Below.turn (L := 0) hb).cell h) (fun _ _ h => h) _ none none _ (fun E h => by cases h) hx2
  have hvis := visit_ok (L := W.heap.size) (J := J) (Jx := Jx) (l := l) (xs := t.pre.map fun u => [.agg u.d]) hf hJT hJX (fun k x T X ds h1 h2 h3 => by
    obtain ⟨a, b, c, d, e, g⟩ := hy k x T X ds h1 h2 h3
    refine ⟨a, b, c, d, e, RoundIn.mono g fun en Y hq => ?_⟩
    rcases hq with ⟨q1, q2, q3, q4, _⟩ | q
    · exact .inl ⟨q1, q2, q3, q4⟩
    · exact .inr q) t
  subst hcs
  refine callsIn_wide.1 (callsIn_of_wp (F := Fence.wide) (n := 0) h1 h2 trivial ?_ rfl)
  have hF := fz_args (d := .v (.func (.yield l) #[] #[])) hS' (Rd_v.2 ⟨rfl, rfl⟩) hxW h3
  have hsz : t.d.length = 6 := by rw [T.d_eq]; rfl
  refine fz_call (is1 := [⟨some 3, .ld true 6 (.t 1), none, false⟩, ⟨some 4, .mv (.t 0), none, false⟩]) (is2 := []) (σ1 := ⟨[(4, .v (.func (.yield l) #[] #[])), (3, .agg t.d), (0, .v (.func (.yield l) #[] #[])), (1, .rp t.d)], [], 0⟩) h5 (by simpa using hF) (by simp [evOps, want, isQ, evQ, evO, lkf, put, hpl, hsz, List.take_of_length_le]) ?_
  intro a1 X1 hb1 hF1 hr o ho hd next hn
  obtain ⟨dst, op, ty, pos, after, gd⟩ := o
  simp only at ho hd
  subst hd
  obtain ⟨f, as, ts, rfl, q1, q2⟩ := opeq_call ho
  rw [oeq_f q1, oeqs_2 q2]
  have hv := hF1.rd0 (t := 3) (d := .agg t.d) (by simp [fzF, fzD, lkf, cl, d_cls]) (by simp [cl, d_cls])
  have hw := (Rd_v.1 (hF1.rd0 (t := 4) (d := .v (.func (.yield l) #[] #[])) (by simp [fzF, fzD, lkf, cl]) rfl)).1
  refine call_op hcv ?_
  have e8 : a1.eval (.tmp 3) = a1.tmps.getD 3 undef := rfl
  have e9 : a1.eval (.tmp 4) = a1.tmps.getD 4 undef := rfl
  have e7 : (#[Operand.tmp 3, Operand.tmp 4].map a1.eval) = #[a1.tmps.getD 3 undef, .func (.yield l) #[] #[]] := by
    rw [← hw, ← e8, ← e9]; simp
  rw [e7]
  have hJ1 := hJT _ _ _ _ hJ (Below.turn (L := W.heap.size) hb1)
  refine Calls.mono (hvis 0 _ X1 _ hF1.1 hJ1 (fun i u hi => by simp [hi]) hv) fun e Y hV => ?_
  have fin : ∀ (b : Bool) (T' : Nat → Nat → Prop) (fr : List (Nat × D)), Fz T' fn.ntmps fr (a1.put (some 5) (.bool b)) Y → ((∃ T, J (t.pre.map fun u => [D.agg u.d]).length T Y) ∨ Jx Y) → next (a1.put (some 5) (.bool b)) Y := by
    intro b T' fr hF' hJ'
    refine hn b T' fr ⟨fr, [], 0⟩ Y hF' rfl fun a3 W3 hb3 hF3 => ?_
    obtain ⟨v, hv⟩ := res_nil h4 a3 W3
    refine ⟨hF3.2.2.2, v, hv, ⟨v, rfl⟩, ?_⟩
    rcases hJ' with ⟨T, hJ'⟩ | hJ'
    · exact .inl ⟨_, hJT _ _ _ _ hJ' (Below.turn (L := W.heap.size) hb3)⟩
    · exact .inr (hJX _ _ hJ' (Below.turn (L := W.heap.size) hb3))
  rcases hV with ⟨rfl, T', k1, k2, k3, k4⟩ | ⟨rfl, k1⟩
  · exact ⟨_, rfl, fin true T' _ (((hF1.keep k4.1 k4.2).more k2 k3).put_ hr) (.inl ⟨T', by simpa using k1⟩)⟩
  · exact ⟨_, rfl, fin false (fun _ _ => False) [(5, .v (.bool false))] (Fz.put_ (fr := []) (T := fun _ _ => False) ⟨fun _ _ h => h.elim, fun t => Rd_junk, hF1.2.2.1, hF1.2.2.2⟩ hr) (.inr k1)⟩
end Go.Proofs.Dv
set_option linter.unusedVariables false
set_option linter.defProp false
set_option linter.unusedSimpArgs false
namespace Go.Proofs.Dv
open Go.RowKit
def reF {β : Type} (fr : List (Nat × D)) (K : Option (Ex × St) → Option β) : Option (Ex × St) → Option β
  | some (e, σ) => K (some (e, ⟨fr, σ.hp, σ.nx⟩))
  | none => K none
theorem reF_ex {β : Type} {fr : List (Nat × D)} {K : Option (Ex × St) → Option β} {e : Ex} {σ : St} : reF fr K (some (e, σ)) = K (some (e, ⟨fr, σ.hp, σ.nx⟩)) := nr rfl
def trF (fr : List (Nat × D)) (tr : St → Option St) (σ : St) : Option St := tr ⟨fr, σ.hp, σ.nx⟩
theorem trF_eq {fr fr' : List (Nat × D)} {tr : St → Option St} {hp : List (Nat × Blk)} {nx : Nat} : trF fr tr ⟨fr', hp, nx⟩ = tr ⟨fr, hp, nx⟩ := nr rfl
theorem rd_g {ps : List Nat} {A B : St → Option (Ex × St)} {x : List D} {fr : List (Nat × D)} {hp : List (Nat × Blk)} {nx : Nat} : round ps A B x ⟨fr, hp, nx⟩ = gb (decide (x.length = ps.length) && cl.cls x) (fun _ => nmB B (A ⟨putl ps x fr, hp, nx⟩)) fun _ => none := by
  rw [rd_eq]; simp only [gb, Bool.and_eq_true, decide_eq_true_eq]
theorem putl_c {p : Nat} {ps : List Nat} {d : D} {ds : List D} {fr : List (Nat × D)} : putl (p :: ps) (d :: ds) fr = putl ps ds ((p, d) :: fr) := nr rfl
theorem putl_n {fr : List (Nat × D)} : putl [] [] fr = fr := nr rfl
theorem Kd_nilM : K.nilM.d = .v (.map none) := nr rfl
def EVn := And.intro Kd_nilM <| And.intro @c_rng (And.intro @rd_g (And.intro @putl_c (And.intro @putl_n (And.intro @trF_eq @reF_ex))))
theorem rnds_test {α β γ X : Type} {f : List D → St → Option (Ex × St)} {tr : St → Option St} {σ : St} {K : Option (Ex × St) → Option γ} {r : γ} (els : List X) {e : X → List D} (H : α → St) (t : α → X → Bool) (u : α → X → α) (v : α → X → β) (Inv : α → Prop) (a0 : α)
    (h0 : σ = H a0) (hi : Inv a0)
    (hgo : ∀ a x, x ∈ els → Inv a → (stepE (trF (H a).fr tr) (f (e x) (H a)) = gb (t a x) (fun _ => some (H (u a x))) fun _ => none) ∧ (t a x = true → Inv (u a x)))
    (hout : ∀ a x, x ∈ els → Inv a → scan (tst t u v) a0 els = .out (v a x) → outK (reF (H a).fr K) (f (e x) (H a)) = gb (t a x) (fun _ => none) fun _ => some r)
    (hend : ∀ a, Inv a → scan (tst t u v) a0 els = .go a → K (some (.nm, H a)) = some r) : ∀ I, rnds f tr (els.map e) σ = I → K I = some r := by
  rintro I rfl
  subst h0
  have key : ∀ (xs : List X) (a : α), (∀ x ∈ xs, x ∈ els) → Inv a → scan (tst t u v) a xs = scan (tst t u v) a0 els → K (rnds f tr (xs.map e) (H a)) = some r := by
    intro xs
    induction xs with
    | nil => intro a _ hi hs; exact hend a hi hs.symm
    | cons x xs ih =>
      intro a hm hi hs
      have hx := hm x List.mem_cons_self
      obtain ⟨k1, k2⟩ := hgo a x hx hi
      rw [List.map_cons, rn_cons]
      cases ht : t a x with
      | true =>
        rw [ht] at k1
        simp only [scan, tst, ht, if_true] at hs
        cases hf : f (e x) (H a) with
        | none => rw [hf] at k1; simp [stepE, gb] at k1
        | some r' =>
          obtain ⟨ex, σ'⟩ := r'
          rw [hf] at k1
          cases ex with
          | nm =>
            simp only [stepE, gb, trF, if_true] at k1
            rw [rnK_nm, k1]
            exact ih _ (fun y hy => hm y (List.mem_cons_of_mem _ hy)) (k2 ht) hs
          | ex i => simp [stepE, gb] at k1
          | rt => simp [stepE, gb] at k1
      | false =>
        simp only [scan, tst, ht, Bool.false_eq_true, if_false] at hs
        have k3 := hout a x hx hi hs.symm
        rw [ht] at k3
        cases hf : f (e x) (H a) with
        | none => rw [hf] at k3; simp [outK, gb] at k3
        | some r' =>
          obtain ⟨ex, σ'⟩ := r'
          rw [hf] at k3
          cases ex with
          | nm => simp [outK, gb] at k3
          | ex i => rw [rnK_ex]; simpa [outK, gb, reF] using k3
          | rt => rw [rnK_rt]; simpa [outK, gb, reF] using k3
  exact key els a0 (fun _ h => h) hi rfl
theorem rnds_all {α γ X : Type} {f : List D → St → Option (Ex × St)} {tr : St → Option St} {σ : St} {K : Option (Ex × St) → Option γ} {r : γ} (els : List X) {e : X → List D} (H : α → St) (u : α → X → α) (a0 : α)
    (h0 : σ = H a0) (hgo : ∀ a x, x ∈ els → stepE (trF (H a).fr tr) (f (e x) (H a)) = some (H (u a x))) (hend : K (some (.nm, H (els.foldl u a0))) = some r) : ∀ I, rnds f tr (els.map e) σ = I → K I = some r := by
  have hs : ∀ (xs : List X) (a : α), scan (tst (fun _ _ => true) u fun _ _ => ()) a xs = .go (xs.foldl u a) := by
    intro xs
    induction xs with
    | nil => intro a; rfl
    | cons x xs ih => intro a; simp only [scan, tst, if_true, List.foldl_cons]; exact ih _
  refine rnds_test els H (fun _ _ => true) u (fun _ _ => ()) (fun _ => True) a0 h0 trivial (fun a x hx _ => ⟨by rw [hgo a x hx]; rfl, fun _ => trivial⟩) (fun a x hx _ h => ?_) (fun a _ h => ?_)
  · rw [hs] at h; simp at h
  · rw [hs] at h
    simp only [Sc.go.injEq] at h
    subst h; exact hend
end Go.Proofs.Dv
set_option linter.unusedVariables false
set_option linter.unusedSimpArgs false
set_option maxRecDepth 100000
namespace Go.Proofs.Dv
open Go.RowKit
open Nat renaming reduceEqDiff → zA, reduceAdd → zB, reduceSub → zC, reduceLeDiff → zD, reduceLT → zE, reduceMul → zF
open Int renaming reduceToNat → zG, reduceLE → zH, reduceLT → zI
open List renaming set_cons_zero → zJ, set_cons_succ → zK
theorem c_nodes (C : Ctx) (N : Nat) (t : T) (nx : Nat) (hp : List (Nat × Blk)) : gcr nx (run C N ir169 [.agg t.d] hp nx) = some (.fn 176 [.ptr nx 0], (nx, .box t.d) :: hp, nx + 1) := by
  simp -dsimp only [run_eq, ir169, T.d_eq, EVs, ↓EVd, ↓reduceIte, zA, zB, zC, zD, zE, zF, reduceBEq, reduceCtorEq, zG, zH, zI, zJ, zK, dcells, okc]
mutual
theorem T.pre_len : ∀ t : T, t.pre.length = t.size
  | .mk k w b n l s => by
    rw [T.pre, T.size, List.length_cons, T.pres_len s]
theorem T.pres_len : ∀ s : List T, (T.pres s).length = T.sizes s
  | [] => by rw [T.pres, T.sizes]; rfl
  | t :: ts => by
    rw [T.pres, T.sizes, List.length_append, T.pre_len t, T.pres_len ts]
end
theorem fold_cnt : ∀ (s : List T) (a : Nat), a + s.length ≤ maxLen → s.foldl (fun (d : Int) _ => IntKind.i64.wrap (d + 1)) (a : Int) = ((a + s.length : Nat) : Int)
  | [], a, _ => by simp
  | t :: ts, a, h => by
    rw [List.length_cons] at h ⊢
    rw [List.foldl_cons, show IntKind.i64.wrap ((a : Int) + 1) = ((a + 1 : Nat) : Int) by rw [wr] <;> simp only [maxLen] at h <;> omega, fold_cnt ts _ (by omega)]
    congr 1; omega
def x_SizN (a : T) : List D := match a with | t => [.agg t.d]
theorem i_SizN : ∀ a b, x_SizN a = x_SizN b → a = b := by
  rintro t t' h
  first | simpa [x_SizN, INJ, and_assoc, Int.ofNat_inj] using h | (simp [x_SizN, INJ, and_assoc, Int.ofNat_inj] at h; simp_all)
open Classical in
noncomputable def s_SizN : List D → Option D := sOf x_SizN fun a => match a with | t => if (t.size ≤ 1000000) then some (.v (.int .i64 t.size)) else none
theorem e_SizN {t : T} (hc : (t.size ≤ 1000000)) : s_SizN [.agg t.d] = some (.v (.int .i64 t.size)) := (sOf_eq i_SizN t).trans (if_pos hc)
theorem R_SizN {C : Ctx} {F : IFun} (hspec : ∀ N, maxLen + 10 < N → ∀ (t : T), lenOK.lenOKs [.agg t.d] → (t.size ≤ 1000000) → runE C N F [.agg t.d] = some (.v (.int .i64 t.size))) : Runs C F (s_SizN) := runs_of i_SizN fun N hN t r hl hf => by
  simp only [Option.ite_none_right_eq_some, Option.some.injEq] at hf
  obtain ⟨hc, rfl⟩ := hf
  exact hspec N hN t hl hc
theorem r_SizN (C : Ctx) (hT : C.T 169 = none) (hcal : ∀ (t : T) (hp : List (Nat × Blk)) (nx : Nat), C.cal 169 [.agg t.d] hp nx = some (.fn 176 [.ptr nx 0], (nx, .box t.d) :: hp, nx + 1))
    (hI : ∀ t : T, C.I 176 [.rp t.d] = some (t.pre.map fun u => [.agg u.d])) : Runs C ir167 s_SizN := R_SizN fun N hN t hl hc => by
  have h1 := hcal t
  have h2 := hI t
  simp only [T.d_eq t] at h1 h2
  simp -dsimp only [runE, run_eq, ir167, T.d_eq t, hT, h1, EVn, h2, EVs, ↓EVd, ↓reduceIte, zA, zB, zC, zD, zE, zF, reduceBEq, reduceCtorEq, zG, zH, zI, zJ, zK, dcells, okc]
  generalize hI : rnds _ _ _ _ = I
  revert I
  refine rnds_all t.pre (fun d => ⟨[(2, .v (.int .i64 0)), (3, .ptr 1 0)], [(1, .box [.v (.int .i64 d)]), (0, .box t.d)], 3⟩) (fun (d : Int) _ => IntKind.i64.wrap (d + 1)) 0 ?_ ?_ ?_
  · simp -dsimp only [T.d_eq t, EVs, ↓EVd, ↓reduceIte, zA, zB, zC, zD, zE, zF, reduceBEq, reduceCtorEq, zG, zH, zI, zJ, zK, dcells, okc]
  · intro d u _
    simp -dsimp only [EVn, lp167x0, T.d_eq, EVs, ↓EVd, ↓reduceIte, zA, zB, zC, zD, zE, zF, reduceBEq, reduceCtorEq, zG, zH, zI, zJ, zK, dcells, okc]
  · have hf := fold_cnt t.pre 0 (by rw [T.pre_len]; have := maxLen_ge; omega)
    simp only [natc0, T.pre_len, Nat.zero_add] at hf
    rw [hf]
    simp -dsimp only [T.d_eq t, EVs, ↓EVd, ↓reduceIte, zA, zB, zC, zD, zE, zF, reduceBEq, reduceCtorEq, zG, zH, zI, zJ, zK, dcells, okc]
def eM (m : List (ByteArray × Int)) : List (Value × Value) := m.map fun p => (.string p.1, .int .i64 p.2)
def aF (n : ByteArray) : List (ByteArray × Int) → Nat → Option (Nat × Int)
  | [], _ => none
  | (k, w) :: m, i => if n = k then some (i, w) else aF n m (i + 1)
theorem bab (n k : ByteArray) : (n == k) = decide (n = k) := by
  obtain ⟨x⟩ := n
  obtain ⟨y⟩ := k
  have : ((⟨x⟩ : ByteArray) == ⟨y⟩) = (x == y) := rfl
  rw [this]
  simp only [ByteArray.mk.injEq]
  rw [Bool.eq_iff_iff]; simp
theorem mfind_a (n : ByteArray) : ∀ (m : List (ByteArray × Int)) (i : Nat), mfind true (.string n) (eM m) i = some ((aF n m i).map fun p => (p.1, .int .i64 p.2))
  | [], i => rfl
  | (k, w) :: m, i => by
    have ih := mfind_a n m (i + 1)
    simp only [eM, List.map_cons, mfind, sameK, aF] at ih ⊢
    by_cases h : n = k
    · subst h; rw [bab]; simp
    · rw [if_neg h, bab, decide_eq_false h]
      exact ih
theorem eM_nil : eM [] = [] := rfl
theorem eM_app {m : List (ByteArray × Int)} {n : ByteArray} {w : Int} : eM (m ++ [(n, w)]) = eM m ++ [(.string n, .int .i64 w)] := by simp [eM]
theorem eM_set {m : List (ByteArray × Int)} {n : ByteArray} {w : Int} {i : Nat} : eM (m.set i (n, w)) = (eM m).set i (.string n, .int .i64 w) := by simp [eM, List.map_set]
def vT (m : List (ByteArray × Int)) (u : T) : Bool := if u.kind = 2 then (match aF u.name m 0 with | some (_, w) => decide (w = u.width) | none => true) else true
def vU (m : List (ByteArray × Int)) (u : T) : List (ByteArray × Int) := if u.kind = 2 then (match aF u.name m 0 with | some (i, _) => m.set i (u.name, u.width) | none => m ++ [(u.name, u.width)]) else m
def vScan (t : T) : Sc (List (ByteArray × Int)) (List (ByteArray × Int)) := scan (tst vT vU fun m _ => m) [] t.pre
def vok (t : T) : Bool := scOK (vScan t)
def varR (t : T) : Sc (List (ByteArray × Int)) (List (ByteArray × Int)) → D × List (Nat × Blk) × Nat
  | .go m => (.tup [.mp 6, .v (.bool true)], [(7, .box [.mp 6]), (6, .map (eM m)), (5, .box [.v (.bool true)]), (4, .box [.mp 6]), (3, .box t.d), (1, .box [.v (.int .i64 0)]), (0, .box t.d)], 9)
  | .out _ => (.tup [.v (.map none), .v (.bool false)], [(1, .box [.v (.int .i64 0)]), (0, .box t.d)], 3)
theorem varR_go {t : T} {m : List (ByteArray × Int)} : varR t (.go m) = (.tup [.mp 6, .v (.bool true)], [(7, .box [.mp 6]), (6, .map (eM m)), (5, .box [.v (.bool true)]), (4, .box [.mp 6]), (3, .box t.d), (1, .box [.v (.int .i64 0)]), (0, .box t.d)], 9) := rfl
theorem varR_out {t : T} {m : List (ByteArray × Int)} : varR t (.out m) = (.tup [.v (.map none), .v (.bool false)], [(1, .box [.v (.int .i64 0)]), (0, .box t.d)], 3) := rfl
theorem c_variables (C : Ctx) (N : Nat) (t : T) (hT : C.T 169 = none) (hcal : ∀ (t : T) (hp : List (Nat × Blk)) (nx : Nat), C.cal 169 [.agg t.d] hp nx = some (.fn 176 [.ptr nx 0], (nx, .box t.d) :: hp, nx + 1))
    (hI : ∀ t : T, C.I 176 [.rp t.d] = some (t.pre.map fun u => [.agg u.d])) :
    gcr 3 (run C N ir171 [.agg t.d] [(1, .box [.v (.int .i64 0)]), (0, .box t.d)] 3) = some (varR t (vScan t)) := by
  have h1 := hcal t
  have h2 := hI t
  simp only [T.d_eq t] at h1 h2
  simp -dsimp only [run_eq, ir171, T.d_eq t, hT, h1, EVn, h2, EVs, ↓EVd, ↓reduceIte, zA, zB, zC, zD, zE, zF, reduceBEq, reduceCtorEq, zG, zH, zI, zJ, zK, dcells, okc]
  generalize hI : rnds _ _ _ _ = I
  revert I
  refine rnds_test t.pre (fun m => ⟨[(2, .ptr 4 0), (3, .ptr 5 0), (4, .ptr 7 0)], [(7, .box [.mp 6]), (6, .map (eM m)), (5, .box [.v (.bool false)]), (4, .box [.v (.map none)]), (3, .box t.d), (1, .box [.v (.int .i64 0)]), (0, .box t.d)], 9⟩) vT vU (fun m _ => m) (fun _ => True) [] ?_ trivial ?_ ?_ ?_
  · simp -dsimp only [T.d_eq t, eM_nil, EVs, ↓EVd, ↓reduceIte, zA, zB, zC, zD, zE, zF, reduceBEq, reduceCtorEq, zG, zH, zI, zJ, zK, dcells, okc]
  · intro m u _ _
    refine ⟨?_, fun _ => trivial⟩
    have hm := mfind_a u.name m 0
    by_cases hk : u.kind = 2
    · have hk' : decide (u.kind = 2) = true := decide_eq_true hk
      cases ha : aF u.name m 0 with
      | none =>
        have e1 : vT m u = true := by simp [vT, hk, ha]
        have e2 : vU m u = m ++ [(u.name, u.width)] := by simp [vU, hk, ha]
        rw [ha, Option.map_none] at hm
        rw [e1, e2, eM_app]
        simp -dsimp only [EVn, lp171x0, T.d_eq, hk', hm, EVs, ↓EVd, ↓reduceIte, zA, zB, zC, zD, zE, zF, reduceBEq, reduceCtorEq, zG, zH, zI, zJ, zK, dcells, okc]
      | some p =>
        obtain ⟨i, w⟩ := p
        have e1 : vT m u = decide (w = u.width) := by simp [vT, hk, ha]
        have e2 : vU m u = m.set i (u.name, u.width) := by simp [vU, hk, ha]
        rw [ha, Option.map_some] at hm
        rw [e1, e2, eM_set]
        simp -dsimp only [EVn, lp171x0, T.d_eq, hk', hm, EVs, ↓EVd, ↓reduceIte, zA, zB, zC, zD, zE, zF, reduceBEq, reduceCtorEq, zG, zH, zI, zJ, zK, dcells, okc]
        repeat' ((first | with_reducible refine gb_split (fun _ => ?_) (fun _ => ?_) | with_reducible refine gb_splitr (fun _ => ?_) (fun _ => ?_)) <;> (try simp -dsimp only [EVn, lp171x0, T.d_eq, hk', hm, EVs, ↓EVd, ↓reduceIte, zA, zB, zC, zD, zE, zF, reduceBEq, reduceCtorEq, zG, zH, zI, zJ, zK, dcells, okc, *]))
    · have hk' : decide (u.kind = 2) = false := decide_eq_false hk
      have e1 : vT m u = true := by simp [vT, hk]
      have e2 : vU m u = m := by simp [vU, hk]
      rw [e1, e2]
      simp -dsimp only [EVn, lp171x0, T.d_eq, hk', EVs, ↓EVd, ↓reduceIte, zA, zB, zC, zD, zE, zF, reduceBEq, reduceCtorEq, zG, zH, zI, zJ, zK, dcells, okc]
  · intro m u _ _ hs
    rw [vScan, hs, varR_out]
    have hm := mfind_a u.name m 0
    by_cases hk : u.kind = 2
    · have hk' : decide (u.kind = 2) = true := decide_eq_true hk
      cases ha : aF u.name m 0 with
      | none =>
        have e1 : vT m u = true := by simp [vT, hk, ha]
        rw [ha, Option.map_none] at hm
        rw [e1]
        simp -dsimp only [EVn, lp171x0, T.d_eq, hk', hm, EVs, ↓EVd, ↓reduceIte, zA, zB, zC, zD, zE, zF, reduceBEq, reduceCtorEq, zG, zH, zI, zJ, zK, dcells, okc]
      | some p =>
        obtain ⟨i, w⟩ := p
        have e1 : vT m u = decide (w = u.width) := by simp [vT, hk, ha]
        rw [ha, Option.map_some] at hm
        rw [e1]
        simp -dsimp only [EVn, lp171x0, T.d_eq, hk', hm, EVs, ↓EVd, ↓reduceIte, zA, zB, zC, zD, zE, zF, reduceBEq, reduceCtorEq, zG, zH, zI, zJ, zK, dcells, okc]
        repeat' ((first | with_reducible refine gb_split (fun _ => ?_) (fun _ => ?_) | with_reducible refine gb_splitr (fun _ => ?_) (fun _ => ?_)) <;> (try simp -dsimp only [EVn, lp171x0, T.d_eq, hk', hm, EVs, ↓EVd, ↓reduceIte, zA, zB, zC, zD, zE, zF, reduceBEq, reduceCtorEq, zG, zH, zI, zJ, zK, dcells, okc, *]))
    · have hk' : decide (u.kind = 2) = false := decide_eq_false hk
      have e1 : vT m u = true := by simp [vT, hk]
      rw [e1]
      simp -dsimp only [EVn, lp171x0, T.d_eq, hk', EVs, ↓EVd, ↓reduceIte, zA, zB, zC, zD, zE, zF, reduceBEq, reduceCtorEq, zG, zH, zI, zJ, zK, dcells, okc]
  · intro m _ hs
    rw [vScan, hs, varR_go]
    simp -dsimp only [T.d_eq t, EVs, ↓EVd, ↓reduceIte, zA, zB, zC, zD, zE, zF, reduceBEq, reduceCtorEq, zG, zH, zI, zJ, zK, dcells, okc]
def chkT (t : T) : Int := bif decide (400 < (t.size : Int)) then 4 else bif decide (60 < (t.depth : Int)) then 4 else bif !t.pre.all nodeOK then 8 else bif !vok t then 14 else 0
def x_ChkT (a : T) : List D := match a with | t => [.agg t.d]
theorem i_ChkT : ∀ a b, x_ChkT a = x_ChkT b → a = b := by
  rintro t t' h
  first | simpa [x_ChkT, INJ, and_assoc, Int.ofNat_inj] using h | (simp [x_ChkT, INJ, and_assoc, Int.ofNat_inj] at h; simp_all)
open Classical in
noncomputable def s_ChkT (n : Nat) : List D → Option D := sOf x_ChkT fun a => match a with | t => if (t.depth ≤ n ∧ n ≤ 1000 ∧ t.size ≤ 1000000 ∧ ∀ u ∈ t.pre, 0 ≤ u.kind) then some (.v (.int .i64 (chkT t))) else none
theorem e_ChkT {n : Nat} {t : T} (hc : (t.depth ≤ n ∧ n ≤ 1000 ∧ t.size ≤ 1000000 ∧ ∀ u ∈ t.pre, 0 ≤ u.kind)) : s_ChkT n [.agg t.d] = some (.v (.int .i64 (chkT t))) := (sOf_eq i_ChkT t).trans (if_pos hc)
theorem R_ChkT {n : Nat} {C : Ctx} {F : IFun} (hspec : ∀ N, maxLen + 10 < N → ∀ (t : T), lenOK.lenOKs [.agg t.d] → (t.depth ≤ n ∧ n ≤ 1000 ∧ t.size ≤ 1000000 ∧ ∀ u ∈ t.pre, 0 ≤ u.kind) → runE C N F [.agg t.d] = some (.v (.int .i64 (chkT t)))) : Runs C F (s_ChkT n) := runs_of i_ChkT fun N hN t r hl hf => by
  simp only [Option.ite_none_right_eq_some, Option.some.injEq] at hf
  obtain ⟨hc, rfl⟩ := hf
  exact hspec N hN t hl hc
theorem r_ChkT (C : Ctx) (n : Nat) (hT : C.T 169 = none) (hTv : C.T 171 = none) (hS : C.T 167 = some s_SizN) (hD : C.T 168 = some (s_Dep n)) (hO : C.T 170 = some s_NodeOK)
    (hcal : ∀ (t : T) (hp : List (Nat × Blk)) (nx : Nat), C.cal 169 [.agg t.d] hp nx = some (.fn 176 [.ptr nx 0], (nx, .box t.d) :: hp, nx + 1))
    (hcv : ∀ t : T, C.cal 171 [.agg t.d] [(1, .box [.v (.int .i64 0)]), (0, .box t.d)] 3 = some (varR t (vScan t)))
    (hI : ∀ t : T, C.I 176 [.rp t.d] = some (t.pre.map fun u => [.agg u.d])) : Runs C ir163 (s_ChkT n) := R_ChkT fun N hN t hl hc => by
  have h1 := hcal t
  have h2 := hI t
  have h3 := hcv t
  have eS := @e_SizN t hc.2.2.1
  have eD := @e_Dep n t ⟨hc.1, hc.2.1⟩
  simp only [T.d_eq t] at h1 h2 h3 eS eD
  cases g1 : decide (400 < (t.size : Int))
  case true => simp -dsimp only [runE, run_eq, ir163, T.d_eq t, hS, eS, g1, chkT, EVs, ↓EVd, ↓reduceIte, zA, zB, zC, zD, zE, zF, reduceBEq, reduceCtorEq, zG, zH, zI, zJ, zK, dcells, okc]
  cases g2 : decide (60 < (t.depth : Int))
  case true => simp -dsimp only [runE, run_eq, ir163, T.d_eq t, hS, eS, hD, eD, g1, g2, chkT, EVs, ↓EVd, ↓reduceIte, zA, zB, zC, zD, zE, zF, reduceBEq, reduceCtorEq, zG, zH, zI, zJ, zK, dcells, okc]
  simp -dsimp only [runE, run_eq, ir163, T.d_eq t, hS, eS, hD, eD, g1, g2, chkT, hT, h1, EVn, h2, EVs, ↓EVd, ↓reduceIte, zA, zB, zC, zD, zE, zF, reduceBEq, reduceCtorEq, zG, zH, zI, zJ, zK, dcells, okc]
  generalize hI : rnds _ _ _ _ = I
  revert I
  refine rnds_test t.pre (fun (_ : Unit) => ⟨[(1, .ptr 0 0), (2, .ptr 1 0)], [(1, .box [.v (.int .i64 0)]), (0, .box t.d)], 3⟩) (fun _ u => nodeOK u) (fun a _ => a) (fun _ _ => ()) (fun _ => True) () ?_ trivial ?_ ?_ ?_
  · simp -dsimp only [T.d_eq t, EVs, ↓EVd, ↓reduceIte, zA, zB, zC, zD, zE, zF, reduceBEq, reduceCtorEq, zG, zH, zI, zJ, zK, dcells, okc]
  · intro _ u hu _
    have e1 := @e_NodeOK u (hc.2.2.2 u hu)
    simp only [T.d_eq u] at e1
    refine ⟨?_, fun _ => trivial⟩
    simp -dsimp only [EVn, lp163x0, T.d_eq, hO, e1, EVs, ↓EVd, ↓reduceIte, zA, zB, zC, zD, zE, zF, reduceBEq, reduceCtorEq, zG, zH, zI, zJ, zK, dcells, okc]
    repeat' ((first | with_reducible refine gb_split (fun _ => ?_) (fun _ => ?_) | with_reducible refine gb_splitr (fun _ => ?_) (fun _ => ?_)) <;> (try simp -dsimp only [EVn, lp163x0, T.d_eq, hO, e1, EVs, ↓EVd, ↓reduceIte, zA, zB, zC, zD, zE, zF, reduceBEq, reduceCtorEq, zG, zH, zI, zJ, zK, dcells, okc, *]))
  · intro _ u hu _ hs
    have e1 := @e_NodeOK u (hc.2.2.2 u hu)
    simp only [T.d_eq u] at e1
    have hq := all_out hs
    simp -dsimp only [EVn, lp163x0, T.d_eq, hO, e1, hq, EVs, ↓EVd, ↓reduceIte, zA, zB, zC, zD, zE, zF, reduceBEq, reduceCtorEq, zG, zH, zI, zJ, zK, dcells, okc]
    repeat' ((first | with_reducible refine gb_split (fun _ => ?_) (fun _ => ?_) | with_reducible refine gb_splitr (fun _ => ?_) (fun _ => ?_)) <;> (try simp -dsimp only [EVn, lp163x0, T.d_eq, hO, e1, hq, EVs, ↓EVd, ↓reduceIte, zA, zB, zC, zD, zE, zF, reduceBEq, reduceCtorEq, zG, zH, zI, zJ, zK, dcells, okc, *]))
  · intro _ _ hs
    have hq := all_go hs
    cases hv : vScan t with
    | go m =>
      have hw : vok t = true := by rw [vok, hv, sc_go]
      rw [hv, varR_go] at h3
      simp only [T.d_eq t] at h3
      simp -dsimp only [EVn, T.d_eq t, hq, hw, hTv, h3, EVs, ↓EVd, ↓reduceIte, zA, zB, zC, zD, zE, zF, reduceBEq, reduceCtorEq, zG, zH, zI, zJ, zK, dcells, okc]
    | out m =>
      have hw : vok t = false := by rw [vok, hv, sc_out]
      rw [hv, varR_out] at h3
      simp only [T.d_eq t] at h3
      simp -dsimp only [EVn, T.d_eq t, hq, hw, hTv, h3, EVs, ↓EVd, ↓reduceIte, zA, zB, zC, zD, zE, zF, reduceBEq, reduceCtorEq, zG, zH, zI, zJ, zK, dcells, okc]
end Go.Proofs.Dv
set_option linter.unusedVariables false
set_option linter.unusedSimpArgs false
set_option maxRecDepth 100000
namespace Go.Proofs.Dv
open Go.RowKit
open Nat renaming reduceEqDiff → zA, reduceAdd → zB, reduceSub → zC, reduceLeDiff → zD, reduceLT → zE, reduceMul → zF
open Int renaming reduceToNat → zG, reduceLE → zH, reduceLT → zI
open List renaming set_cons_zero → zJ, set_cons_succ → zK
def cD (m : Mc) (ok : Bool) : List D := [.v (.string m.name), .v (.int .i64 m.word), .v (.int .i64 m.address), .lst false (m.regs.map Rg.d), .lst false (m.banks.map Bk.d), .lst false (m.units.map Un.d), .lst false (m.instrs.map Ins.d), .v (.bool ok)]
structure Ckr (id nx : Nat) (m : Mc) (H : Bool → List (Nat × Blk)) : Prop where
  lk : ∀ ok, lkh (H ok) id = some (.box (cD m ok))
  up : ∀ ok ok', uph (H ok) id (.box (cD m ok')) = H ok'
  a : ∀ ok, hplt nx (H ok) = true
  b : ∀ ok, (H ok).filter (fun p => decide (p.1 < nx)) = H ok
  i : decide (id < nx) = true
def blD (b : Bool) : List D := [.v (.bool b)]
theorem c_must (C : Ctx) (N : Nat) (hN : maxLen + 10 < N) {id nx : Nat} {m : Mc} {H : Bool → List (Nat × Blk)} (hk : Ckr id nx m H) (bs : List Bool) (hl : bs.length ≤ maxLen) (ok : Bool) :
    gcr nx (run C N ir56 [.ptr id 0, .lst true (bs.map blD)] (H ok) nx) = some (.tup [], H (ok && bs.all fun b => b), nx) := by
  have ha := hk.a
  have hb := hk.b
  have hi := hk.i
  have hlk := hk.lk
  have hup := hk.up
  simp only [cD] at hlk hup
  simp -dsimp only [run_eq, ir56, EVs, ↓EVd, ↓reduceIte, zA, zB, zC, zD, zE, zF, reduceBEq, reduceCtorEq, zG, zH, zI, zJ, zK, dcells, okc]
  generalize hI : iter _ _ _ _ = I
  revert I
  refine iter_all bs (fun i ok => ⟨[(0, .ptr id 0), (6, .lst true (bs.map blD)), (7, .v (.int .i64 bs.length)), (8, .v (.int .i64 i))], H ok, nx⟩) (fun ok b => ok && b) (fun _ _ => True) ok hl hN ?_ trivial ?_ ?_
  · simp -dsimp only [ha, hb, hi, EVs, ↓EVd, ↓reduceIte, zA, zB, zC, zD, zE, zF, reduceBEq, reduceCtorEq, zG, zH, zI, zJ, zK, dcells, okc]
  · intro i ok b h1 h2 h3 _
    refine ⟨?_, trivial⟩
    cases ok <;> simp -dsimp only [lp56x0, h1, h2, h3, blD, ha, hb, hi, hlk, hup, EVs, ↓EVd, ↓reduceIte, zA, zB, zC, zD, zE, zF, reduceBEq, reduceCtorEq, zG, zH, zI, zJ, zK, dcells, okc]
  · intro _
    have : ∀ (l : List Bool) (a : Bool), l.foldl (fun ok b => ok && b) a = (a && l.all fun b => b) := by
      intro l
      induction l with
      | nil => intro a; simp
      | cons b l ih => intro a; rw [List.foldl_cons, ih]; simp [Bool.and_assoc]
    rw [this]
    simp -dsimp only [lp56x0, ha, hb, EVs, ↓EVd, ↓reduceIte, zA, zB, zC, zD, zE, zF, reduceBEq, reduceCtorEq, zG, zH, zI, zJ, zK, dcells, okc]
theorem lkh_uph_ne {b : Blk} {j r : Nat} (h : (j = r) = False) : ∀ hp : List (Nat × Blk), lkh (uph hp r b) j = lkh hp j
  | [] => rfl
  | (k, c) :: hp => by
    simp only [uph]
    split
    · rename_i hr
      subst hr
      simp only [lkh, h, if_false]
    · simp only [lkh, lkh_uph_ne h hp]
structure Nmr (jd r nx : Nat) (H : List ByteArray → List (Nat × Blk)) : Prop where
  lk : ∀ ns, lkh (H ns) jd = some (.box [.own r ns.length])
  lr : ∀ ns, lkh (H ns) r = some (.row 1 (ns.map strD))
  up : ∀ ns x, uph (uph (H ns) r (.row 1 (ns.map strD ++ [strD x]))) jd (.box [.own r (ns.length + 1)]) = H (ns ++ [x])
  a : ∀ ns, hplt nx (H ns) = true
  b : ∀ ns, (H ns).filter (fun p => decide (p.1 < nx)) = H ns
  i : decide (jd < nx) = true
  ri : decide (r < nx) = true
  e : (jd = r) = False
def freshB (ns : List ByteArray) (s : ByteArray) : Bool := nameOK s && !has s ns
theorem szStr {l : List ByteArray} : ((l.map strD).all fun e => e.length == 1) = true := by simp [strD]
theorem c_fresh (C : Ctx) (N : Nat) (hN : C.T 57 = some s_Name) (hS : C.T 106 = some s_HasS) {jd r nx : Nat} {H : List ByteArray → List (Nat × Blk)} (hk : Nmr jd r nx H) (ns : List ByteArray) (hl : ns.length ≤ 1000000) (s : ByteArray) :
    gcr nx (run C N ir62 [.ptr jd 0, .v (.string s)] (H ns) nx) = some (.v (.bool (freshB ns s)), H (ns ++ [s]), nx) := by
  have ha := hk.a
  have hb := hk.b
  have hi := hk.i
  have hr := hk.ri
  have he := hk.e
  have hlk := hk.lk
  have hlr := hk.lr
  have hup := hk.up
  have hlu : ∀ ns b, lkh (uph (H ns) r b) jd = some (.box [.own r ns.length]) := fun ns b => (lkh_uph_ne he _).trans (hlk ns)
  have hb' : decide ((ns.length + 1) * 16 ≤ 140737488355328) = true := decide_eq_true (by omega)
  have e1 := @e_HasS false ns s
  have e2 := @e_Name s
  simp only [strD] at hup
  cases hn : nameOK s
  · simp -dsimp only [run_eq, ir62, hlk, hlr, hlu, hup, hN, e2, hn, freshB, szStr, hb', ha, hb, EVs, ↓EVd, ↓reduceIte, zA, zB, zC, zD, zE, zF, reduceBEq, reduceCtorEq, zG, zH, zI, zJ, zK, dcells, okc]
  · simp -dsimp only [run_eq, ir62, hlk, hlr, hlu, hup, hN, hS, e1, e2, hn, freshB, szStr, hb', ha, hb, EVs, ↓EVd, ↓reduceIte, zA, zB, zC, zD, zE, zF, reduceBEq, reduceCtorEq, zG, zH, zI, zJ, zK, dcells, okc]
end Go.Proofs.Dv
set_option linter.unusedVariables false
set_option linter.unusedSimpArgs false
set_option maxRecDepth 100000
namespace Go.Proofs.Dv
open Go.RowKit
open Nat renaming reduceEqDiff → zA, reduceAdd → zB, reduceSub → zC, reduceLeDiff → zD, reduceLT → zE, reduceMul → zF
open Int renaming reduceToNat → zG, reduceLE → zH, reduceLT → zI
open List renaming set_cons_zero → zJ, set_cons_succ → zK
def MustC (C : Ctx) : Prop := C.T 56 = none ∧ ∀ {id nx : Nat} {m : Mc} {H : Bool → List (Nat × Blk)}, Ckr id nx m H → ∀ (bs : List Bool), bs.length ≤ maxLen → ∀ ok, C.cal 56 [.ptr id 0, .lst true (bs.map blD)] (H ok) nx = some (.tup [], H (ok && bs.all fun b => b), nx)
def FreshC (C : Ctx) : Prop := C.T 62 = none ∧ ∀ {jd r nx : Nat} {H : List ByteArray → List (Nat × Blk)}, Nmr jd r nx H → ∀ (ns : List ByteArray), ns.length ≤ 1000000 → ∀ s, C.cal 62 [.ptr jd 0, .v (.string s)] (H ns) nx = some (.v (.bool (freshB ns s)), H (ns ++ [s]), nx)
theorem mustE {C : Ctx} (h : MustC C) {id nx : Nat} {m : Mc} {H : Bool → List (Nat × Blk)} (hk : Ckr id nx m H) :
    (∀ ok a, C.cal 56 [.ptr id 0, .lst true [[.v (.bool a)]]] (H ok) nx = some (.tup [], H (ok && a), nx)) ∧
    (∀ ok a b, C.cal 56 [.ptr id 0, .lst true [[.v (.bool a)], [.v (.bool b)]]] (H ok) nx = some (.tup [], H (ok && (a && b)), nx)) ∧
    (∀ ok a b c, C.cal 56 [.ptr id 0, .lst true [[.v (.bool a)], [.v (.bool b)], [.v (.bool c)]]] (H ok) nx = some (.tup [], H (ok && (a && (b && c))), nx)) ∧
    (∀ ok a b c d, C.cal 56 [.ptr id 0, .lst true [[.v (.bool a)], [.v (.bool b)], [.v (.bool c)], [.v (.bool d)]]] (H ok) nx = some (.tup [], H (ok && (a && (b && (c && d)))), nx)) ∧
    (∀ ok a b c d e, C.cal 56 [.ptr id 0, .lst true [[.v (.bool a)], [.v (.bool b)], [.v (.bool c)], [.v (.bool d)], [.v (.bool e)]]] (H ok) nx = some (.tup [], H (ok && (a && (b && (c && (d && e))))), nx)) ∧
    (∀ ok a b c d e f g, C.cal 56 [.ptr id 0, .lst true [[.v (.bool a)], [.v (.bool b)], [.v (.bool c)], [.v (.bool d)], [.v (.bool e)], [.v (.bool f)], [.v (.bool g)]]] (H ok) nx = some (.tup [], H (ok && (a && (b && (c && (d && (e && (f && g))))))), nx)) := by
  have key := fun (bs : List Bool) (hb : bs.length ≤ 7) ok => h.2 hk bs (by have := maxLen_ge; omega) ok
  refine ⟨fun ok a => ?_, fun ok a b => ?_, fun ok a b c => ?_, fun ok a b c d => ?_, fun ok a b c d e => ?_, fun ok a b c d e f g => ?_⟩
  · simpa [blD] using key [a] (by simp) ok
  · simpa [blD] using key [a, b] (by simp) ok
  · simpa [blD] using key [a, b, c] (by simp) ok
  · simpa [blD] using key [a, b, c, d] (by simp) ok
  · simpa [blD] using key [a, b, c, d, e] (by simp) ok
  · simpa [blD] using key [a, b, c, d, e, f, g] (by simp) ok
def HR (m : Mc) (ok : Bool) (ns : List ByteArray) : List (Nat × Blk) := [(3, .row 1 (ns.map strD)), (2, .box [.own 3 ns.length]), (1, .box (cD m ok)), (0, .box m.d)]
theorem HR_ck (m : Mc) (ns : List ByteArray) (nx : Nat) (h : nx = 4 ∨ nx = 5) : Ckr 1 nx m (fun ok => HR m ok ns) := by
  rcases h with rfl | rfl <;> constructor <;> intros <;> simp -dsimp only [HR, cD, Mc.d, EVs, ↓EVd, ↓reduceIte, zA, zB, zC, zD, zE, zF, reduceBEq, reduceCtorEq, zG, zH, zI, zJ, zK, dcells, okc]
theorem HR_ck6 (m : Mc) (ns : List ByteArray) (p : Rg) : Ckr 1 6 m (fun ok => (5, .box p.d) :: HR m ok ns) := by
  constructor <;> intros <;> simp -dsimp only [HR, cD, Mc.d, Rg.d, EVs, ↓EVd, ↓reduceIte, zA, zB, zC, zD, zE, zF, reduceBEq, reduceCtorEq, zG, zH, zI, zJ, zK, dcells, okc]
theorem HR_nm (m : Mc) (ok : Bool) : Nmr 2 3 5 (fun ns => HR m ok ns) := by
  constructor <;> intros <;> simp -dsimp only [HR, cD, Mc.d, List.map_append, List.length_append, EVs, ↓EVd, ↓reduceIte, zA, zB, zC, zD, zE, zF, reduceBEq, reduceCtorEq, zG, zH, zI, zJ, zK, dcells, okc]
def unitOK (ns : List ByteArray) (u : Un) : Bool := freshB ns u.name && inB u.count 1 4
def unitF (a : Bool × List ByteArray) (u : Un) : Bool × List ByteArray := (a.1 && unitOK a.2 u, a.2 ++ [u.name])
def unitsOK (m : Mc) : Bool := decide (0 < (m.units.length : Int)) && (m.units.foldl unitF (true, [])).1
theorem c_units (C : Ctx) (N : Nat) (hN : maxLen + 10 < N) (hM : MustC C) (hF : FreshC C) (hW : C.T 58 = some s_in) (m : Mc) (hl : m.units.length ≤ 1000) (ok : Bool) :
    gcr 2 (run C N ir61 [.ptr 1 0] [(1, .box (cD m ok)), (0, .box m.d)] 2) = some (.tup [], [(1, .box (cD m (ok && unitsOK m))), (0, .box m.d)], 2) := by
  have h1 := (mustE hM (HR_ck m [] 4 (.inl rfl))).1 ok
  simp only [HR, cD, Mc.d, List.map_nil, List.length_nil] at h1
  have hml := maxLen_ge
  simp -dsimp only [run_eq, ir61, cD, Mc.d, hM.1, h1, EVs, ↓EVd, ↓reduceIte, zA, zB, zC, zD, zE, zF, reduceBEq, reduceCtorEq, zG, zH, zI, zJ, zK, dcells, okc]
  generalize hI : iter _ _ _ _ = I
  revert I
  refine iter_all m.units (fun i (a : Bool × List ByteArray) => ⟨[(0, .ptr 1 0), (2, .ptr 2 0), (19, .lst false (m.units.map Un.d)), (20, .v (.int .i64 m.units.length)), (21, .v (.int .i64 i))], HR m a.1 a.2, 4⟩) unitF (fun i a => a.2.length = i) (ok && decide (0 < (m.units.length : Int)), []) (by omega) hN ?_ rfl ?_ ?_
  · simp -dsimp only [HR, cD, Mc.d, EVs, ↓EVd, ↓reduceIte, zA, zB, zC, zD, zE, zF, reduceBEq, reduceCtorEq, zG, zH, zI, zJ, zK, dcells, okc]
  · rintro i ⟨ok, ns⟩ u hi hw hu hlen
    simp only at hlen
    have hil : i < m.units.length := (List.getElem?_eq_some_iff.1 hu).1
    have h2 := hF.2 (HR_nm m ok) ns (by omega) u.name
    have h3 := (mustE hM (HR_ck m (ns ++ [u.name]) 5 (.inr rfl))).2.1 ok
    have e1 := @e_in u.count 1 4
    simp only [HR, cD, Mc.d] at h2 h3
    refine ⟨?_, by simp [unitF, hlen]⟩
    simp -dsimp only [HR, cD, Mc.d, Un.d, lp61x0, hi, hw, hu, hF.1, h2, hM.1, h3, hW, e1, unitF, unitOK, EVs, ↓EVd, ↓reduceIte, zA, zB, zC, zD, zE, zF, reduceBEq, reduceCtorEq, zG, zH, zI, zJ, zK, dcells, okc]
  · intro hlen
    have : ∀ (l : List Un) (a : Bool × List ByteArray) (b : Bool), (l.foldl unitF (b && a.1, a.2)).1 = (b && (l.foldl unitF a).1) ∧ (l.foldl unitF (b && a.1, a.2)).2 = (l.foldl unitF a).2 := by
      intro l
      induction l with
      | nil => intro a b; exact ⟨rfl, rfl⟩
      | cons u l ih =>
        intro a b
        simp only [List.foldl_cons]
        have := ih (unitF a u) b
        simpa [unitF, Bool.and_assoc] using this
    have h4 := (this m.units (true, []) (ok && decide (0 < (m.units.length : Int)))).1
    simp only [Bool.and_true] at h4
    simp -dsimp only [HR, cD, Mc.d, lp61x0, h4, unitsOK, Bool.and_assoc, EVs, ↓EVd, ↓reduceIte, zA, zB, zC, zD, zE, zF, reduceBEq, reduceCtorEq, zG, zH, zI, zJ, zK, dcells, okc]
theorem inB_get {α : Type} {l : List α} {i : Int} (hl : l.length ≤ 1000000) (h : inB i 0 (IntKind.i64.wrap ((l.length : Int) - 1)) = true) : decide (0 ≤ i) = true ∧ ∃ p, l[i.toNat]? = some p := by
  simp only [inB, Bool.and_eq_true, decide_eq_true_eq] at h
  rw [wr _ (by omega) (by omega)] at h
  exact ⟨decide_eq_true h.1, l[i.toNat]'(by omega), List.getElem?_eq_getElem (by omega)⟩
def regRest (m : Mc) (r : Rg) : Bool := bif decide (r.of_ = -1) then decide (r.low = 0) else bif !inB r.of_ 0 (IntKind.i64.wrap ((m.regs.length : Int) - 1)) then false else
  match m.regs[r.of_.toNat]? with
  | some p => decide (p.of_ = -1) && (decide (r.width < p.width) && (inB p.width 1 64 && inB r.low 0 (IntKind.i64.wrap (p.width - r.width))))
  | none => false
def regF (m : Mc) (a : Bool × List ByteArray) (r : Rg) : Bool × List ByteArray := (a.1 && (freshB a.2 r.name && inB r.width 1 64 && regRest m r), a.2 ++ [r.name])
def regsOK (m : Mc) : Bool := decide (0 < (m.regs.length : Int)) && (m.regs.foldl (regF m) (true, [])).1
theorem c_regs (C : Ctx) (N : Nat) (hN : maxLen + 10 < N) (hM : MustC C) (hF : FreshC C) (hW : C.T 58 = some s_in) (m : Mc) (hl : m.regs.length ≤ 1000) (ok : Bool) :
    gcr 2 (run C N ir59 [.ptr 1 0] [(1, .box (cD m ok)), (0, .box m.d)] 2) = some (.tup [], [(1, .box (cD m (ok && regsOK m))), (0, .box m.d)], 2) := by
  have h1 := (mustE hM (HR_ck m [] 4 (.inl rfl))).1 ok
  simp only [HR, cD, Mc.d, List.map_nil, List.length_nil] at h1
  have hml := maxLen_ge
  simp -dsimp only [run_eq, ir59, cD, Mc.d, hM.1, h1, EVs, ↓EVd, ↓reduceIte, zA, zB, zC, zD, zE, zF, reduceBEq, reduceCtorEq, zG, zH, zI, zJ, zK, dcells, okc]
  generalize hI : iter _ _ _ _ = I
  revert I
  refine iter_all m.regs (fun i (a : Bool × List ByteArray) => ⟨[(0, .ptr 1 0), (2, .ptr 2 0), (20, .lst false (m.regs.map Rg.d)), (21, .v (.int .i64 m.regs.length)), (22, .v (.int .i64 i))], HR m a.1 a.2, 4⟩) (regF m) (fun i a => a.2.length = i) (ok && decide (0 < (m.regs.length : Int)), []) (by omega) hN ?_ rfl ?_ ?_
  · simp -dsimp only [HR, cD, Mc.d, EVs, ↓EVd, ↓reduceIte, zA, zB, zC, zD, zE, zF, reduceBEq, reduceCtorEq, zG, zH, zI, zJ, zK, dcells, okc]
  · rintro i ⟨ok, ns⟩ r hi hw hu hlen
    simp only at hlen
    have hil : i < m.regs.length := (List.getElem?_eq_some_iff.1 hu).1
    have h2 := hF.2 (HR_nm m ok) ns (by omega) r.name
    have hk := HR_ck m (ns ++ [r.name]) 5 (.inr rfl)
    have h3 := (mustE hM hk).2.1 ok
    have h4 := (mustE hM hk).1 (ok && (freshB ns r.name && inB r.width 1 64))
    have e1 := @e_in r.width 1 64
    have e2 := @e_in r.of_ 0 (IntKind.i64.wrap ((m.regs.length : Int) - 1))
    simp only [HR, cD, Mc.d] at h2 h3 h4
    refine ⟨?_, by simp [regF, hlen]⟩
    cases g1 : decide (r.of_ = -1)
    case true => simp -dsimp only [HR, cD, Mc.d, Rg.d, lp59x0, hi, hw, hu, hF.1, h2, hM.1, h3, h4, hW, e1, g1, regF, regRest, Bool.and_assoc, EVs, ↓EVd, ↓reduceIte, zA, zB, zC, zD, zE, zF, reduceBEq, reduceCtorEq, zG, zH, zI, zJ, zK, dcells, okc]
    cases g2 : inB r.of_ 0 (IntKind.i64.wrap ((m.regs.length : Int) - 1))
    case false => simp -dsimp only [HR, cD, Mc.d, Rg.d, lp59x0, hi, hw, hu, hF.1, h2, hM.1, h3, h4, hW, e1, g1, e2, g2, regF, regRest, Bool.and_assoc, EVs, ↓EVd, ↓reduceIte, zA, zB, zC, zD, zE, zF, reduceBEq, reduceCtorEq, zG, zH, zI, zJ, zK, dcells, okc]
    obtain ⟨q1, p, q2⟩ := inB_get (l := m.regs) (by omega) g2
    have h5 := (mustE hM (HR_ck6 m (ns ++ [r.name]) p)).2.2.2.1 (ok && (freshB ns r.name && inB r.width 1 64))
    have e3 := @e_in p.width 1 64
    have e4 := @e_in r.low 0 (IntKind.i64.wrap (p.width - r.width))
    simp only [HR, cD, Mc.d, Rg.d] at h5
    simp -dsimp only [HR, cD, Mc.d, Rg.d, lp59x0, hi, hw, hu, hF.1, h2, hM.1, h3, h5, hW, e1, g1, e2, g2, e3, e4, q1, q2, regF, regRest, Bool.and_assoc, EVs, ↓EVd, ↓reduceIte, zA, zB, zC, zD, zE, zF, reduceBEq, reduceCtorEq, zG, zH, zI, zJ, zK, dcells, okc]
  · intro hlen
    have : ∀ (l : List Rg) (a : Bool × List ByteArray) (b : Bool), (l.foldl (regF m) (b && a.1, a.2)).1 = (b && (l.foldl (regF m) a).1) ∧ (l.foldl (regF m) (b && a.1, a.2)).2 = (l.foldl (regF m) a).2 := by
      intro l
      induction l with
      | nil => intro a b; exact ⟨rfl, rfl⟩
      | cons u l ih =>
        intro a b
        simp only [List.foldl_cons]
        have := ih (regF m a u) b
        simpa [regF, Bool.and_assoc] using this
    have h4 := (this m.regs (true, []) (ok && decide (0 < (m.regs.length : Int)))).1
    simp only [Bool.and_true] at h4
    simp -dsimp only [HR, cD, Mc.d, lp59x0, h4, regsOK, Bool.and_assoc, EVs, ↓EVd, ↓reduceIte, zA, zB, zC, zD, zE, zF, reduceBEq, reduceCtorEq, zG, zH, zI, zJ, zK, dcells, okc]
def regW (m : Mc) (i : Int) : Int := ((m.regs[i.toNat]?).map Rg.width).getD 0
def bank0 (b : Bk) : Int := (b.regs[0]?).getD 0
def bankRF (m : Mc) (b : Bk) (a : Nat × Bool) (r : Int) : Nat × Bool := (a.1 + 1, a.2 && (inB r 0 (IntKind.i64.wrap ((m.regs.length : Int) - 1)) && !has r (b.regs.take a.1)) && decide (regW m r = regW m (bank0 b)))
def bankF (m : Mc) (a : Bool × List ByteArray) (b : Bk) : Bool × List ByteArray := ((b.regs.foldl (bankRF m b) (0, a.1 && (freshB a.2 b.name && decide (0 < (b.regs.length : Int))))).2, a.2 ++ [b.name])
def banksOK (m : Mc) : Bool := (m.banks.foldl (bankF m) (true, [])).1
theorem bankRF_and (m : Mc) (b : Bk) : ∀ (l : List Int) (n : Nat) (x y : Bool), (l.foldl (bankRF m b) (n, x && y)).2 = (x && (l.foldl (bankRF m b) (n, y)).2)
  | [], n, x, y => rfl
  | r :: l, n, x, y => by
    simp only [List.foldl_cons]
    have := bankRF_and m b l (n + 1) x (bankRF m b (n, y) r).2
    simpa [bankRF, Bool.and_assoc] using this
theorem bankF_and (m : Mc) : ∀ (l : List Bk) (a : Bool × List ByteArray) (x : Bool), (l.foldl (bankF m) (x && a.1, a.2)).1 = (x && (l.foldl (bankF m) a).1)
  | [], a, x => rfl
  | b :: l, a, x => by
    simp only [List.foldl_cons]
    have := bankF_and m l (bankF m a b) x
    rw [← this]
    congr 2
    simp only [bankF, Bool.and_assoc, bankRF_and]
theorem c_banks (C : Ctx) (N : Nat) (hN : maxLen + 10 < N) (hM : MustC C) (hF : FreshC C) (hW : C.T 58 = some s_in) (hH : C.T 100 = some s_HasI) (m : Mc) (hl : m.banks.length ≤ 1000) (hr : m.regs.length ≤ 1000) (hb : ∀ b ∈ m.banks, b.regs.length ≤ 1000) (ok : Bool) :
    gcr 2 (run C N ir60 [.ptr 1 0] [(1, .box (cD m ok)), (0, .box m.d)] 2) = some (.tup [], [(1, .box (cD m (ok && banksOK m))), (0, .box m.d)], 2) := by
  have hml := maxLen_ge
  simp -dsimp only [run_eq, ir60, cD, Mc.d, hM.1, EVs, ↓EVd, ↓reduceIte, zA, zB, zC, zD, zE, zF, reduceBEq, reduceCtorEq, zG, zH, zI, zJ, zK, dcells, okc]
  generalize hI : iter _ _ _ _ = I
  revert I
  refine iter_all m.banks (fun i (a : Bool × List ByteArray) => ⟨[(0, .ptr 1 0), (2, .ptr 2 0), (11, .lst false (m.banks.map Bk.d)), (12, .v (.int .i64 m.banks.length)), (13, .v (.int .i64 i))], HR m a.1 a.2, 4⟩) (bankF m) (fun i a => a.2.length = i) (ok, []) (by omega) hN ?_ rfl ?_ ?_
  · simp -dsimp only [HR, cD, Mc.d, EVs, ↓EVd, ↓reduceIte, zA, zB, zC, zD, zE, zF, reduceBEq, reduceCtorEq, zG, zH, zI, zJ, zK, dcells, okc]
  · rintro i ⟨ok, ns⟩ b hi hw hu hlen
    simp only at hlen
    have hil : i < m.banks.length := (List.getElem?_eq_some_iff.1 hu).1
    have hbl := hb b (List.mem_of_getElem? hu)
    have h2 := hF.2 (HR_nm m ok) ns (by omega) b.name
    have hk := HR_ck m (ns ++ [b.name]) 5 (.inr rfl)
    have h3 := (mustE hM hk).2.1 ok
    simp only [HR, cD, Mc.d] at h2 h3
    refine ⟨?_, by simp [bankF, hlen]⟩
    simp -dsimp only [HR, cD, Mc.d, Bk.d, lp60x1, hi, hw, hu, hF.1, h2, hM.1, h3, EVs, ↓EVd, ↓reduceIte, zA, zB, zC, zD, zE, zF, reduceBEq, reduceCtorEq, zG, zH, zI, zJ, zK, dcells, okc]
    generalize hJ : iter _ _ _ _ = J
    revert J
    refine iter_all b.regs (fun j (a : Nat × Bool) => ⟨[(0, .ptr 1 0), (2, .ptr 2 0), (4, .rp b.d), (11, .lst false (m.banks.map Bk.d)), (12, .v (.int .i64 m.banks.length)), (13, .v (.int .i64 i)), (28, .lst false (b.regs.map iD)), (29, .v (.int .i64 b.regs.length)), (30, .v (.int .i64 j))], HR m a.2 (ns ++ [b.name]), 5⟩) (bankRF m b)
      (fun j a => a.1 = j ∧ (a.2 = true → 0 < j → decide (0 ≤ bank0 b) = true ∧ ∃ p, m.regs[(bank0 b).toNat]? = some p)) (0, ok && (freshB ns b.name && decide (0 < (b.regs.length : Int)))) (by omega) hN ?_ ?_ ?_ ?_
    · simp -dsimp only [HR, cD, Mc.d, Bk.d, EVs, ↓EVd, ↓reduceIte, zA, zB, zC, zD, zE, zF, reduceBEq, reduceCtorEq, zG, zH, zI, zJ, zK, dcells, okc]
    · exact ⟨rfl, fun _ h => by omega⟩
    · rintro j ⟨j', ok⟩ r hj hjw hr' ⟨rfl, hinv⟩
      simp only at hinv
      have hjl : j' < b.regs.length := (List.getElem?_eq_some_iff.1 hr').1
      have h4 := (mustE hM hk).2.1 ok
      have e1 := @e_in r 0 (IntKind.i64.wrap ((m.regs.length : Int) - 1))
      have e2 := @e_HasI false (b.regs.take j') r
      rw [List.map_take] at e2
      have hle : decide ((j' : Int) ≤ (b.regs.length : Int)) = true := decide_eq_true (by omega)
      simp only [HR, cD, Mc.d] at h4
      cases h : (ok && (inB r 0 (IntKind.i64.wrap ((m.regs.length : Int) - 1)) && !has r (b.regs.take j')))
      · refine ⟨?_, rfl, fun h' => by simp [bankRF, h] at h'⟩
        simp -dsimp only [HR, cD, Mc.d, Bk.d, iD, lp60x0, hj, hjw, hr', hW, e1, hH, e2, hle, hM.1, h4, h, bankRF, EVs, ↓EVd, ↓reduceIte, zA, zB, zC, zD, zE, zF, reduceBEq, reduceCtorEq, zG, zH, zI, zJ, zK, dcells, okc]
      · have h0 : ok = true ∧ inB r 0 (IntKind.i64.wrap ((m.regs.length : Int) - 1)) = true := by
          simp only [Bool.and_eq_true] at h; exact ⟨h.1, h.2.1⟩
        obtain ⟨q1, p, q2⟩ := inB_get (l := m.regs) (by omega) h0.2
        have hfst : ∃ r0 p0, b.regs[0]? = some r0 ∧ decide (0 ≤ r0) = true ∧ m.regs[r0.toNat]? = some p0 := by
          by_cases hz : j' = 0
          · subst hz; exact ⟨r, p, hr', q1, q2⟩
          · obtain ⟨k1, p0, k2⟩ := hinv h0.1 (by omega)
            have : b.regs[0]? = some (b.regs[0]'(by omega)) := List.getElem?_eq_getElem (by omega)
            simp only [bank0, this, Option.getD_some] at k1 k2
            exact ⟨_, p0, this, k1, k2⟩
        obtain ⟨r0, p0, k1, k2, k3⟩ := hfst
        have k0 : bank0 b = r0 := by simp [bank0, k1]
        have w1 : regW m r = p.width := by simp [regW, q2]
        have w2 : regW m r0 = p0.width := by simp [regW, k3]
        have h5 := (mustE hM hk).1 true
        simp only [HR, cD, Mc.d] at h5
        refine ⟨?_, rfl, fun _ _ => by rw [k0]; exact ⟨k2, p0, k3⟩⟩
        simp -dsimp only [HR, cD, Mc.d, Bk.d, iD, Rg.d, lp60x0, hj, hjw, hr', hW, e1, hH, e2, hle, hM.1, h4, h5, h, bankRF, q1, q2, k0, k1, k2, k3, w1, w2, EVs, ↓EVd, ↓reduceIte, zA, zB, zC, zD, zE, zF, reduceBEq, reduceCtorEq, zG, zH, zI, zJ, zK, dcells, okc]
    · rintro -
      simp -dsimp only [HR, cD, Mc.d, Bk.d, lp60x0, hw, bankF, EVs, ↓EVd, ↓reduceIte, zA, zB, zC, zD, zE, zF, reduceBEq, reduceCtorEq, zG, zH, zI, zJ, zK, dcells, okc]
  · intro _
    have h4 := bankF_and m m.banks (true, []) ok
    simp only [Bool.and_true] at h4
    simp -dsimp only [HR, cD, Mc.d, lp60x1, h4, banksOK, EVs, ↓EVd, ↓reduceIte, zA, zB, zC, zD, zE, zF, reduceBEq, reduceCtorEq, zG, zH, zI, zJ, zK, dcells, okc]
end Go.Proofs.Dv
set_option linter.unusedVariables false
set_option linter.unusedSimpArgs false
set_option maxRecDepth 100000
namespace Go.Proofs.Dv
open Go.RowKit
open Nat renaming reduceEqDiff → zA, reduceAdd → zB, reduceSub → zC, reduceLeDiff → zD, reduceLT → zE, reduceMul → zF
open Int renaming reduceToNat → zG, reduceLE → zH, reduceLT → zI
open List renaming set_cons_zero → zJ, set_cons_succ → zK
theorem idlt_le {n n' : Nat} (hn : n ≤ n') : ∀ d : D, idlt n d = true → idlt n' d = true
  | .v _, _ => rfl
  | .lst _ _, _ => rfl
  | .rp _, _ => rfl
  | .junk, _ => rfl
  | .agg ds, h => by simp only [idlt] at h ⊢; exact go ds h
  | .fn _ ds, h => by simp only [idlt] at h ⊢; exact go ds h
  | .tup ds, h => by simp only [idlt] at h ⊢; exact go ds h
  | .own _ _, h => by simp only [idlt, decide_eq_true_eq] at h ⊢; omega
  | .ptr _ _, h => by simp only [idlt, decide_eq_true_eq] at h ⊢; omega
  | .mp _, h => by simp only [idlt, decide_eq_true_eq] at h ⊢; omega
where go : ∀ ds : List D, idlt.idlts n ds = true → idlt.idlts n' ds = true
  | [], _ => rfl
  | d :: ds, h => by
    simp only [idlt.idlts, Bool.and_eq_true] at h ⊢
    exact ⟨idlt_le hn d h.1, go ds h.2⟩
theorem hplt_le {n n' : Nat} (hn : n ≤ n') : ∀ hp : List (Nat × Blk), hplt n hp = true → hp.filter (fun p => decide (p.1 < n)) = hp → hplt n' hp = true ∧ hp.filter (fun p => decide (p.1 < n')) = hp
  | [], _, _ => ⟨rfl, rfl⟩
  | (i, b) :: hp, h, hf => by
    have hi : i < n ∧ hp.filter (fun p => decide (p.1 < n)) = hp := by
      rw [List.filter_cons] at hf
      split at hf
      · rename_i h'
        simp only [List.cons.injEq, true_and] at hf
        exact ⟨by simpa using h', hf⟩
      · have := congrArg List.length hf
        have h2 := List.length_filter_le (fun p : Nat × Blk => decide (p.1 < n)) hp
        simp only [List.length_cons] at this
        omega
    have hh : hplt n hp = true := by
      cases b <;> simp only [hplt, Bool.and_eq_true] at h
      · exact h.2
      · exact h
      · exact h
    obtain ⟨k1, k2⟩ := hplt_le hn hp hh hi.2
    refine ⟨?_, ?_⟩
    · cases b with
      | box cells =>
        simp only [hplt, Bool.and_eq_true, Bool.or_eq_true, decide_eq_true_eq, List.all_eq_true] at h ⊢
        refine ⟨.inr fun c hc => ?_, k1⟩
        rcases h.1 with h1 | h1
        · omega
        · exact idlt_le hn c (h1 c hc)
      | row z els => exact k1
      | map es => exact k1
    · rw [List.filter_cons, if_pos (by simp; omega), k2]
theorem Ckr.mono {id nx nx' : Nat} {m : Mc} {H : Bool → List (Nat × Blk)} (h : Ckr id nx m H) (hn : nx ≤ nx') : Ckr id nx' m H :=
  ⟨h.lk, h.up, fun ok => (hplt_le hn _ (h.a ok) (h.b ok)).1, fun ok => (hplt_le hn _ (h.a ok) (h.b ok)).2, by have := h.i; simp only [decide_eq_true_eq] at this ⊢; omega⟩
theorem Ckr.cons {id nx k : Nat} {m : Mc} {H : Bool → List (Nat × Blk)} {b : List D} (h : Ckr id nx m H) (hk : nx ≤ k) (hb : idlt.idlts (k + 1) b = true) : Ckr id (k + 1) m (fun ok => (k, .box b) :: H ok) := by
  have h' := h.mono (show nx ≤ k + 1 by omega)
  have hi := h.i
  simp only [decide_eq_true_eq] at hi
  refine ⟨fun ok => ?_, fun ok ok' => ?_, fun ok => ?_, fun ok => ?_, h'.i⟩
  · simp only [lkh]; rw [if_neg (by omega)]; exact h.lk ok
  · simp only [uph]; rw [if_neg (by omega), h.up]
  · rw [idl.2.2.2.2.2.2.2.2.2.2.2.2.2.1, hb, h'.a]; simp
  · rw [List.filter_cons, if_pos (by simp), h'.b]
theorem d_idlts (t : T) (n : Nat) : idlt.idlts n t.d = true := by rw [T.d_eq]; rfl
def uand (a b : Int) : Int := IntKind.u64.wrap ((BitVec.ofInt IntKind.u64.bits a &&& BitVec.ofInt IntKind.u64.bits b).toNat : Int)
def uor (a b : Int) : Int := IntKind.u64.wrap ((BitVec.ofInt IntKind.u64.bits a ||| BitVec.ofInt IntKind.u64.bits b).toNat : Int)
def ushl (a b : Int) : Int := IntKind.u64.wrap (a * 2 ^ (min b.toNat IntKind.u64.bits))
def W8 (m : Mc) : Int := IntKind.i64.wrap (8 * m.word)
def pcOK (m : Mc) (p : Pc) : Bool := inB p.len 1 (W8 m) && (decide (0 ≤ p.at_) && decide (p.at_ ≤ IntKind.i64.wrap (W8 m - p.len)))
def pcM (p : Pc) : Int := ushl (mskI p.len) p.at_
theorem foldU : (∀ {a b : Int}, IntKind.u64.wrap ((BitVec.ofInt IntKind.u64.bits a &&& BitVec.ofInt IntKind.u64.bits b).toNat : Int) = uand a b) ∧ (∀ {a b : Int}, IntKind.u64.wrap ((BitVec.ofInt IntKind.u64.bits a ||| BitVec.ofInt IntKind.u64.bits b).toNat : Int) = uor a b) ∧ (∀ {a b : Int}, IntKind.u64.wrap (a * 2 ^ (min b.toNat IntKind.u64.bits)) = ushl a b) ∧ (∀ {p : Pc}, ushl (mskI p.len) p.at_ = pcM p) := ⟨rfl, rfl, rfl, rfl⟩
def pcT (m : Mc) (a : Bool × Int) (p : Pc) : Bool := a.1 && pcOK m p
def pcU (a : Bool × Int) (p : Pc) : Bool × Int := (decide (uand a.2 (pcM p) = 0), uor a.2 (pcM p))
def pcS (m : Mc) (ok : Bool) (o : Opn) : Sc (Bool × Int) Unit := scan (tst (pcT m) pcU fun _ _ => ()) (ok, 0) o.pieces
def opTail (m : Mc) (i : Ins) (k : Nat) (o : Opn) (a : Bool × Int) : Bool × Int :=
  let f := fieldOf o.pieces
  if o.kind = 1 then
    if (a.1 && (inB o.bank 0 (IntKind.i64.wrap ((m.banks.length : Int) - 1)) && decide (o.scale = 0))) = false then (false, 0) else
    if o.tied = -1 then (decide (0 < f) && (decide (6 < f) || match m.banks[o.bank.toNat]? with | some b => decide ((b.regs.length : Int) ≤ IntKind.i64.wrap (1 * 2 ^ (min f.toNat IntKind.i64.bits))) | none => false), a.2) else
    if (inB o.tied 0 (IntKind.i64.wrap ((k : Int) - 1)) && decide ((o.pieces.length : Int) = 0)) = false then (false, a.2) else
    (match i.operands[o.tied.toNat]? with | some q => decide (q.kind = 1) && (decide (q.bank = o.bank) && decide (q.tied = -1)) | none => false, a.2)
  else if o.kind = 2 ∨ o.kind = 3 ∨ o.kind = 4 then (a.1 && (decide (o.bank = 0) && (decide (o.tied = -1) && (inB o.scale 0 3 && (decide (0 < f) && decide (IntKind.i64.wrap (f + o.scale) ≤ m.address))))), a.2)
  else (false, a.2)
def opS (m : Mc) (i : Ins) (k : Nat) (o : Opn) (ok : Bool) : Bool × Int := match pcS m ok o with
  | .out _ => (false, 0)
  | .go a => opTail m i k o a
theorem scan_ok {α β X : Type} {t : α → X → Bool} {u : α → X → α} {v : α → X → β} : ∀ (l : List X) (a0 a : α), scan (tst t u v) a0 l = .go a → (∀ (i : Nat) x, l[i]? = some x → ∃ b, t b x = true)
  | [], _, _, _ => fun i x hx => by simp at hx
  | y :: l, a0, a, h => by
    simp only [scan, tst] at h
    cases ht : t a0 y with
    | false => rw [ht] at h; simp at h
    | true =>
      rw [ht] at h
      intro i x hx
      cases i with
      | zero => simp at hx; subst hx; exact ⟨a0, ht⟩
      | succ i => exact scan_ok l _ a (by simpa using h) i x (by simpa using hx)
theorem field_fold (m : Mc) (hw : W8 m ≤ 32) : ∀ (ps : List Pc) (a : Int), 0 ≤ a → a + 32 * ps.length ≤ 1000000 → (∀ p ∈ ps, pcOK m p = true) → 0 ≤ ps.foldl (fun n p => IntKind.i64.wrap (n + p.len)) a ∧ ps.foldl (fun n p => IntKind.i64.wrap (n + p.len)) a ≤ a + 32 * ps.length
  | [], a, h0, h1, _ => by simp; omega
  | p :: ps, a, h0, h1, hp => by
    have hpp := hp p List.mem_cons_self
    simp only [pcOK, inB, Bool.and_eq_true, decide_eq_true_eq] at hpp
    simp only [List.length_cons] at h1 ⊢
    rw [List.foldl_cons, wr _ (by omega) (by omega)]
    have := field_fold m hw ps (a + p.len) (by omega) (by omega) fun q hq => hp q (List.mem_cons_of_mem _ hq)
    omega
theorem field_bound (m : Mc) (ps : List Pc) (hw : W8 m ≤ 32) (hp : ∀ p ∈ ps, pcOK m p = true) (hl : ps.length ≤ 1000) : 0 ≤ fieldOf ps ∧ fieldOf ps ≤ 32 * ps.length := by
  have := field_fold m hw ps 0 (by omega) (by omega) hp
  simpa [fieldOf] using this
theorem c_operand (C : Ctx) (N : Nat) (hN : maxLen + 10 < N) (hM : MustC C) (hW : C.T 58 = some s_in) (hK : C.T 89 = some s_Mask) (hF : C.T 144 = some s_Fld) {m : Mc} {H : Bool → List (Nat × Blk)} (hk : Ckr 1 9 m H) (i : Ins) (k : Nat) (o : Opn) (ho : i.operands[k]? = some o)
    (hpl : o.pieces.length ≤ 1000) (hb : m.banks.length ≤ 1000) (hop : i.operands.length ≤ 1000) (ok : Bool) (hw : ok = true → inB m.word 1 4 = true) :
    gcr 9 (run C N ir107 [.ptr 1 0, .agg i.d, .v (.int .i64 k)] (H ok) 9) = some (.v (.int .u64 (opS m i k o ok).2), H (opS m i k o ok).1, 9) := by
  have hml := maxLen_ge
  have ha9 := hk.a
  have hb9 := hk.b
  have hlk := hk.lk
  have hk11 := (hk.cons (k := 9) (b := i.d) (Nat.le_refl _) rfl).cons (k := 10) (b := o.d) (by omega) rfl
  have hm11 := hk.mono (show 9 ≤ 11 by omega)
  have ha11 := hm11.a
  have hb11 := hm11.b
  have hk12 := hk11.mono (show 11 ≤ 12 by omega)
  have ha12 := (hk.mono (show 9 ≤ 12 by omega)).a
  have hb12 := (hk.mono (show 9 ≤ 12 by omega)).b
  simp only [cD] at hlk
  have hW8 : IntKind.i64.wrap (8 * m.word) = W8 m := rfl
  have hkk : decide (0 ≤ (k : Int)) = true := decide_eq_true (by omega)
  simp -dsimp only [run_eq, ir107, Ins.d, ho, hkk, Opn.d, EVs, ↓EVd, ↓reduceIte, zA, zB, zC, zD, zE, zF, reduceBEq, reduceCtorEq, zG, zH, zI, zJ, zK, dcells, okc]
  generalize hI : iter _ _ _ _ = I
  revert I
  refine iter_test2 o.pieces (fun j (a : Bool × Int) => ⟨[(0, .ptr 1 0), (2, .v (.int .i64 k)), (4, .ptr 9 0), (6, .v (.int .u64 a.2)), (7, .ptr 10 0), (20, .lst false (o.pieces.map Pc.d)), (21, .v (.int .i64 o.pieces.length)), (22, .v (.int .i64 j))], (10, .box o.d) :: (9, .box i.d) :: H a.1, 11⟩)
    (pcT m) pcU (fun _ _ => ()) (fun _ _ => True) (ok, 0) (by omega) hN ?_ trivial ?_ ?_ ?_
  · simp -dsimp only [Ins.d, Opn.d, ha11, hb11, EVs, ↓EVd, ↓reduceIte, zA, zB, zC, zD, zE, zF, reduceBEq, reduceCtorEq, zG, zH, zI, zJ, zK, dcells, okc]
  · rintro j ⟨ok, mask⟩ p hj hjw hp _ ht
    refine ⟨?_, trivial⟩
    have h1 := (mustE hM (hk11.cons (k := 11) (b := p.d) (by omega) rfl)).2.2.1 ok
    have h2 := (mustE hM (hk11.cons (k := 11) (b := p.d) (by omega) rfl)).1 true
    have e1 := @e_in p.len 1 (W8 m)
    have e2 := @e_Mask p.len
    simp only [pcT, pcOK, Bool.and_eq_true] at ht
    obtain ⟨t1, t2, t3, t4⟩ := ht
    subst t1
    have hat : decide (p.at_ < 0) = false := by simp at t3; simp; omega
    simp only [Pc.d] at h1 h2
    simp only [Ins.d, Opn.d] at h1 h2
    simp -dsimp only [lp107x0, Ins.d, Opn.d, Pc.d, hj, hjw, hp, hlk, hM.1, h1, h2, hW, hW8, e1, t2, t3, t4, hK, e2, hat, pcU, foldU, ha11, hb11, EVs, ↓EVd, ↓reduceIte, zA, zB, zC, zD, zE, zF, reduceBEq, reduceCtorEq, zG, zH, zI, zJ, zK, dcells, okc]
  · rintro j ⟨ok, mask⟩ p hj hp _ ht hs
    have h1 := (mustE hM (hk11.cons (k := 11) (b := p.d) (by omega) rfl)).2.2.1 ok
    have e1 := @e_in p.len 1 (W8 m)
    simp only [pcT, pcOK] at ht
    simp only [Pc.d] at h1
    simp only [Ins.d, Opn.d] at h1
    rw [opS, pcS, hs]
    simp -dsimp only [lp107x0, Ins.d, Opn.d, Pc.d, hj, hp, hlk, hM.1, h1, hW, hW8, e1, ha9, hb9, EVs, ↓EVd, ↓reduceIte, zA, zB, zC, zD, zE, zF, reduceBEq, reduceCtorEq, zG, zH, zI, zJ, zK, dcells, okc]
    repeat' ((first | with_reducible refine gb_split (fun _ => ?_) (fun _ => ?_) | with_reducible refine gb_splitr (fun _ => ?_) (fun _ => ?_)) <;> (try simp -dsimp only [lp107x0, Ins.d, Opn.d, Pc.d, hj, hp, hlk, hM.1, h1, hW, hW8, e1, ha9, hb9, EVs, ↓EVd, ↓reduceIte, zA, zB, zC, zD, zE, zF, reduceBEq, reduceCtorEq, zG, zH, zI, zJ, zK, dcells, okc, *]))
    all_goals simp_all
  · rintro ⟨ok', mask⟩ _ hs
    have hall : ∀ p ∈ o.pieces, pcOK m p = true := by
      intro p hp
      obtain ⟨j, hj, rfl⟩ := List.mem_iff_getElem.1 hp
      obtain ⟨b, hb⟩ := scan_ok _ _ _ hs j _ (List.getElem?_eq_getElem hj)
      simp only [pcT, Bool.and_eq_true] at hb
      exact hb.2
    have hf0 : 0 ≤ fieldOf o.pieces := by
      cases hpc : o.pieces with
      | nil => simp [fieldOf]
      | cons p ps =>
        have hok : ok = true := by
          rw [hpc] at hs
          simp only [scan, tst] at hs
          cases ht : pcT m (ok, 0) p with
          | false => rw [ht] at hs; simp at hs
          | true => simp only [pcT, Bool.and_eq_true] at ht; exact ht.1
        have h14 := hw hok
        simp only [inB, Bool.and_eq_true, decide_eq_true_eq] at h14
        rw [← hpc]
        exact (field_bound m o.pieces (by simp only [W8]; rw [wr _ (by omega) (by omega)]; omega) hall (by omega)).1
    rw [opS, pcS, hs]
    simp only [opTail]
    have eF := @e_Fld o
    simp only [Opn.d] at eF
    have hm2 := fun ok => (mustE hM hk11).2.1 ok
    have hm1 := fun ok => (mustE hM hk11).1 ok
    have hm5 := fun ok => (mustE hM hk11).2.2.2.2.1 ok
    simp only [Ins.d, Opn.d] at hm2 hm1 hm5
    cases g1 : decide (o.kind = 1)
    · have g1' : ¬ o.kind = 1 := by simpa using g1
      rw [if_neg g1']
      have e3 := @e_in o.scale 0 3
      cases g2 : decide (o.kind = 2)
      case true =>
        rw [if_pos (.inl (by simpa using g2))]
        simp -dsimp only [lp107x0, Ins.d, Opn.d, hlk, hM.1, hm5, hW, e3, hF, eF, g1, g2, ha9, hb9, EVs, ↓EVd, ↓reduceIte, zA, zB, zC, zD, zE, zF, reduceBEq, reduceCtorEq, zG, zH, zI, zJ, zK, dcells, okc]
      cases g3 : decide (o.kind = 3)
      case true =>
        rw [if_pos (.inr (.inl (by simpa using g3)))]
        simp -dsimp only [lp107x0, Ins.d, Opn.d, hlk, hM.1, hm5, hW, e3, hF, eF, g1, g2, g3, ha9, hb9, EVs, ↓EVd, ↓reduceIte, zA, zB, zC, zD, zE, zF, reduceBEq, reduceCtorEq, zG, zH, zI, zJ, zK, dcells, okc]
      cases g4 : decide (o.kind = 4)
      case true =>
        rw [if_pos (.inr (.inr (by simpa using g4)))]
        simp -dsimp only [lp107x0, Ins.d, Opn.d, hlk, hM.1, hm5, hW, e3, hF, eF, g1, g2, g3, g4, ha9, hb9, EVs, ↓EVd, ↓reduceIte, zA, zB, zC, zD, zE, zF, reduceBEq, reduceCtorEq, zG, zH, zI, zJ, zK, dcells, okc]
      rw [if_neg (by simp at g2 g3 g4; simp [g2, g3, g4])]
      simp -dsimp only [lp107x0, Ins.d, Opn.d, hlk, hM.1, hm1, g1, g2, g3, g4, ha9, hb9, EVs, ↓EVd, ↓reduceIte, zA, zB, zC, zD, zE, zF, reduceBEq, reduceCtorEq, zG, zH, zI, zJ, zK, dcells, okc]
    · have g1' : o.kind = 1 := by simpa using g1
      rw [if_pos g1']
      have e4 := @e_in o.bank 0 (IntKind.i64.wrap ((m.banks.length : Int) - 1))
      have e5 := @e_in o.tied 0 (IntKind.i64.wrap ((k : Int) - 1))
      cases q1 : (ok' && (inB o.bank 0 (IntKind.i64.wrap ((m.banks.length : Int) - 1)) && decide (o.scale = 0)))
      · rw [if_pos rfl]
        simp -dsimp only [lp107x0, Ins.d, Opn.d, hlk, hM.1, hm2, hW, e4, g1, q1, ha9, hb9, EVs, ↓EVd, ↓reduceIte, zA, zB, zC, zD, zE, zF, reduceBEq, reduceCtorEq, zG, zH, zI, zJ, zK, dcells, okc]
      rw [if_neg (by simp)]
      have q2 : ok' = true ∧ inB o.bank 0 (IntKind.i64.wrap ((m.banks.length : Int) - 1)) = true := by
        simp only [Bool.and_eq_true] at q1; exact ⟨q1.1, q1.2.1⟩
      obtain ⟨r1, b, r2⟩ := inB_get (l := m.banks) (by omega) q2.2
      cases g5 : decide (o.tied = -1)
      · have g5' : ¬ o.tied = -1 := by simpa using g5
        rw [if_neg g5']
        cases q3 : (inB o.tied 0 (IntKind.i64.wrap ((k : Int) - 1)) && decide ((o.pieces.length : Int) = 0))
        · rw [if_pos rfl]
          simp -dsimp only [lp107x0, Ins.d, Opn.d, hlk, hM.1, hm2, hW, e4, e5, g1, q1, g5, q3, ha9, hb9, EVs, ↓EVd, ↓reduceIte, zA, zB, zC, zD, zE, zF, reduceBEq, reduceCtorEq, zG, zH, zI, zJ, zK, dcells, okc]
        rw [if_neg (by simp)]
        have hkl : k < i.operands.length := (List.getElem?_eq_some_iff.1 ho).1
        have q4 : inB o.tied 0 (IntKind.i64.wrap ((k : Int) - 1)) = true := by simp only [Bool.and_eq_true] at q3; exact q3.1
        simp only [inB, Bool.and_eq_true, decide_eq_true_eq] at q4
        rw [wr _ (by omega) (by omega)] at q4
        have q5 : decide (0 ≤ o.tied) = true := decide_eq_true q4.1
        have q6 : i.operands[o.tied.toNat]? = some (i.operands[o.tied.toNat]'(by omega)) := List.getElem?_eq_getElem (by omega)
        generalize hq : i.operands[o.tied.toNat]'(by omega) = q at q6
        have hm3 := fun ok => (mustE hM (hk11.cons (k := 11) (b := q.d) (by omega) rfl)).2.2.1 ok
        simp only [Ins.d, Opn.d] at hm3
        rw [q6]
        simp -dsimp only [lp107x0, Ins.d, Opn.d, hlk, hM.1, hm2, hm3, hW, e4, e5, g1, q1, g5, q3, q5, q6, ha9, hb9, ha11, hb11, EVs, ↓EVd, ↓reduceIte, zA, zB, zC, zD, zE, zF, reduceBEq, reduceCtorEq, zG, zH, zI, zJ, zK, dcells, okc]
      · have g5' : o.tied = -1 := by simpa using g5
        rw [if_pos g5']
        have hneg : decide (fieldOf o.pieces < 0) = false := decide_eq_false (by omega)
        rw [r2]
        cases g6 : decide (6 < fieldOf o.pieces)
        · simp -dsimp only [lp107x0, Ins.d, Opn.d, Bk.d, hlk, hM.1, hm2, hW, e4, hF, eF, g1, q1, g5, g6, r1, r2, hneg, ha9, hb9, EVs, ↓EVd, ↓reduceIte, zA, zB, zC, zD, zE, zF, reduceBEq, reduceCtorEq, zG, zH, zI, zJ, zK, dcells, okc]
        · simp -dsimp only [lp107x0, Ins.d, Opn.d, Bk.d, hlk, hM.1, hm2, hW, e4, hF, eF, g1, q1, g5, g6, r1, r2, hneg, ha9, hb9, EVs, ↓EVd, ↓reduceIte, zA, zB, zC, zD, zE, zF, reduceBEq, reduceCtorEq, zG, zH, zI, zJ, zK, dcells, okc]
end Go.Proofs.Dv
set_option linter.unusedVariables false
set_option linter.unusedSimpArgs false
set_option maxRecDepth 100000
namespace Go.Proofs.Dv
open Go.RowKit
open Nat renaming reduceEqDiff → zA, reduceAdd → zB, reduceSub → zC, reduceLeDiff → zD, reduceLT → zE, reduceMul → zF
open Int renaming reduceToNat → zG, reduceLE → zH, reduceLT → zI
open List renaming set_cons_zero → zJ, set_cons_succ → zK
def aPut (vs : List (ByteArray × Int)) (n : ByteArray) (w : Int) : List (ByteArray × Int) := match aF n vs 0 with | some (i, _) => vs.set i (n, w) | none => vs ++ [(n, w)]
theorem mset_a {vs : List (ByteArray × Int)} {n : ByteArray} {w : Int} : mset (.string n) (.int .i64 w) (eM vs) ((aF n vs 0).map fun p => (p.1, .int .i64 p.2)) = eM (aPut vs n w) := by
  unfold aPut
  cases h : aF n vs 0 with
  | none => rw [Option.map_none, mset_none, eM_app]
  | some p => obtain ⟨i, v⟩ := p; rw [Option.map_some, mset_some, eM_set]
def aGet (vs : List (ByteArray × Int)) (n : ByteArray) : Int := ((aF n vs 0).map (·.2)).getD 0
theorem mlkR_a {vs : List (ByteArray × Int)} {n : ByteArray} : mlkR false (.int .i64 0) ((aF n vs 0).map fun p => (p.1, .int .i64 p.2)) = .v (.int .i64 (aGet vs n)) := by
  unfold aGet
  cases h : aF n vs 0 with
  | none => rw [Option.map_none, mlkR_none]; rfl
  | some p => obtain ⟨i, v⟩ := p; rw [Option.map_some, mlkR_some]; rfl
def strK (l : List Nat) : ByteArray := ⟨(l.map UInt8.ofNat).toArray⟩
theorem strK_d {l : List Nat} : K.d (.str l) = .v (.string (strK l)) := nr rfl
def varsM (m : Mc) (i : Ins) : List (ByteArray × Int) := i.operands.foldl (fun vs o => aPut vs o.name ((wideO m o).getD 0)) (m.regs.foldl (fun vs r => aPut vs (strK [114, 46] ++ r.name) r.width) (aPut [] (strK [112, 99]) m.address))
theorem c_mvars (C : Ctx) (N : Nat) (hN : maxLen + 10 < N) (hW : C.T 148 = some s_WideO) {m : Mc} {H : Bool → List (Nat × Blk)} (hk : Ckr 1 8 m H) (i : Ins) (ok : Bool)
    (hr : m.regs.length ≤ 1000) (hop : i.operands.length ≤ 1000) (hn : ∀ r ∈ m.regs, r.name.size ≤ 1000) (hw : ∀ o ∈ i.operands, (wideO m o).isSome = true) :
    gcr 8 (run C N ir108 [.ptr 1 0, .agg i.d] (H ok) 8) = some (.mp 9, (9, .map (eM (varsM m i))) :: (8, .box i.d) :: H ok, 10) := by
  have hml := maxLen_ge
  have hlk := hk.lk
  have hm10 := hk.mono (show 8 ≤ 10 by omega)
  have ha10 := hm10.a
  have hb10 := hm10.b
  simp only [cD] at hlk
  have hz : ∀ (n : ByteArray), mfind true (.string n) [] 0 = some none := fun _ => rfl
  have hpc : [(Value.string (strK [112, 99]), Value.int .i64 m.address)] = eM (aPut [] (strK [112, 99]) m.address) := rfl
  simp -dsimp only [run_eq, ir108, Ins.d, hlk, strK_d, hz, EVs, ↓EVd, ↓reduceIte, zA, zB, zC, zD, zE, zF, reduceBEq, reduceCtorEq, zG, zH, zI, zJ, zK, dcells, okc]
  rw [hpc]
  generalize hI : iter _ _ _ _ = I
  revert I
  refine iter_all m.regs (fun j (vs : List (ByteArray × Int)) => ⟨[(0, .ptr 1 0), (3, .ptr 8 0), (5, .mp 9), (21, .lst false (m.regs.map Rg.d)), (22, .v (.int .i64 m.regs.length)), (23, .v (.int .i64 j))], (9, .map (eM vs)) :: (8, .box i.d) :: H ok, 10⟩)
    (fun vs r => aPut vs (strK [114, 46] ++ r.name) r.width) (fun _ _ => True) (aPut [] (strK [112, 99]) m.address) (by omega) hN ?_ trivial ?_ ?_
  · simp -dsimp only [Ins.d, ha10, hb10, EVs, ↓EVd, ↓reduceIte, zA, zB, zC, zD, zE, zF, reduceBEq, reduceCtorEq, zG, zH, zI, zJ, zK, dcells, okc]
  · rintro j vs r hj hjw hrj _
    refine ⟨?_, trivial⟩
    have hsz : decide ((strK [114, 46]).size + r.name.size ≤ 9223372036854775807) = true := decide_eq_true (by
      have := hn r (List.mem_of_getElem? hrj)
      have : (strK [114, 46]).size = 2 := rfl
      omega)
    simp -dsimp only [lp108x0, Ins.d, Rg.d, hj, hjw, hrj, strK_d, hsz, mfind_a, mset_a, ha10, hb10, EVs, ↓EVd, ↓reduceIte, zA, zB, zC, zD, zE, zF, reduceBEq, reduceCtorEq, zG, zH, zI, zJ, zK, dcells, okc]
  · intro _
    simp -dsimp only [lp108x0, Ins.d, EVs, ↓EVd, ↓reduceIte, zA, zB, zC, zD, zE, zF, reduceBEq, reduceCtorEq, zG, zH, zI, zJ, zK, dcells, okc]
    generalize hJ : iter _ _ _ _ = J
    revert J
    refine iter_all i.operands (fun j (vs : List (ByteArray × Int)) => ⟨[(0, .ptr 1 0), (5, .mp 9), (35, .lst false (i.operands.map Opn.d)), (36, .v (.int .i64 i.operands.length)), (37, .v (.int .i64 j))], (9, .map (eM vs)) :: (8, .box i.d) :: H ok, 10⟩)
      (fun vs o => aPut vs o.name ((wideO m o).getD 0)) (fun _ _ => True) (m.regs.foldl (fun vs r => aPut vs (strK [114, 46] ++ r.name) r.width) (aPut [] (strK [112, 99]) m.address)) (by omega) hN ?_ trivial ?_ ?_
    · simp -dsimp only [Ins.d, ha10, hb10, EVs, ↓EVd, ↓reduceIte, zA, zB, zC, zD, zE, zF, reduceBEq, reduceCtorEq, zG, zH, zI, zJ, zK, dcells, okc]
    · rintro j vs o hj hjw hoj _
      refine ⟨?_, trivial⟩
      have e1 := @e_WideO m o (hw o (List.mem_of_getElem? hoj))
      simp only [Mc.d, Opn.d] at e1
      simp -dsimp only [lp108x1, Ins.d, Opn.d, hj, hjw, hoj, hlk, hW, e1, mfind_a, mset_a, ha10, hb10, EVs, ↓EVd, ↓reduceIte, zA, zB, zC, zD, zE, zF, reduceBEq, reduceCtorEq, zG, zH, zI, zJ, zK, dcells, okc]
    · intro _
      simp -dsimp only [lp108x1, Ins.d, varsM, EVs, ↓EVd, ↓reduceIte, zA, zB, zC, zD, zE, zF, reduceBEq, reduceCtorEq, zG, zH, zI, zJ, zK, dcells, okc]
def leafB (m : Mc) (vs : List (ByteArray × Int)) (u : T) : Bool := if u.kind = 2 then decide (aGet vs u.name = u.width) else if u.kind = 24 then decide (subW u 0 = m.address) else true
def lvOK (m : Mc) (vs : List (ByteArray × Int)) (t : T) : Bool := t.pre.all (leafB m vs)
theorem pres_all (p : T → Bool) : ∀ s : List T, (T.pres s).all p = s.all fun u => u.pre.all p
  | [] => by rw [T.pres]; rfl
  | t :: ts => by rw [pres_cons, List.all_append, pres_all p ts, List.all_cons]
theorem lvOK_eq (m : Mc) (vs : List (ByteArray × Int)) (t : T) : lvOK m vs t = (leafB m vs t && t.sub.all (lvOK m vs)) := by
  unfold lvOK
  rw [T.pre_eq, List.all_cons, pres_all]
def LdOK (t : T) : Prop := ∀ u ∈ t.pre, u.kind = 24 → ∃ s0, u.sub[0]? = some s0
theorem mem_pres {u v : T} : ∀ {s : List T}, u ∈ s → v ∈ u.pre → v ∈ T.pres s
  | t :: ts, h, hv => by
    rw [pres_cons, List.mem_append]
    rcases List.mem_cons.1 h with rfl | h
    · exact .inl hv
    · exact .inr (mem_pres h hv)
theorem LdOK.sub {t u : T} (h : LdOK t) (hu : u ∈ t.sub) : LdOK u := fun v hv => h v (by rw [T.pre_eq]; exact List.mem_cons_of_mem _ (mem_pres hu hv))
structure Lvs (id vid nx : Nat) (m : Mc) (vs : List (ByteArray × Int)) (H : Bool → List (Nat × Blk)) : Prop where
  k : Ckr id nx m H
  v : ∀ ok, lkh (H ok) vid = some (.map (eM vs))
  vi : decide (vid < nx) = true
theorem Lvs.cons {id vid nx k : Nat} {m : Mc} {vs : List (ByteArray × Int)} {H : Bool → List (Nat × Blk)} {b : List D} (h : Lvs id vid nx m vs H) (hk : nx ≤ k) (hb : idlt.idlts (k + 1) b = true) : Lvs id vid (k + 1) m vs (fun ok => (k, .box b) :: H ok) := by
  have hi := h.vi
  simp only [decide_eq_true_eq] at hi
  refine ⟨h.k.cons hk hb, fun ok => ?_, by simp; omega⟩
  simp only [lkh]; rw [if_neg (by omega)]; exact h.v ok
def LeavesC (C : Ctx) (n : Nat) : Prop := C.T 164 = none ∧ ∀ {id vid nx : Nat} {m : Mc} {vs : List (ByteArray × Int)} {H : Bool → List (Nat × Blk)}, Lvs id vid nx m vs H → ∀ (t : T), t.depth ≤ n → LdOK t → lenOK.lenOKs t.d → ∀ ok, C.cal 164 [.ptr id 0, .mp vid, .agg t.d] (H ok) nx = some (.tup [], H (ok && lvOK m vs t), nx)
theorem c_leaves (C : Ctx) (N : Nat) (hN : maxLen + 10 < N) (n : Nat) (hM : MustC C) (hL : C.T 164 = none) (hC : ∀ n', n = n' + 1 → LeavesC C n') {id vid nx : Nat} {m : Mc} {vs : List (ByteArray × Int)} {H : Bool → List (Nat × Blk)} (hk : Lvs id vid nx m vs H) (t : T) (hd : t.depth ≤ n) (ht : LdOK t) (hln : lenOK.lenOKs t.d) (ok : Bool) :
    gcr nx (run C N ir164 [.ptr id 0, .mp vid, .agg t.d] (H ok) nx) = some (.tup [], H (ok && lvOK m vs t), nx) := by
  have hll : t.sub.length ≤ maxLen := by simp only [T.d_eq, EVl, List.length_map] at hln; exact hln.2.2.2.2.2.1.1
  have hsub : ∀ u ∈ t.sub, lenOK.lenOKs u.d := by
    intro u hu
    simp only [T.d_eq t, EVl, List.length_map] at hln
    exact (lenOKss_iff.1 hln.2.2.2.2.2.1.2) _ (List.mem_map_of_mem hu)
  obtain ⟨n', rfl⟩ : ∃ n', n = n' + 1 := ⟨n - 1, by have := t.depth_pos; omega⟩
  have hC := hC n' rfl
  have ha := hk.k.a
  have hb := hk.k.b
  have hlk := hk.k.lk
  have hv := hk.v
  have hi := hk.k.i
  have hvi := hk.vi
  simp only [decide_eq_true_eq] at hi hvi
  have f1 : decide (nx + 1 ≤ nx) = false := decide_eq_false (by omega)
  have f2 : decide (nx < nx + 1) = true := decide_eq_true (by omega)
  have f4 : decide (id < nx + 1) = true := decide_eq_true (by omega)
  have f5 : decide (vid < nx + 1) = true := decide_eq_true (by omega)
  have f6 : (nx + 1 = nx) = False := by simp
  have f7 : (id = nx) = False := by simp; omega
  have f9 : (vid = nx) = False := by simp; omega
  have f11 : (nx = id) = False := by simp; omega
  have hk1 := hk.cons (k := nx) (b := t.d) (Nat.le_refl _) (d_idlts _ _)
  have ha1 := (hk.k.mono (show nx ≤ nx + 1 by omega)).a
  have hb1 := (hk.k.mono (show nx ≤ nx + 1 by omega)).b
  have h1 := fun ok => (mustE hM hk1.k).1 ok
  simp only [T.d_eq t] at h1
  simp only [cD] at hlk
  have main : ∀ (K : Option (Ex × St) → Option (D × List (Nat × Blk) × Nat)) (σ : St) (ok : Bool), trim [0, 1, 39, 40, 41] (nx + 1) σ = some ⟨[(0, .ptr id 0), (1, .mp vid), (39, .lst false (t.sub.map T.d)), (40, .v (.int .i64 t.sub.length)), (41, .v (.int .i64 ((0 : Nat) : Int)))], (nx, .box t.d) :: H ok, nx + 1⟩ →
      outK K (ev C N lp164x0 ⟨[(0, .ptr id 0), (1, .mp vid), (39, .lst false (t.sub.map T.d)), (40, .v (.int .i64 t.sub.length)), (41, .v (.int .i64 t.sub.length))], (nx, .box t.d) :: H (ok && t.sub.all (lvOK m vs)), nx + 1⟩) = some (.tup [], H (ok && t.sub.all (lvOK m vs)), nx) →
      ∀ I, iter (ev C N lp164x0) (trim [0, 1, 39, 40, 41] (nx + 1)) N σ = I → K I = some (.tup [], H (ok && t.sub.all (lvOK m vs)), nx) := by
    intro K σ ok htr hfin
    refine iter_all t.sub (fun j ok => ⟨[(0, .ptr id 0), (1, .mp vid), (39, .lst false (t.sub.map T.d)), (40, .v (.int .i64 t.sub.length)), (41, .v (.int .i64 j))], (nx, .box t.d) :: H ok, nx + 1⟩) (fun ok u => ok && lvOK m vs u) (fun _ _ => True) ok hll hN htr trivial ?_ ?_
    · rintro j ok u hj hjw hu _
      refine ⟨?_, trivial⟩
      have hm := List.mem_of_getElem? hu
      have h2 := hC.2 (hk1.cons (k := nx + 1) (b := u.d) (Nat.le_refl _) (d_idlts _ _)) u (sub_depth hm hd) (ht.sub hm) (hsub u hm) ok
      simp only [T.d_eq] at h2
      simp -dsimp only [lp164x0, hj, hjw, hu, T.d_eq, hL, h2, f1, f2, f4, f5, f6, ha1, hb1, EVs, ↓EVd, ↓reduceIte, zA, zB, zC, zD, zE, zF, reduceBEq, reduceCtorEq, zG, zH, zI, zJ, zK, dcells, okc]
    · intro _
      have : ∀ (l : List T) (a : Bool), l.foldl (fun ok u => ok && lvOK m vs u) a = (a && l.all (lvOK m vs)) := by
        intro l
        induction l with
        | nil => intro a; simp
        | cons b l ih => intro a; rw [List.foldl_cons, ih]; simp [Bool.and_assoc]
      rw [this]
      exact hfin
  rw [lvOK_eq]
  cases g1 : decide (t.kind = 2)
  · have g1' : ¬ t.kind = 2 := by simpa using g1
    cases g2 : decide (t.kind = 24)
    · have g2' : ¬ t.kind = 24 := by simpa using g2
      have hlf : leafB m vs t = true := by unfold leafB; rw [if_neg g1', if_neg g2']
      rw [hlf, Bool.true_and]
      simp -dsimp only [run_eq, ir164, T.d_eq, g1, g2, EVs, ↓EVd, ↓reduceIte, zA, zB, zC, zD, zE, zF, reduceBEq, reduceCtorEq, zG, zH, zI, zJ, zK, dcells, okc]
      generalize hI : iter _ _ _ _ = I
      revert I
      refine main _ _ ok ?_ ?_
      · simp -dsimp only [T.d_eq, f1, f2, f4, f5, ha1, hb1, EVs, ↓EVd, ↓reduceIte, zA, zB, zC, zD, zE, zF, reduceBEq, reduceCtorEq, zG, zH, zI, zJ, zK, dcells, okc]
      · simp -dsimp only [lp164x0, T.d_eq, ha, hb, EVs, ↓EVd, ↓reduceIte, zA, zB, zC, zD, zE, zF, reduceBEq, reduceCtorEq, zG, zH, zI, zJ, zK, dcells, okc]
    · have g2' : t.kind = 24 := by simpa using g2
      obtain ⟨s0, hs0⟩ := ht t (by rw [T.pre_eq]; exact List.mem_cons_self) g2'
      have hsw : subW t 0 = s0.width := by simp [subW, hs0]
      have hlf : leafB m vs t = decide (s0.width = m.address) := by unfold leafB; rw [if_neg g1', if_pos g2', hsw]
      rw [hlf, ← Bool.and_assoc]
      simp -dsimp only [run_eq, ir164, T.d_eq, g1, g2, hs0, f7, hlk, hM.1, h1, EVs, ↓EVd, ↓reduceIte, zA, zB, zC, zD, zE, zF, reduceBEq, reduceCtorEq, zG, zH, zI, zJ, zK, dcells, okc]
      generalize hI : iter _ _ _ _ = I
      revert I
      refine main _ _ (ok && decide (s0.width = m.address)) ?_ ?_
      · simp -dsimp only [T.d_eq, f1, f2, f4, f5, ha1, hb1, EVs, ↓EVd, ↓reduceIte, zA, zB, zC, zD, zE, zF, reduceBEq, reduceCtorEq, zG, zH, zI, zJ, zK, dcells, okc]
      · simp -dsimp only [lp164x0, T.d_eq, ha, hb, EVs, ↓EVd, ↓reduceIte, zA, zB, zC, zD, zE, zF, reduceBEq, reduceCtorEq, zG, zH, zI, zJ, zK, dcells, okc]
  · have g1' : t.kind = 2 := by simpa using g1
    have hlf : leafB m vs t = decide (aGet vs t.name = t.width) := by unfold leafB; rw [if_pos g1']
    rw [hlf, ← Bool.and_assoc]
    simp -dsimp only [run_eq, ir164, T.d_eq, g1, f9, hv, mfind_a, mlkR_a, hM.1, h1, EVs, ↓EVd, ↓reduceIte, zA, zB, zC, zD, zE, zF, reduceBEq, reduceCtorEq, zG, zH, zI, zJ, zK, dcells, okc]
    generalize hI : iter _ _ _ _ = I
    revert I
    refine main _ _ (ok && decide (aGet vs t.name = t.width)) ?_ ?_
    · simp -dsimp only [T.d_eq, f1, f2, f4, f5, ha1, hb1, EVs, ↓EVd, ↓reduceIte, zA, zB, zC, zD, zE, zF, reduceBEq, reduceCtorEq, zG, zH, zI, zJ, zK, dcells, okc]
    · simp -dsimp only [lp164x0, T.d_eq, ha, hb, EVs, ↓EVd, ↓reduceIte, zA, zB, zC, zD, zE, zF, reduceBEq, reduceCtorEq, zG, zH, zI, zJ, zK, dcells, okc]
end Go.Proofs.Dv
set_option linter.unusedVariables false
set_option linter.unusedSimpArgs false
set_option maxRecDepth 100000
namespace Go.Proofs.Dv
open Go.RowKit
open Nat renaming reduceEqDiff → zA, reduceAdd → zB, reduceSub → zC, reduceLeDiff → zD, reduceLT → zE, reduceMul → zF
open Int renaming reduceToNat → zG, reduceLE → zH, reduceLT → zI
open List renaming set_cons_zero → zJ, set_cons_succ → zK
def TOK (t : T) : Prop := t.depth ≤ 1000 ∧ t.size ≤ 1000000 ∧ (∀ u ∈ t.pre, 0 ≤ u.kind) ∧ lenOK.lenOKs t.d
theorem node_ld {t : T} (h : t.pre.all nodeOK = true) : LdOK t := by
  intro u hu hk
  have := List.all_eq_true.1 h u hu
  have hp : partsOf u.kind.toNat = 1 := by rw [hk]; decide
  have hl : (u.sub.length : Int) = 1 := by
    simp only [nodeOK, hp] at this
    revert this
    cases inB u.width 1 64 <;> simp
    omega
  exact ⟨u.sub[0]'(by omega), List.getElem?_eq_getElem (by omega)⟩
theorem chk_ld {t : T} (h : chkT t = 0) : LdOK t ∧ t.depth ≤ 60 := by
  unfold chkT at h
  cases h1 : decide (400 < (t.size : Int)) with
  | true => rw [h1] at h; simp at h
  | false =>
    cases h2 : decide (60 < (t.depth : Int)) with
    | true => rw [h1, h2] at h; simp at h
    | false =>
      cases h3 : t.pre.all nodeOK with
      | false => rw [h1, h2, h3] at h; simp at h
      | true => exact ⟨node_ld h3, by simp at h2; omega⟩
def fitB (m : Mc) (vs : List (ByteArray × Int)) (t : T) : Bool := decide (chkT t = 0) && lvOK m vs t
def FitsC (C : Ctx) : Prop := C.T 149 = none ∧ ∀ {m : Mc} {vs : List (ByteArray × Int)} {H : Bool → List (Nat × Blk)}, Lvs 1 9 14 m vs H → ∀ (t : T), TOK t → ∀ ok, C.cal 149 [.ptr 1 0, .mp 9, .lst true [t.d]] (H ok) 14 = some (.tup [], H (ok && fitB m vs t), 14)
theorem c_fits (C : Ctx) (N : Nat) (hN : maxLen + 10 < N) (hM : MustC C) (hL : LeavesC C 60) (hT : C.T 163 = some (s_ChkT 1000)) {m : Mc} {vs : List (ByteArray × Int)} {H : Bool → List (Nat × Blk)} (hk : Lvs 1 9 14 m vs H) (t : T) (ht : TOK t) (ok : Bool) :
    gcr 14 (run C N ir149 [.ptr 1 0, .mp 9, .lst true [t.d]] (H ok) 14) = some (.tup [], H (ok && fitB m vs t), 14) := by
  have hml := maxLen_ge
  have ha := hk.k.a
  have hb := hk.k.b
  have hlk := hk.k.lk
  have hk15 := hk.cons (k := 14) (b := t.d) (Nat.le_refl _) (d_idlts _ _)
  have h1 := fun ok => (mustE hM hk15.k).1 ok
  have e1 := @e_ChkT 1000 t ⟨ht.1, by omega, ht.2.1, ht.2.2.1⟩
  simp only [T.d_eq] at h1 e1
  simp only [cD] at hlk
  simp -dsimp only [run_eq, ir149, EVs, ↓EVd, ↓reduceIte, zA, zB, zC, zD, zE, zF, reduceBEq, reduceCtorEq, zG, zH, zI, zJ, zK, dcells, okc]
  generalize hI : iter _ _ _ _ = I
  revert I
  have hd1 : decide ((0 : Int) < 1) = true := rfl
  have hone : ((1 : Nat) : Int) = 1 := rfl
  have hw1 : IntKind.i64.wrap (0 + 1) = 1 := by rw [wr] <;> omega
  refine iter_test2 [t] (fun j ok => ⟨[(0, .ptr 1 0), (1, .mp 9), (8, .lst true [t.d]), (9, .v (.int .i64 1)), (10, .v (.int .i64 j))], H ok, 14⟩) (fun ok u => ok && decide (chkT u = 0)) (fun _ u => lvOK m vs u) (fun _ _ => ()) (fun j a => j = 0 → a = ok) ok (by simp [maxLen]) hN ?_ (fun _ => rfl) ?_ ?_ ?_
  · simp -dsimp only [ha, hb, EVs, ↓EVd, ↓reduceIte, zA, zB, zC, zD, zE, zF, reduceBEq, reduceCtorEq, zG, zH, zI, zJ, zK, dcells, okc]
  · rintro j ok u hj hjw hu _ htt
    obtain rfl : j = 0 := by
      rcases j with _ | j
      · rfl
      · simp at hu
    simp at hu
    subst hu
    refine ⟨?_, fun h => by omega⟩
    simp only [Bool.and_eq_true] at htt
    obtain ⟨t1, t2⟩ := htt
    subst t1
    have t3 : chkT t = 0 := by simpa using t2
    have h2 := hL.2 hk15 t (chk_ld t3).2 (chk_ld t3).1 ht.2.2.2 true
    simp only [T.d_eq] at h2
    simp -dsimp only [lp149x0, hj, hjw, T.d_eq, hT, e1, hM.1, h1, t2, hlk, hL.1, h2, ha, hb, hd1, hone, hw1, EVs, ↓EVd, ↓reduceIte, zA, zB, zC, zD, zE, zF, reduceBEq, reduceCtorEq, zG, zH, zI, zJ, zK, dcells, okc]
  · rintro j ok' u hj hu hinv htt hs
    obtain rfl : j = 0 := by
      rcases j with _ | j
      · rfl
      · simp at hu
    simp at hu
    subst hu
    obtain rfl := hinv rfl
    have hok : (ok' && fitB m vs t) = false := by
      unfold fitB
      rw [← Bool.and_assoc]
      simp only [htt, Bool.false_and]
    rw [hok]
    simp -dsimp only [lp149x0, T.d_eq, hT, e1, hM.1, h1, htt, hlk, ha, hb, hd1, hone, hw1, EVs, ↓EVd, ↓reduceIte, zA, zB, zC, zD, zE, zF, reduceBEq, reduceCtorEq, zG, zH, zI, zJ, zK, dcells, okc]
  · rintro a _ hs
    have hh : ok = true ∧ decide (chkT t = 0) = true ∧ lvOK m vs t = a := by
      simp only [scan, tst] at hs
      cases hq : (ok && decide (chkT t = 0)) with
      | false => rw [hq] at hs; simp at hs
      | true =>
        rw [hq] at hs
        simp only [Bool.and_eq_true] at hq
        simp at hs
        exact ⟨hq.1, hq.2, hs⟩
    obtain ⟨rfl, q2, rfl⟩ := hh
    have hd2 : decide ((1 : Int) < 1) = false := rfl
    rw [fitB, q2]
    simp -dsimp only [lp149x0, hd2, hone, ha, hb, EVs, ↓EVd, ↓reduceIte, zA, zB, zC, zD, zE, zF, reduceBEq, reduceCtorEq, zG, zH, zI, zJ, zK, dcells, okc]
def effW (m : Mc) (i : Ins) (e : Ef) : Bool := (zeroT e.addr && zeroT e.cond) &&
  (if (decide (e.operand = -1) && inB e.reg 0 (IntKind.i64.wrap ((m.regs.length : Int) - 1))) = true then decide (e.value.width = regW m e.reg) else
   if (decide (e.reg = 0) && inB e.operand 0 (IntKind.i64.wrap ((i.operands.length : Int) - 1))) = true then
     (match i.operands[e.operand.toNat]? with | some o => decide (o.kind = 1) && decide (e.value.width = (wideO m o).getD 0) | none => false) else false)
def effS (m : Mc) (vs : List (ByteArray × Int)) (e : Ef) : Bool := fitB m vs e.addr && (zeroT e.cond && (decide (e.addr.width = m.address) && has e.value.width [8, 16, 32, 64]))
def effJ (m : Mc) (vs : List (ByteArray × Int)) (e : Ef) : Bool := (zeroT e.addr && decide (e.value.width = m.address)) && (zeroT e.cond || (fitB m vs e.cond && decide (e.cond.width = 1)))
def effB (m : Mc) (i : Ins) (vs : List (ByteArray × Int)) (e : Ef) : Bool :=
  if e.kind = 1 then effW m i e else if e.kind = 2 then effS m vs e else if e.kind = 3 then effJ m vs e else if e.kind = 4 then zeroT e.addr && zeroT e.cond else false
def effOK (m : Mc) (i : Ins) (vs : List (ByteArray × Int)) (e : Ef) : Bool := (decide (e.kind = 1) || (decide (e.operand = 0) && decide (e.reg = 0))) && (fitB m vs e.value && effB m i vs e)
theorem ef_idlts (e : Ef) (n : Nat) : idlt.idlts n e.d = true := by simp only [Ef.d, T.d_eq]; rfl
set_option maxHeartbeats 2000000 in
theorem c_effect (C : Ctx) (N : Nat) (hM : MustC C) (hFt : FitsC C) (hW : C.T 58 = some s_in) (hwd : C.T 148 = some s_WideO) (hZ : C.T 150 = some s_ZeroTs) (hH : C.T 100 = some s_HasI) {m : Mc} {vs : List (ByteArray × Int)} {H : Bool → List (Nat × Blk)} (hk : Lvs 1 9 12 m vs H) (i : Ins) (e : Ef)
    (hr : m.regs.length ≤ 1000) (hop : i.operands.length ≤ 1000) (hw : ∀ o ∈ i.operands, (wideO m o).isSome = true) (t1 : TOK e.addr) (t2 : TOK e.value) (t3 : TOK e.cond) (ok : Bool) :
    gcr 12 (run C N ir109 [.ptr 1 0, .agg i.d, .agg e.d, .mp 9] (H ok) 12) = some (.tup [], H (ok && effOK m i vs e), 12) := by
  have ha := hk.k.a
  have hb := hk.k.b
  have hlk := hk.k.lk
  have hk14 := (hk.cons (k := 12) (b := i.d) (Nat.le_refl _) rfl).cons (k := 13) (b := e.d) (by omega) (ef_idlts _ _)
  have m1 := fun ok => (mustE hM hk14.k).1 ok
  have m2 := fun ok => (mustE hM hk14.k).2.1 ok
  have m3 := fun ok => (mustE hM hk14.k).2.2.1 ok
  have f1 := fun ok => hFt.2 hk14 e.addr t1 ok
  have f2 := fun ok => hFt.2 hk14 e.value t2 ok
  have f3 := fun ok => hFt.2 hk14 e.cond t3 ok
  have z1 := @e_None1 e.addr
  have z2 := @e_None1 e.cond
  have z3 := @e_None2 e.addr e.cond
  have e2 := @e_HasI true [8, 16, 32, 64] e.value.width
  have e3 := @e_in e.reg 0 (IntKind.i64.wrap ((m.regs.length : Int) - 1))
  have e4 := @e_in e.operand 0 (IntKind.i64.wrap ((i.operands.length : Int) - 1))
  simp only [List.map_cons, List.map_nil, iD] at e2
  simp only [Ins.d, Ef.d, T.d_eq, List.cons_append, List.nil_append] at m1 m2 m3 f1 f2 f3 z1 z2 z3
  simp only [cD] at hlk
  unfold effOK
  cases k1 : decide (e.kind = 1)
  · have k1' : ¬ e.kind = 1 := by simpa using k1
    rw [Bool.false_or, effB, if_neg k1']
    cases k2 : decide (e.kind = 2)
    case true =>
      have k2' : e.kind = 2 := by simpa using k2
      rw [if_pos k2', effS]
      simp -dsimp only [run_eq, ir109, Ins.d, Ef.d, T.d_eq, k1, k2, hlk, hM.1, m1, m2, m3, hFt.1, f1, f2, hZ, z2, hH, e2, ha, hb, Bool.and_assoc, EVs, ↓EVd, ↓reduceIte, zA, zB, zC, zD, zE, zF, reduceBEq, reduceCtorEq, zG, zH, zI, zJ, zK, dcells, okc]
    have k2' : ¬ e.kind = 2 := by simpa using k2
    rw [if_neg k2']
    cases k3 : decide (e.kind = 3)
    case true =>
      have k3' : e.kind = 3 := by simpa using k3
      rw [if_pos k3', effJ]
      cases hz : zeroT e.cond
      · simp -dsimp only [run_eq, ir109, Ins.d, Ef.d, T.d_eq, k1, k2, k3, hz, hlk, hM.1, m1, m2, m3, hFt.1, f1, f2, f3, hZ, z1, z2, ha, hb, Bool.and_assoc, EVs, ↓EVd, ↓reduceIte, zA, zB, zC, zD, zE, zF, reduceBEq, reduceCtorEq, zG, zH, zI, zJ, zK, dcells, okc]
      · simp -dsimp only [run_eq, ir109, Ins.d, Ef.d, T.d_eq, k1, k2, k3, hz, hlk, hM.1, m1, m2, m3, hFt.1, f1, f2, f3, hZ, z1, z2, ha, hb, Bool.and_assoc, EVs, ↓EVd, ↓reduceIte, zA, zB, zC, zD, zE, zF, reduceBEq, reduceCtorEq, zG, zH, zI, zJ, zK, dcells, okc]
    have k3' : ¬ e.kind = 3 := by simpa using k3
    rw [if_neg k3']
    cases k4 : decide (e.kind = 4)
    case true =>
      have k4' : e.kind = 4 := by simpa using k4
      rw [if_pos k4']
      simp -dsimp only [run_eq, ir109, Ins.d, Ef.d, T.d_eq, k1, k2, k3, k4, hlk, hM.1, m1, m2, m3, hFt.1, f1, f2, hZ, z3, ha, hb, Bool.and_assoc, EVs, ↓EVd, ↓reduceIte, zA, zB, zC, zD, zE, zF, reduceBEq, reduceCtorEq, zG, zH, zI, zJ, zK, dcells, okc]
    have k4' : ¬ e.kind = 4 := by simpa using k4
    rw [if_neg k4']
    simp -dsimp only [run_eq, ir109, Ins.d, Ef.d, T.d_eq, k1, k2, k3, k4, hlk, hM.1, m1, m2, hFt.1, f1, f2, ha, hb, Bool.and_assoc, EVs, ↓EVd, ↓reduceIte, zA, zB, zC, zD, zE, zF, reduceBEq, reduceCtorEq, zG, zH, zI, zJ, zK, dcells, okc]
  · have k1' : e.kind = 1 := by simpa using k1
    rw [Bool.true_or, Bool.true_and, effB, if_pos k1', effW]
    have bc : ∀ (hA : (decide (e.operand = -1) && inB e.reg 0 (IntKind.i64.wrap ((m.regs.length : Int) - 1))) = false), gcr 12 (run C N ir109 [.ptr 1 0, .agg i.d, .agg e.d, .mp 9] (H ok) 12) = some (.tup [], H (ok && (fitB m vs e.value && ((zeroT e.addr && zeroT e.cond) &&
        (if (decide (e.reg = 0) && inB e.operand 0 (IntKind.i64.wrap ((i.operands.length : Int) - 1))) = true then (match i.operands[e.operand.toNat]? with | some o => decide (o.kind = 1) && decide (e.value.width = (wideO m o).getD 0) | none => false) else false)))), 12) := by
      intro hA
      cases k7 : decide (e.reg = 0) <;> cases k8 : inB e.operand 0 (IntKind.i64.wrap ((i.operands.length : Int) - 1))
      case true.true =>
        rw [if_pos (show (true && true) = true from rfl)]
        obtain ⟨r1, o, r2⟩ := inB_get (l := i.operands) (by omega) k8
        have e5 := @e_WideO m o (hw o (List.mem_of_getElem? r2))
        have m5 := fun ok => (mustE hM (hk14.cons (k := 14) (b := o.d) (by omega) rfl).k).2.1 ok
        simp only [Ins.d, Ef.d, T.d_eq, Opn.d, Mc.d, List.cons_append, List.nil_append] at m5 e5
        rw [r2]
        cases k5 : decide (e.operand = -1) <;> cases k6 : inB e.reg 0 (IntKind.i64.wrap ((m.regs.length : Int) - 1))
        case true.true => rw [k5, k6] at hA; simp at hA
        all_goals simp -dsimp only [run_eq, ir109, Ins.d, Ef.d, T.d_eq, k1, hlk, hM.1, m1, m2, hFt.1, f2, hZ, z3, hW, e3, e4, ha, hb, Bool.and_assoc, k5, k6, k7, k8, r1, r2, Opn.d, hwd, e5, m5, EVs, ↓EVd, ↓reduceIte, zA, zB, zC, zD, zE, zF, reduceBEq, reduceCtorEq, zG, zH, zI, zJ, zK, dcells, okc]
      all_goals
        rw [if_neg (by simp)]
        cases k5 : decide (e.operand = -1) <;> cases k6 : inB e.reg 0 (IntKind.i64.wrap ((m.regs.length : Int) - 1))
        case true.true => rw [k5, k6] at hA; simp at hA
        all_goals simp -dsimp only [run_eq, ir109, Ins.d, Ef.d, T.d_eq, k1, hlk, hM.1, m1, m2, hFt.1, f2, hZ, z3, hW, e3, e4, ha, hb, Bool.and_assoc, k5, k6, k7, k8, EVs, ↓EVd, ↓reduceIte, zA, zB, zC, zD, zE, zF, reduceBEq, reduceCtorEq, zG, zH, zI, zJ, zK, dcells, okc]
    cases k5 : decide (e.operand = -1) <;> cases k6 : inB e.reg 0 (IntKind.i64.wrap ((m.regs.length : Int) - 1))
    case true.true =>
      rw [if_pos (show (true && true) = true from rfl)]
      obtain ⟨r1, p, r2⟩ := inB_get (l := m.regs) (by omega) k6
      have w1 : regW m e.reg = p.width := by simp [regW, r2]
      rw [w1]
      simp -dsimp only [run_eq, ir109, Ins.d, Ef.d, T.d_eq, k1, hlk, hM.1, m1, m2, hFt.1, f2, hZ, z3, hW, e3, e4, ha, hb, Bool.and_assoc, k5, k6, r1, r2, Rg.d, EVs, ↓EVd, ↓reduceIte, zA, zB, zC, zD, zE, zF, reduceBEq, reduceCtorEq, zG, zH, zI, zJ, zK, dcells, okc]
    all_goals
      rw [if_neg (by simp)]
      exact bc (by rw [k5, k6]; rfl)
end Go.Proofs.Dv
