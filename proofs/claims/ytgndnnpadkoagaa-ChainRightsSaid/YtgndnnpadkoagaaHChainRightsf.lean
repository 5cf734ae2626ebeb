/- Own texts of this claim, joined. No conditions. -/
import Derived.Test.YtgndnnpadkoagaaHChainRightsa
import Derived.Test.YtgndnnpadkoagaaHChainRightsb
import Derived.Test.YtgndnnpadkoagaaHChainRightsc
import Derived.Test.YtgndnnpadkoagaaHChainRightsd
import Derived.Test.YtgndnnpadkoagaaHChainRightse
/- Walks of this seat, printed by gen.py over the engine: what each function returns, in whatever world. No conditions but those of each contract. -/
set_option linter.unusedVariables false
set_option linter.unusedSimpArgs false
set_option maxRecDepth 20000
namespace Go.Proofs
open Go.Rt Go.Rt.Ch
open Go.Rt.Ha (firstE firstE_step firstE_stop firstE_end failE nameE felt spanL upto span_mem listL fewest fewTo bit before fewStep drop_lt drop_get drop_next drop_done drop_notin set_take set_zero take_less Lot Bunch feltTo fTo fPart felt_zero felt_step fTo_succ fTo_len fPart_succ fPart_len fPart_all filt_yes filt_no upto_len at_ someOf choicesTo)
attribute [local irreducible] WL WC Con Yd At Ats Sl Agree DW

theorem q_zeroedI {h : Int} (h0 : 0 ≤ h) : qOf h = zeroed h.toNat := by
  have e := q_zeroed h.toNat
  rw [Int.toNat_of_nonneg h0] at e; exact e
theorem anyk_step {p : List Int → Bool} {l : List (List Int)} {i : Nat} (hi : i < l.length) : (l.take (i + 1)).any p = ((l.take i).any p || p l[i]) := by rw [List.take_succ_eq_append_getElem hi, List.any_append]; simp
theorem bb_vals {a b c d : Bool} {x y : Int} (h1 : a = b) (h2 : c = d) (h3 : x = y) : [Value.bool a, Value.bool c, Value.int .i64 x] = [Value.bool b, Value.bool d, Value.int .i64 y] := by rw [h1, h2, h3]
theorem c24 {w0 w : World} {F : List (Nat × Obj)} (b : Board) (p : AtB) (hm : BIn w0 F b p) (x : Int) (hs : St w0 w F) :
  Con Try.prog 24 [.agg (b.cells p).toArray, .int .i64 x] w fun v w' => v = .tuple #[.int .i64 (rightP b x).1, .int .i64 (rightP b x).2] ∧ St w0 w' F := by
  refine con_of_wc (n := 57) Try.func24 rfl rfl (Nat.le_of_ble_eq_true rfl) ?_
  have hlh0 := hm.lh
  have hlc0 := hm.lc
  refine w_seq (fun K2 hK1 => ?_)
  refine w_region ?_
  refine w_box (v := .agg #[.int _ _, .slice _ _ _, .slice _ _ _]) (cs := [_, _, _]) want_none rfl rfl rfl hs (fun b3 w4 hs5 => ?_)
  refine w_pure want_none (y_assign (v := _) rfl rfl) rfl ?_
  refine w_pure want_none (y_assign (v := _) rfl rfl) rfl ?_
  refine w_nil ?_
  refine q_then (hK1 _ _ ?_)
  refine w_seq (fun K7 hK6 => ?_)
  refine w_draw [] [(0, 1), (1, 1), (2, 0), (3, 0), (4, 1), (5, 0), (6, 2), (7, 2), (8, 0), (9, 0), (10, 0), (11, 0), (12, 0)] Try_mo (drawOK_of (by kernel_rfl)) hs5 (fun w8 hs9 => ?_)
  refine d_take rfl want_none rfl hs9 (fun _ hq => (y_loadN (vs := [_, _, _]) Try.isAgg25 Try.sizeOf25 hq rfl rfl (ats_own (i := 0) (vs := [_, _, _]) rfl rfl))) ?_
  refine d_take rfl want_none rfl hs9 (fun _ hq => (y_loadN (vs := [_, _, _]) Try.isAgg25 Try.sizeOf25 hq rfl rfl (ats_own (i := 0) (vs := [_, _, _]) rfl rfl))) ?_
  refine d_any rfl want_none rfl (fun _ => (y_move (v := .int _ _) rfl rfl)) ?_
  refine d_any rfl want_none rfl (fun _ => (y_fieldAddr (o := 2) (i := 2) Try.underlying25 rfl Try.sizeOf23 rfl rfl rfl)) ?_
  refine d_take rfl want_none rfl hs9 (fun _ hq => (y_load1 Try.isAgg23 hq rfl rfl (ats_own (i := 0) (vs := [_]) rfl rfl))) ?_
  refine d_any rfl want_none rfl (fun _ => (y_lenS Try.underlying23 rfl rfl)) ?_
  refine d_eff rfl ?_
  refine w_call want_none Try.call67 rfl rfl rfl rfl (c67 b p hm.cons x (b.ctrs.length : Int) (fun h => by have := (check_ok h).lc; omega) hs9) ?_
  rintro _ w11 ⟨rfl, hs12⟩
  refine w_nil ?_
  refine qn ⟨hs12, ?_⟩
  refine d_eff rfl ?_
  refine w_call want_none Try.call66 rfl rfl rfl rfl (c66 b p hm.cons (idxC b x (b.ctrs.length : Int)) (fun h => check_ok (idxC_zero h).1) hs12) ?_
  rintro _ w14 (⟨hee, rfl, hs15⟩ | ⟨hee, B, vs, a, c, rfl, hslB, helB, hs15⟩)
  ·
   refine w_nil ?_
   refine qn ⟨hs15, ?_⟩
   refine d_any rfl want_none rfl (fun _ => (y_move (v := .tuple _) rfl rfl)) ?_
   refine d_any rfl want_none rfl (fun _ => (y_extract (v := .slice _ _ _) rfl rfl rfl)) ?_
   refine d_any rfl want_none rfl (fun _ => (y_extract (v := .int _ _) rfl rfl rfl)) ?_
   refine d_any rfl want_none rfl (fun _ => (y_assign (v := .slice _ _ _) rfl rfl)) ?_
   refine d_any rfl want_none rfl (fun _ => (y_assign (v := .int _ _) rfl rfl)) ?_
   refine d_nil ?_
   refine q_then (hK6 _ _ ?_)
   refine w_seq (fun K17 hK16 => ?_)
   refine w_seq (fun K19 hK18 => ?_)
   refine w_region ?_
   refine w_pure want_none (y_move (v := .int _ _) rfl rfl) rfl ?_
   refine w_pure want_none (y_neq rfl rfl rfl rfl) rfl ?_
   refine w_nil ?_
   refine q_then (hK18 _ _ ?_)
   refine w_cond rfl rfl (fun h20 => ?_) (fun h20 => ?_)
   ·
    try simp only [Bool.not_eq_true', Bool.not_eq_false', decide_eq_true_eq, decide_eq_false_iff_not, Int.not_lt, Int.not_le] at h20
    refine w_seq (fun K22 hK21 => ?_)
    refine w_region ?_
    refine w_pure want_none (y_move (v := .int _ _) rfl rfl) rfl ?_
    refine w_pure want_none (y_assign (v := _) rfl rfl) rfl ?_
    refine w_pure want_none (y_assign (v := .int _ _) rfl rfl) rfl ?_
    refine w_nil ?_
    refine q_then (hK21 _ _ ?_)
    refine w_ret ?_
    refine q_then_ret ?_
    refine q_ret (l := [.tmp 4, .tmp 5]) (vs := [_, _]) rfl ⟨⟨rfl, show _ = (.int _ _ : Value) from rfl⟩, ⟨rfl, show _ = (.int _ _ : Value) from rfl⟩, trivial⟩ ?_
    exact ⟨by rw [idxC_enter] at *; unfold rightP; rw [if_pos hee]; rfl, hs15.tail⟩
   ·
    exfalso
    try simp only [Bool.not_eq_true', Bool.not_eq_false', decide_eq_true_eq, decide_eq_false_iff_not, Int.not_lt, Int.not_le] at h20
    first | exact hee h20 | exact h20 hee
  ·
   replace hs15 := (show St _ _ (B ++ (_ :: F)) from hs15)
   have hke := kE_zero hee
   have hok := check_ok (idxC_zero hke.1).1
   have hix := (idxC_zero hke.1).2
   have hlh := hok.lh
   have hlc := hok.lc
   have hwl := truths_256 hok
   have hwp : 0 < (truths b).length := List.length_pos_iff.2 hke.2
   have hall : ∀ l ∈ truths b, l.length = b.hours.length ∧ ∀ k, 0 ≤ ld l k ∧ ld l k ≤ 40 := fun l hl => ⟨(truth_in hl).1, fun k => ld_40 hok hl k⟩
   refine w_nil ?_
   refine qn ⟨hs15.drop, ?_⟩
   refine d_any rfl want_none rfl (fun _ => (y_move (v := .tuple _) rfl rfl)) ?_
   refine d_any rfl want_none rfl (fun _ => (y_extract (v := .slice _ _ _) rfl rfl rfl)) ?_
   refine d_any rfl want_none rfl (fun _ => (y_extract (v := .int _ _) rfl rfl rfl)) ?_
   refine d_any rfl want_none rfl (fun _ => (y_assign (v := .slice _ _ _) rfl rfl)) ?_
   refine d_any rfl want_none rfl (fun _ => (y_assign (v := .int _ _) rfl rfl)) ?_
   refine d_nil ?_
   refine q_then (hK6 _ _ ?_)
   refine w_seq (fun K24 hK23 => ?_)
   refine w_seq (fun K26 hK25 => ?_)
   refine w_region ?_
   refine w_pure want_none (y_move (v := .int _ _) rfl rfl) rfl ?_
   refine w_pure want_none (y_neq rfl rfl rfl rfl) rfl ?_
   refine w_nil ?_
   refine q_then (hK25 _ _ ?_)
   refine w_condF rfl rfl ?_
   refine w_skip ?_
   refine q_then (hK23 _ _ ?_)
   refine w_seq (fun K28 hK27 => ?_)
   have hs29 := St.perm (L := B ++ ([_] ++ F)) hs15 (perm_mid B [_] _)
   replace hs29 := (show St _ _ (_ :: (B ++ F)) from hs29)
   have hxc : x.toNat < b.ctrs.length := by omega
   have hcx := hok.ctr _ (List.getElem_mem hxc)
   obtain ⟨bx, ox, hbx, hx⟩ := sl_krows hm.c hxc
   refine w_region ?_
   refine w_pure want_none (y_assign (v := _) rfl rfl) rfl ?_
   refine w_pure want_none (y_assign (v := _) rfl rfl) rfl ?_
   refine w_nil ?_
   refine q_then (hK27 _ _ ?_)
   refine w_seq (fun K31 hK30 => ?_)
   refine w_seq (fun K33 hK32 => ?_)
   refine w_region ?_
   refine w_pure want_none (y_assign (v := _) rfl rfl) rfl ?_
   refine w_nil ?_
   refine q_then (hK32 _ _ ?_)
   refine w_block ?_
   refine w_loop [8, 9, 10, 11, 12, 27, 28, 29, 30, 31, 32, 33, 34, 35, 36, 37, 38, 39, 40, 41, 42, 43, 44, 45, 46, 47, 48, 49, 50, 51, 52, 53] [8, 9, 10] (fun k vs0 w => ∃ i : Nat, vs0 = [.bool (((truths b).take i).any fun l => notF (b.ctrs[x.toNat]'hxc) l slips b.hours.length), .bool (((truths b).take i).any fun l => metF (b.ctrs[x.toNat]'hxc) l slips b.hours.length), .int .i64 i] ∧ i ≤ (truths b).length ∧ k = (truths b).length - i ∧ St w0 w ((b3, blk 25 (b.cells p)) :: (B ++ F))) ((truths b).length) ?_ ?_
   ·
    exact ⟨0, rfl, by omega, by omega, hs29⟩
   ·
    intro k vs μ w36 hI K35 hN34
    clear hs
    obtain ⟨i, rfl, hia, rfl, hs⟩ := hI
    generalize hyy : (((truths b).take i).any fun l => notF (b.ctrs[x.toNat]'hxc) l slips b.hours.length) = yy
    generalize hnn : (((truths b).take i).any fun l => metF (b.ctrs[x.toNat]'hxc) l slips b.hours.length) = nn
    refine w_seq (fun K38 hK37 => ?_)
    refine w_seq (fun K40 hK39 => ?_)
    refine w_region ?_
    refine w_pure want_none (y_move (v := .int _ _) rfl rfl) rfl ?_
    refine w_pure want_none (y_move (v := .slice _ _ _) rfl rfl) rfl ?_
    refine w_pure want_none (y_lenS Try.underlying66 rfl rfl) rfl ?_
    refine w_pure want_none (y_lss rfl rfl rfl rfl) rfl ?_
    refine w_nil ?_
    refine q_then (hK39 _ _ ?_)
    refine w_cond rfl rfl (fun h41 => ?_) (fun h41 => ?_)
    ·
     try simp only [Bool.not_eq_true', Bool.not_eq_false', decide_eq_true_eq, decide_eq_false_iff_not, Int.not_lt, Int.not_le] at h41
     refine w_skip ?_
     refine q_then (hK37 _ _ ?_)
     refine w_seq (fun K43 hK42 => ?_)
     refine w_block ?_
     refine w_seq (fun K45 hK44 => ?_)
     have hi2 : i < (truths b).length := by omega
     have htm := List.getElem_mem hi2
     obtain ⟨ub, uo, ue, uq, ua, ux0, us, un⟩ := el_at hslB helB hi2
     have ux := ux0.top (F := F)
     cases ua
     refine w_draw [] [(0, 0), (1, 1), (2, 0), (3, 0), (4, 1), (5, 0), (6, 0), (7, 0), (8, 1), (9, 2), (10, 0), (11, 0), (12, 0), (13, 0), (14, 0)] Try_mo (drawOK_of (by kernel_rfl)) hs (fun w46 hs47 => ?_)
     refine d_any rfl want_none rfl (fun _ => (y_fieldAddr (o := 2) (i := 2) Try.underlying25 rfl Try.sizeOf23 rfl rfl rfl)) ?_
     refine d_take rfl want_none rfl hs47 (fun _ hq => (yd_slice hbx (y_load1 Try.isAgg23 hq rfl rfl (ats_own (i := 0) (vs := [_]) rfl rfl)))) ?_
     refine d_any rfl want_none rfl (fun _ => (y_move (v := .int _ _) rfl rfl)) ?_
     refine d_any rfl want_none rfl (fun _ => (y_indexS Try.underlying23 Try.sizeOf76 rfl rfl rfl rfl (i := x.toNat) (by omega) hxc)) ?_
     refine d_take rfl want_none rfl hs47 (fun _ hq => (y_loadN (vs := [_, _, _, _, _, _]) Try.isAgg76 Try.sizeOf76 hq.tail.drop rfl rfl hx)) ?_
     refine d_any rfl want_none rfl (fun _ => (y_move (v := .slice _ _ _) rfl rfl)) ?_
     refine d_any rfl want_none rfl (fun _ => (y_move (v := .int _ _) rfl rfl)) ?_
     refine d_any rfl want_none rfl (fun _ => (y_indexS Try.underlying66 Try.sizeOf39 rfl rfl rfl rfl (i := i) rfl hi2)) ?_
     refine d_take rfl want_none rfl hs47 (fun _ hq => (y_load1 Try.isAgg39 hq.tail rfl rfl ux)) ?_
     refine d_eff rfl ?_
     refine w_call want_none Try.call75 rfl rfl rfl rfl ((by have h := c75 (b.ctrs[x.toNat]'hxc) (p.pc x.toNat) b.hours.length hcx (hm.z _ hxc).app.cons (hm.s _ hxc).app.cons _ uq ((truths b)[i]'hi2) (hall _ htm).1 (by omega) (hall _ htm).2 us.top.cons (-1) hs47; rw [q_slips] at h; exact h)) ?_
     rintro _ w49 ⟨rfl, hs50⟩
     refine w_nil ?_
     refine qn ⟨hs50, ?_⟩
     refine d_any rfl want_none rfl (fun _ => (y_move (v := .tuple _) rfl rfl)) ?_
     refine d_any rfl want_none rfl (fun _ => (y_extract (v := .bool _) rfl rfl rfl)) ?_
     refine d_any rfl want_none rfl (fun _ => (y_extract (v := .bool _) rfl rfl rfl)) ?_
     refine d_any rfl want_none rfl (fun _ => (y_assign (v := .bool _) rfl rfl)) ?_
     refine d_any rfl want_none rfl (fun _ => (y_assign (v := .bool _) rfl rfl)) ?_
     refine d_nil ?_
     refine q_then (hK44 _ _ ?_)
     refine w_region ?_
     refine w_pure want_none (y_move (v := .bool _) rfl rfl) rfl ?_
     refine w_pure want_none (y_move (v := .bool _) rfl rfl) rfl ?_
     refine w_split (fun h51 => ?_) (fun h51 => ?_)
     ·
      subst h51
      refine w_skipop rfl rfl rfl ?_
      refine w_pure want_none (y_pickT (v := _) rfl rfl rfl rfl) rfl ?_
      refine w_pure want_none (y_move (v := .bool _) rfl rfl) rfl ?_
      refine w_pure want_none (y_move (v := .bool _) rfl rfl) rfl ?_
      refine w_split (fun h52 => ?_) (fun h52 => ?_)
      ·
       subst h52
       refine w_skipop rfl rfl rfl ?_
       refine w_pure want_none (y_pickT (v := _) rfl rfl rfl rfl) rfl ?_
       refine w_pure want_none (y_assign (v := .bool _) rfl rfl) rfl ?_
       refine w_pure want_none (y_assign (v := .bool _) rfl rfl) rfl ?_
       refine w_nil ?_
       refine q_blk_normal ?_
       refine q_then (hK42 _ _ ?_)
       refine w_region ?_
       refine w_pure want_none (y_move (v := .int _ _) rfl rfl) rfl ?_
       refine w_pure want_none (y_add rfl rfl rfl rfl (by omega) (by omega)) rfl ?_
       refine w_pure want_none (y_assign (v := .int _ _) rfl rfl) rfl ?_
       refine w_nil ?_
       refine q_then (hN34 _ _ (Nx.intro ((truths b).length - (i + 1)) (by omega) (by repeat (first | exact agree_mix | refine agree_upd rfl ?_ | refine agree_updL rfl ?_ _ | refine agree_mixin rfl ?_)) ?_))
       exact ⟨i + 1, bb_vals (by rw [anyk_step hi2, hyy]; simp [h41]) (by rw [anyk_step hi2, hnn]; simp [h41]) rfl, by omega, rfl, hs50⟩
      ·
       subst h52
       refine w_pure (want_yes rfl rfl rfl) (y_move (v := .bool _) rfl rfl) rfl ?_
       refine w_pure want_none (y_pickF (v := .bool _) rfl rfl rfl rfl) rfl ?_
       refine w_pure want_none (y_assign (v := .bool _) rfl rfl) rfl ?_
       refine w_pure want_none (y_assign (v := .bool _) rfl rfl) rfl ?_
       refine w_nil ?_
       refine q_blk_normal ?_
       refine q_then (hK42 _ _ ?_)
       refine w_region ?_
       refine w_pure want_none (y_move (v := .int _ _) rfl rfl) rfl ?_
       refine w_pure want_none (y_add rfl rfl rfl rfl (by omega) (by omega)) rfl ?_
       refine w_pure want_none (y_assign (v := .int _ _) rfl rfl) rfl ?_
       refine w_nil ?_
       refine q_then (hN34 _ _ (Nx.intro ((truths b).length - (i + 1)) (by omega) (by repeat (first | exact agree_mix | refine agree_upd rfl ?_ | refine agree_updL rfl ?_ _ | refine agree_mixin rfl ?_)) ?_))
       exact ⟨i + 1, bb_vals (by rw [anyk_step hi2, hyy]; simp [h41]) (by rw [anyk_step hi2, hnn]; simp [h41]) rfl, by omega, rfl, hs50⟩
     ·
      subst h51
      refine w_pure (want_yes rfl rfl rfl) (y_move (v := .bool _) rfl rfl) rfl ?_
      refine w_pure want_none (y_pickF (v := .bool _) rfl rfl rfl rfl) rfl ?_
      refine w_pure want_none (y_move (v := .bool _) rfl rfl) rfl ?_
      refine w_pure want_none (y_move (v := .bool _) rfl rfl) rfl ?_
      refine w_split (fun h53 => ?_) (fun h53 => ?_)
      ·
       subst h53
       refine w_skipop rfl rfl rfl ?_
       refine w_pure want_none (y_pickT (v := _) rfl rfl rfl rfl) rfl ?_
       refine w_pure want_none (y_assign (v := .bool _) rfl rfl) rfl ?_
       refine w_pure want_none (y_assign (v := .bool _) rfl rfl) rfl ?_
       refine w_nil ?_
       refine q_blk_normal ?_
       refine q_then (hK42 _ _ ?_)
       refine w_region ?_
       refine w_pure want_none (y_move (v := .int _ _) rfl rfl) rfl ?_
       refine w_pure want_none (y_add rfl rfl rfl rfl (by omega) (by omega)) rfl ?_
       refine w_pure want_none (y_assign (v := .int _ _) rfl rfl) rfl ?_
       refine w_nil ?_
       refine q_then (hN34 _ _ (Nx.intro ((truths b).length - (i + 1)) (by omega) (by repeat (first | exact agree_mix | refine agree_upd rfl ?_ | refine agree_updL rfl ?_ _ | refine agree_mixin rfl ?_)) ?_))
       exact ⟨i + 1, bb_vals (by rw [anyk_step hi2, hyy]; simp [h41]) (by rw [anyk_step hi2, hnn]; simp [h41]) rfl, by omega, rfl, hs50⟩
      ·
       subst h53
       refine w_pure (want_yes rfl rfl rfl) (y_move (v := .bool _) rfl rfl) rfl ?_
       refine w_pure want_none (y_pickF (v := .bool _) rfl rfl rfl rfl) rfl ?_
       refine w_pure want_none (y_assign (v := .bool _) rfl rfl) rfl ?_
       refine w_pure want_none (y_assign (v := .bool _) rfl rfl) rfl ?_
       refine w_nil ?_
       refine q_blk_normal ?_
       refine q_then (hK42 _ _ ?_)
       refine w_region ?_
       refine w_pure want_none (y_move (v := .int _ _) rfl rfl) rfl ?_
       refine w_pure want_none (y_add rfl rfl rfl rfl (by omega) (by omega)) rfl ?_
       refine w_pure want_none (y_assign (v := .int _ _) rfl rfl) rfl ?_
       refine w_nil ?_
       refine q_then (hN34 _ _ (Nx.intro ((truths b).length - (i + 1)) (by omega) (by repeat (first | exact agree_mix | refine agree_upd rfl ?_ | refine agree_updL rfl ?_ _ | refine agree_mixin rfl ?_)) ?_))
       exact ⟨i + 1, bb_vals (by rw [anyk_step hi2, hyy]; simp [h41]) (by rw [anyk_step hi2, hnn]; simp [h41]) rfl, by omega, rfl, hs50⟩
    ·
     try simp only [Bool.not_eq_true', Bool.not_eq_false', decide_eq_true_eq, decide_eq_false_iff_not, Int.not_lt, Int.not_le] at h41
     refine w_exit ?_
     refine q_then_exit ?_
     refine q_then_exit ?_
     refine q_blk_this ?_
     refine q_then (hK30 _ _ ?_)
     refine w_seq (fun K55 hK54 => ?_)
     refine w_region ?_
     refine w_pure want_none (y_move (v := .bool _) rfl rfl) rfl ?_
     refine w_pure want_none (y_move (v := .bool _) rfl rfl) rfl ?_
     refine w_call want_none Try.call76 rfl rfl rfl rfl (c76 _ _ hs) ?_
     rintro _ w57 ⟨rfl, hs58⟩
     refine w_pure want_none (y_assign (v := .int _ _) rfl rfl) rfl ?_
     refine w_pure want_none (y_assign (v := _) rfl rfl) rfl ?_
     refine w_nil ?_
     refine q_then (hK54 _ _ ?_)
     refine w_ret ?_
     refine q_ret (l := [.tmp 4, .tmp 5]) (vs := [_, _]) rfl ⟨⟨rfl, show _ = (.int _ _ : Value) from rfl⟩, ⟨rfl, show _ = (.int _ _ : Value) from rfl⟩, trivial⟩ ?_
     have hil : i = (truths b).length := by omega
     subst hil
     rw [List.take_length] at hyy hnn
     have hyy2 : askN b x.toNat slips = yy := by unfold askN; rw [ctr_at hxc]; exact hyy
     have hnn2 : askM b x.toNat slips = nn := by unfold askM; rw [ctr_at hxc]; exact hnn
     exact ⟨by rw [idxC_enter] at hee; unfold rightP; rw [if_neg (by rw [hee]; simp), hyy2, hnn2]; rfl, hs58.tail.drop⟩

theorem c26 {w0 w : World} {F : List (Nat × Obj)} (b : Board) (p : AtB) (hm : BIn w0 F b p) (x y : Int) (hs : St w0 w F) :
  Con Try.prog 26 [.agg (b.cells p).toArray, .int .i64 x, .int .i64 y] w fun v w' => v = .tuple #[.int .i64 (zeroP b x y).1, .int .i64 (zeroP b x y).2] ∧ St w0 w' F := by
  refine con_of_wc (n := 69) Try.func26 rfl rfl (Nat.le_of_ble_eq_true rfl) ?_
  have hlh0 := hm.lh
  have hlc0 := hm.lc
  refine w_seq (fun K2 hK1 => ?_)
  refine w_region ?_
  refine w_box (v := .agg #[.int _ _, .slice _ _ _, .slice _ _ _]) (cs := [_, _, _]) want_none rfl rfl rfl hs (fun b3 w4 hs5 => ?_)
  refine w_pure want_none (y_assign (v := _) rfl rfl) rfl ?_
  refine w_pure want_none (y_assign (v := _) rfl rfl) rfl ?_
  refine w_nil ?_
  refine q_then (hK1 _ _ ?_)
  refine w_seq (fun K7 hK6 => ?_)
  refine w_region ?_
  refine w_pure want_none (y_loadN (vs := [_, _, _]) Try.isAgg25 Try.sizeOf25 hs5 rfl rfl (ats_own (i := 0) (vs := [_, _, _]) rfl rfl)) rfl ?_
  refine w_pure want_none (y_move (v := .int _ _) rfl rfl) rfl ?_
  refine w_pure want_none (y_fieldAddr (o := 2) (i := 2) Try.underlying25 rfl Try.sizeOf23 rfl rfl rfl) rfl ?_
  refine w_pure want_none (y_load1 Try.isAgg23 hs5 rfl rfl (ats_own (i := 0) (vs := [_]) rfl rfl)) rfl ?_
  refine w_pure want_none (y_lenS Try.underlying23 rfl rfl) rfl ?_
  refine w_call want_none Try.call67 rfl rfl rfl rfl (c67 b p hm.cons x (b.ctrs.length : Int) (fun h => by have := (check_ok h).lc; omega) hs5) ?_
  rintro _ w9 ⟨rfl, hs10⟩
  refine w_pure want_none (y_assign (v := .int _ _) rfl rfl) rfl ?_
  refine w_nil ?_
  refine q_then (hK6 _ _ ?_)
  refine w_seq (fun K12 hK11 => ?_)
  refine w_cut [8, 21, 22, 23, 24, 25, 26, 27, 28] [8] (fun vs w => vs = [.int .i64 (idx2C b x (b.ctrs.length : Int) y (b.hours.length : Int))] ∧ St w0 w ((b3, blk 25 (b.cells p)) :: F)) (fun K14 hC13 => ?_) ?_
  ·
   refine w_seq (fun K16 hK15 => ?_)
   refine w_region ?_
   refine w_pure want_none (y_move (v := .int _ _) rfl rfl) rfl ?_
   refine w_pure want_none (y_eql rfl rfl rfl rfl) rfl ?_
   refine w_nil ?_
   refine q_then (hK15 _ _ ?_)
   refine w_cond rfl rfl (fun h17 => ?_) (fun h17 => ?_)
   ·
    try simp only [Bool.not_eq_true', Bool.not_eq_false', decide_eq_true_eq, decide_eq_false_iff_not, Int.not_lt, Int.not_le] at h17
    refine w_region ?_
    refine w_pure want_none (y_loadN (vs := [_, _, _]) Try.isAgg25 Try.sizeOf25 hs10 rfl rfl (ats_own (i := 0) (vs := [_, _, _]) rfl rfl)) rfl ?_
    refine w_pure want_none (y_move (v := .int _ _) rfl rfl) rfl ?_
    refine w_pure want_none (y_fieldAddr (o := 1) (i := 1) Try.underlying25 rfl Try.sizeOf22 rfl rfl rfl) rfl ?_
    refine w_pure want_none (y_load1 Try.isAgg22 hs10 rfl rfl (ats_own (i := 0) (vs := [_]) rfl rfl)) rfl ?_
    refine w_pure want_none (y_lenS Try.underlying22 rfl rfl) rfl ?_
    refine w_call want_none Try.call67 rfl rfl rfl rfl (c67 b p hm.cons y (b.hours.length : Int) (fun h => by have := (check_ok h).lh; omega) hs10) ?_
    rintro _ w19 ⟨rfl, hs20⟩
    refine w_pure want_none (y_assign (v := .int _ _) rfl rfl) rfl ?_
    refine w_nil ?_
    refine q_then (hC13 _ _ (Md.intro (by repeat (first | exact agree_refl | exact agree_mix | refine agree_upd rfl ?_ | refine agree_updL rfl ?_ _ | refine agree_mixin rfl ?_)) ?_))
    first
      | exact ⟨by unfold idx2C; rw [if_pos (by assumption)]; rfl, hs20⟩
      | exact ⟨by unfold idx2C; rw [if_neg (by assumption)]; rfl, hs20⟩
   ·
    try simp only [Bool.not_eq_true', Bool.not_eq_false', decide_eq_true_eq, decide_eq_false_iff_not, Int.not_lt, Int.not_le] at h17
    refine w_skip ?_
    refine q_then (hC13 _ _ (Md.intro (by repeat (first | exact agree_refl | exact agree_mix | refine agree_upd rfl ?_ | refine agree_updL rfl ?_ _ | refine agree_mixin rfl ?_)) ?_))
    first
      | exact ⟨by unfold idx2C; rw [if_pos (by assumption)]; rfl, hs10⟩
      | exact ⟨by unfold idx2C; rw [if_neg (by assumption)]; rfl, hs10⟩
  ·
   intro vs μ w21 hM
   obtain ⟨rfl, hs⟩ := hM
   refine q_then (hK11 _ _ ?_)
   refine w_seq (fun K23 hK22 => ?_)
   refine w_region ?_
   refine w_pure want_none (y_loadN (vs := [_, _, _]) Try.isAgg25 Try.sizeOf25 hs rfl rfl (ats_own (i := 0) (vs := [_, _, _]) rfl rfl)) rfl ?_
   refine w_pure want_none (y_move (v := .int _ _) rfl rfl) rfl ?_
   refine w_call want_none Try.call66 rfl rfl rfl rfl (c66 b p hm.cons (idx2C b x (b.ctrs.length : Int) y (b.hours.length : Int)) (fun h => check_ok (idx2C_zero h).1) hs) ?_
   rintro _ w25 (⟨hee, rfl, hs26⟩ | ⟨hee, B, vs, a, c, rfl, hslB, helB, hs26⟩)
   ·
    refine w_pure want_none (y_move (v := .tuple _) rfl rfl) rfl ?_
    refine w_pure want_none (y_extract (v := .slice _ _ _) rfl rfl rfl) rfl ?_
    refine w_pure want_none (y_extract (v := .int _ _) rfl rfl rfl) rfl ?_
    refine w_pure want_none (y_assign (v := .slice _ _ _) rfl rfl) rfl ?_
    refine w_pure want_none (y_assign (v := .int _ _) rfl rfl) rfl ?_
    refine w_nil ?_
    refine q_then (hK22 _ _ ?_)
    refine w_seq (fun K28 hK27 => ?_)
    refine w_seq (fun K30 hK29 => ?_)
    refine w_region ?_
    refine w_pure want_none (y_move (v := .int _ _) rfl rfl) rfl ?_
    refine w_pure want_none (y_neq rfl rfl rfl rfl) rfl ?_
    refine w_nil ?_
    refine q_then (hK29 _ _ ?_)
    refine w_cond rfl rfl (fun h31 => ?_) (fun h31 => ?_)
    ·
     try simp only [Bool.not_eq_true', Bool.not_eq_false', decide_eq_true_eq, decide_eq_false_iff_not, Int.not_lt, Int.not_le] at h31
     refine w_seq (fun K33 hK32 => ?_)
     refine w_region ?_
     refine w_pure want_none (y_move (v := .int _ _) rfl rfl) rfl ?_
     refine w_pure want_none (y_assign (v := _) rfl rfl) rfl ?_
     refine w_pure want_none (y_assign (v := .int _ _) rfl rfl) rfl ?_
     refine w_nil ?_
     refine q_then (hK32 _ _ ?_)
     refine w_ret ?_
     refine q_then_ret ?_
     refine q_ret (l := [.tmp 6, .tmp 7]) (vs := [_, _]) rfl ⟨⟨rfl, show _ = (.int _ _ : Value) from rfl⟩, ⟨rfl, show _ = (.int _ _ : Value) from rfl⟩, trivial⟩ ?_
     exact ⟨by rw [idx2C_enter] at *; unfold zeroP; rw [if_pos hee]; rfl, hs26.tail⟩
    ·
     exfalso
     try simp only [Bool.not_eq_true', Bool.not_eq_false', decide_eq_true_eq, decide_eq_false_iff_not, Int.not_lt, Int.not_le] at h31
     first | exact hee h31 | exact h31 hee
   ·
    replace hs26 := (show St _ _ (B ++ (_ :: F)) from hs26)
    have hke := kE_zero hee
    have hok := check_ok (idx2C_zero hke.1).1
    have hix := (idx2C_zero hke.1).2
    have hlh := hok.lh
    have hlc := hok.lc
    have hwl := truths_256 hok
    have hwp : 0 < (truths b).length := List.length_pos_iff.2 hke.2
    have hall : ∀ l ∈ truths b, l.length = b.hours.length ∧ ∀ k, 0 ≤ ld l k ∧ ld l k ≤ 40 := fun l hl => ⟨(truth_in hl).1, fun k => ld_40 hok hl k⟩
    refine w_pure want_none (y_move (v := .tuple _) rfl rfl) rfl ?_
    refine w_pure want_none (y_extract (v := .slice _ _ _) rfl rfl rfl) rfl ?_
    refine w_pure want_none (y_extract (v := .int _ _) rfl rfl rfl) rfl ?_
    refine w_pure want_none (y_assign (v := .slice _ _ _) rfl rfl) rfl ?_
    refine w_pure want_none (y_assign (v := .int _ _) rfl rfl) rfl ?_
    refine w_nil ?_
    refine q_then (hK22 _ _ ?_)
    refine w_seq (fun K35 hK34 => ?_)
    refine w_seq (fun K37 hK36 => ?_)
    refine w_region ?_
    refine w_pure want_none (y_move (v := .int _ _) rfl rfl) rfl ?_
    refine w_pure want_none (y_neq rfl rfl rfl rfl) rfl ?_
    refine w_nil ?_
    refine q_then (hK36 _ _ ?_)
    refine w_condF rfl rfl ?_
    refine w_skip ?_
    refine q_then (hK34 _ _ ?_)
    refine w_seq (fun K39 hK38 => ?_)
    have hs40 := St.perm (L := B ++ ([_] ++ F)) hs26 (perm_mid B [_] _)
    replace hs40 := (show St _ _ (_ :: (B ++ F)) from hs40)
    have hxc : x.toNat < b.ctrs.length := by omega
    have hcx := hok.ctr _ (List.getElem_mem hxc)
    obtain ⟨bx, ox, hbx, hx⟩ := sl_krows hm.c hxc
    refine w_region ?_
    refine w_pure want_none (y_assign (v := _) rfl rfl) rfl ?_
    refine w_pure want_none (y_assign (v := _) rfl rfl) rfl ?_
    refine w_nil ?_
    refine q_then (hK38 _ _ ?_)
    refine w_seq (fun K42 hK41 => ?_)
    refine w_seq (fun K44 hK43 => ?_)
    refine w_region ?_
    refine w_pure want_none (y_assign (v := _) rfl rfl) rfl ?_
    refine w_nil ?_
    refine q_then (hK43 _ _ ?_)
    refine w_block ?_
    refine w_loop [10, 11, 12, 13, 14, 38, 39, 40, 41, 42, 43, 44, 45, 46, 47, 48, 49, 50, 51, 52, 53, 54, 55, 56, 57, 58, 59, 60, 61, 62, 63, 64, 65] [10, 11, 12] (fun k vs0 w => ∃ i : Nat, vs0 = [.bool (((truths b).take i).any fun l => metF (b.ctrs[x.toNat]'hxc) l (zeroed y.toNat) b.hours.length), .bool (((truths b).take i).any fun l => notF (b.ctrs[x.toNat]'hxc) l (zeroed y.toNat) b.hours.length), .int .i64 i] ∧ i ≤ (truths b).length ∧ k = (truths b).length - i ∧ St w0 w ((b3, blk 25 (b.cells p)) :: (B ++ F))) ((truths b).length) ?_ ?_
    ·
     exact ⟨0, rfl, by omega, by omega, hs40⟩
    ·
     intro k vs μ w47 hI K46 hN45
     clear hs
     obtain ⟨i, rfl, hia, rfl, hs⟩ := hI
     generalize hyy : (((truths b).take i).any fun l => metF (b.ctrs[x.toNat]'hxc) l (zeroed y.toNat) b.hours.length) = yy
     generalize hnn : (((truths b).take i).any fun l => notF (b.ctrs[x.toNat]'hxc) l (zeroed y.toNat) b.hours.length) = nn
     refine w_seq (fun K49 hK48 => ?_)
     refine w_seq (fun K51 hK50 => ?_)
     refine w_region ?_
     refine w_pure want_none (y_move (v := .int _ _) rfl rfl) rfl ?_
     refine w_pure want_none (y_move (v := .slice _ _ _) rfl rfl) rfl ?_
     refine w_pure want_none (y_lenS Try.underlying66 rfl rfl) rfl ?_
     refine w_pure want_none (y_lss rfl rfl rfl rfl) rfl ?_
     refine w_nil ?_
     refine q_then (hK50 _ _ ?_)
     refine w_cond rfl rfl (fun h52 => ?_) (fun h52 => ?_)
     ·
      try simp only [Bool.not_eq_true', Bool.not_eq_false', decide_eq_true_eq, decide_eq_false_iff_not, Int.not_lt, Int.not_le] at h52
      refine w_skip ?_
      refine q_then (hK48 _ _ ?_)
      refine w_seq (fun K54 hK53 => ?_)
      refine w_block ?_
      refine w_seq (fun K56 hK55 => ?_)
      have hi2 : i < (truths b).length := by omega
      have htm := List.getElem_mem hi2
      obtain ⟨ub, uo, ue, uq, ua, ux0, us, un⟩ := el_at hslB helB hi2
      have ux := ux0.top (F := F)
      cases ua
      refine w_draw [] [(0, 0), (1, 1), (2, 0), (3, 0), (4, 1), (5, 0), (6, 0), (7, 0), (8, 1), (9, 0), (10, 2), (11, 0), (12, 0), (13, 0), (14, 0), (15, 0)] Try_mo (drawOK_of (by kernel_rfl)) hs (fun w57 hs58 => ?_)
      refine d_any rfl want_none rfl (fun _ => (y_fieldAddr (o := 2) (i := 2) Try.underlying25 rfl Try.sizeOf23 rfl rfl rfl)) ?_
      refine d_take rfl want_none rfl hs58 (fun _ hq => (yd_slice hbx (y_load1 Try.isAgg23 hq rfl rfl (ats_own (i := 0) (vs := [_]) rfl rfl)))) ?_
      refine d_any rfl want_none rfl (fun _ => (y_move (v := .int _ _) rfl rfl)) ?_
      refine d_any rfl want_none rfl (fun _ => (y_indexS Try.underlying23 Try.sizeOf76 rfl rfl rfl rfl (i := x.toNat) (by omega) hxc)) ?_
      refine d_take rfl want_none rfl hs58 (fun _ hq => (y_loadN (vs := [_, _, _, _, _, _]) Try.isAgg76 Try.sizeOf76 hq.tail.drop rfl rfl hx)) ?_
      refine d_any rfl want_none rfl (fun _ => (y_move (v := .slice _ _ _) rfl rfl)) ?_
      refine d_any rfl want_none rfl (fun _ => (y_move (v := .int _ _) rfl rfl)) ?_
      refine d_any rfl want_none rfl (fun _ => (y_indexS Try.underlying66 Try.sizeOf39 rfl rfl rfl rfl (i := i) rfl hi2)) ?_
      refine d_take rfl want_none rfl hs58 (fun _ hq => (y_load1 Try.isAgg39 hq.tail rfl rfl ux)) ?_
      refine d_any rfl want_none rfl (fun _ => (y_move (v := .int _ _) rfl rfl)) ?_
      refine d_eff rfl ?_
      refine w_call want_none Try.call75 rfl rfl rfl rfl ((by have h := c75 (b.ctrs[x.toNat]'hxc) (p.pc x.toNat) b.hours.length hcx (hm.z _ hxc).app.cons (hm.s _ hxc).app.cons _ uq ((truths b)[i]'hi2) (hall _ htm).1 (by omega) (hall _ htm).2 us.top.cons y hs58; rw [q_zeroedI hix.2.1] at h; exact h)) ?_
      rintro _ w60 ⟨rfl, hs61⟩
      refine w_nil ?_
      refine qn ⟨hs61, ?_⟩
      refine d_any rfl want_none rfl (fun _ => (y_move (v := .tuple _) rfl rfl)) ?_
      refine d_any rfl want_none rfl (fun _ => (y_extract (v := .bool _) rfl rfl rfl)) ?_
      refine d_any rfl want_none rfl (fun _ => (y_extract (v := .bool _) rfl rfl rfl)) ?_
      refine d_any rfl want_none rfl (fun _ => (y_assign (v := .bool _) rfl rfl)) ?_
      refine d_any rfl want_none rfl (fun _ => (y_assign (v := .bool _) rfl rfl)) ?_
      refine d_nil ?_
      refine q_then (hK55 _ _ ?_)
      refine w_region ?_
      refine w_pure want_none (y_move (v := .bool _) rfl rfl) rfl ?_
      refine w_pure want_none (y_move (v := .bool _) rfl rfl) rfl ?_
      refine w_split (fun h62 => ?_) (fun h62 => ?_)
      ·
       subst h62
       refine w_skipop rfl rfl rfl ?_
       refine w_pure want_none (y_pickT (v := _) rfl rfl rfl rfl) rfl ?_
       refine w_pure want_none (y_move (v := .bool _) rfl rfl) rfl ?_
       refine w_pure want_none (y_move (v := .bool _) rfl rfl) rfl ?_
       refine w_split (fun h63 => ?_) (fun h63 => ?_)
       ·
        subst h63
        refine w_skipop rfl rfl rfl ?_
        refine w_pure want_none (y_pickT (v := _) rfl rfl rfl rfl) rfl ?_
        refine w_pure want_none (y_assign (v := .bool _) rfl rfl) rfl ?_
        refine w_pure want_none (y_assign (v := .bool _) rfl rfl) rfl ?_
        refine w_nil ?_
        refine q_blk_normal ?_
        refine q_then (hK53 _ _ ?_)
        refine w_region ?_
        refine w_pure want_none (y_move (v := .int _ _) rfl rfl) rfl ?_
        refine w_pure want_none (y_add rfl rfl rfl rfl (by omega) (by omega)) rfl ?_
        refine w_pure want_none (y_assign (v := .int _ _) rfl rfl) rfl ?_
        refine w_nil ?_
        refine q_then (hN45 _ _ (Nx.intro ((truths b).length - (i + 1)) (by omega) (by repeat (first | exact agree_mix | refine agree_upd rfl ?_ | refine agree_updL rfl ?_ _ | refine agree_mixin rfl ?_)) ?_))
        exact ⟨i + 1, bb_vals (by rw [anyk_step hi2, hyy]; simp [h52]) (by rw [anyk_step hi2, hnn]; simp [h52]) rfl, by omega, rfl, hs61⟩
       ·
        subst h63
        refine w_pure (want_yes rfl rfl rfl) (y_move (v := .bool _) rfl rfl) rfl ?_
        refine w_pure want_none (y_pickF (v := .bool _) rfl rfl rfl rfl) rfl ?_
        refine w_pure want_none (y_assign (v := .bool _) rfl rfl) rfl ?_
        refine w_pure want_none (y_assign (v := .bool _) rfl rfl) rfl ?_
        refine w_nil ?_
        refine q_blk_normal ?_
        refine q_then (hK53 _ _ ?_)
        refine w_region ?_
        refine w_pure want_none (y_move (v := .int _ _) rfl rfl) rfl ?_
        refine w_pure want_none (y_add rfl rfl rfl rfl (by omega) (by omega)) rfl ?_
        refine w_pure want_none (y_assign (v := .int _ _) rfl rfl) rfl ?_
        refine w_nil ?_
        refine q_then (hN45 _ _ (Nx.intro ((truths b).length - (i + 1)) (by omega) (by repeat (first | exact agree_mix | refine agree_upd rfl ?_ | refine agree_updL rfl ?_ _ | refine agree_mixin rfl ?_)) ?_))
        exact ⟨i + 1, bb_vals (by rw [anyk_step hi2, hyy]; simp [h52]) (by rw [anyk_step hi2, hnn]; simp [h52]) rfl, by omega, rfl, hs61⟩
      ·
       subst h62
       refine w_pure (want_yes rfl rfl rfl) (y_move (v := .bool _) rfl rfl) rfl ?_
       refine w_pure want_none (y_pickF (v := .bool _) rfl rfl rfl rfl) rfl ?_
       refine w_pure want_none (y_move (v := .bool _) rfl rfl) rfl ?_
       refine w_pure want_none (y_move (v := .bool _) rfl rfl) rfl ?_
       refine w_split (fun h64 => ?_) (fun h64 => ?_)
       ·
        subst h64
        refine w_skipop rfl rfl rfl ?_
        refine w_pure want_none (y_pickT (v := _) rfl rfl rfl rfl) rfl ?_
        refine w_pure want_none (y_assign (v := .bool _) rfl rfl) rfl ?_
        refine w_pure want_none (y_assign (v := .bool _) rfl rfl) rfl ?_
        refine w_nil ?_
        refine q_blk_normal ?_
        refine q_then (hK53 _ _ ?_)
        refine w_region ?_
        refine w_pure want_none (y_move (v := .int _ _) rfl rfl) rfl ?_
        refine w_pure want_none (y_add rfl rfl rfl rfl (by omega) (by omega)) rfl ?_
        refine w_pure want_none (y_assign (v := .int _ _) rfl rfl) rfl ?_
        refine w_nil ?_
        refine q_then (hN45 _ _ (Nx.intro ((truths b).length - (i + 1)) (by omega) (by repeat (first | exact agree_mix | refine agree_upd rfl ?_ | refine agree_updL rfl ?_ _ | refine agree_mixin rfl ?_)) ?_))
        exact ⟨i + 1, bb_vals (by rw [anyk_step hi2, hyy]; simp [h52]) (by rw [anyk_step hi2, hnn]; simp [h52]) rfl, by omega, rfl, hs61⟩
       ·
        subst h64
        refine w_pure (want_yes rfl rfl rfl) (y_move (v := .bool _) rfl rfl) rfl ?_
        refine w_pure want_none (y_pickF (v := .bool _) rfl rfl rfl rfl) rfl ?_
        refine w_pure want_none (y_assign (v := .bool _) rfl rfl) rfl ?_
        refine w_pure want_none (y_assign (v := .bool _) rfl rfl) rfl ?_
        refine w_nil ?_
        refine q_blk_normal ?_
        refine q_then (hK53 _ _ ?_)
        refine w_region ?_
        refine w_pure want_none (y_move (v := .int _ _) rfl rfl) rfl ?_
        refine w_pure want_none (y_add rfl rfl rfl rfl (by omega) (by omega)) rfl ?_
        refine w_pure want_none (y_assign (v := .int _ _) rfl rfl) rfl ?_
        refine w_nil ?_
        refine q_then (hN45 _ _ (Nx.intro ((truths b).length - (i + 1)) (by omega) (by repeat (first | exact agree_mix | refine agree_upd rfl ?_ | refine agree_updL rfl ?_ _ | refine agree_mixin rfl ?_)) ?_))
        exact ⟨i + 1, bb_vals (by rw [anyk_step hi2, hyy]; simp [h52]) (by rw [anyk_step hi2, hnn]; simp [h52]) rfl, by omega, rfl, hs61⟩
     ·
      try simp only [Bool.not_eq_true', Bool.not_eq_false', decide_eq_true_eq, decide_eq_false_iff_not, Int.not_lt, Int.not_le] at h52
      refine w_exit ?_
      refine q_then_exit ?_
      refine q_then_exit ?_
      refine q_blk_this ?_
      refine q_then (hK41 _ _ ?_)
      refine w_seq (fun K66 hK65 => ?_)
      refine w_region ?_
      refine w_pure want_none (y_move (v := .bool _) rfl rfl) rfl ?_
      refine w_pure want_none (y_move (v := .bool _) rfl rfl) rfl ?_
      refine w_call want_none Try.call76 rfl rfl rfl rfl (c76 _ _ hs) ?_
      rintro _ w68 ⟨rfl, hs69⟩
      refine w_pure want_none (y_assign (v := .int _ _) rfl rfl) rfl ?_
      refine w_pure want_none (y_assign (v := _) rfl rfl) rfl ?_
      refine w_nil ?_
      refine q_then (hK65 _ _ ?_)
      refine w_ret ?_
      refine q_ret (l := [.tmp 6, .tmp 7]) (vs := [_, _]) rfl ⟨⟨rfl, show _ = (.int _ _ : Value) from rfl⟩, ⟨rfl, show _ = (.int _ _ : Value) from rfl⟩, trivial⟩ ?_
      have hil : i = (truths b).length := by omega
      subst hil
      rw [List.take_length] at hyy hnn
      have hyy2 : askM b x.toNat (zeroed y.toNat) = yy := by unfold askM; rw [ctr_at hxc]; exact hyy
      have hnn2 : askN b x.toNat (zeroed y.toNat) = nn := by unfold askN; rw [ctr_at hxc]; exact hnn
      exact ⟨by rw [idx2C_enter] at hee; unfold zeroP; rw [if_neg (by rw [hee]; simp), hyy2, hnn2]; rfl, hs69.tail.drop⟩

end Go.Proofs
/- Walks of this seat, printed by gen.py over the engine: what each function returns, in whatever world. No conditions but those of each contract. -/
set_option linter.unusedVariables false
set_option linter.unusedSimpArgs false
set_option maxRecDepth 20000
namespace Go.Proofs
open Go.Rt Go.Rt.Ch
open Go.Rt.Ha (firstE firstE_step firstE_stop firstE_end failE nameE felt spanL upto span_mem listL fewest fewTo bit)
attribute [local irreducible] WL WC Con Yd At Ats Sl Agree DW
theorem Try_D_fb1 (x0 : Int) (w : World) : (Instr.buildSlice 39 1 [(0, .int .i64 x0)].toArray).run Try.prog w = .ok (.slice (some ⟨w.heap.size, 0, none⟩) 1 1) (w.alloc (Go.Rt.blk 3 [.int .i64 x0])) := by kernel_rfl
theorem ats_of {w0 w : World} {L : List (Nat × Obj)} {i b : Nat} {t : TypeId} {cs vs : List Value} (hs : St w0 w L) (hi : L[i]? = some (b, blk t cs)) (h : (cs.drop 0).take vs.length = vs) : Ats w0 L b 0 vs := ats_own hi h
theorem c16 {w0 w : World} {F : List (Nat × Obj)} (b : Board) (p : AtB) (hm : BIn w0 F b p)  (hs : St w0 w F) :
  Con Try.prog 16 [.agg (b.cells p).toArray] w fun v w' => v = .tuple #[.int .i64 (check b).1, .int .i64 (check b).2.1, .int .i64 (check b).2.2] ∧ St w0 w' F := by
  refine con_of_wc (n := 45) Try.func16 rfl rfl (Nat.le_of_ble_eq_true rfl) ?_
  have hlh := hm.lh
  have hlc := hm.lc
  refine w_seq (fun K2 hK1 => ?_)
  refine w_region ?_
  refine w_box (v := .agg #[.int _ _, .slice _ _ _, .slice _ _ _]) (cs := [_, _, _]) want_none rfl rfl rfl hs (fun b3 w4 hs5 => ?_)
  refine w_pure want_none (y_assign (v := _) rfl rfl) rfl ?_
  refine w_pure want_none (y_assign (v := _) rfl rfl) rfl ?_
  refine w_pure want_none (y_assign (v := _) rfl rfl) rfl ?_
  refine w_nil ?_
  refine q_then (hK1 _ _ ?_)
  refine w_seq (fun K7 hK6 => ?_)
  refine w_region ?_
  refine w_pure want_none (y_fieldAddr (o := 1) (i := 1) Try.underlying25 rfl Try.sizeOf22 rfl rfl rfl) rfl ?_
  refine w_pure want_none (y_load1 Try.isAgg22 hs5 rfl rfl (ats_own (i := 0) (vs := [_]) rfl rfl)) rfl ?_
  refine w_pure want_none (y_lenS Try.underlying22 rfl rfl) rfl ?_
  refine w_alloc (cs := [_]) want_none Try.zeroValue3 rfl hs5 (fun b8 w9 hs10 => ?_)
  refine w_store (i := 0) (v := .int _ _) (vs := [_]) want_none Try.sizeOf3 rfl rfl rfl rfl rfl (by simp [Value.oneCell']) hs10 rfl (Nat.le_of_ble_eq_true rfl) (fun w11 hs12 => ?_)
  refine w_nil ?_
  refine q_then (hK6 _ _ ?_)
  refine w_seq (fun K14 hK13 => ?_)
  refine w_block ?_
  refine w_seq (fun K16 hK15 => ?_)
  have hbx := ats_of (i := 1) (vs := b.cells p) hs12 rfl rfl
  have hbn := ats_of (i := 0) (vs := [.int .i64 (b.hours.length : Int)]) hs12 rfl rfl
  refine w_region ?_
  refine w_pure want_none (y_fieldAddr (o := 0) (i := 0) Try.underlying25 rfl Try.sizeOf3 rfl rfl rfl) rfl ?_
  refine w_pure want_none (y_load1 Try.isAgg3 hs12 rfl rfl (show Ats _ _ _ _ [_] from Ats.part hbx 0 1)) rfl ?_
  refine w_bslice (ps := [(0, _)]) (pv := [(0, .int _ _)]) (cs := [_]) want_none rfl rfl (fun w => Try_D_fb1 _ w) hs12 (fun b17 w18 hs19 => ?_)
  refine w_call want_none Try.call51 rfl rfl rfl rfl (c51 _ _ _ [_] _ (by simp) (sl_own (i := 0) (rows := [[_]]) rfl (by simp) rfl) hs19) ?_
  rintro _ w21 ⟨rfl, hs22⟩
  refine w_pure want_none (y_assign (v := .bool _) rfl rfl) rfl ?_
  refine w_nil ?_
  refine q_then (hK15 _ _ ?_)
  refine w_cond rfl rfl (fun h23 => ?_) (fun h23 => ?_)
  ·
   try simp only [Bool.not_eq_true', Bool.not_eq_false', decide_eq_true_eq, decide_eq_false_iff_not, Int.not_lt, Int.not_le] at h23
   refine w_seq (fun K25 hK24 => ?_)
   refine w_region ?_
   refine w_pure want_none (y_assign (v := _) rfl rfl) rfl ?_
   refine w_pure want_none (y_assign (v := _) rfl rfl) rfl ?_
   refine w_pure want_none (y_assign (v := _) rfl rfl) rfl ?_
   refine w_nil ?_
   refine q_then (hK24 _ _ ?_)
   refine w_ret ?_
   refine q_blk_ret ?_
   refine q_then_ret ?_
   refine q_ret (l := [.tmp 2, .tmp 3, .tmp 4]) (vs := [_, _, _]) rfl ⟨⟨rfl, show _ = (.int _ _ : Value) from rfl⟩, ⟨rfl, show _ = (.int _ _ : Value) from rfl⟩, ⟨rfl, show _ = (.int _ _ : Value) from rfl⟩, trivial⟩ ?_
   try simp only [List.any_cons, List.any_nil, Bool.or_false, Bool.or_eq_false_iff] at h23
   refine ⟨tup3 ?_, hs22.tail.tail.tail⟩; unfold check failE
   try have e1 : ¬ ((4:Int) < (b.hours.length : Int)) := by omega
   try have e2 : ¬ ((2:Int) < (b.ctrs.length : Int)) := by omega
   first
     | (simp [out_nat, h23, e1, e2]; done)
     | (simp [out_nat, h23, e1]; done)
     | (simp [out_nat, h23]; done)
  ·
   try simp only [Bool.not_eq_true', Bool.not_eq_false', decide_eq_true_eq, decide_eq_false_iff_not, Int.not_lt, Int.not_le] at h23
   refine w_seq (fun K27 hK26 => ?_)
   refine w_region ?_
   refine w_pure want_none (y_load1 Try.isAgg3 hs22.tail rfl rfl hbn) rfl ?_
   refine w_pure want_none (y_gtr rfl rfl rfl rfl) rfl ?_
   refine w_pure want_none (y_assign (v := .bool _) rfl rfl) rfl ?_
   refine w_nil ?_
   refine q_then (hK26 _ _ ?_)
   refine w_cond rfl rfl (fun h28 => ?_) (fun h28 => ?_)
   ·
    try simp only [Bool.not_eq_true', Bool.not_eq_false', decide_eq_true_eq, decide_eq_false_iff_not, Int.not_lt, Int.not_le] at h28
    refine w_seq (fun K30 hK29 => ?_)
    refine w_region ?_
    refine w_pure want_none (y_assign (v := _) rfl rfl) rfl ?_
    refine w_pure want_none (y_assign (v := _) rfl rfl) rfl ?_
    refine w_pure want_none (y_assign (v := _) rfl rfl) rfl ?_
    refine w_nil ?_
    refine q_then (hK29 _ _ ?_)
    refine w_ret ?_
    refine q_blk_ret ?_
    refine q_then_ret ?_
    refine q_ret (l := [.tmp 2, .tmp 3, .tmp 4]) (vs := [_, _, _]) rfl ⟨⟨rfl, show _ = (.int _ _ : Value) from rfl⟩, ⟨rfl, show _ = (.int _ _ : Value) from rfl⟩, ⟨rfl, show _ = (.int _ _ : Value) from rfl⟩, trivial⟩ ?_
    try simp only [List.any_cons, List.any_nil, Bool.or_false, Bool.or_eq_false_iff] at h23 h28
    refine ⟨tup3 ?_, hs22.tail.tail.tail⟩; unfold check failE
    try have e1 : ¬ ((4:Int) < (b.hours.length : Int)) := by omega
    try have e2 : ¬ ((2:Int) < (b.ctrs.length : Int)) := by omega
    first
      | (simp [out_nat, h23, h28, e1, e2]; done)
      | (simp [out_nat, h23, h28, e1]; done)
      | (simp [out_nat, h23, h28]; done)
   ·
    try simp only [Bool.not_eq_true', Bool.not_eq_false', decide_eq_true_eq, decide_eq_false_iff_not, Int.not_lt, Int.not_le] at h28
    refine w_skip ?_
    refine q_blk_normal ?_
    refine q_then (hK13 _ _ ?_)
    refine w_seq (fun K32 hK31 => ?_)
    have hho : 1 ≤ b.holds ∧ b.holds ≤ 3 := by
      have hq : [b.holds].any (out 1 3) = false := by assumption
      simp [out] at hq; omega
    refine w_region ?_
    refine w_pure want_none (y_fieldAddr (o := 1) (i := 1) Try.underlying25 rfl Try.sizeOf22 rfl rfl rfl) rfl ?_
    refine w_pure want_none (y_load1 Try.isAgg22 hs22.tail rfl rfl (show Ats _ _ _ _ [_] from Ats.part hbx 1 1)) rfl ?_
    refine w_pure want_none (y_makeFunc (fv := []) (cv := [_]) rfl rfl rfl rfl) rfl ?_
    refine w_call want_none Try.call52 rfl rfl rfl rfl (c52 _ _ b.hours hlh hm.h.cons.cons.cons (.func (.func 53) #[] #[.pointer (some ⟨b3, 0, none⟩)]) (hourE b.holds) (fun i hi X w hs => fcon_fn Try.call53 (c53 b p hho i b.hours[i] _ b3 (Ats.app hbx.cons) hs)) hs22) ?_
    rintro _ w34 ⟨rfl, hs35⟩
    refine w_pure want_none (y_move (v := .tuple _) rfl rfl) rfl ?_
    refine w_pure want_none (y_extract (v := .int _ _) rfl rfl rfl) rfl ?_
    refine w_pure want_none (y_extract (v := .int _ _) rfl rfl rfl) rfl ?_
    refine w_pure want_none (y_assign (v := .int _ _) rfl rfl) rfl ?_
    refine w_pure want_none (y_assign (v := .int _ _) rfl rfl) rfl ?_
    refine w_nil ?_
    refine q_then (hK31 _ _ ?_)
    refine w_seq (fun K37 hK36 => ?_)
    refine w_block ?_
    refine w_seq (fun K39 hK38 => ?_)
    refine w_region ?_
    refine w_pure want_none (y_move (v := .int _ _) rfl rfl) rfl ?_
    refine w_pure want_none (y_neq rfl rfl rfl rfl) rfl ?_
    refine w_pure want_none (y_assign (v := .bool _) rfl rfl) rfl ?_
    refine w_nil ?_
    refine q_then (hK38 _ _ ?_)
    refine w_cond rfl rfl (fun h40 => ?_) (fun h40 => ?_)
    ·
     try simp only [Bool.not_eq_true', Bool.not_eq_false', decide_eq_true_eq, decide_eq_false_iff_not, Int.not_lt, Int.not_le] at h40
     refine w_seq (fun K42 hK41 => ?_)
     refine w_region ?_
     refine w_pure want_none (y_move (v := .int _ _) rfl rfl) rfl ?_
     refine w_pure want_none (y_move (v := .int _ _) rfl rfl) rfl ?_
     refine w_pure want_none (y_assign (v := _) rfl rfl) rfl ?_
     refine w_pure want_none (y_assign (v := .int _ _) rfl rfl) rfl ?_
     refine w_pure want_none (y_assign (v := .int _ _) rfl rfl) rfl ?_
     refine w_nil ?_
     refine q_then (hK41 _ _ ?_)
     refine w_ret ?_
     refine q_blk_ret ?_
     refine q_then_ret ?_
     refine q_ret (l := [.tmp 2, .tmp 3, .tmp 4]) (vs := [_, _, _]) rfl ⟨⟨rfl, show _ = (.int _ _ : Value) from rfl⟩, ⟨rfl, show _ = (.int _ _ : Value) from rfl⟩, ⟨rfl, show _ = (.int _ _ : Value) from rfl⟩, trivial⟩ ?_
     try simp only [List.any_cons, List.any_nil, Bool.or_false, Bool.or_eq_false_iff] at h23 h28 h40
     refine ⟨tup3 ?_, hs35.tail.tail.tail⟩; unfold check failE
     try have e1 : ¬ ((4:Int) < (b.hours.length : Int)) := by omega
     try have e2 : ¬ ((2:Int) < (b.ctrs.length : Int)) := by omega
     first
       | (simp [out_nat, h23, h28, h40, e1, e2]; done)
       | (simp [out_nat, h23, h28, h40, e1]; done)
       | (simp [out_nat, h23, h28, h40]; done)
    ·
     try simp only [Bool.not_eq_true', Bool.not_eq_false', decide_eq_true_eq, decide_eq_false_iff_not, Int.not_lt, Int.not_le] at h40
     refine w_seq (fun K44 hK43 => ?_)
     refine w_region ?_
     refine w_pure want_none (y_fieldAddr (o := 2) (i := 2) Try.underlying25 rfl Try.sizeOf23 rfl rfl rfl) rfl ?_
     refine w_pure want_none (y_load1 Try.isAgg23 hs35.tail rfl rfl (show Ats _ _ _ _ [_] from Ats.part hbx 2 1)) rfl ?_
     refine w_pure want_none (y_lenS Try.underlying23 rfl rfl) rfl ?_
     refine w_pure want_none (y_gtr rfl rfl rfl rfl) rfl ?_
     refine w_pure want_none (y_assign (v := .bool _) rfl rfl) rfl ?_
     refine w_nil ?_
     refine q_then (hK43 _ _ ?_)
     refine w_cond rfl rfl (fun h45 => ?_) (fun h45 => ?_)
     ·
      try simp only [Bool.not_eq_true', Bool.not_eq_false', decide_eq_true_eq, decide_eq_false_iff_not, Int.not_lt, Int.not_le] at h45
      refine w_seq (fun K47 hK46 => ?_)
      refine w_region ?_
      refine w_pure want_none (y_assign (v := _) rfl rfl) rfl ?_
      refine w_pure want_none (y_assign (v := _) rfl rfl) rfl ?_
      refine w_pure want_none (y_assign (v := _) rfl rfl) rfl ?_
      refine w_nil ?_
      refine q_then (hK46 _ _ ?_)
      refine w_ret ?_
      refine q_blk_ret ?_
      refine q_then_ret ?_
      refine q_ret (l := [.tmp 2, .tmp 3, .tmp 4]) (vs := [_, _, _]) rfl ⟨⟨rfl, show _ = (.int _ _ : Value) from rfl⟩, ⟨rfl, show _ = (.int _ _ : Value) from rfl⟩, ⟨rfl, show _ = (.int _ _ : Value) from rfl⟩, trivial⟩ ?_
      try simp only [List.any_cons, List.any_nil, Bool.or_false, Bool.or_eq_false_iff] at h23 h28 h40 h45
      refine ⟨tup3 ?_, hs35.tail.tail.tail⟩; unfold check failE
      try have e1 : ¬ ((4:Int) < (b.hours.length : Int)) := by omega
      try have e2 : ¬ ((2:Int) < (b.ctrs.length : Int)) := by omega
      first
        | (simp [out_nat, h23, h28, h40, h45, e1, e2]; done)
        | (simp [out_nat, h23, h28, h40, h45, e1]; done)
        | (simp [out_nat, h23, h28, h40, h45]; done)
     ·
      try simp only [Bool.not_eq_true', Bool.not_eq_false', decide_eq_true_eq, decide_eq_false_iff_not, Int.not_lt, Int.not_le] at h45
      refine w_skip ?_
      refine q_blk_normal ?_
      refine q_then (hK36 _ _ ?_)
      refine w_seq (fun K49 hK48 => ?_)
      refine w_region ?_
      refine w_pure want_none (y_fieldAddr (o := 2) (i := 2) Try.underlying25 rfl Try.sizeOf23 rfl rfl rfl) rfl ?_
      refine w_pure want_none (y_load1 Try.isAgg23 hs35.tail rfl rfl (show Ats _ _ _ _ [_] from Ats.part hbx 2 1)) rfl ?_
      refine w_pure want_none (y_makeFunc (fv := []) (cv := [_, _]) rfl rfl rfl rfl) rfl ?_
      refine w_call want_none Try.call54 rfl rfl rfl rfl (c54 _ _ b.ctrs p.pc hlc hm.c.cons.cons.cons (.func (.func 55) #[] #[.pointer (some ⟨b3, 0, none⟩), .pointer (some ⟨b8, 0, none⟩)]) (ctrE b.hours.length) (fun i hi X w hs => fcon_fn Try.call55 (c55 b p (BIn.app hm.cons.cons.cons) i hi b3 b8 (Ats.app hbx.cons) (Ats.app hbn.cons) hs)) hs35) ?_
      rintro _ w51 ⟨rfl, hs52⟩
      refine w_pure want_none (y_move (v := .tuple _) rfl rfl) rfl ?_
      refine w_pure want_none (y_extract (v := .int _ _) rfl rfl rfl) rfl ?_
      refine w_pure want_none (y_extract (v := .int _ _) rfl rfl rfl) rfl ?_
      refine w_pure want_none (y_assign (v := .int _ _) rfl rfl) rfl ?_
      refine w_pure want_none (y_assign (v := .int _ _) rfl rfl) rfl ?_
      refine w_nil ?_
      refine q_then (hK48 _ _ ?_)
      refine w_seq (fun K54 hK53 => ?_)
      refine w_seq (fun K56 hK55 => ?_)
      refine w_region ?_
      refine w_pure want_none (y_move (v := .int _ _) rfl rfl) rfl ?_
      refine w_pure want_none (y_neq rfl rfl rfl rfl) rfl ?_
      refine w_nil ?_
      refine q_then (hK55 _ _ ?_)
      refine w_cond rfl rfl (fun h57 => ?_) (fun h57 => ?_)
      ·
       try simp only [Bool.not_eq_true', Bool.not_eq_false', decide_eq_true_eq, decide_eq_false_iff_not, Int.not_lt, Int.not_le] at h57
       refine w_seq (fun K59 hK58 => ?_)
       refine w_region ?_
       refine w_pure want_none (y_move (v := .int _ _) rfl rfl) rfl ?_
       refine w_pure want_none (y_move (v := .int _ _) rfl rfl) rfl ?_
       refine w_pure want_none (y_assign (v := _) rfl rfl) rfl ?_
       refine w_pure want_none (y_assign (v := .int _ _) rfl rfl) rfl ?_
       refine w_pure want_none (y_assign (v := .int _ _) rfl rfl) rfl ?_
       refine w_nil ?_
       refine q_then (hK58 _ _ ?_)
       refine w_ret ?_
       refine q_then_ret ?_
       refine q_ret (l := [.tmp 2, .tmp 3, .tmp 4]) (vs := [_, _, _]) rfl ⟨⟨rfl, show _ = (.int _ _ : Value) from rfl⟩, ⟨rfl, show _ = (.int _ _ : Value) from rfl⟩, ⟨rfl, show _ = (.int _ _ : Value) from rfl⟩, trivial⟩ ?_
       try simp only [List.any_cons, List.any_nil, Bool.or_false, Bool.or_eq_false_iff] at h23 h28 h40 h45 h57
       refine ⟨tup3 ?_, hs52.tail.tail.tail⟩; unfold check failE
       try have e1 : ¬ ((4:Int) < (b.hours.length : Int)) := by omega
       try have e2 : ¬ ((2:Int) < (b.ctrs.length : Int)) := by omega
       first
         | (simp [out_nat, h23, h28, h40, h45, h57, e1, e2]; done)
         | (simp [out_nat, h23, h28, h40, h45, h57, e1]; done)
         | (simp [out_nat, h23, h28, h40, h45, h57]; done)
      ·
       try simp only [Bool.not_eq_true', Bool.not_eq_false', decide_eq_true_eq, decide_eq_false_iff_not, Int.not_lt, Int.not_le] at h57
       refine w_skip ?_
       refine q_then (hK53 _ _ ?_)
       refine w_seq (fun K61 hK60 => ?_)
       refine w_region ?_
       refine w_pure want_none (y_assign (v := _) rfl rfl) rfl ?_
       refine w_pure want_none (y_assign (v := _) rfl rfl) rfl ?_
       refine w_pure want_none (y_assign (v := _) rfl rfl) rfl ?_
       refine w_nil ?_
       refine q_then (hK60 _ _ ?_)
       refine w_ret ?_
       refine q_ret (l := [.tmp 2, .tmp 3, .tmp 4]) (vs := [_, _, _]) rfl ⟨⟨rfl, show _ = (.int _ _ : Value) from rfl⟩, ⟨rfl, show _ = (.int _ _ : Value) from rfl⟩, ⟨rfl, show _ = (.int _ _ : Value) from rfl⟩, trivial⟩ ?_
       try simp only [List.any_cons, List.any_nil, Bool.or_false, Bool.or_eq_false_iff] at h23 h28 h40 h45 h57
       refine ⟨tup3 ?_, hs52.tail.tail.tail⟩; unfold check failE
       try have e1 : ¬ ((4:Int) < (b.hours.length : Int)) := by omega
       try have e2 : ¬ ((2:Int) < (b.ctrs.length : Int)) := by omega
       first
         | (simp [out_nat, h23, h28, h40, h45, h57, e1, e2]; done)
         | (simp [out_nat, h23, h28, h40, h45, h57, e1]; done)
         | (simp [out_nat, h23, h28, h40, h45, h57]; done)

end Go.Proofs
/- Walks of this seat, printed by gen.py over the engine: what each function returns, in whatever world. No conditions but those of each contract. -/
set_option linter.unusedVariables false
set_option linter.unusedSimpArgs false
set_option maxRecDepth 20000
namespace Go.Proofs
open Go.Rt Go.Rt.Ch
open Go.Rt.Ha (firstE firstE_step firstE_stop firstE_end failE nameE felt spanL upto span_mem listL fewest fewTo bit)
attribute [local irreducible] WL WC Con Yd At Ats Sl Agree DW
theorem Try_E_fb1 (x0 : Int) (x1 : Int) (x2 : Bool) (w : World) : (Instr.build 140 [(0, .int .i64 x0), (1, .int .i64 x1), (2, .bool x2)].toArray).run Try.prog w = .ok (.agg #[.int .i64 x0, .int .i64 x1, .bool x2]) w := by kernel_rfl
theorem Try_E_fb2 (x0 : Int) (x1 : Int) (x2 : Bool) (w : World) : (Instr.buildSlice 152 1 [(0, .agg #[.int .i64 x0, .int .i64 x1, .bool x2])].toArray).run Try.prog w = .ok (.slice (some ⟨w.heap.size, 0, none⟩) 1 1) (w.alloc (Go.Rt.blk 140 [.int .i64 x0, .int .i64 x1, .bool x2])) := by kernel_rfl
theorem Try_info140 : Try.prog.info? 140 = some Try.t140 := by kernel_rfl
/-- A board that lies opened in memory. -/
structure BK (w0 : World) (F : List (Nat × Obj)) (b : Board) (p : AtB) (bb mm : Nat) : Prop where
  i : BIn w0 F b p
  l : Ats w0 F bb 0 [.int .i64 b.holds, .slice p.ah b.hours.length p.ch, .slice p.ac b.ctrs.length p.cc, .map (some mm)]
  ok : b.Ok
theorem BK.mono {w0 : World} {F F' : List (Nat × Obj)} {b : Board} {p : AtB} {bb mm : Nat} (h : BK w0 F b p bb mm) (hs : ∀ w, St w0 w F' → St w0 w F) : BK w0 F' b p bb mm := ⟨h.i.mono hs, h.l.mono hs, h.ok⟩
theorem BK.cons {w0 : World} {F : List (Nat × Obj)} {x : Nat × Obj} {b : Board} {p : AtB} {bb mm : Nat} (h : BK w0 F b p bb mm) : BK w0 (x :: F) b p bb mm := h.mono fun _ h => h.tail
theorem BK.app {w0 : World} {F B : List (Nat × Obj)} {b : Board} {p : AtB} {bb mm : Nat} (h : BK w0 F b p bb mm) : BK w0 (B ++ F) b p bb mm := h.mono fun _ h => h.drop
theorem key_zip {P : Program} {t k : Nat} {fs : Array Field} (ks : List Nat) (hu : P.underlying t = some (.struct fs)) (hp : P.stoodInHeld t = false) (h1 : fs.toList = (fs.toList.zip ks).map Prod.fst) (h2 : ∀ q ∈ fs.toList.zip ks, FF P q.1 q.2 ∧ q.1.offset + q.2 ≤ k)
    (h3 : ∀ q ∈ fs.toList.zip ks, P.underlying q.1.type = some (.int .i64) ∨ ∃ el, P.underlying q.1.type = some (.array q.2 el) ∧ P.underlying el = some (.int .i64) ∧ ∀ w, (sizeOf el).run P w = .ok 1 w)
    (h4 : ∀ l m : List Int, l.length = k → m.length = k → ((fs.toList.zip ks).all fun q => decide ((l.drop q.1.offset).take q.2 = (m.drop q.1.offset).take q.2)) = decide (l = m)) : KeyTy P t k := keyTy_struct _ hu hp h1 h2 h3 h4
theorem key154_cov : ∀ l m : List Int, l.length = 3 → m.length = 3 → (decide ((l.drop 0).take 1 = (m.drop 0).take 1) && (decide ((l.drop 1).take 1 = (m.drop 1).take 1) && (decide ((l.drop 2).take 1 = (m.drop 2).take 1) && true))) = decide (l = m) := by
  intro l m hl hm
  match l, hl with
  | [a, b, c], _ =>
    match m, hm with
    | [a', b', c'], _ => rw [Bool.eq_iff_iff]; simp
theorem key154 : KeyTy Try.prog 154 3 := by
  refine key_zip [1, 1, 1] Try.underlying154 (by kernel_rfl) rfl ?_ ?_ ?_
  · intro q hq
    simp only [List.zip_cons_cons, List.zip_nil_right, List.mem_cons, List.not_mem_nil, or_false] at hq
    rcases hq with rfl | rfl | rfl
    · exact ⟨⟨by decide, .inl ⟨Try.underlying3, rfl⟩⟩, by decide⟩
    · exact ⟨⟨by decide, .inl ⟨Try.underlying3, rfl⟩⟩, by decide⟩
    · exact ⟨⟨by decide, .inl ⟨Try.underlying3, rfl⟩⟩, by decide⟩
  · intro q hq
    simp only [List.zip_cons_cons, List.zip_nil_right, List.mem_cons, List.not_mem_nil, or_false] at hq
    rcases hq with rfl | rfl | rfl
    · exact .inl Try.underlying3
    · exact .inl Try.underlying3
    · exact .inl Try.underlying3
  · exact key154_cov
/-- An entry of the memo: how a counter stands before an hour, and its ways. -/
def Ent (w0 : World) (b : Board) (MB : List (Nat × Obj)) (q : List Int × Value × Nat) : Prop :=
  ∃ (c a : Nat) (s : Int) (x : Option Addr) (cap : Nat), q.1 = [(c : Int), (a : Int), s] ∧ q.2.1 = .slice x (waysAt b c a s).length cap ∧ Sl w0 MB x 3 (wrows (waysAt b c a s))
theorem Ent.mono {w0 : World} {b : Board} {M M' : List (Nat × Obj)} {q : List Int × Value × Nat} (h : Ent w0 b M q) (hs : ∀ w, St w0 w M' → St w0 w M) : Ent w0 b M' q := by
  obtain ⟨c, a, s, x, cap, h1, h2, h3⟩ := h
  exact ⟨c, a, s, x, cap, h1, h2, h3.mono hs⟩
/-- What the memo of a board that is looked at holds. -/
def Memo (w0 : World) (b : Board) (mm : Nat) (M : List (Nat × Obj)) : Prop :=
  ∃ (es : List (List Int × Value × Nat)) (ck : Nat) (MB : List (Nat × Obj)), M = (mm, .map (ents (fun l : List Int => ia l) es).toArray ck) :: MB ∧ MOk es ck ∧ (∀ q ∈ es, q.1.length = 3) ∧ ∀ q ∈ es, Ent w0 b MB q
theorem memo_new (w0 : World) (b : Board) (mm : Nat) : Memo w0 b mm [(mm, .map #[] 0)] := ⟨[], 0, [], rfl, mok_nil, by simp, by simp⟩
theorem flat_wrows (l : List Ch.Way) (x : Ch.Way) : (wrows (l ++ [x])).flatten = (wrows l).flatten ++ [x.cells].flatten := by simp [wrows]
theorem own_way {v : Value} {l : List Ch.Way} {x : Ch.Way} {B : List (Nat × Obj)} (h : Rt.Own v 140 3 (l.length + 1) ((wrows l).flatten ++ [x.cells].flatten) B) : Rt.Own v 140 3 (l ++ [x]).length (wrows (l ++ [x])).flatten B := by
  rw [flat_wrows, List.length_append]; exact h
theorem wrows_row (l : List Ch.Way) : ∀ row ∈ wrows l, row.length = 3 := by intro row h; obtain ⟨q, _, rfl⟩ := List.mem_map.1 h; rfl
theorem c110f {w0 w : World} {F : List (Nat × Obj)} (b : Board) (p : AtB) (bb mm : Nat) (hk : BK w0 F b p bb mm) (c a : Nat) (hc : c < b.ctrs.length) (ha : a < b.hours.length) (s : Int) (hs1 : 0 ≤ s ∧ s < 100) (es : List (List Int × Value × Nat)) (ck : Nat) (hes : ∀ q ∈ es, q.1.length = 3) (u : Value) (a9 : Option Addr) (n9 c9 : Nat) (hu : u = .slice a9 n9 c9) (hf : getA [(c : Int), (a : Int), s] es = some u) (hs : St w0 w ((mm, .map (ents (fun l : List Int => ia l) es).toArray ck) :: F)) :
  Con Try.prog 110 [.pointer (some ⟨bb, 0, none⟩), .agg #[.int .i64 (c : Int), .int .i64 (a : Int), .int .i64 s]] w fun v w' => v = u ∧ St w0 w' ((mm, .map (ents (fun l : List Int => ia l) es).toArray ck) :: F) := by
  refine con_of_wc (n := 128) Try.func110 rfl rfl (Nat.le_of_ble_eq_true rfl) ?_
  subst hu
  have hb := hk.l
  refine w_seq (fun K2 hK1 => ?_)
  refine w_region ?_
  refine w_box (v := .agg #[.int _ _, .int _ _, .int _ _]) (cs := [_, _, _]) want_none rfl rfl rfl hs (fun b3 w4 hs5 => ?_)
  refine w_pure want_none (y_assign (v := _) rfl rfl) rfl ?_
  refine w_nil ?_
  refine q_then (hK1 _ _ ?_)
  refine w_seq (fun K7 hK6 => ?_)
  refine w_seq (fun K9 hK8 => ?_)
  refine w_draw [] [(0, 0), (1, 0), (2, 0), (3, 1), (4, 1), (5, 1), (6, 0), (7, 0), (8, 0), (9, 0), (10, 0)] Try_mo (drawOK_of (by kernel_rfl)) hs5 (fun w10 hs11 => ?_)
  refine d_any rfl want_none rfl (fun _ => (y_move (v := .pointer _) rfl rfl)) ?_
  refine d_any rfl want_none rfl (fun _ => (y_nilCheck rfl rfl)) ?_
  refine d_any rfl want_none rfl (fun _ => (y_fieldAddr (o := 3) (i := 1) Try.underlying129 rfl Try.sizeOf127 rfl rfl rfl)) ?_
  refine d_take rfl want_none rfl hs11 (fun _ hq => (y_load1 Try.isAgg127 hq.tail.tail rfl rfl (show Ats _ _ _ _ [_] from Ats.part hb 3 1))) ?_
  refine d_take rfl want_none rfl hs11 (fun _ hq => (y_loadN (vs := [_, _, _]) Try.isAgg154 Try.sizeOf154 hq rfl rfl (ats_own (i := 0) (vs := [_, _, _]) rfl rfl))) ?_
  refine d_take rfl want_none rfl hs11 (fun _ hq => (G_look2S (i := 1) (a := [(c : Int), (a : Int), s]) Try.underlying127 (keyG_ia key154) rfl hes hq rfl rfl rfl rfl rfl hf)) ?_
  refine d_any rfl want_none rfl (fun _ => (y_move (v := .tuple _) rfl rfl)) ?_
  refine d_any rfl want_none rfl (fun _ => (y_extract (v := .slice _ _ _) rfl rfl rfl)) ?_
  refine d_any rfl want_none rfl (fun _ => (y_extract (v := .bool _) rfl rfl rfl)) ?_
  refine d_any rfl want_none rfl (fun _ => (y_assign (v := .slice _ _ _) rfl rfl)) ?_
  refine d_any rfl want_none rfl (fun _ => (y_assign (v := .bool _) rfl rfl)) ?_
  refine d_nil ?_
  refine q_then (hK8 _ _ ?_)
  refine w_seq (fun K13 hK12 => ?_)
  refine w_region ?_
  refine w_pure want_none (y_move (v := .bool _) rfl rfl) rfl ?_
  refine w_nil ?_
  refine q_then (hK12 _ _ ?_)
  refine w_cond rfl rfl (fun h14 => ?_) (fun h14 => ?_)
  ·
   try simp only [Bool.not_eq_true', Bool.not_eq_false', decide_eq_true_eq, decide_eq_false_iff_not, Int.not_lt, Int.not_le] at h14
   refine w_seq (fun K16 hK15 => ?_)
   refine w_region ?_
   refine w_pure want_none (y_move (v := .slice _ _ _) rfl rfl) rfl ?_
   refine w_pure want_none (y_assign (v := .slice _ _ _) rfl rfl) rfl ?_
   refine w_nil ?_
   refine q_then (hK15 _ _ ?_)
   refine w_ret ?_
   refine q_then_ret ?_
   refine q_ret (l := [.tmp 4]) (vs := [_]) rfl ⟨⟨rfl, show _ = (.slice _ _ _ : Value) from rfl⟩, trivial⟩ ?_
   exact ⟨rfl, hs11.tail⟩
  ·
   exfalso; simp at h14

theorem c110n {w0 w : World} {F : List (Nat × Obj)} (b : Board) (p : AtB) (bb mm : Nat) (hk : BK w0 F b p bb mm) (c a : Nat) (hc : c < b.ctrs.length) (ha : a < b.hours.length) (s : Int) (hs1 : 0 ≤ s ∧ s < 100) (es : List (List Int × Value × Nat)) (ck : Nat) (hes : ∀ q ∈ es, q.1.length = 3) (hf : getA [(c : Int), (a : Int), s] es = none) (hs : St w0 w ((mm, .map (ents (fun l : List Int => ia l) es).toArray ck) :: F)) :
  Con Try.prog 110 [.pointer (some ⟨bb, 0, none⟩), .agg #[.int .i64 (c : Int), .int .i64 (a : Int), .int .i64 s]] w fun v w' => ∃ (x : Option Addr) (cap : Nat) (B : List (Nat × Obj)), v = .slice x (waysAt b c a s).length cap ∧ Sl w0 B x 3 (wrows (waysAt b c a s)) ∧ St w0 w' ((mm, .map (ents (fun l : List Int => ia l) (putA [(c : Int), (a : Int), s] v ck es)).toArray (if idxA [(c : Int), (a : Int), s] es 0 = none then ck + 1 else ck)) :: (B ++ F)) := by
  refine con_of_wc (n := 128) Try.func110 rfl rfl (Nat.le_of_ble_eq_true rfl) ?_
  have hb := hk.l
  have hcok := hk.ok.ctr _ (List.getElem_mem hc)
  have hhok := hk.ok.hour _ (List.getElem_mem ha)
  obtain ⟨bx, ox, hbx, hxc⟩ := sl_krows hk.i.c hc
  obtain ⟨by_, oy, hby, hxh⟩ := sl_hrows hk.i.h ha
  have hz0 := hk.i.z c hc
  have hs0 := hk.i.s c hc
  rw [← ctr_at hc] at hcok hxc hz0 hs0
  rw [← hour_at ha] at hhok hxh
  have k1 := hcok.skip
  have k2 := hcok.twice
  have k3 := hhok.lo
  have k4 := hhok.le
  have k5 := hhok.hi
  have k6 := hhok.w
  have k7 := hcok.lz
  have k8 := hcok.ls
  have k9 := hk.ok.lh
  have haz : a < (ctrOf b c).zero.length := by omega
  have has : a < (ctrOf b c).shown.length := by omega
  obtain ⟨bz, oz, hbz, hxz⟩ := sl_ints hz0 haz
  obtain ⟨bv, ov, hbv, hxv⟩ := sl_ints hs0 has
  have hgz : (ctrOf b c).zero.getD a 0 = (ctrOf b c).zero[a] := by simp [List.getD, haz]
  have hgs : (ctrOf b c).shown.getD a 0 = (ctrOf b c).shown[a] := by simp [List.getD, has]
  have hsr := hcok.shown _ (List.getElem_mem has)
  refine w_seq (fun K2 hK1 => ?_)
  refine w_region ?_
  refine w_box (v := .agg #[.int _ _, .int _ _, .int _ _]) (cs := [_, _, _]) want_none rfl rfl rfl hs (fun b3 w4 hs5 => ?_)
  refine w_pure want_none (y_assign (v := _) rfl rfl) rfl ?_
  refine w_nil ?_
  refine q_then (hK1 _ _ ?_)
  refine w_seq (fun K7 hK6 => ?_)
  refine w_seq (fun K9 hK8 => ?_)
  refine w_draw [] [(0, 0), (1, 0), (2, 0), (3, 1), (4, 1), (5, 1), (6, 0), (7, 0), (8, 0), (9, 0), (10, 0)] Try_mo (drawOK_of (by kernel_rfl)) hs5 (fun w10 hs11 => ?_)
  refine d_any rfl want_none rfl (fun _ => (y_move (v := .pointer _) rfl rfl)) ?_
  refine d_any rfl want_none rfl (fun _ => (y_nilCheck rfl rfl)) ?_
  refine d_any rfl want_none rfl (fun _ => (y_fieldAddr (o := 3) (i := 1) Try.underlying129 rfl Try.sizeOf127 rfl rfl rfl)) ?_
  refine d_take rfl want_none rfl hs11 (fun _ hq => (y_load1 Try.isAgg127 hq.tail.tail rfl rfl (show Ats _ _ _ _ [_] from Ats.part hb 3 1))) ?_
  refine d_take rfl want_none rfl hs11 (fun _ hq => (y_loadN (vs := [_, _, _]) Try.isAgg154 Try.sizeOf154 hq rfl rfl (ats_own (i := 0) (vs := [_, _, _]) rfl rfl))) ?_
  refine d_take rfl want_none rfl hs11 (fun _ hq => (G_look2N (i := 1) (a := [(c : Int), (a : Int), s]) Try.underlying127 (keyG_ia key154) rfl hes Try.zeroValue152 hq rfl rfl rfl rfl rfl hf)) ?_
  refine d_any rfl want_none rfl (fun _ => (y_move (v := .tuple _) rfl rfl)) ?_
  refine d_any rfl want_none rfl (fun _ => (y_extract (v := .slice _ _ _) rfl rfl rfl)) ?_
  refine d_any rfl want_none rfl (fun _ => (y_extract (v := .bool _) rfl rfl rfl)) ?_
  refine d_any rfl want_none rfl (fun _ => (y_assign (v := .slice _ _ _) rfl rfl)) ?_
  refine d_any rfl want_none rfl (fun _ => (y_assign (v := .bool _) rfl rfl)) ?_
  refine d_nil ?_
  refine q_then (hK8 _ _ ?_)
  refine w_seq (fun K13 hK12 => ?_)
  refine w_region ?_
  refine w_pure want_none (y_move (v := .bool _) rfl rfl) rfl ?_
  refine w_nil ?_
  refine q_then (hK12 _ _ ?_)
  refine w_cond rfl rfl (fun h14 => ?_) (fun h14 => ?_)
  ·
   exfalso
   try simp only [Bool.not_eq_true', Bool.not_eq_false', decide_eq_true_eq, decide_eq_false_iff_not, Int.not_lt, Int.not_le] at h14
   simp at h14
  ·
   try simp only [Bool.not_eq_true', Bool.not_eq_false', decide_eq_true_eq, decide_eq_false_iff_not, Int.not_lt, Int.not_le] at h14
   refine w_skip ?_
   refine q_then (hK6 _ _ ?_)
   refine w_seq (fun K16 hK15 => ?_)
   refine w_region ?_
   refine w_pure want_none (y_assign (v := _) rfl rfl) rfl ?_
   refine w_nil ?_
   refine q_then (hK15 _ _ ?_)
   refine w_seq (fun K18 hK17 => ?_)
   refine w_cut [8, 9, 26, 27, 28, 29, 30, 31, 32, 33, 34, 35, 36, 37, 38, 39, 40, 41, 42, 43, 44] [8, 9] (fun vs w => ∃ b8 b9, vs = [.pointer (some ⟨b8, 0, none⟩), .pointer (some ⟨b9, 0, none⟩)] ∧ St w0 w ((b9, blk 31 [.int .i64 (hourOf b a).lo, .int .i64 (hourOf b a).hi]) :: (b8, blk 76 ((ctrOf b c).cells (p.pc c))) :: (b3, blk 154 [.int .i64 (c : Int), .int .i64 (a : Int), .int .i64 s]) :: (mm, .map (ents (fun l : List Int => ia l) es).toArray ck) :: F)) (fun K20 hC19 => ?_) ?_
   ·
    refine w_drawT (C := fun w => St w0 w _) [] (.two [(0, 0), (1, 0), (2, 0), (3, 0), (4, 1), (5, 0), (6, 1), (7, 0), (8, 1), (9, 0), (10, 0), (11, 0), (12, 0), (13, 1), (14, 0), (15, 1), (16, 0), (17, 0), (18, 1)] 19 20 (.done [(20, 2), (21, 2), (22, 2)]) (.done [(19, 2), (21, 2), (22, 2)])) Try_mo (by kernel_rfl) hs11 (fun _ h => h.drew) (fun w21 hs22 => ?_)
    refine dt_two ?_
    refine d_any rfl want_none rfl (fun _ => (y_move (v := .pointer _) rfl rfl)) ?_
    refine d_any rfl want_none rfl (fun _ => (y_nilCheck rfl rfl)) ?_
    refine d_any rfl want_none rfl (fun _ => (y_fieldAddr (o := 0) (i := 0) Try.underlying129 rfl Try.sizeOf25 rfl rfl rfl)) ?_
    refine d_any rfl want_none rfl (fun _ => (y_fieldAddr (o := 2) (i := 2) Try.underlying25 rfl Try.sizeOf23 rfl rfl rfl)) ?_
    refine d_take rfl want_none rfl hs22 (fun _ hq => (yd_slice hbx (y_load1 Try.isAgg23 hq.tail.tail rfl rfl (show Ats _ _ _ _ [_] from Ats.part hb 2 1)))) ?_
    refine d_any rfl want_none rfl (fun _ => (y_fieldAddr (o := 0) (i := 0) Try.underlying154 rfl Try.sizeOf3 rfl rfl rfl)) ?_
    refine d_take rfl want_none rfl hs22 (fun _ hq => (y_load1 Try.isAgg3 hq rfl rfl (ats_own (i := 0) (vs := [_]) rfl rfl))) ?_
    refine d_any rfl want_none rfl (fun _ => (y_indexS Try.underlying23 Try.sizeOf76 rfl rfl rfl rfl (i := c) rfl hc)) ?_
    refine d_take rfl want_none rfl hs22 (fun _ hq => (y_loadN (vs := [_, _, _, _, _, _]) Try.isAgg76 Try.sizeOf76 hq.tail.tail rfl rfl hxc)) ?_
    refine d_any rfl want_none rfl (fun _ => (y_move (v := .pointer _) rfl rfl)) ?_
    refine d_any rfl want_none rfl (fun _ => (y_nilCheck rfl rfl)) ?_
    refine d_any rfl want_none rfl (fun _ => (y_fieldAddr (o := 0) (i := 0) Try.underlying129 rfl Try.sizeOf25 rfl rfl rfl)) ?_
    refine d_any rfl want_none rfl (fun _ => (y_fieldAddr (o := 1) (i := 1) Try.underlying25 rfl Try.sizeOf22 rfl rfl rfl)) ?_
    refine d_take rfl want_none rfl hs22 (fun _ hq => (yd_slice hby (y_load1 Try.isAgg22 hq.tail.tail rfl rfl (show Ats _ _ _ _ [_] from Ats.part hb 1 1)))) ?_
    refine d_any rfl want_none rfl (fun _ => (y_fieldAddr (o := 1) (i := 1) Try.underlying154 rfl Try.sizeOf3 rfl rfl rfl)) ?_
    refine d_take rfl want_none rfl hs22 (fun _ hq => (y_load1 Try.isAgg3 hq rfl rfl (ats_own (i := 0) (vs := [_]) rfl rfl))) ?_
    refine d_any rfl want_none rfl (fun _ => (y_indexS Try.underlying22 Try.sizeOf70 rfl rfl rfl rfl (i := a) rfl ha)) ?_
    refine d_any rfl want_none rfl (fun _ => (y_fieldAddr (o := 1) (i := 1) Try.underlying70 rfl Try.sizeOf31 rfl rfl rfl)) ?_
    refine d_take rfl want_none rfl hs22 (fun _ hq => (y_loadN (vs := [_, _]) Try.isAgg31 Try.sizeOf31 hq.tail.tail rfl rfl (show Ats _ _ _ _ [_, _] from Ats.part hxh 1 2))) ?_
    refine d_two rfl rfl ?_ ?_
    ·
     refine w_alloc (cs := [_, _, _, _, _, _]) want_none Try.zeroValue76 rfl hs22 (fun b23 w24 hs25 => ?_)
     refine w_nil ?_
     refine qn ⟨hs25.tail, ?_⟩
     refine dt_done ?_
     refine d_eff rfl ?_
     refine w_alloc (cs := [_, _]) want_none Try.zeroValue31 rfl hs25 (fun b26 w27 hs28 => ?_)
     refine w_nil ?_
     refine qn ⟨hs28.tail.tail, ?_⟩
     refine d_eff rfl ?_
     refine w_store (i := 1) (v := .agg #[.string _, .int _ _, .int _ _, .int _ _, .slice _ _ _, .slice _ _ _]) (vs := [_, _, _, _, _, _]) want_none Try.sizeOf76 rfl rfl rfl rfl rfl (by simp [Value.oneCell']) hs28 rfl (Nat.le_of_ble_eq_true rfl) (fun w29 hs30 => ?_)
     refine w_nil ?_
     refine qn ⟨hs30.tail.tail, ?_⟩
     refine d_eff rfl ?_
     refine w_store (i := 0) (v := .agg #[.int _ _, .int _ _]) (vs := [_, _]) want_none Try.sizeOf31 rfl rfl rfl rfl rfl (by simp [Value.oneCell']) hs30 rfl (Nat.le_of_ble_eq_true rfl) (fun w31 hs32 => ?_)
     refine w_nil ?_
     refine qn ⟨hs32.tail.tail, ?_⟩
     refine d_nil ?_
     refine q_then (hC19 _ _ (Md.intro (by repeat (first | exact agree_refl | exact agree_mix | refine agree_upd rfl ?_ | refine agree_updL rfl ?_ _ | refine agree_mixin rfl ?_)) ?_))
     first
       | exact ⟨_, _, rfl, hs32⟩
       | exact ⟨_, _, rfl, swp2 (show St _ _ (_ :: _ :: _) from hs32)⟩
    ·
     refine w_alloc (cs := [_, _]) want_none Try.zeroValue31 rfl hs22 (fun b33 w34 hs35 => ?_)
     refine w_nil ?_
     refine qn ⟨hs35.tail, ?_⟩
     refine dt_done ?_
     refine d_eff rfl ?_
     refine w_alloc (cs := [_, _, _, _, _, _]) want_none Try.zeroValue76 rfl hs35 (fun b36 w37 hs38 => ?_)
     refine w_nil ?_
     refine qn ⟨hs38.tail.tail, ?_⟩
     refine d_eff rfl ?_
     refine w_store (i := 0) (v := .agg #[.string _, .int _ _, .int _ _, .int _ _, .slice _ _ _, .slice _ _ _]) (vs := [_, _, _, _, _, _]) want_none Try.sizeOf76 rfl rfl rfl rfl rfl (by simp [Value.oneCell']) hs38 rfl (Nat.le_of_ble_eq_true rfl) (fun w39 hs40 => ?_)
     refine w_nil ?_
     refine qn ⟨hs40.tail.tail, ?_⟩
     refine d_eff rfl ?_
     refine w_store (i := 1) (v := .agg #[.int _ _, .int _ _]) (vs := [_, _]) want_none Try.sizeOf31 rfl rfl rfl rfl rfl (by simp [Value.oneCell']) hs40 rfl (Nat.le_of_ble_eq_true rfl) (fun w41 hs42 => ?_)
     refine w_nil ?_
     refine qn ⟨hs42.tail.tail, ?_⟩
     refine d_nil ?_
     refine q_then (hC19 _ _ (Md.intro (by repeat (first | exact agree_refl | exact agree_mix | refine agree_upd rfl ?_ | refine agree_updL rfl ?_ _ | refine agree_mixin rfl ?_)) ?_))
     first
       | exact ⟨_, _, rfl, hs42⟩
       | exact ⟨_, _, rfl, swp2 (show St _ _ (_ :: _ :: _) from hs42)⟩
   ·
    intro vs μ w43 hM
    obtain ⟨b8, b9, rfl, hs⟩ := hM
    refine q_then (hK17 _ _ ?_)
    refine w_seq (fun K45 hK44 => ?_)
    refine w_seq (fun K47 hK46 => ?_)
    refine w_region ?_
    refine w_pure want_none (y_move (v := _) rfl rfl) rfl ?_
    refine w_nil ?_
    refine q_then (hK46 _ _ ?_)
    refine w_block ?_
    refine w_loop [7, 10, 11, 12, 13, 14, 45, 46, 47, 48, 49, 50, 51, 52, 53, 54, 55, 56, 57, 58, 59, 60, 61, 62, 63, 64, 65, 66, 67, 68, 69, 70, 71, 72, 73, 74, 75, 76, 77, 78, 79, 80, 81, 82, 83, 84, 85, 86, 87, 88, 89, 90, 91, 92, 93, 94, 95, 96, 97, 98, 99, 100, 101, 102, 103, 104, 105, 106, 107, 108, 109, 110, 111, 112, 113, 114, 115, 116, 117, 118, 119, 120] [7, 45] (fun kk vs w => ∃ (z : Nat) (v : Value) (B : List (Nat × Obj)), vs = [v, .int .i64 z] ∧ z ≤ 2 ∧ kk = 2 - z ∧ Rt.Own v 140 3 (wTo (ctrOf b c) (hourOf b a) a s z).length (wrows (wTo (ctrOf b c) (hourOf b a) a s z)).flatten B ∧ St w0 w ((b9, blk 31 [.int .i64 (hourOf b a).lo, .int .i64 (hourOf b a).hi]) :: (b8, blk 76 ((ctrOf b c).cells (p.pc c))) :: (b3, blk 154 [.int .i64 (c : Int), .int .i64 (a : Int), .int .i64 s]) :: (mm, .map (ents (fun l : List Int => ia l) es).toArray ck) :: (B ++ F))) (2) ?_ ?_
    ·
     exact ⟨0, _, [], rfl, by omega, by omega, own_nil 140 3, hs⟩
    ·
     intro k vs μ w50 hI K49 hN48
     obtain ⟨z, v, B, rfl, hza, rfl, hown, hs⟩ := hI
     have hzb : decide ((z : Int) = 1) = decide (z = 1) := by rw [Bool.eq_iff_iff]; simp; omega
     have hwl := wTo_len (a := a) (s := s) hcok hhok z
     refine w_seq (fun K52 hK51 => ?_)
     refine w_region ?_
     refine w_pure want_none (y_lss rfl rfl rfl rfl) rfl ?_
     refine w_nil ?_
     refine q_then (hK51 _ _ ?_)
     refine w_seq (fun K54 hK53 => ?_)
     refine w_cond rfl rfl (fun h55 => ?_) (fun h55 => ?_)
     ·
      try simp only [Bool.not_eq_true', Bool.not_eq_false', decide_eq_true_eq, decide_eq_false_iff_not, Int.not_lt, Int.not_le] at h55
      refine w_skip ?_
      refine q_then (hK53 _ _ ?_)
      refine w_seq (fun K57 hK56 => ?_)
      refine w_block ?_
      refine w_seq (fun K59 hK58 => ?_)
      refine w_region ?_
      refine w_pure want_none (y_move (v := .int _ _) rfl rfl) rfl ?_
      refine w_pure want_none (y_assign (v := .int _ _) rfl rfl) rfl ?_
      refine w_nil ?_
      refine q_then (hK58 _ _ ?_)
      refine w_seq (fun K61 hK60 => ?_)
      refine w_seq (fun K63 hK62 => ?_)
      refine w_region ?_
      refine w_pure want_none (y_move (v := .int _ _) rfl rfl) rfl ?_
      refine w_pure want_none (y_eql rfl rfl rfl rfl) rfl ?_
      refine w_pure want_none (y_move (v := .bool _) rfl rfl) rfl ?_
      refine w_split (fun h64 => ?_) (fun h64 => ?_)
      ·
       try simp only [Bool.not_eq_true', Bool.not_eq_false', decide_eq_true_eq, decide_eq_false_iff_not, Int.not_lt, Int.not_le] at h64
       refine w_pure (want_yes rfl rfl rfl) (y_fieldAddr (o := 4) (i := 4) Try.underlying76 rfl Try.sizeOf39 rfl rfl rfl) rfl ?_
       refine w_pure (want_yes rfl rfl rfl) (yd_slice hbz (y_load1 Try.isAgg39 hs rfl rfl (ats_own (i := 1) (vs := [_]) rfl rfl))) rfl ?_
       refine w_pure (want_yes rfl rfl rfl) (y_fieldAddr (o := 1) (i := 1) Try.underlying154 rfl Try.sizeOf3 rfl rfl rfl) rfl ?_
       refine w_pure (want_yes rfl rfl rfl) (y_load1 Try.isAgg3 hs rfl rfl (ats_own (i := 2) (vs := [_]) rfl rfl)) rfl ?_
       refine w_pure (want_yes rfl rfl rfl) (y_indexS Try.underlying39 Try.sizeOf3 rfl rfl rfl rfl (i := a) rfl haz) rfl ?_
       refine w_pure (want_yes rfl rfl rfl) (y_load1 Try.isAgg3 hs.tail.tail.tail.tail.drop rfl rfl hxz) rfl ?_
       refine w_pure (want_yes rfl rfl rfl) (y_eql rfl rfl rfl rfl) rfl ?_
       refine w_pure want_none (y_pickT (v := .bool _) rfl rfl rfl rfl) rfl ?_
       refine w_pure want_none (y_move (v := .bool _) rfl rfl) rfl ?_
       refine w_split (fun h65 => ?_) (fun h65 => ?_)
       ·
        try simp only [Bool.not_eq_true', Bool.not_eq_false', decide_eq_true_eq, decide_eq_false_iff_not, Int.not_lt, Int.not_le] at h65
        refine w_skipop rfl rfl rfl ?_
        refine w_skipop rfl rfl rfl ?_
        refine w_skipop rfl rfl rfl ?_
        refine w_skipop' rfl rfl rfl ?_
        refine w_skipop' rfl rfl rfl ?_
        refine w_skipop' rfl rfl rfl ?_
        refine w_skipop' rfl rfl rfl ?_
        refine w_skipop' rfl rfl rfl ?_
        refine w_skipop' rfl rfl rfl ?_
        refine w_skipop' rfl rfl rfl ?_
        refine w_skipop rfl rfl rfl ?_
        refine w_pure want_none (y_pickT (v := _) rfl rfl rfl rfl) rfl ?_
        refine w_nil ?_
        refine q_then (hK62 _ _ ?_)
        refine w_condT rfl rfl ?_
        refine w_exit ?_
        refine q_then_exit ?_
        refine q_blk_this ?_
        refine q_then (hK56 _ _ ?_)
        refine w_region ?_
        refine w_pure want_none (y_add rfl rfl rfl rfl (by omega) (by omega)) rfl ?_
        refine w_pure want_none (y_move (v := .int _ _) rfl rfl) rfl ?_
        refine w_nil ?_
        refine q_then (hN48 _ _ (Nx.intro (2 - (z + 1)) (by omega) (by repeat (first | exact agree_mix | refine agree_upd rfl ?_ | refine agree_updL rfl ?_ _ | refine agree_mixin rfl ?_)) ?_))
        first
          | exact ⟨z + 1, v, B, rfl, by omega, rfl, by rw [wTo_no (canZ_n (by omega) (by omega))]; exact hown, hs⟩
          | exact ⟨z + 1, v, B, rfl, by omega, rfl, by rw [wPart_all (canZ_y (by omega) (by omega)) (q := q) (by omega)]; exact hown2, hs.tail⟩
       ·
        try simp only [Bool.not_eq_true', Bool.not_eq_false', decide_eq_true_eq, decide_eq_false_iff_not, Int.not_lt, Int.not_le] at h65
        refine w_pure (want_yes rfl rfl rfl) (y_move (v := .int _ _) rfl rfl) rfl ?_
        refine w_pure (want_yes rfl rfl rfl) (y_eql rfl rfl rfl rfl) rfl ?_
        refine w_pure (want_yes rfl rfl rfl) (y_move (v := .bool _) rfl rfl) rfl ?_
        refine w_split (fun h66 => ?_) (fun h66 => ?_)
        ·
         try simp only [Bool.not_eq_true', Bool.not_eq_false', decide_eq_true_eq, decide_eq_false_iff_not, Int.not_lt, Int.not_le] at h66
         refine w_pure (want_yes rfl rfl rfl) (y_fieldAddr (o := 4) (i := 4) Try.underlying76 rfl Try.sizeOf39 rfl rfl rfl) rfl ?_
         refine w_pure (want_yes rfl rfl rfl) (yd_slice hbz (y_load1 Try.isAgg39 hs rfl rfl (ats_own (i := 1) (vs := [_]) rfl rfl))) rfl ?_
         refine w_pure (want_yes rfl rfl rfl) (y_fieldAddr (o := 1) (i := 1) Try.underlying154 rfl Try.sizeOf3 rfl rfl rfl) rfl ?_
         refine w_pure (want_yes rfl rfl rfl) (y_load1 Try.isAgg3 hs rfl rfl (ats_own (i := 2) (vs := [_]) rfl rfl)) rfl ?_
         refine w_pure (want_yes rfl rfl rfl) (y_indexS Try.underlying39 Try.sizeOf3 rfl rfl rfl rfl (i := a) rfl haz) rfl ?_
         refine w_pure (want_yes rfl rfl rfl) (y_load1 Try.isAgg3 hs.tail.tail.tail.tail.drop rfl rfl hxz) rfl ?_
         refine w_pure (want_yes rfl rfl rfl) (y_eql rfl rfl rfl rfl) rfl ?_
         refine w_pure (want_yes rfl rfl rfl) (y_pickT (v := .bool _) rfl rfl rfl rfl) rfl ?_
         refine w_pure want_none (y_pickF (v := .bool _) rfl rfl rfl rfl) rfl ?_
         refine w_nil ?_
         refine q_then (hK62 _ _ ?_)
         refine w_cond rfl rfl (fun h67 => ?_) (fun h67 => ?_)
         ·
          try simp only [Bool.not_eq_true', Bool.not_eq_false', decide_eq_true_eq, decide_eq_false_iff_not, Int.not_lt, Int.not_le] at h67
          refine w_exit ?_
          refine q_then_exit ?_
          refine q_blk_this ?_
          refine q_then (hK56 _ _ ?_)
          refine w_region ?_
          refine w_pure want_none (y_add rfl rfl rfl rfl (by omega) (by omega)) rfl ?_
          refine w_pure want_none (y_move (v := .int _ _) rfl rfl) rfl ?_
          refine w_nil ?_
          refine q_then (hN48 _ _ (Nx.intro (2 - (z + 1)) (by omega) (by repeat (first | exact agree_mix | refine agree_upd rfl ?_ | refine agree_updL rfl ?_ _ | refine agree_mixin rfl ?_)) ?_))
          first
            | exact ⟨z + 1, v, B, rfl, by omega, rfl, by rw [wTo_no (canZ_n (by omega) (by omega))]; exact hown, hs⟩
            | exact ⟨z + 1, v, B, rfl, by omega, rfl, by rw [wPart_all (canZ_y (by omega) (by omega)) (q := q) (by omega)]; exact hown2, hs.tail⟩
         ·
          try simp only [Bool.not_eq_true', Bool.not_eq_false', decide_eq_true_eq, decide_eq_false_iff_not, Int.not_lt, Int.not_le] at h67
          refine w_skip ?_
          refine q_then (hK60 _ _ ?_)
          refine w_seq (fun K69 hK68 => ?_)
          refine w_region ?_
          refine w_pure want_none (y_loadN (vs := [_, _, _]) Try.isAgg154 Try.sizeOf154 hs rfl rfl (ats_own (i := 2) (vs := [_, _, _]) rfl rfl)) rfl ?_
          refine w_alloc (cs := [_, _, _]) want_none Try.zeroValue154 rfl hs (fun b70 w71 hs72 => ?_)
          refine w_store (i := 0) (v := .agg #[.int _ _, .int _ _, .int _ _]) (vs := [_, _, _]) want_none Try.sizeOf154 rfl rfl rfl rfl rfl (by simp [Value.oneCell']) hs72 rfl (Nat.le_of_ble_eq_true rfl) (fun w73 hs74 => ?_)
          refine w_nil ?_
          refine q_then (hK68 _ _ ?_)
          refine w_seq (fun K76 hK75 => ?_)
          have hmi := mul_in (s := s) (show z < 2 by omega) hs1
          refine w_region ?_
          refine w_pure want_none (y_fieldAddr (o := 2) (i := 2) Try.underlying154 rfl Try.sizeOf3 rfl rfl rfl) rfl ?_
          refine w_pure want_none (y_load1 Try.isAgg3 hs74 rfl rfl (ats_own (i := 0) (vs := [_]) rfl rfl)) rfl ?_
          refine w_pure want_none (y_move (v := .int _ _) rfl rfl) rfl ?_
          refine w_pure want_none (y_sub rfl rfl rfl rfl (by omega) (by omega)) rfl ?_
          refine w_pure want_none (y_mul rfl rfl rfl rfl (by omega) (by omega)) rfl ?_
          refine w_pure want_none (y_fieldAddr (o := 2) (i := 2) Try.underlying154 rfl Try.sizeOf3 rfl rfl rfl) rfl ?_
          refine w_store (i := 0) (v := .int _ _) (vs := [_]) want_none Try.sizeOf3 rfl rfl rfl rfl rfl (by simp [Value.oneCell']) hs74 rfl (Nat.le_of_ble_eq_true rfl) (fun w77 hs78 => ?_)
          refine w_nil ?_
          refine q_then (hK75 _ _ ?_)
          refine w_seq (fun K80 hK79 => ?_)
          refine w_region ?_
          refine w_pure want_none (y_fieldAddr (o := 0) (i := 0) Try.underlying31 rfl Try.sizeOf3 rfl rfl rfl) rfl ?_
          refine w_pure want_none (y_load1 Try.isAgg3 hs78 rfl rfl (ats_own (i := 1) (vs := [_]) rfl rfl)) rfl ?_
          refine w_pure want_none (y_fieldAddr (o := 1) (i := 1) Try.underlying76 rfl Try.sizeOf3 rfl rfl rfl) rfl ?_
          refine w_pure want_none (y_load1 Try.isAgg3 hs78 rfl rfl (ats_own (i := 2) (vs := [_]) rfl rfl)) rfl ?_
          refine w_pure want_none (y_sub rfl rfl rfl rfl (by omega) (by omega)) rfl ?_
          refine w_pure want_none (y_max2 rfl rfl rfl rfl) rfl ?_
          refine w_pure want_none (y_assign (v := .int _ _) rfl rfl) rfl ?_
          refine w_nil ?_
          refine q_then (hK79 _ _ ?_)
          refine w_block ?_
          refine w_loop [7, 12, 13, 14, 85, 86, 87, 88, 89, 90, 91, 92, 93, 94, 95, 96, 97, 98, 99, 100, 101, 102, 103, 104, 105, 106, 107, 108, 109, 110, 111, 112, 113, 114, 115, 116, 117, 118, 119] [7, 12] (fun kk vs w => ∃ (q : Nat) (v : Value) (B : List (Nat × Obj)), vs = [v, .int .i64 ((max 0 ((hourOf b a).lo - (ctrOf b c).skip)) + q)] ∧ q ≤ ((hourOf b a).hi + (ctrOf b c).twice + 1 - (max 0 ((hourOf b a).lo - (ctrOf b c).skip))).toNat ∧ kk = ((hourOf b a).hi + (ctrOf b c).twice + 1 - (max 0 ((hourOf b a).lo - (ctrOf b c).skip))).toNat - q ∧ Rt.Own v 140 3 ((wTo (ctrOf b c) (hourOf b a) a s z) ++ wPart (ctrOf b c) a s (decide (z = 1)) (max 0 ((hourOf b a).lo - (ctrOf b c).skip)) q).length (wrows ((wTo (ctrOf b c) (hourOf b a) a s z) ++ wPart (ctrOf b c) a s (decide (z = 1)) (max 0 ((hourOf b a).lo - (ctrOf b c).skip)) q)).flatten B ∧ St w0 w ((b70, blk 154 [.int .i64 (c : Int), .int .i64 (a : Int), .int .i64 (s * (1 - (z : Int)))]) :: (b9, blk 31 [.int .i64 (hourOf b a).lo, .int .i64 (hourOf b a).hi]) :: (b8, blk 76 ((ctrOf b c).cells (p.pc c))) :: (b3, blk 154 [.int .i64 (c : Int), .int .i64 (a : Int), .int .i64 s]) :: (mm, .map (ents (fun l : List Int => ia l) es).toArray ck) :: (B ++ F))) (((hourOf b a).hi + (ctrOf b c).twice + 1 - (max 0 ((hourOf b a).lo - (ctrOf b c).skip))).toNat) ?_ ?_
          ·
           exact ⟨0, v, B, vi (by omega), by omega, by omega, by rw [show wPart (ctrOf b c) a s (decide (z = 1)) (max 0 ((hourOf b a).lo - (ctrOf b c).skip)) 0 = [] from rfl, List.append_nil]; exact hown, hs78⟩
          ·
           intro k vs μ w83 hI K82 hN81
           obtain ⟨q, v, B, rfl, hqa, rfl, hown2, hs⟩ := hI
           have hpl := wPart_len (ctrOf b c) a s (max 0 ((hourOf b a).lo - (ctrOf b c).skip)) (decide (z = 1)) q
           have hpa : ((wTo (ctrOf b c) (hourOf b a) a s z) ++ wPart (ctrOf b c) a s (decide (z = 1)) (max 0 ((hourOf b a).lo - (ctrOf b c).skip)) q).length = (wTo (ctrOf b c) (hourOf b a) a s z).length + (wPart (ctrOf b c) a s (decide (z = 1)) (max 0 ((hourOf b a).lo - (ctrOf b c).skip)) q).length := List.length_append
           refine w_seq (fun K85 hK84 => ?_)
           refine w_seq (fun K87 hK86 => ?_)
           refine w_region ?_
           refine w_pure want_none (y_move (v := .int _ _) rfl rfl) rfl ?_
           refine w_pure want_none (y_fieldAddr (o := 1) (i := 1) Try.underlying31 rfl Try.sizeOf3 rfl rfl rfl) rfl ?_
           refine w_pure want_none (y_load1 Try.isAgg3 hs rfl rfl (ats_own (i := 1) (vs := [_]) rfl rfl)) rfl ?_
           refine w_pure want_none (y_fieldAddr (o := 2) (i := 2) Try.underlying76 rfl Try.sizeOf3 rfl rfl rfl) rfl ?_
           refine w_pure want_none (y_load1 Try.isAgg3 hs rfl rfl (ats_own (i := 2) (vs := [_]) rfl rfl)) rfl ?_
           refine w_pure want_none (y_add rfl rfl rfl rfl (by omega) (by omega)) rfl ?_
           refine w_pure want_none (y_leq rfl rfl rfl rfl) rfl ?_
           refine w_nil ?_
           refine q_then (hK86 _ _ ?_)
           refine w_cond rfl rfl (fun h88 => ?_) (fun h88 => ?_)
           ·
            try simp only [Bool.not_eq_true', Bool.not_eq_false', decide_eq_true_eq, decide_eq_false_iff_not, Int.not_lt, Int.not_le] at h88
            refine w_skip ?_
            refine q_then (hK84 _ _ ?_)
            refine w_seq (fun K90 hK89 => ?_)
            refine w_block ?_
            refine w_seq (fun K92 hK91 => ?_)
            refine w_region ?_
            refine w_pure want_none (y_fieldAddr (o := 2) (i := 2) Try.underlying154 rfl Try.sizeOf3 rfl rfl rfl) rfl ?_
            refine w_pure want_none (y_load1 Try.isAgg3 hs rfl rfl (ats_own (i := 0) (vs := [_]) rfl rfl)) rfl ?_
            refine w_pure want_none (y_move (v := .int _ _) rfl rfl) rfl ?_
            refine w_pure want_none (y_add rfl rfl rfl rfl (by omega) (by omega)) rfl ?_
            refine w_pure want_none (y_rem rfl rfl rfl rfl (by omega) (by omega)) rfl ?_
            refine w_pure want_none (y_assign (v := .int _ _) rfl rfl) rfl ?_
            refine w_nil ?_
            refine q_then (hK91 _ _ ?_)
            refine w_seq (fun K94 hK93 => ?_)
            refine w_region ?_
            refine w_pure want_none (y_fieldAddr (o := 5) (i := 5) Try.underlying76 rfl Try.sizeOf39 rfl rfl rfl) rfl ?_
            refine w_pure want_none (yd_slice hbv (y_load1 Try.isAgg39 hs rfl rfl (ats_own (i := 2) (vs := [_]) rfl rfl))) rfl ?_
            refine w_pure want_none (y_fieldAddr (o := 1) (i := 1) Try.underlying154 rfl Try.sizeOf3 rfl rfl rfl) rfl ?_
            refine w_pure want_none (y_load1 Try.isAgg3 hs rfl rfl (ats_own (i := 3) (vs := [_]) rfl rfl)) rfl ?_
            refine w_pure want_none (y_indexS Try.underlying39 Try.sizeOf3 rfl rfl rfl rfl (i := a) rfl has) rfl ?_
            refine w_pure want_none (y_load1 Try.isAgg3 hs.tail.tail.tail.tail.tail.drop rfl rfl hxv) rfl ?_
            refine w_pure want_none (y_assign (v := .int _ _) rfl rfl) rfl ?_
            refine w_nil ?_
            refine q_then (hK93 _ _ ?_)
            refine w_seq (fun K96 hK95 => ?_)
            rw [sh_mul (by omega)]
            refine w_region ?_
            refine w_pure want_none (y_move (v := .int _ _) rfl rfl) rfl ?_
            refine w_pure want_none (y_eql rfl rfl rfl rfl) rfl ?_
            refine w_pure want_none (y_move (v := .bool _) rfl rfl) rfl ?_
            refine w_split (fun h97 => ?_) (fun h97 => ?_)
            ·
             try simp only [Bool.not_eq_true', Bool.not_eq_false', decide_eq_true_eq, decide_eq_false_iff_not, Int.not_lt, Int.not_le] at h97
             refine w_skipop rfl rfl rfl ?_
             refine w_skipop rfl rfl rfl ?_
             refine w_skipop rfl rfl rfl ?_
             refine w_pure want_none (y_pickT (v := _) rfl rfl rfl rfl) rfl ?_
             refine w_nil ?_
             refine q_then (hK95 _ _ ?_)
             refine w_condT rfl rfl ?_
             refine w_region ?_
             refine w_pure want_none (y_move (v := v) rfl rfl) rfl ?_
             refine w_pure want_none (y_move (v := .int _ _) rfl rfl) rfl ?_
             refine w_pure want_none (y_move (v := .int _ _) rfl rfl) rfl ?_
             refine w_pure want_none (y_move (v := .int _ _) rfl rfl) rfl ?_
             refine w_pure want_none (y_eql rfl rfl rfl rfl) rfl ?_
             refine w_pure want_none (y_build (ps := [(0, _), (1, _), (2, _)]) (pv := [(0, .int _ _), (1, .int _ _), (2, .bool _)]) rfl rfl (fun w => Try_E_fb1 _ _ _ w)) rfl ?_
             refine w_bslice (ps := [(0, _)]) (pv := [(0, .agg #[.int _ _, .int _ _, .bool _])]) (cs := [_, _, _]) want_none rfl rfl (fun w => Try_E_fb2 _ _ _ w) hs (fun b98 w99 hs100 => ?_)
             refine w_append (X := (_ :: _ :: _ :: _ :: _ :: _ :: [])) (B := B) (rows := [[_, _, _]]) (sz := 3) (bytes := 24) want_none Try.underlying152 Try_info140 rfl rfl rfl rfl rfl rfl rfl rfl rfl hs100 hown2 (sl_own (i := 0) rfl (by simp) rfl) rfl (by simp) (by simp [Value.oneCell']) (by simp only [maxLen]; omega) (by omega) (fun v101 w102 B103 ho104 hs105 => ?_)
             replace hs105 := (show St _ _ (_ :: _ :: _ :: _ :: _ :: _ :: B103 ++ (F)) from hs105)
             refine w_pure want_none (y_assign (v := v101) rfl rfl) rfl ?_
             refine w_nil ?_
             refine q_blk_normal ?_
             refine q_then (hK89 _ _ ?_)
             refine w_region ?_
             refine w_pure want_none (y_move (v := .int _ _) rfl rfl) rfl ?_
             refine w_pure want_none (y_add rfl rfl rfl rfl (by omega) (by omega)) rfl ?_
             refine w_pure want_none (y_assign (v := .int _ _) rfl rfl) rfl ?_
             refine w_nil ?_
             refine q_then (hN81 _ _ (Nx.intro (((hourOf b a).hi + (ctrOf b c).twice + 1 - (max 0 ((hourOf b a).lo - (ctrOf b c).skip))).toNat - (q + 1)) (by omega) (by repeat (first | exact agree_mix | refine agree_upd rfl ?_ | refine agree_updL rfl ?_ _ | refine agree_mixin rfl ?_)) ?_))
             exact ⟨q + 1, _, _, vi (by omega), by omega, rfl, by rw [wPart_y (by rw [hgs]; omega), ← List.append_assoc]; exact own_way (by have h9 := ho104; rw [hzb] at h9; exact h9), hs105.tail⟩
            ·
             try simp only [Bool.not_eq_true', Bool.not_eq_false', decide_eq_true_eq, decide_eq_false_iff_not, Int.not_lt, Int.not_le] at h97
             refine w_pure (want_yes rfl rfl rfl) (y_move (v := .int _ _) rfl rfl) rfl ?_
             refine w_pure (want_yes rfl rfl rfl) (y_move (v := .int _ _) rfl rfl) rfl ?_
             refine w_pure (want_yes rfl rfl rfl) (y_eql rfl rfl rfl rfl) rfl ?_
             refine w_pure want_none (y_pickF (v := .bool _) rfl rfl rfl rfl) rfl ?_
             refine w_nil ?_
             refine q_then (hK95 _ _ ?_)
             refine w_cond rfl rfl (fun h106 => ?_) (fun h106 => ?_)
             ·
              try simp only [Bool.not_eq_true', Bool.not_eq_false', decide_eq_true_eq, decide_eq_false_iff_not, Int.not_lt, Int.not_le] at h106
              refine w_region ?_
              refine w_pure want_none (y_move (v := v) rfl rfl) rfl ?_
              refine w_pure want_none (y_move (v := .int _ _) rfl rfl) rfl ?_
              refine w_pure want_none (y_move (v := .int _ _) rfl rfl) rfl ?_
              refine w_pure want_none (y_move (v := .int _ _) rfl rfl) rfl ?_
              refine w_pure want_none (y_eql rfl rfl rfl rfl) rfl ?_
              refine w_pure want_none (y_build (ps := [(0, _), (1, _), (2, _)]) (pv := [(0, .int _ _), (1, .int _ _), (2, .bool _)]) rfl rfl (fun w => Try_E_fb1 _ _ _ w)) rfl ?_
              refine w_bslice (ps := [(0, _)]) (pv := [(0, .agg #[.int _ _, .int _ _, .bool _])]) (cs := [_, _, _]) want_none rfl rfl (fun w => Try_E_fb2 _ _ _ w) hs (fun b107 w108 hs109 => ?_)
              refine w_append (X := (_ :: _ :: _ :: _ :: _ :: _ :: [])) (B := B) (rows := [[_, _, _]]) (sz := 3) (bytes := 24) want_none Try.underlying152 Try_info140 rfl rfl rfl rfl rfl rfl rfl rfl rfl hs109 hown2 (sl_own (i := 0) rfl (by simp) rfl) rfl (by simp) (by simp [Value.oneCell']) (by simp only [maxLen]; omega) (by omega) (fun v110 w111 B112 ho113 hs114 => ?_)
              replace hs114 := (show St _ _ (_ :: _ :: _ :: _ :: _ :: _ :: B112 ++ (F)) from hs114)
              refine w_pure want_none (y_assign (v := v110) rfl rfl) rfl ?_
              refine w_nil ?_
              refine q_blk_normal ?_
              refine q_then (hK89 _ _ ?_)
              refine w_region ?_
              refine w_pure want_none (y_move (v := .int _ _) rfl rfl) rfl ?_
              refine w_pure want_none (y_add rfl rfl rfl rfl (by omega) (by omega)) rfl ?_
              refine w_pure want_none (y_assign (v := .int _ _) rfl rfl) rfl ?_
              refine w_nil ?_
              refine q_then (hN81 _ _ (Nx.intro (((hourOf b a).hi + (ctrOf b c).twice + 1 - (max 0 ((hourOf b a).lo - (ctrOf b c).skip))).toNat - (q + 1)) (by omega) (by repeat (first | exact agree_mix | refine agree_upd rfl ?_ | refine agree_updL rfl ?_ _ | refine agree_mixin rfl ?_)) ?_))
              exact ⟨q + 1, _, _, vi (by omega), by omega, rfl, by rw [wPart_y (by rw [hgs]; omega), ← List.append_assoc]; exact own_way (by have h9 := ho113; rw [hzb] at h9; exact h9), hs114.tail⟩
             ·
              try simp only [Bool.not_eq_true', Bool.not_eq_false', decide_eq_true_eq, decide_eq_false_iff_not, Int.not_lt, Int.not_le] at h106
              refine w_skip ?_
              refine q_blk_normal ?_
              refine q_then (hK89 _ _ ?_)
              refine w_region ?_
              refine w_pure want_none (y_move (v := .int _ _) rfl rfl) rfl ?_
              refine w_pure want_none (y_add rfl rfl rfl rfl (by omega) (by omega)) rfl ?_
              refine w_pure want_none (y_assign (v := .int _ _) rfl rfl) rfl ?_
              refine w_nil ?_
              refine q_then (hN81 _ _ (Nx.intro (((hourOf b a).hi + (ctrOf b c).twice + 1 - (max 0 ((hourOf b a).lo - (ctrOf b c).skip))).toNat - (q + 1)) (by omega) (by repeat (first | exact agree_mix | refine agree_upd rfl ?_ | refine agree_updL rfl ?_ _ | refine agree_mixin rfl ?_)) ?_))
              exact ⟨q + 1, v, B, vi (by omega), by omega, rfl, by rw [wPart_n (by rw [hgs]; omega)]; exact hown2, hs⟩
           ·
            try simp only [Bool.not_eq_true', Bool.not_eq_false', decide_eq_true_eq, decide_eq_false_iff_not, Int.not_lt, Int.not_le] at h88
            refine w_exit ?_
            refine q_then_exit ?_
            refine q_then_exit ?_
            refine q_blk_this ?_
            refine q_blk_normal ?_
            refine q_then (hK56 _ _ ?_)
            refine w_region ?_
            refine w_pure want_none (y_add rfl rfl rfl rfl (by omega) (by omega)) rfl ?_
            refine w_pure want_none (y_move (v := .int _ _) rfl rfl) rfl ?_
            refine w_nil ?_
            refine q_then (hN48 _ _ (Nx.intro (2 - (z + 1)) (by omega) (by repeat (first | exact agree_mix | refine agree_upd rfl ?_ | refine agree_updL rfl ?_ _ | refine agree_mixin rfl ?_)) ?_))
            first
              | exact ⟨z + 1, v, B, rfl, by omega, rfl, by rw [wTo_no (canZ_n (by omega) (by omega))]; exact hown, hs⟩
              | exact ⟨z + 1, v, B, rfl, by omega, rfl, by rw [wPart_all (canZ_y (by omega) (by omega)) (q := q) (by omega)]; exact hown2, hs.tail⟩
        ·
         try simp only [Bool.not_eq_true', Bool.not_eq_false', decide_eq_true_eq, decide_eq_false_iff_not, Int.not_lt, Int.not_le] at h66
         refine w_skipop rfl rfl rfl ?_
         refine w_skipop rfl rfl rfl ?_
         refine w_skipop rfl rfl rfl ?_
         refine w_skipop rfl rfl rfl ?_
         refine w_skipop rfl rfl rfl ?_
         refine w_skipop rfl rfl rfl ?_
         refine w_skipop rfl rfl rfl ?_
         refine w_pure (want_yes rfl rfl rfl) (y_pickF (v := _) rfl rfl rfl rfl) rfl ?_
         refine w_pure want_none (y_pickF (v := .bool _) rfl rfl rfl rfl) rfl ?_
         refine w_nil ?_
         refine q_then (hK62 _ _ ?_)
         refine w_condF rfl rfl ?_
         refine w_skip ?_
         refine q_then (hK60 _ _ ?_)
         refine w_seq (fun K116 hK115 => ?_)
         refine w_region ?_
         refine w_pure want_none (y_loadN (vs := [_, _, _]) Try.isAgg154 Try.sizeOf154 hs rfl rfl (ats_own (i := 2) (vs := [_, _, _]) rfl rfl)) rfl ?_
         refine w_alloc (cs := [_, _, _]) want_none Try.zeroValue154 rfl hs (fun b117 w118 hs119 => ?_)
         refine w_store (i := 0) (v := .agg #[.int _ _, .int _ _, .int _ _]) (vs := [_, _, _]) want_none Try.sizeOf154 rfl rfl rfl rfl rfl (by simp [Value.oneCell']) hs119 rfl (Nat.le_of_ble_eq_true rfl) (fun w120 hs121 => ?_)
         refine w_nil ?_
         refine q_then (hK115 _ _ ?_)
         refine w_seq (fun K123 hK122 => ?_)
         have hmi := mul_in (s := s) (show z < 2 by omega) hs1
         refine w_region ?_
         refine w_pure want_none (y_fieldAddr (o := 2) (i := 2) Try.underlying154 rfl Try.sizeOf3 rfl rfl rfl) rfl ?_
         refine w_pure want_none (y_load1 Try.isAgg3 hs121 rfl rfl (ats_own (i := 0) (vs := [_]) rfl rfl)) rfl ?_
         refine w_pure want_none (y_move (v := .int _ _) rfl rfl) rfl ?_
         refine w_pure want_none (y_sub rfl rfl rfl rfl (by omega) (by omega)) rfl ?_
         refine w_pure want_none (y_mul rfl rfl rfl rfl (by omega) (by omega)) rfl ?_
         refine w_pure want_none (y_fieldAddr (o := 2) (i := 2) Try.underlying154 rfl Try.sizeOf3 rfl rfl rfl) rfl ?_
         refine w_store (i := 0) (v := .int _ _) (vs := [_]) want_none Try.sizeOf3 rfl rfl rfl rfl rfl (by simp [Value.oneCell']) hs121 rfl (Nat.le_of_ble_eq_true rfl) (fun w124 hs125 => ?_)
         refine w_nil ?_
         refine q_then (hK122 _ _ ?_)
         refine w_seq (fun K127 hK126 => ?_)
         refine w_region ?_
         refine w_pure want_none (y_fieldAddr (o := 0) (i := 0) Try.underlying31 rfl Try.sizeOf3 rfl rfl rfl) rfl ?_
         refine w_pure want_none (y_load1 Try.isAgg3 hs125 rfl rfl (ats_own (i := 1) (vs := [_]) rfl rfl)) rfl ?_
         refine w_pure want_none (y_fieldAddr (o := 1) (i := 1) Try.underlying76 rfl Try.sizeOf3 rfl rfl rfl) rfl ?_
         refine w_pure want_none (y_load1 Try.isAgg3 hs125 rfl rfl (ats_own (i := 2) (vs := [_]) rfl rfl)) rfl ?_
         refine w_pure want_none (y_sub rfl rfl rfl rfl (by omega) (by omega)) rfl ?_
         refine w_pure want_none (y_max2 rfl rfl rfl rfl) rfl ?_
         refine w_pure want_none (y_assign (v := .int _ _) rfl rfl) rfl ?_
         refine w_nil ?_
         refine q_then (hK126 _ _ ?_)
         refine w_block ?_
         refine w_loop [7, 12, 13, 14, 85, 86, 87, 88, 89, 90, 91, 92, 93, 94, 95, 96, 97, 98, 99, 100, 101, 102, 103, 104, 105, 106, 107, 108, 109, 110, 111, 112, 113, 114, 115, 116, 117, 118, 119] [7, 12] (fun kk vs w => ∃ (q : Nat) (v : Value) (B : List (Nat × Obj)), vs = [v, .int .i64 ((max 0 ((hourOf b a).lo - (ctrOf b c).skip)) + q)] ∧ q ≤ ((hourOf b a).hi + (ctrOf b c).twice + 1 - (max 0 ((hourOf b a).lo - (ctrOf b c).skip))).toNat ∧ kk = ((hourOf b a).hi + (ctrOf b c).twice + 1 - (max 0 ((hourOf b a).lo - (ctrOf b c).skip))).toNat - q ∧ Rt.Own v 140 3 ((wTo (ctrOf b c) (hourOf b a) a s z) ++ wPart (ctrOf b c) a s (decide (z = 1)) (max 0 ((hourOf b a).lo - (ctrOf b c).skip)) q).length (wrows ((wTo (ctrOf b c) (hourOf b a) a s z) ++ wPart (ctrOf b c) a s (decide (z = 1)) (max 0 ((hourOf b a).lo - (ctrOf b c).skip)) q)).flatten B ∧ St w0 w ((b117, blk 154 [.int .i64 (c : Int), .int .i64 (a : Int), .int .i64 (s * (1 - (z : Int)))]) :: (b9, blk 31 [.int .i64 (hourOf b a).lo, .int .i64 (hourOf b a).hi]) :: (b8, blk 76 ((ctrOf b c).cells (p.pc c))) :: (b3, blk 154 [.int .i64 (c : Int), .int .i64 (a : Int), .int .i64 s]) :: (mm, .map (ents (fun l : List Int => ia l) es).toArray ck) :: (B ++ F))) (((hourOf b a).hi + (ctrOf b c).twice + 1 - (max 0 ((hourOf b a).lo - (ctrOf b c).skip))).toNat) ?_ ?_
         ·
          exact ⟨0, v, B, vi (by omega), by omega, by omega, by rw [show wPart (ctrOf b c) a s (decide (z = 1)) (max 0 ((hourOf b a).lo - (ctrOf b c).skip)) 0 = [] from rfl, List.append_nil]; exact hown, hs125⟩
         ·
          intro k vs μ w130 hI K129 hN128
          obtain ⟨q, v, B, rfl, hqa, rfl, hown2, hs⟩ := hI
          have hpl := wPart_len (ctrOf b c) a s (max 0 ((hourOf b a).lo - (ctrOf b c).skip)) (decide (z = 1)) q
          have hpa : ((wTo (ctrOf b c) (hourOf b a) a s z) ++ wPart (ctrOf b c) a s (decide (z = 1)) (max 0 ((hourOf b a).lo - (ctrOf b c).skip)) q).length = (wTo (ctrOf b c) (hourOf b a) a s z).length + (wPart (ctrOf b c) a s (decide (z = 1)) (max 0 ((hourOf b a).lo - (ctrOf b c).skip)) q).length := List.length_append
          refine w_seq (fun K132 hK131 => ?_)
          refine w_seq (fun K134 hK133 => ?_)
          refine w_region ?_
          refine w_pure want_none (y_move (v := .int _ _) rfl rfl) rfl ?_
          refine w_pure want_none (y_fieldAddr (o := 1) (i := 1) Try.underlying31 rfl Try.sizeOf3 rfl rfl rfl) rfl ?_
          refine w_pure want_none (y_load1 Try.isAgg3 hs rfl rfl (ats_own (i := 1) (vs := [_]) rfl rfl)) rfl ?_
          refine w_pure want_none (y_fieldAddr (o := 2) (i := 2) Try.underlying76 rfl Try.sizeOf3 rfl rfl rfl) rfl ?_
          refine w_pure want_none (y_load1 Try.isAgg3 hs rfl rfl (ats_own (i := 2) (vs := [_]) rfl rfl)) rfl ?_
          refine w_pure want_none (y_add rfl rfl rfl rfl (by omega) (by omega)) rfl ?_
          refine w_pure want_none (y_leq rfl rfl rfl rfl) rfl ?_
          refine w_nil ?_
          refine q_then (hK133 _ _ ?_)
          refine w_cond rfl rfl (fun h135 => ?_) (fun h135 => ?_)
          ·
           try simp only [Bool.not_eq_true', Bool.not_eq_false', decide_eq_true_eq, decide_eq_false_iff_not, Int.not_lt, Int.not_le] at h135
           refine w_skip ?_
           refine q_then (hK131 _ _ ?_)
           refine w_seq (fun K137 hK136 => ?_)
           refine w_block ?_
           refine w_seq (fun K139 hK138 => ?_)
           refine w_region ?_
           refine w_pure want_none (y_fieldAddr (o := 2) (i := 2) Try.underlying154 rfl Try.sizeOf3 rfl rfl rfl) rfl ?_
           refine w_pure want_none (y_load1 Try.isAgg3 hs rfl rfl (ats_own (i := 0) (vs := [_]) rfl rfl)) rfl ?_
           refine w_pure want_none (y_move (v := .int _ _) rfl rfl) rfl ?_
           refine w_pure want_none (y_add rfl rfl rfl rfl (by omega) (by omega)) rfl ?_
           refine w_pure want_none (y_rem rfl rfl rfl rfl (by omega) (by omega)) rfl ?_
           refine w_pure want_none (y_assign (v := .int _ _) rfl rfl) rfl ?_
           refine w_nil ?_
           refine q_then (hK138 _ _ ?_)
           refine w_seq (fun K141 hK140 => ?_)
           refine w_region ?_
           refine w_pure want_none (y_fieldAddr (o := 5) (i := 5) Try.underlying76 rfl Try.sizeOf39 rfl rfl rfl) rfl ?_
           refine w_pure want_none (yd_slice hbv (y_load1 Try.isAgg39 hs rfl rfl (ats_own (i := 2) (vs := [_]) rfl rfl))) rfl ?_
           refine w_pure want_none (y_fieldAddr (o := 1) (i := 1) Try.underlying154 rfl Try.sizeOf3 rfl rfl rfl) rfl ?_
           refine w_pure want_none (y_load1 Try.isAgg3 hs rfl rfl (ats_own (i := 3) (vs := [_]) rfl rfl)) rfl ?_
           refine w_pure want_none (y_indexS Try.underlying39 Try.sizeOf3 rfl rfl rfl rfl (i := a) rfl has) rfl ?_
           refine w_pure want_none (y_load1 Try.isAgg3 hs.tail.tail.tail.tail.tail.drop rfl rfl hxv) rfl ?_
           refine w_pure want_none (y_assign (v := .int _ _) rfl rfl) rfl ?_
           refine w_nil ?_
           refine q_then (hK140 _ _ ?_)
           refine w_seq (fun K143 hK142 => ?_)
           rw [sh_mul (by omega)]
           refine w_region ?_
           refine w_pure want_none (y_move (v := .int _ _) rfl rfl) rfl ?_
           refine w_pure want_none (y_eql rfl rfl rfl rfl) rfl ?_
           refine w_pure want_none (y_move (v := .bool _) rfl rfl) rfl ?_
           refine w_split (fun h144 => ?_) (fun h144 => ?_)
           ·
            try simp only [Bool.not_eq_true', Bool.not_eq_false', decide_eq_true_eq, decide_eq_false_iff_not, Int.not_lt, Int.not_le] at h144
            refine w_skipop rfl rfl rfl ?_
            refine w_skipop rfl rfl rfl ?_
            refine w_skipop rfl rfl rfl ?_
            refine w_pure want_none (y_pickT (v := _) rfl rfl rfl rfl) rfl ?_
            refine w_nil ?_
            refine q_then (hK142 _ _ ?_)
            refine w_condT rfl rfl ?_
            refine w_region ?_
            refine w_pure want_none (y_move (v := v) rfl rfl) rfl ?_
            refine w_pure want_none (y_move (v := .int _ _) rfl rfl) rfl ?_
            refine w_pure want_none (y_move (v := .int _ _) rfl rfl) rfl ?_
            refine w_pure want_none (y_move (v := .int _ _) rfl rfl) rfl ?_
            refine w_pure want_none (y_eql rfl rfl rfl rfl) rfl ?_
            refine w_pure want_none (y_build (ps := [(0, _), (1, _), (2, _)]) (pv := [(0, .int _ _), (1, .int _ _), (2, .bool _)]) rfl rfl (fun w => Try_E_fb1 _ _ _ w)) rfl ?_
            refine w_bslice (ps := [(0, _)]) (pv := [(0, .agg #[.int _ _, .int _ _, .bool _])]) (cs := [_, _, _]) want_none rfl rfl (fun w => Try_E_fb2 _ _ _ w) hs (fun b145 w146 hs147 => ?_)
            refine w_append (X := (_ :: _ :: _ :: _ :: _ :: _ :: [])) (B := B) (rows := [[_, _, _]]) (sz := 3) (bytes := 24) want_none Try.underlying152 Try_info140 rfl rfl rfl rfl rfl rfl rfl rfl rfl hs147 hown2 (sl_own (i := 0) rfl (by simp) rfl) rfl (by simp) (by simp [Value.oneCell']) (by simp only [maxLen]; omega) (by omega) (fun v148 w149 B150 ho151 hs152 => ?_)
            replace hs152 := (show St _ _ (_ :: _ :: _ :: _ :: _ :: _ :: B150 ++ (F)) from hs152)
            refine w_pure want_none (y_assign (v := v148) rfl rfl) rfl ?_
            refine w_nil ?_
            refine q_blk_normal ?_
            refine q_then (hK136 _ _ ?_)
            refine w_region ?_
            refine w_pure want_none (y_move (v := .int _ _) rfl rfl) rfl ?_
            refine w_pure want_none (y_add rfl rfl rfl rfl (by omega) (by omega)) rfl ?_
            refine w_pure want_none (y_assign (v := .int _ _) rfl rfl) rfl ?_
            refine w_nil ?_
            refine q_then (hN128 _ _ (Nx.intro (((hourOf b a).hi + (ctrOf b c).twice + 1 - (max 0 ((hourOf b a).lo - (ctrOf b c).skip))).toNat - (q + 1)) (by omega) (by repeat (first | exact agree_mix | refine agree_upd rfl ?_ | refine agree_updL rfl ?_ _ | refine agree_mixin rfl ?_)) ?_))
            exact ⟨q + 1, _, _, vi (by omega), by omega, rfl, by rw [wPart_y (by rw [hgs]; omega), ← List.append_assoc]; exact own_way (by have h9 := ho151; rw [hzb] at h9; exact h9), hs152.tail⟩
           ·
            try simp only [Bool.not_eq_true', Bool.not_eq_false', decide_eq_true_eq, decide_eq_false_iff_not, Int.not_lt, Int.not_le] at h144
            refine w_pure (want_yes rfl rfl rfl) (y_move (v := .int _ _) rfl rfl) rfl ?_
            refine w_pure (want_yes rfl rfl rfl) (y_move (v := .int _ _) rfl rfl) rfl ?_
            refine w_pure (want_yes rfl rfl rfl) (y_eql rfl rfl rfl rfl) rfl ?_
            refine w_pure want_none (y_pickF (v := .bool _) rfl rfl rfl rfl) rfl ?_
            refine w_nil ?_
            refine q_then (hK142 _ _ ?_)
            refine w_cond rfl rfl (fun h153 => ?_) (fun h153 => ?_)
            ·
             try simp only [Bool.not_eq_true', Bool.not_eq_false', decide_eq_true_eq, decide_eq_false_iff_not, Int.not_lt, Int.not_le] at h153
             refine w_region ?_
             refine w_pure want_none (y_move (v := v) rfl rfl) rfl ?_
             refine w_pure want_none (y_move (v := .int _ _) rfl rfl) rfl ?_
             refine w_pure want_none (y_move (v := .int _ _) rfl rfl) rfl ?_
             refine w_pure want_none (y_move (v := .int _ _) rfl rfl) rfl ?_
             refine w_pure want_none (y_eql rfl rfl rfl rfl) rfl ?_
             refine w_pure want_none (y_build (ps := [(0, _), (1, _), (2, _)]) (pv := [(0, .int _ _), (1, .int _ _), (2, .bool _)]) rfl rfl (fun w => Try_E_fb1 _ _ _ w)) rfl ?_
             refine w_bslice (ps := [(0, _)]) (pv := [(0, .agg #[.int _ _, .int _ _, .bool _])]) (cs := [_, _, _]) want_none rfl rfl (fun w => Try_E_fb2 _ _ _ w) hs (fun b154 w155 hs156 => ?_)
             refine w_append (X := (_ :: _ :: _ :: _ :: _ :: _ :: [])) (B := B) (rows := [[_, _, _]]) (sz := 3) (bytes := 24) want_none Try.underlying152 Try_info140 rfl rfl rfl rfl rfl rfl rfl rfl rfl hs156 hown2 (sl_own (i := 0) rfl (by simp) rfl) rfl (by simp) (by simp [Value.oneCell']) (by simp only [maxLen]; omega) (by omega) (fun v157 w158 B159 ho160 hs161 => ?_)
             replace hs161 := (show St _ _ (_ :: _ :: _ :: _ :: _ :: _ :: B159 ++ (F)) from hs161)
             refine w_pure want_none (y_assign (v := v157) rfl rfl) rfl ?_
             refine w_nil ?_
             refine q_blk_normal ?_
             refine q_then (hK136 _ _ ?_)
             refine w_region ?_
             refine w_pure want_none (y_move (v := .int _ _) rfl rfl) rfl ?_
             refine w_pure want_none (y_add rfl rfl rfl rfl (by omega) (by omega)) rfl ?_
             refine w_pure want_none (y_assign (v := .int _ _) rfl rfl) rfl ?_
             refine w_nil ?_
             refine q_then (hN128 _ _ (Nx.intro (((hourOf b a).hi + (ctrOf b c).twice + 1 - (max 0 ((hourOf b a).lo - (ctrOf b c).skip))).toNat - (q + 1)) (by omega) (by repeat (first | exact agree_mix | refine agree_upd rfl ?_ | refine agree_updL rfl ?_ _ | refine agree_mixin rfl ?_)) ?_))
             exact ⟨q + 1, _, _, vi (by omega), by omega, rfl, by rw [wPart_y (by rw [hgs]; omega), ← List.append_assoc]; exact own_way (by have h9 := ho160; rw [hzb] at h9; exact h9), hs161.tail⟩
            ·
             try simp only [Bool.not_eq_true', Bool.not_eq_false', decide_eq_true_eq, decide_eq_false_iff_not, Int.not_lt, Int.not_le] at h153
             refine w_skip ?_
             refine q_blk_normal ?_
             refine q_then (hK136 _ _ ?_)
             refine w_region ?_
             refine w_pure want_none (y_move (v := .int _ _) rfl rfl) rfl ?_
             refine w_pure want_none (y_add rfl rfl rfl rfl (by omega) (by omega)) rfl ?_
             refine w_pure want_none (y_assign (v := .int _ _) rfl rfl) rfl ?_
             refine w_nil ?_
             refine q_then (hN128 _ _ (Nx.intro (((hourOf b a).hi + (ctrOf b c).twice + 1 - (max 0 ((hourOf b a).lo - (ctrOf b c).skip))).toNat - (q + 1)) (by omega) (by repeat (first | exact agree_mix | refine agree_upd rfl ?_ | refine agree_updL rfl ?_ _ | refine agree_mixin rfl ?_)) ?_))
             exact ⟨q + 1, v, B, vi (by omega), by omega, rfl, by rw [wPart_n (by rw [hgs]; omega)]; exact hown2, hs⟩
          ·
           try simp only [Bool.not_eq_true', Bool.not_eq_false', decide_eq_true_eq, decide_eq_false_iff_not, Int.not_lt, Int.not_le] at h135
           refine w_exit ?_
           refine q_then_exit ?_
           refine q_then_exit ?_
           refine q_blk_this ?_
           refine q_blk_normal ?_
           refine q_then (hK56 _ _ ?_)
           refine w_region ?_
           refine w_pure want_none (y_add rfl rfl rfl rfl (by omega) (by omega)) rfl ?_
           refine w_pure want_none (y_move (v := .int _ _) rfl rfl) rfl ?_
           refine w_nil ?_
           refine q_then (hN48 _ _ (Nx.intro (2 - (z + 1)) (by omega) (by repeat (first | exact agree_mix | refine agree_upd rfl ?_ | refine agree_updL rfl ?_ _ | refine agree_mixin rfl ?_)) ?_))
           first
             | exact ⟨z + 1, v, B, rfl, by omega, rfl, by rw [wTo_no (canZ_n (by omega) (by omega))]; exact hown, hs⟩
             | exact ⟨z + 1, v, B, rfl, by omega, rfl, by rw [wPart_all (canZ_y (by omega) (by omega)) (q := q) (by omega)]; exact hown2, hs.tail⟩
      ·
       try simp only [Bool.not_eq_true', Bool.not_eq_false', decide_eq_true_eq, decide_eq_false_iff_not, Int.not_lt, Int.not_le] at h64
       refine w_skipop rfl rfl rfl ?_
       refine w_skipop rfl rfl rfl ?_
       refine w_skipop rfl rfl rfl ?_
       refine w_skipop rfl rfl rfl ?_
       refine w_skipop rfl rfl rfl ?_
       refine w_skipop rfl rfl rfl ?_
       refine w_skipop rfl rfl rfl ?_
       refine w_pure want_none (y_pickF (v := _) rfl rfl rfl rfl) rfl ?_
       refine w_pure want_none (y_move (v := .bool _) rfl rfl) rfl ?_
       refine w_pure (want_yes rfl rfl rfl) (y_move (v := .int _ _) rfl rfl) rfl ?_
       refine w_pure (want_yes rfl rfl rfl) (y_eql rfl rfl rfl rfl) rfl ?_
       refine w_pure (want_yes rfl rfl rfl) (y_move (v := .bool _) rfl rfl) rfl ?_
       refine w_split (fun h162 => ?_) (fun h162 => ?_)
       ·
        try simp only [Bool.not_eq_true', Bool.not_eq_false', decide_eq_true_eq, decide_eq_false_iff_not, Int.not_lt, Int.not_le] at h162
        refine w_pure (want_yes rfl rfl rfl) (y_fieldAddr (o := 4) (i := 4) Try.underlying76 rfl Try.sizeOf39 rfl rfl rfl) rfl ?_
        refine w_pure (want_yes rfl rfl rfl) (yd_slice hbz (y_load1 Try.isAgg39 hs rfl rfl (ats_own (i := 1) (vs := [_]) rfl rfl))) rfl ?_
        refine w_pure (want_yes rfl rfl rfl) (y_fieldAddr (o := 1) (i := 1) Try.underlying154 rfl Try.sizeOf3 rfl rfl rfl) rfl ?_
        refine w_pure (want_yes rfl rfl rfl) (y_load1 Try.isAgg3 hs rfl rfl (ats_own (i := 2) (vs := [_]) rfl rfl)) rfl ?_
        refine w_pure (want_yes rfl rfl rfl) (y_indexS Try.underlying39 Try.sizeOf3 rfl rfl rfl rfl (i := a) rfl haz) rfl ?_
        refine w_pure (want_yes rfl rfl rfl) (y_load1 Try.isAgg3 hs.tail.tail.tail.tail.drop rfl rfl hxz) rfl ?_
        refine w_pure (want_yes rfl rfl rfl) (y_eql rfl rfl rfl rfl) rfl ?_
        refine w_pure (want_yes rfl rfl rfl) (y_pickT (v := .bool _) rfl rfl rfl rfl) rfl ?_
        refine w_pure want_none (y_pickF (v := .bool _) rfl rfl rfl rfl) rfl ?_
        refine w_nil ?_
        refine q_then (hK62 _ _ ?_)
        refine w_cond rfl rfl (fun h163 => ?_) (fun h163 => ?_)
        ·
         try simp only [Bool.not_eq_true', Bool.not_eq_false', decide_eq_true_eq, decide_eq_false_iff_not, Int.not_lt, Int.not_le] at h163
         refine w_exit ?_
         refine q_then_exit ?_
         refine q_blk_this ?_
         refine q_then (hK56 _ _ ?_)
         refine w_region ?_
         refine w_pure want_none (y_add rfl rfl rfl rfl (by omega) (by omega)) rfl ?_
         refine w_pure want_none (y_move (v := .int _ _) rfl rfl) rfl ?_
         refine w_nil ?_
         refine q_then (hN48 _ _ (Nx.intro (2 - (z + 1)) (by omega) (by repeat (first | exact agree_mix | refine agree_upd rfl ?_ | refine agree_updL rfl ?_ _ | refine agree_mixin rfl ?_)) ?_))
         first
           | exact ⟨z + 1, v, B, rfl, by omega, rfl, by rw [wTo_no (canZ_n (by omega) (by omega))]; exact hown, hs⟩
           | exact ⟨z + 1, v, B, rfl, by omega, rfl, by rw [wPart_all (canZ_y (by omega) (by omega)) (q := q) (by omega)]; exact hown2, hs.tail⟩
        ·
         try simp only [Bool.not_eq_true', Bool.not_eq_false', decide_eq_true_eq, decide_eq_false_iff_not, Int.not_lt, Int.not_le] at h163
         refine w_skip ?_
         refine q_then (hK60 _ _ ?_)
         refine w_seq (fun K165 hK164 => ?_)
         refine w_region ?_
         refine w_pure want_none (y_loadN (vs := [_, _, _]) Try.isAgg154 Try.sizeOf154 hs rfl rfl (ats_own (i := 2) (vs := [_, _, _]) rfl rfl)) rfl ?_
         refine w_alloc (cs := [_, _, _]) want_none Try.zeroValue154 rfl hs (fun b166 w167 hs168 => ?_)
         refine w_store (i := 0) (v := .agg #[.int _ _, .int _ _, .int _ _]) (vs := [_, _, _]) want_none Try.sizeOf154 rfl rfl rfl rfl rfl (by simp [Value.oneCell']) hs168 rfl (Nat.le_of_ble_eq_true rfl) (fun w169 hs170 => ?_)
         refine w_nil ?_
         refine q_then (hK164 _ _ ?_)
         refine w_seq (fun K172 hK171 => ?_)
         have hmi := mul_in (s := s) (show z < 2 by omega) hs1
         refine w_region ?_
         refine w_pure want_none (y_fieldAddr (o := 2) (i := 2) Try.underlying154 rfl Try.sizeOf3 rfl rfl rfl) rfl ?_
         refine w_pure want_none (y_load1 Try.isAgg3 hs170 rfl rfl (ats_own (i := 0) (vs := [_]) rfl rfl)) rfl ?_
         refine w_pure want_none (y_move (v := .int _ _) rfl rfl) rfl ?_
         refine w_pure want_none (y_sub rfl rfl rfl rfl (by omega) (by omega)) rfl ?_
         refine w_pure want_none (y_mul rfl rfl rfl rfl (by omega) (by omega)) rfl ?_
         refine w_pure want_none (y_fieldAddr (o := 2) (i := 2) Try.underlying154 rfl Try.sizeOf3 rfl rfl rfl) rfl ?_
         refine w_store (i := 0) (v := .int _ _) (vs := [_]) want_none Try.sizeOf3 rfl rfl rfl rfl rfl (by simp [Value.oneCell']) hs170 rfl (Nat.le_of_ble_eq_true rfl) (fun w173 hs174 => ?_)
         refine w_nil ?_
         refine q_then (hK171 _ _ ?_)
         refine w_seq (fun K176 hK175 => ?_)
         refine w_region ?_
         refine w_pure want_none (y_fieldAddr (o := 0) (i := 0) Try.underlying31 rfl Try.sizeOf3 rfl rfl rfl) rfl ?_
         refine w_pure want_none (y_load1 Try.isAgg3 hs174 rfl rfl (ats_own (i := 1) (vs := [_]) rfl rfl)) rfl ?_
         refine w_pure want_none (y_fieldAddr (o := 1) (i := 1) Try.underlying76 rfl Try.sizeOf3 rfl rfl rfl) rfl ?_
         refine w_pure want_none (y_load1 Try.isAgg3 hs174 rfl rfl (ats_own (i := 2) (vs := [_]) rfl rfl)) rfl ?_
         refine w_pure want_none (y_sub rfl rfl rfl rfl (by omega) (by omega)) rfl ?_
         refine w_pure want_none (y_max2 rfl rfl rfl rfl) rfl ?_
         refine w_pure want_none (y_assign (v := .int _ _) rfl rfl) rfl ?_
         refine w_nil ?_
         refine q_then (hK175 _ _ ?_)
         refine w_block ?_
         refine w_loop [7, 12, 13, 14, 85, 86, 87, 88, 89, 90, 91, 92, 93, 94, 95, 96, 97, 98, 99, 100, 101, 102, 103, 104, 105, 106, 107, 108, 109, 110, 111, 112, 113, 114, 115, 116, 117, 118, 119] [7, 12] (fun kk vs w => ∃ (q : Nat) (v : Value) (B : List (Nat × Obj)), vs = [v, .int .i64 ((max 0 ((hourOf b a).lo - (ctrOf b c).skip)) + q)] ∧ q ≤ ((hourOf b a).hi + (ctrOf b c).twice + 1 - (max 0 ((hourOf b a).lo - (ctrOf b c).skip))).toNat ∧ kk = ((hourOf b a).hi + (ctrOf b c).twice + 1 - (max 0 ((hourOf b a).lo - (ctrOf b c).skip))).toNat - q ∧ Rt.Own v 140 3 ((wTo (ctrOf b c) (hourOf b a) a s z) ++ wPart (ctrOf b c) a s (decide (z = 1)) (max 0 ((hourOf b a).lo - (ctrOf b c).skip)) q).length (wrows ((wTo (ctrOf b c) (hourOf b a) a s z) ++ wPart (ctrOf b c) a s (decide (z = 1)) (max 0 ((hourOf b a).lo - (ctrOf b c).skip)) q)).flatten B ∧ St w0 w ((b166, blk 154 [.int .i64 (c : Int), .int .i64 (a : Int), .int .i64 (s * (1 - (z : Int)))]) :: (b9, blk 31 [.int .i64 (hourOf b a).lo, .int .i64 (hourOf b a).hi]) :: (b8, blk 76 ((ctrOf b c).cells (p.pc c))) :: (b3, blk 154 [.int .i64 (c : Int), .int .i64 (a : Int), .int .i64 s]) :: (mm, .map (ents (fun l : List Int => ia l) es).toArray ck) :: (B ++ F))) (((hourOf b a).hi + (ctrOf b c).twice + 1 - (max 0 ((hourOf b a).lo - (ctrOf b c).skip))).toNat) ?_ ?_
         ·
          exact ⟨0, v, B, vi (by omega), by omega, by omega, by rw [show wPart (ctrOf b c) a s (decide (z = 1)) (max 0 ((hourOf b a).lo - (ctrOf b c).skip)) 0 = [] from rfl, List.append_nil]; exact hown, hs174⟩
         ·
          intro k vs μ w179 hI K178 hN177
          obtain ⟨q, v, B, rfl, hqa, rfl, hown2, hs⟩ := hI
          have hpl := wPart_len (ctrOf b c) a s (max 0 ((hourOf b a).lo - (ctrOf b c).skip)) (decide (z = 1)) q
          have hpa : ((wTo (ctrOf b c) (hourOf b a) a s z) ++ wPart (ctrOf b c) a s (decide (z = 1)) (max 0 ((hourOf b a).lo - (ctrOf b c).skip)) q).length = (wTo (ctrOf b c) (hourOf b a) a s z).length + (wPart (ctrOf b c) a s (decide (z = 1)) (max 0 ((hourOf b a).lo - (ctrOf b c).skip)) q).length := List.length_append
          refine w_seq (fun K181 hK180 => ?_)
          refine w_seq (fun K183 hK182 => ?_)
          refine w_region ?_
          refine w_pure want_none (y_move (v := .int _ _) rfl rfl) rfl ?_
          refine w_pure want_none (y_fieldAddr (o := 1) (i := 1) Try.underlying31 rfl Try.sizeOf3 rfl rfl rfl) rfl ?_
          refine w_pure want_none (y_load1 Try.isAgg3 hs rfl rfl (ats_own (i := 1) (vs := [_]) rfl rfl)) rfl ?_
          refine w_pure want_none (y_fieldAddr (o := 2) (i := 2) Try.underlying76 rfl Try.sizeOf3 rfl rfl rfl) rfl ?_
          refine w_pure want_none (y_load1 Try.isAgg3 hs rfl rfl (ats_own (i := 2) (vs := [_]) rfl rfl)) rfl ?_
          refine w_pure want_none (y_add rfl rfl rfl rfl (by omega) (by omega)) rfl ?_
          refine w_pure want_none (y_leq rfl rfl rfl rfl) rfl ?_
          refine w_nil ?_
          refine q_then (hK182 _ _ ?_)
          refine w_cond rfl rfl (fun h184 => ?_) (fun h184 => ?_)
          ·
           try simp only [Bool.not_eq_true', Bool.not_eq_false', decide_eq_true_eq, decide_eq_false_iff_not, Int.not_lt, Int.not_le] at h184
           refine w_skip ?_
           refine q_then (hK180 _ _ ?_)
           refine w_seq (fun K186 hK185 => ?_)
           refine w_block ?_
           refine w_seq (fun K188 hK187 => ?_)
           refine w_region ?_
           refine w_pure want_none (y_fieldAddr (o := 2) (i := 2) Try.underlying154 rfl Try.sizeOf3 rfl rfl rfl) rfl ?_
           refine w_pure want_none (y_load1 Try.isAgg3 hs rfl rfl (ats_own (i := 0) (vs := [_]) rfl rfl)) rfl ?_
           refine w_pure want_none (y_move (v := .int _ _) rfl rfl) rfl ?_
           refine w_pure want_none (y_add rfl rfl rfl rfl (by omega) (by omega)) rfl ?_
           refine w_pure want_none (y_rem rfl rfl rfl rfl (by omega) (by omega)) rfl ?_
           refine w_pure want_none (y_assign (v := .int _ _) rfl rfl) rfl ?_
           refine w_nil ?_
           refine q_then (hK187 _ _ ?_)
           refine w_seq (fun K190 hK189 => ?_)
           refine w_region ?_
           refine w_pure want_none (y_fieldAddr (o := 5) (i := 5) Try.underlying76 rfl Try.sizeOf39 rfl rfl rfl) rfl ?_
           refine w_pure want_none (yd_slice hbv (y_load1 Try.isAgg39 hs rfl rfl (ats_own (i := 2) (vs := [_]) rfl rfl))) rfl ?_
           refine w_pure want_none (y_fieldAddr (o := 1) (i := 1) Try.underlying154 rfl Try.sizeOf3 rfl rfl rfl) rfl ?_
           refine w_pure want_none (y_load1 Try.isAgg3 hs rfl rfl (ats_own (i := 3) (vs := [_]) rfl rfl)) rfl ?_
           refine w_pure want_none (y_indexS Try.underlying39 Try.sizeOf3 rfl rfl rfl rfl (i := a) rfl has) rfl ?_
           refine w_pure want_none (y_load1 Try.isAgg3 hs.tail.tail.tail.tail.tail.drop rfl rfl hxv) rfl ?_
           refine w_pure want_none (y_assign (v := .int _ _) rfl rfl) rfl ?_
           refine w_nil ?_
           refine q_then (hK189 _ _ ?_)
           refine w_seq (fun K192 hK191 => ?_)
           rw [sh_mul (by omega)]
           refine w_region ?_
           refine w_pure want_none (y_move (v := .int _ _) rfl rfl) rfl ?_
           refine w_pure want_none (y_eql rfl rfl rfl rfl) rfl ?_
           refine w_pure want_none (y_move (v := .bool _) rfl rfl) rfl ?_
           refine w_split (fun h193 => ?_) (fun h193 => ?_)
           ·
            try simp only [Bool.not_eq_true', Bool.not_eq_false', decide_eq_true_eq, decide_eq_false_iff_not, Int.not_lt, Int.not_le] at h193
            refine w_skipop rfl rfl rfl ?_
            refine w_skipop rfl rfl rfl ?_
            refine w_skipop rfl rfl rfl ?_
            refine w_pure want_none (y_pickT (v := _) rfl rfl rfl rfl) rfl ?_
            refine w_nil ?_
            refine q_then (hK191 _ _ ?_)
            refine w_condT rfl rfl ?_
            refine w_region ?_
            refine w_pure want_none (y_move (v := v) rfl rfl) rfl ?_
            refine w_pure want_none (y_move (v := .int _ _) rfl rfl) rfl ?_
            refine w_pure want_none (y_move (v := .int _ _) rfl rfl) rfl ?_
            refine w_pure want_none (y_move (v := .int _ _) rfl rfl) rfl ?_
            refine w_pure want_none (y_eql rfl rfl rfl rfl) rfl ?_
            refine w_pure want_none (y_build (ps := [(0, _), (1, _), (2, _)]) (pv := [(0, .int _ _), (1, .int _ _), (2, .bool _)]) rfl rfl (fun w => Try_E_fb1 _ _ _ w)) rfl ?_
            refine w_bslice (ps := [(0, _)]) (pv := [(0, .agg #[.int _ _, .int _ _, .bool _])]) (cs := [_, _, _]) want_none rfl rfl (fun w => Try_E_fb2 _ _ _ w) hs (fun b194 w195 hs196 => ?_)
            refine w_append (X := (_ :: _ :: _ :: _ :: _ :: _ :: [])) (B := B) (rows := [[_, _, _]]) (sz := 3) (bytes := 24) want_none Try.underlying152 Try_info140 rfl rfl rfl rfl rfl rfl rfl rfl rfl hs196 hown2 (sl_own (i := 0) rfl (by simp) rfl) rfl (by simp) (by simp [Value.oneCell']) (by simp only [maxLen]; omega) (by omega) (fun v197 w198 B199 ho200 hs201 => ?_)
            replace hs201 := (show St _ _ (_ :: _ :: _ :: _ :: _ :: _ :: B199 ++ (F)) from hs201)
            refine w_pure want_none (y_assign (v := v197) rfl rfl) rfl ?_
            refine w_nil ?_
            refine q_blk_normal ?_
            refine q_then (hK185 _ _ ?_)
            refine w_region ?_
            refine w_pure want_none (y_move (v := .int _ _) rfl rfl) rfl ?_
            refine w_pure want_none (y_add rfl rfl rfl rfl (by omega) (by omega)) rfl ?_
            refine w_pure want_none (y_assign (v := .int _ _) rfl rfl) rfl ?_
            refine w_nil ?_
            refine q_then (hN177 _ _ (Nx.intro (((hourOf b a).hi + (ctrOf b c).twice + 1 - (max 0 ((hourOf b a).lo - (ctrOf b c).skip))).toNat - (q + 1)) (by omega) (by repeat (first | exact agree_mix | refine agree_upd rfl ?_ | refine agree_updL rfl ?_ _ | refine agree_mixin rfl ?_)) ?_))
            exact ⟨q + 1, _, _, vi (by omega), by omega, rfl, by rw [wPart_y (by rw [hgs]; omega), ← List.append_assoc]; exact own_way (by have h9 := ho200; rw [hzb] at h9; exact h9), hs201.tail⟩
           ·
            try simp only [Bool.not_eq_true', Bool.not_eq_false', decide_eq_true_eq, decide_eq_false_iff_not, Int.not_lt, Int.not_le] at h193
            refine w_pure (want_yes rfl rfl rfl) (y_move (v := .int _ _) rfl rfl) rfl ?_
            refine w_pure (want_yes rfl rfl rfl) (y_move (v := .int _ _) rfl rfl) rfl ?_
            refine w_pure (want_yes rfl rfl rfl) (y_eql rfl rfl rfl rfl) rfl ?_
            refine w_pure want_none (y_pickF (v := .bool _) rfl rfl rfl rfl) rfl ?_
            refine w_nil ?_
            refine q_then (hK191 _ _ ?_)
            refine w_cond rfl rfl (fun h202 => ?_) (fun h202 => ?_)
            ·
             try simp only [Bool.not_eq_true', Bool.not_eq_false', decide_eq_true_eq, decide_eq_false_iff_not, Int.not_lt, Int.not_le] at h202
             refine w_region ?_
             refine w_pure want_none (y_move (v := v) rfl rfl) rfl ?_
             refine w_pure want_none (y_move (v := .int _ _) rfl rfl) rfl ?_
             refine w_pure want_none (y_move (v := .int _ _) rfl rfl) rfl ?_
             refine w_pure want_none (y_move (v := .int _ _) rfl rfl) rfl ?_
             refine w_pure want_none (y_eql rfl rfl rfl rfl) rfl ?_
             refine w_pure want_none (y_build (ps := [(0, _), (1, _), (2, _)]) (pv := [(0, .int _ _), (1, .int _ _), (2, .bool _)]) rfl rfl (fun w => Try_E_fb1 _ _ _ w)) rfl ?_
             refine w_bslice (ps := [(0, _)]) (pv := [(0, .agg #[.int _ _, .int _ _, .bool _])]) (cs := [_, _, _]) want_none rfl rfl (fun w => Try_E_fb2 _ _ _ w) hs (fun b203 w204 hs205 => ?_)
             refine w_append (X := (_ :: _ :: _ :: _ :: _ :: _ :: [])) (B := B) (rows := [[_, _, _]]) (sz := 3) (bytes := 24) want_none Try.underlying152 Try_info140 rfl rfl rfl rfl rfl rfl rfl rfl rfl hs205 hown2 (sl_own (i := 0) rfl (by simp) rfl) rfl (by simp) (by simp [Value.oneCell']) (by simp only [maxLen]; omega) (by omega) (fun v206 w207 B208 ho209 hs210 => ?_)
             replace hs210 := (show St _ _ (_ :: _ :: _ :: _ :: _ :: _ :: B208 ++ (F)) from hs210)
             refine w_pure want_none (y_assign (v := v206) rfl rfl) rfl ?_
             refine w_nil ?_
             refine q_blk_normal ?_
             refine q_then (hK185 _ _ ?_)
             refine w_region ?_
             refine w_pure want_none (y_move (v := .int _ _) rfl rfl) rfl ?_
             refine w_pure want_none (y_add rfl rfl rfl rfl (by omega) (by omega)) rfl ?_
             refine w_pure want_none (y_assign (v := .int _ _) rfl rfl) rfl ?_
             refine w_nil ?_
             refine q_then (hN177 _ _ (Nx.intro (((hourOf b a).hi + (ctrOf b c).twice + 1 - (max 0 ((hourOf b a).lo - (ctrOf b c).skip))).toNat - (q + 1)) (by omega) (by repeat (first | exact agree_mix | refine agree_upd rfl ?_ | refine agree_updL rfl ?_ _ | refine agree_mixin rfl ?_)) ?_))
             exact ⟨q + 1, _, _, vi (by omega), by omega, rfl, by rw [wPart_y (by rw [hgs]; omega), ← List.append_assoc]; exact own_way (by have h9 := ho209; rw [hzb] at h9; exact h9), hs210.tail⟩
            ·
             try simp only [Bool.not_eq_true', Bool.not_eq_false', decide_eq_true_eq, decide_eq_false_iff_not, Int.not_lt, Int.not_le] at h202
             refine w_skip ?_
             refine q_blk_normal ?_
             refine q_then (hK185 _ _ ?_)
             refine w_region ?_
             refine w_pure want_none (y_move (v := .int _ _) rfl rfl) rfl ?_
             refine w_pure want_none (y_add rfl rfl rfl rfl (by omega) (by omega)) rfl ?_
             refine w_pure want_none (y_assign (v := .int _ _) rfl rfl) rfl ?_
             refine w_nil ?_
             refine q_then (hN177 _ _ (Nx.intro (((hourOf b a).hi + (ctrOf b c).twice + 1 - (max 0 ((hourOf b a).lo - (ctrOf b c).skip))).toNat - (q + 1)) (by omega) (by repeat (first | exact agree_mix | refine agree_upd rfl ?_ | refine agree_updL rfl ?_ _ | refine agree_mixin rfl ?_)) ?_))
             exact ⟨q + 1, v, B, vi (by omega), by omega, rfl, by rw [wPart_n (by rw [hgs]; omega)]; exact hown2, hs⟩
          ·
           try simp only [Bool.not_eq_true', Bool.not_eq_false', decide_eq_true_eq, decide_eq_false_iff_not, Int.not_lt, Int.not_le] at h184
           refine w_exit ?_
           refine q_then_exit ?_
           refine q_then_exit ?_
           refine q_blk_this ?_
           refine q_blk_normal ?_
           refine q_then (hK56 _ _ ?_)
           refine w_region ?_
           refine w_pure want_none (y_add rfl rfl rfl rfl (by omega) (by omega)) rfl ?_
           refine w_pure want_none (y_move (v := .int _ _) rfl rfl) rfl ?_
           refine w_nil ?_
           refine q_then (hN48 _ _ (Nx.intro (2 - (z + 1)) (by omega) (by repeat (first | exact agree_mix | refine agree_upd rfl ?_ | refine agree_updL rfl ?_ _ | refine agree_mixin rfl ?_)) ?_))
           first
             | exact ⟨z + 1, v, B, rfl, by omega, rfl, by rw [wTo_no (canZ_n (by omega) (by omega))]; exact hown, hs⟩
             | exact ⟨z + 1, v, B, rfl, by omega, rfl, by rw [wPart_all (canZ_y (by omega) (by omega)) (q := q) (by omega)]; exact hown2, hs.tail⟩
       ·
        try simp only [Bool.not_eq_true', Bool.not_eq_false', decide_eq_true_eq, decide_eq_false_iff_not, Int.not_lt, Int.not_le] at h162
        refine w_skipop rfl rfl rfl ?_
        refine w_skipop rfl rfl rfl ?_
        refine w_skipop rfl rfl rfl ?_
        refine w_skipop rfl rfl rfl ?_
        refine w_skipop rfl rfl rfl ?_
        refine w_skipop rfl rfl rfl ?_
        refine w_skipop rfl rfl rfl ?_
        refine w_pure (want_yes rfl rfl rfl) (y_pickF (v := _) rfl rfl rfl rfl) rfl ?_
        refine w_pure want_none (y_pickF (v := .bool _) rfl rfl rfl rfl) rfl ?_
        refine w_nil ?_
        refine q_then (hK62 _ _ ?_)
        refine w_condF rfl rfl ?_
        refine w_skip ?_
        refine q_then (hK60 _ _ ?_)
        refine w_seq (fun K212 hK211 => ?_)
        refine w_region ?_
        refine w_pure want_none (y_loadN (vs := [_, _, _]) Try.isAgg154 Try.sizeOf154 hs rfl rfl (ats_own (i := 2) (vs := [_, _, _]) rfl rfl)) rfl ?_
        refine w_alloc (cs := [_, _, _]) want_none Try.zeroValue154 rfl hs (fun b213 w214 hs215 => ?_)
        refine w_store (i := 0) (v := .agg #[.int _ _, .int _ _, .int _ _]) (vs := [_, _, _]) want_none Try.sizeOf154 rfl rfl rfl rfl rfl (by simp [Value.oneCell']) hs215 rfl (Nat.le_of_ble_eq_true rfl) (fun w216 hs217 => ?_)
        refine w_nil ?_
        refine q_then (hK211 _ _ ?_)
        refine w_seq (fun K219 hK218 => ?_)
        have hmi := mul_in (s := s) (show z < 2 by omega) hs1
        refine w_region ?_
        refine w_pure want_none (y_fieldAddr (o := 2) (i := 2) Try.underlying154 rfl Try.sizeOf3 rfl rfl rfl) rfl ?_
        refine w_pure want_none (y_load1 Try.isAgg3 hs217 rfl rfl (ats_own (i := 0) (vs := [_]) rfl rfl)) rfl ?_
        refine w_pure want_none (y_move (v := .int _ _) rfl rfl) rfl ?_
        refine w_pure want_none (y_sub rfl rfl rfl rfl (by omega) (by omega)) rfl ?_
        refine w_pure want_none (y_mul rfl rfl rfl rfl (by omega) (by omega)) rfl ?_
        refine w_pure want_none (y_fieldAddr (o := 2) (i := 2) Try.underlying154 rfl Try.sizeOf3 rfl rfl rfl) rfl ?_
        refine w_store (i := 0) (v := .int _ _) (vs := [_]) want_none Try.sizeOf3 rfl rfl rfl rfl rfl (by simp [Value.oneCell']) hs217 rfl (Nat.le_of_ble_eq_true rfl) (fun w220 hs221 => ?_)
        refine w_nil ?_
        refine q_then (hK218 _ _ ?_)
        refine w_seq (fun K223 hK222 => ?_)
        refine w_region ?_
        refine w_pure want_none (y_fieldAddr (o := 0) (i := 0) Try.underlying31 rfl Try.sizeOf3 rfl rfl rfl) rfl ?_
        refine w_pure want_none (y_load1 Try.isAgg3 hs221 rfl rfl (ats_own (i := 1) (vs := [_]) rfl rfl)) rfl ?_
        refine w_pure want_none (y_fieldAddr (o := 1) (i := 1) Try.underlying76 rfl Try.sizeOf3 rfl rfl rfl) rfl ?_
        refine w_pure want_none (y_load1 Try.isAgg3 hs221 rfl rfl (ats_own (i := 2) (vs := [_]) rfl rfl)) rfl ?_
        refine w_pure want_none (y_sub rfl rfl rfl rfl (by omega) (by omega)) rfl ?_
        refine w_pure want_none (y_max2 rfl rfl rfl rfl) rfl ?_
        refine w_pure want_none (y_assign (v := .int _ _) rfl rfl) rfl ?_
        refine w_nil ?_
        refine q_then (hK222 _ _ ?_)
        refine w_block ?_
        refine w_loop [7, 12, 13, 14, 85, 86, 87, 88, 89, 90, 91, 92, 93, 94, 95, 96, 97, 98, 99, 100, 101, 102, 103, 104, 105, 106, 107, 108, 109, 110, 111, 112, 113, 114, 115, 116, 117, 118, 119] [7, 12] (fun kk vs w => ∃ (q : Nat) (v : Value) (B : List (Nat × Obj)), vs = [v, .int .i64 ((max 0 ((hourOf b a).lo - (ctrOf b c).skip)) + q)] ∧ q ≤ ((hourOf b a).hi + (ctrOf b c).twice + 1 - (max 0 ((hourOf b a).lo - (ctrOf b c).skip))).toNat ∧ kk = ((hourOf b a).hi + (ctrOf b c).twice + 1 - (max 0 ((hourOf b a).lo - (ctrOf b c).skip))).toNat - q ∧ Rt.Own v 140 3 ((wTo (ctrOf b c) (hourOf b a) a s z) ++ wPart (ctrOf b c) a s (decide (z = 1)) (max 0 ((hourOf b a).lo - (ctrOf b c).skip)) q).length (wrows ((wTo (ctrOf b c) (hourOf b a) a s z) ++ wPart (ctrOf b c) a s (decide (z = 1)) (max 0 ((hourOf b a).lo - (ctrOf b c).skip)) q)).flatten B ∧ St w0 w ((b213, blk 154 [.int .i64 (c : Int), .int .i64 (a : Int), .int .i64 (s * (1 - (z : Int)))]) :: (b9, blk 31 [.int .i64 (hourOf b a).lo, .int .i64 (hourOf b a).hi]) :: (b8, blk 76 ((ctrOf b c).cells (p.pc c))) :: (b3, blk 154 [.int .i64 (c : Int), .int .i64 (a : Int), .int .i64 s]) :: (mm, .map (ents (fun l : List Int => ia l) es).toArray ck) :: (B ++ F))) (((hourOf b a).hi + (ctrOf b c).twice + 1 - (max 0 ((hourOf b a).lo - (ctrOf b c).skip))).toNat) ?_ ?_
        ·
         exact ⟨0, v, B, vi (by omega), by omega, by omega, by rw [show wPart (ctrOf b c) a s (decide (z = 1)) (max 0 ((hourOf b a).lo - (ctrOf b c).skip)) 0 = [] from rfl, List.append_nil]; exact hown, hs221⟩
        ·
         intro k vs μ w226 hI K225 hN224
         obtain ⟨q, v, B, rfl, hqa, rfl, hown2, hs⟩ := hI
         have hpl := wPart_len (ctrOf b c) a s (max 0 ((hourOf b a).lo - (ctrOf b c).skip)) (decide (z = 1)) q
         have hpa : ((wTo (ctrOf b c) (hourOf b a) a s z) ++ wPart (ctrOf b c) a s (decide (z = 1)) (max 0 ((hourOf b a).lo - (ctrOf b c).skip)) q).length = (wTo (ctrOf b c) (hourOf b a) a s z).length + (wPart (ctrOf b c) a s (decide (z = 1)) (max 0 ((hourOf b a).lo - (ctrOf b c).skip)) q).length := List.length_append
         refine w_seq (fun K228 hK227 => ?_)
         refine w_seq (fun K230 hK229 => ?_)
         refine w_region ?_
         refine w_pure want_none (y_move (v := .int _ _) rfl rfl) rfl ?_
         refine w_pure want_none (y_fieldAddr (o := 1) (i := 1) Try.underlying31 rfl Try.sizeOf3 rfl rfl rfl) rfl ?_
         refine w_pure want_none (y_load1 Try.isAgg3 hs rfl rfl (ats_own (i := 1) (vs := [_]) rfl rfl)) rfl ?_
         refine w_pure want_none (y_fieldAddr (o := 2) (i := 2) Try.underlying76 rfl Try.sizeOf3 rfl rfl rfl) rfl ?_
         refine w_pure want_none (y_load1 Try.isAgg3 hs rfl rfl (ats_own (i := 2) (vs := [_]) rfl rfl)) rfl ?_
         refine w_pure want_none (y_add rfl rfl rfl rfl (by omega) (by omega)) rfl ?_
         refine w_pure want_none (y_leq rfl rfl rfl rfl) rfl ?_
         refine w_nil ?_
         refine q_then (hK229 _ _ ?_)
         refine w_cond rfl rfl (fun h231 => ?_) (fun h231 => ?_)
         ·
          try simp only [Bool.not_eq_true', Bool.not_eq_false', decide_eq_true_eq, decide_eq_false_iff_not, Int.not_lt, Int.not_le] at h231
          refine w_skip ?_
          refine q_then (hK227 _ _ ?_)
          refine w_seq (fun K233 hK232 => ?_)
          refine w_block ?_
          refine w_seq (fun K235 hK234 => ?_)
          refine w_region ?_
          refine w_pure want_none (y_fieldAddr (o := 2) (i := 2) Try.underlying154 rfl Try.sizeOf3 rfl rfl rfl) rfl ?_
          refine w_pure want_none (y_load1 Try.isAgg3 hs rfl rfl (ats_own (i := 0) (vs := [_]) rfl rfl)) rfl ?_
          refine w_pure want_none (y_move (v := .int _ _) rfl rfl) rfl ?_
          refine w_pure want_none (y_add rfl rfl rfl rfl (by omega) (by omega)) rfl ?_
          refine w_pure want_none (y_rem rfl rfl rfl rfl (by omega) (by omega)) rfl ?_
          refine w_pure want_none (y_assign (v := .int _ _) rfl rfl) rfl ?_
          refine w_nil ?_
          refine q_then (hK234 _ _ ?_)
          refine w_seq (fun K237 hK236 => ?_)
          refine w_region ?_
          refine w_pure want_none (y_fieldAddr (o := 5) (i := 5) Try.underlying76 rfl Try.sizeOf39 rfl rfl rfl) rfl ?_
          refine w_pure want_none (yd_slice hbv (y_load1 Try.isAgg39 hs rfl rfl (ats_own (i := 2) (vs := [_]) rfl rfl))) rfl ?_
          refine w_pure want_none (y_fieldAddr (o := 1) (i := 1) Try.underlying154 rfl Try.sizeOf3 rfl rfl rfl) rfl ?_
          refine w_pure want_none (y_load1 Try.isAgg3 hs rfl rfl (ats_own (i := 3) (vs := [_]) rfl rfl)) rfl ?_
          refine w_pure want_none (y_indexS Try.underlying39 Try.sizeOf3 rfl rfl rfl rfl (i := a) rfl has) rfl ?_
          refine w_pure want_none (y_load1 Try.isAgg3 hs.tail.tail.tail.tail.tail.drop rfl rfl hxv) rfl ?_
          refine w_pure want_none (y_assign (v := .int _ _) rfl rfl) rfl ?_
          refine w_nil ?_
          refine q_then (hK236 _ _ ?_)
          refine w_seq (fun K239 hK238 => ?_)
          rw [sh_mul (by omega)]
          refine w_region ?_
          refine w_pure want_none (y_move (v := .int _ _) rfl rfl) rfl ?_
          refine w_pure want_none (y_eql rfl rfl rfl rfl) rfl ?_
          refine w_pure want_none (y_move (v := .bool _) rfl rfl) rfl ?_
          refine w_split (fun h240 => ?_) (fun h240 => ?_)
          ·
           try simp only [Bool.not_eq_true', Bool.not_eq_false', decide_eq_true_eq, decide_eq_false_iff_not, Int.not_lt, Int.not_le] at h240
           refine w_skipop rfl rfl rfl ?_
           refine w_skipop rfl rfl rfl ?_
           refine w_skipop rfl rfl rfl ?_
           refine w_pure want_none (y_pickT (v := _) rfl rfl rfl rfl) rfl ?_
           refine w_nil ?_
           refine q_then (hK238 _ _ ?_)
           refine w_condT rfl rfl ?_
           refine w_region ?_
           refine w_pure want_none (y_move (v := v) rfl rfl) rfl ?_
           refine w_pure want_none (y_move (v := .int _ _) rfl rfl) rfl ?_
           refine w_pure want_none (y_move (v := .int _ _) rfl rfl) rfl ?_
           refine w_pure want_none (y_move (v := .int _ _) rfl rfl) rfl ?_
           refine w_pure want_none (y_eql rfl rfl rfl rfl) rfl ?_
           refine w_pure want_none (y_build (ps := [(0, _), (1, _), (2, _)]) (pv := [(0, .int _ _), (1, .int _ _), (2, .bool _)]) rfl rfl (fun w => Try_E_fb1 _ _ _ w)) rfl ?_
           refine w_bslice (ps := [(0, _)]) (pv := [(0, .agg #[.int _ _, .int _ _, .bool _])]) (cs := [_, _, _]) want_none rfl rfl (fun w => Try_E_fb2 _ _ _ w) hs (fun b241 w242 hs243 => ?_)
           refine w_append (X := (_ :: _ :: _ :: _ :: _ :: _ :: [])) (B := B) (rows := [[_, _, _]]) (sz := 3) (bytes := 24) want_none Try.underlying152 Try_info140 rfl rfl rfl rfl rfl rfl rfl rfl rfl hs243 hown2 (sl_own (i := 0) rfl (by simp) rfl) rfl (by simp) (by simp [Value.oneCell']) (by simp only [maxLen]; omega) (by omega) (fun v244 w245 B246 ho247 hs248 => ?_)
           replace hs248 := (show St _ _ (_ :: _ :: _ :: _ :: _ :: _ :: B246 ++ (F)) from hs248)
           refine w_pure want_none (y_assign (v := v244) rfl rfl) rfl ?_
           refine w_nil ?_
           refine q_blk_normal ?_
           refine q_then (hK232 _ _ ?_)
           refine w_region ?_
           refine w_pure want_none (y_move (v := .int _ _) rfl rfl) rfl ?_
           refine w_pure want_none (y_add rfl rfl rfl rfl (by omega) (by omega)) rfl ?_
           refine w_pure want_none (y_assign (v := .int _ _) rfl rfl) rfl ?_
           refine w_nil ?_
           refine q_then (hN224 _ _ (Nx.intro (((hourOf b a).hi + (ctrOf b c).twice + 1 - (max 0 ((hourOf b a).lo - (ctrOf b c).skip))).toNat - (q + 1)) (by omega) (by repeat (first | exact agree_mix | refine agree_upd rfl ?_ | refine agree_updL rfl ?_ _ | refine agree_mixin rfl ?_)) ?_))
           exact ⟨q + 1, _, _, vi (by omega), by omega, rfl, by rw [wPart_y (by rw [hgs]; omega), ← List.append_assoc]; exact own_way (by have h9 := ho247; rw [hzb] at h9; exact h9), hs248.tail⟩
          ·
           try simp only [Bool.not_eq_true', Bool.not_eq_false', decide_eq_true_eq, decide_eq_false_iff_not, Int.not_lt, Int.not_le] at h240
           refine w_pure (want_yes rfl rfl rfl) (y_move (v := .int _ _) rfl rfl) rfl ?_
           refine w_pure (want_yes rfl rfl rfl) (y_move (v := .int _ _) rfl rfl) rfl ?_
           refine w_pure (want_yes rfl rfl rfl) (y_eql rfl rfl rfl rfl) rfl ?_
           refine w_pure want_none (y_pickF (v := .bool _) rfl rfl rfl rfl) rfl ?_
           refine w_nil ?_
           refine q_then (hK238 _ _ ?_)
           refine w_cond rfl rfl (fun h249 => ?_) (fun h249 => ?_)
           ·
            try simp only [Bool.not_eq_true', Bool.not_eq_false', decide_eq_true_eq, decide_eq_false_iff_not, Int.not_lt, Int.not_le] at h249
            refine w_region ?_
            refine w_pure want_none (y_move (v := v) rfl rfl) rfl ?_
            refine w_pure want_none (y_move (v := .int _ _) rfl rfl) rfl ?_
            refine w_pure want_none (y_move (v := .int _ _) rfl rfl) rfl ?_
            refine w_pure want_none (y_move (v := .int _ _) rfl rfl) rfl ?_
            refine w_pure want_none (y_eql rfl rfl rfl rfl) rfl ?_
            refine w_pure want_none (y_build (ps := [(0, _), (1, _), (2, _)]) (pv := [(0, .int _ _), (1, .int _ _), (2, .bool _)]) rfl rfl (fun w => Try_E_fb1 _ _ _ w)) rfl ?_
            refine w_bslice (ps := [(0, _)]) (pv := [(0, .agg #[.int _ _, .int _ _, .bool _])]) (cs := [_, _, _]) want_none rfl rfl (fun w => Try_E_fb2 _ _ _ w) hs (fun b250 w251 hs252 => ?_)
            refine w_append (X := (_ :: _ :: _ :: _ :: _ :: _ :: [])) (B := B) (rows := [[_, _, _]]) (sz := 3) (bytes := 24) want_none Try.underlying152 Try_info140 rfl rfl rfl rfl rfl rfl rfl rfl rfl hs252 hown2 (sl_own (i := 0) rfl (by simp) rfl) rfl (by simp) (by simp [Value.oneCell']) (by simp only [maxLen]; omega) (by omega) (fun v253 w254 B255 ho256 hs257 => ?_)
            replace hs257 := (show St _ _ (_ :: _ :: _ :: _ :: _ :: _ :: B255 ++ (F)) from hs257)
            refine w_pure want_none (y_assign (v := v253) rfl rfl) rfl ?_
            refine w_nil ?_
            refine q_blk_normal ?_
            refine q_then (hK232 _ _ ?_)
            refine w_region ?_
            refine w_pure want_none (y_move (v := .int _ _) rfl rfl) rfl ?_
            refine w_pure want_none (y_add rfl rfl rfl rfl (by omega) (by omega)) rfl ?_
            refine w_pure want_none (y_assign (v := .int _ _) rfl rfl) rfl ?_
            refine w_nil ?_
            refine q_then (hN224 _ _ (Nx.intro (((hourOf b a).hi + (ctrOf b c).twice + 1 - (max 0 ((hourOf b a).lo - (ctrOf b c).skip))).toNat - (q + 1)) (by omega) (by repeat (first | exact agree_mix | refine agree_upd rfl ?_ | refine agree_updL rfl ?_ _ | refine agree_mixin rfl ?_)) ?_))
            exact ⟨q + 1, _, _, vi (by omega), by omega, rfl, by rw [wPart_y (by rw [hgs]; omega), ← List.append_assoc]; exact own_way (by have h9 := ho256; rw [hzb] at h9; exact h9), hs257.tail⟩
           ·
            try simp only [Bool.not_eq_true', Bool.not_eq_false', decide_eq_true_eq, decide_eq_false_iff_not, Int.not_lt, Int.not_le] at h249
            refine w_skip ?_
            refine q_blk_normal ?_
            refine q_then (hK232 _ _ ?_)
            refine w_region ?_
            refine w_pure want_none (y_move (v := .int _ _) rfl rfl) rfl ?_
            refine w_pure want_none (y_add rfl rfl rfl rfl (by omega) (by omega)) rfl ?_
            refine w_pure want_none (y_assign (v := .int _ _) rfl rfl) rfl ?_
            refine w_nil ?_
            refine q_then (hN224 _ _ (Nx.intro (((hourOf b a).hi + (ctrOf b c).twice + 1 - (max 0 ((hourOf b a).lo - (ctrOf b c).skip))).toNat - (q + 1)) (by omega) (by repeat (first | exact agree_mix | refine agree_upd rfl ?_ | refine agree_updL rfl ?_ _ | refine agree_mixin rfl ?_)) ?_))
            exact ⟨q + 1, v, B, vi (by omega), by omega, rfl, by rw [wPart_n (by rw [hgs]; omega)]; exact hown2, hs⟩
         ·
          try simp only [Bool.not_eq_true', Bool.not_eq_false', decide_eq_true_eq, decide_eq_false_iff_not, Int.not_lt, Int.not_le] at h231
          refine w_exit ?_
          refine q_then_exit ?_
          refine q_then_exit ?_
          refine q_blk_this ?_
          refine q_blk_normal ?_
          refine q_then (hK56 _ _ ?_)
          refine w_region ?_
          refine w_pure want_none (y_add rfl rfl rfl rfl (by omega) (by omega)) rfl ?_
          refine w_pure want_none (y_move (v := .int _ _) rfl rfl) rfl ?_
          refine w_nil ?_
          refine q_then (hN48 _ _ (Nx.intro (2 - (z + 1)) (by omega) (by repeat (first | exact agree_mix | refine agree_upd rfl ?_ | refine agree_updL rfl ?_ _ | refine agree_mixin rfl ?_)) ?_))
          first
            | exact ⟨z + 1, v, B, rfl, by omega, rfl, by rw [wTo_no (canZ_n (by omega) (by omega))]; exact hown, hs⟩
            | exact ⟨z + 1, v, B, rfl, by omega, rfl, by rw [wPart_all (canZ_y (by omega) (by omega)) (q := q) (by omega)]; exact hown2, hs.tail⟩
     ·
      try simp only [Bool.not_eq_true', Bool.not_eq_false', decide_eq_true_eq, decide_eq_false_iff_not, Int.not_lt, Int.not_le] at h55
      refine w_exit ?_
      refine q_then_exit ?_
      refine q_then_exit ?_
      refine q_blk_this ?_
      refine q_then (hK44 _ _ ?_)
      refine w_seq (fun K259 hK258 => ?_)
      refine w_draw [6] [(0, 0), (1, 0), (2, 0), (3, 1), (4, 1), (5, 0), (6, 3)] Try_mo (drawOK_of (by kernel_rfl)) hs (fun w260 hs261 => ?_)
      refine d_any rfl want_none rfl (fun _ => (y_move (v := .pointer _) rfl rfl)) ?_
      refine d_any rfl want_none rfl (fun _ => (y_nilCheck rfl rfl)) ?_
      refine d_any rfl want_none rfl (fun _ => (y_fieldAddr (o := 3) (i := 1) Try.underlying129 rfl Try.sizeOf127 rfl rfl rfl)) ?_
      refine d_take rfl want_none rfl hs261 (fun _ hq => (y_load1 Try.isAgg127 hq.tail.tail.tail.tail.drop rfl rfl (show Ats _ _ _ _ [_] from Ats.part hb 3 1))) ?_
      refine d_take rfl want_none rfl hs261 (fun _ hq => (y_loadN (vs := [_, _, _]) Try.isAgg154 Try.sizeOf154 hq rfl rfl (ats_own (i := 2) (vs := [_, _, _]) rfl rfl))) ?_
      refine d_any rfl want_none rfl (fun _ => (y_move (v := v) rfl rfl)) ?_
      refine d_late rfl ?_
      refine G_put (i := 3) (a := [(c : Int), (a : Int), s]) want_none Try.underlying127 (keyG_ia key154) rfl hes rfl rfl rfl rfl rfl rfl hs261 rfl (fun w262 hs263 => ?_)
      refine w_nil ?_
      refine qn ?_
      refine d_nil ?_
      refine q_then (hK258 _ _ ?_)
      refine w_seq (fun K265 hK264 => ?_)
      refine w_region ?_
      refine w_pure want_none (y_move (v := v) rfl rfl) rfl ?_
      refine w_pure want_none (y_assign (v := v) rfl rfl) rfl ?_
      refine w_nil ?_
      refine q_then (hK264 _ _ ?_)
      refine w_ret ?_
      refine q_ret (l := [.tmp 4]) (vs := [_]) rfl ⟨⟨rfl, show _ = (v : Value) from rfl⟩, trivial⟩ ?_
      have hz2 : z = 2 := by omega
      subst hz2
      rw [wTo_two] at hown
      obtain ⟨x, cap, rfl, hsl, _, _⟩ := own_rows0 (w0 := w0) hown (wrows_row _) (by simp [wrows]) rfl
      exact ⟨x, cap, B, rfl, hsl, hs263.tail.tail.tail⟩

theorem getA_mem {α : Type} [DecidableEq α] {a : α} {u : Value} : ∀ {l : List (α × Value × Nat)}, getA a l = some u → ∃ q ∈ l, q.1 = a ∧ q.2.1 = u
  | [], h => by simp [getA] at h
  | q :: l, h => by
    by_cases e : q.1 = a
    · simp only [getA, if_pos e] at h
      exact ⟨q, .head _, e, by simpa using h⟩
    · simp only [getA, if_neg e] at h
      obtain ⟨x, hx, h1, h2⟩ := getA_mem h
      exact ⟨x, .tail _ hx, h1, h2⟩
theorem ways_con {w0 w : World} {X M F : List (Nat × Obj)} (b : Board) (p : AtB) (bb mm : Nat) (hk : BK w0 F b p bb mm) (c a : Nat) (hc : c < b.ctrs.length) (ha : a < b.hours.length) (s : Int) (hs1 : 0 ≤ s ∧ s < 100) (hM : Memo w0 b mm M) (hs : St w0 w (X ++ (M ++ F))) :
    Con Try.prog 110 [.pointer (some ⟨bb, 0, none⟩), .agg #[.int .i64 (c : Int), .int .i64 (a : Int), .int .i64 s]] w fun v w' => ∃ (M' : List (Nat × Obj)) (x : Option Addr) (cap : Nat), v = .slice x (waysAt b c a s).length cap ∧ Sl w0 M' x 3 (wrows (waysAt b c a s)) ∧ Memo w0 b mm M' ∧ St w0 w' (X ++ (M' ++ F)) := by
  obtain ⟨es, ck, MB, rfl, hok, hlen, hes⟩ := hM
  have hs2 : St w0 w ((mm, .map (ents (fun l : List Int => ia l) es).toArray ck) :: (X ++ (MB ++ F))) := hs.perm (perm_mid X [_] (MB ++ F))
  cases hf : getA [(c : Int), (a : Int), s] es with
  | none =>
    refine (c110n b p bb mm hk.app.app c a hc ha s hs1 es ck hlen hf hs2).mono ?_
    rintro v w' ⟨x, cap, B, rfl, hsl, hs3⟩
    refine ⟨(mm, .map (ents (fun l : List Int => ia l) (putA [(c : Int), (a : Int), s] (.slice x (waysAt b c a s).length cap) ck es)).toArray (if idxA [(c : Int), (a : Int), s] es 0 = none then ck + 1 else ck)) :: (B ++ MB), x, cap, rfl, hsl.top.cons, ⟨_, _, B ++ MB, rfl, hok.put _ _, fun q hq => ?_, fun q hq => ?_⟩, ?_⟩
    · rcases mem_putA hq with ⟨h1, _⟩ | h
      · rw [h1]; rfl
      · exact hlen q h
    · rcases mem_putA hq with ⟨h1, h2⟩ | h
      · exact ⟨c, a, s, x, cap, h1, h2, hsl.top⟩
      · exact (hes q h).mono fun _ h => h.drop
    · have h4 := hs3.perm (perm_mid (_ :: B) X (MB ++ F))
      simpa only [List.append_assoc, List.cons_append] using h4
  | some u =>
    obtain ⟨q, hq, h1, h2⟩ := getA_mem hf
    obtain ⟨c', a', s', x, cap, h3, h4, h5⟩ := hes q hq
    rw [h1] at h3
    injection h3 with e1 h3
    injection h3 with e2 h3
    injection h3 with e3 _
    have e4 : c' = c := by omega
    have e5 : a' = a := by omega
    subst e4 e5 e3
    rw [h2] at h4
    refine (c110f b p bb mm hk.app.app c' a' hc ha s hs1 es ck hlen u x _ cap h4 hf hs2).mono ?_
    rintro v w' ⟨rfl, hs3⟩
    refine ⟨(mm, .map (ents (fun l : List Int => ia l) es).toArray ck) :: MB, x, cap, h4, h5.cons, ⟨es, ck, MB, rfl, hok, hlen, hes⟩, ?_⟩
    exact hs3.perm (perm_mid [_] X (MB ++ F))
end Go.Proofs
/- Walks of this seat, printed by gen.py over the engine: what each function returns, in whatever world. No conditions but those of each contract. -/
set_option linter.unusedVariables false
set_option linter.unusedSimpArgs false
set_option maxRecDepth 20000
namespace Go.Proofs
open Go.Rt Go.Rt.Ch
open Go.Rt.Ha (firstE firstE_step firstE_stop firstE_end failE nameE felt spanL upto span_mem listL fewest fewTo bit)
attribute [local irreducible] WL WC Con Yd At Ats Sl Agree DW
theorem Try_F_fb2 (x0 : Int) (x1 : Int) (x2 : Bool) (w : World) : (Instr.build 140 [(0, .int .i64 x0), (1, .int .i64 x1), (2, .bool x2)].toArray).run Try.prog w = .ok (.agg #[.int .i64 x0, .int .i64 x1, .bool x2]) w := by kernel_rfl
theorem Try_F_fb3 (x0 : Go.Fn) (a0 c0 : Array Value) (w : World) : (Instr.build 112 [(0, .func x0 a0 c0)].toArray).run Try.prog w = .ok (.agg #[.func x0 a0 c0]) w := by kernel_rfl
/-- A function that answers a question of ways. -/
def QIs (w0 : World) (F : List (Nat × Obj)) (fq : Value) (q : Quest) : Prop := ∀ (k : Nat) (load : Int) (x : Ch.Way) (X : List (Nat × Obj)) (w : World), St w0 w (X ++ F) → FCon Try.prog fq [.int .i64 (k : Int), .int .i64 load, .agg x.cells.toArray] w fun v w' => v = .bool (q k load x) ∧ St w0 w' (X ++ F)
theorem QIs.at {w0 w : World} {P X M F : List (Nat × Obj)} {fq : Value} {q : Quest} (h : QIs w0 F fq q) (k : Nat) (load : Int) (x : Ch.Way) (hs : St w0 w (P ++ (X ++ (M ++ F)))) : FCon Try.prog fq [.int .i64 (k : Int), .int .i64 load, .agg x.cells.toArray] w fun v w' => v = .bool (q k load x) ∧ St w0 w' (P ++ (X ++ (M ++ F))) :=
  (h k load x _ w (st_in hs)).mono fun _ _ h => ⟨h.1, st_out h.2⟩
theorem QIs.app {w0 : World} {B F : List (Nat × Obj)} {fq : Value} {q : Quest} (h : QIs w0 F fq q) : QIs w0 (B ++ F) fq q := fun k load x X w hs => by
  have h1 := h k load x (X ++ B) w (by rw [List.append_assoc]; exact hs)
  exact h1.mono fun _ _ h => ⟨h.1, by have h2 := h.2; rw [List.append_assoc] at h2; exact h2⟩
theorem iib140 : ∃ f0 f1 f2, IIB Try.prog 140 f0 f1 f2 := ⟨_, _, _, ⟨Try.underlying140, by kernel_rfl, by kernel_rfl, ⟨by decide, rfl, Try.underlying3⟩, ⟨by decide, rfl, Try.underlying3⟩, ⟨by decide, rfl, Try.underlying4⟩⟩⟩
theorem dec_slip {a b : Int} : (!decide (a = b)) = decide (a ≠ b) := by rw [Bool.eq_iff_iff]; simp
theorem c100 {w0 w : World} {F : List (Nat × Obj)} (k : Nat) (load : Int) (x : Ch.Way) (hs : St w0 w F) :
  Con Try.prog 100 [.int .i64 (k : Int), .int .i64 load, .agg x.cells.toArray] w fun v w' => v = .bool (slips k load x) ∧ St w0 w' F := by
  refine con_of_wc (n := 11) Try.func100 rfl rfl (Nat.le_of_ble_eq_true rfl) ?_
  refine w_seq (fun K2 hK1 => ?_)
  refine w_region ?_
  refine w_box (v := .agg #[.int _ _, .int _ _, .bool _]) (cs := [_, _, _]) want_none rfl rfl rfl hs (fun b3 w4 hs5 => ?_)
  refine w_pure want_none (y_assign (v := _) rfl rfl) rfl ?_
  refine w_nil ?_
  refine q_then (hK1 _ _ ?_)
  refine w_seq (fun K7 hK6 => ?_)
  refine w_region ?_
  refine w_pure want_none (y_fieldAddr (o := 0) (i := 0) Try.underlying140 rfl Try.sizeOf3 rfl rfl rfl) rfl ?_
  refine w_pure want_none (y_load1 Try.isAgg3 hs5 rfl rfl (ats_own (i := 0) (vs := [_]) rfl rfl)) rfl ?_
  refine w_pure want_none (y_move (v := .int _ _) rfl rfl) rfl ?_
  refine w_pure want_none (y_neq rfl rfl rfl rfl) rfl ?_
  refine w_pure want_none (y_assign (v := .bool _) rfl rfl) rfl ?_
  refine w_nil ?_
  refine q_then (hK6 _ _ ?_)
  refine w_ret ?_
  refine q_ret (l := [.tmp 6]) (vs := [_]) rfl ⟨⟨rfl, show _ = (.bool _ : Value) from rfl⟩, trivial⟩ ?_
  exact ⟨congrArg Value.bool dec_slip, hs5.tail⟩

theorem c103 {w0 w : World} {F : List (Nat × Obj)} (k a : Nat) (load : Int) (x : Ch.Way) (ba : Nat) (hb : Ats w0 F ba 0 [.int .i64 (a : Int)]) (hs : St w0 w F) :
  Con Try.prog 103 [.int .i64 (k : Int), .int .i64 load, .agg x.cells.toArray, .pointer (some ⟨ba, 0, none⟩)] w fun v w' => v = .bool (zeroed a k load x) ∧ St w0 w' F := by
  refine con_of_wc (n := 20) Try.func103 rfl rfl (Nat.le_of_ble_eq_true rfl) ?_
  obtain ⟨f0, f1, f2, hT⟩ := iib140
  refine w_seq (fun K2 hK1 => ?_)
  refine w_region ?_
  refine w_box (v := .agg #[.int _ _, .int _ _, .bool _]) (cs := [_, _, _]) want_none rfl rfl rfl hs (fun b3 w4 hs5 => ?_)
  refine w_pure want_none (y_assign (v := _) rfl rfl) rfl ?_
  refine w_nil ?_
  refine q_then (hK1 _ _ ?_)
  refine w_seq (fun K7 hK6 => ?_)
  refine w_region ?_
  refine w_pure want_none (y_move (v := .int _ _) rfl rfl) rfl ?_
  refine w_pure want_none (y_load1 Try.isAgg3 hs5.tail rfl rfl hb) rfl ?_
  refine w_pure want_none (y_eql rfl rfl rfl rfl) rfl ?_
  refine w_pure want_none (y_move (v := .bool _) rfl rfl) rfl ?_
  refine w_split (fun h8 => ?_) (fun h8 => ?_)
  ·
   try simp only [Bool.not_eq_true', Bool.not_eq_false', decide_eq_true_eq, decide_eq_false_iff_not, Int.not_lt, Int.not_le] at h8
   refine w_pure (want_yes rfl rfl rfl) (y_loadN (vs := [_, _, _]) Try.isAgg140 Try.sizeOf140 hs5 rfl rfl (ats_own (i := 0) (vs := [_, _, _]) rfl rfl)) rfl ?_
   refine w_pure (want_yes rfl rfl rfl) (y_fieldAddr (o := 0) (i := 0) Try.underlying140 rfl Try.sizeOf3 rfl rfl rfl) rfl ?_
   refine w_pure (want_yes rfl rfl rfl) (y_load1 Try.isAgg3 hs5 rfl rfl (ats_own (i := 0) (vs := [_]) rfl rfl)) rfl ?_
   refine w_pure (want_yes rfl rfl rfl) (y_fieldAddr (o := 1) (i := 1) Try.underlying140 rfl Try.sizeOf3 rfl rfl rfl) rfl ?_
   refine w_pure (want_yes rfl rfl rfl) (y_load1 Try.isAgg3 hs5 rfl rfl (ats_own (i := 0) (vs := [_]) rfl rfl)) rfl ?_
   refine w_pure (want_yes rfl rfl rfl) (y_build (ps := [(0, _), (1, _), (2, _)]) (pv := [(0, .int _ _), (1, .int _ _), (2, .bool _)]) rfl rfl (fun w => Try_F_fb2 _ _ _ w)) rfl ?_
   refine w_pure (want_yes rfl rfl rfl) (y_eqIIB hT rfl rfl rfl rfl) rfl ?_
   refine w_pure want_none (y_pickT (v := .bool _) rfl rfl rfl rfl) rfl ?_
   refine w_pure want_none (y_assign (v := .bool _) rfl rfl) rfl ?_
   refine w_nil ?_
   refine q_then (hK6 _ _ ?_)
   refine w_ret ?_
   refine q_ret (l := [.tmp 7]) (vs := [_]) rfl ⟨⟨rfl, show _ = (.bool _ : Value) from rfl⟩, trivial⟩ ?_
   first
     | (have hka : k = a := by omega
        subst hka
        exact ⟨congrArg Value.bool (by unfold zeroed; rw [Bool.eq_iff_iff]; simp), hs5.tail⟩)
     | (have hka : ¬ k = a := by omega
        exact ⟨congrArg Value.bool (by unfold zeroed; rw [Bool.eq_iff_iff]; simp [hka]), hs5.tail⟩)
  ·
   try simp only [Bool.not_eq_true', Bool.not_eq_false', decide_eq_true_eq, decide_eq_false_iff_not, Int.not_lt, Int.not_le] at h8
   refine w_skipop rfl rfl rfl ?_
   refine w_skipop rfl rfl rfl ?_
   refine w_skipop rfl rfl rfl ?_
   refine w_skipop rfl rfl rfl ?_
   refine w_skipop rfl rfl rfl ?_
   refine w_skipop rfl rfl rfl ?_
   refine w_skipop rfl rfl rfl ?_
   refine w_pure want_none (y_pickF (v := _) rfl rfl rfl rfl) rfl ?_
   refine w_pure want_none (y_assign (v := .bool _) rfl rfl) rfl ?_
   refine w_nil ?_
   refine q_then (hK6 _ _ ?_)
   refine w_ret ?_
   refine q_ret (l := [.tmp 7]) (vs := [_]) rfl ⟨⟨rfl, show _ = (.bool _ : Value) from rfl⟩, trivial⟩ ?_
   first
     | (have hka : k = a := by omega
        subst hka
        exact ⟨congrArg Value.bool (by unfold zeroed; rw [Bool.eq_iff_iff]; simp), hs5.tail⟩)
     | (have hka : ¬ k = a := by omega
        exact ⟨congrArg Value.bool (by unfold zeroed; rw [Bool.eq_iff_iff]; simp [hka]), hs5.tail⟩)

theorem c73 {w0 w : World} {F : List (Nat × Obj)}  (hs : St w0 w F) :
  Con Try.prog 73 [] w fun v w' => v = .agg #[.func (.func 100) #[] #[]] ∧ St w0 w' F := by
  refine con_of_wc (n := 2) Try.func73 rfl rfl (Nat.le_of_ble_eq_true rfl) ?_
  refine w_seq (fun K2 hK1 => ?_)
  refine w_region ?_
  refine w_alloc (cs := [_]) want_none Try.zeroValue112 rfl hs (fun b3 w4 hs5 => ?_)
  refine w_nil ?_
  refine q_then (hK1 _ _ ?_)
  refine w_seq (fun K7 hK6 => ?_)
  refine w_region ?_
  refine w_pure want_none (y_build (ps := [(0, _)]) (pv := [(0, .func _ _ _)]) rfl rfl (fun w => Try_F_fb3 _ _ _ w)) rfl ?_
  refine w_store (i := 0) (v := .agg #[.func _ _ _]) (vs := [_]) want_none Try.sizeOf112 rfl rfl rfl rfl rfl (by simp [Value.oneCell']) hs5 rfl (Nat.le_of_ble_eq_true rfl) (fun w8 hs9 => ?_)
  refine w_nil ?_
  refine q_then (hK6 _ _ ?_)
  refine w_ret ?_
  refine q_ret (l := [.cell 0 112]) (vs := [_]) rfl ⟨⟨rfl, _, rfl, run_loadVarN (vs := [_]) Try.isAgg112 Try.sizeOf112 hs9 (ats_own (i := 0) (vs := [_]) rfl rfl)⟩, trivial⟩ ?_
  exact ⟨rfl, hs9.tail⟩

theorem c77 {w0 w : World} {F : List (Nat × Obj)} (a : Nat) (hs : St w0 w F) :
  Con Try.prog 77 [.int .i64 (a : Int)] w fun v w' => ∃ ba, v = .agg #[.func (.func 103) #[] #[.pointer (some ⟨ba, 0, none⟩)]] ∧ St w0 w' ((ba, blk 3 [.int .i64 (a : Int)]) :: F) := by
  refine con_of_wc (n := 5) Try.func77 rfl rfl (Nat.le_of_ble_eq_true rfl) ?_
  refine w_seq (fun K2 hK1 => ?_)
  refine w_region ?_
  refine w_box (v := .int _ _) (cs := [_]) want_none rfl rfl rfl hs (fun b3 w4 hs5 => ?_)
  refine w_alloc (cs := [_]) want_none Try.zeroValue112 rfl hs5 (fun b6 w7 hs8 => ?_)
  refine w_nil ?_
  refine q_then (hK1 _ _ ?_)
  refine w_seq (fun K10 hK9 => ?_)
  refine w_region ?_
  refine w_pure want_none (y_makeFunc (fv := []) (cv := [_]) rfl rfl rfl rfl) rfl ?_
  refine w_pure want_none (y_build (ps := [(0, _)]) (pv := [(0, .func _ _ _)]) rfl rfl (fun w => Try_F_fb3 _ _ _ w)) rfl ?_
  refine w_store (i := 0) (v := .agg #[.func _ _ _]) (vs := [_]) want_none Try.sizeOf112 rfl rfl rfl rfl rfl (by simp [Value.oneCell']) hs8 rfl (Nat.le_of_ble_eq_true rfl) (fun w11 hs12 => ?_)
  refine w_nil ?_
  refine q_then (hK9 _ _ ?_)
  refine w_ret ?_
  refine q_ret (l := [.cell 2 112]) (vs := [_]) rfl ⟨⟨rfl, _, rfl, run_loadVarN (vs := [_]) Try.isAgg112 Try.sizeOf112 hs12 (ats_own (i := 0) (vs := [_]) rfl rfl)⟩, trivial⟩ ?_
  exact ⟨_, rfl, hs12.tail⟩

theorem qis_slips {w0 : World} {F : List (Nat × Obj)} : QIs w0 F (.func (.func 100) #[] #[]) slips := fun k load x X w hs => fcon_fn Try.call100 (c100 k load x hs)
theorem qis_zeroed {w0 : World} {F : List (Nat × Obj)} {a ba : Nat} (hb : Ats w0 F ba 0 [.int .i64 (a : Int)]) : QIs w0 F (.func (.func 103) #[] #[.pointer (some ⟨ba, 0, none⟩)]) (zeroed a) := fun k load x X w hs => fcon_fn Try.call103 (c103 k a load x ba hb.app hs)
end Go.Proofs
