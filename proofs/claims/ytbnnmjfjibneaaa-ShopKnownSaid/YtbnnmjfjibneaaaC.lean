/- Walks of this seat, printed by gen.py over the engine: what each function returns, in whatever world. No conditions but those of each contract. -/
import Derived.Test.YtbnnmjfjibneaaaB
import Derived.Test.YtbnnmjfjibneaaaSSpec1
set_option linter.unusedVariables false
set_option linter.unusedSimpArgs false
set_option maxRecDepth 20000
namespace Go.Proofs
open Go.Rt Go.Rt.Sh
attribute [local irreducible] WL WC Con Yd At Ats Sl Agree DW
theorem Try_C_fb0 (x0 : Int) (x1 : Go.Fn) (a1 c1 : Array Value) (w : World) : (Instr.build 114 [(0, .int .i64 x0), (1, .func x1 a1 c1)].toArray).run Try.prog w = .ok (.agg #[.int .i64 x0, .func x1 a1 c1]) w := by kernel_rfl
theorem Try_C_fb1 (x0 : Int) (x1 : Go.Fn) (a1 c1 : Array Value) (x2 : Int) (x3 : Go.Fn) (a3 c3 : Array Value) (w : World) : (Instr.buildSlice 116 2 [(0, .agg #[.int .i64 x0, .func x1 a1 c1]), (1, .agg #[.int .i64 x2, .func x3 a3 c3])].toArray).run Try.prog w = .ok (.slice (some ⟨w.heap.size, 0, none⟩) 2 2) (w.alloc (Go.Rt.blk 114 [.int .i64 x0, .func x1 a1 c1, .int .i64 x2, .func x3 a3 c3])) := by kernel_rfl
theorem c97 {w0 w : World} {F : List (Nat × Obj)} (a : Option Addr) (c : Nat) (l : List ByteArray) (hl : l.length ≤ 9223372036854775807) (ha : Sl w0 F a 1 (l.map fun x => [Value.string x])) (s : ByteArray) (hs : St w0 w F) :
  Con Try.prog 97 [.slice a l.length c, .string s] w fun v w' => (∃ z, v = .int .i64 z ∧ decide (0 ≤ z) = has l s) ∧ St w0 w' F := by
  refine con_of_wc (n := 19) Try.func97 rfl rfl (Nat.le_of_ble_eq_true rfl) ?_
  refine w_seq (fun K2 hK1 => ?_)
  refine w_region ?_
  refine w_pure want_none (y_assign (v := _) rfl rfl) rfl ?_
  refine w_nil ?_
  refine q_then (hK1 _ _ ?_)
  refine w_seq (fun K4 hK3 => ?_)
  refine w_seq (fun K6 hK5 => ?_)
  refine w_region ?_
  refine w_pure want_none (y_move (v := .slice _ _ _) rfl rfl) rfl ?_
  refine w_pure want_none (y_lenS Try.underlying73 rfl rfl) rfl ?_
  refine w_pure want_none (y_move (v := _) rfl rfl) rfl ?_
  refine w_nil ?_
  refine q_then (hK5 _ _ ?_)
  refine w_block ?_
  refine w_loop [4, 5, 8, 9, 10, 11, 12, 13, 14, 15, 16, 17, 18] [8] (fun k vs w => ∃ i : Nat, vs = [.int .i64 i] ∧ i ≤ l.length ∧ k = l.length - i ∧ has (l.take i) s = false ∧ St w0 w F) (l.length) ?_ ?_
  ·
    exact ⟨0, rfl, by omega, by omega, by simp [has], hs⟩
  ·
    intro k vs μ w9 hI K8 hN7
    obtain ⟨i, rfl, hia, rfl, hpre, hs⟩ := hI
    refine w_seq (fun K11 hK10 => ?_)
    refine w_region ?_
    refine w_pure want_none (y_lss rfl rfl rfl rfl) rfl ?_
    refine w_nil ?_
    refine q_then (hK10 _ _ ?_)
    refine w_seq (fun K13 hK12 => ?_)
    refine w_cond rfl rfl (fun h14 => ?_) (fun h14 => ?_)
    ·
      try simp only [Bool.not_eq_true', Bool.not_eq_false', decide_eq_true_eq, decide_eq_false_iff_not, Int.not_lt, Int.not_le] at h14
      refine w_skip ?_
      refine q_then (hK12 _ _ ?_)
      refine w_seq (fun K16 hK15 => ?_)
      refine w_block ?_
      refine w_seq (fun K18 hK17 => ?_)
      refine w_region ?_
      refine w_pure want_none (y_move (v := .int _ _) rfl rfl) rfl ?_
      refine w_pure want_none (y_assign (v := .int _ _) rfl rfl) rfl ?_
      refine w_nil ?_
      refine q_then (hK17 _ _ ?_)
      refine w_seq (fun K20 hK19 => ?_)
      have hi2 : i < l.length := by omega
      obtain ⟨ba, oa, rfl, hxa⟩ := sl_strs ha hi2
      refine w_region ?_
      refine w_pure want_none (y_move (v := .string _) rfl rfl) rfl ?_
      refine w_pure want_none (y_move (v := .slice _ _ _) rfl rfl) rfl ?_
      refine w_pure want_none (y_move (v := .int _ _) rfl rfl) rfl ?_
      refine w_pure want_none (y_indexS Try.underlying73 Try.sizeOf9 rfl rfl rfl rfl (i := _) rfl (by omega)) rfl ?_
      refine w_pure want_none (y_load1 Try.isAgg9 hs rfl rfl hxa) rfl ?_
      refine w_pure want_none (y_strEq rfl rfl rfl rfl) rfl ?_
      refine w_nil ?_
      refine q_then (hK19 _ _ ?_)
      refine w_cond rfl rfl (fun h21 => ?_) (fun h21 => ?_)
      ·
        try simp only [Bool.not_eq_true', Bool.not_eq_false', decide_eq_true_eq, decide_eq_false_iff_not, Int.not_lt, Int.not_le] at h21
        refine w_seq (fun K23 hK22 => ?_)
        refine w_region ?_
        refine w_pure want_none (y_move (v := .int _ _) rfl rfl) rfl ?_
        refine w_pure want_none (y_assign (v := .int _ _) rfl rfl) rfl ?_
        refine w_nil ?_
        refine q_then (hK22 _ _ ?_)
        refine w_ret ?_
        refine q_blk_ret ?_
        refine q_then_ret ?_
        refine q_then_ret ?_
        refine q_blk_ret ?_
        refine q_then_ret ?_
        refine q_ret (l := [.tmp 4]) (vs := [_]) rfl ⟨⟨rfl, show _ = (.int _ _ : Value) from rfl⟩, trivial⟩ ?_
        first
          | exact ⟨⟨-1, rfl, by have hil : i = l.length := (by omega); subst hil; rw [List.take_length] at hpre; rw [hpre]; rfl⟩, hs⟩
          | exact ⟨⟨(i : Int), rfl, by rw [Bool.eq_iff_iff]; simp only [decide_eq_true_eq, has, List.any_eq_true]; exact ⟨fun _ => ⟨_, List.getElem_mem hi2, (by assumption : s = l[i]).symm⟩, fun _ => by omega⟩⟩, hs⟩
      ·
        try simp only [Bool.not_eq_true', Bool.not_eq_false', decide_eq_true_eq, decide_eq_false_iff_not, Int.not_lt, Int.not_le] at h21
        refine w_skip ?_
        refine q_blk_normal ?_
        refine q_then (hK15 _ _ ?_)
        refine w_region ?_
        refine w_pure want_none (y_add rfl rfl rfl rfl (by omega) (by omega)) rfl ?_
        refine w_pure want_none (y_move (v := .int _ _) rfl rfl) rfl ?_
        refine w_nil ?_
        refine q_then (hN7 _ _ (Nx.intro (l.length - (i + 1)) (by omega) (by repeat (first | exact agree_mix | refine agree_upd rfl ?_ | refine agree_updL rfl ?_ _ | refine agree_mixin rfl ?_)) ?_))
        exact ⟨i + 1, rfl, by omega, rfl, notmem_take hpre (by omega) (fun e => (by assumption : ¬ s = l[i]) e.symm), hs⟩
    ·
      try simp only [Bool.not_eq_true', Bool.not_eq_false', decide_eq_true_eq, decide_eq_false_iff_not, Int.not_lt, Int.not_le] at h14
      refine w_exit ?_
      refine q_then_exit ?_
      refine q_then_exit ?_
      refine q_blk_this ?_
      refine q_then (hK3 _ _ ?_)
      refine w_seq (fun K25 hK24 => ?_)
      refine w_region ?_
      refine w_pure want_none (y_assign (v := _) rfl rfl) rfl ?_
      refine w_nil ?_
      refine q_then (hK24 _ _ ?_)
      refine w_ret ?_
      refine q_ret (l := [.tmp 4]) (vs := [_]) rfl ⟨⟨rfl, show _ = (.int _ _ : Value) from rfl⟩, trivial⟩ ?_
      first
        | exact ⟨⟨-1, rfl, by have hil : i = l.length := (by omega); subst hil; rw [List.take_length] at hpre; rw [hpre]; rfl⟩, hs⟩
        | exact ⟨⟨(i : Int), rfl, by rw [Bool.eq_iff_iff]; simp only [decide_eq_true_eq, has, List.any_eq_true]; exact ⟨fun _ => ⟨_, List.getElem_mem hi2, (by assumption : s = l[i]).symm⟩, fun _ => by omega⟩⟩, hs⟩

theorem c83 {w0 w : World} {F : List (Nat × Obj)} (a : Option Addr) (c : Nat) (l : List ByteArray) (hl : l.length ≤ 9223372036854775807) (ha : Sl w0 F a 1 (l.map fun x => [Value.string x])) (s : ByteArray) (hs : St w0 w F) :
  Con Try.prog 83 [.slice a l.length c, .string s] w fun v w' => v = .bool (has l s) ∧ St w0 w' F := by
  refine con_of_wc (n := 9) Try.func83 rfl rfl (Nat.le_of_ble_eq_true rfl) ?_
  refine w_seq (fun K2 hK1 => ?_)
  refine w_region ?_
  refine w_pure want_none (y_assign (v := _) rfl rfl) rfl ?_
  refine w_nil ?_
  refine q_then (hK1 _ _ ?_)
  refine w_seq (fun K4 hK3 => ?_)
  refine w_region ?_
  refine w_pure want_none (y_move (v := .slice _ _ _) rfl rfl) rfl ?_
  refine w_pure want_none (y_move (v := .string _) rfl rfl) rfl ?_
  refine w_call want_none Try.call97 rfl rfl rfl rfl (c97 _ _ _ hl ha _ hs) ?_
  rintro _ w6 ⟨⟨z, rfl, hz⟩, hs7⟩
  refine w_pure want_none (y_geq rfl rfl rfl rfl) rfl ?_
  refine w_pure want_none (y_assign (v := .bool _) rfl rfl) rfl ?_
  refine w_nil ?_
  refine q_then (hK3 _ _ ?_)
  refine w_ret ?_
  refine q_ret (l := [.tmp 4]) (vs := [_]) rfl ⟨⟨rfl, show _ = (.bool _ : Value) from rfl⟩, trivial⟩ ?_
  exact ⟨congrArg Value.bool hz, hs7⟩

theorem c80 {w0 w : World} {F : List (Nat × Obj)} (a : Option Addr) (c : Nat) (l : List ByteArray) (hl : l.length ≤ 9223372036854775807) (ha : Sl w0 F a 1 (l.map fun x => [Value.string x])) (s : ByteArray) (hls : s.size ≤ 9223372036854775807) (hs : St w0 w F) :
  Con Try.prog 80 [.string s, .slice a l.length c] w fun v w' => v = .bool (!nmOk s) ∧ St w0 w' F := by
  refine con_of_wc (n := 8) Try.func80 rfl rfl (Nat.le_of_ble_eq_true rfl) ?_
  refine w_seq (fun K2 hK1 => ?_)
  refine w_region ?_
  refine w_pure want_none (y_assign (v := _) rfl rfl) rfl ?_
  refine w_nil ?_
  refine q_then (hK1 _ _ ?_)
  refine w_seq (fun K4 hK3 => ?_)
  refine w_region ?_
  refine w_pure want_none (y_move (v := .string _) rfl rfl) rfl ?_
  refine w_call want_none Try.call81 rfl rfl rfl rfl (c81 _ (by omega) hs) ?_
  rintro _ w6 ⟨rfl, hs7⟩
  refine w_pure want_none (y_not rfl rfl) rfl ?_
  refine w_pure want_none (y_assign (v := .bool _) rfl rfl) rfl ?_
  refine w_nil ?_
  refine q_then (hK3 _ _ ?_)
  refine w_ret ?_
  refine q_ret (l := [.tmp 4]) (vs := [_]) rfl ⟨⟨rfl, show _ = (.bool _ : Value) from rfl⟩, trivial⟩ ?_
  exact ⟨rfl, hs7⟩

theorem c82 {w0 w : World} {F : List (Nat × Obj)} (a : Option Addr) (c : Nat) (l : List ByteArray) (hl : l.length ≤ 9223372036854775807) (ha : Sl w0 F a 1 (l.map fun x => [Value.string x])) (s : ByteArray) (hls : s.size ≤ 9223372036854775807) (hs : St w0 w F) :
  Con Try.prog 82 [.string s, .slice a l.length c] w fun v w' => v = .bool (has l s) ∧ St w0 w' F := by
  refine con_of_wc (n := 8) Try.func82 rfl rfl (Nat.le_of_ble_eq_true rfl) ?_
  refine w_seq (fun K2 hK1 => ?_)
  refine w_region ?_
  refine w_pure want_none (y_assign (v := _) rfl rfl) rfl ?_
  refine w_nil ?_
  refine q_then (hK1 _ _ ?_)
  refine w_seq (fun K4 hK3 => ?_)
  refine w_region ?_
  refine w_pure want_none (y_move (v := .slice _ _ _) rfl rfl) rfl ?_
  refine w_pure want_none (y_move (v := .string _) rfl rfl) rfl ?_
  refine w_call want_none Try.call83 rfl rfl rfl rfl (c83 _ _ _ hl ha _ hs) ?_
  rintro _ w6 ⟨rfl, hs7⟩
  refine w_pure want_none (y_assign (v := .bool _) rfl rfl) rfl ?_
  refine w_nil ?_
  refine q_then (hK3 _ _ ?_)
  refine w_ret ?_
  refine q_ret (l := [.tmp 4]) (vs := [_]) rfl ⟨⟨rfl, show _ = (.bool _ : Value) from rfl⟩, trivial⟩ ?_
  exact ⟨rfl, hs7⟩

def nK : Nat → Nat
  | 0 => 80
  | _ => 82
def nE : Nat → Int
  | 0 => 6
  | _ => 5
def nIs (s : ByteArray) (l : List ByteArray) : Nat → Bool
  | 0 => !nmOk s
  | _ => has l s
def nCells : List Value := [.int .i64 6, .func (.func 80) #[] #[], .int .i64 5, .func (.func 82) #[] #[]]
theorem nflaw_at {w0 : World} {L : List (Nat × Obj)} {b i j : Nat} (hi : L[i]? = some (b, blk 114 nCells)) (hj : j < 2) : Ats w0 L b (0 + j * 2) [.int .i64 (nE j), .func (.func (nK j)) #[] #[]] := by
  match j, hj with
  | 0, _ => exact ats_own hi rfl
  | 1, _ => exact ats_own hi rfl
theorem nflaw_con {w0 w : World} {F : List (Nat × Obj)} (a : Option Addr) (c : Nat) (l : List ByteArray) (hl : l.length ≤ 9223372036854775807) (ha : Sl w0 F a 1 (l.map fun x => [Value.string x])) (s : ByteArray) (hls : s.size ≤ 9223372036854775807) (j : Nat) (hj : j < 2) (hs : St w0 w F) :
    FCon Try.prog (.func (.func (nK j)) #[] #[]) [.string s, .slice a l.length c] w fun v w' => v = .bool (nIs s l j) ∧ St w0 w' F := by
  match j, hj with
  | 0, _ => exact fcon_fn Try.call80 (c80 a c l hl ha s hls hs)
  | 1, _ => exact fcon_fn Try.call82 (c82 a c l hl ha s hls hs)
theorem nE_yes {s : ByteArray} {l : List ByteArray} {j : Nat} (hj : j < 2) (h : nIs s l j = true) (hb : ∀ q < j, nIs s l q = false) : nE j = nameE l s := by
  match j, hj with
  | 0, _ => simp only [nIs, Bool.not_eq_true'] at h; simp [nameE, nE, h]
  | 1, _ =>
    have h0 := hb 0 (by omega)
    simp only [nIs, Bool.not_eq_false'] at h h0
    simp [nameE, nE, h, h0]
theorem nE_no {s : ByteArray} {l : List ByteArray} (hb : ∀ q < 2, nIs s l q = false) : 0 = nameE l s := by
  have h0 := hb 0 (by omega); have h1 := hb 1 (by omega)
  simp only [nIs, Bool.not_eq_false'] at h0 h1
  simp [nameE, h0, h1]
theorem c56 {w0 w : World} {F : List (Nat × Obj)} (a : Option Addr) (c : Nat) (l : List ByteArray) (hl : l.length ≤ 9223372036854775807) (ha : Sl w0 F a 1 (l.map fun x => [Value.string x])) (s : ByteArray) (hls : s.size ≤ 9223372036854775807) (hs : St w0 w F) :
  Con Try.prog 56 [.string s, .slice a l.length c] w fun v w' => v = .int .i64 (nameE l s) ∧ St w0 w' F := by
  refine con_of_wc (n := 23) Try.func56 rfl rfl (Nat.le_of_ble_eq_true rfl) ?_
  refine w_seq (fun K2 hK1 => ?_)
  refine w_region ?_
  refine w_pure want_none (y_assign (v := _) rfl rfl) rfl ?_
  refine w_nil ?_
  refine q_then (hK1 _ _ ?_)
  refine w_seq (fun K4 hK3 => ?_)
  refine w_seq (fun K6 hK5 => ?_)
  refine w_region ?_
  refine w_pure want_none (y_build (ps := [(0, _), (1, _)]) (pv := [(0, .int _ _), (1, .func _ _ _)]) rfl rfl (fun w => Try_C_fb0 _ _ _ _ w)) rfl ?_
  refine w_pure want_none (y_build (ps := [(0, _), (1, _)]) (pv := [(0, .int _ _), (1, .func _ _ _)]) rfl rfl (fun w => Try_C_fb0 _ _ _ _ w)) rfl ?_
  refine w_bslice (ps := [(0, _), (1, _)]) (pv := [(0, .agg #[.int _ _, .func _ _ _]), (1, .agg #[.int _ _, .func _ _ _])]) (cs := [_, _, _, _]) want_none rfl rfl (fun w => Try_C_fb1 _ _ _ _ _ _ _ _ w) hs (fun b7 w8 hs9 => ?_)
  refine w_pure want_none (y_lenS Try.underlying116 rfl rfl) rfl ?_
  refine w_pure want_none (y_move (v := _) rfl rfl) rfl ?_
  refine w_nil ?_
  refine q_then (hK5 _ _ ?_)
  refine w_block ?_
  refine w_loop [4, 6, 11, 12, 13, 14, 15, 16, 17, 18, 19, 20, 21, 22] [11] (fun k vs w => ∃ j : Nat, vs = [.int .i64 j] ∧ j ≤ 2 ∧ k = 2 - j ∧ (∀ q < j, nIs s l q = false) ∧ St w0 w ((b7, blk 114 nCells) :: F)) (2) ?_ ?_
  ·
    exact ⟨0, rfl, by omega, by omega, (fun q hq => by omega), hs9⟩
  ·
    intro k vs μ w12 hI K11 hN10
    obtain ⟨j, rfl, hja, rfl, hfl, hs⟩ := hI
    refine w_seq (fun K14 hK13 => ?_)
    refine w_region ?_
    refine w_pure want_none (y_lss rfl rfl rfl rfl) rfl ?_
    refine w_nil ?_
    refine q_then (hK13 _ _ ?_)
    refine w_seq (fun K16 hK15 => ?_)
    refine w_cond rfl rfl (fun h17 => ?_) (fun h17 => ?_)
    ·
      try simp only [Bool.not_eq_true', Bool.not_eq_false', decide_eq_true_eq, decide_eq_false_iff_not, Int.not_lt, Int.not_le] at h17
      refine w_skip ?_
      refine q_then (hK15 _ _ ?_)
      refine w_seq (fun K19 hK18 => ?_)
      refine w_block ?_
      refine w_seq (fun K21 hK20 => ?_)
      have hj2 : j < 2 := by omega
      have hxq := nflaw_at (w0 := w0) (L := (b7, blk 114 nCells) :: F) (i := 0) rfl hj2
      refine w_region ?_
      refine w_pure want_none (y_indexS Try.underlying116 Try.sizeOf114 rfl rfl rfl rfl (i := _) rfl (by omega)) rfl ?_
      refine w_pure want_none (y_loadN (vs := [_, _]) Try.isAgg114 Try.sizeOf114 hs rfl rfl hxq) rfl ?_
      refine w_alloc (cs := [_, _]) want_none Try.zeroValue114 rfl hs (fun b22 w23 hs24 => ?_)
      refine w_store (i := 0) (v := .agg #[.int _ _, .func _ _ _]) (vs := [_, _]) want_none Try.sizeOf114 rfl rfl rfl rfl rfl (by simp [Value.oneCell']) hs24 rfl (Nat.le_of_ble_eq_true rfl) (fun w25 hs26 => ?_)
      refine w_nil ?_
      refine q_then (hK20 _ _ ?_)
      refine w_seq (fun K28 hK27 => ?_)
      refine w_region ?_
      refine w_pure want_none (y_fieldAddr (o := 1) (i := 1) Try.underlying114 rfl Try.sizeOf112 rfl rfl rfl) rfl ?_
      refine w_pure want_none (y_load1 Try.isAgg112 hs26 rfl rfl (ats_own (i := 0) (vs := [_]) rfl rfl)) rfl ?_
      refine w_pure want_none (y_move (v := .string _) rfl rfl) rfl ?_
      refine w_pure want_none (y_move (v := .slice _ _ _) rfl rfl) rfl ?_
      refine w_callV want_none rfl rfl rfl rfl (nflaw_con a c l hl ha.cons.cons s hls j hj2 hs26) ?_
      rintro _ w30 ⟨rfl, hs31⟩
      refine w_nil ?_
      refine q_then (hK27 _ _ ?_)
      refine w_cond rfl rfl (fun h32 => ?_) (fun h32 => ?_)
      ·
        try simp only [Bool.not_eq_true', Bool.not_eq_false', decide_eq_true_eq, decide_eq_false_iff_not, Int.not_lt, Int.not_le] at h32
        refine w_seq (fun K34 hK33 => ?_)
        refine w_region ?_
        refine w_pure want_none (y_fieldAddr (o := 0) (i := 0) Try.underlying114 rfl Try.sizeOf27 rfl rfl rfl) rfl ?_
        refine w_pure want_none (y_load1 Try.isAgg27 hs31 rfl rfl (ats_own (i := 0) (vs := [_]) rfl rfl)) rfl ?_
        refine w_pure want_none (y_assign (v := .int _ _) rfl rfl) rfl ?_
        refine w_nil ?_
        refine q_then (hK33 _ _ ?_)
        refine w_ret ?_
        refine q_blk_ret ?_
        refine q_then_ret ?_
        refine q_then_ret ?_
        refine q_blk_ret ?_
        refine q_then_ret ?_
        refine q_ret (l := [.tmp 4]) (vs := [_]) rfl ⟨⟨rfl, show _ = (.int _ _ : Value) from rfl⟩, trivial⟩ ?_
        first
          | exact ⟨congrArg (Value.int .i64) (nE_yes hj2 (by assumption) hfl), hs31.tail.tail⟩
          | (have hj2 : j = 2 := (by omega)
             subst hj2
             exact ⟨congrArg (Value.int .i64) (nE_no hfl), hs31.tail.tail⟩)
      ·
        try simp only [Bool.not_eq_true', Bool.not_eq_false', decide_eq_true_eq, decide_eq_false_iff_not, Int.not_lt, Int.not_le] at h32
        refine w_skip ?_
        refine q_blk_normal ?_
        refine q_then (hK18 _ _ ?_)
        refine w_region ?_
        refine w_pure want_none (y_add rfl rfl rfl rfl (by omega) (by omega)) rfl ?_
        refine w_pure want_none (y_move (v := .int _ _) rfl rfl) rfl ?_
        refine w_nil ?_
        refine q_then (hN10 _ _ (Nx.intro (2 - (j + 1)) (by omega) (by repeat (first | exact agree_mix | refine agree_upd rfl ?_ | refine agree_updL rfl ?_ _ | refine agree_mixin rfl ?_)) ?_))
        exact ⟨j + 1, rfl, by omega, rfl, (fun q hq => by rcases Nat.lt_or_ge q j with h | h; exact hfl q h; have hqj : q = j := (by omega); subst hqj; assumption), hs31.tail⟩
    ·
      try simp only [Bool.not_eq_true', Bool.not_eq_false', decide_eq_true_eq, decide_eq_false_iff_not, Int.not_lt, Int.not_le] at h17
      refine w_exit ?_
      refine q_then_exit ?_
      refine q_then_exit ?_
      refine q_blk_this ?_
      refine q_then (hK3 _ _ ?_)
      refine w_seq (fun K36 hK35 => ?_)
      refine w_region ?_
      refine w_pure want_none (y_assign (v := _) rfl rfl) rfl ?_
      refine w_nil ?_
      refine q_then (hK35 _ _ ?_)
      refine w_ret ?_
      refine q_ret (l := [.tmp 4]) (vs := [_]) rfl ⟨⟨rfl, show _ = (.int _ _ : Value) from rfl⟩, trivial⟩ ?_
      first
        | exact ⟨congrArg (Value.int .i64) (nE_yes hj2 (by assumption) hfl), hs.tail⟩
        | (have hj2 : j = 2 := (by omega)
           subst hj2
           exact ⟨congrArg (Value.int .i64) (nE_no hfl), hs.tail⟩)

theorem sl_rrows {w0 : World} {F : List (Nat × Obj)} {a : Option Addr} {l : List Room} {i : Nat} (h : Sl w0 F a 5 (rrows l)) (hi : i < l.length) : ∃ b off, a = some ⟨b, off, none⟩ ∧ Ats w0 F b (off + i * 5) l[i].cells := by
  obtain ⟨b, off, ha, _, hat⟩ := h.at (i := i) (row := l[i].cells) (by simp [rrows, hi])
  exact ⟨b, off, ha, hat⟩
theorem c54 {w0 w : World} {F : List (Nat × Obj)} (a : Option Addr) (c : Nat) (l : List Room) (hl : l.length ≤ 9223372036854775807) (ha : Sl w0 F a 5 (rrows l)) (most : Int) (fv : Value) (err : List Room → Room → Int) (I : Nat → List (Nat × Obj) → Prop) (B0 : List (Nat × Obj)) (h0 : I 0 B0)
    (hp : (l.length : Int) ≤ most → ∀ (i : Nat) (hi : i < l.length) (X B : List (Nat × Obj)) (w : World), I i B → St w0 w (X ++ (B ++ F)) → FCon Try.prog fv [.int .i64 i, .agg l[i].cells.toArray] w fun v w' => v = .int .i64 (err (l.take i) l[i]) ∧ ∃ B', (err (l.take i) l[i] = 0 → I (i + 1) B') ∧ St w0 w' (X ++ (B' ++ F)))
    (hs : St w0 w (B0 ++ F)) : Con Try.prog 54 [.slice a l.length c, .int .i64 most, fv] w fun v w' => v = .tuple #[.int .i64 (failE err most l).1, .int .i64 (failE err most l).2] ∧ ∃ B', ((failE err most l).2 = 0 → I l.length B') ∧ St w0 w' (B' ++ F) := by
  refine con_of_wc (n := 31) Try.func54 rfl rfl (Nat.le_of_ble_eq_true rfl) ?_
  refine w_seq (fun K2 hK1 => ?_)
  refine w_region ?_
  refine w_pure want_none (y_assign (v := _) rfl rfl) rfl ?_
  refine w_pure want_none (y_assign (v := _) rfl rfl) rfl ?_
  refine w_nil ?_
  refine q_then (hK1 _ _ ?_)
  refine w_seq (fun K4 hK3 => ?_)
  refine w_seq (fun K6 hK5 => ?_)
  refine w_region ?_
  refine w_pure want_none (y_move (v := .slice _ _ _) rfl rfl) rfl ?_
  refine w_pure want_none (y_lenS Try.underlying22 rfl rfl) rfl ?_
  refine w_pure want_none (y_move (v := .int _ _) rfl rfl) rfl ?_
  refine w_pure want_none (y_gtr rfl rfl rfl rfl) rfl ?_
  refine w_nil ?_
  refine q_then (hK5 _ _ ?_)
  refine w_cond rfl rfl (fun h7 => ?_) (fun h7 => ?_)
  ·
    try simp only [Bool.not_eq_true', Bool.not_eq_false', decide_eq_true_eq, decide_eq_false_iff_not, Int.not_lt, Int.not_le] at h7
    refine w_seq (fun K9 hK8 => ?_)
    refine w_region ?_
    refine w_pure want_none (y_assign (v := _) rfl rfl) rfl ?_
    refine w_pure want_none (y_assign (v := _) rfl rfl) rfl ?_
    refine w_nil ?_
    refine q_then (hK8 _ _ ?_)
    refine w_ret ?_
    refine q_then_ret ?_
    refine q_ret (l := [.tmp 6, .tmp 7]) (vs := [_, _]) rfl ⟨⟨rfl, show _ = (.int _ _ : Value) from rfl⟩, ⟨rfl, show _ = (.int _ _ : Value) from rfl⟩, trivial⟩ ?_
    first
      | (have e : failE err most l = (0, 3) := by unfold failE; rw [if_pos (by omega)]
         rw [e]
         exact ⟨rfl, B0, fun h => absurd h (by decide), hs⟩)
      | (have e : failE err most l = firstE err [] 0 l := by unfold failE; rw [if_neg (by omega)]
         rw [e, hinv, firstE_stop hi2 (by assumption)]
         exact ⟨rfl, B1, fun h => absurd h (by assumption), hs.tail⟩)
      | (have e : failE err most l = firstE err [] 0 l := by unfold failE; rw [if_neg (by omega)]
         have hil : i = l.length := by omega
         rw [e, hinv, firstE_end (by omega)]
         exact ⟨rfl, B, fun _ => by rw [← hil]; exact hI, hs⟩)
  ·
    try simp only [Bool.not_eq_true', Bool.not_eq_false', decide_eq_true_eq, decide_eq_false_iff_not, Int.not_lt, Int.not_le] at h7
    refine w_skip ?_
    refine q_then (hK3 _ _ ?_)
    refine w_seq (fun K11 hK10 => ?_)
    refine w_seq (fun K13 hK12 => ?_)
    refine w_region ?_
    refine w_pure want_none (y_move (v := .slice _ _ _) rfl rfl) rfl ?_
    refine w_pure want_none (y_lenS Try.underlying22 rfl rfl) rfl ?_
    refine w_pure want_none (y_move (v := _) rfl rfl) rfl ?_
    refine w_nil ?_
    refine q_then (hK12 _ _ ?_)
    refine w_block ?_
    refine w_loop [6, 7, 8, 9, 10, 17, 18, 19, 20, 21, 22, 23, 24, 25, 26, 27, 28, 29, 30] [17] (fun k vs w => ∃ (i : Nat) (B : List (Nat × Obj)), vs = [.int .i64 i] ∧ i ≤ l.length ∧ k = l.length - i ∧ I i B ∧ firstE err [] 0 l = firstE err (l.take i) i (l.drop i) ∧ St w0 w (B ++ F)) (l.length) ?_ ?_
    ·
      exact ⟨0, B0, rfl, by omega, by omega, h0, by simp, hs⟩
    ·
      intro k vs μ w16 hI K15 hN14
      obtain ⟨i, B, rfl, hia, rfl, hI, hinv, hs⟩ := hI
      refine w_seq (fun K18 hK17 => ?_)
      refine w_region ?_
      refine w_pure want_none (y_lss rfl rfl rfl rfl) rfl ?_
      refine w_nil ?_
      refine q_then (hK17 _ _ ?_)
      refine w_seq (fun K20 hK19 => ?_)
      refine w_cond rfl rfl (fun h21 => ?_) (fun h21 => ?_)
      ·
        try simp only [Bool.not_eq_true', Bool.not_eq_false', decide_eq_true_eq, decide_eq_false_iff_not, Int.not_lt, Int.not_le] at h21
        refine w_skip ?_
        refine q_then (hK19 _ _ ?_)
        refine w_seq (fun K23 hK22 => ?_)
        refine w_block ?_
        refine w_seq (fun K25 hK24 => ?_)
        have hi2 : i < l.length := by omega
        obtain ⟨bx, ox, rfl, hx⟩ := sl_rrows ha hi2
        refine w_region ?_
        refine w_pure want_none (y_move (v := .int _ _) rfl rfl) rfl ?_
        refine w_pure want_none (y_indexS Try.underlying22 Try.sizeOf69 rfl rfl rfl rfl (i := _) rfl (by omega)) rfl ?_
        refine w_pure want_none (y_loadN (vs := [_, _, _, _, _]) Try.isAgg69 Try.sizeOf69 hs.drop rfl rfl hx) rfl ?_
        refine w_alloc (cs := [_, _, _, _, _]) want_none Try.zeroValue69 rfl hs (fun b26 w27 hs28 => ?_)
        refine w_pure want_none (y_assign (v := .int _ _) rfl rfl) rfl ?_
        refine w_store (i := 0) (v := .agg #[.string _, .int _ _, .int _ _, .int _ _, .int _ _]) (vs := [_, _, _, _, _]) want_none Try.sizeOf69 rfl rfl rfl rfl rfl (by simp [Value.oneCell']) hs28 rfl (Nat.le_of_ble_eq_true rfl) (fun w29 hs30 => ?_)
        refine w_nil ?_
        refine q_then (hK24 _ _ ?_)
        refine w_seq (fun K32 hK31 => ?_)
        refine w_region ?_
        refine w_pure want_none (y_move (v := fv) rfl rfl) rfl ?_
        refine w_pure want_none (y_move (v := .int _ _) rfl rfl) rfl ?_
        refine w_pure want_none (y_loadN (vs := [_, _, _, _, _]) Try.isAgg69 Try.sizeOf69 hs30 rfl rfl (ats_own (i := 0) (vs := [_, _, _, _, _]) rfl rfl)) rfl ?_
        refine w_callV want_none rfl rfl rfl rfl (hp (by omega) i hi2 [_] B _ hI hs30) ?_
        rintro _ w34 ⟨rfl, B1, hB1, hs35⟩
        replace hs35 := (show St _ _ (_ :: B1 ++ (F)) from hs35)
        refine w_pure want_none (y_assign (v := .int _ _) rfl rfl) rfl ?_
        refine w_nil ?_
        refine q_then (hK31 _ _ ?_)
        refine w_seq (fun K37 hK36 => ?_)
        refine w_region ?_
        refine w_pure want_none (y_move (v := .int _ _) rfl rfl) rfl ?_
        refine w_pure want_none (y_neq rfl rfl rfl rfl) rfl ?_
        refine w_nil ?_
        refine q_then (hK36 _ _ ?_)
        refine w_cond rfl rfl (fun h38 => ?_) (fun h38 => ?_)
        ·
          try simp only [Bool.not_eq_true', Bool.not_eq_false', decide_eq_true_eq, decide_eq_false_iff_not, Int.not_lt, Int.not_le] at h38
          refine w_seq (fun K40 hK39 => ?_)
          refine w_region ?_
          refine w_pure want_none (y_move (v := .int _ _) rfl rfl) rfl ?_
          refine w_pure want_none (y_move (v := .int _ _) rfl rfl) rfl ?_
          refine w_pure want_none (y_assign (v := .int _ _) rfl rfl) rfl ?_
          refine w_pure want_none (y_assign (v := .int _ _) rfl rfl) rfl ?_
          refine w_nil ?_
          refine q_then (hK39 _ _ ?_)
          refine w_ret ?_
          refine q_blk_ret ?_
          refine q_then_ret ?_
          refine q_then_ret ?_
          refine q_blk_ret ?_
          refine q_then_ret ?_
          refine q_ret (l := [.tmp 6, .tmp 7]) (vs := [_, _]) rfl ⟨⟨rfl, show _ = (.int _ _ : Value) from rfl⟩, ⟨rfl, show _ = (.int _ _ : Value) from rfl⟩, trivial⟩ ?_
          first
            | (have e : failE err most l = (0, 3) := by unfold failE; rw [if_pos (by omega)]
               rw [e]
               exact ⟨rfl, B0, fun h => absurd h (by decide), hs35⟩)
            | (have e : failE err most l = firstE err [] 0 l := by unfold failE; rw [if_neg (by omega)]
               rw [e, hinv, firstE_stop hi2 (by assumption)]
               exact ⟨rfl, B1, fun h => absurd h (by assumption), hs35.tail⟩)
            | (have e : failE err most l = firstE err [] 0 l := by unfold failE; rw [if_neg (by omega)]
               have hil : i = l.length := by omega
               rw [e, hinv, firstE_end (by omega)]
               exact ⟨rfl, B, fun _ => by rw [← hil]; exact hI, hs35⟩)
        ·
          try simp only [Bool.not_eq_true', Bool.not_eq_false', decide_eq_true_eq, decide_eq_false_iff_not, Int.not_lt, Int.not_le] at h38
          refine w_skip ?_
          refine q_blk_normal ?_
          refine q_then (hK22 _ _ ?_)
          refine w_region ?_
          refine w_pure want_none (y_add rfl rfl rfl rfl (by omega) (by omega)) rfl ?_
          refine w_pure want_none (y_move (v := .int _ _) rfl rfl) rfl ?_
          refine w_nil ?_
          refine q_then (hN14 _ _ (Nx.intro (l.length - (i + 1)) (by omega) (by repeat (first | exact agree_mix | refine agree_upd rfl ?_ | refine agree_updL rfl ?_ _ | refine agree_mixin rfl ?_)) ?_))
          exact ⟨i + 1, B1, rfl, by omega, rfl, hB1 (by assumption), hinv.trans (firstE_step hi2 (by assumption)), hs35.tail⟩
      ·
        try simp only [Bool.not_eq_true', Bool.not_eq_false', decide_eq_true_eq, decide_eq_false_iff_not, Int.not_lt, Int.not_le] at h21
        refine w_exit ?_
        refine q_then_exit ?_
        refine q_then_exit ?_
        refine q_blk_this ?_
        refine q_then (hK10 _ _ ?_)
        refine w_seq (fun K42 hK41 => ?_)
        refine w_region ?_
        refine w_pure want_none (y_assign (v := _) rfl rfl) rfl ?_
        refine w_pure want_none (y_assign (v := _) rfl rfl) rfl ?_
        refine w_nil ?_
        refine q_then (hK41 _ _ ?_)
        refine w_ret ?_
        refine q_ret (l := [.tmp 6, .tmp 7]) (vs := [_, _]) rfl ⟨⟨rfl, show _ = (.int _ _ : Value) from rfl⟩, ⟨rfl, show _ = (.int _ _ : Value) from rfl⟩, trivial⟩ ?_
        first
          | (have e : failE err most l = (0, 3) := by unfold failE; rw [if_pos (by omega)]
             rw [e]
             exact ⟨rfl, B0, fun h => absurd h (by decide), hs⟩)
          | (have e : failE err most l = firstE err [] 0 l := by unfold failE; rw [if_neg (by omega)]
             rw [e, hinv, firstE_stop hi2 (by assumption)]
             exact ⟨rfl, B1, fun h => absurd h (by assumption), hs.tail⟩)
          | (have e : failE err most l = firstE err [] 0 l := by unfold failE; rw [if_neg (by omega)]
             have hil : i = l.length := by omega
             rw [e, hinv, firstE_end (by omega)]
             exact ⟨rfl, B, fun _ => by rw [← hil]; exact hI, hs⟩)

theorem sl_srows {w0 : World} {F : List (Nat × Obj)} {a : Option Addr} {l : List Shop} {i : Nat} (h : Sl w0 F a 3 (srows l)) (hi : i < l.length) : ∃ b off, a = some ⟨b, off, none⟩ ∧ Ats w0 F b (off + i * 3) l[i].cells := by
  obtain ⟨b, off, ha, _, hat⟩ := h.at (i := i) (row := l[i].cells) (by simp [srows, hi])
  exact ⟨b, off, ha, hat⟩
theorem c58 {w0 w : World} {F : List (Nat × Obj)} (a : Option Addr) (c : Nat) (l : List Shop) (hl : l.length ≤ 9223372036854775807) (ha : Sl w0 F a 3 (srows l)) (most : Int) (fv : Value) (err : List Shop → Shop → Int) (I : Nat → List (Nat × Obj) → Prop) (B0 : List (Nat × Obj)) (h0 : I 0 B0)
    (hp : (l.length : Int) ≤ most → ∀ (i : Nat) (hi : i < l.length) (X B : List (Nat × Obj)) (w : World), I i B → St w0 w (X ++ (B ++ F)) → FCon Try.prog fv [.int .i64 i, .agg l[i].cells.toArray] w fun v w' => v = .int .i64 (err (l.take i) l[i]) ∧ ∃ B', (err (l.take i) l[i] = 0 → I (i + 1) B') ∧ St w0 w' (X ++ (B' ++ F)))
    (hs : St w0 w (B0 ++ F)) : Con Try.prog 58 [.slice a l.length c, .int .i64 most, fv] w fun v w' => v = .tuple #[.int .i64 (failE err most l).1, .int .i64 (failE err most l).2] ∧ ∃ B', ((failE err most l).2 = 0 → I l.length B') ∧ St w0 w' (B' ++ F) := by
  refine con_of_wc (n := 31) Try.func58 rfl rfl (Nat.le_of_ble_eq_true rfl) ?_
  refine w_seq (fun K2 hK1 => ?_)
  refine w_region ?_
  refine w_pure want_none (y_assign (v := _) rfl rfl) rfl ?_
  refine w_pure want_none (y_assign (v := _) rfl rfl) rfl ?_
  refine w_nil ?_
  refine q_then (hK1 _ _ ?_)
  refine w_seq (fun K4 hK3 => ?_)
  refine w_seq (fun K6 hK5 => ?_)
  refine w_region ?_
  refine w_pure want_none (y_move (v := .slice _ _ _) rfl rfl) rfl ?_
  refine w_pure want_none (y_lenS Try.underlying23 rfl rfl) rfl ?_
  refine w_pure want_none (y_move (v := .int _ _) rfl rfl) rfl ?_
  refine w_pure want_none (y_gtr rfl rfl rfl rfl) rfl ?_
  refine w_nil ?_
  refine q_then (hK5 _ _ ?_)
  refine w_cond rfl rfl (fun h7 => ?_) (fun h7 => ?_)
  ·
    try simp only [Bool.not_eq_true', Bool.not_eq_false', decide_eq_true_eq, decide_eq_false_iff_not, Int.not_lt, Int.not_le] at h7
    refine w_seq (fun K9 hK8 => ?_)
    refine w_region ?_
    refine w_pure want_none (y_assign (v := _) rfl rfl) rfl ?_
    refine w_pure want_none (y_assign (v := _) rfl rfl) rfl ?_
    refine w_nil ?_
    refine q_then (hK8 _ _ ?_)
    refine w_ret ?_
    refine q_then_ret ?_
    refine q_ret (l := [.tmp 6, .tmp 7]) (vs := [_, _]) rfl ⟨⟨rfl, show _ = (.int _ _ : Value) from rfl⟩, ⟨rfl, show _ = (.int _ _ : Value) from rfl⟩, trivial⟩ ?_
    first
      | (have e : failE err most l = (0, 3) := by unfold failE; rw [if_pos (by omega)]
         rw [e]
         exact ⟨rfl, B0, fun h => absurd h (by decide), hs⟩)
      | (have e : failE err most l = firstE err [] 0 l := by unfold failE; rw [if_neg (by omega)]
         rw [e, hinv, firstE_stop hi2 (by assumption)]
         exact ⟨rfl, B1, fun h => absurd h (by assumption), hs.tail⟩)
      | (have e : failE err most l = firstE err [] 0 l := by unfold failE; rw [if_neg (by omega)]
         have hil : i = l.length := by omega
         rw [e, hinv, firstE_end (by omega)]
         exact ⟨rfl, B, fun _ => by rw [← hil]; exact hI, hs⟩)
  ·
    try simp only [Bool.not_eq_true', Bool.not_eq_false', decide_eq_true_eq, decide_eq_false_iff_not, Int.not_lt, Int.not_le] at h7
    refine w_skip ?_
    refine q_then (hK3 _ _ ?_)
    refine w_seq (fun K11 hK10 => ?_)
    refine w_seq (fun K13 hK12 => ?_)
    refine w_region ?_
    refine w_pure want_none (y_move (v := .slice _ _ _) rfl rfl) rfl ?_
    refine w_pure want_none (y_lenS Try.underlying23 rfl rfl) rfl ?_
    refine w_pure want_none (y_move (v := _) rfl rfl) rfl ?_
    refine w_nil ?_
    refine q_then (hK12 _ _ ?_)
    refine w_block ?_
    refine w_loop [6, 7, 8, 9, 10, 17, 18, 19, 20, 21, 22, 23, 24, 25, 26, 27, 28, 29, 30] [17] (fun k vs w => ∃ (i : Nat) (B : List (Nat × Obj)), vs = [.int .i64 i] ∧ i ≤ l.length ∧ k = l.length - i ∧ I i B ∧ firstE err [] 0 l = firstE err (l.take i) i (l.drop i) ∧ St w0 w (B ++ F)) (l.length) ?_ ?_
    ·
      exact ⟨0, B0, rfl, by omega, by omega, h0, by simp, hs⟩
    ·
      intro k vs μ w16 hI K15 hN14
      obtain ⟨i, B, rfl, hia, rfl, hI, hinv, hs⟩ := hI
      refine w_seq (fun K18 hK17 => ?_)
      refine w_region ?_
      refine w_pure want_none (y_lss rfl rfl rfl rfl) rfl ?_
      refine w_nil ?_
      refine q_then (hK17 _ _ ?_)
      refine w_seq (fun K20 hK19 => ?_)
      refine w_cond rfl rfl (fun h21 => ?_) (fun h21 => ?_)
      ·
        try simp only [Bool.not_eq_true', Bool.not_eq_false', decide_eq_true_eq, decide_eq_false_iff_not, Int.not_lt, Int.not_le] at h21
        refine w_skip ?_
        refine q_then (hK19 _ _ ?_)
        refine w_seq (fun K23 hK22 => ?_)
        refine w_block ?_
        refine w_seq (fun K25 hK24 => ?_)
        have hi2 : i < l.length := by omega
        obtain ⟨bx, ox, rfl, hx⟩ := sl_srows ha hi2
        refine w_region ?_
        refine w_pure want_none (y_move (v := .int _ _) rfl rfl) rfl ?_
        refine w_pure want_none (y_indexS Try.underlying23 Try.sizeOf52 rfl rfl rfl rfl (i := _) rfl (by omega)) rfl ?_
        refine w_pure want_none (y_loadN (vs := [_, _, _]) Try.isAgg52 Try.sizeOf52 hs.drop rfl rfl hx) rfl ?_
        refine w_alloc (cs := [_, _, _]) want_none Try.zeroValue52 rfl hs (fun b26 w27 hs28 => ?_)
        refine w_pure want_none (y_assign (v := .int _ _) rfl rfl) rfl ?_
        refine w_store (i := 0) (v := .agg #[.string _, .int _ _, .int _ _]) (vs := [_, _, _]) want_none Try.sizeOf52 rfl rfl rfl rfl rfl (by simp [Value.oneCell']) hs28 rfl (Nat.le_of_ble_eq_true rfl) (fun w29 hs30 => ?_)
        refine w_nil ?_
        refine q_then (hK24 _ _ ?_)
        refine w_seq (fun K32 hK31 => ?_)
        refine w_region ?_
        refine w_pure want_none (y_move (v := fv) rfl rfl) rfl ?_
        refine w_pure want_none (y_move (v := .int _ _) rfl rfl) rfl ?_
        refine w_pure want_none (y_loadN (vs := [_, _, _]) Try.isAgg52 Try.sizeOf52 hs30 rfl rfl (ats_own (i := 0) (vs := [_, _, _]) rfl rfl)) rfl ?_
        refine w_callV want_none rfl rfl rfl rfl (hp (by omega) i hi2 [_] B _ hI hs30) ?_
        rintro _ w34 ⟨rfl, B1, hB1, hs35⟩
        replace hs35 := (show St _ _ (_ :: B1 ++ (F)) from hs35)
        refine w_pure want_none (y_assign (v := .int _ _) rfl rfl) rfl ?_
        refine w_nil ?_
        refine q_then (hK31 _ _ ?_)
        refine w_seq (fun K37 hK36 => ?_)
        refine w_region ?_
        refine w_pure want_none (y_move (v := .int _ _) rfl rfl) rfl ?_
        refine w_pure want_none (y_neq rfl rfl rfl rfl) rfl ?_
        refine w_nil ?_
        refine q_then (hK36 _ _ ?_)
        refine w_cond rfl rfl (fun h38 => ?_) (fun h38 => ?_)
        ·
          try simp only [Bool.not_eq_true', Bool.not_eq_false', decide_eq_true_eq, decide_eq_false_iff_not, Int.not_lt, Int.not_le] at h38
          refine w_seq (fun K40 hK39 => ?_)
          refine w_region ?_
          refine w_pure want_none (y_move (v := .int _ _) rfl rfl) rfl ?_
          refine w_pure want_none (y_move (v := .int _ _) rfl rfl) rfl ?_
          refine w_pure want_none (y_assign (v := .int _ _) rfl rfl) rfl ?_
          refine w_pure want_none (y_assign (v := .int _ _) rfl rfl) rfl ?_
          refine w_nil ?_
          refine q_then (hK39 _ _ ?_)
          refine w_ret ?_
          refine q_blk_ret ?_
          refine q_then_ret ?_
          refine q_then_ret ?_
          refine q_blk_ret ?_
          refine q_then_ret ?_
          refine q_ret (l := [.tmp 6, .tmp 7]) (vs := [_, _]) rfl ⟨⟨rfl, show _ = (.int _ _ : Value) from rfl⟩, ⟨rfl, show _ = (.int _ _ : Value) from rfl⟩, trivial⟩ ?_
          first
            | (have e : failE err most l = (0, 3) := by unfold failE; rw [if_pos (by omega)]
               rw [e]
               exact ⟨rfl, B0, fun h => absurd h (by decide), hs35⟩)
            | (have e : failE err most l = firstE err [] 0 l := by unfold failE; rw [if_neg (by omega)]
               rw [e, hinv, firstE_stop hi2 (by assumption)]
               exact ⟨rfl, B1, fun h => absurd h (by assumption), hs35.tail⟩)
            | (have e : failE err most l = firstE err [] 0 l := by unfold failE; rw [if_neg (by omega)]
               have hil : i = l.length := by omega
               rw [e, hinv, firstE_end (by omega)]
               exact ⟨rfl, B, fun _ => by rw [← hil]; exact hI, hs35⟩)
        ·
          try simp only [Bool.not_eq_true', Bool.not_eq_false', decide_eq_true_eq, decide_eq_false_iff_not, Int.not_lt, Int.not_le] at h38
          refine w_skip ?_
          refine q_blk_normal ?_
          refine q_then (hK22 _ _ ?_)
          refine w_region ?_
          refine w_pure want_none (y_add rfl rfl rfl rfl (by omega) (by omega)) rfl ?_
          refine w_pure want_none (y_move (v := .int _ _) rfl rfl) rfl ?_
          refine w_nil ?_
          refine q_then (hN14 _ _ (Nx.intro (l.length - (i + 1)) (by omega) (by repeat (first | exact agree_mix | refine agree_upd rfl ?_ | refine agree_updL rfl ?_ _ | refine agree_mixin rfl ?_)) ?_))
          exact ⟨i + 1, B1, rfl, by omega, rfl, hB1 (by assumption), hinv.trans (firstE_step hi2 (by assumption)), hs35.tail⟩
      ·
        try simp only [Bool.not_eq_true', Bool.not_eq_false', decide_eq_true_eq, decide_eq_false_iff_not, Int.not_lt, Int.not_le] at h21
        refine w_exit ?_
        refine q_then_exit ?_
        refine q_then_exit ?_
        refine q_blk_this ?_
        refine q_then (hK10 _ _ ?_)
        refine w_seq (fun K42 hK41 => ?_)
        refine w_region ?_
        refine w_pure want_none (y_assign (v := _) rfl rfl) rfl ?_
        refine w_pure want_none (y_assign (v := _) rfl rfl) rfl ?_
        refine w_nil ?_
        refine q_then (hK41 _ _ ?_)
        refine w_ret ?_
        refine q_ret (l := [.tmp 6, .tmp 7]) (vs := [_, _]) rfl ⟨⟨rfl, show _ = (.int _ _ : Value) from rfl⟩, ⟨rfl, show _ = (.int _ _ : Value) from rfl⟩, trivial⟩ ?_
        first
          | (have e : failE err most l = (0, 3) := by unfold failE; rw [if_pos (by omega)]
             rw [e]
             exact ⟨rfl, B0, fun h => absurd h (by decide), hs⟩)
          | (have e : failE err most l = firstE err [] 0 l := by unfold failE; rw [if_neg (by omega)]
             rw [e, hinv, firstE_stop hi2 (by assumption)]
             exact ⟨rfl, B1, fun h => absurd h (by assumption), hs.tail⟩)
          | (have e : failE err most l = firstE err [] 0 l := by unfold failE; rw [if_neg (by omega)]
             have hil : i = l.length := by omega
             rw [e, hinv, firstE_end (by omega)]
             exact ⟨rfl, B, fun _ => by rw [← hil]; exact hI, hs⟩)

theorem sl_trows {w0 : World} {F : List (Nat × Obj)} {a : Option Addr} {l : List Train} {i : Nat} (h : Sl w0 F a 4 (trows l)) (hi : i < l.length) : ∃ b off, a = some ⟨b, off, none⟩ ∧ Ats w0 F b (off + i * 4) l[i].cells := by
  obtain ⟨b, off, ha, _, hat⟩ := h.at (i := i) (row := l[i].cells) (by simp [trows, hi])
  exact ⟨b, off, ha, hat⟩
theorem c60 {w0 w : World} {F : List (Nat × Obj)} (a : Option Addr) (c : Nat) (l : List Train) (hl : l.length ≤ 9223372036854775807) (ha : Sl w0 F a 4 (trows l)) (most : Int) (fv : Value) (err : List Train → Train → Int) (I : Nat → List (Nat × Obj) → Prop) (B0 : List (Nat × Obj)) (h0 : I 0 B0)
    (hp : (l.length : Int) ≤ most → ∀ (i : Nat) (hi : i < l.length) (X B : List (Nat × Obj)) (w : World), I i B → St w0 w (X ++ (B ++ F)) → FCon Try.prog fv [.int .i64 i, .agg l[i].cells.toArray] w fun v w' => v = .int .i64 (err (l.take i) l[i]) ∧ ∃ B', (err (l.take i) l[i] = 0 → I (i + 1) B') ∧ St w0 w' (X ++ (B' ++ F)))
    (hs : St w0 w (B0 ++ F)) : Con Try.prog 60 [.slice a l.length c, .int .i64 most, fv] w fun v w' => v = .tuple #[.int .i64 (failE err most l).1, .int .i64 (failE err most l).2] ∧ ∃ B', ((failE err most l).2 = 0 → I l.length B') ∧ St w0 w' (B' ++ F) := by
  refine con_of_wc (n := 31) Try.func60 rfl rfl (Nat.le_of_ble_eq_true rfl) ?_
  refine w_seq (fun K2 hK1 => ?_)
  refine w_region ?_
  refine w_pure want_none (y_assign (v := _) rfl rfl) rfl ?_
  refine w_pure want_none (y_assign (v := _) rfl rfl) rfl ?_
  refine w_nil ?_
  refine q_then (hK1 _ _ ?_)
  refine w_seq (fun K4 hK3 => ?_)
  refine w_seq (fun K6 hK5 => ?_)
  refine w_region ?_
  refine w_pure want_none (y_move (v := .slice _ _ _) rfl rfl) rfl ?_
  refine w_pure want_none (y_lenS Try.underlying24 rfl rfl) rfl ?_
  refine w_pure want_none (y_move (v := .int _ _) rfl rfl) rfl ?_
  refine w_pure want_none (y_gtr rfl rfl rfl rfl) rfl ?_
  refine w_nil ?_
  refine q_then (hK5 _ _ ?_)
  refine w_cond rfl rfl (fun h7 => ?_) (fun h7 => ?_)
  ·
    try simp only [Bool.not_eq_true', Bool.not_eq_false', decide_eq_true_eq, decide_eq_false_iff_not, Int.not_lt, Int.not_le] at h7
    refine w_seq (fun K9 hK8 => ?_)
    refine w_region ?_
    refine w_pure want_none (y_assign (v := _) rfl rfl) rfl ?_
    refine w_pure want_none (y_assign (v := _) rfl rfl) rfl ?_
    refine w_nil ?_
    refine q_then (hK8 _ _ ?_)
    refine w_ret ?_
    refine q_then_ret ?_
    refine q_ret (l := [.tmp 6, .tmp 7]) (vs := [_, _]) rfl ⟨⟨rfl, show _ = (.int _ _ : Value) from rfl⟩, ⟨rfl, show _ = (.int _ _ : Value) from rfl⟩, trivial⟩ ?_
    first
      | (have e : failE err most l = (0, 3) := by unfold failE; rw [if_pos (by omega)]
         rw [e]
         exact ⟨rfl, B0, fun h => absurd h (by decide), hs⟩)
      | (have e : failE err most l = firstE err [] 0 l := by unfold failE; rw [if_neg (by omega)]
         rw [e, hinv, firstE_stop hi2 (by assumption)]
         exact ⟨rfl, B1, fun h => absurd h (by assumption), hs.tail⟩)
      | (have e : failE err most l = firstE err [] 0 l := by unfold failE; rw [if_neg (by omega)]
         have hil : i = l.length := by omega
         rw [e, hinv, firstE_end (by omega)]
         exact ⟨rfl, B, fun _ => by rw [← hil]; exact hI, hs⟩)
  ·
    try simp only [Bool.not_eq_true', Bool.not_eq_false', decide_eq_true_eq, decide_eq_false_iff_not, Int.not_lt, Int.not_le] at h7
    refine w_skip ?_
    refine q_then (hK3 _ _ ?_)
    refine w_seq (fun K11 hK10 => ?_)
    refine w_seq (fun K13 hK12 => ?_)
    refine w_region ?_
    refine w_pure want_none (y_move (v := .slice _ _ _) rfl rfl) rfl ?_
    refine w_pure want_none (y_lenS Try.underlying24 rfl rfl) rfl ?_
    refine w_pure want_none (y_move (v := _) rfl rfl) rfl ?_
    refine w_nil ?_
    refine q_then (hK12 _ _ ?_)
    refine w_block ?_
    refine w_loop [6, 7, 8, 9, 10, 17, 18, 19, 20, 21, 22, 23, 24, 25, 26, 27, 28, 29, 30] [17] (fun k vs w => ∃ (i : Nat) (B : List (Nat × Obj)), vs = [.int .i64 i] ∧ i ≤ l.length ∧ k = l.length - i ∧ I i B ∧ firstE err [] 0 l = firstE err (l.take i) i (l.drop i) ∧ St w0 w (B ++ F)) (l.length) ?_ ?_
    ·
      exact ⟨0, B0, rfl, by omega, by omega, h0, by simp, hs⟩
    ·
      intro k vs μ w16 hI K15 hN14
      obtain ⟨i, B, rfl, hia, rfl, hI, hinv, hs⟩ := hI
      refine w_seq (fun K18 hK17 => ?_)
      refine w_region ?_
      refine w_pure want_none (y_lss rfl rfl rfl rfl) rfl ?_
      refine w_nil ?_
      refine q_then (hK17 _ _ ?_)
      refine w_seq (fun K20 hK19 => ?_)
      refine w_cond rfl rfl (fun h21 => ?_) (fun h21 => ?_)
      ·
        try simp only [Bool.not_eq_true', Bool.not_eq_false', decide_eq_true_eq, decide_eq_false_iff_not, Int.not_lt, Int.not_le] at h21
        refine w_skip ?_
        refine q_then (hK19 _ _ ?_)
        refine w_seq (fun K23 hK22 => ?_)
        refine w_block ?_
        refine w_seq (fun K25 hK24 => ?_)
        have hi2 : i < l.length := by omega
        obtain ⟨bx, ox, rfl, hx⟩ := sl_trows ha hi2
        refine w_region ?_
        refine w_pure want_none (y_move (v := .int _ _) rfl rfl) rfl ?_
        refine w_pure want_none (y_indexS Try.underlying24 Try.sizeOf63 rfl rfl rfl rfl (i := _) rfl (by omega)) rfl ?_
        refine w_pure want_none (y_loadN (vs := [_, _, _, _]) Try.isAgg63 Try.sizeOf63 hs.drop rfl rfl hx) rfl ?_
        refine w_alloc (cs := [_, _, _, _]) want_none Try.zeroValue63 rfl hs (fun b26 w27 hs28 => ?_)
        refine w_pure want_none (y_assign (v := .int _ _) rfl rfl) rfl ?_
        refine w_store (i := 0) (v := .agg #[.int _ _, .int _ _, .int _ _, .int _ _]) (vs := [_, _, _, _]) want_none Try.sizeOf63 rfl rfl rfl rfl rfl (by simp [Value.oneCell']) hs28 rfl (Nat.le_of_ble_eq_true rfl) (fun w29 hs30 => ?_)
        refine w_nil ?_
        refine q_then (hK24 _ _ ?_)
        refine w_seq (fun K32 hK31 => ?_)
        refine w_region ?_
        refine w_pure want_none (y_move (v := fv) rfl rfl) rfl ?_
        refine w_pure want_none (y_move (v := .int _ _) rfl rfl) rfl ?_
        refine w_pure want_none (y_loadN (vs := [_, _, _, _]) Try.isAgg63 Try.sizeOf63 hs30 rfl rfl (ats_own (i := 0) (vs := [_, _, _, _]) rfl rfl)) rfl ?_
        refine w_callV want_none rfl rfl rfl rfl (hp (by omega) i hi2 [_] B _ hI hs30) ?_
        rintro _ w34 ⟨rfl, B1, hB1, hs35⟩
        replace hs35 := (show St _ _ (_ :: B1 ++ (F)) from hs35)
        refine w_pure want_none (y_assign (v := .int _ _) rfl rfl) rfl ?_
        refine w_nil ?_
        refine q_then (hK31 _ _ ?_)
        refine w_seq (fun K37 hK36 => ?_)
        refine w_region ?_
        refine w_pure want_none (y_move (v := .int _ _) rfl rfl) rfl ?_
        refine w_pure want_none (y_neq rfl rfl rfl rfl) rfl ?_
        refine w_nil ?_
        refine q_then (hK36 _ _ ?_)
        refine w_cond rfl rfl (fun h38 => ?_) (fun h38 => ?_)
        ·
          try simp only [Bool.not_eq_true', Bool.not_eq_false', decide_eq_true_eq, decide_eq_false_iff_not, Int.not_lt, Int.not_le] at h38
          refine w_seq (fun K40 hK39 => ?_)
          refine w_region ?_
          refine w_pure want_none (y_move (v := .int _ _) rfl rfl) rfl ?_
          refine w_pure want_none (y_move (v := .int _ _) rfl rfl) rfl ?_
          refine w_pure want_none (y_assign (v := .int _ _) rfl rfl) rfl ?_
          refine w_pure want_none (y_assign (v := .int _ _) rfl rfl) rfl ?_
          refine w_nil ?_
          refine q_then (hK39 _ _ ?_)
          refine w_ret ?_
          refine q_blk_ret ?_
          refine q_then_ret ?_
          refine q_then_ret ?_
          refine q_blk_ret ?_
          refine q_then_ret ?_
          refine q_ret (l := [.tmp 6, .tmp 7]) (vs := [_, _]) rfl ⟨⟨rfl, show _ = (.int _ _ : Value) from rfl⟩, ⟨rfl, show _ = (.int _ _ : Value) from rfl⟩, trivial⟩ ?_
          first
            | (have e : failE err most l = (0, 3) := by unfold failE; rw [if_pos (by omega)]
               rw [e]
               exact ⟨rfl, B0, fun h => absurd h (by decide), hs35⟩)
            | (have e : failE err most l = firstE err [] 0 l := by unfold failE; rw [if_neg (by omega)]
               rw [e, hinv, firstE_stop hi2 (by assumption)]
               exact ⟨rfl, B1, fun h => absurd h (by assumption), hs35.tail⟩)
            | (have e : failE err most l = firstE err [] 0 l := by unfold failE; rw [if_neg (by omega)]
               have hil : i = l.length := by omega
               rw [e, hinv, firstE_end (by omega)]
               exact ⟨rfl, B, fun _ => by rw [← hil]; exact hI, hs35⟩)
        ·
          try simp only [Bool.not_eq_true', Bool.not_eq_false', decide_eq_true_eq, decide_eq_false_iff_not, Int.not_lt, Int.not_le] at h38
          refine w_skip ?_
          refine q_blk_normal ?_
          refine q_then (hK22 _ _ ?_)
          refine w_region ?_
          refine w_pure want_none (y_add rfl rfl rfl rfl (by omega) (by omega)) rfl ?_
          refine w_pure want_none (y_move (v := .int _ _) rfl rfl) rfl ?_
          refine w_nil ?_
          refine q_then (hN14 _ _ (Nx.intro (l.length - (i + 1)) (by omega) (by repeat (first | exact agree_mix | refine agree_upd rfl ?_ | refine agree_updL rfl ?_ _ | refine agree_mixin rfl ?_)) ?_))
          exact ⟨i + 1, B1, rfl, by omega, rfl, hB1 (by assumption), hinv.trans (firstE_step hi2 (by assumption)), hs35.tail⟩
      ·
        try simp only [Bool.not_eq_true', Bool.not_eq_false', decide_eq_true_eq, decide_eq_false_iff_not, Int.not_lt, Int.not_le] at h21
        refine w_exit ?_
        refine q_then_exit ?_
        refine q_then_exit ?_
        refine q_blk_this ?_
        refine q_then (hK10 _ _ ?_)
        refine w_seq (fun K42 hK41 => ?_)
        refine w_region ?_
        refine w_pure want_none (y_assign (v := _) rfl rfl) rfl ?_
        refine w_pure want_none (y_assign (v := _) rfl rfl) rfl ?_
        refine w_nil ?_
        refine q_then (hK41 _ _ ?_)
        refine w_ret ?_
        refine q_ret (l := [.tmp 6, .tmp 7]) (vs := [_, _]) rfl ⟨⟨rfl, show _ = (.int _ _ : Value) from rfl⟩, ⟨rfl, show _ = (.int _ _ : Value) from rfl⟩, trivial⟩ ?_
        first
          | (have e : failE err most l = (0, 3) := by unfold failE; rw [if_pos (by omega)]
             rw [e]
             exact ⟨rfl, B0, fun h => absurd h (by decide), hs⟩)
          | (have e : failE err most l = firstE err [] 0 l := by unfold failE; rw [if_neg (by omega)]
             rw [e, hinv, firstE_stop hi2 (by assumption)]
             exact ⟨rfl, B1, fun h => absurd h (by assumption), hs.tail⟩)
          | (have e : failE err most l = firstE err [] 0 l := by unfold failE; rw [if_neg (by omega)]
             have hil : i = l.length := by omega
             rw [e, hinv, firstE_end (by omega)]
             exact ⟨rfl, B, fun _ => by rw [← hil]; exact hI, hs⟩)

end Go.Proofs
