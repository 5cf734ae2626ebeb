/- Own texts of this claim, joined. No conditions. -/
import Derived.Test.YtbnnmjfjibneaaaHShopMorea
import Derived.Test.YtbnnmjfjibneaaaHShopMoreb
import Derived.Test.YtbnnmjfjibneaaaHShopMorec
import Derived.Test.YtbnnmjfjibneaaaHShopMored
import Derived.Test.YtbnnmjfjibneaaaHShopMoree
import Derived.Test.YtbnnmjfjibneaaaHShopMoref
import Derived.Test.YtbnnmjfjibneaaaHShopMoreg
/- Walks of this seat, printed by gen.py over the engine: what each function returns, in whatever world. No conditions but those of each contract. -/
set_option linter.unusedVariables false
set_option linter.unusedSimpArgs false
set_option maxRecDepth 20000
namespace Go.Proofs
open Go.Rt Go.Rt.Sh
attribute [local irreducible] WL WC Con Yd At Ats Sl Agree DW
theorem Try_Ze_fb6 (x0 : Int) (w : World) : (Instr.buildSlice 30 1 [(0, .int .i64 x0)].toArray).run Try.prog w = .ok (.slice (some ⟨w.heap.size, 0, none⟩) 1 1) (w.alloc (Go.Rt.blk 3 [.int .i64 x0])) := by kernel_rfl
theorem Try_Ze_fb7  (w : World) : (Instr.buildSlice 30 0 [].toArray).run Try.prog w = .ok (.slice (some ⟨w.heap.size, 0, none⟩) 0 0) (w.alloc (Go.Rt.blk 3 [])) := by kernel_rfl
theorem own_set {n b cap r : Nat} {cs : List Value} {l : List Int} {z : Value} {x : Int} (hl : l.length = n) (h1 : n ≤ cap) (h2 : cap ≤ maxLen) (h3 : cs.length = cap * 1) (h5 : (cs.set r z).take (n * 1) = iv (subAt l r x)) : Rt.Own (.slice (some ⟨b, 0, none⟩) n cap) 3 1 n (iv (subAt l r x)) [(b, blk 3 (cs.set r z))] :=
  ⟨by simp [iv, subAt_len, hl], .inr ⟨b, cap, _, rfl, rfl, h1, h2, by rw [List.length_set]; exact h3, h5⟩⟩
theorem keep_mid {w0 w : World} {F : List (Nat × Obj)} {a b : Nat × Obj} (h : St w0 w (a :: b :: F)) : St w0 w ([a] ++ F) := (h.perm (perm_mid [a] [b] F)).tail
theorem sl_u8 {w0 : World} {F : List (Nat × Obj)} {a : Option Addr} {l : List Int} {i : Nat} (h : Sl w0 F a 1 (l.map fun x => [Value.int .u8 x])) (hi : i < l.length) :
    ∃ b off, a = some ⟨b, off, none⟩ ∧ Ats w0 F b (off + i * 1) [.int .u8 l[i]] := by
  obtain ⟨b, off, ha, _, hat⟩ := h.at (i := i) (row := [.int .u8 l[i]]) (by simp [hi])
  exact ⟨b, off, ha, hat⟩
theorem c79 {w0 w : World} {F : List (Nat × Obj)} (ax : Option Addr) (cx : Nat) (x : List Int) (hxl : x.length ≤ 9223372036854775807) (hxs : Sl w0 F ax 1 (x.map fun n => [Value.int .u8 n])) (hxr : ∀ z ∈ x, 0 ≤ z ∧ z ≤ 255) (n : Nat) (hs : St w0 w F) : Con Try.prog 79 [.slice ax x.length cx, .int .i64 (n : Int)] w fun v w' => v = .int .i64 (turnOf x n) ∧ St w0 w' F := by
  refine con_of_wc (n := 16) Try.func79 rfl rfl (Nat.le_of_ble_eq_true rfl) ?_
  refine w_seq (fun K2 hK1 => ?_)
  refine w_region ?_
  refine w_pure want_none (y_assign (v := _) rfl rfl) rfl ?_
  refine w_nil ?_
  refine q_then (hK1 _ _ ?_)
  refine w_seq (fun K4 hK3 => ?_)
  refine w_seq (fun K6 hK5 => ?_)
  refine w_region ?_
  refine w_pure want_none (y_move (v := .slice _ _ _) rfl rfl) rfl ?_
  refine w_pure want_none (y_lenS Try.underlying45 rfl rfl) rfl ?_
  refine w_pure want_none (y_eql rfl rfl rfl rfl) rfl ?_
  refine w_nil ?_
  refine q_then (hK5 _ _ ?_)
  refine w_cond rfl rfl (fun h7 => ?_) (fun h7 => ?_)
  ·
   try simp only [Bool.not_eq_true', Bool.not_eq_false', decide_eq_true_eq, decide_eq_false_iff_not, Int.not_lt, Int.not_le] at h7
   refine w_seq (fun K9 hK8 => ?_)
   refine w_region ?_
   refine w_pure want_none (y_assign (v := _) rfl rfl) rfl ?_
   refine w_nil ?_
   refine q_then (hK8 _ _ ?_)
   refine w_ret ?_
   refine q_then_ret ?_
   refine q_ret (l := [.tmp 4]) (vs := [_]) rfl ⟨⟨rfl, show _ = (.int _ _ : Value) from rfl⟩, trivial⟩ ?_
   first
     | exact ⟨congrArg (Value.int .i64) (by unfold turnOf; rw [if_pos (by omega)]), hs⟩
     | exact ⟨congrArg (Value.int .i64) (turn_at hx0), hs⟩
  ·
   try simp only [Bool.not_eq_true', Bool.not_eq_false', decide_eq_true_eq, decide_eq_false_iff_not, Int.not_lt, Int.not_le] at h7
   refine w_skip ?_
   refine q_then (hK3 _ _ ?_)
   refine w_seq (fun K11 hK10 => ?_)
   have hx0 : 0 < x.length := by omega
   have hm := Nat.mod_lt n hx0
   obtain ⟨bx, ox, rfl, hx⟩ := sl_u8 hxs hm
   have hr := hxr _ (List.getElem_mem hm)
   refine w_region ?_
   refine w_pure want_none (y_move (v := .slice _ _ _) rfl rfl) rfl ?_
   refine w_pure want_none (y_move (v := .int _ _) rfl rfl) rfl ?_
   refine w_pure want_none (y_move (v := .slice _ _ _) rfl rfl) rfl ?_
   refine w_pure want_none (y_lenS Try.underlying45 rfl rfl) rfl ?_
   refine w_pure want_none (y_rem rfl rfl rfl rfl (by omega) (by omega)) rfl ?_
   refine w_pure want_none (y_indexS Try.underlying45 Try.sizeOf5 rfl rfl rfl rfl (i := n % x.length) (by simp) hm) rfl ?_
   refine w_pure want_none (y_load1 Try.isAgg5 hs rfl rfl hx) rfl ?_
   refine w_pure want_none (y_u8int (by rw [Try.underlying5]; rfl) Try.underlying3 rfl rfl (by omega) (by omega)) rfl ?_
   refine w_pure want_none (y_assign (v := .int _ _) rfl rfl) rfl ?_
   refine w_nil ?_
   refine q_then (hK10 _ _ ?_)
   refine w_ret ?_
   refine q_ret (l := [.tmp 4]) (vs := [_]) rfl ⟨⟨rfl, show _ = (.int _ _ : Value) from rfl⟩, trivial⟩ ?_
   first
     | exact ⟨congrArg (Value.int .i64) (by unfold turnOf; rw [if_pos (by omega)]), hs⟩
     | exact ⟨congrArg (Value.int .i64) (turn_at hx0), hs⟩

theorem c46 {w0 w : World} {F : List (Nat × Obj)} (b n : Nat) (hb : b ≤ 9223372036854775807) (hn : n ≤ 9223372036854775807) (hs : St w0 w F) : Con Try.prog 46 [.int .i64 (b : Int), .int .i64 (n : Int)] w fun v w' => v = .bool (decide ((((b >>> n : Nat) : Int)) % 2 = 1)) ∧ St w0 w' F := by
  refine con_of_wc (n := 16) Try.func46 rfl rfl (Nat.le_of_ble_eq_true rfl) ?_
  refine w_seq (fun K2 hK1 => ?_)
  refine w_region ?_
  refine w_pure want_none (y_assign (v := _) rfl rfl) rfl ?_
  refine w_nil ?_
  refine q_then (hK1 _ _ ?_)
  refine w_seq (fun K4 hK3 => ?_)
  refine w_seq (fun K6 hK5 => ?_)
  refine w_region ?_
  refine w_pure want_none (y_assign (v := _) rfl rfl) rfl ?_
  refine w_nil ?_
  refine q_then (hK5 _ _ ?_)
  refine w_block ?_
  refine w_loop [0, 5, 6, 7, 8, 9, 10, 11, 12] [0, 5] (fun k vs w => ∃ i : Nat, vs = [.int .i64 ((b >>> i : Nat) : Int), .int .i64 i] ∧ i ≤ n ∧ k = n - i ∧ St w0 w F) (n) ?_ ?_
  ·
   exact ⟨0, rfl, by omega, by omega, hs⟩
  ·
   intro k vs μ w9 hI K8 hN7
   obtain ⟨i, rfl, hia, rfl, hs⟩ := hI
   have hsl := shr_le b i
   have hsl0 : (0 : Int) ≤ ((b >>> i : Nat) : Int) := Int.natCast_nonneg _
   refine w_seq (fun K11 hK10 => ?_)
   refine w_seq (fun K13 hK12 => ?_)
   refine w_region ?_
   refine w_pure want_none (y_move (v := .int _ _) rfl rfl) rfl ?_
   refine w_pure want_none (y_move (v := .int _ _) rfl rfl) rfl ?_
   refine w_pure want_none (y_lss rfl rfl rfl rfl) rfl ?_
   refine w_nil ?_
   refine q_then (hK12 _ _ ?_)
   refine w_cond rfl rfl (fun h14 => ?_) (fun h14 => ?_)
   ·
    try simp only [Bool.not_eq_true', Bool.not_eq_false', decide_eq_true_eq, decide_eq_false_iff_not, Int.not_lt, Int.not_le] at h14
    refine w_skip ?_
    refine q_then (hK10 _ _ ?_)
    refine w_seq (fun K16 hK15 => ?_)
    refine w_block ?_
    refine w_region ?_
    refine w_pure want_none (y_move (v := .int _ _) rfl rfl) rfl ?_
    refine w_pure want_none (y_quo rfl rfl rfl rfl (by omega) (by omega) (by omega)) rfl ?_
    refine w_pure want_none (y_assign (v := .int _ _) rfl rfl) rfl ?_
    refine w_nil ?_
    refine q_blk_normal ?_
    refine q_then (hK15 _ _ ?_)
    refine w_region ?_
    refine w_pure want_none (y_move (v := .int _ _) rfl rfl) rfl ?_
    refine w_pure want_none (y_add rfl rfl rfl rfl (by omega) (by omega)) rfl ?_
    refine w_pure want_none (y_assign (v := .int _ _) rfl rfl) rfl ?_
    refine w_nil ?_
    refine q_then (hN7 _ _ (Nx.intro (n - (i + 1)) (by omega) (by repeat (first | exact agree_mix | refine agree_upd rfl ?_ | refine agree_updL rfl ?_ _ | refine agree_mixin rfl ?_)) ?_))
    exact ⟨i + 1, by rw [← shr_half]; rfl, by omega, rfl, hs⟩
   ·
    try simp only [Bool.not_eq_true', Bool.not_eq_false', decide_eq_true_eq, decide_eq_false_iff_not, Int.not_lt, Int.not_le] at h14
    refine w_exit ?_
    refine q_then_exit ?_
    refine q_then_exit ?_
    refine q_blk_this ?_
    refine q_then (hK3 _ _ ?_)
    refine w_seq (fun K18 hK17 => ?_)
    refine w_region ?_
    refine w_pure want_none (y_move (v := .int _ _) rfl rfl) rfl ?_
    refine w_pure want_none (y_rem rfl rfl rfl rfl (by omega) (by omega)) rfl ?_
    refine w_pure want_none (y_eql rfl rfl rfl rfl) rfl ?_
    refine w_pure want_none (y_assign (v := .bool _) rfl rfl) rfl ?_
    refine w_nil ?_
    refine q_then (hK17 _ _ ?_)
    refine w_ret ?_
    refine q_ret (l := [.tmp 4]) (vs := [_]) rfl ⟨⟨rfl, show _ = (.bool _ : Value) from rfl⟩, trivial⟩ ?_
    have hin : i = n := by omega
    subst hin
    exact ⟨rfl, hs⟩

theorem c45 {w0 w : World} {F : List (Nat × Obj)} (aa ab : Option Addr) (a b : List Int) (ca cb : Nat) (hla : a.length ≤ 9223372036854775807) (ha : Sl w0 F aa 1 (a.map fun x => [Value.int .i64 x])) (hb : Sl w0 F ab 1 (b.map fun x => [Value.int .i64 x])) (hs : St w0 w F) : Con Try.prog 45 [.slice aa a.length ca, .slice ab b.length cb] w fun v w' => v = .bool (if a.length = b.length then less a b else decide (a.length < b.length)) ∧ St w0 w' F := by
  refine con_of_wc (n := 18) Try.func45 rfl rfl (Nat.le_of_ble_eq_true rfl) ?_
  refine w_seq (fun K2 hK1 => ?_)
  refine w_region ?_
  refine w_pure want_none (y_assign (v := _) rfl rfl) rfl ?_
  refine w_nil ?_
  refine q_then (hK1 _ _ ?_)
  refine w_seq (fun K4 hK3 => ?_)
  refine w_seq (fun K6 hK5 => ?_)
  refine w_region ?_
  refine w_pure want_none (y_move (v := .slice _ _ _) rfl rfl) rfl ?_
  refine w_pure want_none (y_lenS Try.underlying30 rfl rfl) rfl ?_
  refine w_pure want_none (y_move (v := .slice _ _ _) rfl rfl) rfl ?_
  refine w_pure want_none (y_lenS Try.underlying30 rfl rfl) rfl ?_
  refine w_pure want_none (y_neq rfl rfl rfl rfl) rfl ?_
  refine w_nil ?_
  refine q_then (hK5 _ _ ?_)
  refine w_cond rfl rfl (fun h7 => ?_) (fun h7 => ?_)
  ·
   try simp only [Bool.not_eq_true', Bool.not_eq_false', decide_eq_true_eq, decide_eq_false_iff_not, Int.not_lt, Int.not_le] at h7
   refine w_seq (fun K9 hK8 => ?_)
   refine w_region ?_
   refine w_pure want_none (y_move (v := .slice _ _ _) rfl rfl) rfl ?_
   refine w_pure want_none (y_lenS Try.underlying30 rfl rfl) rfl ?_
   refine w_pure want_none (y_move (v := .slice _ _ _) rfl rfl) rfl ?_
   refine w_pure want_none (y_lenS Try.underlying30 rfl rfl) rfl ?_
   refine w_pure want_none (y_lss rfl rfl rfl rfl) rfl ?_
   refine w_pure want_none (y_assign (v := .bool _) rfl rfl) rfl ?_
   refine w_nil ?_
   refine q_then (hK8 _ _ ?_)
   refine w_ret ?_
   refine q_then_ret ?_
   refine q_ret (l := [.tmp 4]) (vs := [_]) rfl ⟨⟨rfl, show _ = (.bool _ : Value) from rfl⟩, trivial⟩ ?_
   first
     | exact ⟨congrArg Value.bool (by rw [if_neg (by omega)]; rw [Bool.eq_iff_iff]; simp), hs⟩
     | exact ⟨congrArg Value.bool (by rw [if_pos (by omega)]), hs⟩
  ·
   try simp only [Bool.not_eq_true', Bool.not_eq_false', decide_eq_true_eq, decide_eq_false_iff_not, Int.not_lt, Int.not_le] at h7
   refine w_skip ?_
   refine q_then (hK3 _ _ ?_)
   refine w_seq (fun K11 hK10 => ?_)
   refine w_region ?_
   refine w_pure want_none (y_move (v := .slice _ _ _) rfl rfl) rfl ?_
   refine w_pure want_none (y_move (v := .slice _ _ _) rfl rfl) rfl ?_
   refine w_call want_none Try.call42 rfl rfl rfl rfl (c42 _ _ _ _ _ _ (by omega) (by assumption) (by assumption) hs) ?_
   rintro _ w13 ⟨rfl, hs14⟩
   refine w_pure want_none (y_assign (v := .bool _) rfl rfl) rfl ?_
   refine w_nil ?_
   refine q_then (hK10 _ _ ?_)
   refine w_ret ?_
   refine q_ret (l := [.tmp 4]) (vs := [_]) rfl ⟨⟨rfl, show _ = (.bool _ : Value) from rfl⟩, trivial⟩ ?_
   first
     | exact ⟨congrArg Value.bool (by rw [if_neg (by omega)]; rw [Bool.eq_iff_iff]; simp), hs14⟩
     | exact ⟨congrArg Value.bool (by rw [if_pos (by omega)]), hs14⟩

theorem c35 {w0 w : World} {F : List (Nat × Obj)} (m : Market) (p : At3) (hm : MIn w0 F m p)  (hs : St w0 w F) :
  Con Try.prog 35 [.agg (m.cells p).toArray] w fun v w' => v = .bool (decide ((check m).2.2 = 0)) ∧ St w0 w' F := by
  refine con_of_wc (n := 14) Try.func35 rfl rfl (Nat.le_of_ble_eq_true rfl) ?_
  refine w_seq (fun K2 hK1 => ?_)
  refine w_region ?_
  refine w_box (v := .agg #[.slice _ _ _, .slice _ _ _, .slice _ _ _]) (cs := [_, _, _]) want_none rfl rfl rfl hs (fun b3 w4 hs5 => ?_)
  refine w_pure want_none (y_assign (v := _) rfl rfl) rfl ?_
  refine w_nil ?_
  refine q_then (hK1 _ _ ?_)
  refine w_seq (fun K7 hK6 => ?_)
  refine w_region ?_
  refine w_pure want_none (y_loadN (vs := [_, _, _]) Try.isAgg26 Try.sizeOf26 hs5 rfl rfl (ats_own (i := 0) (vs := [_, _, _]) rfl rfl)) rfl ?_
  refine w_call want_none Try.call17 rfl rfl rfl rfl (c17 m _ hm.cons hs5) ?_
  rintro _ w9 ⟨rfl, hs10⟩
  refine w_pure want_none (y_move (v := .tuple _) rfl rfl) rfl ?_
  refine w_pure want_none (y_extract (v := .int _ _) rfl rfl rfl) rfl ?_
  refine w_pure want_none (y_extract (v := .int _ _) rfl rfl rfl) rfl ?_
  refine w_pure want_none (y_extract (v := .int _ _) rfl rfl rfl) rfl ?_
  refine w_pure want_none (y_assign (v := .int _ _) rfl rfl) rfl ?_
  refine w_pure want_none (y_assign (v := .int _ _) rfl rfl) rfl ?_
  refine w_pure want_none (y_assign (v := .int _ _) rfl rfl) rfl ?_
  refine w_nil ?_
  refine q_then (hK6 _ _ ?_)
  refine w_seq (fun K12 hK11 => ?_)
  refine w_region ?_
  refine w_pure want_none (y_move (v := .int _ _) rfl rfl) rfl ?_
  refine w_pure want_none (y_eql rfl rfl rfl rfl) rfl ?_
  refine w_pure want_none (y_assign (v := .bool _) rfl rfl) rfl ?_
  refine w_nil ?_
  refine q_then (hK11 _ _ ?_)
  refine w_ret ?_
  refine q_ret (l := [.tmp 2]) (vs := [_]) rfl ⟨⟨rfl, show _ = (.bool _ : Value) from rfl⟩, trivial⟩ ?_
  exact ⟨rfl, hs10.tail⟩

theorem c43 {w0 w : World} {F : List (Nat × Obj)} (m : Market) (p : At3) (hm : MIn w0 F m p) (hok : m.Ok) (b : Nat) (hb : b ≤ 9223372036854775807) (hs : St w0 w F) :
  Con Try.prog 43 [.agg (m.cells p).toArray, .int .i64 (b : Int)] w fun v w' => ∃ B a c, v = .slice a (listL b m.shops.length).length c ∧ Sl w0 B a 1 ((listL b m.shops.length).map fun x => [Value.int .i64 x]) ∧ St w0 w' (B ++ F) := by
  refine con_of_wc (n := 22) Try.func43 rfl rfl (Nat.le_of_ble_eq_true rfl) ?_
  have hls := hok.ls
  refine w_seq (fun K2 hK1 => ?_)
  refine w_region ?_
  refine w_box (v := .agg #[.slice _ _ _, .slice _ _ _, .slice _ _ _]) (cs := [_, _, _]) want_none rfl rfl rfl hs (fun b3 w4 hs5 => ?_)
  refine w_pure want_none (y_assign (v := _) rfl rfl) rfl ?_
  refine w_nil ?_
  refine q_then (hK1 _ _ ?_)
  refine w_seq (fun K7 hK6 => ?_)
  have hbx : Ats w0 ((b3, blk 26 (m.cells p)) :: F) b3 0 (m.cells p) := ats_own (i := 0) (vs := m.cells p) rfl rfl
  refine w_region ?_
  refine w_pure want_none (y_assign (v := _) rfl rfl) rfl ?_
  refine w_nil ?_
  refine q_then (hK6 _ _ ?_)
  refine w_seq (fun K9 hK8 => ?_)
  refine w_seq (fun K11 hK10 => ?_)
  refine w_region ?_
  refine w_pure want_none (y_assign (v := _) rfl rfl) rfl ?_
  refine w_nil ?_
  refine q_then (hK10 _ _ ?_)
  refine w_block ?_
  refine w_loop [5, 6, 7, 8, 9, 10, 11, 12, 13, 14, 15, 16, 17, 18, 19, 20] [5, 6] (fun k vs w => ∃ (i : Nat) (v : Value) (B : List (Nat × Obj)), vs = [v, .int .i64 i] ∧ i ≤ m.shops.length ∧ k = m.shops.length - i ∧ Rt.Own v 3 1 (listL b i).length (iv (listL b i)) B ∧ St w0 w (B ++ ((b3, blk 26 (m.cells p)) :: F))) (m.shops.length) ?_ ?_
  ·
   exact ⟨0, _, [], rfl, by omega, by omega, own_nil 3 1, hs5⟩
  ·
   intro k vs μ w14 hI K13 hN12
   obtain ⟨i, v, B, rfl, hia, rfl, hown, hs⟩ := hI
   refine w_seq (fun K16 hK15 => ?_)
   refine w_seq (fun K18 hK17 => ?_)
   refine w_region ?_
   refine w_pure want_none (y_move (v := .int _ _) rfl rfl) rfl ?_
   refine w_pure want_none (y_fieldAddr (o := 1) (i := 1) Try.underlying26 rfl Try.sizeOf23 rfl rfl rfl) rfl ?_
   refine w_pure want_none (y_load1 Try.isAgg23 hs.drop rfl rfl (show Ats _ _ _ _ [_] from Ats.part hbx 1 1)) rfl ?_
   refine w_pure want_none (y_lenS Try.underlying23 rfl rfl) rfl ?_
   refine w_pure want_none (y_lss rfl rfl rfl rfl) rfl ?_
   refine w_nil ?_
   refine q_then (hK17 _ _ ?_)
   refine w_cond rfl rfl (fun h19 => ?_) (fun h19 => ?_)
   ·
    try simp only [Bool.not_eq_true', Bool.not_eq_false', decide_eq_true_eq, decide_eq_false_iff_not, Int.not_lt, Int.not_le] at h19
    refine w_skip ?_
    refine q_then (hK15 _ _ ?_)
    refine w_seq (fun K21 hK20 => ?_)
    refine w_block ?_
    refine w_seq (fun K23 hK22 => ?_)
    have hgl := listL_le b i
    refine w_region ?_
    refine w_pure want_none (y_move (v := .int _ _) rfl rfl) rfl ?_
    refine w_pure want_none (y_move (v := .int _ _) rfl rfl) rfl ?_
    refine w_call want_none Try.call46 rfl rfl rfl rfl (c46 b i hb (by omega) hs) ?_
    rintro _ w25 ⟨rfl, hs26⟩
    refine w_nil ?_
    refine q_then (hK22 _ _ ?_)
    refine w_cond rfl rfl (fun h27 => ?_) (fun h27 => ?_)
    ·
     try simp only [Bool.not_eq_true', Bool.not_eq_false', decide_eq_true_eq, decide_eq_false_iff_not, Int.not_lt, Int.not_le] at h27
     refine w_region ?_
     refine w_pure want_none (y_move (v := v) rfl rfl) rfl ?_
     refine w_pure want_none (y_move (v := .int _ _) rfl rfl) rfl ?_
     refine w_bslice (ps := [(0, _)]) (pv := [(0, .int _ _)]) (cs := [_]) want_none rfl rfl (fun w => Try_Ze_fb6 _ w) hs26 (fun b28 w29 hs30 => ?_)
     refine w_append (X := (_ :: [])) (B := B) (rows := [[_]]) (sz := 1) (bytes := 8) want_none Try.underlying30 Try_info3 rfl rfl rfl rfl rfl rfl rfl rfl rfl hs30 hown (sl_own (i := 0) rfl (by simp) rfl) rfl (by simp) (by simp [Value.oneCell']) (by simp only [maxLen]; omega) (by omega) (fun v31 w32 B33 ho34 hs35 => ?_)
     replace hs35 := (show St _ _ (_ :: B33 ++ (_ :: F)) from hs35)
     refine w_pure want_none (y_assign (v := v31) rfl rfl) rfl ?_
     refine w_nil ?_
     refine q_blk_normal ?_
     refine q_then (hK20 _ _ ?_)
     refine w_region ?_
     refine w_pure want_none (y_move (v := .int _ _) rfl rfl) rfl ?_
     refine w_pure want_none (y_add rfl rfl rfl rfl (by omega) (by omega)) rfl ?_
     refine w_pure want_none (y_assign (v := .int _ _) rfl rfl) rfl ?_
     refine w_nil ?_
     refine q_then (hN12 _ _ (Nx.intro (m.shops.length - (i + 1)) (by omega) (by repeat (first | exact agree_mix | refine agree_upd rfl ?_ | refine agree_updL rfl ?_ _ | refine agree_mixin rfl ?_)) ?_))
     exact ⟨i + 1, _, _, rfl, by omega, rfl, by rw [listL_yes ((bit_odd b i).1 (by assumption))]; exact own_snoc ho34, hs35.tail⟩
    ·
     try simp only [Bool.not_eq_true', Bool.not_eq_false', decide_eq_true_eq, decide_eq_false_iff_not, Int.not_lt, Int.not_le] at h27
     refine w_skip ?_
     refine q_blk_normal ?_
     refine q_then (hK20 _ _ ?_)
     refine w_region ?_
     refine w_pure want_none (y_move (v := .int _ _) rfl rfl) rfl ?_
     refine w_pure want_none (y_add rfl rfl rfl rfl (by omega) (by omega)) rfl ?_
     refine w_pure want_none (y_assign (v := .int _ _) rfl rfl) rfl ?_
     refine w_nil ?_
     refine q_then (hN12 _ _ (Nx.intro (m.shops.length - (i + 1)) (by omega) (by repeat (first | exact agree_mix | refine agree_upd rfl ?_ | refine agree_updL rfl ?_ _ | refine agree_mixin rfl ?_)) ?_))
     exact ⟨i + 1, v, B, rfl, by omega, rfl, by rw [listL_no (fun h => by have := (bit_odd b i).2 h; contradiction)]; exact hown, hs26⟩
   ·
    try simp only [Bool.not_eq_true', Bool.not_eq_false', decide_eq_true_eq, decide_eq_false_iff_not, Int.not_lt, Int.not_le] at h19
    refine w_exit ?_
    refine q_then_exit ?_
    refine q_then_exit ?_
    refine q_blk_this ?_
    refine q_then (hK8 _ _ ?_)
    refine w_seq (fun K37 hK36 => ?_)
    refine w_region ?_
    refine w_pure want_none (y_move (v := v) rfl rfl) rfl ?_
    refine w_pure want_none (y_assign (v := v) rfl rfl) rfl ?_
    refine w_nil ?_
    refine q_then (hK36 _ _ ?_)
    refine w_ret ?_
    refine q_ret (l := [.tmp 4]) (vs := [_]) rfl ⟨⟨rfl, show _ = (v : Value) from rfl⟩, trivial⟩ ?_
    have hil : i = m.shops.length := by omega
    subst hil
    obtain ⟨ag, cg, rfl, hsg, _, _⟩ := own_ints (w0 := w0) hown
    exact ⟨B ++ [_], ag, cg, rfl, hsg.top, by rw [List.append_assoc]; exact hs⟩

theorem c40 {w0 w : World} {F : List (Nat × Obj)} (m : Market) (p : At3) (hm : MIn w0 F m p) (hok : m.Ok) (al : Option Addr) (cl : Nat) (l : List Int) (hll : l.length ≤ 9223372036854775807) (hl : Sl w0 F al 1 (l.map fun x => [Value.int .i64 x])) (hlt2 : l.length ≤ m.trains.length) (hlb : ∀ z ∈ l, 0 ≤ z ∧ z ≤ 60) (hs : St w0 w F) :
  Con Try.prog 40 [.agg (m.cells p).toArray, .slice al l.length cl] w fun v w' => ∃ B a c, v = .slice a (gotTo m l l.length).length c ∧ Sl w0 B a 1 ((gotTo m l l.length).map fun x => [Value.int .i64 x]) ∧ St w0 w' (B ++ F) := by
  refine con_of_wc (n := 37) Try.func40 rfl rfl (Nat.le_of_ble_eq_true rfl) ?_
  have hls := hok.ls
  have hlt := hok.lt
  refine w_seq (fun K2 hK1 => ?_)
  refine w_region ?_
  refine w_box (v := .agg #[.slice _ _ _, .slice _ _ _, .slice _ _ _]) (cs := [_, _, _]) want_none rfl rfl rfl hs (fun b3 w4 hs5 => ?_)
  refine w_pure want_none (y_assign (v := _) rfl rfl) rfl ?_
  refine w_nil ?_
  refine q_then (hK1 _ _ ?_)
  refine w_seq (fun K7 hK6 => ?_)
  have hbx : Ats w0 ((b3, blk 26 (m.cells p)) :: F) b3 0 (m.cells p) := ats_own (i := 0) (vs := m.cells p) rfl rfl
  refine w_region ?_
  refine w_pure want_none (y_fieldAddr (o := 1) (i := 1) Try.underlying26 rfl Try.sizeOf23 rfl rfl rfl) rfl ?_
  refine w_pure want_none (y_load1 Try.isAgg23 hs5 rfl rfl (show Ats _ _ _ _ [_] from Ats.part hbx 1 1)) rfl ?_
  refine w_pure want_none (y_lenS Try.underlying23 rfl rfl) rfl ?_
  refine w_makeInts (k := m.shops.length) want_none Try.underlying30 Try_info3 rfl rfl (by omega) rfl rfl rfl rfl rfl hs5 (fun b8 w9 hs10 => ?_)
  refine w_pure want_none (y_assign (v := .slice _ _ _) rfl rfl) rfl ?_
  refine w_nil ?_
  refine q_then (hK6 _ _ ?_)
  refine w_seq (fun K12 hK11 => ?_)
  refine w_seq (fun K14 hK13 => ?_)
  refine w_region ?_
  refine w_pure want_none (y_assign (v := _) rfl rfl) rfl ?_
  refine w_nil ?_
  refine q_then (hK13 _ _ ?_)
  refine w_block ?_
  refine w_loop [6, 7, 12, 13, 14, 15, 16, 17, 18, 19, 20, 21, 22, 23, 24, 25, 26, 27, 28, 29, 30, 31, 32, 33, 34, 35] [6] (fun k vs w => ∃ i : Nat, vs = [.int .i64 i] ∧ i ≤ l.length ∧ k = l.length - i ∧ St w0 w ((b8, blk 3 (iv (gotTo m l i))) :: (b3, blk 26 (m.cells p)) :: F)) (l.length) ?_ ?_
  ·
   exact ⟨0, rfl, by omega, by omega, hs10⟩
  ·
   intro k vs μ w17 hI K16 hN15
   obtain ⟨i, rfl, hia, rfl, hs⟩ := hI
   refine w_seq (fun K19 hK18 => ?_)
   refine w_seq (fun K21 hK20 => ?_)
   refine w_region ?_
   refine w_pure want_none (y_move (v := .int _ _) rfl rfl) rfl ?_
   refine w_pure want_none (y_move (v := .slice _ _ _) rfl rfl) rfl ?_
   refine w_pure want_none (y_lenS Try.underlying30 rfl rfl) rfl ?_
   refine w_pure want_none (y_lss rfl rfl rfl rfl) rfl ?_
   refine w_nil ?_
   refine q_then (hK20 _ _ ?_)
   refine w_cond rfl rfl (fun h22 => ?_) (fun h22 => ?_)
   ·
    try simp only [Bool.not_eq_true', Bool.not_eq_false', decide_eq_true_eq, decide_eq_false_iff_not, Int.not_lt, Int.not_le] at h22
    refine w_skip ?_
    refine q_then (hK18 _ _ ?_)
    refine w_seq (fun K24 hK23 => ?_)
    refine w_block ?_
    refine w_seq (fun K26 hK25 => ?_)
    have hi1 : i < l.length := by omega
    have hi2 : i < m.trains.length := by omega
    obtain ⟨bt, ot, hbt, hxt⟩ := sl_trows hm.t hi2
    have htt := hok.train _ (List.getElem_mem hi2)
    have hgl := gotTo_len m l i
    have hs2 : (m.trains[i]'hi2).shop.toNat < (gotTo m l i).length := by omega
    have hg1 := gotTo_in (m := m) hlb i _ (List.getElem_mem hs2)
    have hl1 := hlb _ (List.getElem_mem hi1)
    obtain ⟨bx, ox, hbx2, hx⟩ := sl_ints (sl_own_ints (w0 := w0) (L := (b8, blk 3 (iv (gotTo m l i))) :: (b3, blk 26 (m.cells p)) :: F) (i := 0) rfl rfl (List.take_of_length_le (by simp))) hs2
    cases hbx2
    obtain ⟨by_, oy, hby2, hy⟩ := sl_ints hl hi1
    subst hby2
    refine w_region ?_
    refine w_pure want_none (y_fieldAddr (o := 2) (i := 2) Try.underlying26 rfl Try.sizeOf24 rfl rfl rfl) rfl ?_
    refine w_pure want_none (yd_slice hbt (y_load1 Try.isAgg24 hs.tail rfl rfl (show Ats _ _ _ _ [_] from Ats.part hbx 2 1))) rfl ?_
    refine w_pure want_none (y_move (v := .int _ _) rfl rfl) rfl ?_
    refine w_pure want_none (y_indexS Try.underlying24 Try.sizeOf63 rfl rfl rfl rfl (i := _) rfl (by omega)) rfl ?_
    refine w_pure want_none (y_fieldAddr (o := 1) (i := 1) Try.underlying63 rfl Try.sizeOf3 rfl rfl rfl) rfl ?_
    refine w_pure want_none (y_load1 Try.isAgg3 hs.tail.tail rfl rfl (show Ats _ _ _ _ [_] from Ats.part hxt 1 1)) rfl ?_
    refine w_pure want_none (y_assign (v := .int _ _) rfl rfl) rfl ?_
    refine w_nil ?_
    refine q_then (hK25 _ _ ?_)
    refine w_draw [12] [(0, 0), (1, 0), (2, 0), (3, 0), (4, 0), (5, 1), (6, 0), (7, 0), (8, 0), (9, 1), (10, 0), (11, 0), (12, 3)] Try_mo (by kernel_rfl) hs (fun w27 hs28 => ?_)
    refine d_any rfl want_none rfl (fun _ => (y_move (v := .slice _ _ _) rfl rfl)) ?_
    refine d_any rfl want_none rfl (fun _ => (y_move (v := .int _ _) rfl rfl)) ?_
    refine d_any rfl want_none rfl (fun _ => (y_move (v := .slice _ _ _) rfl rfl)) ?_
    refine d_any rfl want_none rfl (fun _ => (y_move (v := .int _ _) rfl rfl)) ?_
    refine d_any rfl want_none rfl (fun _ => (y_indexS Try.underlying30 Try.sizeOf3 rfl rfl rfl rfl (i := (m.trains[i]'hi2).shop.toNat) (by omega) (by omega))) ?_
    refine d_take rfl want_none rfl hs28 (fun _ hq => (y_load1 Try.isAgg3 hq rfl rfl hx)) ?_
    refine d_any rfl want_none rfl (fun _ => (y_move (v := .slice _ _ _) rfl rfl)) ?_
    refine d_any rfl want_none rfl (fun _ => (y_move (v := .int _ _) rfl rfl)) ?_
    refine d_any rfl want_none rfl (fun _ => (y_indexS Try.underlying30 Try.sizeOf3 rfl rfl rfl rfl (i := _) rfl (by omega))) ?_
    refine d_take rfl want_none rfl hs28 (fun _ hq => (y_load1 Try.isAgg3 hq.tail.tail rfl rfl hy)) ?_
    refine d_any rfl want_none rfl (fun _ => (y_add rfl rfl rfl rfl (by omega) (by omega))) ?_
    refine d_any rfl want_none rfl (fun _ => (y_indexS Try.underlying30 Try.sizeOf3 rfl rfl rfl rfl (i := (m.trains[i]'hi2).shop.toNat) (by omega) (by omega))) ?_
    refine d_late rfl ?_
    refine w_store (i := 0) (v := .int _ _) (vs := [_]) want_none Try.sizeOf3 rfl rfl rfl rfl rfl (by simp [Value.oneCell']) hs28 rfl (show 0 + (m.trains[i]'hi2).shop.toNat * 1 + 1 ≤ (iv (gotTo m l i)).length by simp [iv]; omega) (fun w29 hs30 => ?_)
    replace hs30 := (show St _ _ ((b8, blk 3 (iv ((gotTo m l i).set (m.trains[i]'hi2).shop.toNat ((gotTo m l i)[(m.trains[i]'hi2).shop.toNat]'hs2 + l[i]'hi1)))) :: _ :: F) from (by have h6 := hs30; simp only [setMany, Nat.zero_add, Nat.mul_one] at h6; exact (by rw [show iv ((gotTo m l i).set (m.trains[i]'hi2).shop.toNat ((gotTo m l i)[(m.trains[i]'hi2).shop.toNat]'hs2 + l[i]'hi1)) = (iv (gotTo m l i)).set (m.trains[i]'hi2).shop.toNat (.int .i64 ((gotTo m l i)[(m.trains[i]'hi2).shop.toNat]'hs2 + l[i]'hi1)) by simp [iv, List.map_set]]; exact h6)))
    refine w_nil ?_
    refine qn ?_
    refine d_nil ?_
    refine q_blk_normal ?_
    refine q_then (hK23 _ _ ?_)
    refine w_region ?_
    refine w_pure want_none (y_move (v := .int _ _) rfl rfl) rfl ?_
    refine w_pure want_none (y_add rfl rfl rfl rfl (by omega) (by omega)) rfl ?_
    refine w_pure want_none (y_assign (v := .int _ _) rfl rfl) rfl ?_
    refine w_nil ?_
    refine q_then (hN15 _ _ (Nx.intro (l.length - (i + 1)) (by omega) (by repeat (first | exact agree_mix | refine agree_upd rfl ?_ | refine agree_updL rfl ?_ _ | refine agree_mixin rfl ?_)) ?_))
    exact ⟨i + 1, rfl, by omega, rfl, by rw [← gotTo_succ hi2 hi1 hs2]; exact hs30⟩
   ·
    try simp only [Bool.not_eq_true', Bool.not_eq_false', decide_eq_true_eq, decide_eq_false_iff_not, Int.not_lt, Int.not_le] at h22
    refine w_exit ?_
    refine q_then_exit ?_
    refine q_then_exit ?_
    refine q_blk_this ?_
    refine q_then (hK11 _ _ ?_)
    refine w_seq (fun K32 hK31 => ?_)
    refine w_region ?_
    refine w_pure want_none (y_move (v := .slice _ _ _) rfl rfl) rfl ?_
    refine w_pure want_none (y_assign (v := .slice _ _ _) rfl rfl) rfl ?_
    refine w_nil ?_
    refine q_then (hK31 _ _ ?_)
    refine w_ret ?_
    refine q_ret (l := [.tmp 4]) (vs := [_]) rfl ⟨⟨rfl, show _ = (.slice _ _ _ : Value) from rfl⟩, trivial⟩ ?_
    have hil : i = l.length := by omega
    subst hil
    exact ⟨[(b8, _)], _, _, by rw [gotTo_len]; rfl, sl_own_ints (i := 0) rfl rfl (List.take_of_length_le (by simp)), keep_mid hs⟩

theorem c39 {w0 w : World} {F : List (Nat × Obj)} (m : Market) (p : At3) (hm : MIn w0 F m p) (hok : m.Ok) (ah : Option Addr) (ch : Nat) (hands : List Int) (hhl : hands.length = m.rooms.length) (hhs : Sl w0 F ah 1 (hands.map fun x => [Value.int .i64 x])) (hhb : ∀ z ∈ hands, 0 ≤ z ∧ z ≤ 200) (hhn : ah = none → ch = 0) (ax : Option Addr) (cx : Nat) (x : List Int) (hxl : x.length ≤ 9223372036854775807) (hxs : Sl w0 F ax 1 (x.map fun n => [Value.int .u8 n])) (hxr : ∀ z ∈ x, 0 ≤ z ∧ z ≤ 255) (hs : St w0 w F) :
  Con Try.prog 39 [.agg (m.cells p).toArray, .slice ah hands.length ch, .slice ax x.length cx] w fun v w' => ∃ B a c, v = .slice a (anyTo m hands x m.trains.length).1.length c ∧ Sl w0 B a 1 ((anyTo m hands x m.trains.length).1.map fun x => [Value.int .i64 x]) ∧ St w0 w' (B ++ F) := by
  refine con_of_wc (n := 59) Try.func39 rfl rfl (Nat.le_of_ble_eq_true rfl) ?_
  have hls := hok.ls
  have hlt := hok.lt
  have hlr := hok.lr
  refine w_seq (fun K2 hK1 => ?_)
  refine w_region ?_
  refine w_box (v := .agg #[.slice _ _ _, .slice _ _ _, .slice _ _ _]) (cs := [_, _, _]) want_none rfl rfl rfl hs (fun b3 w4 hs5 => ?_)
  refine w_pure want_none (y_assign (v := _) rfl rfl) rfl ?_
  refine w_nil ?_
  refine q_then (hK1 _ _ ?_)
  refine w_seq (fun K7 hK6 => ?_)
  have hbx : Ats w0 ((b3, blk 26 (m.cells p)) :: F) b3 0 (m.cells p) := ats_own (i := 0) (vs := m.cells p) rfl rfl
  refine w_region ?_
  refine w_bslice (ps := []) (pv := []) (cs := []) want_none rfl rfl (fun w => Try_Ze_fb7  w) hs5 (fun b8 w9 hs10 => ?_)
  refine w_pure want_none (y_move (v := .slice _ _ _) rfl rfl) rfl ?_
  refine w_append (X := ([])) (B := [_]) (rows := (hands.map fun x => [Value.int .i64 x])) (sz := 1) (bytes := 8) want_none Try.underlying30 Try_info3 rfl rfl rfl rfl rfl rfl rfl rfl rfl hs10 own_made hhs.cons.cons (List.length_map _) hhn (ints_one _) (by simp only [maxLen]; omega) (by omega) (fun v11 w12 B13 ho14 hs15 => ?_)
  replace hs15 := (show St _ _ (B13 ++ (_ :: F)) from hs15)
  refine w_pure want_none (y_assign (v := v11) rfl rfl) rfl ?_
  refine w_nil ?_
  refine q_then (hK6 _ _ ?_)
  refine w_seq (fun K17 hK16 => ?_)
  refine w_region ?_
  refine w_pure want_none (y_assign (v := _) rfl rfl) rfl ?_
  refine w_nil ?_
  refine q_then (hK16 _ _ ?_)
  refine w_seq (fun K19 hK18 => ?_)
  refine w_seq (fun K21 hK20 => ?_)
  refine w_region ?_
  refine w_pure want_none (y_assign (v := _) rfl rfl) rfl ?_
  refine w_nil ?_
  refine q_then (hK20 _ _ ?_)
  refine w_block ?_
  refine w_loop [8, 9, 10, 11, 15, 16, 17, 18, 19, 20, 21, 22, 23, 24, 25, 26, 27, 28, 29, 30, 31, 32, 33, 34, 35, 36, 37, 38, 39, 40, 41, 42, 43, 44, 45, 46, 47, 48, 49, 50, 51, 52, 53, 54, 55, 56, 57] [8, 9] (fun k vs w => ∃ (i : Nat) (vO : Value) (LB OB : List (Nat × Obj)), vs = [vO, .int .i64 i] ∧ i ≤ m.trains.length ∧ k = m.trains.length - i ∧ Rt.Own v11 3 1 m.rooms.length (iv (anyTo m hands x i).2) LB ∧ Rt.Own vO 3 1 (anyTo m hands x i).1.length (iv (anyTo m hands x i).1) OB ∧ St w0 w (LB ++ (OB ++ ((b3, blk 26 (m.cells p)) :: F)))) (m.trains.length) ?_ ?_
  ·
   rw [Nat.zero_add, List.nil_append, flat_ints, hhl] at ho14
   exact ⟨0, _, _, [], rfl, by omega, by omega, ho14, own_nil 3 1, hs15⟩
  ·
   intro k vs μ w24 hI K23 hN22
   obtain ⟨i, vO, LB, OB, rfl, hia, rfl, hownL, hown, hs⟩ := hI
   refine w_seq (fun K26 hK25 => ?_)
   refine w_seq (fun K28 hK27 => ?_)
   refine w_region ?_
   refine w_pure want_none (y_move (v := .int _ _) rfl rfl) rfl ?_
   refine w_pure want_none (y_fieldAddr (o := 2) (i := 2) Try.underlying26 rfl Try.sizeOf24 rfl rfl rfl) rfl ?_
   refine w_pure want_none (y_load1 Try.isAgg24 hs.drop.drop rfl rfl (show Ats _ _ _ _ [_] from Ats.part hbx 2 1)) rfl ?_
   refine w_pure want_none (y_lenS Try.underlying24 rfl rfl) rfl ?_
   refine w_pure want_none (y_lss rfl rfl rfl rfl) rfl ?_
   refine w_nil ?_
   refine q_then (hK27 _ _ ?_)
   refine w_cond rfl rfl (fun h29 => ?_) (fun h29 => ?_)
   ·
    try simp only [Bool.not_eq_true', Bool.not_eq_false', decide_eq_true_eq, decide_eq_false_iff_not, Int.not_lt, Int.not_le] at h29
    refine w_skip ?_
    refine q_then (hK25 _ _ ?_)
    refine w_seq (fun K31 hK30 => ?_)
    refine w_block ?_
    refine w_seq (fun K33 hK32 => ?_)
    have hi2 : i < m.trains.length := by omega
    obtain ⟨bt, ot, hbt, hxt⟩ := sl_trows hm.t hi2
    have htt := hok.train _ (List.getElem_mem hi2)
    obtain ⟨hf1, hf2, hf3, hf4⟩ := anyTo_fine hok hhl hhb (x := x) i hia
    have hr2 : (m.trains[i]'hi2).room.toNat < (anyTo m hands x i).2.length := by omega
    have hrb := hf3 _ (List.getElem_mem hr2)
    have hgd : (anyTo m hands x i).2.getD (m.trains[i]'hi2).room.toNat 0 = (anyTo m hands x i).2[(m.trains[i]'hi2).room.toNat]'hr2 := by simp [List.getD, hr2]
    have hn := anyN_in (m := m) (x := x) (t := (m.trains[i]'hi2)) hf3 ⟨htt.2.2.2.2.2.2.1, htt.2.2.2.2.2.2.2⟩ i
    rw [hgd] at hn
    have htr := turn_in hxr i
    obtain ⟨bl, capl, csl, rfl, hBl, hcl1, hcl2, hcl3, hcl4⟩ := own_some hownL (by omega)
    subst hBl
    replace hs := (show St _ _ ((bl, blk 3 csl) :: (OB ++ ((b3, blk 26 (m.cells p)) :: F))) from hs)
    obtain ⟨bx, ox, hbx2, hx⟩ := sl_ints (sl_own_ints (w0 := w0) (L := (bl, blk 3 csl) :: (OB ++ ((b3, blk 26 (m.cells p)) :: F))) (i := 0) rfl hf2 hcl4) hr2
    cases hbx2
    refine w_region ?_
    refine w_pure want_none (y_fieldAddr (o := 2) (i := 2) Try.underlying26 rfl Try.sizeOf24 rfl rfl rfl) rfl ?_
    refine w_pure want_none (yd_slice hbt (y_load1 Try.isAgg24 hs.tail.drop rfl rfl (show Ats _ _ _ _ [_] from Ats.part hbx 2 1))) rfl ?_
    refine w_pure want_none (y_move (v := .int _ _) rfl rfl) rfl ?_
    refine w_pure want_none (y_indexS Try.underlying24 Try.sizeOf63 rfl rfl rfl rfl (i := _) rfl (by omega)) rfl ?_
    refine w_pure want_none (y_loadN (vs := [_, _, _, _]) Try.isAgg63 Try.sizeOf63 hs.tail.drop.tail rfl rfl hxt) rfl ?_
    refine w_alloc (cs := [_, _, _, _]) want_none Try.zeroValue63 rfl hs (fun b34 w35 hs36 => ?_)
    refine w_store (i := 0) (v := .agg #[.int _ _, .int _ _, .int _ _, .int _ _]) (vs := [_, _, _, _]) want_none Try.sizeOf63 rfl rfl rfl rfl rfl (by simp [Value.oneCell']) hs36 rfl (Nat.le_of_ble_eq_true rfl) (fun w37 hs38 => ?_)
    refine w_nil ?_
    refine q_then (hK32 _ _ ?_)
    refine w_seq (fun K40 hK39 => ?_)
    refine w_region ?_
    refine w_pure want_none (y_assign (v := _) rfl rfl) rfl ?_
    refine w_nil ?_
    refine q_then (hK39 _ _ ?_)
    refine w_seq (fun K42 hK41 => ?_)
    refine w_cut [11, 27, 28, 29, 30, 31, 32, 33, 34, 35, 36, 37, 38, 39, 40, 41, 42] [11] (fun vs w => vs = [.int .i64 (anyN m x (anyTo m hands x i).2 i (m.trains[i]'hi2))] ∧ St w0 w ((b34, blk 63 (Train.cells (m.trains[i]'hi2))) :: ((bl, blk 3 csl) :: (OB ++ ((b3, blk 26 (m.cells p)) :: F))))) (fun K44 hC43 => ?_) ?_
    ·
     refine w_seq (fun K46 hK45 => ?_)
     refine w_region ?_
     refine w_pure want_none (y_loadN (vs := [_, _, _]) Try.isAgg26 Try.sizeOf26 hs38.tail.tail.drop rfl rfl hbx) rfl ?_
     refine w_pure want_none (y_loadN (vs := [_, _, _, _]) Try.isAgg63 Try.sizeOf63 hs38 rfl rfl (ats_own (i := 0) (vs := [_, _, _, _]) rfl rfl)) rfl ?_
     refine w_call want_none Try.call53 rfl rfl rfl rfl (c53 m _ hm.cons.app.cons.cons hok _ (List.getElem_mem hi2) hs38) ?_
     rintro _ w48 ⟨rfl, hs49⟩
     refine w_nil ?_
     refine q_then (hK45 _ _ ?_)
     refine w_cond rfl rfl (fun h50 => ?_) (fun h50 => ?_)
     ·
      try simp only [Bool.not_eq_true', Bool.not_eq_false', decide_eq_true_eq, decide_eq_false_iff_not, Int.not_lt, Int.not_le] at h50
      refine w_draw [] [(0, 0), (1, 0), (3, 0), (4, 1), (5, 0), (6, 0), (7, 1), (8, 0), (9, 1), (10, 0), (11, 0), (2, 2), (12, 0), (13, 0)] Try_mo (by kernel_rfl) hs49 (fun w51 hs52 => ?_)
      refine d_any rfl want_none rfl (fun _ => (y_move (v := .slice _ _ _) rfl rfl)) ?_
      refine d_any rfl want_none rfl (fun _ => (y_move (v := .int _ _) rfl rfl)) ?_
      refine d_any rfl want_none rfl (fun _ => (y_fieldAddr (o := 3) (i := 3) Try.underlying63 rfl Try.sizeOf3 rfl rfl rfl)) ?_
      refine d_take rfl want_none rfl hs52 (fun _ hq => (y_load1 Try.isAgg3 hq rfl rfl (ats_own (i := 0) (vs := [_]) rfl rfl))) ?_
      refine d_any rfl want_none rfl (fun _ => (y_move (v := .slice _ _ _) rfl rfl)) ?_
      refine d_any rfl want_none rfl (fun _ => (y_fieldAddr (o := 0) (i := 0) Try.underlying63 rfl Try.sizeOf3 rfl rfl rfl)) ?_
      refine d_take rfl want_none rfl hs52 (fun _ hq => (y_load1 Try.isAgg3 hq rfl rfl (ats_own (i := 0) (vs := [_]) rfl rfl))) ?_
      refine d_any rfl want_none rfl (fun _ => (y_indexS Try.underlying30 Try.sizeOf3 rfl rfl rfl rfl (i := (m.trains[i]'hi2).room.toNat) (by omega) (by omega))) ?_
      refine d_take rfl want_none rfl hs52 (fun _ hq => (y_load1 Try.isAgg3 hq.tail rfl rfl hx)) ?_
      refine d_any rfl want_none rfl (fun _ => (y_min2 rfl rfl rfl rfl)) ?_
      refine d_any rfl want_none rfl (fun _ => (y_add rfl rfl rfl rfl (by omega) (by omega))) ?_
      refine d_eff rfl ?_
      refine w_call want_none Try.call79 rfl rfl rfl rfl (c79 _ _ x hxl hxs.cons.app.cons.cons hxr i hs52) ?_
      rintro _ w54 ⟨rfl, hs55⟩
      refine w_nil ?_
      refine qn ⟨hs55, ?_⟩
      refine d_any rfl want_none rfl (fun _ => (y_rem rfl rfl rfl rfl (by omega) (by omega))) ?_
      refine d_any rfl want_none rfl (fun _ => (y_assign (v := .int _ _) rfl rfl)) ?_
      refine d_nil ?_
      refine q_then (hC43 _ _ (Md.intro (by repeat (first | exact agree_refl | exact agree_mix | refine agree_upd rfl ?_ | refine agree_updL rfl ?_ _ | refine agree_mixin rfl ?_)) ?_))
      first
        | exact ⟨by rw [anyN_yes (by assumption) hgd]; rfl, hs55⟩
        | exact ⟨by rw [anyN_no (by assumption)]; rfl, hs55⟩
     ·
      try simp only [Bool.not_eq_true', Bool.not_eq_false', decide_eq_true_eq, decide_eq_false_iff_not, Int.not_lt, Int.not_le] at h50
      refine w_skip ?_
      refine q_then (hC43 _ _ (Md.intro (by repeat (first | exact agree_refl | exact agree_mix | refine agree_upd rfl ?_ | refine agree_updL rfl ?_ _ | refine agree_mixin rfl ?_)) ?_))
      first
        | exact ⟨by rw [anyN_yes (by assumption) hgd]; rfl, hs49⟩
        | exact ⟨by rw [anyN_no (by assumption)]; rfl, hs49⟩
    ·
     intro vs μ w56 hM
     obtain ⟨rfl, hs⟩ := hM
     refine q_then (hK41 _ _ ?_)
     refine w_seq (fun K58 hK57 => ?_)
     refine w_draw [11] [(0, 0), (1, 0), (2, 1), (3, 0), (4, 0), (5, 1), (6, 0), (7, 1), (8, 0), (9, 0), (10, 0), (11, 3)] Try_mo (by kernel_rfl) hs (fun w59 hs60 => ?_)
     refine d_any rfl want_none rfl (fun _ => (y_move (v := .slice _ _ _) rfl rfl)) ?_
     refine d_any rfl want_none rfl (fun _ => (y_fieldAddr (o := 0) (i := 0) Try.underlying63 rfl Try.sizeOf3 rfl rfl rfl)) ?_
     refine d_take rfl want_none rfl hs60 (fun _ hq => (y_load1 Try.isAgg3 hq rfl rfl (ats_own (i := 0) (vs := [_]) rfl rfl))) ?_
     refine d_any rfl want_none rfl (fun _ => (y_move (v := .slice _ _ _) rfl rfl)) ?_
     refine d_any rfl want_none rfl (fun _ => (y_fieldAddr (o := 0) (i := 0) Try.underlying63 rfl Try.sizeOf3 rfl rfl rfl)) ?_
     refine d_take rfl want_none rfl hs60 (fun _ hq => (y_load1 Try.isAgg3 hq rfl rfl (ats_own (i := 0) (vs := [_]) rfl rfl))) ?_
     refine d_any rfl want_none rfl (fun _ => (y_indexS Try.underlying30 Try.sizeOf3 rfl rfl rfl rfl (i := (m.trains[i]'hi2).room.toNat) (by omega) (by omega))) ?_
     refine d_take rfl want_none rfl hs60 (fun _ hq => (y_load1 Try.isAgg3 hq.tail rfl rfl hx)) ?_
     refine d_any rfl want_none rfl (fun _ => (y_move (v := .int _ _) rfl rfl)) ?_
     refine d_any rfl want_none rfl (fun _ => (y_sub rfl rfl rfl rfl (by omega) (by omega))) ?_
     refine d_any rfl want_none rfl (fun _ => (y_indexS Try.underlying30 Try.sizeOf3 rfl rfl rfl rfl (i := (m.trains[i]'hi2).room.toNat) (by omega) (by omega))) ?_
     refine d_late rfl ?_
     refine w_store (i := 1) (v := .int _ _) (vs := [_]) want_none Try.sizeOf3 rfl rfl rfl rfl rfl (by simp [Value.oneCell']) hs60 rfl (show 0 + (m.trains[i]'hi2).room.toNat * 1 + 1 ≤ csl.length by omega) (fun w61 hs62 => ?_)
     have hcl5 : (csl.set ((m.trains[i]'hi2).room.toNat) (.int .i64 ((anyTo m hands x i).2[(m.trains[i]'hi2).room.toNat]'hr2 - anyN m x (anyTo m hands x i).2 i (m.trains[i]'hi2)))).take (m.rooms.length * 1) = iv (subAt (anyTo m hands x i).2 (m.trains[i]'hi2).room.toNat (anyN m x (anyTo m hands x i).2 i (m.trains[i]'hi2))) := subAt_cells hf2 hr2 hcl4
     replace hs62 := (show St _ _ (_ :: (bl, blk 3 (csl.set ((m.trains[i]'hi2).room.toNat) (.int .i64 ((anyTo m hands x i).2[(m.trains[i]'hi2).room.toNat]'hr2 - anyN m x (anyTo m hands x i).2 i (m.trains[i]'hi2))))) :: OB ++ (_ :: F)) from (by have h6 := hs62; simp only [setMany, Nat.zero_add, Nat.mul_one] at h6; exact h6))
     refine w_nil ?_
     refine qn ?_
     refine d_nil ?_
     refine q_then (hK57 _ _ ?_)
     refine w_region ?_
     refine w_pure want_none (y_move (v := vO) rfl rfl) rfl ?_
     refine w_pure want_none (y_move (v := .int _ _) rfl rfl) rfl ?_
     refine w_bslice (ps := [(0, _)]) (pv := [(0, .int _ _)]) (cs := [_]) want_none rfl rfl (fun w => Try_Ze_fb6 _ w) hs62 (fun b63 w64 hs65 => ?_)
     refine w_append (X := (_ :: _ :: _ :: [])) (B := OB) (rows := [[_]]) (sz := 1) (bytes := 8) want_none Try.underlying30 Try_info3 rfl rfl rfl rfl rfl rfl rfl rfl rfl hs65 hown (sl_own (i := 0) rfl (by simp) rfl) rfl (by simp) (by simp [Value.oneCell']) (by simp only [maxLen]; omega) (by omega) (fun v66 w67 B68 ho69 hs70 => ?_)
     replace hs70 := (show St _ _ (_ :: _ :: _ :: B68 ++ (_ :: F)) from hs70)
     refine w_pure want_none (y_assign (v := v66) rfl rfl) rfl ?_
     refine w_nil ?_
     refine q_blk_normal ?_
     refine q_then (hK30 _ _ ?_)
     refine w_region ?_
     refine w_pure want_none (y_move (v := .int _ _) rfl rfl) rfl ?_
     refine w_pure want_none (y_add rfl rfl rfl rfl (by omega) (by omega)) rfl ?_
     refine w_pure want_none (y_assign (v := .int _ _) rfl rfl) rfl ?_
     refine w_nil ?_
     refine q_then (hN22 _ _ (Nx.intro (m.trains.length - (i + 1)) (by omega) (by repeat (first | exact agree_mix | refine agree_upd rfl ?_ | refine agree_updL rfl ?_ _ | refine agree_mixin rfl ?_)) ?_))
     exact ⟨i + 1, _, [(bl, _)], _, rfl, by omega, rfl, by rw [anyTo_succ hi2]; exact own_set hf2 hcl1 hcl2 hcl3 hcl5, by rw [anyTo_succ hi2]; exact own_snoc ho69, hs70.tail.tail⟩
   ·
    try simp only [Bool.not_eq_true', Bool.not_eq_false', decide_eq_true_eq, decide_eq_false_iff_not, Int.not_lt, Int.not_le] at h29
    refine w_exit ?_
    refine q_then_exit ?_
    refine q_then_exit ?_
    refine q_blk_this ?_
    refine q_then (hK18 _ _ ?_)
    refine w_seq (fun K72 hK71 => ?_)
    refine w_region ?_
    refine w_pure want_none (y_move (v := vO) rfl rfl) rfl ?_
    refine w_pure want_none (y_assign (v := vO) rfl rfl) rfl ?_
    refine w_nil ?_
    refine q_then (hK71 _ _ ?_)
    refine w_ret ?_
    refine q_ret (l := [.tmp 6]) (vs := [_]) rfl ⟨⟨rfl, show _ = (vO : Value) from rfl⟩, trivial⟩ ?_
    have hil : i = m.trains.length := by omega
    subst hil
    obtain ⟨ag, cg, rfl, hsg, _, _⟩ := own_ints (w0 := w0) hown
    exact ⟨LB ++ (OB ++ [_]), ag, cg, rfl, hsg.top.app, by simp only [List.append_assoc]; exact hs⟩

end Go.Proofs
/- Plain laws of the shop layer: the fewest without, how many hands more. No conditions. -/
set_option linter.unusedSimpArgs false
set_option linter.unusedVariables false
namespace Go.Rt.Sh
theorem bit_test (b i : Nat) : bit b i = (b.testBit i).toNat := by
  unfold bit Nat.testBit
  have := Nat.and_one_is_mod (b >>> i)
  rw [Nat.and_comm 1, this]
  have h : b >>> i % 2 = 0 ∨ b >>> i % 2 = 1 := by omega
  rcases h with h | h <;> simp [h]
theorem bit_mod {b n i : Nat} (h : i < n) : bit (b % 2 ^ n) i = bit b i := by
  rw [bit_test, bit_test, Nat.testBit_mod_two_pow]; simp [h]
theorem listL_mod (b n : Nat) : ∀ k, k ≤ n → listL (b % 2 ^ n) k = listL b k
  | 0, _ => rfl
  | k + 1, h => by simp only [listL]; rw [listL_mod b n k (by omega), bit_mod (by omega)]
theorem list_rising : ∀ n : Nat, n < 5 → ∀ b < 16, b < 2 ^ n → rising (n : Int) (-1) (listL b n) = true := by decide +kernel
theorem asked_list {m : Market} (h : (check m).2.2 = 0) {sub : Nat} (hs : sub < 2 ^ m.shops.length) : askedE m (listL sub m.shops.length) = 0 := by
  have hok := check_ok h
  have hls := hok.ls
  have hr := list_rising m.shops.length (by omega) sub (pow_16 hls hs) hs
  have hA : askTo m (listL sub m.shops.length) (listL sub m.shops.length).length = 0 := by
    unfold askTo
    rw [if_neg (by simp [h]), List.take_length, if_neg]
    rw [Bool.not_eq_true, List.any_eq_false]
    intro x hx
    have := listL_in sub m.shops.length x hx
    simp [out]; omega
  unfold askedE
  rw [hA, hr]; simp
theorem can_list {m : Market} (h : (check m).2.2 = 0) {sub : Nat} (hs : sub < 2 ^ m.shops.length) : canP m (listL sub m.shops.length) = if servedR m (leastL m) (listL sub m.shops.length) then (1, 0) else if servedR m (mostL m) (listL sub m.shops.length) = false then (2, 0) else (0, 0) := by
  rw [← can_same]; unfold canR; rw [asked_list h hs, if_neg (by simp)]
theorem others_at {m : Market} (hok : m.Ok) (b : Nat) : ∃ c < 2 ^ m.shops.length, othersTo (listL b m.shops.length) m.shops.length = listL c m.shops.length := by
  have hls := hok.ls
  have hp : b % 2 ^ m.shops.length < 2 ^ m.shops.length := Nat.mod_lt _ (Nat.two_pow_pos _)
  have := others_list m.shops.length (by omega) (b % 2 ^ m.shops.length) (pow_16 hls hp) hp
  rw [listL_mod b _ _ (Nat.le_refl _)] at this
  exact ⟨_, this.2, this.1⟩
structure FewestF (m : Market) (b : Nat) : Prop where
  wp : withoutP m = (withoutL m, 0)
  ri : rising m.shops.length (-1) (withoutL m) = true
  how : canP m (othersTo (withoutL m) m.shops.length) = (1, 0)
  so : (canP m (othersTo (listL b m.shops.length) m.shops.length)).2 = 0
  less : (canP m (othersTo (listL b m.shops.length) m.shops.length)).1 = 1 → before (listL b m.shops.length) (withoutL m) = false
theorem fewest {m : Market} (h : (check m).2.2 = 0) (b : Nat) : FewestF m b := by
  have hok := check_ok h
  have hls := hok.ls
  have hne : ¬ ((check m).2.2 ≠ 0) := by simp [h]
  obtain ⟨w, hw, e, e1, e2, e3⟩ := without_sub hok
  have hmin := withoutL_min hok
  obtain ⟨c, hc, ec⟩ := others_at hok b
  refine ⟨by unfold withoutP; rw [if_neg hne], ?_, ?_, ?_, ?_⟩
  · rw [e]; exact list_rising _ (by omega) w (pow_16 hls hw) hw
  · rw [e1, can_list h e2, ← e1, e3]; rfl
  · rw [ec, can_list h hc]; split <;> (try split) <;> rfl
  · intro h1
    have hso : othersOk m (listL b m.shops.length) := by
      rw [ec, can_list h hc] at h1
      unfold othersOk
      rw [ec]
      split at h1
      · assumption
      · split at h1 <;> cases h1
    have hp : b % 2 ^ m.shops.length < 2 ^ m.shops.length := Nat.mod_lt _ (Nat.two_pow_pos _)
    have hn := others_nil m.shops.length (by omega)
    have hin : listL b m.shops.length ∈ setsL (othersTo [] m.shops.length) := by
      rw [hn.1, ← listL_mod b _ _ (Nat.le_refl _)]
      exact sets_all m.shops.length (by omega) _ hn.2.2.2.1 hn.2.1 _ (pow_16 hls hp) ((diff_all m.shops.length (by omega) _ (pow_16 hls hp)).2 hp)
    rcases hmin.2.2 _ hin hso with h2 | h2
    · rw [h2]; exact before_irrefl _
    · exact before_asymm h2
theorem withoutP_bad {m : Market} (h : (check m).2.2 ≠ 0) : withoutP m = ([], (check m).2.2) := by unfold withoutP; rw [if_pos h]
/-! ### More -/
theorem moreToR_spec (m : Market) (r : Nat) : ∀ k i, (∀ n, moreToR m r i k = some n → i ≤ n ∧ n < i + k ∧ servedR m (leastL (withM m r n)) (allL' m) = true ∧ ∀ j : Nat, i ≤ j → j < n → servedR m (leastL (withM m r j)) (allL' m) = false) ∧ (moreToR m r i k = none → ∀ j : Nat, i ≤ j → j < i + k → servedR m (leastL (withM m r j)) (allL' m) = false)
  | 0, i => ⟨fun n h => by simp [moreToR] at h, fun _ j h1 h2 => by omega⟩
  | k + 1, i => by
    obtain ⟨ih1, ih2⟩ := moreToR_spec m r k (i + 1)
    unfold moreToR
    by_cases hs : servedR m (leastL (withM m r i)) (allL' m) = true
    · rw [if_pos hs]
      exact ⟨fun n h => by cases h; exact ⟨by omega, by omega, hs, fun j h1 h2 => by omega⟩, fun h => by cases h⟩
    · rw [if_neg hs]
      refine ⟨fun n h => ?_, fun h j h1 h2 => ?_⟩
      · obtain ⟨a, b, c, d⟩ := ih1 n h
        refine ⟨by omega, by omega, c, fun j h1 h2 => ?_⟩
        by_cases e : j = i
        · subst e; simpa using hs
        · exact d j (by omega) h2
      · by_cases e : j = i
        · subst e; simpa using hs
        · exact ih2 h j (by omega) (by omega)
theorem withM_zero {m : Market} {r : Nat} (hr : r < m.rooms.length) : leastL (withM m r 0) = leastL m := by
  rw [leastL_with _ hr]
  have := subAt_zero (leastL m) r
  unfold subAt at this
  simpa using this
theorem without_nil {m : Market} (hok : m.Ok) : withoutL m = [] ↔ servedR m (leastL m) (allL' m) = true := by
  obtain ⟨h1, h2, h3⟩ := withoutL_min hok
  constructor
  · intro h; unfold othersOk at h2; rw [h] at h2; exact h2
  · intro h
    have hn := others_nil m.shops.length (by have := hok.ls; omega)
    have hin : listL 0 m.shops.length ∈ setsL (othersTo [] m.shops.length) := by
      rw [hn.1]
      exact sets_all m.shops.length (by have := hok.ls; omega) _ hn.2.2.2.1 hn.2.1 0 (by omega) (by simp [bitDiff])
    have e0 : listL 0 m.shops.length = [] := by
      have : ∀ k, listL 0 k = [] := by intro k; induction k with | zero => rfl | succ k ih => simp [listL, ih, bit]
      exact this _
    rw [e0] at hin
    rcases h3 [] hin h with h4 | h4
    · exact h4.symm
    · unfold before at h4
      cases hw : withoutL m with
      | nil => rfl
      | cons x l => rw [hw] at h4; simp [less] at h4
structure MoreF (m : Market) (r : Nat) : Prop where
  wp : (withoutP m).2 = 0
  eq : ((moreP m r).2 = 0 ∧ (moreP m r).1 = 0) ↔ (withoutP m).1.length = 0
  bad : (moreP m r).2 ≠ 0 → (moreP m r).2 = 9 ∧ (moreP m r).1 = 0 ∧ servedR m (leastL (withM m r 60)) (allL' m) = false
  good : (moreP m r).2 = 0 → 0 ≤ (moreP m r).1 ∧ (moreP m r).1 ≤ 60 ∧ servedR m (leastL (withM m r (moreP m r).1)) (allL' m) = true ∧ ((moreP m r).1 ≠ 0 → servedR m (leastL (withM m r ((moreP m r).1 - 1))) (allL' m) = false)
theorem more_facts {m : Market} (h : (check m).2.2 = 0) {r : Nat} (hr : r < m.rooms.length) : MoreF m r := by
  have hok := check_ok h
  have hne : ¬ ((check m).2.2 ≠ 0) := by simp [h]
  have hwp : withoutP m = (withoutL m, 0) := by unfold withoutP; rw [if_neg hne]
  have hee : enterE m m.rooms.length [(r : Int)] = 0 := enterE_0 h (by simp [out]; omega)
  obtain ⟨s1, s2⟩ := moreToR_spec m r 61 0
  have hn := without_nil hok
  cases e : moreToR m r 0 61 with
  | none =>
    have hm : moreP m r = (0, 9) := by rw [← more_same]; exact moreR_3 hee e
    have hf := s2 e
    refine ⟨by rw [hwp], ?_, by rw [hm]; exact fun _ => ⟨rfl, rfl, hf 60 (by omega) (by omega)⟩, by rw [hm]; exact fun h => by simp at h⟩
    rw [hwp, hm]
    constructor
    · rintro ⟨h1, _⟩; simp at h1
    · intro h1
      have h2 := hn.1 (List.length_eq_zero_iff.1 h1)
      have h3 := hf 0 (by omega) (by omega)
      rw [show ((0 : Nat) : Int) = 0 from rfl, withM_zero hr, h2] at h3
      cases h3
  | some k =>
    have hm : moreP m r = ((k : Int), 0) := by rw [← more_same]; exact moreR_2 hee e
    obtain ⟨_, a2, a3, a4⟩ := s1 k e
    have hlast : k ≠ 0 → servedR m (leastL (withM m r ((k : Int) - 1))) (allL' m) = false := fun h0 => by
      have := a4 (k - 1) (by omega) (by omega)
      rwa [show (((k - 1 : Nat)) : Int) = (k : Int) - 1 by omega] at this
    refine ⟨by rw [hwp], ?_, by rw [hm]; exact fun h => by simp at h, by rw [hm]; exact fun _ => ⟨by dsimp only; omega, by dsimp only; omega, a3, fun h0 => hlast (by dsimp only at h0; omega)⟩⟩
    · rw [hwp, hm]
      constructor
      · rintro ⟨_, h1⟩
        have : k = 0 := by dsimp only at h1; omega
        subst this
        rw [show ((0 : Nat) : Int) = 0 from rfl, withM_zero hr] at a3
        rw [hn.2 a3]; rfl
      · intro h1
        have h2 := hn.1 (List.length_eq_zero_iff.1 h1)
        refine ⟨rfl, ?_⟩
        rcases Nat.eq_zero_or_pos k with h3 | h3
        · subst h3; rfl
        · have h4 := a4 0 (by omega) h3
          rw [show ((0 : Nat) : Int) = 0 from rfl, withM_zero hr, h2] at h4
          cases h4
theorem moreP_bad {m : Market} {z : Int} (h : (check m).2.2 ≠ 0 ∨ m.rooms.length = 0) : (moreP m z).1 = 0 ∧ (moreP m z).2 ≠ 0 := by
  have he : enterE m m.rooms.length [z] ≠ 0 := by
    by_cases h1 : (check m).2.2 = 0
    · have h2 : m.rooms.length = 0 := by rcases h with h | h; exact absurd h1 h; exact h
      rw [enterE_2 h1 (by rw [h2]; simp [out]; omega)]; decide
    · rw [enterE_1 h1]; exact h1
  rw [moreP_1' he]; exact ⟨rfl, he⟩
where moreP_1' {m : Market} {r : Int} (h : enterE m m.rooms.length [r] ≠ 0) : moreP m r = (0, enterE m m.rooms.length [r]) := by unfold moreP; rw [if_pos h]
end Go.Rt.Sh
/- Walks of this seat, printed by gen.py over the engine: what each function returns, in whatever world. No conditions but those of each contract. -/
set_option linter.unusedVariables false
set_option linter.unusedSimpArgs false
set_option maxRecDepth 20000
namespace Go.Proofs
open Go.Rt Go.Rt.Sh
attribute [local irreducible] WL WC Con Yd At Ats Sl Agree DW

theorem goes_short (m : Market) : (goesP m).1.length ≤ m.trains.length := by
  unfold goesP
  split
  · simp
  · exact goesTo_len m _
theorem c3 {w0 w : World} {F : List (Nat × Obj)} (m : Market) (p : At3) (hm : MIn w0 F m p)  (hs : St w0 w F) :
  Con Try.prog 3 [.agg (m.cells p).toArray] w fun v w' => v = .bool true ∧ St w0 w' F := by
  refine con_of_wc (n := 57) Try.func3 rfl rfl (Nat.le_of_ble_eq_true rfl) ?_
  have hlt := hm.lt
  refine w_seq (fun K2 hK1 => ?_)
  refine w_region ?_
  refine w_box (v := .agg #[.slice _ _ _, .slice _ _ _, .slice _ _ _]) (cs := [_, _, _]) want_none rfl rfl rfl hs (fun b3 w4 hs5 => ?_)
  refine w_pure want_none (y_assign (v := _) rfl rfl) rfl ?_
  refine w_nil ?_
  refine q_then (hK1 _ _ ?_)
  refine w_seq (fun K7 hK6 => ?_)
  have hbx : Ats w0 ((b3, blk 26 (m.cells p)) :: F) b3 0 (m.cells p) := ats_own (i := 0) (vs := m.cells p) rfl rfl
  refine w_region ?_
  refine w_pure want_none (y_loadN (vs := [_, _, _]) Try.isAgg26 Try.sizeOf26 hs5 rfl rfl hbx) rfl ?_
  refine w_call want_none Try.call16 rfl rfl rfl rfl (c16 m _ hm.cons hs5) ?_
  rintro _ w9 ⟨rfl, hs10⟩
  refine w_pure want_none (y_move (v := .tuple _) rfl rfl) rfl ?_
  refine w_pure want_none (y_extract (v := .int _ _) rfl rfl rfl) rfl ?_
  refine w_pure want_none (y_extract (v := .int _ _) rfl rfl rfl) rfl ?_
  refine w_pure want_none (y_extract (v := .int _ _) rfl rfl rfl) rfl ?_
  refine w_pure want_none (y_assign (v := .int _ _) rfl rfl) rfl ?_
  refine w_pure want_none (y_assign (v := .int _ _) rfl rfl) rfl ?_
  refine w_pure want_none (y_assign (v := .int _ _) rfl rfl) rfl ?_
  refine w_nil ?_
  refine q_then (hK6 _ _ ?_)
  refine w_seq (fun K12 hK11 => ?_)
  refine w_region ?_
  refine w_pure want_none (y_loadN (vs := [_, _, _]) Try.isAgg26 Try.sizeOf26 hs10 rfl rfl hbx) rfl ?_
  refine w_call want_none Try.call17 rfl rfl rfl rfl (c17 m _ hm.cons hs10) ?_
  rintro _ w14 ⟨rfl, hs15⟩
  refine w_pure want_none (y_move (v := .tuple _) rfl rfl) rfl ?_
  refine w_pure want_none (y_extract (v := .int _ _) rfl rfl rfl) rfl ?_
  refine w_pure want_none (y_extract (v := .int _ _) rfl rfl rfl) rfl ?_
  refine w_pure want_none (y_extract (v := .int _ _) rfl rfl rfl) rfl ?_
  refine w_pure want_none (y_assign (v := .int _ _) rfl rfl) rfl ?_
  refine w_pure want_none (y_assign (v := .int _ _) rfl rfl) rfl ?_
  refine w_pure want_none (y_assign (v := .int _ _) rfl rfl) rfl ?_
  refine w_nil ?_
  refine q_then (hK11 _ _ ?_)
  refine w_seq (fun K17 hK16 => ?_)
  refine w_seq (fun K19 hK18 => ?_)
  refine w_region ?_
  refine w_pure want_none (y_move (v := .int _ _) rfl rfl) rfl ?_
  refine w_pure want_none (y_move (v := .int _ _) rfl rfl) rfl ?_
  refine w_pure want_none (y_neq rfl rfl rfl rfl) rfl ?_
  refine w_pure want_none (y_move (v := .bool _) rfl rfl) rfl ?_
  refine w_split (fun h20 => ?_) (fun h20 => ?_)
  ·
   exfalso; simp at h20
  ·
   try simp only [Bool.not_eq_true', Bool.not_eq_false', decide_eq_true_eq, decide_eq_false_iff_not, Int.not_lt, Int.not_le] at h20
   refine w_pure (want_yes rfl rfl rfl) (y_move (v := .int _ _) rfl rfl) rfl ?_
   refine w_pure (want_yes rfl rfl rfl) (y_move (v := .int _ _) rfl rfl) rfl ?_
   refine w_pure (want_yes rfl rfl rfl) (y_neq rfl rfl rfl rfl) rfl ?_
   refine w_pure want_none (y_pickF (v := .bool _) rfl rfl rfl rfl) rfl ?_
   refine w_pure want_none (y_move (v := .bool _) rfl rfl) rfl ?_
   refine w_split (fun h21 => ?_) (fun h21 => ?_)
   ·
    exfalso; simp at h21
   ·
    try simp only [Bool.not_eq_true', Bool.not_eq_false', decide_eq_true_eq, decide_eq_false_iff_not, Int.not_lt, Int.not_le] at h21
    refine w_pure (want_yes rfl rfl rfl) (y_move (v := .int _ _) rfl rfl) rfl ?_
    refine w_pure (want_yes rfl rfl rfl) (y_move (v := .int _ _) rfl rfl) rfl ?_
    refine w_pure (want_yes rfl rfl rfl) (y_neq rfl rfl rfl rfl) rfl ?_
    refine w_pure want_none (y_pickF (v := .bool _) rfl rfl rfl rfl) rfl ?_
    refine w_nil ?_
    refine q_then (hK18 _ _ ?_)
    refine w_cond rfl rfl (fun h22 => ?_) (fun h22 => ?_)
    ·
     exfalso; simp at h22
    ·
     try simp only [Bool.not_eq_true', Bool.not_eq_false', decide_eq_true_eq, decide_eq_false_iff_not, Int.not_lt, Int.not_le] at h22
     refine w_skip ?_
     refine q_then (hK16 _ _ ?_)
     refine w_seq (fun K24 hK23 => ?_)
     refine w_region ?_
     refine w_pure want_none (y_loadN (vs := [_, _, _]) Try.isAgg26 Try.sizeOf26 hs15 rfl rfl hbx) rfl ?_
     refine w_call want_none Try.call18 rfl rfl rfl rfl (c18 m _ hm.cons hs15) ?_
     rintro _ w26 ⟨B1, a1, c1, rfl, hq1, hs27⟩
     replace hs27 := (show St _ _ (B1 ++ (_ :: F)) from hs27)
     refine w_pure want_none (y_move (v := .tuple _) rfl rfl) rfl ?_
     refine w_pure want_none (y_extract (v := .slice _ _ _) rfl rfl rfl) rfl ?_
     refine w_pure want_none (y_extract (v := .int _ _) rfl rfl rfl) rfl ?_
     refine w_pure want_none (y_assign (v := .slice _ _ _) rfl rfl) rfl ?_
     refine w_pure want_none (y_assign (v := .int _ _) rfl rfl) rfl ?_
     refine w_nil ?_
     refine q_then (hK23 _ _ ?_)
     refine w_seq (fun K29 hK28 => ?_)
     refine w_region ?_
     refine w_pure want_none (y_loadN (vs := [_, _, _]) Try.isAgg26 Try.sizeOf26 hs27.drop rfl rfl hbx) rfl ?_
     refine w_call want_none Try.call19 rfl rfl rfl rfl (c19 m _ hm.cons.app hs27) ?_
     rintro _ w31 ⟨B2, a2, c2, rfl, hq2, hs32⟩
     replace hs32 := (show St _ _ (B2 ++ (B1 ++ (_ :: F))) from hs32)
     refine w_pure want_none (y_move (v := .tuple _) rfl rfl) rfl ?_
     refine w_pure want_none (y_extract (v := .slice _ _ _) rfl rfl rfl) rfl ?_
     refine w_pure want_none (y_extract (v := .int _ _) rfl rfl rfl) rfl ?_
     refine w_pure want_none (y_assign (v := .slice _ _ _) rfl rfl) rfl ?_
     refine w_pure want_none (y_assign (v := .int _ _) rfl rfl) rfl ?_
     refine w_nil ?_
     refine q_then (hK28 _ _ ?_)
     refine w_seq (fun K34 hK33 => ?_)
     refine w_region ?_
     refine w_pure want_none (y_move (v := .slice _ _ _) rfl rfl) rfl ?_
     refine w_pure want_none (y_move (v := .slice _ _ _) rfl rfl) rfl ?_
     refine w_call want_none Try.call20 rfl rfl rfl rfl (c20 _ _ (goesP m).1 (goesP m).1 _ _ (by have := goes_short m; omega) hq1.top.app hq2.top hs32) ?_
     rintro _ w36 ⟨rfl, hs37⟩
     refine w_pure want_none (y_move (v := .bool _) rfl rfl) rfl ?_
     refine w_split (fun h38 => ?_) (fun h38 => ?_)
     ·
      try simp only [Bool.not_eq_true', Bool.not_eq_false', decide_eq_true_eq, decide_eq_false_iff_not, Int.not_lt, Int.not_le] at h38
      refine w_pure (want_yes rfl rfl rfl) (y_move (v := .int _ _) rfl rfl) rfl ?_
      refine w_pure (want_yes rfl rfl rfl) (y_move (v := .int _ _) rfl rfl) rfl ?_
      refine w_pure (want_yes rfl rfl rfl) (y_eql rfl rfl rfl rfl) rfl ?_
      refine w_pure want_none (y_pickT (v := .bool _) rfl rfl rfl rfl) rfl ?_
      refine w_pure want_none (y_move (v := .bool _) rfl rfl) rfl ?_
      refine w_split (fun h39 => ?_) (fun h39 => ?_)
      ·
       try simp only [Bool.not_eq_true', Bool.not_eq_false', decide_eq_true_eq, decide_eq_false_iff_not, Int.not_lt, Int.not_le] at h39
       refine w_call (want_yes rfl rfl rfl) Try.call21 rfl rfl rfl rfl (c21 hs37) ?_
       rintro _ w41 ⟨rfl, hs42⟩
       refine w_pure want_none (y_pickT (v := .bool _) rfl rfl rfl rfl) rfl ?_
       refine w_pure want_none (y_assign (v := .bool _) rfl rfl) rfl ?_
       refine w_nil ?_
       refine q_then (hK33 _ _ ?_)
       refine w_ret ?_
       refine q_ret (l := [.tmp 2]) (vs := [_]) rfl ⟨⟨rfl, show _ = (.bool _ : Value) from rfl⟩, trivial⟩ ?_
       exact ⟨rfl, hs42.drop.drop.tail⟩
      ·
       exfalso; simp at h39
     ·
      exfalso; simp at h38

end Go.Proofs
/- Walks of this seat, printed by gen.py over the engine: what each function returns, in whatever world. No conditions but those of each contract. -/
set_option linter.unusedVariables false
set_option linter.unusedSimpArgs false
set_option maxRecDepth 20000
namespace Go.Proofs
open Go.Rt Go.Rt.Sh
attribute [local irreducible] WL WC Con Yd At Ats Sl Agree DW

theorem with_con {w0 w : World} {F : List (Nat × Obj)} (m : Market) (p : At3) (hm : MIn w0 F m p) (r : Nat) (hr2 : r < m.rooms.length) (x : Int) (hx : 0 ≤ x ∧ x ≤ 60) (hxb : ∀ y ∈ m.rooms, 0 ≤ y.lo ∧ y.lo ≤ 200 ∧ 0 ≤ y.hi ∧ y.hi ≤ 200) (hl3 : m.rooms.length ≤ 3) (z : Int) (hz : z = r) (hs : St w0 w F) :
    Con Try.prog 50 [.agg (m.cells p).toArray, .int .i64 z, .int .i64 x] w fun v w' => ∃ B p', v = .agg ((withM m r x).cells p').toArray ∧ MIn w0 (B ++ F) (withM m r x) p' ∧ St w0 w' (B ++ F) := by
  subst hz; exact c50 m p hm r hr2 x hx hxb hl3 hs
theorem more_con {w0 w : World} {F : List (Nat × Obj)} (m : Market) (p : At3) (hm : MIn w0 F m p) (r : Nat) (z : Int) (hz : z = r) (hs : St w0 w F) :
    Con Try.prog 30 [.agg (m.cells p).toArray, .int .i64 z] w fun v w' => v = .tuple #[.int .i64 (moreP m r).1, .int .i64 (moreP m r).2] ∧ St w0 w' F := by
  subst hz; exact c30 m p hm r hs
theorem c12 {w0 w : World} {F : List (Nat × Obj)} (m : Market) (p : At3) (hm : MIn w0 F m p) (z : Int) (hz : 0 ≤ z ∧ z ≤ 255) (hs : St w0 w F) :
  Con Try.prog 12 [.agg (m.cells p).toArray, .int .u8 z] w fun v w' => v = .bool true ∧ St w0 w' F := by
  refine con_of_wc (n := 121) Try.func12 rfl rfl (Nat.le_of_ble_eq_true rfl) ?_
  have hlr0 := hm.lr
  refine w_seq (fun K2 hK1 => ?_)
  refine w_region ?_
  refine w_box (v := .agg #[.slice _ _ _, .slice _ _ _, .slice _ _ _]) (cs := [_, _, _]) want_none rfl rfl rfl hs (fun b3 w4 hs5 => ?_)
  refine w_pure want_none (y_assign (v := _) rfl rfl) rfl ?_
  refine w_nil ?_
  refine q_then (hK1 _ _ ?_)
  refine w_seq (fun K7 hK6 => ?_)
  refine w_seq (fun K9 hK8 => ?_)
  have hbx : Ats w0 ((b3, blk 26 (m.cells p)) :: F) b3 0 (m.cells p) := ats_own (i := 0) (vs := m.cells p) rfl rfl
  refine w_region ?_
  refine w_pure want_none (y_loadN (vs := [_, _, _]) Try.isAgg26 Try.sizeOf26 hs5 rfl rfl hbx) rfl ?_
  refine w_call want_none Try.call35 rfl rfl rfl rfl (c35 m _ hm.cons hs5) ?_
  rintro _ w11 ⟨rfl, hs12⟩
  refine w_pure want_none (y_not rfl rfl) rfl ?_
  refine w_pure want_none (y_move (v := .bool _) rfl rfl) rfl ?_
  refine w_split (fun h13 => ?_) (fun h13 => ?_)
  ·
   try simp only [Bool.not_eq_true', Bool.not_eq_false', decide_eq_true_eq, decide_eq_false_iff_not, Int.not_lt, Int.not_le] at h13
   refine w_skipop rfl rfl rfl ?_
   refine w_skipop rfl rfl rfl ?_
   refine w_skipop rfl rfl rfl ?_
   refine w_skipop rfl rfl rfl ?_
   refine w_pure want_none (y_pickT (v := _) rfl rfl rfl rfl) rfl ?_
   refine w_nil ?_
   refine q_then (hK8 _ _ ?_)
   refine w_condT rfl rfl ?_
   refine w_seq (fun K15 hK14 => ?_)
   have hbad : (check m).2.2 ≠ 0 ∨ m.rooms.length = 0 := by first | (left; intro h0; simp_all; done) | (right; omega)
   have hmb := moreP_bad (z := 0) hbad
   refine w_region ?_
   refine w_pure want_none (y_loadN (vs := [_, _, _]) Try.isAgg26 Try.sizeOf26 hs12 rfl rfl hbx) rfl ?_
   refine w_call want_none Try.call30 rfl rfl rfl rfl (c30 m _ hm.cons 0 hs12) ?_
   rintro _ w17 ⟨rfl, hs18⟩
   refine w_pure want_none (y_move (v := .tuple _) rfl rfl) rfl ?_
   refine w_pure want_none (y_extract (v := .int _ _) rfl rfl rfl) rfl ?_
   refine w_pure want_none (y_extract (v := .int _ _) rfl rfl rfl) rfl ?_
   refine w_pure want_none (y_assign (v := .int _ _) rfl rfl) rfl ?_
   refine w_pure want_none (y_assign (v := .int _ _) rfl rfl) rfl ?_
   refine w_nil ?_
   refine q_then (hK14 _ _ ?_)
   refine w_seq (fun K20 hK19 => ?_)
   refine w_region ?_
   refine w_pure want_none (y_move (v := .int _ _) rfl rfl) rfl ?_
   refine w_pure want_none (y_neq rfl rfl rfl rfl) rfl ?_
   refine w_pure want_none (y_move (v := .bool _) rfl rfl) rfl ?_
   refine w_split (fun h21 => ?_) (fun h21 => ?_)
   ·
    try simp only [Bool.not_eq_true', Bool.not_eq_false', decide_eq_true_eq, decide_eq_false_iff_not, Int.not_lt, Int.not_le] at h21
    refine w_pure (want_yes rfl rfl rfl) (y_move (v := .int _ _) rfl rfl) rfl ?_
    refine w_pure (want_yes rfl rfl rfl) (y_eql rfl rfl rfl rfl) rfl ?_
    refine w_pure want_none (y_pickT (v := .bool _) rfl rfl rfl rfl) rfl ?_
    refine w_pure want_none (y_move (v := .bool _) rfl rfl) rfl ?_
    refine w_split (fun h22 => ?_) (fun h22 => ?_)
    ·
     try simp only [Bool.not_eq_true', Bool.not_eq_false', decide_eq_true_eq, decide_eq_false_iff_not, Int.not_lt, Int.not_le] at h22
     refine w_call (want_yes rfl rfl rfl) Try.call21 rfl rfl rfl rfl (c21 hs18) ?_
     rintro _ w24 ⟨rfl, hs25⟩
     refine w_pure want_none (y_pickT (v := .bool _) rfl rfl rfl rfl) rfl ?_
     refine w_pure want_none (y_assign (v := .bool _) rfl rfl) rfl ?_
     refine w_nil ?_
     refine q_then (hK19 _ _ ?_)
     refine w_ret ?_
     refine q_then_ret ?_
     refine q_ret (l := [.tmp 4]) (vs := [_]) rfl ⟨⟨rfl, show _ = (.bool _ : Value) from rfl⟩, trivial⟩ ?_
     exact ⟨rfl, hs25.tail⟩
    ·
     exfalso
     try simp only [Bool.not_eq_true', Bool.not_eq_false', decide_eq_true_eq, decide_eq_false_iff_not, Int.not_lt, Int.not_le] at h22
     omega
   ·
    exfalso
    try simp only [Bool.not_eq_true', Bool.not_eq_false', decide_eq_true_eq, decide_eq_false_iff_not, Int.not_lt, Int.not_le] at h21
    exact hmb.2 (by assumption)
  ·
   try simp only [Bool.not_eq_true', Bool.not_eq_false', decide_eq_true_eq, decide_eq_false_iff_not, Int.not_lt, Int.not_le] at h13
   refine w_pure (want_yes rfl rfl rfl) (y_fieldAddr (o := 0) (i := 0) Try.underlying26 rfl Try.sizeOf22 rfl rfl rfl) rfl ?_
   refine w_pure (want_yes rfl rfl rfl) (y_load1 Try.isAgg22 hs12 rfl rfl (show Ats _ _ _ _ [_] from Ats.part hbx 0 1)) rfl ?_
   refine w_pure (want_yes rfl rfl rfl) (y_lenS Try.underlying22 rfl rfl) rfl ?_
   refine w_pure (want_yes rfl rfl rfl) (y_eql rfl rfl rfl rfl) rfl ?_
   refine w_pure want_none (y_pickF (v := .bool _) rfl rfl rfl rfl) rfl ?_
   refine w_nil ?_
   refine q_then (hK8 _ _ ?_)
   refine w_cond rfl rfl (fun h26 => ?_) (fun h26 => ?_)
   ·
    try simp only [Bool.not_eq_true', Bool.not_eq_false', decide_eq_true_eq, decide_eq_false_iff_not, Int.not_lt, Int.not_le] at h26
    refine w_seq (fun K28 hK27 => ?_)
    have hbad : (check m).2.2 ≠ 0 ∨ m.rooms.length = 0 := by first | (left; intro h0; simp_all; done) | (right; omega)
    have hmb := moreP_bad (z := 0) hbad
    refine w_region ?_
    refine w_pure want_none (y_loadN (vs := [_, _, _]) Try.isAgg26 Try.sizeOf26 hs12 rfl rfl hbx) rfl ?_
    refine w_call want_none Try.call30 rfl rfl rfl rfl (c30 m _ hm.cons 0 hs12) ?_
    rintro _ w30 ⟨rfl, hs31⟩
    refine w_pure want_none (y_move (v := .tuple _) rfl rfl) rfl ?_
    refine w_pure want_none (y_extract (v := .int _ _) rfl rfl rfl) rfl ?_
    refine w_pure want_none (y_extract (v := .int _ _) rfl rfl rfl) rfl ?_
    refine w_pure want_none (y_assign (v := .int _ _) rfl rfl) rfl ?_
    refine w_pure want_none (y_assign (v := .int _ _) rfl rfl) rfl ?_
    refine w_nil ?_
    refine q_then (hK27 _ _ ?_)
    refine w_seq (fun K33 hK32 => ?_)
    refine w_region ?_
    refine w_pure want_none (y_move (v := .int _ _) rfl rfl) rfl ?_
    refine w_pure want_none (y_neq rfl rfl rfl rfl) rfl ?_
    refine w_pure want_none (y_move (v := .bool _) rfl rfl) rfl ?_
    refine w_split (fun h34 => ?_) (fun h34 => ?_)
    ·
     try simp only [Bool.not_eq_true', Bool.not_eq_false', decide_eq_true_eq, decide_eq_false_iff_not, Int.not_lt, Int.not_le] at h34
     refine w_pure (want_yes rfl rfl rfl) (y_move (v := .int _ _) rfl rfl) rfl ?_
     refine w_pure (want_yes rfl rfl rfl) (y_eql rfl rfl rfl rfl) rfl ?_
     refine w_pure want_none (y_pickT (v := .bool _) rfl rfl rfl rfl) rfl ?_
     refine w_pure want_none (y_move (v := .bool _) rfl rfl) rfl ?_
     refine w_split (fun h35 => ?_) (fun h35 => ?_)
     ·
      try simp only [Bool.not_eq_true', Bool.not_eq_false', decide_eq_true_eq, decide_eq_false_iff_not, Int.not_lt, Int.not_le] at h35
      refine w_call (want_yes rfl rfl rfl) Try.call21 rfl rfl rfl rfl (c21 hs31) ?_
      rintro _ w37 ⟨rfl, hs38⟩
      refine w_pure want_none (y_pickT (v := .bool _) rfl rfl rfl rfl) rfl ?_
      refine w_pure want_none (y_assign (v := .bool _) rfl rfl) rfl ?_
      refine w_nil ?_
      refine q_then (hK32 _ _ ?_)
      refine w_ret ?_
      refine q_then_ret ?_
      refine q_ret (l := [.tmp 4]) (vs := [_]) rfl ⟨⟨rfl, show _ = (.bool _ : Value) from rfl⟩, trivial⟩ ?_
      exact ⟨rfl, hs38.tail⟩
     ·
      exfalso
      try simp only [Bool.not_eq_true', Bool.not_eq_false', decide_eq_true_eq, decide_eq_false_iff_not, Int.not_lt, Int.not_le] at h35
      omega
    ·
     exfalso
     try simp only [Bool.not_eq_true', Bool.not_eq_false', decide_eq_true_eq, decide_eq_false_iff_not, Int.not_lt, Int.not_le] at h34
     exact hmb.2 (by assumption)
   ·
    try simp only [Bool.not_eq_true', Bool.not_eq_false', decide_eq_true_eq, decide_eq_false_iff_not, Int.not_lt, Int.not_le] at h26
    refine w_skip ?_
    refine q_then (hK6 _ _ ?_)
    refine w_seq (fun K40 hK39 => ?_)
    have hck : (check m).2.2 = 0 := by first | assumption | (refine Decidable.byContradiction fun h0 => ?_; simp_all)
    have hok := check_ok hck
    have hlr := hok.lr
    have hls := hok.ls
    have hrn : 0 < m.rooms.length := by omega
    have hot := othersTo_len [] m.shops.length
    have hoi := othersTo_in [] m.shops.length
    have hq0 := Int.emod_nonneg z (show (m.rooms.length : Int) ≠ 0 by omega)
    have hq1 := Int.emod_lt_of_pos z (show 0 < (m.rooms.length : Int) by omega)
    obtain ⟨q, hqe⟩ : ∃ q : Nat, (z % (m.rooms.length : Int)) = (q : Int) := ⟨((z % (m.rooms.length : Int))).toNat, by omega⟩
    have hq2 : q < m.rooms.length := by omega
    have hF := more_facts hck hq2
    have hwp := hF.wp
    have heq := hF.eq
    have hwsh := withoutL_len m
    refine w_region ?_
    refine w_pure want_none (y_move (v := .int _ _) rfl rfl) rfl ?_
    refine w_pure want_none (y_u8int (by rw [Try.underlying5]; rfl) Try.underlying3 rfl rfl (by omega) (by omega)) rfl ?_
    refine w_pure want_none (y_fieldAddr (o := 0) (i := 0) Try.underlying26 rfl Try.sizeOf22 rfl rfl rfl) rfl ?_
    refine w_pure want_none (y_load1 Try.isAgg22 hs12 rfl rfl (show Ats _ _ _ _ [_] from Ats.part hbx 0 1)) rfl ?_
    refine w_pure want_none (y_lenS Try.underlying22 rfl rfl) rfl ?_
    refine w_pure want_none (y_rem rfl rfl rfl rfl (by omega) (by omega)) rfl ?_
    refine w_pure want_none (y_assign (v := .int _ _) rfl rfl) rfl ?_
    refine w_nil ?_
    refine q_then (hK39 _ _ ?_)
    refine w_seq (fun K42 hK41 => ?_)
    refine w_region ?_
    refine w_pure want_none (y_loadN (vs := [_, _, _]) Try.isAgg26 Try.sizeOf26 hs12 rfl rfl hbx) rfl ?_
    refine w_pure want_none (y_move (v := .int _ _) rfl rfl) rfl ?_
    refine w_call want_none Try.call30 rfl rfl rfl rfl (more_con m _ hm.cons q _ hqe hs12) ?_
    rintro _ w44 ⟨rfl, hs45⟩
    refine w_pure want_none (y_move (v := .tuple _) rfl rfl) rfl ?_
    refine w_pure want_none (y_extract (v := .int _ _) rfl rfl rfl) rfl ?_
    refine w_pure want_none (y_extract (v := .int _ _) rfl rfl rfl) rfl ?_
    refine w_pure want_none (y_assign (v := .int _ _) rfl rfl) rfl ?_
    refine w_pure want_none (y_assign (v := .int _ _) rfl rfl) rfl ?_
    refine w_nil ?_
    refine q_then (hK41 _ _ ?_)
    refine w_seq (fun K47 hK46 => ?_)
    refine w_region ?_
    refine w_pure want_none (y_loadN (vs := [_, _, _]) Try.isAgg26 Try.sizeOf26 hs45 rfl rfl hbx) rfl ?_
    refine w_call want_none Try.call26 rfl rfl rfl rfl (c26 m _ hm.cons hs45) ?_
    rintro _ w49 ⟨B1, a_B1, c_B1, rfl, hs_B1, hs50⟩
    replace hs50 := (show St _ _ (B1 ++ (_ :: F)) from hs50)
    refine w_pure want_none (y_move (v := .tuple _) rfl rfl) rfl ?_
    refine w_pure want_none (y_extract (v := .slice _ _ _) rfl rfl rfl) rfl ?_
    refine w_pure want_none (y_extract (v := .int _ _) rfl rfl rfl) rfl ?_
    refine w_pure want_none (y_assign (v := .slice _ _ _) rfl rfl) rfl ?_
    refine w_pure want_none (y_assign (v := .int _ _) rfl rfl) rfl ?_
    refine w_nil ?_
    refine q_then (hK46 _ _ ?_)
    refine w_seq (fun K52 hK51 => ?_)
    refine w_seq (fun K54 hK53 => ?_)
    refine w_region ?_
    refine w_pure want_none (y_move (v := .int _ _) rfl rfl) rfl ?_
    refine w_pure want_none (y_neq rfl rfl rfl rfl) rfl ?_
    refine w_pure want_none (y_move (v := .bool _) rfl rfl) rfl ?_
    refine w_split (fun h55 => ?_) (fun h55 => ?_)
    ·
     exfalso
     try simp only [Bool.not_eq_true', Bool.not_eq_false', decide_eq_true_eq, decide_eq_false_iff_not, Int.not_lt, Int.not_le] at h55
     exact h55 hwp
    ·
     try simp only [Bool.not_eq_true', Bool.not_eq_false', decide_eq_true_eq, decide_eq_false_iff_not, Int.not_lt, Int.not_le] at h55
     refine w_pure (want_yes rfl rfl rfl) (y_move (v := .int _ _) rfl rfl) rfl ?_
     refine w_pure (want_yes rfl rfl rfl) (y_eql rfl rfl rfl rfl) rfl ?_
     refine w_pure (want_yes rfl rfl rfl) (y_move (v := .bool _) rfl rfl) rfl ?_
     refine w_split (fun h56 => ?_) (fun h56 => ?_)
     ·
      try simp only [Bool.not_eq_true', Bool.not_eq_false', decide_eq_true_eq, decide_eq_false_iff_not, Int.not_lt, Int.not_le] at h56
      refine w_pure (want_yes rfl rfl rfl) (y_move (v := .int _ _) rfl rfl) rfl ?_
      refine w_pure (want_yes rfl rfl rfl) (y_eql rfl rfl rfl rfl) rfl ?_
      refine w_pure (want_yes rfl rfl rfl) (y_pickT (v := .bool _) rfl rfl rfl rfl) rfl ?_
      refine w_pure (want_yes rfl rfl rfl) (y_move (v := .slice _ _ _) rfl rfl) rfl ?_
      refine w_pure (want_yes rfl rfl rfl) (y_lenS Try.underlying30 rfl rfl) rfl ?_
      refine w_pure (want_yes rfl rfl rfl) (y_eql rfl rfl rfl rfl) rfl ?_
      refine w_pure (want_yes rfl rfl rfl) (y_neB Try.underlying4 rfl rfl rfl rfl) rfl ?_
      refine w_pure want_none (y_pickF (v := .bool _) rfl rfl rfl rfl) rfl ?_
      refine w_nil ?_
      refine q_then (hK53 _ _ ?_)
      refine w_cond rfl rfl (fun h57 => ?_) (fun h57 => ?_)
      ·
       exfalso
       try simp only [Bool.not_eq_true', Bool.not_eq_false', decide_eq_true_eq, decide_eq_false_iff_not, Int.not_lt, Int.not_le] at h57
       have hA : ((moreP m q).2 = 0 ∧ (moreP m q).1 = 0) ↔ ((withoutP m).1.length : Int) = 0 := by rw [heq]; omega
       first
         | exact h57 (by rw [decide_eq_decide]; exact ⟨fun h8 => hA.1 ⟨by assumption, h8⟩, fun h8 => (hA.2 h8).2⟩)
         | exact h57 (decide_eq_false (fun h8 => absurd (hA.2 h8).1 (by assumption))).symm
      ·
       try simp only [Bool.not_eq_true', Bool.not_eq_false', decide_eq_true_eq, decide_eq_false_iff_not, Int.not_lt, Int.not_le] at h57
       refine w_skip ?_
       refine q_then (hK51 _ _ ?_)
       refine w_seq (fun K59 hK58 => ?_)
       skip
       refine w_region ?_
       refine w_pure want_none (y_loadN (vs := [_, _, _]) Try.isAgg26 Try.sizeOf26 hs50.drop rfl rfl hbx) rfl ?_
       refine w_call want_none Try.call48 rfl rfl rfl rfl (c48 m _ hm.cons.app hok  hs50) ?_
       rintro _ w61 ⟨AB, a_AB, c_AB, rfl, hs_AB, hs62⟩
       replace hs62 := (show St _ _ (AB ++ (B1 ++ (_ :: F))) from hs62)
       refine w_pure want_none (y_assign (v := .slice _ _ _) rfl rfl) rfl ?_
       refine w_nil ?_
       refine q_then (hK58 _ _ ?_)
       refine w_seq (fun K64 hK63 => ?_)
       refine w_seq (fun K66 hK65 => ?_)
       refine w_region ?_
       refine w_pure want_none (y_move (v := .int _ _) rfl rfl) rfl ?_
       refine w_pure want_none (y_neq rfl rfl rfl rfl) rfl ?_
       refine w_nil ?_
       refine q_then (hK65 _ _ ?_)
       refine w_cond rfl rfl (fun h67 => ?_) (fun h67 => ?_)
       ·
        try simp only [Bool.not_eq_true', Bool.not_eq_false', decide_eq_true_eq, decide_eq_false_iff_not, Int.not_lt, Int.not_le] at h67
        refine w_seq (fun K69 hK68 => ?_)
        have hb9 := hF.bad (by assumption)
        have hs9 := hb9.2.2
        refine w_draw [] [(0, 0), (1, 0), (2, 0), (3, 0), (4, 0), (5, 0), (6, 0), (7, 1), (8, 1), (9, 0), (12, 0), (10, 2), (11, 2), (13, 2), (14, 0), (15, 0), (16, 0), (17, 2), (18, 0), (19, 0)] Try_mo (by kernel_rfl) hs62 (fun w70 hs71 => ?_)
        refine d_any rfl want_none rfl (fun _ => (y_move (v := .int _ _) rfl rfl)) ?_
        refine d_any rfl want_none rfl (fun _ => (y_eql rfl rfl rfl rfl)) ?_
        refine d_any rfl want_none rfl (fun _ => (y_move (v := .bool _) rfl rfl)) ?_
        refine d_split (fun h72 => ?_) (fun h72 => ?_)
        ·
         try simp only [Bool.not_eq_true', Bool.not_eq_false', decide_eq_true_eq, decide_eq_false_iff_not, Int.not_lt, Int.not_le] at h72
         refine d_any rfl (want_yes rfl rfl rfl) rfl (fun _ => (y_move (v := .int _ _) rfl rfl)) ?_
         refine d_any rfl (want_yes rfl rfl rfl) rfl (fun _ => (y_eql rfl rfl rfl rfl)) ?_
         refine d_any rfl want_none rfl (fun _ => (y_pickT (v := .bool _) rfl rfl rfl rfl)) ?_
         refine d_any rfl want_none rfl (fun _ => (y_move (v := .bool _) rfl rfl)) ?_
         refine d_split (fun h73 => ?_) (fun h73 => ?_)
         ·
          try simp only [Bool.not_eq_true', Bool.not_eq_false', decide_eq_true_eq, decide_eq_false_iff_not, Int.not_lt, Int.not_le] at h73
          refine d_take rfl (want_yes rfl rfl rfl) rfl hs71 (fun _ hq => (y_loadN (vs := [_, _, _]) Try.isAgg26 Try.sizeOf26 hq.drop.drop rfl rfl hbx)) ?_
          refine d_take rfl (want_yes rfl rfl rfl) rfl hs71 (fun _ hq => (y_loadN (vs := [_, _, _]) Try.isAgg26 Try.sizeOf26 hq.drop.drop rfl rfl hbx)) ?_
          refine d_any rfl (want_yes rfl rfl rfl) rfl (fun _ => (y_move (v := .int _ _) rfl rfl)) ?_
          refine d_any rfl (want_yes rfl rfl rfl) rfl (fun _ => (y_move (v := .slice _ _ _) rfl rfl)) ?_
          refine d_eff rfl ?_
          refine w_call (want_yes rfl rfl rfl) Try.call50 rfl rfl rfl rfl (with_con m _ hm.cons.app.app q hq2 (60) (by omega) (fun y hy => by have := hok.room y hy; omega) hlr _ hqe hs71) ?_
          rintro _ w75 ⟨BW, p2, rfl, hm2, hs76⟩
          replace hs76 := (show St _ _ (BW ++ (AB ++ (B1 ++ (_ :: F)))) from hs76)
          refine w_nil ?_
          refine qn ⟨hs76.drop, ?_⟩
          refine d_eff rfl ?_
          refine w_call (want_yes rfl rfl rfl) Try.call37 rfl rfl rfl rfl (c37 (withM m q (60)) _ hm2 (withM_ok hck q (by omega)) hs76) ?_
          rintro _ w78 ⟨BL, a_BL, c_BL, rfl, hs_BL, hs79⟩
          replace hs79 := (show St _ _ (BL ++ (BW ++ (AB ++ (B1 ++ (_ :: F))))) from hs79)
          refine w_nil ?_
          refine qn ⟨hs79.drop.drop, ?_⟩
          refine d_eff rfl ?_
          refine w_call (want_yes rfl rfl rfl) Try.call49 rfl rfl rfl rfl (c49 m _ hm.cons.app.app.app.app hok _ _ (leastL (withM m q (60))) (by simp [leastL, withM, addRoom_len]) hs_BL.top (leastL_in (withM_ok hck q (by omega))) _ _ (othersTo [] m.shops.length) (by omega) hs_AB.top.app.app hoi hs79) ?_
          rintro _ w81 ⟨rfl, hs82⟩
          refine w_nil ?_
          refine qn ⟨hs82.drop.drop, ?_⟩
          refine d_any rfl (want_yes rfl rfl rfl) rfl (fun _ => (y_not rfl rfl)) ?_
          refine d_any rfl want_none rfl (fun _ => (y_pickT (v := .bool _) rfl rfl rfl rfl)) ?_
          refine d_any rfl want_none rfl (fun _ => (y_move (v := .bool _) rfl rfl)) ?_
          refine d_split (fun h83 => ?_) (fun h83 => ?_)
          ·
           try simp only [Bool.not_eq_true', Bool.not_eq_false', decide_eq_true_eq, decide_eq_false_iff_not, Int.not_lt, Int.not_le] at h83
           refine d_eff rfl ?_
           refine w_call (want_yes rfl rfl rfl) Try.call21 rfl rfl rfl rfl (c21 hs82) ?_
           rintro _ w85 ⟨rfl, hs86⟩
           refine w_nil ?_
           refine qn ⟨hs86.drop.drop, ?_⟩
           refine d_any rfl want_none rfl (fun _ => (y_pickT (v := .bool _) rfl rfl rfl rfl)) ?_
           refine d_any rfl want_none rfl (fun _ => (y_assign (v := .bool _) rfl rfl)) ?_
           refine d_nil ?_
           refine q_then (hK68 _ _ ?_)
           refine w_ret ?_
           refine q_then_ret ?_
           refine q_ret (l := [.tmp 4]) (vs := [_]) rfl ⟨⟨rfl, show _ = (.bool _ : Value) from rfl⟩, trivial⟩ ?_
           exact ⟨rfl, hs86.drop.drop.drop.drop.tail⟩
          ·
           exfalso
           try simp only [Bool.not_eq_true', Bool.not_eq_false', decide_eq_true_eq, decide_eq_false_iff_not, Int.not_lt, Int.not_le] at h83
           exact Bool.noConfusion (hs9.symm.trans h83)
         ·
          exfalso
          try simp only [Bool.not_eq_true', Bool.not_eq_false', decide_eq_true_eq, decide_eq_false_iff_not, Int.not_lt, Int.not_le] at h73
          omega
        ·
         exfalso
         try simp only [Bool.not_eq_true', Bool.not_eq_false', decide_eq_true_eq, decide_eq_false_iff_not, Int.not_lt, Int.not_le] at h72
         omega
       ·
        try simp only [Bool.not_eq_true', Bool.not_eq_false', decide_eq_true_eq, decide_eq_false_iff_not, Int.not_lt, Int.not_le] at h67
        refine w_skip ?_
        refine q_then (hK63 _ _ ?_)
        refine w_seq (fun K88 hK87 => ?_)
        have hg0 := hF.good (by assumption)
        have hs9 := hg0.2.2.1
        have hs8 := hg0.2.2.2
        refine w_draw [] [(0, 0), (1, 2), (2, 0), (3, 1), (4, 1), (5, 0), (6, 0), (9, 0), (7, 2), (8, 2), (10, 2), (11, 0), (12, 0), (13, 0), (14, 0), (15, 0), (16, 1), (17, 1), (18, 0), (19, 0), (20, 0), (23, 0), (21, 2), (22, 2), (24, 2), (25, 0), (26, 0), (27, 0), (28, 0), (29, 2), (30, 0), (31, 0)] Try_mo (by kernel_rfl) hs62 (fun w89 hs90 => ?_)
        refine d_any rfl want_none rfl (fun _ => (y_move (v := .int _ _) rfl rfl)) ?_
        refine d_eff rfl ?_
        refine w_call want_none Try.call51 rfl rfl rfl rfl (c51 _ _ _ hs90) ?_
        rintro _ w92 ⟨rfl, hs93⟩
        refine w_nil ?_
        refine qn ⟨hs93, ?_⟩
        refine d_any rfl want_none rfl (fun _ => (y_move (v := .bool _) rfl rfl)) ?_
        refine d_split (fun h94 => ?_) (fun h94 => ?_)
        ·
         try simp only [Bool.not_eq_true', Bool.not_eq_false', decide_eq_true_eq, decide_eq_false_iff_not, Int.not_lt, Int.not_le] at h94
         refine d_take rfl (want_yes rfl rfl rfl) rfl hs93 (fun _ hq => (y_loadN (vs := [_, _, _]) Try.isAgg26 Try.sizeOf26 hq.drop.drop rfl rfl hbx)) ?_
         refine d_take rfl (want_yes rfl rfl rfl) rfl hs93 (fun _ hq => (y_loadN (vs := [_, _, _]) Try.isAgg26 Try.sizeOf26 hq.drop.drop rfl rfl hbx)) ?_
         refine d_any rfl (want_yes rfl rfl rfl) rfl (fun _ => (y_move (v := .int _ _) rfl rfl)) ?_
         refine d_any rfl (want_yes rfl rfl rfl) rfl (fun _ => (y_move (v := .int _ _) rfl rfl)) ?_
         refine d_any rfl (want_yes rfl rfl rfl) rfl (fun _ => (y_move (v := .slice _ _ _) rfl rfl)) ?_
         refine d_eff rfl ?_
         refine w_call (want_yes rfl rfl rfl) Try.call50 rfl rfl rfl rfl (with_con m _ hm.cons.app.app q hq2 ((moreP m q).1) (by omega) (fun y hy => by have := hok.room y hy; omega) hlr _ hqe hs93) ?_
         rintro _ w96 ⟨BW, p2, rfl, hm2, hs97⟩
         replace hs97 := (show St _ _ (BW ++ (AB ++ (B1 ++ (_ :: F)))) from hs97)
         refine w_nil ?_
         refine qn ⟨hs97.drop, ?_⟩
         refine d_eff rfl ?_
         refine w_call (want_yes rfl rfl rfl) Try.call37 rfl rfl rfl rfl (c37 (withM m q ((moreP m q).1)) _ hm2 (withM_ok hck q (by omega)) hs97) ?_
         rintro _ w99 ⟨BL, a_BL, c_BL, rfl, hs_BL, hs100⟩
         replace hs100 := (show St _ _ (BL ++ (BW ++ (AB ++ (B1 ++ (_ :: F))))) from hs100)
         refine w_nil ?_
         refine qn ⟨hs100.drop.drop, ?_⟩
         refine d_eff rfl ?_
         refine w_call (want_yes rfl rfl rfl) Try.call49 rfl rfl rfl rfl (c49 m _ hm.cons.app.app.app.app hok _ _ (leastL (withM m q ((moreP m q).1))) (by simp [leastL, withM, addRoom_len]) hs_BL.top (leastL_in (withM_ok hck q (by omega))) _ _ (othersTo [] m.shops.length) (by omega) hs_AB.top.app.app hoi hs100) ?_
         rintro _ w102 ⟨rfl, hs103⟩
         refine w_nil ?_
         refine qn ⟨hs103.drop.drop, ?_⟩
         refine d_any rfl want_none rfl (fun _ => (y_pickT (v := .bool _) rfl rfl rfl rfl)) ?_
         refine d_any rfl want_none rfl (fun _ => (y_move (v := .bool _) rfl rfl)) ?_
         refine d_split (fun h104 => ?_) (fun h104 => ?_)
         ·
          try simp only [Bool.not_eq_true', Bool.not_eq_false', decide_eq_true_eq, decide_eq_false_iff_not, Int.not_lt, Int.not_le] at h104
          refine d_any rfl (want_yes rfl rfl rfl) rfl (fun _ => (y_move (v := .int _ _) rfl rfl)) ?_
          refine d_any rfl (want_yes rfl rfl rfl) rfl (fun _ => (y_eql rfl rfl rfl rfl)) ?_
          refine d_any rfl (want_yes rfl rfl rfl) rfl (fun _ => (y_move (v := .bool _) rfl rfl)) ?_
          refine d_split (fun h105 => ?_) (fun h105 => ?_)
          ·
           try simp only [Bool.not_eq_true', Bool.not_eq_false', decide_eq_true_eq, decide_eq_false_iff_not, Int.not_lt, Int.not_le] at h105
           refine d_skip1 rfl rfl rfl rfl hs103.drop.drop ?_
           refine d_skip1 rfl rfl rfl rfl hs103.drop.drop ?_
           refine d_skip rfl rfl rfl rfl ?_
           refine d_skip rfl rfl rfl rfl ?_
           refine d_skip rfl rfl rfl rfl ?_
           refine d_skip rfl rfl rfl rfl ?_
           refine d_eff rfl ?_
           refine w_skipop rfl rfl rfl ?_
           refine w_nil ?_
           refine qn ⟨hs103.drop.drop, ?_⟩
           refine d_eff rfl ?_
           refine w_skipop rfl rfl rfl ?_
           refine w_nil ?_
           refine qn ⟨hs103.drop.drop, ?_⟩
           refine d_eff rfl ?_
           refine w_skipop rfl rfl rfl ?_
           refine w_nil ?_
           refine qn ⟨hs103.drop.drop, ?_⟩
           refine d_skip rfl rfl rfl rfl ?_
           refine d_any rfl (want_yes rfl rfl rfl) rfl (fun _ => (y_pickT (v := _) rfl rfl rfl rfl)) ?_
           refine d_any rfl want_none rfl (fun _ => (y_pickT (v := .bool _) rfl rfl rfl rfl)) ?_
           refine d_any rfl want_none rfl (fun _ => (y_move (v := .bool _) rfl rfl)) ?_
           refine d_eff rfl ?_
           refine w_call (want_yes rfl rfl rfl) Try.call21 rfl rfl rfl rfl (c21 hs103) ?_
           rintro _ w107 ⟨rfl, hs108⟩
           refine w_nil ?_
           refine qn ⟨hs108.drop.drop, ?_⟩
           refine d_any rfl want_none rfl (fun _ => (y_pickT (v := .bool _) rfl rfl rfl rfl)) ?_
           refine d_any rfl want_none rfl (fun _ => (y_assign (v := .bool _) rfl rfl)) ?_
           refine d_nil ?_
           refine q_then (hK87 _ _ ?_)
           refine w_ret ?_
           refine q_ret (l := [.tmp 4]) (vs := [_]) rfl ⟨⟨rfl, show _ = (.bool _ : Value) from rfl⟩, trivial⟩ ?_
           exact ⟨rfl, hs108.drop.drop.drop.drop.tail⟩
          ·
           try simp only [Bool.not_eq_true', Bool.not_eq_false', decide_eq_true_eq, decide_eq_false_iff_not, Int.not_lt, Int.not_le] at h105
           refine d_take rfl (want_yes rfl rfl rfl) rfl hs103.drop.drop (fun _ hq => (y_loadN (vs := [_, _, _]) Try.isAgg26 Try.sizeOf26 hq.drop.drop rfl rfl hbx)) ?_
           refine d_take rfl (want_yes rfl rfl rfl) rfl hs103.drop.drop (fun _ hq => (y_loadN (vs := [_, _, _]) Try.isAgg26 Try.sizeOf26 hq.drop.drop rfl rfl hbx)) ?_
           refine d_any rfl (want_yes rfl rfl rfl) rfl (fun _ => (y_move (v := .int _ _) rfl rfl)) ?_
           refine d_any rfl (want_yes rfl rfl rfl) rfl (fun _ => (y_move (v := .int _ _) rfl rfl)) ?_
           refine d_any rfl (want_yes rfl rfl rfl) rfl (fun _ => (y_sub rfl rfl rfl rfl (by omega) (by omega))) ?_
           refine d_any rfl (want_yes rfl rfl rfl) rfl (fun _ => (y_move (v := .slice _ _ _) rfl rfl)) ?_
           refine d_eff rfl ?_
           refine w_call (want_yes rfl rfl rfl) Try.call50 rfl rfl rfl rfl (with_con m _ hm.cons.app.app.app.app q hq2 ((moreP m q).1 - 1) (by omega) (fun y hy => by have := hok.room y hy; omega) hlr _ hqe hs103) ?_
           rintro _ w110 ⟨BW2, p3, rfl, hm3, hs111⟩
           replace hs111 := (show St _ _ (BW2 ++ (BL ++ (BW ++ (AB ++ (B1 ++ (_ :: F)))))) from hs111)
           refine w_nil ?_
           refine qn ⟨hs111.drop.drop.drop, ?_⟩
           refine d_eff rfl ?_
           refine w_call (want_yes rfl rfl rfl) Try.call37 rfl rfl rfl rfl (c37 (withM m q ((moreP m q).1 - 1)) _ hm3 (withM_ok hck q (by omega)) hs111) ?_
           rintro _ w113 ⟨BL2, a_BL2, c_BL2, rfl, hs_BL2, hs114⟩
           replace hs114 := (show St _ _ (BL2 ++ (BW2 ++ (BL ++ (BW ++ (AB ++ (B1 ++ (_ :: F))))))) from hs114)
           refine w_nil ?_
           refine qn ⟨hs114.drop.drop.drop.drop, ?_⟩
           refine d_eff rfl ?_
           refine w_call (want_yes rfl rfl rfl) Try.call49 rfl rfl rfl rfl (c49 m _ hm.cons.app.app.app.app.app.app hok _ _ (leastL (withM m q ((moreP m q).1 - 1))) (by simp [leastL, withM, addRoom_len]) hs_BL2.top (leastL_in (withM_ok hck q (by omega))) _ _ (othersTo [] m.shops.length) (by omega) hs_AB.top.app.app.app.app hoi hs114) ?_
           rintro _ w116 ⟨rfl, hs117⟩
           refine w_nil ?_
           refine qn ⟨hs117.drop.drop.drop.drop, ?_⟩
           refine d_any rfl (want_yes rfl rfl rfl) rfl (fun _ => (y_not rfl rfl)) ?_
           refine d_any rfl (want_yes rfl rfl rfl) rfl (fun _ => (y_pickF (v := .bool _) rfl rfl rfl rfl)) ?_
           refine d_any rfl want_none rfl (fun _ => (y_pickT (v := .bool _) rfl rfl rfl rfl)) ?_
           refine d_any rfl want_none rfl (fun _ => (y_move (v := .bool _) rfl rfl)) ?_
           refine d_split (fun h118 => ?_) (fun h118 => ?_)
           ·
            try simp only [Bool.not_eq_true', Bool.not_eq_false', decide_eq_true_eq, decide_eq_false_iff_not, Int.not_lt, Int.not_le] at h118
            refine d_eff rfl ?_
            refine w_call (want_yes rfl rfl rfl) Try.call21 rfl rfl rfl rfl (c21 hs117) ?_
            rintro _ w120 ⟨rfl, hs121⟩
            refine w_nil ?_
            refine qn ⟨hs121.drop.drop.drop.drop, ?_⟩
            refine d_any rfl want_none rfl (fun _ => (y_pickT (v := .bool _) rfl rfl rfl rfl)) ?_
            refine d_any rfl want_none rfl (fun _ => (y_assign (v := .bool _) rfl rfl)) ?_
            refine d_nil ?_
            refine q_then (hK87 _ _ ?_)
            refine w_ret ?_
            refine q_ret (l := [.tmp 4]) (vs := [_]) rfl ⟨⟨rfl, show _ = (.bool _ : Value) from rfl⟩, trivial⟩ ?_
            exact ⟨rfl, hs121.drop.drop.drop.drop.drop.drop.tail⟩
           ·
            exfalso
            try simp only [Bool.not_eq_true', Bool.not_eq_false', decide_eq_true_eq, decide_eq_false_iff_not, Int.not_lt, Int.not_le] at h118
            exact Bool.noConfusion ((hs8 (by assumption)).symm.trans h118)
         ·
          exfalso
          try simp only [Bool.not_eq_true', Bool.not_eq_false', decide_eq_true_eq, decide_eq_false_iff_not, Int.not_lt, Int.not_le] at h104
          exact Bool.noConfusion (hs9.symm.trans h104)
        ·
         exfalso
         try simp only [Bool.not_eq_true', Bool.not_eq_false', decide_eq_true_eq, decide_eq_false_iff_not, Int.not_lt, Int.not_le] at h94
         omega
     ·
      try simp only [Bool.not_eq_true', Bool.not_eq_false', decide_eq_true_eq, decide_eq_false_iff_not, Int.not_lt, Int.not_le] at h56
      refine w_skipop rfl rfl rfl ?_
      refine w_skipop rfl rfl rfl ?_
      refine w_pure (want_yes rfl rfl rfl) (y_pickF (v := _) rfl rfl rfl rfl) rfl ?_
      refine w_pure (want_yes rfl rfl rfl) (y_move (v := .slice _ _ _) rfl rfl) rfl ?_
      refine w_pure (want_yes rfl rfl rfl) (y_lenS Try.underlying30 rfl rfl) rfl ?_
      refine w_pure (want_yes rfl rfl rfl) (y_eql rfl rfl rfl rfl) rfl ?_
      refine w_pure (want_yes rfl rfl rfl) (y_neB Try.underlying4 rfl rfl rfl rfl) rfl ?_
      refine w_pure want_none (y_pickF (v := .bool _) rfl rfl rfl rfl) rfl ?_
      refine w_nil ?_
      refine q_then (hK53 _ _ ?_)
      refine w_cond rfl rfl (fun h122 => ?_) (fun h122 => ?_)
      ·
       exfalso
       try simp only [Bool.not_eq_true', Bool.not_eq_false', decide_eq_true_eq, decide_eq_false_iff_not, Int.not_lt, Int.not_le] at h122
       have hA : ((moreP m q).2 = 0 ∧ (moreP m q).1 = 0) ↔ ((withoutP m).1.length : Int) = 0 := by rw [heq]; omega
       first
         | exact h122 (by rw [decide_eq_decide]; exact ⟨fun h8 => hA.1 ⟨by assumption, h8⟩, fun h8 => (hA.2 h8).2⟩)
         | exact h122 (decide_eq_false (fun h8 => absurd (hA.2 h8).1 (by assumption))).symm
      ·
       try simp only [Bool.not_eq_true', Bool.not_eq_false', decide_eq_true_eq, decide_eq_false_iff_not, Int.not_lt, Int.not_le] at h122
       refine w_skip ?_
       refine q_then (hK51 _ _ ?_)
       refine w_seq (fun K124 hK123 => ?_)
       skip
       refine w_region ?_
       refine w_pure want_none (y_loadN (vs := [_, _, _]) Try.isAgg26 Try.sizeOf26 hs50.drop rfl rfl hbx) rfl ?_
       refine w_call want_none Try.call48 rfl rfl rfl rfl (c48 m _ hm.cons.app hok  hs50) ?_
       rintro _ w126 ⟨AB, a_AB, c_AB, rfl, hs_AB, hs127⟩
       replace hs127 := (show St _ _ (AB ++ (B1 ++ (_ :: F))) from hs127)
       refine w_pure want_none (y_assign (v := .slice _ _ _) rfl rfl) rfl ?_
       refine w_nil ?_
       refine q_then (hK123 _ _ ?_)
       refine w_seq (fun K129 hK128 => ?_)
       refine w_seq (fun K131 hK130 => ?_)
       refine w_region ?_
       refine w_pure want_none (y_move (v := .int _ _) rfl rfl) rfl ?_
       refine w_pure want_none (y_neq rfl rfl rfl rfl) rfl ?_
       refine w_nil ?_
       refine q_then (hK130 _ _ ?_)
       refine w_cond rfl rfl (fun h132 => ?_) (fun h132 => ?_)
       ·
        try simp only [Bool.not_eq_true', Bool.not_eq_false', decide_eq_true_eq, decide_eq_false_iff_not, Int.not_lt, Int.not_le] at h132
        refine w_seq (fun K134 hK133 => ?_)
        have hb9 := hF.bad (by assumption)
        have hs9 := hb9.2.2
        refine w_draw [] [(0, 0), (1, 0), (2, 0), (3, 0), (4, 0), (5, 0), (6, 0), (7, 1), (8, 1), (9, 0), (12, 0), (10, 2), (11, 2), (13, 2), (14, 0), (15, 0), (16, 0), (17, 2), (18, 0), (19, 0)] Try_mo (by kernel_rfl) hs127 (fun w135 hs136 => ?_)
        refine d_any rfl want_none rfl (fun _ => (y_move (v := .int _ _) rfl rfl)) ?_
        refine d_any rfl want_none rfl (fun _ => (y_eql rfl rfl rfl rfl)) ?_
        refine d_any rfl want_none rfl (fun _ => (y_move (v := .bool _) rfl rfl)) ?_
        refine d_split (fun h137 => ?_) (fun h137 => ?_)
        ·
         try simp only [Bool.not_eq_true', Bool.not_eq_false', decide_eq_true_eq, decide_eq_false_iff_not, Int.not_lt, Int.not_le] at h137
         refine d_any rfl (want_yes rfl rfl rfl) rfl (fun _ => (y_move (v := .int _ _) rfl rfl)) ?_
         refine d_any rfl (want_yes rfl rfl rfl) rfl (fun _ => (y_eql rfl rfl rfl rfl)) ?_
         refine d_any rfl want_none rfl (fun _ => (y_pickT (v := .bool _) rfl rfl rfl rfl)) ?_
         refine d_any rfl want_none rfl (fun _ => (y_move (v := .bool _) rfl rfl)) ?_
         refine d_split (fun h138 => ?_) (fun h138 => ?_)
         ·
          try simp only [Bool.not_eq_true', Bool.not_eq_false', decide_eq_true_eq, decide_eq_false_iff_not, Int.not_lt, Int.not_le] at h138
          refine d_take rfl (want_yes rfl rfl rfl) rfl hs136 (fun _ hq => (y_loadN (vs := [_, _, _]) Try.isAgg26 Try.sizeOf26 hq.drop.drop rfl rfl hbx)) ?_
          refine d_take rfl (want_yes rfl rfl rfl) rfl hs136 (fun _ hq => (y_loadN (vs := [_, _, _]) Try.isAgg26 Try.sizeOf26 hq.drop.drop rfl rfl hbx)) ?_
          refine d_any rfl (want_yes rfl rfl rfl) rfl (fun _ => (y_move (v := .int _ _) rfl rfl)) ?_
          refine d_any rfl (want_yes rfl rfl rfl) rfl (fun _ => (y_move (v := .slice _ _ _) rfl rfl)) ?_
          refine d_eff rfl ?_
          refine w_call (want_yes rfl rfl rfl) Try.call50 rfl rfl rfl rfl (with_con m _ hm.cons.app.app q hq2 (60) (by omega) (fun y hy => by have := hok.room y hy; omega) hlr _ hqe hs136) ?_
          rintro _ w140 ⟨BW, p2, rfl, hm2, hs141⟩
          replace hs141 := (show St _ _ (BW ++ (AB ++ (B1 ++ (_ :: F)))) from hs141)
          refine w_nil ?_
          refine qn ⟨hs141.drop, ?_⟩
          refine d_eff rfl ?_
          refine w_call (want_yes rfl rfl rfl) Try.call37 rfl rfl rfl rfl (c37 (withM m q (60)) _ hm2 (withM_ok hck q (by omega)) hs141) ?_
          rintro _ w143 ⟨BL, a_BL, c_BL, rfl, hs_BL, hs144⟩
          replace hs144 := (show St _ _ (BL ++ (BW ++ (AB ++ (B1 ++ (_ :: F))))) from hs144)
          refine w_nil ?_
          refine qn ⟨hs144.drop.drop, ?_⟩
          refine d_eff rfl ?_
          refine w_call (want_yes rfl rfl rfl) Try.call49 rfl rfl rfl rfl (c49 m _ hm.cons.app.app.app.app hok _ _ (leastL (withM m q (60))) (by simp [leastL, withM, addRoom_len]) hs_BL.top (leastL_in (withM_ok hck q (by omega))) _ _ (othersTo [] m.shops.length) (by omega) hs_AB.top.app.app hoi hs144) ?_
          rintro _ w146 ⟨rfl, hs147⟩
          refine w_nil ?_
          refine qn ⟨hs147.drop.drop, ?_⟩
          refine d_any rfl (want_yes rfl rfl rfl) rfl (fun _ => (y_not rfl rfl)) ?_
          refine d_any rfl want_none rfl (fun _ => (y_pickT (v := .bool _) rfl rfl rfl rfl)) ?_
          refine d_any rfl want_none rfl (fun _ => (y_move (v := .bool _) rfl rfl)) ?_
          refine d_split (fun h148 => ?_) (fun h148 => ?_)
          ·
           try simp only [Bool.not_eq_true', Bool.not_eq_false', decide_eq_true_eq, decide_eq_false_iff_not, Int.not_lt, Int.not_le] at h148
           refine d_eff rfl ?_
           refine w_call (want_yes rfl rfl rfl) Try.call21 rfl rfl rfl rfl (c21 hs147) ?_
           rintro _ w150 ⟨rfl, hs151⟩
           refine w_nil ?_
           refine qn ⟨hs151.drop.drop, ?_⟩
           refine d_any rfl want_none rfl (fun _ => (y_pickT (v := .bool _) rfl rfl rfl rfl)) ?_
           refine d_any rfl want_none rfl (fun _ => (y_assign (v := .bool _) rfl rfl)) ?_
           refine d_nil ?_
           refine q_then (hK133 _ _ ?_)
           refine w_ret ?_
           refine q_then_ret ?_
           refine q_ret (l := [.tmp 4]) (vs := [_]) rfl ⟨⟨rfl, show _ = (.bool _ : Value) from rfl⟩, trivial⟩ ?_
           exact ⟨rfl, hs151.drop.drop.drop.drop.tail⟩
          ·
           exfalso
           try simp only [Bool.not_eq_true', Bool.not_eq_false', decide_eq_true_eq, decide_eq_false_iff_not, Int.not_lt, Int.not_le] at h148
           exact Bool.noConfusion (hs9.symm.trans h148)
         ·
          exfalso
          try simp only [Bool.not_eq_true', Bool.not_eq_false', decide_eq_true_eq, decide_eq_false_iff_not, Int.not_lt, Int.not_le] at h138
          omega
        ·
         exfalso
         try simp only [Bool.not_eq_true', Bool.not_eq_false', decide_eq_true_eq, decide_eq_false_iff_not, Int.not_lt, Int.not_le] at h137
         omega
       ·
        try simp only [Bool.not_eq_true', Bool.not_eq_false', decide_eq_true_eq, decide_eq_false_iff_not, Int.not_lt, Int.not_le] at h132
        refine w_skip ?_
        refine q_then (hK128 _ _ ?_)
        refine w_seq (fun K153 hK152 => ?_)
        have hg0 := hF.good (by assumption)
        have hs9 := hg0.2.2.1
        have hs8 := hg0.2.2.2
        refine w_draw [] [(0, 0), (1, 2), (2, 0), (3, 1), (4, 1), (5, 0), (6, 0), (9, 0), (7, 2), (8, 2), (10, 2), (11, 0), (12, 0), (13, 0), (14, 0), (15, 0), (16, 1), (17, 1), (18, 0), (19, 0), (20, 0), (23, 0), (21, 2), (22, 2), (24, 2), (25, 0), (26, 0), (27, 0), (28, 0), (29, 2), (30, 0), (31, 0)] Try_mo (by kernel_rfl) hs127 (fun w154 hs155 => ?_)
        refine d_any rfl want_none rfl (fun _ => (y_move (v := .int _ _) rfl rfl)) ?_
        refine d_eff rfl ?_
        refine w_call want_none Try.call51 rfl rfl rfl rfl (c51 _ _ _ hs155) ?_
        rintro _ w157 ⟨rfl, hs158⟩
        refine w_nil ?_
        refine qn ⟨hs158, ?_⟩
        refine d_any rfl want_none rfl (fun _ => (y_move (v := .bool _) rfl rfl)) ?_
        refine d_split (fun h159 => ?_) (fun h159 => ?_)
        ·
         try simp only [Bool.not_eq_true', Bool.not_eq_false', decide_eq_true_eq, decide_eq_false_iff_not, Int.not_lt, Int.not_le] at h159
         refine d_take rfl (want_yes rfl rfl rfl) rfl hs158 (fun _ hq => (y_loadN (vs := [_, _, _]) Try.isAgg26 Try.sizeOf26 hq.drop.drop rfl rfl hbx)) ?_
         refine d_take rfl (want_yes rfl rfl rfl) rfl hs158 (fun _ hq => (y_loadN (vs := [_, _, _]) Try.isAgg26 Try.sizeOf26 hq.drop.drop rfl rfl hbx)) ?_
         refine d_any rfl (want_yes rfl rfl rfl) rfl (fun _ => (y_move (v := .int _ _) rfl rfl)) ?_
         refine d_any rfl (want_yes rfl rfl rfl) rfl (fun _ => (y_move (v := .int _ _) rfl rfl)) ?_
         refine d_any rfl (want_yes rfl rfl rfl) rfl (fun _ => (y_move (v := .slice _ _ _) rfl rfl)) ?_
         refine d_eff rfl ?_
         refine w_call (want_yes rfl rfl rfl) Try.call50 rfl rfl rfl rfl (with_con m _ hm.cons.app.app q hq2 ((moreP m q).1) (by omega) (fun y hy => by have := hok.room y hy; omega) hlr _ hqe hs158) ?_
         rintro _ w161 ⟨BW, p2, rfl, hm2, hs162⟩
         replace hs162 := (show St _ _ (BW ++ (AB ++ (B1 ++ (_ :: F)))) from hs162)
         refine w_nil ?_
         refine qn ⟨hs162.drop, ?_⟩
         refine d_eff rfl ?_
         refine w_call (want_yes rfl rfl rfl) Try.call37 rfl rfl rfl rfl (c37 (withM m q ((moreP m q).1)) _ hm2 (withM_ok hck q (by omega)) hs162) ?_
         rintro _ w164 ⟨BL, a_BL, c_BL, rfl, hs_BL, hs165⟩
         replace hs165 := (show St _ _ (BL ++ (BW ++ (AB ++ (B1 ++ (_ :: F))))) from hs165)
         refine w_nil ?_
         refine qn ⟨hs165.drop.drop, ?_⟩
         refine d_eff rfl ?_
         refine w_call (want_yes rfl rfl rfl) Try.call49 rfl rfl rfl rfl (c49 m _ hm.cons.app.app.app.app hok _ _ (leastL (withM m q ((moreP m q).1))) (by simp [leastL, withM, addRoom_len]) hs_BL.top (leastL_in (withM_ok hck q (by omega))) _ _ (othersTo [] m.shops.length) (by omega) hs_AB.top.app.app hoi hs165) ?_
         rintro _ w167 ⟨rfl, hs168⟩
         refine w_nil ?_
         refine qn ⟨hs168.drop.drop, ?_⟩
         refine d_any rfl want_none rfl (fun _ => (y_pickT (v := .bool _) rfl rfl rfl rfl)) ?_
         refine d_any rfl want_none rfl (fun _ => (y_move (v := .bool _) rfl rfl)) ?_
         refine d_split (fun h169 => ?_) (fun h169 => ?_)
         ·
          try simp only [Bool.not_eq_true', Bool.not_eq_false', decide_eq_true_eq, decide_eq_false_iff_not, Int.not_lt, Int.not_le] at h169
          refine d_any rfl (want_yes rfl rfl rfl) rfl (fun _ => (y_move (v := .int _ _) rfl rfl)) ?_
          refine d_any rfl (want_yes rfl rfl rfl) rfl (fun _ => (y_eql rfl rfl rfl rfl)) ?_
          refine d_any rfl (want_yes rfl rfl rfl) rfl (fun _ => (y_move (v := .bool _) rfl rfl)) ?_
          refine d_split (fun h170 => ?_) (fun h170 => ?_)
          ·
           try simp only [Bool.not_eq_true', Bool.not_eq_false', decide_eq_true_eq, decide_eq_false_iff_not, Int.not_lt, Int.not_le] at h170
           refine d_skip1 rfl rfl rfl rfl hs168.drop.drop ?_
           refine d_skip1 rfl rfl rfl rfl hs168.drop.drop ?_
           refine d_skip rfl rfl rfl rfl ?_
           refine d_skip rfl rfl rfl rfl ?_
           refine d_skip rfl rfl rfl rfl ?_
           refine d_skip rfl rfl rfl rfl ?_
           refine d_eff rfl ?_
           refine w_skipop rfl rfl rfl ?_
           refine w_nil ?_
           refine qn ⟨hs168.drop.drop, ?_⟩
           refine d_eff rfl ?_
           refine w_skipop rfl rfl rfl ?_
           refine w_nil ?_
           refine qn ⟨hs168.drop.drop, ?_⟩
           refine d_eff rfl ?_
           refine w_skipop rfl rfl rfl ?_
           refine w_nil ?_
           refine qn ⟨hs168.drop.drop, ?_⟩
           refine d_skip rfl rfl rfl rfl ?_
           refine d_any rfl (want_yes rfl rfl rfl) rfl (fun _ => (y_pickT (v := _) rfl rfl rfl rfl)) ?_
           refine d_any rfl want_none rfl (fun _ => (y_pickT (v := .bool _) rfl rfl rfl rfl)) ?_
           refine d_any rfl want_none rfl (fun _ => (y_move (v := .bool _) rfl rfl)) ?_
           refine d_eff rfl ?_
           refine w_call (want_yes rfl rfl rfl) Try.call21 rfl rfl rfl rfl (c21 hs168) ?_
           rintro _ w172 ⟨rfl, hs173⟩
           refine w_nil ?_
           refine qn ⟨hs173.drop.drop, ?_⟩
           refine d_any rfl want_none rfl (fun _ => (y_pickT (v := .bool _) rfl rfl rfl rfl)) ?_
           refine d_any rfl want_none rfl (fun _ => (y_assign (v := .bool _) rfl rfl)) ?_
           refine d_nil ?_
           refine q_then (hK152 _ _ ?_)
           refine w_ret ?_
           refine q_ret (l := [.tmp 4]) (vs := [_]) rfl ⟨⟨rfl, show _ = (.bool _ : Value) from rfl⟩, trivial⟩ ?_
           exact ⟨rfl, hs173.drop.drop.drop.drop.tail⟩
          ·
           try simp only [Bool.not_eq_true', Bool.not_eq_false', decide_eq_true_eq, decide_eq_false_iff_not, Int.not_lt, Int.not_le] at h170
           refine d_take rfl (want_yes rfl rfl rfl) rfl hs168.drop.drop (fun _ hq => (y_loadN (vs := [_, _, _]) Try.isAgg26 Try.sizeOf26 hq.drop.drop rfl rfl hbx)) ?_
           refine d_take rfl (want_yes rfl rfl rfl) rfl hs168.drop.drop (fun _ hq => (y_loadN (vs := [_, _, _]) Try.isAgg26 Try.sizeOf26 hq.drop.drop rfl rfl hbx)) ?_
           refine d_any rfl (want_yes rfl rfl rfl) rfl (fun _ => (y_move (v := .int _ _) rfl rfl)) ?_
           refine d_any rfl (want_yes rfl rfl rfl) rfl (fun _ => (y_move (v := .int _ _) rfl rfl)) ?_
           refine d_any rfl (want_yes rfl rfl rfl) rfl (fun _ => (y_sub rfl rfl rfl rfl (by omega) (by omega))) ?_
           refine d_any rfl (want_yes rfl rfl rfl) rfl (fun _ => (y_move (v := .slice _ _ _) rfl rfl)) ?_
           refine d_eff rfl ?_
           refine w_call (want_yes rfl rfl rfl) Try.call50 rfl rfl rfl rfl (with_con m _ hm.cons.app.app.app.app q hq2 ((moreP m q).1 - 1) (by omega) (fun y hy => by have := hok.room y hy; omega) hlr _ hqe hs168) ?_
           rintro _ w175 ⟨BW2, p3, rfl, hm3, hs176⟩
           replace hs176 := (show St _ _ (BW2 ++ (BL ++ (BW ++ (AB ++ (B1 ++ (_ :: F)))))) from hs176)
           refine w_nil ?_
           refine qn ⟨hs176.drop.drop.drop, ?_⟩
           refine d_eff rfl ?_
           refine w_call (want_yes rfl rfl rfl) Try.call37 rfl rfl rfl rfl (c37 (withM m q ((moreP m q).1 - 1)) _ hm3 (withM_ok hck q (by omega)) hs176) ?_
           rintro _ w178 ⟨BL2, a_BL2, c_BL2, rfl, hs_BL2, hs179⟩
           replace hs179 := (show St _ _ (BL2 ++ (BW2 ++ (BL ++ (BW ++ (AB ++ (B1 ++ (_ :: F))))))) from hs179)
           refine w_nil ?_
           refine qn ⟨hs179.drop.drop.drop.drop, ?_⟩
           refine d_eff rfl ?_
           refine w_call (want_yes rfl rfl rfl) Try.call49 rfl rfl rfl rfl (c49 m _ hm.cons.app.app.app.app.app.app hok _ _ (leastL (withM m q ((moreP m q).1 - 1))) (by simp [leastL, withM, addRoom_len]) hs_BL2.top (leastL_in (withM_ok hck q (by omega))) _ _ (othersTo [] m.shops.length) (by omega) hs_AB.top.app.app.app.app hoi hs179) ?_
           rintro _ w181 ⟨rfl, hs182⟩
           refine w_nil ?_
           refine qn ⟨hs182.drop.drop.drop.drop, ?_⟩
           refine d_any rfl (want_yes rfl rfl rfl) rfl (fun _ => (y_not rfl rfl)) ?_
           refine d_any rfl (want_yes rfl rfl rfl) rfl (fun _ => (y_pickF (v := .bool _) rfl rfl rfl rfl)) ?_
           refine d_any rfl want_none rfl (fun _ => (y_pickT (v := .bool _) rfl rfl rfl rfl)) ?_
           refine d_any rfl want_none rfl (fun _ => (y_move (v := .bool _) rfl rfl)) ?_
           refine d_split (fun h183 => ?_) (fun h183 => ?_)
           ·
            try simp only [Bool.not_eq_true', Bool.not_eq_false', decide_eq_true_eq, decide_eq_false_iff_not, Int.not_lt, Int.not_le] at h183
            refine d_eff rfl ?_
            refine w_call (want_yes rfl rfl rfl) Try.call21 rfl rfl rfl rfl (c21 hs182) ?_
            rintro _ w185 ⟨rfl, hs186⟩
            refine w_nil ?_
            refine qn ⟨hs186.drop.drop.drop.drop, ?_⟩
            refine d_any rfl want_none rfl (fun _ => (y_pickT (v := .bool _) rfl rfl rfl rfl)) ?_
            refine d_any rfl want_none rfl (fun _ => (y_assign (v := .bool _) rfl rfl)) ?_
            refine d_nil ?_
            refine q_then (hK152 _ _ ?_)
            refine w_ret ?_
            refine q_ret (l := [.tmp 4]) (vs := [_]) rfl ⟨⟨rfl, show _ = (.bool _ : Value) from rfl⟩, trivial⟩ ?_
            exact ⟨rfl, hs186.drop.drop.drop.drop.drop.drop.tail⟩
           ·
            exfalso
            try simp only [Bool.not_eq_true', Bool.not_eq_false', decide_eq_true_eq, decide_eq_false_iff_not, Int.not_lt, Int.not_le] at h183
            exact Bool.noConfusion ((hs8 (by assumption)).symm.trans h183)
         ·
          exfalso
          try simp only [Bool.not_eq_true', Bool.not_eq_false', decide_eq_true_eq, decide_eq_false_iff_not, Int.not_lt, Int.not_le] at h169
          exact Bool.noConfusion (hs9.symm.trans h169)
        ·
         exfalso
         try simp only [Bool.not_eq_true', Bool.not_eq_false', decide_eq_true_eq, decide_eq_false_iff_not, Int.not_lt, Int.not_le] at h159
         omega

end Go.Proofs
